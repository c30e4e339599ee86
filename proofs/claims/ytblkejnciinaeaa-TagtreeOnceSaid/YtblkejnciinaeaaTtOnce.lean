/- Tagtree: L_TagtreeOnce answers true. -/
import Derived.Test.YtblkejnciinaeaaTtQ
import Derived.Test.YtblkejnciinaeaaSh11
set_option linter.unusedVariables false
set_option linter.unusedSimpArgs false
namespace Go.Proofs.Ytblkejnciinaeaa.Sh
open Go.Proofs.Ytblkejnciinaeaa.FW Go.IntWalk
theorem once_l0 (k : Nat) {N p : Nat} {q : Option Addr} {c : Nat} {l : List Lv} {a b : Nat} (G : Geo a b l) {ops : List Op4} (hlen : ops.length ≤ 100) {qo : Option Addr} (co : Nat) (hb : ops.flatMap opc = [] ∨ Below N qo) :
    ∀ (m n i : Nat), m < n → ops.length = i + m → ∀ (H : Heap) (g : Nat → Nat → Nd), N ≤ H.length → Gok g → Tn N H p q c l false false g → Shows H qo (ops.flatMap opc) →
    ∃ H' g', (∀ (R : Type) (KE : Option Addr → Nat → Nat → Option Addr → Heap → Option R), L_TagtreeOnce_l0 k KE n qo ops.length co (some ⟨p, 0, none⟩) qo ops.length co ((ops.length : Nat) : Int) (i : Int) H = KE qo ops.length co (some ⟨p, 0, none⟩) H') ∧ Gok g' ∧ Tn N H' p q c l false false g' ∧ Old N H H' := by
  intro m
  induction m with
  | zero =>
    intro n i hn hi H g hN hg T hS
    obtain ⟨n, rfl⟩ : ∃ n', n = n' + 1 := ⟨n - 1, by omega⟩
    refine ⟨H, g, fun R KE => ?_, hg, T, .refl _ _⟩
    unfold L_TagtreeOnce_l0 L_TagtreeOnce_l0_b
    exact go_f (decide_eq_false (by omega)) rfl
  | succ m ih =>
    intro n i hn hi H g hN hg T hS
    obtain ⟨n, rfl⟩ : ∃ n', n = n' + 1 := ⟨n - 1, by omega⟩
    obtain ⟨o, ho⟩ : ∃ o, ops[i]? = some o := ⟨_, List.getElem?_eq_getElem (by omega)⟩
    obtain ⟨H2, e0, o2, O2, _⟩ := op_box hS ho
    obtain ⟨m0, m1, m2, m3⟩ := op_cells O2
    have T2 := T.old o2 (Nat.le_refl _)
    have l2 := o2.1
    obtain ⟨H3, g3, e3, hg3, T3, o3⟩ : ∃ H3 g3, (∀ (R : Type) (KN : Option Addr → Nat → Nat → Option Addr → Option Addr → Nat → Nat → Int → Int → Heap → Option R), L_TagtreeOnce_p1 k qo ops.length co (some ⟨p, 0, none⟩) qo ops.length co ((ops.length : Nat) : Int) (i : Int) H KN = KN qo ops.length co (some ⟨p, 0, none⟩) qo ops.length co ((ops.length : Nat) : Int) (i : Int) H3) ∧ Gok g3 ∧ Tn N H3 p q c l false false g3 ∧ Old N H H3 := by
      by_cases hk : o.1 = 0
      · obtain ⟨H3, e3, T3, c3⟩ := Set_eq (k := k) T2 G o.2.1 o.2.2.1 o.2.2.2
        refine ⟨H3, _, fun R KN => ?_, setT_ok hg, T3, (o2.mono hN).trans (tc_below c3 T.lows.2 (by omega))⟩
        unfold L_TagtreeOnce_p1 L_TagtreeOnce_p1_b
        refine (e0 _ _).trans (go_fad (go_i m0 (go_t (by rw [hk]; rfl) (go_fad (go_i m1 (go_fad (go_i m2 (go_fad (go_i m3 ?_)))))))))
        exact e3 _ _
      · refine ⟨H2, g, fun R KN => ?_, hg, T2, o2.mono hN⟩
        unfold L_TagtreeOnce_p1 L_TagtreeOnce_p1_b
        exact (e0 _ _).trans (go_fad (go_i m0 (go_f (by rw [beq_eq_false_iff_ne]; exact hk) rfl)))
    obtain ⟨H4, g4, e4, hg4, T4, o4⟩ := ih n (i + 1) (by omega) (by omega) H3 g3 (by have := o3.1; omega) hg3 T3 (hS.old o3 hb)
    refine ⟨H4, g4, fun R KE => ?_, hg4, T4, o3.trans o4⟩
    unfold L_TagtreeOnce_l0 L_TagtreeOnce_l0_b
    refine go_t (decide_eq_true (by omega)) ((e3 _ _).trans ?_)
    try dsimp only
    rw [w64 (n := (i : Int) + 1) (by omega) (by omega)]
    exact e4 R KE
theorem once_l2 {k : Nat} (hk : 70000 < k) {N M p pw : Nat} {q : Option Addr} {c : Nat} {l : List Lv} {a b : Nat} (G : Geo a b l) {ops : List Op4} (hlen : ops.length ≤ 100) (hun : uns ops ≤ 65536) {qo : Option Addr} (co : Nat) (hb : ops.flatMap opc = [] ∨ Below N qo) (hD : Off p q l pw) (hpw : N ≤ pw) :
    ∀ (m n i : Nat), m < n → ops.length = i + m → ∀ (H : Heap) (e : Bool) (g : Nat → Nat → Nd) (q2 : Option Addr) (s : List Int), N ≤ H.length → M ≤ H.length → Gok g → Tn N H p q c l e false g → Wr M H pw q2 s → (∀ a, q2 = some a → Off p q l a.block ∧ N ≤ a.block) → s.length ≤ 20 * i + uns (ops.take i) → Shows H qo (ops.flatMap opc) →
    ∃ H', (∀ (R : Type) (KE : Heap → Option R) (KR : Bool → Heap → Option R), L_TagtreeOnce_l2 k KE KR n (some ⟨p, 0, none⟩) (some ⟨pw, 0, none⟩) qo ops.length co ((ops.length : Nat) : Int) (i : Int) H = KE H') := by
  intro m
  induction m with
  | zero =>
    intro n i hn hi H e g q2 s hN hM hg T W hq hs hS
    obtain ⟨n, rfl⟩ : ∃ n', n = n' + 1 := ⟨n - 1, by omega⟩
    refine ⟨H, fun R KE KR => ?_⟩
    unfold L_TagtreeOnce_l2 L_TagtreeOnce_l2_b
    exact go_f (decide_eq_false (by omega)) rfl
  | succ m ih =>
    intro n i hn hi H e g q2 s hN hM hg T W hq hs hS
    obtain ⟨n, rfl⟩ : ∃ n', n = n' + 1 := ⟨n - 1, by omega⟩
    obtain ⟨o, ho⟩ : ∃ o, ops[i]? = some o := ⟨_, List.getElem?_eq_getElem (by omega)⟩
    obtain ⟨H1, e0, o1, O1, l1⟩ := op_box hS ho
    obtain ⟨m0, m1, m2, m3⟩ := op_cells O1
    have T1 := T.old o1 (Nat.le_refl _)
    have W1 := W.same (o1.2 _ W.lt) (fun a ha => o1.2 _ (W.qlt a ha))
    have hu1 := uns_take ho
    have hu2 := uns_le ops i
    have hu3 := uns_le ops (i + 1)
    have hlows := T.lows
    have hoff : Off p q l H.length := T.fresh (Nat.le_refl _)
    have hql := W.qlt
    have hWl := W.lt
    obtain ⟨H3, e3', g3, q3, s3, e3, hg3, T3, W3, o3, hq3, hs3⟩ : ∃ H3 e3 g3 q3 s3, (∀ (R : Type) (KN : Option Addr → Option Addr → Option Addr → Nat → Nat → Int → Int → Heap → Option R) (KR : Bool → Heap → Option R), L_TagtreeOnce_p3 k (some ⟨p, 0, none⟩) (some ⟨pw, 0, none⟩) qo ops.length co ((ops.length : Nat) : Int) (i : Int) H KN KR = KN (some ⟨p, 0, none⟩) (some ⟨pw, 0, none⟩) qo ops.length co ((ops.length : Nat) : Int) (i : Int) H3) ∧ Gok g3 ∧ Tn N H3 p q c l e3 false g3 ∧ Wr M H3 pw q3 s3 ∧ Old N H H3 ∧ (∀ a, q3 = some a → Off p q l a.block ∧ N ≤ a.block) ∧ s3.length ≤ 20 * (i + 1) + uns (ops.take (i + 1)) := by
      by_cases hk1 : o.1 = 1
      case neg =>
        refine ⟨H1, e, g, q2, s, fun R KN KR => ?_, hg, T1, W1, o1.mono hN, hq, by omega⟩
        unfold L_TagtreeOnce_p3 L_TagtreeOnce_p3_b L_TagtreeOnce_p4 L_TagtreeOnce_p4_b
        exact (e0 _ _).trans (go_fad (go_i m0 (go_t (by rw [bne_iff_ne]; exact hk1) rfl)))
      have hlen17 := G.len
      obtain ⟨q4, H4, e4, T4, W4, C4, hq4⟩ := Encode_eq hk T1 (by omega) G hg W1 (by omega) hD (fun a ha => (hq a ha).1) o.2.1 o.2.2.1 o.2.2.2 (by omega)
      have hun2 := encR_un (a := a) (b := b) (L := l.length) (e := e) (d := false) (g := g) hk1 hlen17
      obtain ⟨b4, nq4⟩ := C4.below hlows.1 hlows.2 hpw (fun a ha => (hq a ha).2) (by omega)
      have hg4 := encR_ok (a := a) (b := b) (L := l.length) (e := e) (d := false) hg o.2.1 o.2.2.1 o.2.2.2
      have hs4 : (s ++ (encR a b l.length e false g o.2.1 o.2.2.1 o.2.2.2).2.2.2).length ≤ 20 * (i + 1) + uns (ops.take (i + 1)) := by rw [List.length_append]; omega
      have l4 := C4.len
      by_cases hE : (encR a b l.length e false g o.2.1 o.2.2.1 o.2.2.2).1 = 0
      case neg =>
        refine ⟨H4, _, _, q4, _, fun R KN KR => ?_, hg4, T4, W4, (o1.mono hN).trans b4, fun a ha => ⟨hq4 a ha, nq4 a ha⟩, hs4⟩
        unfold L_TagtreeOnce_p3 L_TagtreeOnce_p3_b L_TagtreeOnce_p4 L_TagtreeOnce_p4_b
        refine (e0 _ _).trans (go_fad (go_i m0 (go_f (by rw [hk1]; rfl) (go_fad (go_i m1 (go_fad (go_i m2 (go_fad (go_i m3 ((e4 _ _).trans ?_))))))))))
        exact go_t (by rw [bne_iff_ne]; exact hE) rfl
      obtain ⟨_, _, ht0, ht1, _⟩ := encR_zero hE
      obtain ⟨hw2, hh0, hh1⟩ := half_le ht0 ht1
      have O4 : Owns H4 H.length (opc o) 0 := O1.same (C4.old _ (by omega) (by omega) (fun a ha => by have := hql a ha; omega) hoff.1 hoff.2.2)
      obtain ⟨k0, k1, k2, k3⟩ := op_cells O4
      have len4 := len_eq W4
      have hoff4 : ∀ a, q4 = some a → a.block ≠ H.length := fun a ha => by
        rcases C4.new with h | h
        · subst h; have := hql a ha; omega
        · have := h a ha; omega
      obtain ⟨q5, H5, e5, T5, W5, C5, hq5⟩ := Encode_eq hk T4 (by omega) G hg4 W4 (by omega) hD hq4 o.2.1 o.2.2.1 o.2.2.2 (by omega)
      have er5 := encR_again (a := a) (b := b) (L := l.length) (e := e) (d := false) (g := g) (x := o.2.1) (y := o.2.2.1) (t := o.2.2.2) (t2 := o.2.2.2) hg hE ht0 (Int.le_refl _)
      rw [er5] at e5 T5 W5
      have l5 := C5.len
      obtain ⟨b5, nq5⟩ := C5.below hlows.1 hlows.2 hpw nq4 (by omega)
      have O5 : Owns H5 H.length (opc o) 0 := O4.same (C5.old _ (by omega) (by omega) hoff4 hoff.1 hoff.2.2)
      obtain ⟨j0, j1, j2, j3⟩ := op_cells O5
      simp only [List.append_nil] at W5
      obtain ⟨q6, H6, e6, T6, W6, C6, hq6⟩ := Encode_eq hk T5 (by omega) G hg4 W5 (by omega) hD hq5 o.2.1 o.2.2.1 (o.2.2.2 / 2) (by omega)
      have er6 := encR_again (a := a) (b := b) (L := l.length) (e := e) (d := false) (g := g) (x := o.2.1) (y := o.2.2.1) (t := o.2.2.2) (t2 := o.2.2.2 / 2) hg hE hh0 hh1
      have he1 : (encR a b l.length e false g o.2.1 o.2.2.1 o.2.2.2).2.1 = true := by obtain ⟨_, _, _, _, er⟩ := encR_zero hE; rw [er]
      rw [he1] at er6
      rw [er6] at e6 T6 W6
      simp only [List.append_nil] at W6
      obtain ⟨b6, nq6⟩ := C6.below hlows.1 hlows.2 hpw nq5 (by omega)
      have len6 := len_eq W6
      refine ⟨H6, _, _, q6, _, fun R KN KR => ?_, hg4, T6, W6, (o1.mono hN).trans (b4.trans (b5.trans b6)), fun a ha => ⟨hq6 a ha, nq6 a ha⟩, hs4⟩
      unfold L_TagtreeOnce_p3 L_TagtreeOnce_p3_b L_TagtreeOnce_p4 L_TagtreeOnce_p4_b
      refine (e0 _ _).trans (go_fad (go_i m0 (go_f (by rw [hk1]; rfl) (go_fad (go_i m1 (go_fad (go_i m2 (go_fad (go_i m3 ((e4 _ _).trans ?_))))))))))
      refine go_f (by rw [hE]; rfl) ?_
      refine (len4 _ _).trans (go_fad (go_i k1 (go_fad (go_i k2 (go_fad (go_i k3 ((e5 _ _).trans (go_f rfl ?_))))))))
      refine go_fad (go_i j1 (go_fad (go_i j2 (go_fad (go_i j3 ?_)))))
      rw [hw2]
      refine (e6 _ _).trans (go_f rfl ((len6 _ _).trans ?_))
      exact go_ne rfl
    obtain ⟨H4, e4⟩ := ih n (i + 1) (by omega) (by omega) H3 e3' g3 q3 s3 (by have := o3.1; omega) (by have := o3.1; omega) hg3 T3 W3 hq3 hs3 (hS.old o3 hb)
    refine ⟨H4, fun R KE KR => ?_⟩
    unfold L_TagtreeOnce_l2 L_TagtreeOnce_l2_b
    refine go_t (decide_eq_true (by omega)) ((e3 _ _ _).trans ?_)
    try dsimp only
    rw [w64 (n := (i : Int) + 1) (by omega) (by omega)]
    exact e4 R KE KR
theorem once_in (H : Heap) (us : List Value) (h : AllLies H [(.int .i64, false), (.int .i64, false), (.slc dOp, false)] us) : L_TagtreeOnce_c Bool 9223372036854777000 us H asB = some true := by
  obtain ⟨k, hk⟩ : ∃ k, k = 9223372036854777000 := ⟨_, rfl⟩
  rw [← hk]
  have hk1 : 1100000 < k := by omega
  clear hk
  obtain ⟨w, vs, rfl, _, h⟩ := lies_int h
  obtain ⟨hh, vs, rfl, _, h⟩ := lies_int h
  obtain ⟨q, c, es, vs, rfl, _, _, hsh, hS, h⟩ := lies_slc h
  obtain rfl := lies_nil h
  obtain ⟨ops, hl, hfl⟩ := ops_of es hsh
  rw [hfl] at hS
  rw [← hl]
  show L_TagtreeOnce k w hh q ops.length c H (fun t H => asB (.bool t) H) = some true
  obtain ⟨H1, e1, o1⟩ := small_eq (k := k) (by omega) c hS w hh
  unfold L_TagtreeOnce L_TagtreeOnce_b
  refine (e1 _ _).trans ?_
  cases hsm : smallB w hh ops
  · rfl
  obtain ⟨s1, s2, s3, s4⟩ := small_of hsm
  refine go_f rfl ?_
  have hS1 := hS.keep o1
  rcases New_eq (k := k) (by omega) H1 w hh with ⟨hv, e2⟩ | ⟨hv, a, b, H2, q2, c2, l, rfl, rfl, a1, b1, am, bm, ab, e2, T, hll, o2⟩
  · exact (e2 _ _).trans (go_t (by simpa using hv) rfl)
  have G := geo_of a1 b1 am bm ab hll
  refine (e2 _ _).trans (go_f rfl ?_)
  have hb := shows_below hS1
  have hS2 := hS1.old o2 hb
  obtain ⟨H3, g3, e3, hg3, T3, o3⟩ := once_l0 k G s3 c hb ops.length k 0 (by omega) (by omega) H2 (fun _ _ => nz) o2.1 (fun _ _ => Int.le_refl 0) T hS2
  simp only [Int.natCast_zero] at e3
  refine (e3 _ _).trans ?_
  obtain ⟨H4, e4, W4, o4, n4⟩ := nWriter_eq (N := H3.length) (Nat.le_refl H3.length)
  have T4 := T3.old o4 (Nat.le_refl _)
  have l3 := o3.1
  have l2 := o2.1
  have hS3 := hS2.old o3 hb
  have hS4 := hS3.keep o4
  obtain ⟨H5, e5⟩ := once_l2 (k := k) (by omega) G s3 s4 c hb (T3.fresh (Nat.le_refl _)) (by omega) ops.length k 0 (by omega) (by omega) H4 false g3 none [] (by omega) (by omega) hg3 T4 W4 (fun a ha => by cases ha) (by simp) hS4
  simp only [Int.natCast_zero] at e5
  refine (e4 _ _).trans ((e5 _ _ _).trans ?_)
  rfl
end Go.Proofs.Ytblkejnciinaeaa.Sh
