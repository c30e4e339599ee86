/- TtWrites. -/
import Derived.Test.YtblkejnciinaeaaWrTt
import Derived.Test.YtblkejnciinaeaaWrBt
/- Tagtree: L_TagtreeWrites answers true. -/
set_option linter.unusedVariables false
set_option linter.unusedSimpArgs false
namespace Go.Proofs.Ytblkejnciinaeaa.Sh
open Go.Proofs.Ytblkejnciinaeaa.FW Go.IntWalk
/-- A call, laid into a box that is frozen. -/
theorem frz_box {H H1 : Heap} {o : Op4} (o1 : Old H.length H H1) (O1 : Owns H1 H.length (opc o) 0) : ∃ Hf, (∀ (R : Type) (K : Heap → Option R), hfrz H1 (some ⟨H.length, 0, none⟩) K = K Hf) ∧ (∀ i, hcell Hf H.length i = (opc o)[i]?) ∧ (∀ o s, isRo Hf (some ⟨H.length, o, s⟩) = true) ∧ Old H.length H Hf := by
  obtain ⟨Hf, e, c, r, b, l⟩ := frz_own (o := 0) (s := none) O1
  exact ⟨Hf, e, c, r, o1.trans (b.old (Nat.le_refl _) o1.1)⟩
theorem writes_l {k : Nat} (hk : 70000 < k) {N p : Nat} {q0 : Option Addr} {c : Nat} {l : List Lv} {a b pw : Nat} {p' bn nn cap z pu : Nat} (G : Geo a b l) (RGg : RG a b l.length) (hnn : nn = base a b l.length) {ops : List Op4} (hlen : ops.length ≤ 100) (hun : uns ops ≤ 65536) {qo : Option Addr} (co : Nat) (hb : ops.flatMap opc = [] ∨ Below N qo) :
    ∀ (m n i : Nat), m < n → ops.length = i + m → ∀ (H : Heap) (e : Bool) (g : Nat → Nat → Nd) (F : Nat → Nd) (qw qu : Option Addr) (s : List Int), Bth N p q0 c l a b pw p' bn nn cap z pu H e false g F qw qu → Wr N H pw qw s → Ur N H pu qu s → s.length ≤ 20 * i + uns (ops.take i) → Shows H qo (ops.flatMap opc) →
    ∃ H' qw' qu' s', (∀ (R : Type) (KE : Option Addr → Option Addr → Heap → Option R) (KR : Bool → Heap → Option R), L_TagtreeWrites_l0 k KE KR n (some ⟨p, 0, none⟩) (some ⟨p', 0, none⟩) (some ⟨pw, 0, none⟩) (some ⟨pu, 0, none⟩) qo ops.length co ((ops.length : Nat) : Int) (i : Int) H = KE (some ⟨pw, 0, none⟩) (some ⟨pu, 0, none⟩) H') ∧ Wr N H' pw qw' s' ∧ Ur N H' pu qu' s' ∧ s'.length < 800000 := by
  intro m
  induction m with
  | zero =>
    intro n i hn hi H e g F qw qu s B W U hs hS
    obtain ⟨n, rfl⟩ : ∃ n', n = n' + 1 := ⟨n - 1, by omega⟩
    have := uns_le ops i
    refine ⟨H, qw, qu, s, fun R KE KR => ?_, W, U, by omega⟩
    unfold L_TagtreeWrites_l0 L_TagtreeWrites_l0_b
    exact go_f (decide_eq_false (by omega)) rfl
  | succ m ih =>
    intro n i hn hi H e g F qw qu s B W U hs hS
    obtain ⟨n, rfl⟩ : ∃ n', n = n' + 1 := ⟨n - 1, by omega⟩
    obtain ⟨o, ho⟩ : ∃ o, ops[i]? = some o := ⟨_, List.getElem?_eq_getElem (by omega)⟩
    obtain ⟨H1, e0, o1, O1, l1⟩ := op_box hS ho
    obtain ⟨m0, m1, m2, m3⟩ := op_cells O1
    have hu1 := uns_take ho
    have hu3 := uns_le ops (i + 1)
    have hl17 := G.len
    obtain ⟨H3, e3', g3, F3, qw3, qu3, s3, e3, B3, W3, U3, hs3, o3⟩ : ∃ H3 e3 g3 F3 qw3 qu3 s3, (∀ (R : Type) (KN : Option Addr → Option Addr → Option Addr → Option Addr → Option Addr → Nat → Nat → Int → Int → Heap → Option R) (KR : Bool → Heap → Option R), L_TagtreeWrites_p1 k (some ⟨p, 0, none⟩) (some ⟨p', 0, none⟩) (some ⟨pw, 0, none⟩) (some ⟨pu, 0, none⟩) qo ops.length co ((ops.length : Nat) : Int) (i : Int) H KN KR = KN (some ⟨p, 0, none⟩) (some ⟨p', 0, none⟩) (some ⟨pw, 0, none⟩) (some ⟨pu, 0, none⟩) qo ops.length co ((ops.length : Nat) : Int) (i : Int) H3) ∧ Bth N p q0 c l a b pw p' bn nn cap z pu H3 e3 false g3 F3 qw3 qu3 ∧ Wr N H3 pw qw3 s3 ∧ Ur N H3 pu qu3 s3 ∧ s3.length ≤ 20 * (i + 1) + uns (ops.take (i + 1)) ∧ Old N H H3 := by
      by_cases k0 : o.1 = 0
      · obtain ⟨Hf, ef, cf, rf, of⟩ := frz_box o1 O1
        have c1 : hcell Hf H.length 1 = some (.int .i64 o.2.1) := cf 1
        have c2 : hcell Hf H.length 2 = some (.int .i64 o.2.2.1) := cf 2
        have c3 : hcell Hf H.length 3 = some (.int .i64 o.2.2.2) := cf 3
        obtain ⟨Ha, Hb, F', ea, eb, B2, o2, w1, w2, u1, u2⟩ := Bth.set (k := k) G hnn (B.keep of) o.2.1 o.2.2.1 o.2.2.2
        refine ⟨Hb, e, _, F', qw, qu, s, fun R KN KR => ?_, B2, W.same (w1.trans (of.2 _ W.lt)) (fun a ha => (w2 a ha).trans (of.2 _ (W.qlt a ha))), U.same (u1.trans (of.2 _ U.lt)) (fun a ha => (u2 a ha).trans (of.2 _ (U.qlt a ha))), by omega, (of.mono B.N0).trans o2⟩
        unfold L_TagtreeWrites_p1 L_TagtreeWrites_p1_b
        refine (e0 _ _).trans (go_fad (go_i m0 (go_t (by rw [k0]; rfl) ((ef _ _).trans ?_))))
        refine go_fad (go_i c1 (go_fad (go_i c2 (go_fad (go_i c3 ((ea _ _).trans ?_))))))
        refine go_fad (go_t (rf _ _) (go_i c1 (go_fad (go_t (rf _ _) (go_i c2 (go_fad (go_t (rf _ _) (go_i c3 ((eb _ _).trans ?_)))))))))
        exact go_ne rfl
      by_cases k1 : o.1 = 1
      · obtain ⟨Hf, ef, cf, rf, of⟩ := frz_box o1 O1
        have c1 : hcell Hf H.length 1 = some (.int .i64 o.2.1) := cf 1
        have c2 : hcell Hf H.length 2 = some (.int .i64 o.2.2.1) := cf 2
        have c3 : hcell Hf H.length 3 = some (.int .i64 o.2.2.2) := cf 3
        have Bf := B.keep of
        have Wf := W.same (of.2 _ W.lt) (fun a ha => of.2 _ (W.qlt a ha))
        have Uf := U.same (of.2 _ U.lt) (fun a ha => of.2 _ (U.qlt a ha))
        obtain ⟨qa, Ha, ea, Ta, Wa, Ca, _⟩ := Encode_eq hk Bf.T Bf.N0 G Bf.ok Wf Bf.N0 Bf.offw (fun a ha => (Bf.offq a ha).1) o.2.1 o.2.2.1 o.2.2.2 (by omega)
        have hun2 := encR_un (a := a) (b := b) (L := l.length) (e := e) (d := false) (g := g) k1 hl17
        have la := Ca.len
        obtain ⟨s1, s2, s3, s4⟩ := Bf.stepA (e' := e) (d' := false) (g' := g) Ca (fun a ha => Wa.qlt a ha)
        have Ra := Bf.R.same (s1 _ (.inl rfl)) (s1 _ (.inr (.inl rfl)))
        have Ua := Uf.same (s1 _ (.inr (.inr (.inl rfl)))) (fun a ha => s1 _ (.inr (.inr (.inr ⟨a, ha, rfl⟩))))
        obtain ⟨qb, Hb, F', eb, Ub, Rb, relb, Cb⟩ := rEncode_eq hk RGg hnn Bf.ok Ra Bf.rel Ua (by have := Bf.N0; omega) (by omega) Bf.pu1 Bf.pu2 Bf.quo Bf.vb o.2.1 o.2.2.1 o.2.2.2
        obtain ⟨t1, t2, t3, t4, t5⟩ := Bth.stepB Ta (fun a ha => (s2 a ha).2.2) (by have := Bf.pwl; omega) (by have := Bf.N0; omega) s3 Cb (fun a ha => Ub.qlt a ha)
        have Wb := Wa.same t2 t3
        have lb := Cb.len
        have len1 := len_eq Wb
        have len2 := uLen_eq k Ub
        have bnl := (s3 bn (.inr (.inl rfl))).2.2.2.1
        have pl' := (s3 p' (.inl rfl)).2.2.2.1
        refine ⟨Hb, _, _, F', qa, qb, _, fun R KN KR => ?_, ⟨t1, encR_ok Bf.ok _ _ _, encR_vb Bf.vb, Rb, relb, Bf.offw, fun a ha => by have := s2 a ha; exact ⟨this.1, this.2.1, by omega⟩, t4, Bf.pu1, Bf.pu2, fun a ha => ?_, Bf.pwn, by have := Bf.pwl; omega, by have := Bf.N0; omega⟩, Wb, Ub, by rw [List.length_append]; omega, (of.mono B.N0).trans (s4.trans t5)⟩
        · unfold L_TagtreeWrites_p1 L_TagtreeWrites_p1_b
          refine (e0 _ _).trans (go_fad (go_i m0 (go_f (by rw [k1]; rfl) (go_t (by rw [k1]; rfl) ((ef _ _).trans ?_)))))
          refine go_fad (go_i c1 (go_fad (go_i c2 (go_fad (go_i c3 ((ea _ _).trans ?_))))))
          refine go_fad (go_t (rf _ _) (go_i c1 (go_fad (go_t (rf _ _) (go_i c2 (go_fad (go_t (rf _ _) (go_i c3 ((eb _ _).trans ?_)))))))))
          exact go_ne ((len1 _ _).trans ((len2 _ _).trans (go_ne rfl)))
        · rcases Cb.new with h | h
          · subst h; exact Bf.quo a ha
          · have := h a ha; omega
      by_cases k2 : o.1 = 2
      · have B1 := B.keep o1
        obtain ⟨H2, e2, o2⟩ := Value_eq (k := k) B1.T G o.2.1 o.2.2.1
        have B2 := B1.keep o2
        obtain ⟨j0, j1, j2, j3⟩ := op_cells (O1.old o2 O1.lt)
        have e4 := rValue_eq (k := k) B2.R hnn B2.rel G.a1 G.b1 G.ab G.pos o.2.1 o.2.2.1
        have W1 := W.same (o1.2 _ W.lt) (fun a ha => o1.2 _ (W.qlt a ha))
        have U1 := U.same (o1.2 _ U.lt) (fun a ha => o1.2 _ (U.qlt a ha))
        refine ⟨H2, e, g, F, qw, qu, s, fun R KN KR => ?_, B2, W1.same (o2.2 _ W1.lt) (fun a ha => o2.2 _ (W1.qlt a ha)), U1.same (o2.2 _ U1.lt) (fun a ha => o2.2 _ (U1.qlt a ha)), by omega, (o1.mono B.N0).trans (o2.mono (by have := B1.N0; omega))⟩
        unfold L_TagtreeWrites_p1 L_TagtreeWrites_p1_b
        refine (e0 _ _).trans (go_fad (go_i m0 (go_f (by rw [k2]; rfl) (go_f (by rw [k2]; rfl) (go_t (by rw [k2]; rfl) ?_)))))
        refine go_fad (go_i m1 (go_fad (go_i m2 ((e2 _ _).trans (go_fad (go_i j1 (go_fad (go_i j2 ((e4 _ _).trans ?_)))))))))
        exact go_ne (go_f (by rw [beq_self_eq_true]; rfl) rfl)
      refine ⟨H1, e, g, F, qw, qu, s, fun R KN KR => ?_, B.keep o1, W.same (o1.2 _ W.lt) (fun a ha => o1.2 _ (W.qlt a ha)), U.same (o1.2 _ U.lt) (fun a ha => o1.2 _ (U.qlt a ha)), by omega, o1.mono B.N0⟩
      unfold L_TagtreeWrites_p1 L_TagtreeWrites_p1_b
      exact (e0 _ _).trans (go_fad (go_i m0 (go_f (by rw [beq_eq_false_iff_ne]; exact k0) (go_f (by rw [beq_eq_false_iff_ne]; exact k1) (go_f (by rw [beq_eq_false_iff_ne]; exact k2) rfl)))))
    obtain ⟨H4, qw4, qu4, s4, e4, W4, U4, hs4⟩ := ih n (i + 1) (by omega) (by omega) H3 e3' g3 F3 qw3 qu3 s3 B3 W3 U3 hs3 (hS.old o3 hb)
    refine ⟨H4, qw4, qu4, s4, fun R KE KR => ?_, W4, U4, hs4⟩
    unfold L_TagtreeWrites_l0 L_TagtreeWrites_l0_b
    refine go_t (decide_eq_true (by omega)) ((e3 _ _ _).trans ?_)
    try dsimp only
    rw [w64 (n := (i : Int) + 1) (by omega) (by omega)]
    exact e4 R KE KR
/-- Without trees. -/
theorem writes_nil (k : Nat) {N pw pu : Nat} {ops : List Op4} (hlen : ops.length ≤ 100) {qo : Option Addr} (co : Nat) :
    ∀ (m n i : Nat), m < n → ops.length = i + m → ∀ (H : Heap), Wr N H pw none [] → Ur N H pu none [] → Shows H qo (ops.flatMap opc) →
    ∃ H', (∀ (R : Type) (KE : Option Addr → Option Addr → Heap → Option R) (KR : Bool → Heap → Option R), L_TagtreeWrites_l0 k KE KR n none none (some ⟨pw, 0, none⟩) (some ⟨pu, 0, none⟩) qo ops.length co ((ops.length : Nat) : Int) (i : Int) H = KE (some ⟨pw, 0, none⟩) (some ⟨pu, 0, none⟩) H') ∧ Wr N H' pw none [] ∧ Ur N H' pu none [] := by
  intro m
  induction m with
  | zero =>
    intro n i hn hi H W U hS
    obtain ⟨n, rfl⟩ : ∃ n', n = n' + 1 := ⟨n - 1, by omega⟩
    refine ⟨H, fun R KE KR => ?_, W, U⟩
    unfold L_TagtreeWrites_l0 L_TagtreeWrites_l0_b
    exact go_f (decide_eq_false (by omega)) rfl
  | succ m ih =>
    intro n i hn hi H W U hS
    obtain ⟨n, rfl⟩ : ∃ n', n = n' + 1 := ⟨n - 1, by omega⟩
    obtain ⟨o, ho⟩ : ∃ o, ops[i]? = some o := ⟨_, List.getElem?_eq_getElem (by omega)⟩
    obtain ⟨H1, e0, o1, O1, l1⟩ := op_box hS ho
    obtain ⟨m0, m1, m2, m3⟩ := op_cells O1
    obtain ⟨H3, e3, o3⟩ : ∃ H3, (∀ (R : Type) (KN : Option Addr → Option Addr → Option Addr → Option Addr → Option Addr → Nat → Nat → Int → Int → Heap → Option R) (KR : Bool → Heap → Option R), L_TagtreeWrites_p1 k none none (some ⟨pw, 0, none⟩) (some ⟨pu, 0, none⟩) qo ops.length co ((ops.length : Nat) : Int) (i : Int) H KN KR = KN none none (some ⟨pw, 0, none⟩) (some ⟨pu, 0, none⟩) qo ops.length co ((ops.length : Nat) : Int) (i : Int) H3) ∧ Old H.length H H3 := by
      by_cases k0 : o.1 = 0
      · obtain ⟨Hf, ef, cf, rf, of⟩ := frz_box o1 O1
        have c1 : hcell Hf H.length 1 = some (.int .i64 o.2.1) := cf 1
        have c2 : hcell Hf H.length 2 = some (.int .i64 o.2.2.1) := cf 2
        have c3 : hcell Hf H.length 3 = some (.int .i64 o.2.2.2) := cf 3
        have es : ∀ (R : Type) (K : Int → Heap → Option R), tagtree_Tree_Set k none o.2.1 o.2.2.1 o.2.2.2 Hf K = K 6 Hf := fun R K => rfl
        have er : ∀ (R : Type) (K : Int → Heap → Option R), R10_Tree_Set k none o.2.1 o.2.2.1 o.2.2.2 Hf K = K 6 Hf := fun R K => rfl
        refine ⟨Hf, fun R KN KR => ?_, of⟩
        unfold L_TagtreeWrites_p1 L_TagtreeWrites_p1_b
        refine (e0 _ _).trans (go_fad (go_i m0 (go_t (by rw [k0]; rfl) ((ef _ _).trans ?_))))
        refine go_fad (go_i c1 (go_fad (go_i c2 (go_fad (go_i c3 ((es _ _).trans ?_))))))
        refine go_fad (go_t (rf _ _) (go_i c1 (go_fad (go_t (rf _ _) (go_i c2 (go_fad (go_t (rf _ _) (go_i c3 ((er _ _).trans ?_)))))))))
        exact go_ne rfl
      by_cases k1 : o.1 = 1
      · obtain ⟨Hf, ef, cf, rf, of⟩ := frz_box o1 O1
        have c1 : hcell Hf H.length 1 = some (.int .i64 o.2.1) := cf 1
        have c2 : hcell Hf H.length 2 = some (.int .i64 o.2.2.1) := cf 2
        have c3 : hcell Hf H.length 3 = some (.int .i64 o.2.2.2) := cf 3
        obtain ⟨Hg, hHg⟩ : ∃ Hg, Hg = Hf ++ [some (⟨[.pointer (some ⟨pw, 0, none⟩)], false, 0⟩ : Blk)] := ⟨_, rfl⟩
        have og : Old Hf.length Hf Hg := hHg ▸ Old.app _ _
        have es : ∀ (R : Type) (K : Int → Heap → Option R), tagtree_Tree_Encode k none (some ⟨pw, 0, none⟩) o.2.1 o.2.2.1 o.2.2.2 Hf K = K 6 Hg := fun R K => by rw [hHg]; rfl
        have er : ∀ (R : Type) (K : Int → Heap → Option R), R10_Tree_Encode k none (some ⟨pu, 0, none⟩) o.2.1 o.2.2.1 o.2.2.2 Hg K = K 6 Hg := fun R K => rfl
        have o2 := of.trans (og.mono of.1)
        have len1 := len_eq (W.same (o2.2 _ W.lt) (fun a ha => by cases ha))
        have len2 := uLen_eq k (U.same (o2.2 _ U.lt) (fun a ha => by cases ha))
        refine ⟨Hg, fun R KN KR => ?_, o2⟩
        unfold L_TagtreeWrites_p1 L_TagtreeWrites_p1_b
        refine (e0 _ _).trans (go_fad (go_i m0 (go_f (by rw [k1]; rfl) (go_t (by rw [k1]; rfl) ((ef _ _).trans ?_)))))
        refine go_fad (go_i c1 (go_fad (go_i c2 (go_fad (go_i c3 ((es _ _).trans ?_))))))
        refine go_fad (go_t (rf _ _) (go_i c1 (go_fad (go_t (rf _ _) (go_i c2 (go_fad (go_t (rf _ _) (go_i c3 ((er _ _).trans ?_)))))))))
        exact go_ne ((len1 _ _).trans ((len2 _ _).trans (go_ne rfl)))
      by_cases k2 : o.1 = 2
      · have es : ∀ (R : Type) (K : Int → Bool → Heap → Option R), tagtree_Tree_Value k none o.2.1 o.2.2.1 H1 K = K 0 false H1 := fun R K => rfl
        have er : ∀ (R : Type) (K : Int → Bool → Option R), R10_Tree_Value k none o.2.1 o.2.2.1 H1 K = K 0 false := fun R K => rfl
        refine ⟨H1, fun R KN KR => ?_, o1⟩
        unfold L_TagtreeWrites_p1 L_TagtreeWrites_p1_b
        refine (e0 _ _).trans (go_fad (go_i m0 (go_f (by rw [k2]; rfl) (go_f (by rw [k2]; rfl) (go_t (by rw [k2]; rfl) ?_)))))
        refine go_fad (go_i m1 (go_fad (go_i m2 ((es _ _).trans (go_fad (go_i m1 (go_fad (go_i m2 ((er _ _).trans ?_)))))))))
        exact go_ne rfl
      refine ⟨H1, fun R KN KR => ?_, o1⟩
      unfold L_TagtreeWrites_p1 L_TagtreeWrites_p1_b
      exact (e0 _ _).trans (go_fad (go_i m0 (go_f (by rw [beq_eq_false_iff_ne]; exact k0) (go_f (by rw [beq_eq_false_iff_ne]; exact k1) (go_f (by rw [beq_eq_false_iff_ne]; exact k2) rfl)))))
    obtain ⟨H4, e4, W4, U4⟩ := ih n (i + 1) (by omega) (by omega) H3 (W.same (o3.2 _ W.lt) (fun a ha => by cases ha)) (U.same (o3.2 _ U.lt) (fun a ha => by cases ha)) (hS.keep o3)
    refine ⟨H4, fun R KE KR => ?_, W4, U4⟩
    unfold L_TagtreeWrites_l0 L_TagtreeWrites_l0_b
    refine go_t (decide_eq_true (by omega)) ((e3 _ _ _).trans ?_)
    try dsimp only
    rw [w64 (n := (i : Int) + 1) (by omega) (by omega)]
    exact e4 R KE KR
/-- The end: the bytes. -/
theorem writes_end {k : Nat} (hk : 1100000 < k) {N pw pu : Nat} {qw qu : Option Addr} {s : List Int} {H : Heap} (W : Wr N H pw qw s) (U : Ur N H pu qu s) (hs : s.length < 800000) : (bitio_Writer_Bytes k (some ⟨pw, 0, none⟩) H fun q137 l138 c139 H140 => R09_Writer_Bytes k (some ⟨pu, 0, none⟩) H140 fun q141 l142 c143 H144 => R09_SameBytes q137 l138 c139 q141 l142 c143 H144 fun t145 => bif t145 then (L_exampleHoldsq fun t146 => asB (.bool t146) H144) else asB (.bool false) H144) = some true := by
  obtain ⟨fb, pre, t, H1, zz, d1, F1, ht, e1, O1, o1⟩ := bytes_eq k W (by omega)
  obtain ⟨q2, c2, H2, e2, S2, o2⟩ := uBytes_eq hk (U.same (o1.2 _ U.lt) (fun a ha => o1.2 _ (U.qlt a ha))) W.b01 (by omega) d1 F1 ht
  refine (e1 _ _).trans ((e2 _ _).trans ((same_self _ _ (own_shows (O1.old o2 O1.lt)) S2 _ _).trans ?_))
  rfl
theorem writes_in (H : Heap) (us : List Value) (h : AllLies H [(.int .i64, false), (.int .i64, false), (.slc dOp, false)] us) : L_TagtreeWrites_c Bool 9223372036854777000 us H asB = some true := by
  obtain ⟨k, hk⟩ : ∃ k, k = 9223372036854777000 := ⟨_, rfl⟩
  rw [← hk]
  have hk1 : 1100000 < k := by omega
  clear hk
  obtain ⟨w, vs, rfl, _, h⟩ := lies_int h
  obtain ⟨hh, vs, rfl, _, h⟩ := lies_int h
  obtain ⟨q, c, es, vs, rfl, _, _, hsh, hS, h⟩ := lies_slc h
  obtain rfl := lies_nil h
  obtain ⟨ops, hl, hfl⟩ := ops_of es hsh
  rw [hfl] at hS
  rw [← hl]
  show L_TagtreeWrites k w hh q ops.length c H (fun t H => asB (.bool t) H) = some true
  obtain ⟨H1, e1, o1⟩ := small_eq (k := k) (by omega) c hS w hh
  unfold L_TagtreeWrites L_TagtreeWrites_b
  refine (e1 _ _).trans ?_
  cases hsm : smallB w hh ops
  · rfl
  obtain ⟨s1, s2, s3, s4⟩ := small_of hsm
  refine go_f rfl ?_
  have hS1 := hS.keep o1
  have hb := shows_below hS1
  rcases New_eq (k := k) (by omega) H1 w hh with ⟨hv, e2⟩ | ⟨hv, a, b, H2, q2, c2, l, hwa, hhb, a1, b1, am, bm, ab, e2, T, hll, o2⟩
  · rcases rNew_eq (k := k) (by omega) H1 w hh with ⟨_, e3⟩ | ⟨hv', _⟩
    · obtain ⟨H4, e4, W4, o4, n4⟩ := nWriter_eq (N := H1.length) (Nat.le_refl H1.length)
      obtain ⟨H5, e5, U5, o5, n5⟩ := nUr_eq (N := H1.length) (H := H4) (by have := o4.1; omega)
      obtain ⟨H6, e6, W6, U6⟩ := writes_nil k s3 c ops.length k 0 (by omega) (by omega) H5 (W4.same (o5.2 _ W4.lt) (fun a ha => by cases ha)) U5 ((hS1.keep o4).keep o5)
      simp only [Int.natCast_zero] at e6
      refine (e2 _ _).trans ((e3 _ _).trans (go_ne ((e4 _ _).trans ((e5 _ _).trans ((e6 _ _ _).trans ?_)))))
      exact writes_end hk1 W6 U6 (by simp)
    · exact (hv hv').elim
  · rcases rNew_eq (k := k) (by omega) H2 w hh with ⟨hv', _⟩ | ⟨_, hr⟩
    · exact (hv' hv).elim
    · obtain ⟨H3, e3, R3, o3, n3⟩ := hr a b hwa hhb
      have G := geo_of a1 b1 am bm ab hll
      obtain ⟨glast, gbase⟩ := geo_last G hll
      have htl := tot_le 16 a b a1 b1 ab
      have RGg : RG a b l.length := ⟨a1, b1, ab, am, bm, G.pos, G.len, G.wh, by rw [gbase]; omega, glast⟩
      obtain ⟨H4, e4, W4, o4, n4⟩ := nWriter_eq (N := H1.length) (H := H3) (by have := o2.1; have := o3.1; omega)
      obtain ⟨H5, e5, U5, o5, n5⟩ := nUr_eq (N := H1.length) (H := H4) (by have := o2.1; have := o3.1; have := o4.1; omega)
      have l2 := o2.1
      have l3 := o3.1
      have T3 := T.old o3 (Nat.le_refl _)
      have T4 := T3.old o4 (Nat.le_refl _)
      have T5 := T4.old o5 (Nat.le_refl _)
      have R5' := (R3.keep o4).keep o5
      have R5 : Rt H1.length H5 (H2.length + 1) H2.length (a * b + tot 16 a b) (a * b + tot 16 a b) 0 a b false false (fun _ => nz) := ⟨R5'.o, R5'.n, R5'.ne, by omega, by omega⟩
      have W5 := W4.same (o5.2 _ W4.lt) (fun a ha => by cases ha)
      have rel0 : Rel a b l.length (fun _ => nz) (fun _ _ => nz) := fun _ _ _ _ => rfl
      have B5 : Bth H1.length H1.length q2 c2 l a b H3.length (H2.length + 1) H2.length (a * b + tot 16 a b) (a * b + tot 16 a b) 0 H4.length H5 false false (fun _ _ => nz) (fun _ => nz) none none := by
        refine ⟨T5, fun _ _ => Int.le_refl 0, fun _ _ => by simp [nz], R5, rel0, T3.fresh (Nat.le_refl _), (fun a ha => by cases ha), fun i hi => ?_, by omega, by omega, (fun a ha => by cases ha), by omega, by omega, by omega⟩
        rcases hi with h | h | h | ⟨a, ha, _⟩
        · subst h; exact ⟨T.fresh (by omega), by omega, (fun a ha => by cases ha), by omega, by omega⟩
        · subst h; exact ⟨T.fresh (by omega), by omega, (fun a ha => by cases ha), by omega, by omega⟩
        · subst h; exact ⟨T4.fresh (Nat.le_refl _), by omega, (fun a ha => by cases ha), by omega, by omega⟩
        · cases ha
      have hS5 := (((hS1.old o2 hb).keep o3).keep o4).keep o5
      obtain ⟨H6, qw6, qu6, sx, e6, W6, U6, hs6⟩ := writes_l (k := k) (by omega) G RGg gbase.symm s3 s4 c hb ops.length k 0 (by omega) (by omega) H5 false (fun _ _ => nz) (fun _ => nz) none none [] B5 W5 U5 (by simp) hS5
      simp only [Int.natCast_zero] at e6
      refine (e2 _ _).trans ((e3 _ _).trans (go_ne ((e4 _ _).trans ((e5 _ _).trans ((e6 _ _ _).trans ?_)))))
      exact writes_end hk1 W6 U6 hs6
end Go.Proofs.Ytblkejnciinaeaa.Sh
