/- Tagtree: L_TagtreeReturns, its first two loops. -/
import Derived.Test.YtblkejnciinaeaaTtS
import Derived.Test.YtblkejnciinaeaaBtZ
import Derived.Test.YtblkejnciinaeaaSh14
set_option linter.unusedVariables false
set_option linter.unusedSimpArgs false
namespace Go.Proofs.Ytblkejnciinaeaa.Sh
open Go.Proofs.Ytblkejnciinaeaa.FW Go.IntWalk
theorem inside_eq (H : Heap) (o : Op4) (a b : Nat) : ∃ H', (∀ (R : Type) (K : Bool → Heap → Option R), L_inside o.1 o.2.1 o.2.2.1 o.2.2.2 (a : Int) (b : Int) H K = K (ins a b o.2.1 o.2.2.1) H') ∧ Old H.length H H' := by
  obtain ⟨Hn, hHn⟩ : ∃ Hn, Hn = H ++ [some (⟨opc o, false, 0⟩ : Blk)] := ⟨_, rfl⟩
  have O : Owns Hn H.length (opc o) 0 := by rw [hHn]; exact hblk_new H _
  obtain ⟨m0, m1, m2, m3⟩ := op_cells O
  refine ⟨Hn, fun R K => ?_, hHn ▸ Old.app _ _⟩
  unfold L_inside L_inside_b ins
  refine go_halN hHn (go_fad (go_i m1 ?_))
  by_cases c1 : o.2.1 ≥ 0
  · refine go_t (decide_eq_true c1) (go_fad (go_i m1 ?_))
    by_cases c2 : o.2.1 < (a : Int)
    · refine go_t (decide_eq_true c2) (go_fad (go_i m2 ?_))
      by_cases c3 : o.2.2.1 ≥ 0
      · refine go_t (decide_eq_true c3) (go_fad (go_i m2 ?_))
        congr 1
        exact decide_eq_decide.2 ⟨fun h => ⟨c1, c2, c3, h⟩, fun h => h.2.2.2⟩
      · refine go_f (decide_eq_false c3) ?_
        rw [decide_eq_false (fun h => c3 h.2.2.1)]
    · refine go_f (decide_eq_false c2) ?_
      rw [decide_eq_false (fun h => c2 h.2.1)]
  · refine go_f (decide_eq_false c1) ?_
    rw [decide_eq_false (fun h => c1 h.1)]
theorem ix_zero {a : Nat} (ha : 1 ≤ a) (x y : Nat) : ix a x y 0 = y * a + x := by unfold ix; rw [wl_zero ha]; simp
theorem wix {a b x y : Nat} (hx : x < a) (hy : y < b) (hab : a * b ≤ 65536) : IntKind.wrap .i64 (IntKind.wrap .i64 ((y : Int) * (a : Int)) + (x : Int)) = ((y * a + x : Nat) : Int) ∧ y * a + x < a * b := by
  have h1 : (y + 1) * a ≤ b * a := Nat.mul_le_mul_right a hy
  rw [Nat.add_mul, Nat.mul_comm b] at h1
  rw [← Int.natCast_mul]
  generalize y * a = m at h1 ⊢
  rw [w64 (n := (m : Int)) (by omega) (by omega), w64 (by omega) (by omega)]
  omega
/-- The values. -/
def vv (V : Nat → Int) : Nat → Value := fun j => .int .i64 (V j)
theorem ret_l0 (k : Nat) {N p : Nat} {q : Option Addr} {c : Nat} {l : List Lv} {a b : Nat} (G : Geo a b l) {ops : List Op4} (hlen : ops.length ≤ 100) {qo : Option Addr} (co : Nat) (hb : ops.flatMap opc = [] ∨ Below N qo) (pu : Option Addr) {vb cv : Nat} (hvb : Off p q l vb) (hvN : N ≤ vb) :
    ∀ (m n i : Nat), m < n → ops.length = i + m → ∀ (H : Heap) (g : Nat → Nat → Nd) (V : Nat → Int), N ≤ H.length → Enc a b l.length false g V → Tn N H p q c l false false g → OwnV H vb (a * b) (vv V) → Shows H qo (ops.flatMap opc) →
    ∃ H' g' V', (∀ (R : Type) (KE : Int → Int → Option Addr → Nat → Nat → Option Addr → Option Addr → Option Addr → Nat → Nat → Heap → Option R) (KR : Bool → Heap → Option R), L_TagtreeReturns_l0 k KE KR n (a : Int) (b : Int) qo ops.length co (some ⟨p, 0, none⟩) pu (some ⟨vb, 0, none⟩) (a * b) cv qo ops.length co ((ops.length : Nat) : Int) (i : Int) H = KE (a : Int) (b : Int) qo ops.length co (some ⟨p, 0, none⟩) pu (some ⟨vb, 0, none⟩) (a * b) cv H') ∧ Enc a b l.length false g' V' ∧ Tn N H' p q c l false false g' ∧ OwnV H' vb (a * b) (vv V') ∧ H.length ≤ H'.length ∧ ∀ i, i < H.length → i ≠ vb → (∀ (j : Nat) (v : Lv), l[j]? = some v → v.b ≠ i) → hblk H' i = hblk H i := by
  intro m
  induction m with
  | zero =>
    intro n i hn hi H g V hN hE T hV hS
    obtain ⟨n, rfl⟩ : ∃ n', n = n' + 1 := ⟨n - 1, by omega⟩
    refine ⟨H, g, V, fun R KE KR => ?_, hE, T, hV, Nat.le_refl _, fun _ _ _ _ => rfl⟩
    unfold L_TagtreeReturns_l0 L_TagtreeReturns_l0_b
    exact go_f (decide_eq_false (by omega)) rfl
  | succ m ih =>
    intro n i hn hi H g V hN hE T hV hS
    obtain ⟨n, rfl⟩ : ∃ n', n = n' + 1 := ⟨n - 1, by omega⟩
    obtain ⟨o, ho⟩ : ∃ o, ops[i]? = some o := ⟨_, List.getElem?_eq_getElem (by omega)⟩
    obtain ⟨H2, e0, o2, O2, _⟩ := op_box hS ho
    obtain ⟨m0, m1, m2, m3⟩ := op_cells O2
    have T2 := T.old o2 (Nat.le_refl _)
    have l2 := o2.1
    have hVl : vb < H.length := Owns.lt hV
    obtain ⟨H3, g3, V3, e3, hE3, T3, hV3, l3, s3⟩ : ∃ H3 g3 V3, (∀ (R : Type) (KN : Int → Int → Option Addr → Nat → Nat → Option Addr → Option Addr → Option Addr → Nat → Nat → Option Addr → Nat → Nat → Int → Int → Heap → Option R) (KR : Bool → Heap → Option R), L_TagtreeReturns_p1 k (a : Int) (b : Int) qo ops.length co (some ⟨p, 0, none⟩) pu (some ⟨vb, 0, none⟩) (a * b) cv qo ops.length co ((ops.length : Nat) : Int) (i : Int) H KN KR = KN (a : Int) (b : Int) qo ops.length co (some ⟨p, 0, none⟩) pu (some ⟨vb, 0, none⟩) (a * b) cv qo ops.length co ((ops.length : Nat) : Int) (i : Int) H3) ∧ Enc a b l.length false g3 V3 ∧ Tn N H3 p q c l false false g3 ∧ OwnV H3 vb (a * b) (vv V3) ∧ H.length ≤ H3.length ∧ ∀ i, i < H.length → i ≠ vb → (∀ (j : Nat) (v : Lv), l[j]? = some v → v.b ≠ i) → hblk H3 i = hblk H i := by
      by_cases hk : o.1 = 0
      case neg =>
        refine ⟨H2, g, V, fun R KN KR => ?_, hE, T2, hV.keep o2, l2, fun i hi _ _ => o2.2 i hi⟩
        unfold L_TagtreeReturns_p1 L_TagtreeReturns_p1_b L_TagtreeReturns_p2 L_TagtreeReturns_p2_b
        exact (e0 _ _).trans (go_fad (go_i m0 (go_t (by rw [bne_iff_ne]; exact hk) rfl)))
      obtain ⟨H3, e3, T3, c3⟩ := Set_eq (k := k) T2 G o.2.1 o.2.2.1 o.2.2.2
      have hV3 : OwnV H3 vb (a * b) (vv V) := Owns.same (hV.keep o2) (c3.2 _ (by omega) hvb.2.2)
      by_cases hset : setE a b false false o.2.1 o.2.2.1 o.2.2.2 = 0
      case neg =>
        have eT : setT a b false false o.2.1 o.2.2.1 o.2.2.2 g = g := if_neg hset
        rw [eT] at T3
        refine ⟨H3, g, V, fun R KN KR => ?_, hE, T3, hV3, by have := c3.1; omega, fun i hi _ h => (c3.2 i (by omega) h).trans (o2.2 i hi)⟩
        unfold L_TagtreeReturns_p1 L_TagtreeReturns_p1_b L_TagtreeReturns_p2 L_TagtreeReturns_p2_b
        refine (e0 _ _).trans (go_fad (go_i m0 (go_f (by rw [hk]; rfl) (go_fad (go_i m1 (go_fad (go_i m2 (go_fad (go_i m3 ((e3 _ _).trans ?_))))))))))
        exact go_t (by rw [bne_iff_ne]; exact hset) rfl
      have hins : ins a b o.2.1 o.2.2.1 = true ∧ 0 ≤ o.2.2.2 := by
        unfold setE at hset
        rw [if_neg (by simp)] at hset
        split at hset
        · rename_i h; exact ⟨h.1, h.2.1⟩
        · omega
      have eT : setT a b false false o.2.1 o.2.2.1 o.2.2.2 g = setG a o.2.1 o.2.2.1 o.2.2.2 g := if_pos hset
      rw [eT] at T3
      obtain ⟨u, w, hu, hw, hua, hwb⟩ := ins_t hins.1
      obtain ⟨hwx, hlt⟩ := wix hua hwb G.ab
      have O3 : Owns H3 H.length (opc o) 0 := O2.same (c3.2 _ (by have := o2.1; have := O2.lt; omega) (T.fresh (Nat.le_refl _)).2.2)
      obtain ⟨k0, k1, k2, k3⟩ := op_cells O3
      obtain ⟨H4, e4, o4⟩ := inside_eq H3 o a b
      have O4 := O3.old o4 O3.lt
      obtain ⟨j0, j1, j2, j3⟩ := op_cells O4
      obtain ⟨H5, e5, hV5, b5, l5⟩ := OwnV.put (hV3.keep o4) hlt (.int .i64 o.2.2.2)
      have T5 : Tn N H5 p q c l false false (setG a o.2.1 o.2.2.1 o.2.2.2 g) := (T3.old o4 (Nat.le_refl _)).same fun i hi hn => b5.2 i hi fun h => hn (h ▸ hvb)
      have g0 : hcell H3 H.length (0 + 0) = some (.int .i64 o.1) := k0
      have g1 : hcell H3 H.length (0 + 1) = some (.int .i64 o.2.1) := k1
      have g2 : hcell H3 H.length (0 + 2) = some (.int .i64 o.2.2.1) := k2
      have g3 : hcell H3 H.length (0 + 3) = some (.int .i64 o.2.2.2) := k3
      refine ⟨H5, setG a o.2.1 o.2.2.1 o.2.2.2 g, fun j => if j = w * a + u then o.2.2.2 else V j, fun R KN KR => ?_, ⟨fun j => ?_, fun _ i j => ?_, fun h => by cases h⟩, T5, ?_, by have := c3.1; have := o4.1; omega, fun i hi h1 h2 => ?_⟩
      · unfold L_TagtreeReturns_p1 L_TagtreeReturns_p1_b L_TagtreeReturns_p2 L_TagtreeReturns_p2_b
        refine (e0 _ _).trans (go_fad (go_i m0 (go_f (by rw [hk]; rfl) (go_fad (go_i m1 (go_fad (go_i m2 (go_fad (go_i m3 ((e3 _ _).trans ?_))))))))))
        refine go_f (by rw [hset]; rfl) (go_ip g0 (go_ip g1 (go_ip g2 (go_ip g3 ((e4 _ _).trans ?_)))))
        refine go_f (by rw [hins.1]; rfl) (go_fad (go_i j2 (go_fad (go_i j1 (go_fad (go_i j3 ?_))))))
        rw [hu, hw, hwx]
        refine (hidx_1 _ _ _ _ (by omega) (by omega) _ _).trans ?_
        rw [Int.toNat_natCast, Nat.zero_add]
        exact e5 _ _
      · unfold setG
        rw [hu, hw, Int.toNat_natCast, Int.toNat_natCast, ix_zero G.a1, upd2_at]
        unfold upd
        split
        · rfl
        · exact hE.v j
      · unfold setG
        by_cases h0 : i = 0
        · subst h0
          rw [upd2_at]
          unfold upd
          split
          · exact ⟨(hE.f rfl 0 _).1, hins.2⟩
          · exact hE.f rfl 0 j
        · rw [upd2_ne _ _ _ h0]; exact hE.f rfl i j
      · refine OwnV.congr hV5 fun j _ => ?_
        unfold vv
        by_cases hj : j = w * a + u
        · simp [hj]
        · simp [hj]
      · have := c3.1; have := o4.1
        rw [b5.2 i (by omega) h1, o4.2 i (by omega), c3.2 i (by omega) h2, o2.2 i hi]
    obtain ⟨H4, g4, V4, e4, hE4, T4, hV4, l4, s4⟩ := ih n (i + 1) (by omega) (by omega) H3 g3 V3 (by omega) hE3 T3 hV3 (hS.old (N := N) ⟨l3, fun i hi => s3 i (by omega) (by omega) fun j v hv => by have := T.lows.2 j v hv; omega⟩ hb)
    refine ⟨H4, g4, V4, fun R KE KR => ?_, hE4, T4, hV4, by omega, fun i hi h1 h2 => (s4 i (by omega) h1 h2).trans (s3 i hi h1 h2)⟩
    unfold L_TagtreeReturns_l0 L_TagtreeReturns_l0_b
    refine go_t (decide_eq_true (by omega)) ((e3 _ _ _).trans ?_)
    try dsimp only
    rw [w64 (n := (i : Int) + 1) (by omega) (by omega)]
    exact e4 R KE KR
/-- Calls encoded one after the other: the tree then, the bits. -/
def tr (a b L : Nat) : Bool × (Nat → Nat → Nd) → List Op4 → (Bool × (Nat → Nat → Nd)) × List Int
  | st, [] => (st, [])
  | st, o :: r => ((tr a b L ((encR a b L st.1 false st.2 o.2.1 o.2.2.1 o.2.2.2).2.1, (encR a b L st.1 false st.2 o.2.1 o.2.2.1 o.2.2.2).2.2.1) r).1, (encR a b L st.1 false st.2 o.2.1 o.2.2.1 o.2.2.2).2.2.2 ++ (tr a b L ((encR a b L st.1 false st.2 o.2.1 o.2.2.1 o.2.2.2).2.1, (encR a b L st.1 false st.2 o.2.1 o.2.2.1 o.2.2.2).2.2.1) r).2)
def trOk (a b L : Nat) : Bool × (Nat → Nat → Nd) → List Op4 → Prop
  | _, [] => True
  | st, o :: r => (encR a b L st.1 false st.2 o.2.1 o.2.2.1 o.2.2.2).1 = 0 ∧ trOk a b L ((encR a b L st.1 false st.2 o.2.1 o.2.2.1 o.2.2.2).2.1, (encR a b L st.1 false st.2 o.2.1 o.2.2.1 o.2.2.2).2.2.1) r
theorem tr_snoc (a b L : Nat) (o : Op4) : ∀ (gl : List Op4) (st : Bool × (Nat → Nat → Nd)), tr a b L st (gl ++ [o]) = (((encR a b L (tr a b L st gl).1.1 false (tr a b L st gl).1.2 o.2.1 o.2.2.1 o.2.2.2).2.1, (encR a b L (tr a b L st gl).1.1 false (tr a b L st gl).1.2 o.2.1 o.2.2.1 o.2.2.2).2.2.1), (tr a b L st gl).2 ++ (encR a b L (tr a b L st gl).1.1 false (tr a b L st gl).1.2 o.2.1 o.2.2.1 o.2.2.2).2.2.2) := by
  intro gl
  induction gl with
  | nil => intro st; simp [tr]
  | cons x gl ih => intro st; rw [List.cons_append, tr, tr, ih]; simp [List.append_assoc]
theorem trOk_snoc (a b L : Nat) (o : Op4) : ∀ (gl : List Op4) (st : Bool × (Nat → Nat → Nd)), trOk a b L st gl → (encR a b L (tr a b L st gl).1.1 false (tr a b L st gl).1.2 o.2.1 o.2.2.1 o.2.2.2).1 = 0 → trOk a b L st (gl ++ [o]) := by
  intro gl
  induction gl with
  | nil => intro st _ h; exact ⟨h, trivial⟩
  | cons x gl ih => intro st h1 h2; exact ⟨h1.1, ih _ h1.2 h2⟩
theorem encR_bad {a b L : Nat} {e d : Bool} {g : Nat → Nat → Nd} {x y t : Int} (h : (encR a b L e d g x y t).1 ≠ 0) : (encR a b L e d g x y t).2 = (e, g, []) := by
  unfold encR at *
  split
  · rfl
  · rename_i hd
    rw [if_neg hd] at h
    split
    · rename_i hh; rw [if_pos hh] at h; simp at h
    · rfl
theorem app4 {N : Nat} {H : Heap} {q : Option Addr} {l c : Nat} {cs vs : List Value} (h : Bld N 4 H q l c cs) (hN : N ≤ H.length) (hv : vs.length = 4) (hl : l ≤ 200) :
    ∃ H', (∀ (R : Type) (K : Option Addr → Nat → Nat → Heap → Option R), happS 4 32 (H ++ [some ⟨vs, false, 0⟩]) q l c (some ⟨H.length, 0, none⟩) 1 K = K (some ⟨H.length + 1, 0, none⟩) (l + 1) unk H') ∧ Bld N 4 H' (some ⟨H.length + 1, 0, none⟩) (l + 1) unk (cs ++ vs) ∧ H'.length = H.length + 2 ∧ ∀ i, i < H.length → (∀ a, q = some a → a.block ≠ i) → hblk H' i = hblk H i := by
  have hp : Shows (H ++ [some (⟨vs, false, 0⟩ : Blk)]) (some ⟨H.length, 0, none⟩) vs := Sees.shows ⟨_, hblk_new H _, rfl⟩
  have hc := hp.hcells
  rw [hv] at hc
  have hL : (H ++ [some (⟨vs, false, 0⟩ : Blk)]).length = H.length + 1 := by simp
  rcases h with ⟨rfl, rfl, rfl, rfl⟩ | ⟨b, rfl, rfl, h3, h4, h5⟩
  · refine ⟨H ++ [some ⟨vs, false, 0⟩] ++ [some ⟨vs, false, 4⟩], fun R K => ?_, .inr ⟨H.length + 1, rfl, rfl, by omega, ?_, by simp [hv]⟩, by simp, fun i hi _ => by rw [List.append_assoc]; exact app_old hi⟩
    · unfold happS happ
      rw [show 1 * 4 = 4 from rfl, hc]
      simp only
      rw [if_neg (by unfold unk; omega), if_neg (by omega), if_pos (by omega), hL]
      rfl
    · have := hblk_new (H ++ [some (⟨vs, false, 0⟩ : Blk)]) (some ⟨vs, false, 4⟩)
      rw [hL] at this
      exact this
  · have hblt := h4.sees.lt
    have h4' : hblk (H ++ [some (⟨vs, false, 0⟩ : Blk)]) b = some ⟨cs, false, 4⟩ := by rw [app_old hblt]; exact h4
    refine ⟨hset (H ++ [some ⟨vs, false, 0⟩]) b none ++ [some ⟨cs ++ vs, false, 4⟩], fun R K => ?_, .inr ⟨H.length + 1, rfl, rfl, by omega, ?_, by rw [Nat.add_mul, h5, List.length_append, hv]⟩, by simp [hset_length], fun i hi hne => ?_⟩
    · unfold happS happ
      rw [show 1 * 4 = 4 from rfl, hc]
      simp only [if_true, h4', cond_false, h5, true_and, hL]
      rw [if_pos (by omega)]
    · have := app_new (hset (H ++ [some (⟨vs, false, 0⟩ : Blk)]) b none) (some ⟨cs ++ vs, false, 4⟩) []
      rwa [hset_length, hL] at this
    · rw [app_old (by rw [hset_length]; omega), hset_get, if_neg (by have := hne _ rfl; simp only at this; omega), app_old hi]
/-- The second loop: what is encoded. -/
structure L3 (N M p : Nat) (q : Option Addr) (c : Nat) (l : List Lv) (a b pw : Nat) (st0 : Bool × (Nat → Nat → Nd)) (B : Nat) (H : Heap) (e : Bool) (g : Nat → Nat → Nd) (q2 : Option Addr) (s : List Int) (gl : List Op4) (qg : Option Addr) (cg : Nat) : Prop where
  T : Tn N H p q c l e false g
  ok : Gok g
  W : Wr M H pw q2 s
  off : ∀ a, q2 = some a → Off p q l a.block ∧ M ≤ a.block
  row : Bld M 4 H qg gl.length cg (gl.flatMap opc)
  roff : ∀ a, qg = some a → Off p q l a.block ∧ a.block ≠ pw ∧ ∀ a', q2 = some a' → a'.block ≠ a.block
  st : (e, g) = (tr a b l.length st0 gl).1
  bits : s = (tr a b l.length st0 gl).2
  good : trOk a b l.length st0 gl
  MH : M ≤ H.length
  slen : s.length ≤ B
theorem ret_l3 {k : Nat} (hk : 70000 < k) {N M p pw : Nat} {q : Option Addr} {c : Nat} {l : List Lv} {a b : Nat} (G : Geo a b l) {ops : List Op4} (hlen : ops.length ≤ 100) (hun : uns ops ≤ 65536) {qo : Option Addr} (co : Nat) (hb : ops.flatMap opc = [] ∨ Below N qo) (hNM : N ≤ M) (hD : Off p q l pw) (hpw : M ≤ pw) (pu qv : Option Addr) (lv cv : Nat) (st0 : Bool × (Nat → Nat → Nd)) :
    ∀ (m n i : Nat), m < n → ops.length = i + m → ∀ (H : Heap) (e : Bool) (g : Nat → Nat → Nd) (q2 : Option Addr) (s : List Int) (gl : List Op4) (qg : Option Addr) (cg : Nat), L3 N M p q c l a b pw st0 (20 * i + uns (ops.take i)) H e g q2 s gl qg cg → gl.length ≤ i → Shows H qo (ops.flatMap opc) →
    ∃ H' e' g' q2' s' gl' qg' cg', (∀ (R : Type) (KE : Int → Option Addr → Option Addr → Nat → Nat → Option Addr → Option Addr → Nat → Nat → Heap → Option R) (KR : Bool → Heap → Option R), L_TagtreeReturns_l3 k KE KR n (a : Int) (b : Int) (some ⟨p, 0, none⟩) pu qv lv cv (some ⟨pw, 0, none⟩) qg gl.length cg qo ops.length co ((ops.length : Nat) : Int) (i : Int) H = KE (a : Int) pu qv lv cv (some ⟨pw, 0, none⟩) qg' gl'.length cg' H') ∧ L3 N M p q c l a b pw st0 (20 * ops.length + uns ops) H' e' g' q2' s' gl' qg' cg' ∧ gl'.length ≤ ops.length ∧ H.length ≤ H'.length ∧ ∀ i, i < M → i ≠ p → (∀ (j : Nat) (v : Lv), l[j]? = some v → v.b ≠ i) → hblk H' i = hblk H i := by
  intro m
  induction m with
  | zero =>
    intro n i hn hi H e g q2 s gl qg cg L hgl hS
    obtain ⟨n, rfl⟩ : ∃ n', n = n' + 1 := ⟨n - 1, by omega⟩
    obtain rfl : i = ops.length := by omega
    rw [List.take_of_length_le (Nat.le_refl _)] at L
    refine ⟨H, e, g, q2, s, gl, qg, cg, fun R KE KR => ?_, L, hgl, Nat.le_refl _, fun _ _ _ _ => rfl⟩
    unfold L_TagtreeReturns_l3 L_TagtreeReturns_l3_b
    exact go_f (decide_eq_false (by omega)) rfl
  | succ m ih =>
    intro n i hn hi H e g q2 s gl qg cg L hgl hS
    obtain ⟨n, rfl⟩ : ∃ n', n = n' + 1 := ⟨n - 1, by omega⟩
    obtain ⟨o, ho⟩ : ∃ o, ops[i]? = some o := ⟨_, List.getElem?_eq_getElem (by omega)⟩
    obtain ⟨H1, e0, o1, O1, l1⟩ := op_box hS ho
    obtain ⟨m0, m1, m2, m3⟩ := op_cells O1
    have T1 := L.T.old o1 (Nat.le_refl _)
    have W1 := L.W.keep o1
    have hu1 := uns_take ho
    have hu3 := uns_le ops (i + 1)
    have hlows := L.T.lows
    have hMH := L.MH
    have hsl := L.slen
    have hoff : Off p q l H.length := L.T.fresh (Nat.le_refl _)
    have hql := L.W.qlt
    have hWl := L.W.lt
    have hrl := L.row.below
    have hl17 := G.len
    obtain ⟨H3, e3', g3, q3, s3, gl3, qg3, cg3, e3, L3', hgl3, l3, f3⟩ : ∃ H3 e3 g3 q3 s3 gl3 qg3 cg3, (∀ (R : Type) (KN : Int → Int → Option Addr → Option Addr → Option Addr → Nat → Nat → Option Addr → Option Addr → Nat → Nat → Option Addr → Nat → Nat → Int → Int → Heap → Option R) (KR : Bool → Heap → Option R), L_TagtreeReturns_p4 k (a : Int) (b : Int) (some ⟨p, 0, none⟩) pu qv lv cv (some ⟨pw, 0, none⟩) qg gl.length cg qo ops.length co ((ops.length : Nat) : Int) (i : Int) H KN KR = KN (a : Int) (b : Int) (some ⟨p, 0, none⟩) pu qv lv cv (some ⟨pw, 0, none⟩) qg3 gl3.length cg3 qo ops.length co ((ops.length : Nat) : Int) (i : Int) H3) ∧ L3 N M p q c l a b pw st0 (20 * (i + 1) + uns (ops.take (i + 1))) H3 e3 g3 q3 s3 gl3 qg3 cg3 ∧ gl3.length ≤ i + 1 ∧ H.length ≤ H3.length ∧ ∀ i, i < M → i ≠ p → (∀ (j : Nat) (v : Lv), l[j]? = some v → v.b ≠ i) → hblk H3 i = hblk H i := by
      by_cases hk1 : o.1 = 1
      case neg =>
        refine ⟨H1, e, g, q2, s, gl, qg, cg, fun R KN KR => ?_, ⟨T1, L.ok, W1, L.off, L.row.old o1 (Nat.le_refl _), L.roff, L.st, L.bits, L.good, by omega, by omega⟩, by omega, by omega, fun i hi _ _ => o1.2 i (by omega)⟩
        unfold L_TagtreeReturns_p4 L_TagtreeReturns_p4_b L_TagtreeReturns_p5 L_TagtreeReturns_p5_b
        exact (e0 _ _).trans (go_fad (go_i m0 (go_t (by rw [bne_iff_ne]; exact hk1) rfl)))
      obtain ⟨q4, H4, e4, T4, W4, C4, hq4⟩ := Encode_eq hk T1 (by omega) G L.ok W1 (by omega) hD (fun a ha => (L.off a ha).1) o.2.1 o.2.2.1 o.2.2.2 (by omega)
      have hun2 := encR_un (a := a) (b := b) (L := l.length) (e := e) (d := false) (g := g) hk1 hl17
      have hg4 := encR_ok (a := a) (b := b) (L := l.length) (e := e) (d := false) L.ok o.2.1 o.2.2.1 o.2.2.2
      have l4 := C4.len
      have hq4M : ∀ a, q4 = some a → M ≤ a.block := fun a ha => by
        rcases C4.new with h | h
        · subst h; exact (L.off a ha).2
        · have := h a ha; omega
      have hrow4 : ∀ a, qg = some a → hblk H4 a.block = hblk H a.block := fun a ha => by
        have h := L.roff a ha
        have h2 := hrl a ha
        rw [C4.old _ (by omega) h.2.1 h.2.2 h.1.1 h.1.2.2, o1.2 _ h2]
      have R4 : Bld M 4 H4 qg gl.length cg (gl.flatMap opc) := L.row.same hrow4
      have hroff4 : ∀ a, qg = some a → Off p q l a.block ∧ a.block ≠ pw ∧ ∀ a', q4 = some a' → a'.block ≠ a.block := fun a ha => by
        have h := L.roff a ha
        refine ⟨h.1, h.2.1, fun a' ha' => ?_⟩
        rcases C4.new with h2 | h2
        · subst h2; exact h.2.2 a' ha'
        · have := h2 a' ha'; have := hrl a ha; omega
      have f4 : ∀ i, i < M → i ≠ p → (∀ (j : Nat) (v : Lv), l[j]? = some v → v.b ≠ i) → hblk H4 i = hblk H i := fun i hi h1 h2 => by
        rw [C4.old i (by omega) (by omega) (fun a ha => by have := (L.off a ha).2; omega) h1 h2, o1.2 i (by omega)]
      by_cases hE : (encR a b l.length e false g o.2.1 o.2.2.1 o.2.2.2).1 = 0
      case neg =>
        have hbad := encR_bad hE
        rw [hbad] at T4 W4
        simp only [List.append_nil] at W4
        refine ⟨H4, e, g, q4, s, gl, qg, cg, fun R KN KR => ?_, ⟨T4, L.ok, W4, fun a ha => ⟨hq4 a ha, hq4M a ha⟩, R4, hroff4, L.st, L.bits, L.good, by omega, by omega⟩, by omega, by omega, f4⟩
        unfold L_TagtreeReturns_p4 L_TagtreeReturns_p4_b L_TagtreeReturns_p5 L_TagtreeReturns_p5_b
        refine (e0 _ _).trans (go_fad (go_i m0 (go_f (by rw [hk1]; rfl) (go_fad (go_i m1 (go_fad (go_i m2 (go_fad (go_i m3 ((e4 _ _).trans ?_))))))))))
        exact go_t (by rw [bne_iff_ne]; exact hE) rfl
      obtain ⟨_, hins, _, _, _⟩ := encR_zero hE
      have O4 : Owns H4 H.length (opc o) 0 := O1.same (C4.old _ (by omega) (by omega) (fun a ha => by have := hql a ha; omega) hoff.1 hoff.2.2)
      obtain ⟨k0, k1, k2, k3⟩ := op_cells O4
      obtain ⟨H5, e5, o5⟩ := inside_eq H4 o a b
      have l5 := o5.1
      obtain ⟨j0, j1, j2, j3⟩ := op_cells (O4.old o5 O4.lt)
      obtain ⟨H6, e6, R6, l6, s6⟩ := app4 (vs := opc o) (R4.old o5 (Nat.le_refl _)) (by omega) rfl (by omega)
      have hst := L.st
      have hb2 := L.bits
      have T6 : Tn N H6 p q c l (encR a b l.length e false g o.2.1 o.2.2.1 o.2.2.2).2.1 false (encR a b l.length e false g o.2.1 o.2.2.1 o.2.2.2).2.2.1 := (T4.old o5 (Nat.le_refl _)).same fun i hi hn => s6 i hi fun a ha h => hn (h ▸ (hroff4 a ha).1)
      have W6 : Wr M H6 pw q4 (s ++ (encR a b l.length e false g o.2.1 o.2.2.1 o.2.2.2).2.2.2) := by
        have W5 := W4.keep o5
        exact W5.same (s6 _ W5.lt fun a ha => (hroff4 a ha).2.1) fun a' ha' => s6 _ (W5.qlt a' ha') fun a ha h => (hroff4 a ha).2.2 a' ha' h.symm
      have hst1 : (tr a b l.length st0 gl).1.1 = e := by rw [← hst]
      have hst2 : (tr a b l.length st0 gl).1.2 = g := by rw [← hst]
      refine ⟨H6, _, _, q4, _, gl ++ [o], some ⟨H5.length + 1, 0, none⟩, unk, fun R KN KR => ?_, ⟨T6, hg4, W6, fun a ha => ⟨hq4 a ha, hq4M a ha⟩, ?_, fun a ha => ?_, ?_, ?_, ?_, by omega, by rw [List.length_append]; omega⟩, by simp; omega, by omega, fun i hi h1 h2 => ?_⟩
      · have g0 : hcell H4 H.length (0 + 0) = some (.int .i64 o.1) := k0
        have g1 : hcell H4 H.length (0 + 1) = some (.int .i64 o.2.1) := k1
        have g2 : hcell H4 H.length (0 + 2) = some (.int .i64 o.2.2.1) := k2
        have g3 : hcell H4 H.length (0 + 3) = some (.int .i64 o.2.2.2) := k3
        have i0 : hcell H5 H.length (0 + 0) = some (.int .i64 o.1) := j0
        have i1 : hcell H5 H.length (0 + 1) = some (.int .i64 o.2.1) := j1
        have i2 : hcell H5 H.length (0 + 2) = some (.int .i64 o.2.2.1) := j2
        have i3 : hcell H5 H.length (0 + 3) = some (.int .i64 o.2.2.2) := j3
        unfold L_TagtreeReturns_p4 L_TagtreeReturns_p4_b L_TagtreeReturns_p5 L_TagtreeReturns_p5_b
        refine (e0 _ _).trans (go_fad (go_i m0 (go_f (by rw [hk1]; rfl) (go_fad (go_i m1 (go_fad (go_i m2 (go_fad (go_i m3 ((e4 _ _).trans ?_))))))))))
        refine go_f (by rw [hE]; rfl) (go_ip g0 (go_ip g1 (go_ip g2 (go_ip g3 ((e5 _ _).trans ?_)))))
        refine go_f (by rw [hins]; rfl) (go_ip i0 (go_ip i1 (go_ip i2 (go_ip i3 ?_))))
        rw [List.length_append]
        exact go_hal (e6 _ _)
      · rw [List.length_append, List.flatMap_append]
        simpa using R6
      · cases ha
        exact ⟨L.T.fresh (by simp only; omega), by simp only; omega, fun a' ha' => by have := W4.qlt a' ha'; simp only; omega⟩
      · rw [tr_snoc, hst1, hst2]
      · rw [tr_snoc, hst1, hst2, ← hb2]
      · exact trOk_snoc _ _ _ _ _ _ L.good (by rw [hst1, hst2]; exact hE)
      · rw [s6 i (by omega) (fun a ha => by have := Bld.qlow L.row a ha; omega), o5.2 i (by omega)]
        exact f4 i hi h1 h2
    obtain ⟨H4, e4', g4, q4, s4, gl4, qg4, cg4, e4, L4, hgl4, l4, f4⟩ := ih n (i + 1) (by omega) (by omega) H3 e3' g3 q3 s3 gl3 qg3 cg3 L3' hgl3 (hS.old (N := N) ⟨l3, fun i hi => f3 i (by omega) (by omega) fun j v hv => by have := hlows.2 j v hv; omega⟩ hb)
    refine ⟨H4, e4', g4, q4, s4, gl4, qg4, cg4, fun R KE KR => ?_, L4, hgl4, by omega, fun i hi h1 h2 => (f4 i hi h1 h2).trans (f3 i hi h1 h2)⟩
    unfold L_TagtreeReturns_l3 L_TagtreeReturns_l3_b
    refine go_t (decide_eq_true (by omega)) ((e3 _ _ _).trans ?_)
    try dsimp only
    rw [w64 (n := (i : Int) + 1) (by omega) (by omega)]
    exact e4 R KE KR
end Go.Proofs.Ytblkejnciinaeaa.Sh
