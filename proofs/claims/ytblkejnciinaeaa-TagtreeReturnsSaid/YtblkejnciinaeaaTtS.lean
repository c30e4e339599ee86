/- Tagtree: what was encoded is decoded. -/
import Derived.Test.YtblkejnciinaeaaTtQ
import Derived.Test.YtblkejnciinaeaaTtH
import Derived.Test.YtblkejnciinaeaaBtY
set_option linter.unusedVariables false
set_option linter.unusedSimpArgs false
namespace Go.Proofs.Ytblkejnciinaeaa.Sh
open Go.Proofs.Ytblkejnciinaeaa.FW Go.IntWalk
theorem nlp_sim {bs : List Int} : ∀ (m : Nat) (s s1 : Nat × Nat) (n n' : Nd), n.2 = n'.2 → Run bs s (nlp wcode m [] n).2.1 s1 → (nlp (rcode bs) m s n').1 = 0 ∧ (nlp (rcode bs) m s n').2.1 = s1 ∧ (nlp (rcode bs) m s n').2.2.2 = (nlp wcode m [] n).2.2.2 := by
  intro m
  induction m with
  | zero =>
    intro s s1 n n' h hr
    simp only [nlp] at hr ⊢
    cases hr
    exact ⟨by trivial, rfl, h.symm⟩
  | succ m ih =>
    intro s s1 n n' h hr
    rw [nlp_ws] at hr ⊢
    rw [nlp]
    by_cases hk : n.2.2 = true
    · rw [if_pos hk] at hr ⊢
      rw [if_pos (by rw [← h]; exact hk)]
      cases hr
      exact ⟨by trivial, rfl, h.symm⟩
    · rw [if_neg hk] at hr ⊢
      rw [if_neg (by rw [← h]; exact hk)]
      by_cases hv : n.1 = n.2.1
      · rw [if_pos hv] at hr ⊢
        simp only [List.nil_append] at hr
        have e := hr.one
        have e2 : rcode bs s n' = ((1, 0), s1) := e
        rw [e2, if_neg (by simp), if_pos rfl]
        exact ⟨rfl, rfl, by rw [h]⟩
      · rw [if_neg hv] at hr ⊢
        rw [nlp_w] at hr ⊢
        simp only [List.nil_append] at hr ⊢
        obtain ⟨s2, r1, r2⟩ := hr.split
        have e2 : rcode bs s n' = ((0, 0), s2) := r1.one
        rw [e2, if_neg (by simp), if_neg (by simp)]
        exact ih s2 s1 _ _ (by simp only; rw [h]) r2
theorem wk_sim {bs : List Int} (t : Int) (f f' : Nat → Nd) (hf : ∀ i, (f i).2 = (f' i).2) : ∀ (m : Nat) (low : Int) (s s1 : Nat × Nat) (pf pf' : Nat → Nd), (∀ i, (pf i).2 = (pf' i).2) → Run bs s (wk wcode t f m low [] pf).2.1 s1 →
    (wk (rcode bs) t f' m low s pf').1 = 0 ∧ (wk (rcode bs) t f' m low s pf').2.1 = s1 ∧ ∀ i, ((wk (rcode bs) t f' m low s pf').2.2 i).2 = ((wk wcode t f m low [] pf).2.2 i).2 := by
  intro m
  induction m with
  | zero =>
    intro low s s1 pf pf' hp hr
    simp only [wk] at hr ⊢
    cases hr
    exact ⟨by trivial, rfl, fun i => (hp i).symm⟩
  | succ m ih =>
    intro low s s1 pf pf' hp hr
    rw [wk_ws] at hr ⊢
    simp only [List.nil_append] at hr ⊢
    rw [wk_w] at hr ⊢
    simp only at hr ⊢
    obtain ⟨s2, r1, r2⟩ := hr.split
    have hfm := hf m
    have hlow : (f' m).2.1 = (f m).2.1 := by rw [hfm]
    have e : nl wcode t [] ((f m).1, imx (f m).2.1 low, (f m).2.2) = nlp wcode (t - imx (f m).2.1 low).toNat [] ((f m).1, imx (f m).2.1 low, (f m).2.2) := rfl
    have e' : nl (rcode bs) t s ((f' m).1, imx (f' m).2.1 low, (f' m).2.2) = nlp (rcode bs) (t - imx (f m).2.1 low).toNat s ((f' m).1, imx (f m).2.1 low, (f' m).2.2) := by rw [hlow]; rfl
    rw [e] at r1
    obtain ⟨g1, g2, g3⟩ := nlp_sim (bs := bs) (t - imx (f m).2.1 low).toNat s s2 ((f m).1, imx (f m).2.1 low, (f m).2.2) ((f' m).1, imx (f m).2.1 low, (f' m).2.2) (by simp only; rw [hfm]) r1
    rw [← e'] at g1 g2 g3
    rw [← e] at g3
    rw [wk, if_neg (by rw [g1]; simp), g2, show (nl (rcode bs) t s ((f' m).1, imx (f' m).2.1 low, (f' m).2.2)).2.2.2.1 = (nl wcode t [] ((f m).1, imx (f m).2.1 low, (f m).2.2)).2.2.2.1 from by rw [g3]]
    refine ih _ s2 s1 _ _ (fun i => ?_) r2
    unfold upd
    split
    · exact g3.symm
    · exact hp i
/-- A node whose bound is right. -/
def Good (n : Nd) : Prop := n.2.1 ≤ n.1 ∧ (n.2.2 = true → n.2.1 = n.1)
theorem nlp_good : ∀ (m : Nat) (n : Nd), Good n → Good (nlp wcode m [] n).2.2 ∧ (nlp wcode m [] n).2.2.1 = n.1 := by
  intro m
  induction m with
  | zero => intro n h; exact ⟨h, rfl⟩
  | succ m ih =>
    intro n h
    rw [nlp_ws]
    split
    · exact ⟨h, rfl⟩
    · rename_i hk
      split
      · rename_i hv; exact ⟨⟨by simp only; omega, fun _ => by simp only; omega⟩, rfl⟩
      · rename_i hv
        rw [nlp_w]
        simp only
        have := h.1
        exact ih (n.1, n.2.1 + 1, n.2.2) ⟨by simp only; omega, fun h2 => (hk h2).elim⟩
theorem wk_good (t : Int) (f : Nat → Nd) : ∀ (m : Nat) (low : Int) (pf : Nat → Nd), (∀ i, i < m → Good (f i)) → (∀ i, i + 1 < m → (f (i + 1)).1 ≤ (f i).1) → (0 < m → low ≤ (f (m - 1)).1) →
    ∀ i, i < m → Good ((wk wcode t f m low [] pf).2.2 i) ∧ ((wk wcode t f m low [] pf).2.2 i).1 = (f i).1 := by
  intro m
  induction m with
  | zero => intro low pf _ _ _ i hi; omega
  | succ m ih =>
    intro low pf h1 h2 h3 i hi
    rw [wk_ws]
    simp only [List.nil_append]
    rw [wk_w]
    simp only
    have hm := h1 m (by omega)
    have hl : low ≤ (f m).1 := by have := h3 (by omega); rwa [show m + 1 - 1 = m from by omega] at this
    have hn : Good ((f m).1, imx (f m).2.1 low, (f m).2.2) := by
      refine ⟨?_, fun hk => ?_⟩
      · have := hm.1; simp only [imx]; split <;> omega
      · have := hm.2 hk; simp only [imx]; split <;> omega
    obtain ⟨g1, g2⟩ := nlp_good (t - imx (f m).2.1 low).toNat _ hn
    by_cases him : i < m
    · refine ih _ _ (fun i hi => h1 i (by omega)) (fun i hi => h2 i (by omega)) (fun h0 => ?_) i him
      have h4 := h2 (m - 1) (by omega)
      rw [show m - 1 + 1 = m from by omega] at h4
      have h5 : (nl wcode t [] ((f m).1, imx (f m).2.1 low, (f m).2.2)).2.2.2.1 ≤ (nl wcode t [] ((f m).1, imx (f m).2.1 low, (f m).2.2)).2.2.1 := g1.1
      have h6 : (nl wcode t [] ((f m).1, imx (f m).2.1 low, (f m).2.2)).2.2.1 = (f m).1 := g2
      omega
    · obtain rfl : i = m := by omega
      rw [wk_pf _ _ _ _ _ _ _ _ (Nat.le_refl _), upd_at]
      exact ⟨g1, g2⟩
/-- The minima. -/
theorem mst_spec (w w' : Nat) (fb : Nat → Nd) : ∀ (K : Nat) (f : Nat → Nd), (∀ k, k < K → (mst w w' fb K f (par w w' k)).1 ≤ (fb k).1) ∧ (∀ j, (mst w w' fb K f j).1 ≤ (f j).1) ∧ ∀ j, (mst w w' fb K f j).1 = (f j).1 ∨ ∃ k, k < K ∧ par w w' k = j ∧ (mst w w' fb K f j).1 = (fb k).1 := by
  intro K
  induction K with
  | zero => intro f; exact ⟨fun k h => by omega, fun j => Int.le_refl _, fun j => .inl rfl⟩
  | succ K ih =>
    intro f
    obtain ⟨i1, i2, i3⟩ := ih f
    have key : ∀ j, mst w w' fb (K + 1) f j = if j = par w w' K then (min (mst w w' fb K f (par w w' K)).1 (fb K).1, (mst w w' fb K f (par w w' K)).2) else mst w w' fb K f j := fun j => rfl
    refine ⟨fun k hk => ?_, fun j => ?_, fun j => ?_⟩
    · rw [key]
      by_cases h : par w w' k = par w w' K
      · rw [if_pos h]
        by_cases hkK : k < K
        · have := i1 k hkK; rw [h] at this; simp only; omega
        · obtain rfl : k = K := by omega
          simp only; omega
      · rw [if_neg h]
        exact i1 k (by rcases Nat.lt_or_ge k K with h2 | h2; exact h2; exact (h (by rw [show k = K from by omega])).elim)
    · rw [key]
      by_cases h : j = par w w' K
      · rw [if_pos h, h]; have := i2 (par w w' K); simp only; omega
      · rw [if_neg h]; exact i2 j
    · rw [key]
      by_cases h : j = par w w' K
      · rw [if_pos h]
        simp only
        rcases Int.le_total (mst w w' fb K f (par w w' K)).1 (fb K).1 with h2 | h2
        · rw [Int.min_eq_left h2, ← h]
          rcases i3 j with h3 | ⟨k, k1, k2, k3⟩
          · exact .inl h3
          · exact .inr ⟨k, by omega, k2, k3⟩
        · rw [Int.min_eq_right h2]
          exact .inr ⟨K, by omega, h.symm, rfl⟩
      · rw [if_neg h]
        rcases i3 j with h3 | ⟨k, k1, k2, k3⟩
        · exact .inl h3
        · exact .inr ⟨k, by omega, k2, k3⟩
theorem par_ix {a x : Nat} (hx : x < a) (y i : Nat) : par (wl a i) (wl a (i + 1)) (ix a x y i) = ix a x y (i + 1) := by
  have h1 : x / 2 ^ i < wl a i := by unfold wl; have : x / 2 ^ i ≤ (a - 1) / 2 ^ i := Nat.div_le_div_right (by omega); omega
  have h2 := wl_pos a i
  unfold par ix
  rw [show (y / 2 ^ i * wl a i + x / 2 ^ i) / wl a i = y / 2 ^ i from by rw [Nat.add_comm, Nat.add_mul_div_right _ _ h2, Nat.div_eq_of_lt h1, Nat.zero_add], show (y / 2 ^ i * wl a i + x / 2 ^ i) % wl a i = x / 2 ^ i from by rw [Nat.add_comm, Nat.add_mul_mod_self_right, Nat.mod_eq_of_lt h1], Nat.div_div_eq_div_mul, Nat.div_div_eq_div_mul, ← Nat.pow_succ]
theorem mins_below (a b : Nat) : ∀ (m i : Nat) (g : Nat → Nat → Nd) (j : Nat), j < i → mins a b m i g j = g j := by
  intro m
  induction m with
  | zero => intro i g j _; rfl
  | succ m ih => intro i g j hj; rw [mins, ih _ _ _ (by omega), lset_ne _ _ (by omega)]
theorem mins_mono {a b x y : Nat} (hx : x < a) (hy : y < b) : ∀ (m i : Nat) (g : Nat → Nat → Nd), 1 ≤ i → ∀ j, i ≤ j → j < i + m → (mins a b m i g j (ix a x y j)).1 ≤ (mins a b m i g (j - 1) (ix a x y (j - 1))).1 := by
  intro m
  induction m with
  | zero => intro i g _ j h1 h2; omega
  | succ m ih =>
    intro i g hi j h1 h2
    rw [mins]
    by_cases hj : j = i
    · subst hj
      rw [mins_below _ _ _ _ _ _ (by omega), mins_below _ _ _ _ _ _ (by omega), lset_at, lset_ne _ _ (by omega)]
      have h := (mst_spec (wl a (j - 1)) (wl a j) (g (j - 1)) (wl a (j - 1) * wl b (j - 1)) (rsl (wl a j * wl b j) (g j))).1 (ix a x y (j - 1)) (ix_lt hx hy (j - 1))
      have hp := par_ix hx y (j - 1)
      rw [show j - 1 + 1 = j from by omega] at hp
      rw [hp] at h
      exact h
    · exact ih (i + 1) _ (by omega) j (by omega) (by omega)
theorem mins_pos (a b : Nat) : ∀ (m i : Nat) (g : Nat → Nat → Nd), (∀ u j, 0 ≤ (g u j).1) → ∀ u j, 0 ≤ (mins a b m i g u j).1 := by
  intro m
  induction m with
  | zero => intro i g h u j; exact h u j
  | succ m ih =>
    intro i g h u j
    rw [mins]
    refine ih _ _ (fun u j => ?_) u j
    by_cases hu : u = i
    · rw [hu, lset_at]
      rcases (mst_spec (wl a (i - 1)) (wl a i) (g (i - 1)) (wl a (i - 1) * wl b (i - 1)) (rsl (wl a i * wl b i) (g i))).2.2 j with h2 | ⟨k, _, _, h2⟩
      · show 0 ≤ (mlf a b i g j).1
        unfold mlf
        rw [h2]; unfold rsl; split
        · simp only; omega
        · exact h i j
      · show 0 ≤ (mlf a b i g j).1
        unfold mlf
        rw [h2]; exact h _ _
    · rw [lset_ne _ _ hu]; exact h u j
/-- A tree under way, values V at its leaves. -/
structure Enc (a b L : Nat) (e : Bool) (g : Nat → Nat → Nd) (V : Nat → Int) : Prop where
  v : ∀ j, (g 0 j).1 = V j
  f : e = false → ∀ i j, (g i j).2 = (0, false) ∧ 0 ≤ (g i j).1
  t : e = true → (∀ i j, Good (g i j)) ∧ ∀ x y, x < a → y < b → ∀ i, i + 1 < L → (g (i + 1) (ix a x y (i + 1))).1 ≤ (g i (ix a x y i)).1
theorem Enc.mins {a b L : Nat} {e : Bool} {g : Nat → Nat → Nd} {V : Nat → Int} (h : Enc a b L e g V) (hL : 1 ≤ L) : Enc a b L true (encM a b L e g) V ∧ ∀ i j, (encM a b L e g i j).2 = (g i j).2 := by
  unfold encM
  cases he : e
  case true => subst he; exact ⟨h, fun _ _ => rfl⟩
  case false =>
    rw [if_neg (by simp)]
    have h0 := h.f he
    refine ⟨⟨fun j => by rw [mins_below _ _ _ _ _ _ (by omega)]; exact h.v j, (fun hh => by cases hh), fun _ => ⟨fun i j => ?_, fun x y hx hy i hi => ?_⟩⟩, fun i j => mins_two _ _ _ _ _ _ _⟩
    · have h2 := mins_two a b (L - 1) 1 g i j
      rw [(h0 i j).1] at h2
      have h3 := mins_pos a b (L - 1) 1 g (fun u j => (h0 u j).2) i j
      exact ⟨by rw [h2]; exact h3, fun hk => by rw [h2] at hk; cases hk⟩
    · have := mins_mono hx hy (L - 1) 1 g (Nat.le_refl _) (i + 1) (by omega) (by omega)
      rwa [show i + 1 - 1 = i from by omega] at this
/-- One call, encoded and decoded. -/
theorem enc_dec {a b L : Nat} {e : Bool} {g gd : Nat → Nat → Nd} {V : Nat → Int} (h : Enc a b L e g V) (hL : 1 ≤ L) (hg : Gok g) (hs : ∀ i j, (g i j).2 = (gd i j).2) {x y t : Int} (hE : (encR a b L e false g x y t).1 = 0) {bs : List Int} {s s1 : Nat × Nat} {dd : Bool} (hr : Run bs s (encR a b L e false g x y t).2.2.2 s1) :
    Enc a b L (encR a b L e false g x y t).2.1 (encR a b L e false g x y t).2.2.1 V ∧ (decR bs a b L false dd gd x y t s).1 = (decide (V (ix a x.toNat y.toNat 0) < t), 0) ∧ (decR bs a b L false dd gd x y t s).2.2.2 = s1 ∧ (∀ i j, ((encR a b L e false g x y t).2.2.1 i j).2 = ((decR bs a b L false dd gd x y t s).2.2.1 i j).2) ∧
      (V (ix a x.toNat y.toNat 0) < t → valR a b x y (decR bs a b L false dd gd x y t s).2.2.1 = (V (ix a x.toNat y.toNat 0), true)) := by
  obtain ⟨_, hi, h0, h1, er⟩ := encR_zero hE
  rw [er] at hr ⊢
  simp only at hr ⊢
  obtain ⟨u, w, rfl, rfl, hu, hw⟩ := ins_t hi
  rw [Int.toNat_natCast, Int.toNat_natCast] at hr ⊢
  obtain ⟨hM, hM2⟩ := h.mins hL
  obtain ⟨G, hG⟩ : ∃ G, G = encM a b L e g := ⟨_, rfl⟩
  have eG : encG a b L e g u w t = gw a u w G (wkr wcode t G a u w L []).2.2 L := by rw [hG]; rfl
  have eB : encB a b L e g u w t = (wkr wcode t G a u w L []).2.1 := by rw [hG]; rfl
  rw [← hG] at hM hM2
  rw [eB] at hr
  rw [eG]
  obtain ⟨hgood, hmono⟩ := hM.t rfl
  obtain ⟨w1, w2, w3⟩ := wk_sim (bs := bs) t (fun i => G i (ix a u w i)) (fun i => gd i (ix a u w i)) (fun i => by rw [hM2]; exact hs _ _) L 0 s s1 (fun _ => nz) (fun _ => nz) (fun _ => rfl) hr
  have e1 : wkr (rcode bs) t gd a u w L s = wk (rcode bs) t (fun i => gd i (ix a u w i)) L 0 s (fun _ => nz) := rfl
  have e2 : wkr wcode t G a u w L [] = wk wcode t (fun i => G i (ix a u w i)) L 0 [] (fun _ => nz) := rfl
  have hW0 : 0 ≤ (G (L - 1) (ix a u w (L - 1))).1 := by
    have h2 := (hgood (L - 1) (ix a u w (L - 1))).1
    have h3 := encM_ok (a := a) (b := b) (L := L) (e := e) hg (L - 1) (ix a u w (L - 1))
    rw [← hG] at h3; omega
  have wg := wk_good t (fun i => G i (ix a u w i)) L 0 (fun _ => nz) (fun i _ => hgood i _) (fun i hi => hmono u w hu hw i hi) (fun _ => hW0)
  obtain ⟨wp, _, _⟩ := wk_path wcode t (fun i => G i (ix a u w i)) L 0 [] (fun _ => nz) (by rw [wk_w])
  rw [← e2] at wg wp w3
  rw [← e1] at w1 w2 w3
  have ed : decR bs a b L false dd gd (u : Int) (w : Int) t s = ((((wkr (rcode bs) t gd a u w L s).2.2 0).2.2 && decide (((wkr (rcode bs) t gd a u w L s).2.2 0).2.1 < t), 0), true, gw a u w gd (wkr (rcode bs) t gd a u w L s).2.2 L, (wkr (rcode bs) t gd a u w L s).2.1) := by
    unfold decR decW
    rw [if_neg (by simp), if_pos ⟨hi, h0, h1⟩, Int.toNat_natCast, Int.toNat_natCast, if_pos w1]
  rw [ed]
  simp only
  have g0 := wg 0 (by omega)
  have p0 := wp 0 (by omega)
  have hv : (G 0 (ix a u w 0)).1 = V (ix a u w 0) := hM.v _
  have h3 := w3 0
  have less : (((wkr (rcode bs) t gd a u w L s).2.2 0).2.2 && decide (((wkr (rcode bs) t gd a u w L s).2.2 0).2.1 < t)) = decide (V (ix a u w 0) < t) := by
    rw [h3]
    cases hk : ((wkr wcode t G a u w L []).2.2 0).2.2
    · rw [Bool.false_and]
      symm
      rcases p0 with p0 | p0
      · exact decide_eq_false (by have := g0.1.1; omega)
      · rw [hk] at p0; cases p0
    · rw [Bool.true_and]
      have := g0.1.2 hk
      exact decide_eq_decide.2 (by omega)
  refine ⟨⟨fun j => ?_, (fun hh => by cases hh), fun _ => ⟨fun i j => ?_, fun x' y' hx' hy' i hi' => ?_⟩⟩, by rw [less], w2, fun i j => ?_, fun hlt => ?_⟩
  · unfold gw
    rw [if_pos (show 0 < L from hL)]
    by_cases hj : j = ix a u w 0
    · rw [hj, upd_at, g0.2]; exact hv
    · rw [upd_ne _ _ hj]; exact hM.v j
  · unfold gw
    split
    · rename_i hiL
      by_cases hj : j = ix a u w i
      · rw [hj, upd_at]; exact (wg i hiL).1
      · rw [upd_ne _ _ hj]; exact hgood i j
    · exact hgood i j
  · have key : ∀ i j, (gw a u w G (wkr wcode t G a u w L []).2.2 L i j).1 = (G i j).1 := fun i j => by
      unfold gw
      split
      · rename_i hiL
        by_cases hj : j = ix a u w i
        · rw [hj, upd_at, (wg i hiL).2]
        · rw [upd_ne _ _ hj]
      · rfl
    rw [key, key]
    exact hmono x' y' hx' hy' i hi'
  · unfold gw
    split
    · by_cases hj : j = ix a u w i
      · rw [hj, upd_at, upd_at]; exact (w3 i).symm
      · rw [upd_ne _ _ hj, upd_ne _ _ hj, hM2]; exact hs i j
    · rw [hM2]; exact hs i j
  · have hk : ((wkr (rcode bs) t gd a u w L s).2.2 0).2.2 = true := by
      rw [decide_eq_true hlt] at less
      rw [Bool.and_eq_true] at less
      exact less.1
    have hlow : ((wkr (rcode bs) t gd a u w L s).2.2 0).2.1 = V (ix a u w 0) := by
      have h4 := hk
      rw [h3] at h4 ⊢
      rw [g0.1.2 h4, g0.2]; exact hv
    unfold valR
    rw [Int.toNat_natCast, Int.toNat_natCast, gw_ix (show 0 < L from hL), if_pos ⟨hi, hk⟩, hlow]
end Go.Proofs.Ytblkejnciinaeaa.Sh
