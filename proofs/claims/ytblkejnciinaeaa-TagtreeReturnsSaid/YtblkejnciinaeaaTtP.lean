/- Tagtree: laws of a walk. -/
import Derived.Test.YtblkejnciinaeaaTtG
set_option linter.unusedVariables false
set_option linter.unusedSimpArgs false
namespace Go.Proofs.Ytblkejnciinaeaa.Sh
open Go.Proofs.Ytblkejnciinaeaa.FW Go.IntWalk
theorem imx_ge (a b : Int) : a ≤ imx a b ∧ b ≤ imx a b := by unfold imx; split <;> omega
theorem imx_l {a b : Int} (h : b ≤ a) : imx a b = a := by unfold imx; split <;> omega
/-- What a node is after its loop. -/
theorem nlp_end {S : Type} (code : Cod S) (t : Int) : ∀ (m : Nat) (s : S) (n : Nd), (t - n.2.1).toNat ≤ m → (nlp code m s n).1 = 0 → (t ≤ (nlp code m s n).2.2.2.1 ∨ (nlp code m s n).2.2.2.2 = true) ∧ n.2.1 ≤ (nlp code m s n).2.2.2.1 := by
  intro m
  induction m with
  | zero => intro s n h _; exact ⟨.inl (by simp only [nlp]; omega), Int.le_refl _⟩
  | succ m ih =>
    intro s n h
    rw [nlp]
    split
    · rename_i hk; intro _; exact ⟨.inr hk, Int.le_refl _⟩
    · split
      · rename_i h1; intro h2; exact (h1 h2).elim
      · split
        · intro _; exact ⟨.inr rfl, Int.le_refl _⟩
        · intro h2
          have := ih _ (n.1, n.2.1 + 1, n.2.2) (by simp only; omega) h2
          exact ⟨this.1, by have := this.2; simp only at this; omega⟩
theorem wk_pf {S : Type} (code : Cod S) (t : Int) (f : Nat → Nd) : ∀ (m : Nat) (low : Int) (s : S) (pf : Nat → Nd) (i : Nat), m ≤ i → (wk code t f m low s pf).2.2 i = pf i := by
  intro m
  induction m with
  | zero => intro low s pf i _; rfl
  | succ m ih =>
    intro low s pf i hi
    rw [wk]
    split
    · rfl
    · rw [ih _ _ _ _ (by omega), upd_ne _ _ (by omega)]
theorem wk_path {S : Type} (code : Cod S) (t : Int) (f : Nat → Nd) : ∀ (m : Nat) (low : Int) (s : S) (pf : Nat → Nd), (wk code t f m low s pf).1 = 0 →
    (∀ i, i < m → t ≤ ((wk code t f m low s pf).2.2 i).2.1 ∨ ((wk code t f m low s pf).2.2 i).2.2 = true) ∧ (∀ i, i + 1 < m → ((wk code t f m low s pf).2.2 (i + 1)).2.1 ≤ ((wk code t f m low s pf).2.2 i).2.1) ∧ (0 < m → low ≤ ((wk code t f m low s pf).2.2 (m - 1)).2.1) := by
  intro m
  induction m with
  | zero => intro low s pf _; exact ⟨fun i h => by omega, fun i h => by omega, fun h => by omega⟩
  | succ m ih =>
    intro low s pf
    rw [wk]
    split
    · rename_i h; intro h2; exact (h h2).elim
    · rename_i hr
      have hr0 : (nl code t s ((f m).1, imx (f m).2.1 low, (f m).2.2)).1 = 0 := by simpa using hr
      intro h
      obtain ⟨g1, g2, g3⟩ := ih _ _ _ h
      have hm := wk_pf code t f m (nl code t s ((f m).1, imx (f m).2.1 low, (f m).2.2)).2.2.2.1 (nl code t s ((f m).1, imx (f m).2.1 low, (f m).2.2)).2.1 (upd pf m (nl code t s ((f m).1, imx (f m).2.1 low, (f m).2.2)).2.2) m (Nat.le_refl _)
      rw [upd_at] at hm
      have he := nlp_end code t _ s _ (Nat.le_refl _) hr0
      refine ⟨fun i hi => ?_, fun i hi => ?_, fun _ => ?_⟩
      · by_cases h2 : i < m
        · exact g1 i h2
        · obtain rfl : i = m := by omega
          rw [hm]; exact he.1
      · by_cases h2 : i + 1 < m
        · exact g2 i h2
        · obtain rfl : m = i + 1 := by omega
          rw [hm]
          have := g3 (by omega)
          rwa [show i + 1 - 1 = i from by omega] at this
      · rw [show m + 1 - 1 = m from by omega, hm]
        have := (imx_ge (f m).2.1 low).2
        have h3 : imx (f m).2.1 low ≤ (nl code t s ((f m).1, imx (f m).2.1 low, (f m).2.2)).2.2.2.1 := he.2
        omega
/-- A walk along nodes that are done. -/
theorem nlp_done {S : Type} (code : Cod S) (m : Nat) (s : S) (n : Nd) (h : m = 0 ∨ n.2.2 = true) : nlp code m s n = (0, s, n) := by
  cases m with
  | zero => rfl
  | succ m =>
    rw [nlp, if_pos]
    rcases h with h | h
    · omega
    · exact h
theorem wk_done {S : Type} (code : Cod S) (t : Int) (f : Nat → Nd) : ∀ (m : Nat) (low : Int) (s : S) (pf : Nat → Nd), (∀ i, i < m → t ≤ (f i).2.1 ∨ (f i).2.2 = true) → (∀ i, i + 1 < m → (f (i + 1)).2.1 ≤ (f i).2.1) → (0 < m → low ≤ (f (m - 1)).2.1) →
    (wk code t f m low s pf).1 = 0 ∧ (wk code t f m low s pf).2.1 = s ∧ ∀ i, i < m → (wk code t f m low s pf).2.2 i = f i := by
  intro m
  induction m with
  | zero => intro low s pf _ _ _; exact ⟨rfl, rfl, fun i h => by omega⟩
  | succ m ih =>
    intro low s pf h1 h2 h3
    have hl : low ≤ (f m).2.1 := by have := h3 (by omega); rwa [show m + 1 - 1 = m from by omega] at this
    have e : nl code t s ((f m).1, imx (f m).2.1 low, (f m).2.2) = (0, s, f m) := by
      rw [imx_l hl]
      exact nlp_done _ _ _ _ (by rcases h1 m (by omega) with h | h; exact .inl (by simp only; omega); exact .inr h)
    rw [wk, if_neg (by rw [e]; simp), e]
    obtain ⟨g1, g2, g3⟩ := ih (f m).2.1 s (upd pf m (f m)) (fun i hi => h1 i (by omega)) (fun i hi => h2 i (by omega)) (fun h => by have := h2 (m - 1) (by omega); rwa [show m - 1 + 1 = m from by omega] at this)
    refine ⟨g1, g2, fun i hi => ?_⟩
    by_cases h : i < m
    · exact g3 i h
    · obtain rfl : i = m := by omega
      rw [wk_pf _ _ _ _ _ _ _ _ (Nat.le_refl _), upd_at]
theorem gw_self {a x y : Nat} {g : Nat → Nat → Nd} {pf : Nat → Nd} {n : Nat} (h : ∀ i, i < n → pf i = g i (ix a x y i)) : gw a x y g pf n = g := by
  funext i
  unfold gw
  split
  · rename_i hi
    funext j
    unfold upd
    split
    · rename_i hj; rw [h i hi, hj]
    · rfl
  · rfl
theorem gw_ix {a x y : Nat} {g : Nat → Nat → Nd} {pf : Nat → Nd} {n i : Nat} (h : i < n) : gw a x y g pf n i (ix a x y i) = pf i := by
  unfold gw; rw [if_pos h, upd_at]
/-- After a walk that came to its end, another one up to no more changes nothing. -/
theorem wkr_again {S : Type} (code : Cod S) {t t2 : Int} (ht : t2 ≤ t) {g : Nat → Nat → Nd} {a x y L : Nat} {s : S} (h : (wkr code t g a x y L s).1 = 0) (hg : Gok g) (s2 : S) :
    (wkr code t2 (gw a x y g (wkr code t g a x y L s).2.2 L) a x y L s2).1 = 0 ∧ (wkr code t2 (gw a x y g (wkr code t g a x y L s).2.2 L) a x y L s2).2.1 = s2 ∧ gw a x y (gw a x y g (wkr code t g a x y L s).2.2 L) (wkr code t2 (gw a x y g (wkr code t g a x y L s).2.2 L) a x y L s2).2.2 L = gw a x y g (wkr code t g a x y L s).2.2 L := by
  have hk := wkr_ok code t hg a x y L s
  unfold wkr at *
  obtain ⟨g1, g2, g3⟩ := wk_path code t _ L 0 s (fun _ => nz) h
  have e : ∀ i, i < L → gw a x y g (wk code t (fun i => g i (ix a x y i)) L 0 s (fun _ => nz)).2.2 L i (ix a x y i) = (wk code t (fun i => g i (ix a x y i)) L 0 s (fun _ => nz)).2.2 i := fun i hi => gw_ix hi
  obtain ⟨d1, d2, d3⟩ := wk_done code t2 (fun i => gw a x y g (wk code t (fun i => g i (ix a x y i)) L 0 s (fun _ => nz)).2.2 L i (ix a x y i)) L 0 s2 (fun _ => nz) (fun i hi => by
    rw [e i hi]
    rcases g1 i hi with h | h
    · exact .inl (by omega)
    · exact .inr h) (fun i hi => by rw [e i (by omega), e (i + 1) hi]; exact g2 i hi) (fun h0 => by rw [e _ (by omega)]; exact g3 h0)
  exact ⟨d1, d2, gw_self d3⟩
theorem nlp_len (t : Int) : ∀ (m : Nat) (s : List Int) (n : Nd), m = (t - n.2.1).toNat → (nlp wcode m s n).2.1.length + (t - (nlp wcode m s n).2.2.2.1).toNat ≤ s.length + 1 + (t - n.2.1).toNat := by
  intro m
  induction m with
  | zero => intro s n h; simp only [nlp]; omega
  | succ m ih =>
    intro s n h
    rw [nlp_ws]
    split
    · simp only; omega
    · split
      · simp only [List.length_append, List.length_cons, List.length_nil]; omega
      · have := ih (s ++ [0]) (n.1, n.2.1 + 1, n.2.2) (by simp only; omega)
        simp only [List.length_append, List.length_cons, List.length_nil] at this
        omega
theorem wk_len (t : Int) (f : Nat → Nd) : ∀ (m : Nat) (low : Int) (s : List Int) (pf : Nat → Nd), (wk wcode t f m low s pf).2.1.length ≤ s.length + m + (t - low).toNat := by
  intro m
  induction m with
  | zero => intro low s pf; simp [wk]
  | succ m ih =>
    intro low s pf
    rw [wk_ws]
    have h1 := ih (nl wcode t [] ((f m).1, imx (f m).2.1 low, (f m).2.2)).2.2.2.1 (s ++ (nl wcode t [] ((f m).1, imx (f m).2.1 low, (f m).2.2)).2.1) (upd pf m (nl wcode t [] ((f m).1, imx (f m).2.1 low, (f m).2.2)).2.2)
    have h2 : (nl wcode t [] ((f m).1, imx (f m).2.1 low, (f m).2.2)).2.1.length + (t - (nl wcode t [] ((f m).1, imx (f m).2.1 low, (f m).2.2)).2.2.2.1).toNat ≤ 0 + 1 + (t - imx (f m).2.1 low).toNat := nlp_len t _ [] _ rfl
    have h3 := (imx_ge (f m).2.1 low).2
    rw [List.length_append] at h1
    omega
theorem encB_len (a b L : Nat) (e : Bool) (g : Nat → Nat → Nd) (x y : Nat) (t : Int) : (encB a b L e g x y t).length ≤ L + t.toNat := by
  have := wk_len t (fun i => encM a b L e g i (ix a x y i)) L 0 [] (fun _ => nz)
  unfold encB wkr
  simp only [List.length_nil] at this
  omega
theorem encR_len {a b L : Nat} {e d : Bool} {g : Nat → Nat → Nd} {x y t : Int} : (encR a b L e d g x y t).2.2.2.length ≤ if (encR a b L e d g x y t).1 = 0 then L + t.toNat else 0 := by
  unfold encR
  split
  · simp
  · split
    · simp only [if_true]; exact encB_len _ _ _ _ _ _ _ _
    · simp
theorem encR_zero {a b L : Nat} {e d : Bool} {g : Nat → Nat → Nd} {x y t : Int} (h : (encR a b L e d g x y t).1 = 0) : d = false ∧ ins a b x y = true ∧ 0 ≤ t ∧ t ≤ 65536 ∧ encR a b L e d g x y t = (0, true, encG a b L e g x.toNat y.toNat t, encB a b L e g x.toNat y.toNat t) := by
  unfold encR at *
  split at h
  · simp at h
  · rename_i hd
    split at h
    · rename_i hh
      refine ⟨by simpa using hd, hh.1, hh.2.1, hh.2.2, ?_⟩
      rw [if_neg hd, if_pos hh]
    · simp at h
theorem encR_again {a b L : Nat} {e d : Bool} {g : Nat → Nat → Nd} {x y t t2 : Int} (hg : Gok g) (h : (encR a b L e d g x y t).1 = 0) (h0 : 0 ≤ t2) (ht : t2 ≤ t) : encR a b L (encR a b L e d g x y t).2.1 d (encR a b L e d g x y t).2.2.1 x y t2 = (0, true, (encR a b L e d g x y t).2.2.1, []) := by
  obtain ⟨hd, hi, h1, h2, er⟩ := encR_zero h
  rw [er]
  simp only
  have hw : (wkr wcode t (encM a b L e g) a x.toNat y.toNat L []).1 = 0 := by rw [wkr_w]
  obtain ⟨d1, d2, d3⟩ := wkr_again wcode ht hw (encM_ok hg) []
  have eM : encM a b L true (encG a b L e g x.toNat y.toNat t) = encG a b L e g x.toNat y.toNat t := if_pos rfl
  unfold encR
  rw [hd, if_neg (by simp), if_pos ⟨hi, h0, by omega⟩]
  have eG : encG a b L true (encG a b L e g x.toNat y.toNat t) x.toNat y.toNat t2 = encG a b L e g x.toNat y.toNat t := by
    conv => lhs; unfold encG
    rw [show encM a b L true (gw a x.toNat y.toNat (encM a b L e g) (wkr wcode t (encM a b L e g) a x.toNat y.toNat L []).2.2 L) = (gw a x.toNat y.toNat (encM a b L e g) (wkr wcode t (encM a b L e g) a x.toNat y.toNat L []).2.2 L) from if_pos rfl]
    exact d3
  have eB : encB a b L true (encG a b L e g x.toNat y.toNat t) x.toNat y.toNat t2 = [] := by
    unfold encB
    rw [eM]
    exact d2
  rw [eG, eB]
end Go.Proofs.Ytblkejnciinaeaa.Sh
