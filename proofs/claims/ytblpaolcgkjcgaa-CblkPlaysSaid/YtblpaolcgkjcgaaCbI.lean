/- Cblk: values and flags agree all alike. -/
import Derived.Test.YtblpaolcgkjcgaaCbG
import Derived.Test.YtblpaolcgkjcgaaCbD1
set_option linter.unusedVariables false
set_option linter.unusedSimpArgs false
namespace Go.Proofs.Ytblpaolcgkjcgaa.Sh
open Go.Proofs.Ytblpaolcgkjcgaa.FW
theorem alike_l1_ok (k : Nat) {N a1 a2 b1 b2 w h : Nat} {g : Nat → Cel} (y : Int) : ∀ (m n : Nat) (x : Int), m < n → (w : Int) + 1 = x + m → -1 ≤ x → ∀ (H : Heap), Two N H a1 a2 b1 b2 w h g →
    ∃ H', (∀ (R : Type) (KE : Option Addr → Option Addr → Int → Int → Int → Heap → Option R) (KR : Bool → Heap → Option R), L_alike_l1 k KE KR n (some ⟨a1, 0, none⟩) (some ⟨b1, 0, none⟩) (w : Int) (h : Int) y x H = KE (some ⟨a1, 0, none⟩) (some ⟨b1, 0, none⟩) w h y H') ∧ Two N H' a1 a2 b1 b2 w h g ∧ Old H.length H H' := by
  intro m
  induction m with
  | zero =>
    intro n x hn hx h0 H T
    obtain ⟨n, rfl⟩ : ∃ n', n = n' + 1 := ⟨n - 1, by omega⟩
    refine ⟨H, fun R KE KR => ?_, T, .refl _ _⟩
    show L_alike_l1_b _ _ _ _ _ _ _ _ _ _ _ _ = _
    unfold L_alike_l1_b
    have ed : decide (x ≤ (w : Int)) = false := by simp; omega
    rw [ed, cond_false]
  | succ m ih =>
    intro n x hn hx h0 H T
    obtain ⟨n, rfl⟩ : ∃ n', n = n' + 1 := ⟨n - 1, by omega⟩
    obtain ⟨H1, e1, o1⟩ := ValueR_eq T.b.r x y
    have T1 := T.keep o1
    obtain ⟨H2, e2, o2⟩ := SignificantR_eq T1.b.r x y
    have T2 := T1.keep o2
    obtain ⟨H3, e3, o3⟩ := TouchedR_eq T2.b.r x y
    have T3 := T2.keep o3
    obtain ⟨H4, e4, o4⟩ := RefinedR_eq T3.b.r x y
    have T4 := T3.keep o4
    have hl1 := o1.1
    have hl2 := o2.1
    have hl3 := o3.1
    have hl4 := o4.1
    obtain ⟨H', i1, i2, i3⟩ := ih n (x + 1) (by omega) (by omega) (by omega) H4 T4
    refine ⟨H', fun R KE KR => ?_, i2, o1.trans ((o2.mono (by omega)).trans ((o3.mono (by omega)).trans ((o4.mono (by omega)).trans (i3.mono (by omega)))))⟩
    refine Eq.trans ?_ (i1 R KE KR)
    have hw := T.a.r.bw
    show L_alike_l1_b _ _ _ _ _ _ _ _ _ _ _ _ = _
    unfold L_alike_l1_b L_alike_p2 L_alike_p2_b
    have ed : decide (x ≤ (w : Int)) = true := by simp; omega
    rw [ed, cond_true]
    simp only [Value_eq k T.a.r, e1, Significant_eq k T1.a.r, e2, Touched_eq k T2.a.r, e3, Refined_eq k T3.a.r, e4, bne_self_eq_false, beq_self_eq_true, Bool.not_true, cond_false]
    rw [w64 (by omega) (by omega)]
theorem alike_l0_ok (k : Nat) {N a1 a2 b1 b2 w h : Nat} {g : Nat → Cel} (hk : 70 < k) : ∀ (m n : Nat) (y : Int), m < n → (h : Int) + 1 = y + m → -1 ≤ y → ∀ (H : Heap), Two N H a1 a2 b1 b2 w h g →
    ∃ H', (∀ (R : Type) (KE : Heap → Option R) (KR : Bool → Heap → Option R), L_alike_l0 k KE KR n (some ⟨a1, 0, none⟩) (some ⟨b1, 0, none⟩) (w : Int) (h : Int) y H = KE H') ∧ Two N H' a1 a2 b1 b2 w h g ∧ Old H.length H H' := by
  intro m
  induction m with
  | zero =>
    intro n y hn hx h0 H T
    obtain ⟨n, rfl⟩ : ∃ n', n = n' + 1 := ⟨n - 1, by omega⟩
    refine ⟨H, fun R KE KR => ?_, T, .refl _ _⟩
    show L_alike_l0_b _ _ _ _ _ _ _ _ _ _ _ = _
    unfold L_alike_l0_b
    have ed : decide (y ≤ (h : Int)) = false := by simp; omega
    rw [ed, cond_false]
  | succ m ih =>
    intro n y hn hx h0 H T
    obtain ⟨n, rfl⟩ : ∃ n', n = n' + 1 := ⟨n - 1, by omega⟩
    have hw := T.a.r.bw
    have hh := T.a.r.bh
    obtain ⟨H1, e1, T1, o1⟩ := alike_l1_ok k y (w + 2) k (-1) (by omega) (by omega) (by omega) H T
    obtain ⟨H', i1, i2, i3⟩ := ih n (y + 1) (by omega) (by omega) (by omega) H1 T1
    refine ⟨H', fun R KE KR => ?_, i2, o1.trans (i3.mono o1.1)⟩
    refine Eq.trans ?_ (i1 R KE KR)
    show L_alike_l0_b _ _ _ _ _ _ _ _ _ _ _ = _
    unfold L_alike_l0_b
    have ed : decide (y ≤ (h : Int)) = true := by simp; omega
    rw [ed, cond_true]
    refine Eq.trans (e1 R _ _) ?_
    rw [w64 (by omega) (by omega)]
theorem alike_eq (k : Nat) {N a1 a2 b1 b2 w h : Nat} {g : Nat → Cel} (hk : 70 < k) {H : Heap} (T : Two N H a1 a2 b1 b2 w h g) :
    ∃ H', (∀ (R : Type) (K : Bool → Heap → Option R), L_alike k (some ⟨a1, 0, none⟩) (some ⟨b1, 0, none⟩) (w : Int) (h : Int) H K = K true H') ∧ Two N H' a1 a2 b1 b2 w h g ∧ Old H.length H H' := by
  have hh := T.a.r.bh
  obtain ⟨H', e, T', o⟩ := alike_l0_ok k hk (h + 2) k (-1) (by omega) (by omega) (by omega) H T
  exact ⟨H', fun R K => by unfold L_alike L_alike_b; exact e R _ _, T', o⟩
end Go.Proofs.Ytblpaolcgkjcgaa.Sh
