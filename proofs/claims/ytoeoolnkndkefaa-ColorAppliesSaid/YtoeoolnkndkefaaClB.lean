/- Color: the reference's transforms of a pixel; what the transforms are in plain numbers. -/
import Derived.Test.YtoeoolnkndkefaaClA
set_option linter.unusedVariables false
set_option linter.unusedSimpArgs false
namespace Go.Proofs.Ytoeoolnkndkefaa.Sh
open Go.Proofs.Ytoeoolnkndkefaa.FW
theorem W_range (n : Int) : -9223372036854775808 ≤ W n ∧ W n ≤ 9223372036854775807 := by
  unfold W
  rw [IntKind.wrap_i64]
  omega
theorem fd (n : Int) {d : Int} (hd : 0 ≤ d) : Int.fdiv n d = n / d := Int.fdiv_eq_ediv_of_nonneg n hd
theorem floor_eq {R : Type} {n d : Int} (h0 : -9223372036854775808 ≤ n) (h1 : n ≤ 9223372036854775807) (hd : d = 2 ∨ d = 4) (K : Int → Option R) : R01_FloorDiv n d K = K (Int.fdiv n d) := by
  unfold R01_FloorDiv R01_FloorDiv_b hbin
  have e1 : decide (d < 1) = false := decide_eq_false (by omega)
  simp only [e1, cond_false]
  rw [if_neg (by omega), if_neg (by omega), fd n (by omega), Int.tdiv_eq_ediv, Int.tmod_eq_emod]
  rcases hd with rfl | rfl
  · by_cases c : 0 ≤ n ∨ (2 : Int) ∣ n
    · rw [if_pos c, if_pos c]
      have e2 : decide (n % 2 - ((0 : Nat) : Int) < 0) = false := decide_eq_false (by omega)
      rw [w64 (n := n / 2 + 0) (by omega) (by omega)]
      simp only [e2, cond_false]
      congr 1; omega
    · rw [if_neg c, if_neg c]
      have e2 : decide (n % 2 - ((Int.natAbs 2 : Nat) : Int) < 0) = true := decide_eq_true (by omega)
      have e3 : Int.sign 2 = 1 := rfl
      rw [e3, w64 (n := n / 2 + 1) (by omega) (by omega)]
      simp only [e2, cond_true]
      rw [w64 (n := n / 2 + 1 - 1) (by omega) (by omega)]
      congr 1; omega
  · by_cases c : 0 ≤ n ∨ (4 : Int) ∣ n
    · rw [if_pos c, if_pos c]
      have e2 : decide (n % 4 - ((0 : Nat) : Int) < 0) = false := decide_eq_false (by omega)
      rw [w64 (n := n / 4 + 0) (by omega) (by omega)]
      simp only [e2, cond_false]
      congr 1; omega
    · rw [if_neg c, if_neg c]
      have e2 : decide (n % 4 - ((Int.natAbs 4 : Nat) : Int) < 0) = true := decide_eq_true (by omega)
      have e3 : Int.sign 4 = 1 := rfl
      rw [e3, w64 (n := n / 4 + 1) (by omega) (by omega)]
      simp only [e2, cond_true]
      rw [w64 (n := n / 4 + 1 - 1) (by omega) (by omega)]
      congr 1; omega
theorem ForwardR_eq {R : Type} (t a b c : Int) (K : Int → Int → Int → Option R) : R07_Forward t a b c K = K (fwd t a b c).1 (fwd t a b c).2.1 (fwd t a b c).2.2 := by
  unfold R07_Forward R07_Forward_b fwd
  cases t == 1 with
  | true => simp only [cond_true]; rw [floor_eq (W_range _).1 (W_range _).2 (.inr rfl)]
  | false =>
    cases t == 2 with
    | true => simp only [cond_true, cond_false]; rw [floor_eq (W_range _).1 (W_range _).2 (.inl rfl), floor_eq (W_range _).1 (W_range _).2 (.inl rfl)]
    | false => rfl
theorem InverseR_eq {R : Type} (t a b c : Int) (hb : -9223372036854775808 ≤ b ∧ b ≤ 9223372036854775807) (hc : -9223372036854775808 ≤ c ∧ c ≤ 9223372036854775807) (K : Int → Int → Int → Option R) : R07_Inverse t a b c K = K (inv t a b c).1 (inv t a b c).2.1 (inv t a b c).2.2 := by
  unfold R07_Inverse R07_Inverse_b inv
  cases t == 1 with
  | true => simp only [cond_true]; rw [floor_eq (W_range _).1 (W_range _).2 (.inr rfl)]
  | false =>
    cases t == 2 with
    | true => simp only [cond_true, cond_false]; rw [floor_eq hc.1 hc.2 (.inl rfl), floor_eq hb.1 hb.2 (.inl rfl)]
    | false => rfl
/-- The transforms, when nothing is cut off. -/
theorem fwd_rct {a b c m : Int} (hm : m ≤ 1000000000000000000) (ha : -m ≤ a ∧ a ≤ m) (hb : -m ≤ b ∧ b ≤ m) (hc : -m ≤ c ∧ c ≤ m) : fwd 1 a b c = ((a + 2 * b + c) / 4, c - b, a - b) := by
  unfold fwd
  simp only [beq_self_eq_true, cond_true, W]
  rw [w64 (n := 2 * b) (by omega) (by omega), w64 (n := a + 2 * b) (by omega) (by omega), w64 (n := a + 2 * b + c) (by omega) (by omega), w64 (n := c - b) (by omega) (by omega), w64 (n := a - b) (by omega) (by omega), fd _ (by omega)]
theorem fwd_ycc {a b c m : Int} (hm : m ≤ 1000000000000000000) (ha : -m ≤ a ∧ a ≤ m) (hb : -m ≤ b ∧ b ≤ m) (hc : -m ≤ c ∧ c ≤ m) : fwd 2 a b c = (c + (a - c) / 2 + (b - (c + (a - c) / 2)) / 2, a - c, b - (c + (a - c) / 2)) := by
  unfold fwd
  have : ((2 : Int) == 1) = false := rfl
  simp only [this, beq_self_eq_true, cond_true, cond_false, W]
  rw [w64 (n := a - c) (by omega) (by omega), fd _ (by omega), w64 (n := c + (a - c) / 2) (by omega) (by omega), w64 (n := b - (c + (a - c) / 2)) (by omega) (by omega), fd _ (by omega), w64 (by omega) (by omega)]
theorem inv_rct {a b c m : Int} (hm : m ≤ 1000000000000000000) (ha : -m ≤ a ∧ a ≤ m) (hb : -m ≤ b ∧ b ≤ m) (hc : -m ≤ c ∧ c ≤ m) : inv 1 a b c = (c + (a - (b + c) / 4), a - (b + c) / 4, b + (a - (b + c) / 4)) := by
  unfold inv
  simp only [beq_self_eq_true, cond_true, W]
  rw [w64 (n := b + c) (by omega) (by omega), fd _ (by omega), w64 (n := a - (b + c) / 4) (by omega) (by omega), w64 (n := c + (a - (b + c) / 4)) (by omega) (by omega), w64 (n := b + (a - (b + c) / 4)) (by omega) (by omega)]
theorem inv_ycc {a b c m : Int} (hm : m ≤ 1000000000000000000) (ha : -m ≤ a ∧ a ≤ m) (hb : -m ≤ b ∧ b ≤ m) (hc : -m ≤ c ∧ c ≤ m) : inv 2 a b c = (a - c / 2 - b / 2 + b, c + (a - c / 2), a - c / 2 - b / 2) := by
  unfold inv
  have : ((2 : Int) == 1) = false := rfl
  simp only [this, beq_self_eq_true, cond_true, cond_false, W]
  rw [fd c (by omega), fd b (by omega), w64 (n := a - c / 2) (by omega) (by omega), w64 (n := a - c / 2 - b / 2) (by omega) (by omega), w64 (n := a - c / 2 - b / 2 + b) (by omega) (by omega), w64 (n := c + (a - c / 2)) (by omega) (by omega)]
theorem fwd_no {t a b c : Int} (h1 : t ≠ 1) (h2 : t ≠ 2) : fwd t a b c = (a, b, c) := by
  unfold fwd
  have e1 : (t == 1) = false := by simpa using h1
  have e2 : (t == 2) = false := by simpa using h2
  rw [e1, e2]; rfl
theorem inv_no {t a b c : Int} (h1 : t ≠ 1) (h2 : t ≠ 2) : inv t a b c = (a, b, c) := by
  unfold inv
  have e1 : (t == 1) = false := by simpa using h1
  have e2 : (t == 2) = false := by simpa using h2
  rw [e1, e2]; rfl
/-- Each undoes the other. -/
theorem inv_fwd {t a b c m : Int} (hm : m ≤ 1000000000000000) (ha : -m ≤ a ∧ a ≤ m) (hb : -m ≤ b ∧ b ≤ m) (hc : -m ≤ c ∧ c ≤ m) : inv t (fwd t a b c).1 (fwd t a b c).2.1 (fwd t a b c).2.2 = (a, b, c) := by
  by_cases h1 : t = 1
  · subst h1
    rw [fwd_rct (m := m) (by omega) ha hb hc]
    dsimp only
    rw [inv_rct (m := 4 * m) (by omega) (by omega) (by omega) (by omega)]
    refine Prod.ext ?_ (Prod.ext ?_ ?_) <;> simp only <;> omega
  · by_cases h2 : t = 2
    · subst h2
      rw [fwd_ycc (m := m) (by omega) ha hb hc]
      dsimp only
      rw [inv_ycc (m := 16 * m) (by omega) (by omega) (by omega) (by omega)]
      refine Prod.ext ?_ (Prod.ext ?_ ?_) <;> simp only <;> omega
    · rw [fwd_no h1 h2, inv_no h1 h2]
theorem fwd_inv {t a b c m : Int} (hm : m ≤ 1000000000000000) (ha : -m ≤ a ∧ a ≤ m) (hb : -m ≤ b ∧ b ≤ m) (hc : -m ≤ c ∧ c ≤ m) : fwd t (inv t a b c).1 (inv t a b c).2.1 (inv t a b c).2.2 = (a, b, c) := by
  by_cases h1 : t = 1
  · subst h1
    rw [inv_rct (m := m) (by omega) ha hb hc]
    dsimp only
    rw [fwd_rct (m := 4 * m) (by omega) (by omega) (by omega) (by omega)]
    refine Prod.ext ?_ (Prod.ext ?_ ?_) <;> simp only <;> omega
  · by_cases h2 : t = 2
    · subst h2
      rw [inv_ycc (m := m) (by omega) ha hb hc]
      dsimp only
      rw [fwd_ycc (m := 16 * m) (by omega) (by omega) (by omega) (by omega)]
      refine Prod.ext ?_ (Prod.ext ?_ ?_) <;> simp only <;> omega
    · rw [inv_no h1 h2, fwd_no h1 h2]
theorem bounded_eq {R : Type} (a b c m : Int) (hm : 0 ≤ m ∧ m ≤ 1000000000000000000) (K : Bool → Option R) : L_bounded a b c m K = K (decide (-m ≤ a) && (decide (a ≤ m) && (decide (-m ≤ b) && (decide (b ≤ m) && (decide (-m ≤ c) && decide (c ≤ m)))))) := by
  unfold L_bounded L_bounded_b
  rw [w64 (n := 0 - m) (by omega) (by omega), show 0 - m = -m from by omega]
  cases decide (-m ≤ a) <;> cases decide (a ≤ m) <;> cases decide (-m ≤ b) <;> cases decide (b ≤ m) <;> cases decide (-m ≤ c) <;> rfl
end Go.Proofs.Ytoeoolnkndkefaa.Sh
