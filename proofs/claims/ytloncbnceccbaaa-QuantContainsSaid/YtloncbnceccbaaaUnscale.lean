/- What Unscale comes to, as a plain function. -/
import Derived.Test.YtloncbnceccbaaaQx6
import Derived.Test.YtloncbnceccbaaaArith
namespace Go.Proofs.Ytloncbnceccbaaa.Arith
open Go.RowKit Go.Proofs.Ytloncbnceccbaaa.Q Go.Proofs.Ytloncbnceccbaaa.Arith Go.Proofs.YtloncbnceccbaaaW.PrintWords Go.Proofs.YtloncbnceccbaaaW.PrintLast Go.Proofs.YtloncbnceccbaaaW.PrintMore
theorem tdiv_bounds (v : Int) {p : Int} (hp : 1 ≤ p) (h0 : -9223372036854775808 ≤ v) (h1 : v ≤ 9223372036854775807) : -9223372036854775808 ≤ Int.tdiv v p ∧ Int.tdiv v p ≤ 9223372036854775807 := by
  by_cases a : 0 ≤ v
  · rw [Int.tdiv_eq_ediv_of_nonneg a]
    have := quot_bounds a hp
    omega
  · have e : Int.tdiv v p = -(Int.tdiv (-v) p) := by rw [Int.neg_tdiv, Int.neg_neg]
    rw [e, Int.tdiv_eq_ediv_of_nonneg (by omega)]
    have := quot_bounds (x := -v) (by omega) hp
    omega
theorem tdiv_zero {v p : Int} (hp : 1 ≤ p) : Int.tdiv v p = 0 ↔ -p < v ∧ v < p := by
  by_cases a : 0 ≤ v
  · rw [Int.tdiv_eq_ediv_of_nonneg a]
    constructor
    · intro h
      refine ⟨by omega, ?_⟩
      rcases Int.lt_or_le v p with h1 | h1
      · exact h1
      · have : 1 ≤ v / p := Int.le_ediv_of_mul_le (by omega) (by omega)
        omega
    · intro h
      exact Int.ediv_eq_zero_of_lt a h.2
  · have e : Int.tdiv v p = -(Int.tdiv (-v) p) := by rw [Int.neg_tdiv, Int.neg_neg]
    rw [e, Int.tdiv_eq_ediv_of_nonneg (by omega)]
    constructor
    · intro h
      refine ⟨?_, by omega⟩
      rcases Int.lt_or_le (-v) p with h1 | h1
      · omega
      · have : 1 ≤ (-v) / p := Int.le_ediv_of_mul_le (by omega) (by omega)
        omega
    · intro h
      rw [Int.ediv_eq_zero_of_lt (by omega) (by omega)]
      rfl
theorem pow30 {s : Int} (h0 : 0 ≤ s) (h1 : s ≤ 30) : 1 ≤ (2 : Int) ^ s.toNat ∧ (2 : Int) ^ s.toNat ≤ 1073741824 := by
  have : ∀ i : Fin 31, 1 ≤ (2 : Int) ^ i.val ∧ (2 : Int) ^ i.val ≤ 1073741824 := by decide +kernel
  exact this ⟨s.toNat, by omega⟩
theorem i64w (x : Int) : IntKind.i64.wrap x = wrap64 x := i64_w x
theorem shl_one {s : Int} (h0 : 0 ≤ s) (h1 : s ≤ 30) : shl .i64 1 s = 2 ^ s.toNat := by
  have := pow30 h0 h1
  unfold shl
  rw [i64w, Nat.min_eq_left (by simp [IntKind.bits]; omega), Int.one_mul, wid (by omega) (by omega)]
/-- Unscale, for arguments that are int's. -/
def U (v m s : Int) : Int × Int :=
  if 1 ≤ s ∧ s ≤ 30 ∧ 0 ≤ m ∧ m ≤ 60 then
    (if Int.tdiv v (2 ^ s.toNat) = 0 then (v, mn m s) else (Int.tdiv v (2 ^ s.toNat), mx 0 (m - s)))
  else (v, m)
theorem unscale_f (k : Nat) {v m s : Int} (h0 : -9223372036854775808 ≤ v) (h1 : v ≤ 9223372036854775807) : quant_Unscale.f (k + 1) v m s = some (U v m s) := by
  unfold quant_Unscale.f U
  simp only [quant_Unscale.j0]
  by_cases a : s < 1
  · rw [if_pos a, if_pos trivial, if_neg (by omega)]
  · rw [if_neg a]
    by_cases b : s > 30
    · rw [if_pos b, if_pos trivial, if_neg (by omega)]
    · rw [if_neg b]
      by_cases c : m < 0
      · rw [if_pos c, if_pos trivial, if_neg (by omega)]
      · rw [if_neg c]
        by_cases d : m > 60
        · rw [decide_eq_true d, if_pos rfl, if_neg (by omega)]
        · have hp := pow30 (s := s) (by omega) (by omega)
          rw [decide_eq_false d, if_neg (by decide), if_pos (show 0 ≤ s by omega), shl_one (by omega) (by omega), if_pos (show 1 ≤ s ∧ s ≤ 30 ∧ 0 ≤ m ∧ m ≤ 60 by omega)]
          generalize (2 : Int) ^ s.toNat = p at hp
          have ht := tdiv_bounds v hp.1 h0 h1
          rw [if_neg (by omega), wid ht.1 ht.2]
          by_cases e : Int.tdiv v p = 0
          · rw [if_pos e, if_pos e]
          · rw [if_neg e, if_neg e, wid (by omega) (by omega)]
end Go.Proofs.Ytloncbnceccbaaa.Arith
