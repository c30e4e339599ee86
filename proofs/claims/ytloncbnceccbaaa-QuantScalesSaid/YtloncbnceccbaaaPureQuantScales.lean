/- Unscale restores an index that was multiplied by a power of 2, and leaves a lesser one; the chapter's examples hold. For every input. -/
import Derived.Test.YtloncbnceccbaaaQx9
import Derived.Test.YtloncbnceccbaaaUnscale
namespace Go.Proofs.Ytloncbnceccbaaa.Pure
open Go.RowKit Go.Proofs.Ytloncbnceccbaaa.Q Go.Proofs.Ytloncbnceccbaaa.Arith Go.Proofs.YtloncbnceccbaaaW.PrintWords Go.Proofs.YtloncbnceccbaaaW.PrintLast Go.Proofs.YtloncbnceccbaaaW.PrintMore
theorem QuantScales : waveletlaw08_QuantScales.Pure := by
  intro v b hv hb
  have hv' : 0 ≤ v ∧ v ≤ 4294967295 := by
    simp only [Lit.wf, IntKind.min, IntKind.max, IntKind.signed, IntKind.bits, Bool.and_eq_true] at hv
    exact ⟨by simpa using hv.1, by have := hv.2; simp at this; omega⟩
  have hb' : 0 ≤ b ∧ b ≤ 255 := by
    simp only [Lit.wf, IntKind.min, IntKind.max, IntKind.signed, IntKind.bits, Bool.and_eq_true] at hb
    exact ⟨by simpa using hb.1, by have := hb.2; simp at this; omega⟩
  refine ⟨80, ?_⟩
  unfold waveletlaw08_QuantScales.f
  rw [wid (x := b) (by omega) (by omega), wid (x := v) (by omega) (by omega), Int.tmod_eq_emod_of_nonneg hb'.1, wid (x := b % 30 + 1) (by omega) (by omega)]
  obtain ⟨s, hs⟩ : ∃ s, b % 30 + 1 = s := ⟨_, rfl⟩
  rw [hs]
  have s0 : 1 ≤ s ∧ s ≤ 30 := by omega
  have hp := pow30 (s := s) (by omega) (by omega)
  rw [if_pos (show 0 ≤ s by omega), shl_one (by omega) (by omega)]
  rw [if_neg (show ¬ (2 : Int) ^ s.toNat = 0 by omega), Int.tmod_eq_emod_of_nonneg hv'.1]
  have hx : 0 ≤ v % 2 ^ s.toNat ∧ v % 2 ^ s.toNat < 2 ^ s.toNat := ⟨Int.emod_nonneg _ (by omega), Int.emod_lt_of_pos _ (by omega)⟩
  have hsh : ∀ y : Int, shl .i64 y s = wrap64 (y * 2 ^ s.toNat) := fun y => by
    unfold shl
    rw [i64w, Nat.min_eq_left (by simp [IntKind.bits]; omega)]
  rw [hsh, hsh]
  have hU : ∀ y : Int, U y 0 s = if Int.tdiv y (2 ^ s.toNat) = 0 then (y, 0) else (Int.tdiv y (2 ^ s.toNat), 0) := fun y => by
    unfold U mn mx
    rw [if_pos (show 1 ≤ s ∧ s ≤ 30 ∧ 0 ≤ (0 : Int) ∧ (0 : Int) ≤ 60 by omega), if_neg (show ¬ s < 0 by omega), if_neg (show ¬ 0 < 0 - s by omega)]
  generalize (2 : Int) ^ s.toNat = p at hp hx hU
  generalize v % p = x at hx
  have hxp : 0 ≤ x * p ∧ x * p ≤ 1073741824 * 1073741824 := ⟨Int.mul_nonneg hx.1 (by omega), Int.mul_le_mul (by omega) (by omega) (by omega) (by decide)⟩
  rw [wid (x := -x) (by omega) (by omega), Int.neg_mul, wid (x := x * p) (by omega) (by omega), wid (x := -(x * p)) (by omega) (by omega)]
  rw [unscale_f 79 (by omega) (by omega), unscale_f 79 (by omega) (by omega), unscale_f 79 (by omega) (by omega), example_holds]
  have e1 : Int.tdiv (x * p) p = x := Int.mul_tdiv_cancel _ (by omega)
  have e2 : Int.tdiv (-(x * p)) p = -x := by rw [Int.neg_tdiv, e1]
  have e3 : Int.tdiv x p = 0 := (tdiv_zero hp.1).2 ⟨by omega, hx.2⟩
  rw [hU, hU, hU, e1, e2, e3]
  by_cases z : x = 0
  · subst z
    simp
  · simp [z]
end Go.Proofs.Ytloncbnceccbaaa.Pure
