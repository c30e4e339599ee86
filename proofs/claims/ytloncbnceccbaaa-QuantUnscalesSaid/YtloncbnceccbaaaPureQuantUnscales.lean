/- For all integers Unscale returns what the reference returns, and the chapter's examples hold. No condition. -/
import Derived.Test.YtloncbnceccbaaaQx9
import Derived.Test.YtloncbnceccbaaaUnscale
namespace Go.Proofs.Ytloncbnceccbaaa.Pure
open Go.RowKit Go.Proofs.Ytloncbnceccbaaa.Q Go.Proofs.Ytloncbnceccbaaa.Arith Go.Proofs.YtloncbnceccbaaaW.PrintWords Go.Proofs.YtloncbnceccbaaaW.PrintLast Go.Proofs.YtloncbnceccbaaaW.PrintMore
theorem ref_unscale_l (k : Nat) {v m s : Int} (h0 : -9223372036854775808 ≤ v) (h1 : v ≤ 9223372036854775807) (s1 : 1 ≤ s) (s2 : s ≤ 30) (m0 : 0 ≤ m) (m1 : m ≤ 60) :
    ∀ (j : Nat) (i : Nat), i + j = s.toNat → waveletref08_Unscale.l0 (k + j + 1) v m s (2 ^ i) (i : Int) = some (U v m s) := by
  intro j
  induction j with
  | zero =>
    intro i hi
    have hp := pow30 (s := s) (by omega) (by omega)
    simp only [waveletref08_Unscale.l0]
    obtain rfl : i = s.toNat := by omega
    unfold U
    rw [if_neg (show ¬ ((s.toNat : Nat) : Int) < s by omega), if_pos (show 1 ≤ s ∧ s ≤ 30 ∧ 0 ≤ m ∧ m ≤ 60 from ⟨s1, s2, m0, m1⟩)]
    generalize (2 : Int) ^ s.toNat = p at hp
    have ht := tdiv_bounds v hp.1 h0 h1
    have hz := tdiv_zero (v := v) hp.1
    rw [wid ht.1 ht.2, wid (x := -p) (by omega) (by omega), wid (x := m - s) (by omega) (by omega)]
    by_cases a : v ≥ p
    · rw [if_pos a, if_neg (show ¬ p = 0 by omega), if_neg (show ¬ Int.tdiv v p = 0 by omega)]
    · rw [if_neg a]
      by_cases b : v ≤ -p
      · rw [if_pos b, if_neg (show ¬ p = 0 by omega), if_neg (show ¬ Int.tdiv v p = 0 by omega)]
      · rw [if_neg b, if_pos (show Int.tdiv v p = 0 by omega)]
  | succ j ih =>
    intro i hi
    rw [show k + (j + 1) + 1 = (k + j + 1) + 1 by omega, waveletref08_Unscale.l0, if_pos (by omega)]
    have hp := pow30 (s := (i : Int)) (by omega) (by omega)
    rw [Int.toNat_natCast] at hp
    rw [wid (x := 2 * 2 ^ i) (by omega) (by omega), wid (x := (i : Int) + 1) (by omega) (by omega), Int.mul_comm, ← Int.pow_succ]
    exact ih (i + 1) (by omega)
theorem ref_unscale_f {v m s : Int} (h0 : -9223372036854775808 ≤ v) (h1 : v ≤ 9223372036854775807) : waveletref08_Unscale.f 80 v m s = some (U v m s) := by
  unfold waveletref08_Unscale.f
  simp only [waveletref08_Unscale.j0]
  by_cases a : s < 1
  · rw [if_pos a, if_pos trivial]; unfold U; rw [if_neg (by omega)]
  · rw [if_neg a]
    by_cases b : s > 30
    · rw [if_pos b, if_pos trivial]; unfold U; rw [if_neg (by omega)]
    · rw [if_neg b]
      by_cases c : m < 0
      · rw [if_pos c, if_pos trivial]; unfold U; rw [if_neg (by omega)]
      · rw [if_neg c]
        by_cases d : m > 60
        · rw [decide_eq_true d, if_pos rfl]; unfold U; rw [if_neg (by omega)]
        · rw [decide_eq_false d, if_neg (by decide)]
          have := ref_unscale_l (78 - s.toNat) (m := m) (s := s) h0 h1 (by omega) (by omega) (by omega) (by omega) s.toNat 0 (by omega)
          rw [show 78 - s.toNat + s.toNat + 1 = 79 by omega] at this
          exact this
theorem QuantUnscales : waveletlaw08_QuantUnscales.Pure := by
  intro v m s hv _ _
  have hb := i64_bounds hv
  refine ⟨80, ?_⟩
  unfold waveletlaw08_QuantUnscales.f
  rw [unscale_f 79 hb.1 hb.2, ref_unscale_f hb.1 hb.2, example_holds]
  simp
end Go.Proofs.Ytloncbnceccbaaa.Pure
