/- Bound returns the bound of the reference. -/
import Derived.Test.YtoeoolnkndkefaaClC
import Derived.Test.YtoeoolnkndkefaaSh17
set_option linter.unusedVariables false
set_option linter.unusedSimpArgs false
namespace Go.Proofs.Ytoeoolnkndkefaa.Sh
open Go.Proofs.Ytoeoolnkndkefaa.FW
theorem BoundR_eq {R : Type} (k : Nat) (hk : 70 < k) (t d : Int) (K : Int → Option R) : R07_Bound k t d K = K (bnd t d) := by
  unfold R07_Bound R07_Bound_b R07_Bound_p0 R07_Bound_p0_b bnd
  simp only [knownR_eq]
  cases kn t with
  | false => rfl
  | true =>
    simp only [Bool.not_true, cond_false, Bool.true_and]
    by_cases c1 : d < 1
    · have e1 : decide (d < 1) = true := decide_eq_true c1
      have e2 : dp d = false := by unfold dp; simp; omega
      rw [e1, e2]; rfl
    · have e1 : decide (d < 1) = false := decide_eq_false c1
      by_cases c2 : d > 16
      · have e3 : decide (d > 16) = true := decide_eq_true c2
        have e2 : dp d = false := by unfold dp; simp; omega
        rw [e1, e2, e3]; rfl
      · have e3 : decide (d > 16) = false := decide_eq_false c2
        have e2 : dp d = true := by unfold dp; simp; omega
        rw [w64 (n := d - 1) (by omega) (by omega), e1, e2, e3]
        simp only [cond_false, cond_true, power_eq k hk (n := d - 1) (by omega) (by omega), power_eq k hk (n := d) (by omega) (by omega)]
        cases t == 0 <;> rfl
theorem bounds_in (H : Heap) (us : List Value) (h : AllLies H [(.int .i64, false), (.int .i64, false)] us) : L_ColorBounds_c Bool 100 us H asB = some true := by
  obtain ⟨t, _, rfl, _, h1⟩ := lies_int h
  obtain ⟨d, _, rfl, _, h2⟩ := lies_int h1
  cases lies_nil h2
  show L_ColorBounds 100 t d (fun t => asB (.bool t) H) = some true
  unfold L_ColorBounds L_ColorBounds_b
  rw [Bound_eq, BoundR_eq 100 (by omega)]
  simp only [beq_self_eq_true, cond_true]
  rfl
end Go.Proofs.Ytoeoolnkndkefaa.Sh
