/- For every coefficient, step and dead-zone parameter, Valid, Threshold and Quantize return what the reference returns, and the chapter's examples hold. No condition. -/
import Derived.Test.YtloncbnceccbaaaQx6
import Derived.Test.YtloncbnceccbaaaArith
namespace Go.Proofs.Ytloncbnceccbaaa.Pure
open Go.RowKit Go.Proofs.Ytloncbnceccbaaa.Q Go.Proofs.Ytloncbnceccbaaa.Arith Go.Proofs.YtloncbnceccbaaaW.PrintWords Go.Proofs.YtloncbnceccbaaaW.PrintLast Go.Proofs.YtloncbnceccbaaaW.PrintMore
theorem QuantIndexes : waveletlaw08_QuantIndexes.Pure := by
  intro c s d _ _ _
  refine ⟨80, ?_⟩
  unfold waveletlaw08_QuantIndexes.f
  rw [valid_f, ref_valid_f, threshold_f, ref_threshold_f, quantize_f, ref_quantize_f 78, example_holds]
  simp
end Go.Proofs.Ytloncbnceccbaaa.Pure
