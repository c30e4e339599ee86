/- A mode that came in, opened: its five bits. -/
import Derived.Test.YtblpaolcgkjcgaaOpens
import Derived.Test.YtblpaolcgkjcgaaProg
set_option linter.unusedVariables false
set_option linter.unusedSimpArgs false
namespace Go.Proofs.Ytblpaolcgkjcgaa.Opens
open Go.RowKit Go.ChangeShapes Go.WideShapes Go.Proofs.YtblpaolcgkjcgaaW.PrintWords Go.Proofs.YtblpaolcgkjcgaaW.PrintLast Go.Proofs.YtblpaolcgkjcgaaW.PrintMore
theorem b1 : Op Try.prog 4 Kd.bool (fun _ => True) := op_bool Try.underlying4 (by kernel_rfl)
theorem modeOp : Op Try.prog 28 (Kd.pair Kd.bool (Kd.pair Kd.bool (Kd.pair Kd.bool (Kd.pair Kd.bool Kd.bool)))) (fun _ => True) :=
  (op_struct Try.underlying28 (by kernel_rfl) (opF_cons rfl b1 (opF_cons rfl b1 (opF_cons rfl b1 (opF_cons rfl b1 (opF_one rfl b1)))))).mono (fun _ _ => trivial)
theorem mode_open {H : Type} {enc : TypeId × Value → H} {W : World} {base : Nat} {v : Value} {dd : DataW H} {ps : List MemPlace} (hv : Value.okWide Try.prog W .any base 28 v) (h : DataW.Trod enc Try.prog W 0 (fun _ => true) true 28 v dd ps) :
    ∃ b0 b1 b2 b3 b4 : Bool, v = .agg #[.bool b0, .bool b1, .bool b2, .bool b3, .bool b4] := by
  obtain ⟨cs, rfl, _⟩ := okWide_struct Try.underlying28 hv
  obtain ⟨fuel, hf⟩ := h
  obtain ⟨⟨x0, x1, x2, x3, x4⟩, ⟨_, _, e, h0, _, _, rfl, h1, _, _, rfl, h2, _, _, rfl, h3, h4⟩, _⟩ := modeOp.2 H enc W fuel _ _ hf
  have h0' : _ = [Value.bool x0] := h0
  have h1' : _ = [Value.bool x1] := h1
  have h2' : _ = [Value.bool x2] := h2
  have h3' : _ = [Value.bool x3] := h3
  have h4' : _ = [Value.bool x4] := h4
  subst h0' h1' h2' h3' h4'
  refine ⟨x0, x1, x2, x3, x4, ?_⟩
  congr 1
  apply Array.ext'
  exact e
end Go.Proofs.Ytblpaolcgkjcgaa.Opens
