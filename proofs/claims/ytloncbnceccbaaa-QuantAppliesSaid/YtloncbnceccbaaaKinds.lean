/- A plane that came in, opened: its rectangle's numbers and its samples. -/
import Derived.Test.YtloncbnceccbaaaOpens
import Derived.Test.YtloncbnceccbaaaQx0
namespace Go.Proofs.Ytloncbnceccbaaa.Opens
open Go.RowKit Go.ChangeShapes Go.WideShapes Go.Proofs.YtloncbnceccbaaaW.PrintWords Go.Proofs.YtloncbnceccbaaaW.PrintLast Go.Proofs.YtloncbnceccbaaaW.PrintMore
theorem i1 : Op Try.prog 3 (Kd.int .i64) (fun n => (Lit.int .i64 n).wf = true) := op_int Try.underlying3 (by kernel_rfl)
theorem rectOp : Op Try.prog 34 (Kd.pair (Kd.int .i64) (Kd.pair (Kd.int .i64) (Kd.pair (Kd.int .i64) (Kd.int .i64)))) (fun _ => True) :=
  (op_struct Try.underlying34 (by kernel_rfl) (opF_cons rfl i1 (opF_cons rfl i1 (opF_cons rfl i1 (opF_one rfl i1))))).mono (fun _ _ => trivial)
theorem intsOp : Op Try.prog 35 (Kd.slice 3 (Kd.int .i64)) (fun xs => xs.length ≤ maxLen ∧ ∀ x ∈ xs, (Lit.int .i64 x).wf = true) := op_slice Try.underlying35 (by kernel_rfl) i1
theorem planeOp : Op Try.prog 37 (Kd.pair (Kd.pair (Kd.int .i64) (Kd.pair (Kd.int .i64) (Kd.pair (Kd.int .i64) (Kd.int .i64)))) (Kd.slice 3 (Kd.int .i64))) (fun x => x.2.length ≤ maxLen ∧ ∀ y ∈ x.2, (Lit.int .i64 y).wf = true) :=
  (op_struct Try.underlying37 (by kernel_rfl) (opF_cons rfl rectOp (opF_one rfl intsOp))).mono (fun _ h => h.2)
theorem plane_open {H : Type} {enc : TypeId × Value → H} {W : World} {base : Nat} {v : Value} {dd : DataW H} {ps : List MemPlace} (hv : Value.okWide Try.prog W .any base 37 v) (h : DataW.Trod enc Try.prog W 0 (fun _ => true) true 37 v dd ps) :
    ∃ (a0 a1 a2 a3 : Int) (A : Option Addr) (c : Nat) (l : List Int), v = .agg #[.int .i64 a0, .int .i64 a1, .int .i64 a2, .int .i64 a3, .slice A l.length c] ∧ l.length ≤ c ∧ Kd.C (Kd.int .i64) W A l.length l ∧ l.length ≤ maxLen ∧ ∀ y ∈ l, (Lit.int .i64 y).wf = true := by
  obtain ⟨cs, rfl, _⟩ := okWide_struct Try.underlying37 hv
  obtain ⟨fuel, hf⟩ := h
  obtain ⟨⟨⟨x0, x1, x2, x3⟩, l⟩, ⟨_, _, e, ⟨_, _, rfl, h0, _, _, rfl, h1, _, _, rfl, h2, h3⟩, A, c, rfl, hl, hr⟩, hw⟩ := planeOp.2 H enc W fuel _ _ hf
  have h0' : _ = [Value.int .i64 x0] := h0
  have h1' : _ = [Value.int .i64 x1] := h1
  have h2' : _ = [Value.int .i64 x2] := h2
  have h3' : _ = [Value.int .i64 x3] := h3
  subst h0' h1' h2' h3'
  refine ⟨x0, x1, x2, x3, A, c, l, ?_, hl, hr, hw.1, hw.2⟩
  congr 1
  apply Array.ext'
  exact e
end Go.Proofs.Ytloncbnceccbaaa.Opens
