/- Bitio: bytes that came in. -/
import Derived.Test.YtiapgcgpdndkiaaBtF
set_option linter.unusedVariables false
set_option linter.unusedSimpArgs false
namespace Go.Proofs.Ytiapgcgpdndkiaa.Sh
open Go.Proofs.Ytiapgcgpdndkiaa.FW Go.IntWalk
theorem wf_8 {a : Int} (h : (Lit.int .u8 a).wf = true) : 0 ≤ a ∧ a ≤ 255 := by
  simp only [Lit.wf, IntKind.min, IntKind.max, IntKind.signed, IntKind.bits, Bool.and_eq_true, decide_eq_true_eq, if_true, Bool.false_eq_true, if_false] at h
  exact ⟨by omega, by omega⟩
theorem bytes_of {H : Heap} : ∀ (es : List (List Value)), (∀ e ∈ es, Shp (.int .u8) H e) → ∃ xs : List Int, xs.length = es.length ∧ es.flatten = byt xs ∧ ∀ v ∈ xs, 0 ≤ v ∧ v ≤ 255 := by
  intro es
  induction es with
  | nil => intro _; exact ⟨[], rfl, rfl, fun v h => by cases h⟩
  | cons e es ih =>
    intro h
    obtain ⟨xs, h1, h2, h3⟩ := ih fun x hx => h x (List.mem_cons_of_mem _ hx)
    obtain ⟨a, rfl, ha⟩ := h e (by simp)
    refine ⟨a :: xs, by simp [h1], by rw [List.flatten_cons, h2]; rfl, fun v hv => ?_⟩
    rcases List.mem_cons.1 hv with rfl | hv
    · exact wf_8 ha
    · exact h3 v hv
end Go.Proofs.Ytiapgcgpdndkiaa.Sh
