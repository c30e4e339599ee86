/- Cblk: the reference's values and flags. -/
import Derived.Test.YtblpaolcgkjcgaaCbD
import Derived.Test.YtblpaolcgkjcgaaSh18
set_option linter.unusedVariables false
set_option linter.unusedSimpArgs false
namespace Go.Proofs.Ytblpaolcgkjcgaa.Sh
open Go.Proofs.Ytblpaolcgkjcgaa.FW
section
variable {R : Type} {H : Heap} {b1 b2 w h : Nat} {g : Nat → Cel}
theorem ValueR_eq (B : BlkR H b1 b2 w h g) (x y : Int) : ∃ H', (∀ (R : Type) (K : Int → Heap → Option R), R14_Block_Value (some ⟨b1, 0, none⟩) x y H K = K (gc w h g x y).v H') ∧ Old H.length H H' := by
  obtain ⟨H', e, o⟩ := get_eq B x y
  exact ⟨H', fun R K => by unfold R14_Block_Value R14_Block_Value_b; rw [e], o⟩
theorem SignificantR_eq (B : BlkR H b1 b2 w h g) (x y : Int) : ∃ H', (∀ (R : Type) (K : Bool → Heap → Option R), R14_Block_Significant (some ⟨b1, 0, none⟩) x y H K = K (gc w h g x y).s H') ∧ Old H.length H H' := by
  obtain ⟨H', e, o⟩ := get_eq B x y
  exact ⟨H', fun R K => by unfold R14_Block_Significant R14_Block_Significant_b; rw [e], o⟩
theorem TouchedR_eq (B : BlkR H b1 b2 w h g) (x y : Int) : ∃ H', (∀ (R : Type) (K : Bool → Heap → Option R), R14_Block_Touched (some ⟨b1, 0, none⟩) x y H K = K (gc w h g x y).t H') ∧ Old H.length H H' := by
  obtain ⟨H', e, o⟩ := get_eq B x y
  exact ⟨H', fun R K => by unfold R14_Block_Touched R14_Block_Touched_b; rw [e], o⟩
theorem RefinedR_eq (B : BlkR H b1 b2 w h g) (x y : Int) : ∃ H', (∀ (R : Type) (K : Bool → Heap → Option R), R14_Block_Refined (some ⟨b1, 0, none⟩) x y H K = K (gc w h g x y).r H') ∧ Old H.length H H' := by
  obtain ⟨H', e, o⟩ := get_eq B x y
  exact ⟨H', fun R K => by unfold R14_Block_Refined R14_Block_Refined_b; rw [e], o⟩
end
end Go.Proofs.Ytblpaolcgkjcgaa.Sh
