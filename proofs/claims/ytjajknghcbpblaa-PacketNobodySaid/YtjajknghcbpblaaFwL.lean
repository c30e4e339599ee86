/- From the own machine to a claim: calls without arguments, and what a law's run comes to. -/
import Derived.Test.YtjajknghcbpblaaFwE
import Derived.Below
set_option linter.unusedVariables false
set_option linter.unusedSimpArgs false
namespace Go.Proofs.Ytjajknghcbpblaa.FW
variable {P : Program} {R : Type}
theorem Rel.none (ρ : Ren) (w : World) : Rel ρ (fun _ => Option.none) w := ⟨fun b B h => (by cases h), fun b1 B1 b2 B2 x1 d1 x2 d2 h => (by cases h)⟩
/-- What came about on an empty heap comes about on every heap, and nothing of it is kept. -/
theorem tri_any {f : Nat} {args : List Value} {v : Value} {H' : Heap} (h : Tri P f args [] v H') (ha : args.all ptrFree = true) (hv : ptrFree v = true) (H : Heap) : Tri P f args H v H := by
  obtain ⟨h1, _, h3⟩ := h
  refine ⟨h1, Nat.le_refl _, fun ρ w args' hR hD hA => ?_⟩
  have hA' : LRel (fun _ => none) args args' := ⟨hA.1, fun i x y e1 e2 => (hA.2 i x y e1 e2).free (List.all_eq_true.1 ha x (List.mem_of_getElem? e1)) _⟩
  refine (h3 (fun _ => none) w args' ⟨fun b B hb => (by simp [hblk] at hb), fun b1 B1 b2 B2 x1 d1 x2 d2 hb => (by simp [hblk] at hb)⟩ (fun _ _ => rfl) hA').mono fun e w' ⟨ρ', v', q1, q2, q3, _⟩ => ⟨ρ, v', q1, ?_, ?_, .refl _ _ _⟩
  · rcases q2 with q | q | q
    · exact .inl q
    · exact .inr (.inl q)
    · exact .of (q.free hv ρ)
  · have hkeep : ∀ c, c < w.heap.size → w'.heap[c]? = w.heap[c]? := fun c hc => q3.kept.block c hc (fun b B d hb => by simp [hblk] at hb)
    exact ⟨Le.refl _, hR.same hkeep, ⟨q3.kept.os, q3.kept.tape, q3.kept.output, q3.kept.size, fun c hc _ => hkeep c hc⟩, fun b B x d hb hx => .inr (.inl ⟨B, hb, hx, id⟩)⟩
def asB (v : Value) (_ : Heap) : Option Bool := match v with
  | .bool b => some b
  | _ => none
/-- A function without arguments that has been run. -/
theorem closed_ok {f : Nat} {c : (R : Type) → Nat → List Value → Heap → (Value → Heap → Option R) → Option R} (hc : ∀ (R : Type) (k : Nat) args H K r, c R k args H K = some r → ∃ v H', Tri P f args H v H' ∧ K v H' = some r)
    {k : Nat} {b : Bool} (h : c Bool k [] [] asB = some b) (H : Heap) : Tri P f [] H (.bool b) H := by
  obtain ⟨v, H', h1, h2⟩ := hc Bool k [] [] asB b h
  unfold asB at h2
  split at h2
  · cases h2; exact tri_any h1 rfl rfl H
  · cases h2
/-- What a law's run comes to. -/
theorem law_ok {f : Nat} {args args' : List Value} {H H' : Heap} {b : Bool} (h : Tri P f args H (.bool b) H') {ρ : Ren} {w : World} (hR : Rel ρ (hblk H) w) (hD : Dom ρ H.length) (hA : LRel ρ args args') (hro : ∀ b B, hblk H b = some B → B.ro = true) :
    Calls P f ⟨args'⟩ w fun e w' => e = .returned (.bool b) ∧ Go.RowKit.Below w.heap.size w w' := by
  refine (h.2.2 ρ w args' hR hD hA).mono fun e w' ⟨ρ', v', q1, q2, q3, _⟩ => ?_
  rw [q2.bool] at q1
  exact ⟨q1, q3.kept.os, q3.kept.tape, q3.kept.output, q3.kept.size, fun c hc => q3.kept.block c hc fun b B d hb hr => by rw [hro b B hb] at hr; cases hr⟩
/-- The same of a law whose arguments hold no address. -/
theorem law0 {f : Nat} {c : (R : Type) → Nat → List Value → Heap → (Value → Heap → Option R) → Option R} (hc : ∀ (R : Type) (k : Nat) args H K r, c R k args H K = some r → ∃ v H', Tri P f args H v H' ∧ K v H' = some r)
    {k : Nat} {args : List Value} (h : c Bool k args [] asB = some true) (ha : args.all (fun v => ptrFree v && okv v) = true) (w : World) : Calls P f ⟨args⟩ w fun e w' => e = .returned (.bool true) ∧ Go.RowKit.Below w.heap.size w w' := by
  obtain ⟨v, H', h1, h2⟩ := hc Bool k args [] asB true h
  unfold asB at h2
  split at h2
  · cases h2
    refine law_ok (ρ := fun _ => none) h1 ⟨fun b B hb => (by simp [hblk] at hb), fun b1 B1 b2 B2 x1 d1 x2 d2 hb => (by simp [hblk] at hb)⟩ (fun _ _ => rfl) ⟨rfl, fun i x y e1 e2 => ?_⟩ (fun b B hb => by simp [hblk] at hb)
    rw [e1] at e2; cases e2
    have := List.all_eq_true.1 ha x (List.mem_of_getElem? e1)
    rw [Bool.and_eq_true] at this
    exact VRel.self this.1 this.2 _
  · cases h2
end Go.Proofs.Ytjajknghcbpblaa.FW
