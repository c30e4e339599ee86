/- Lean functions that stand for Go's,over an explicit heap,and the proofs that they do (written by this claim's program sh2.py). -/
import Derived.Test.YtjajknghcbpblaaShA
set_option maxRecDepth 100000
set_option linter.unusedVariables false
set_option linter.unusedSimpArgs false
namespace Go.Proofs.Ytjajknghcbpblaa.Sh
open Go.Proofs.Ytjajknghcbpblaa.FW
/-! ### R27_SameBytes: function 15 -/
abbrev R27_SameBytes_u (R : Type) : Type := Heap → (Bool → Option R) → Option R
abbrev R27_SameBytes_t (R : Type) : Type := Oa → Nat → Nat → Oa → Nat → Nat → R27_SameBytes_u R
section
variable {R : Type}
def R27_SameBytes_b (k : Nat) : R27_SameBytes_t R := fun q1 l2 c3 q4 l5 c6 H K =>
hb2s H q1 l2 fun s7 =>
hb2s H q4 l5 fun s8 =>
K (s7 == s8)
def R27_SameBytes : R27_SameBytes_t R := R27_SameBytes_b 0
def x15C : Tab R := fun _ _ _ _ => none
def x15J (k : Nat) : JTab R := fun _ _ _ _ => none
def x15t : AT := (.seq (.reg [0,1] []) (.seq (.reg [4] []) .leaf))
def x15c (g : R27_SameBytes_u R) (H : Heap) (K : Value → Heap → Option R) : Option R := g H (rN [.b] K H)
def x15a (f : R27_SameBytes_t R) : List Value → Heap → (Value → Heap → Option R) → Option R := jf 2 [.l,.l] x15c f
theorem x15e (k : Nat) (H : Heap) (K : Value → Heap → Option R) : fE Try.prog An (x15C) (x15J k) x15t Try.f15 [.l,.l] H K = mapT (fun g => x15c g H K) [.l,.l] (R27_SameBytes_b k) := by kernel_rfl
theorem x15S (R : Type) (k : Nat) : CSound Try.prog (x15C (R := R)) := csound_nil
theorem x15cs (R : Type) (k : Nat) : ∀ args H K r,x15a (R27_SameBytes) args H K = some (r : R) → ∃ v H',Tri Try.prog 15 args H v H' ∧ K v H' = some r := fj (x15S R k) (x15J 0) Try.func15 (by kernel_rfl) (A := True) trivial (by kernel_rfl) (fun _ _ => .trans (x15e _ _ _) (by kernel_rfl))
end
end Go.Proofs.Ytjajknghcbpblaa.Sh
