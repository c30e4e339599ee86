/- Lean functions that stand for Go's,over an explicit heap,and the proofs that they do (written by this claim's program sh2.py). -/
import Derived.Test.YtmanlfonppfhaaaShA
set_option maxRecDepth 100000
set_option linter.unusedVariables false
set_option linter.unusedSimpArgs false
namespace Go.Proofs.Ytmanlfonppfhaaa.Sh
open Go.Proofs.Ytmanlfonppfhaaa.FW
/-! ### R02_SameInts: function 19 -/
abbrev R02_SameInts_l0_r (R : Type) : Type := Oa → Nat → Nat → Oa → Nat → Nat → Int → Heap → Option R
abbrev R02_SameInts_l0_q (R T : Type) : Type := (Unit → Option R) → (Bool → Option R) → T
abbrev R02_SameInts_l0_t (R : Type) : Type := R02_SameInts_l0_q R (Nat → R02_SameInts_l0_r R)
abbrev R02_SameInts_u (R : Type) : Type := Heap → (Bool → Option R) → Option R
abbrev R02_SameInts_t (R : Type) : Type := Oa → Nat → Nat → Oa → Nat → Nat → R02_SameInts_u R
section
variable {R : Type} (z0 : R02_SameInts_l0_t R)
def R02_SameInts_l0_b (k : Nat) : R02_SameInts_l0_q R (R02_SameInts_l0_r R → R02_SameInts_l0_r R) := fun KE0 KR rec q1 l2 c3 q4 l5 c6 n7 H =>
bif decide (n7 < ((l2 : Nat) : Int)) then (hidx q1 l2 n7 1 fun p8 =>
ldI .i64 H p8 fun n9 =>
hidx q4 l5 n7 1 fun p10 =>
ldI .i64 H p10 fun n11 =>
bif (n9 != n11) then (KR false)
 else (rec q1 l2 c3 q4 l5 c6 (IntKind.wrap .i64 (n7 + 1)) H))
 else (KE0 ())
def R02_SameInts_l0 (k : Nat) : R02_SameInts_l0_t R
  | KE0,KR,0 => fun _ _ _ _ _ _ _ _ => none
  | KE0,KR,n + 1 => R02_SameInts_l0_b k KE0 KR (R02_SameInts_l0 k KE0 KR n)
def R02_SameInts_b (k : Nat) : R02_SameInts_t R := fun q1 l2 c3 q4 l5 c6 H K =>
bif (((l2 : Nat) : Int) != ((l5 : Nat) : Int)) then (K false)
 else (z0 (fun (_ : Unit) =>
K true) (fun t8 =>
K t8) k q1 l2 c3 q4 l5 c6 0 H)
def R02_SameInts (k : Nat) : R02_SameInts_t R := R02_SameInts_b (R02_SameInts_l0 k) k
def x19C : Tab R := fun _ _ _ _ => none
def x19s0 : PS := ⟨(.seq (.seq (.reg [0,1,5,14] []) (.cond .leaf .leaf)) (.seq (.node (.seq (.reg [0,1,5,25] (ms [0,0,3,7,0,0,48,112,255])) (.cond (.seq (.reg [4] []) .leaf) .leaf))) (.reg [0,1,5] []))),[0,1,5],[.l,.l,.n],⟨[],[(0,[])],[4]⟩⟩
def x19c0 {T : Type} (g : R02_SameInts_l0_q R T) (H : Heap) (K : XK R) : T := g (kU (.exit 0) K H) (kN .ret [4] [.b] K H)
def x19a0 (f : R02_SameInts_l0_t R) : Nat → List Value → Heap → XK R → Option R := jl x19s0 (L := R02_SameInts_l0_t R) x19c0 pH f
def x19J (k : Nat) : JTab R := tcons 0 (x19a0 z0 k) <| fun _ _ _ _ => none
def x19t : AT := (.seq (.reg [0,1] []) (.seq (.seq (.reg [0,1,10] []) (.cond (.seq (.reg [4] []) .leaf) .leaf)) (.seq (.seq (.reg [0,1,5] []) (.node (.opq 0 x19s0.ls x19s0.out (.node x19s0.t)))) (.seq (.reg [4] []) .leaf))))
def x19c (g : R02_SameInts_u R) (H : Heap) (K : Value → Heap → Option R) : Option R := g H (rN [.b] K H)
def x19a (f : R02_SameInts_t R) : List Value → Heap → (Value → Heap → Option R) → Option R := jf 2 [.l,.l] x19c f
variable {z0}
theorem x19e0 (k n : Nat) (H : Heap) (K : XK R) : lE Try.prog An 26 (x19C) (x19J z0 k) x19s0 (sel [1,1,0,1,0,0] (bd Try.f19)) (x19a0 z0) n H K = mapT (fun g => pH g H) x19s0.ts (x19c0 (R02_SameInts_l0_b k) H K (x19c0 z0 H K n)) := by kernel_rfl
theorem x19e (k : Nat) (H : Heap) (K : Value → Heap → Option R) : fE Try.prog An (x19C) (x19J z0 k) x19t Try.f19 [.l,.l] H K = mapT (fun g => x19c g H K) [.l,.l] (R02_SameInts_b z0 k) := by kernel_rfl
theorem x19S (R : Type) (k : Nat) : CSound Try.prog (x19C (R := R)) := csound_nil
theorem x19j0 (R : Type) (k : Nat) : JS Try.prog 26 (x19a0 (R02_SameInts_l0 (R := R) k) k) x19s0.ls x19s0.out (.loop (sel [1,1,0,1,0,0] (bd Try.f19))) := lj (x19S R k) (x19J (R02_SameInts_l0 k) k) (by kernel_rfl) (A := True) trivial (by kernel_rfl) (fun _ _ => by kernel_rfl) (fun _ _ _ => .trans (x19e0 _ _ _ _) (by kernel_rfl)) k
theorem x19cs (R : Type) (k : Nat) : ∀ args H K r,x19a (R02_SameInts k) args H K = some (r : R) → ∃ v H',Tri Try.prog 19 args H v H' ∧ K v H' = some r := fj (x19S R k) (x19J (R02_SameInts_l0 k) k) Try.func19 (by kernel_rfl) (A := JS Try.prog 26 (x19a0 (R02_SameInts_l0 (R := R) k) k) x19s0.ls x19s0.out (.loop (sel [1,1,0,1,0,0] (bd Try.f19))) ∧ True) ⟨x19j0 R k,trivial⟩ (by kernel_rfl) (fun _ _ => .trans (x19e _ _ _) (by kernel_rfl))
end
end Go.Proofs.Ytmanlfonppfhaaa.Sh
