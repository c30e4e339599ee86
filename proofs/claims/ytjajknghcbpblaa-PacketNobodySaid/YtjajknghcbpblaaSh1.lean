/- Lean functions that stand for Go's,over an explicit heap,and the proofs that they do (written by this claim's program sh2.py). -/
import Derived.Test.YtjajknghcbpblaaShA
set_option maxRecDepth 100000
set_option linter.unusedVariables false
set_option linter.unusedSimpArgs false
namespace Go.Proofs.Ytjajknghcbpblaa.Sh
open Go.Proofs.Ytjajknghcbpblaa.FW
/-! ### packet_check: function 31 -/
abbrev packet_check_l0_r (R : Type) : Type := Int → Oa → Nat → Nat → Int → Int → Heap → Option R
abbrev packet_check_l0_q (R T : Type) : Type := (Int → Option R) → T
abbrev packet_check_l0_t (R : Type) : Type := packet_check_l0_q R (Nat → packet_check_l0_r R)
abbrev packet_check_u (R : Type) : Type := Heap → (Int → Option R) → Option R
abbrev packet_check_t (R : Type) : Type := Oa → Nat → Nat → packet_check_u R
section
variable {R : Type} (z0 : packet_check_l0_t R)
def packet_check_l0_b (k : Nat) : packet_check_l0_q R (packet_check_l0_r R → packet_check_l0_r R) := fun KE0 rec n1 q2 l3 c4 n5 n6 H =>
bif decide (n6 < n5) then (hidx q2 l3 n6 1 fun p7 =>
ldI .u8 H p7 fun n8 =>
rec (IntKind.wrap .u8 (n1 + n8)) q2 l3 c4 n5 (IntKind.wrap .i64 (n6 + 1)) H)
 else (KE0 n1)
def packet_check_l0 (k : Nat) : packet_check_l0_t R
  | KE0,0 => fun _ _ _ _ _ _ _ => none
  | KE0,n + 1 => packet_check_l0_b k KE0 (packet_check_l0 k KE0 n)
def packet_check_b (k : Nat) : packet_check_t R := fun q1 l2 c3 H K =>
hslc 1 q1 l2 c3 none (some 10) none fun q4 l5 c6 =>
z0 (fun n8 =>
K n8) k 0 q4 l5 c6 ((l5 : Nat) : Int) 0 H
def packet_check (k : Nat) : packet_check_t R := packet_check_b (packet_check_l0 k) k
def x31C : Tab R := fun _ _ _ _ => none
def x31s0 : PS := ⟨(.seq (.reg [3,7,8,9,10] []) (.seq (.cond .leaf .leaf) (.seq (.node (.seq (.reg [3,5,7,8,9] []) (.reg [3,7,8,9] []))) (.reg [3,7,8,9] [])))),[3,7,8,9],[(.i .u8),.l,.n,.n],⟨[],[(0,[3])],[]⟩⟩
def x31c0 {T : Type} (g : packet_check_l0_q R T) (H : Heap) (K : XK R) : T := g (kN (.exit 0) [3] [(.i .u8)] K H)
def x31a0 (f : packet_check_l0_t R) : Nat → List Value → Heap → XK R → Option R := jl x31s0 (L := packet_check_l0_t R) x31c0 pH f
def x31J (k : Nat) : JTab R := tcons 0 (x31a0 z0 k) <| fun _ _ _ _ => none
def x31t : AT := (.seq (.reg [0] []) (.seq (.reg [0,3] []) (.seq (.seq (.reg [3,7,8,9] []) (.node (.opq 0 x31s0.ls x31s0.out (.node x31s0.t)))) (.seq (.reg [2] []) .leaf))))
def x31c (g : packet_check_u R) (H : Heap) (K : Value → Heap → Option R) : Option R := g H (rN [(.i .u8)] K H)
def x31a (f : packet_check_t R) : List Value → Heap → (Value → Heap → Option R) → Option R := jf 1 [.l] x31c f
variable {z0}
theorem x31e0 (k n : Nat) (H : Heap) (K : XK R) : lE Try.prog An 18 (x31C) (x31J z0 k) x31s0 (sel [1,1,0,1,0,0] (bd Try.f31)) (x31a0 z0) n H K = mapT (fun g => pH g H) x31s0.ts (x31c0 (packet_check_l0_b k) H K (x31c0 z0 H K n)) := by kernel_rfl
theorem x31e (k : Nat) (H : Heap) (K : Value → Heap → Option R) : fE Try.prog An (x31C) (x31J z0 k) x31t Try.f31 [.l] H K = mapT (fun g => x31c g H K) [.l] (packet_check_b z0 k) := by kernel_rfl
theorem x31S (R : Type) (k : Nat) : CSound Try.prog (x31C (R := R)) := csound_nil
theorem x31j0 (R : Type) (k : Nat) : JS Try.prog 18 (x31a0 (packet_check_l0 (R := R) k) k) x31s0.ls x31s0.out (.loop (sel [1,1,0,1,0,0] (bd Try.f31))) := lj (x31S R k) (x31J (packet_check_l0 k) k) (by kernel_rfl) (A := True) trivial (by kernel_rfl) (fun _ _ => by kernel_rfl) (fun _ _ _ => .trans (x31e0 _ _ _ _) (by kernel_rfl)) k
theorem x31cs (R : Type) (k : Nat) : ∀ args H K r,x31a (packet_check k) args H K = some (r : R) → ∃ v H',Tri Try.prog 31 args H v H' ∧ K v H' = some r := fj (x31S R k) (x31J (packet_check_l0 k) k) Try.func31 (by kernel_rfl) (A := JS Try.prog 18 (x31a0 (packet_check_l0 (R := R) k) k) x31s0.ls x31s0.out (.loop (sel [1,1,0,1,0,0] (bd Try.f31))) ∧ True) ⟨x31j0 R k,trivial⟩ (by kernel_rfl) (fun _ _ => .trans (x31e _ _ _) (by kernel_rfl))
end
end Go.Proofs.Ytjajknghcbpblaa.Sh
