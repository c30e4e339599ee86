/- Lean functions that stand for Go's,over an explicit heap,and the proofs that they do (written by this claim's program sh2.py). -/
import Derived.Test.YtmanlfonppfhaaaShA
set_option maxRecDepth 100000
set_option linter.unusedVariables false
set_option linter.unusedSimpArgs false
namespace Go.Proofs.Ytmanlfonppfhaaa.Sh
open Go.Proofs.Ytmanlfonppfhaaa.FW
/-! ### pkthead_State_Blocks: function 12 -/
abbrev pkthead_State_Blocks_u (R : Type) : Type := Heap → (Int → Option R) → Option R
abbrev pkthead_State_Blocks_t (R : Type) : Type := Oa → pkthead_State_Blocks_u R
section
variable {R : Type}
def pkthead_State_Blocks_b (k : Nat) : pkthead_State_Blocks_t R := fun p1 H K =>
bif p1.isNone then (K 0)
 else (hnil p1 fun p2 =>
hfad 9 p2 fun p3 =>
ldL H p3 fun q4 l5 c6 =>
K ((l5 : Nat) : Int))
def pkthead_State_Blocks : pkthead_State_Blocks_t R := pkthead_State_Blocks_b 0
def x12C : Tab R := fun _ _ _ _ => none
def x12J (k : Nat) : JTab R := fun _ _ _ _ => none
def x12t : AT := (.seq (.reg [0] []) (.seq (.seq (.reg [0,4] []) (.cond (.seq (.reg [2] []) .leaf) .leaf)) (.seq (.reg [2] []) .leaf)))
def x12c (g : pkthead_State_Blocks_u R) (H : Heap) (K : Value → Heap → Option R) : Option R := g H (rN [.n] K H)
def x12a (f : pkthead_State_Blocks_t R) : List Value → Heap → (Value → Heap → Option R) → Option R := jf 1 [.p] x12c f
theorem x12e (k : Nat) (H : Heap) (K : Value → Heap → Option R) : fE Try.prog An (x12C) (x12J k) x12t Try.f12 [.p] H K = mapT (fun g => x12c g H K) [.p] (pkthead_State_Blocks_b k) := by kernel_rfl
theorem x12S (R : Type) (k : Nat) : CSound Try.prog (x12C (R := R)) := csound_nil
theorem x12cs (R : Type) (k : Nat) : ∀ args H K r,x12a (pkthead_State_Blocks) args H K = some (r : R) → ∃ v H',Tri Try.prog 12 args H v H' ∧ K v H' = some r := fj (x12S R k) (x12J 0) Try.func12 (by kernel_rfl) (A := True) trivial (by kernel_rfl) (fun _ _ => .trans (x12e _ _ _) (by kernel_rfl))
end
/-! ### pkthead_State_Passes: function 14 -/
abbrev pkthead_State_Passes_p0_u (R : Type) : Type := Heap → (Oa → Int → Option R) → (Int → Option R) → Option R
abbrev pkthead_State_Passes_p0_t (R : Type) : Type := Oa → Int → pkthead_State_Passes_p0_u R
abbrev pkthead_State_Passes_u (R : Type) : Type := Heap → (Int → Option R) → Option R
abbrev pkthead_State_Passes_t (R : Type) : Type := Oa → Int → pkthead_State_Passes_u R
section
variable {R : Type} (z0 : pkthead_State_Passes_p0_t R)
def pkthead_State_Passes_p0_b (k : Nat) : pkthead_State_Passes_p0_t R := fun p1 n2 H KN KR =>
bif p1.isNone then (KR 0)
 else (bif decide (n2 < 0) then (KR 0)
 else (hnil p1 fun p3 =>
hfad 9 p3 fun p4 =>
ldL H p4 fun q5 l6 c7 =>
bif decide (n2 ≥ ((l6 : Nat) : Int)) then (KR 0)
 else (KN p1 n2)))
def pkthead_State_Passes_p0 (k : Nat) : pkthead_State_Passes_p0_t R := pkthead_State_Passes_p0_b k
def pkthead_State_Passes_b (k : Nat) : pkthead_State_Passes_t R := fun p1 n2 H K =>
z0 p1 n2 H (fun p6 n7 =>
hnil p6 fun p8 =>
hfad 9 p8 fun p9 =>
ldL H p9 fun q10 l11 c12 =>
hidx q10 l11 n7 10 fun p13 =>
hfad 5 p13 fun p14 =>
ldI .i64 H p14 fun n15 =>
K n15) (fun n16 =>
K n16)
def pkthead_State_Passes (k : Nat) : pkthead_State_Passes_t R := pkthead_State_Passes_b (pkthead_State_Passes_p0 k) k
def x14C : Tab R := fun _ _ _ _ => none
def x14s0 : PS := ⟨(.seq (.reg [0,1,19] []) (.cond (.seq (.reg [4] []) .leaf) .leaf)),[0,1],[.p,.n],⟨[0,1],[],[4]⟩⟩
def x14c0 (g : pkthead_State_Passes_p0_u R) (H : Heap) (K : XK R) : Option R := g H (kN .normal [0,1] [.p,.n] K H) (kN .ret [4] [.n] K H)
def x14a0 (f : pkthead_State_Passes_p0_t R) : Nat → List Value → Heap → XK R → Option R := jp x14s0 x14c0 f
def x14J (k : Nat) : JTab R := tcons 0 (x14a0 z0 k) <| fun _ _ _ _ => none
def x14t : AT := (.seq (.reg [0,1] []) (.seq (.opq 0 x14s0.ls x14s0.out x14s0.t) (.seq (.reg [4] []) .leaf)))
def x14c (g : pkthead_State_Passes_u R) (H : Heap) (K : Value → Heap → Option R) : Option R := g H (rN [.n] K H)
def x14a (f : pkthead_State_Passes_t R) : List Value → Heap → (Value → Heap → Option R) → Option R := jf 2 [.p,.n] x14c f
variable {z0}
theorem x14e0 (k : Nat) (H : Heap) (K : XK R) : jE Try.prog An 28 (x14C) (x14J z0 k) x14s0 (sel [1,0] (bd Try.f14)) H K = mapT (fun g => x14c0 g H K) x14s0.ts (pkthead_State_Passes_p0_b k) := by kernel_rfl
theorem x14e (k : Nat) (H : Heap) (K : Value → Heap → Option R) : fE Try.prog An (x14C) (x14J z0 k) x14t Try.f14 [.p,.n] H K = mapT (fun g => x14c g H K) [.p,.n] (pkthead_State_Passes_b z0 k) := by kernel_rfl
theorem x14S (R : Type) (k : Nat) : CSound Try.prog (x14C (R := R)) := csound_nil
theorem x14j0 (R : Type) (k : Nat) : JS Try.prog 28 (x14a0 (pkthead_State_Passes_p0 (R := R) k) k) x14s0.ls x14s0.out (sel [1,0] (bd Try.f14)) := pj (x14S R k) (x14J (pkthead_State_Passes_p0 k) k) (by kernel_rfl) (A := True) trivial (by kernel_rfl) (fun _ _ => .trans (x14e0 _ _ _) (by kernel_rfl))
theorem x14cs (R : Type) (k : Nat) : ∀ args H K r,x14a (pkthead_State_Passes k) args H K = some (r : R) → ∃ v H',Tri Try.prog 14 args H v H' ∧ K v H' = some r := fj (x14S R k) (x14J (pkthead_State_Passes_p0 k) k) Try.func14 (by kernel_rfl) (A := JS Try.prog 28 (x14a0 (pkthead_State_Passes_p0 (R := R) k) k) x14s0.ls x14s0.out (sel [1,0] (bd Try.f14)) ∧ True) ⟨x14j0 R k,trivial⟩ (by kernel_rfl) (fun _ _ => .trans (x14e _ _ _) (by kernel_rfl))
end
end Go.Proofs.Ytmanlfonppfhaaa.Sh
