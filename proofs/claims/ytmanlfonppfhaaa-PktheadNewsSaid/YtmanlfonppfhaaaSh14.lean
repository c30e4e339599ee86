/- Lean functions that stand for Go's,over an explicit heap,and the proofs that they do (written by this claim's program sh2.py). -/
import Derived.Test.YtmanlfonppfhaaaShA
import Derived.Test.YtmanlfonppfhaaaSh1
import Derived.Test.YtmanlfonppfhaaaSh2
import Derived.Test.YtmanlfonppfhaaaShD
set_option maxRecDepth 100000
set_option linter.unusedVariables false
set_option linter.unusedSimpArgs false
namespace Go.Proofs.Ytmanlfonppfhaaa.Sh
open Go.Proofs.Ytmanlfonppfhaaa.FW
/-! ### L_PktheadNews: function 3 -/
abbrev L_PktheadNews_p0_u (R : Type) : Type := Heap → (Oa → Bool → Option R) → Option R
abbrev L_PktheadNews_p0_t (R : Type) : Type := Oa → L_PktheadNews_p0_u R
abbrev L_PktheadNews_u (R : Type) : Type := Heap → (Bool → Heap → Option R) → Option R
abbrev L_PktheadNews_t (R : Type) : Type := Oa → Nat → Nat → Oa → Nat → Nat → Bool → Bool → Bool → Bool → Bool → L_PktheadNews_u R
section
variable {R : Type} (f0 : L_exampleHoldsq_t R) (f1 : pkthead_New_t R) (f2 : R26_New_t R) (f3 : pkthead_State_Blocks_t R) (f4 : R26_State_Blocks_t R) (f5 : pkthead_State_Passes_t R) (z0 : L_PktheadNews_p0_t R)
def L_PktheadNews_p0_b (k : Nat) : L_PktheadNews_p0_t R := fun p1 H KN =>
hfad 0 p1 fun p2 =>
ldL H p2 fun q3 l4 c5 =>
bif decide (((l4 : Nat) : Int) > 10) then (KN p1 true)
 else (hfad 1 p1 fun p6 =>
ldL H p6 fun q7 l8 c9 =>
KN p1 (decide (((l8 : Nat) : Int) > 10)))
def L_PktheadNews_p0 (k : Nat) : L_PktheadNews_p0_t R := L_PktheadNews_p0_b k
def L_PktheadNews_b (k : Nat) : L_PktheadNews_t R := fun q1 l2 c3 q4 l5 c6 t7 t8 t9 t10 t11 H K =>
hal H [.slice q1 l2 c3,.slice q4 l5 c6,.bool t7,.bool t8,.bool t9,.bool t10,.bool t11] fun p12 H13 =>
z0 p12 H13 (fun p16 t17 =>
bif t17 then (f0 fun t18 =>
K t18 H13)
 else (hfad 0 p16 fun p19 =>
ldL H13 p19 fun q20 l21 c22 =>
hfad 1 p16 fun p23 =>
ldL H13 p23 fun q24 l25 c26 =>
hfad 2 p16 fun p27 =>
ldB H13 (pad p27 0) fun t28 =>
ldB H13 (pad p27 1) fun t29 =>
ldB H13 (pad p27 2) fun t30 =>
ldB H13 (pad p27 3) fun t31 =>
ldB H13 (pad p27 4) fun t32 =>
f1 q20 l21 c22 q24 l25 c26 t28 t29 t30 t31 t32 H13 fun p33 n34 H35 =>
hfad 0 p16 fun p36 =>
ldL H35 p36 fun q37 l38 c39 =>
hfad 1 p16 fun p40 =>
ldL H35 p40 fun q41 l42 c43 =>
hfad 2 p16 fun p44 =>
ldB H35 (pad p44 0) fun t45 =>
ldB H35 (pad p44 1) fun t46 =>
ldB H35 (pad p44 2) fun t47 =>
ldB H35 (pad p44 3) fun t48 =>
ldB H35 (pad p44 4) fun t49 =>
f2 q37 l38 c39 q41 l42 c43 t45 t46 t47 t48 t49 H35 fun p50 n51 H52 =>
bif (n34 == n51) then (bif (p33.isNone == p50.isNone) then (f3 p33 H52 fun n53 =>
f4 p50 H52 fun n54 =>
bif (n53 == n54) then (f5 p33 0 H52 fun n55 =>
bif (n55 == 0) then (f0 fun t56 =>
K t56 H52)
 else (K false H52))
 else (K false H52))
 else (K false H52))
 else (K false H52)))
def L_PktheadNews (k : Nat) : L_PktheadNews_t R := L_PktheadNews_b L_exampleHoldsq (pkthead_New k) (R26_New k) pkthead_State_Blocks R26_State_Blocks (pkthead_State_Passes k) (L_PktheadNews_p0 k) k
def x3C : Tab R := tcons 9 (x9a f0) <| tcons 10 (x10a f1) <| tcons 11 (x11a f2) <| tcons 12 (x12a f3) <| tcons 13 (x13a f4) <| tcons 14 (x14a f5) <| fun _ _ _ _ => none
def x3s0 : PS := ⟨(.reg [1,16] []),[1],[.p],⟨[1,16],[],[]⟩⟩
def x3c0 (g : L_PktheadNews_p0_u R) (H : Heap) (K : XK R) : Option R := g H (kN .normal [1,16] [.p,.b] K H)
def x3a0 (f : L_PktheadNews_p0_t R) : Nat → List Value → Heap → XK R → Option R := jp x3s0 x3c0 f
def x3J (k : Nat) : JTab R := tcons 0 (x3a0 z0 k) <| fun _ _ _ _ => none
def x3t : AT := (.seq (.reg [1] []) (.seq (.seq (.opq 0 x3s0.ls x3s0.out x3s0.t) (.cond (.seq (.reg [2] []) .leaf) .leaf)) (.seq (.reg [1,3,4] []) (.seq (.reg [3,4,5,6] []) (.seq (.reg [2] []) .leaf)))))
def x3c (g : L_PktheadNews_u R) (H : Heap) (K : Value → Heap → Option R) : Option R := g H (rH [.b] K)
def x3a (f : L_PktheadNews_t R) : List Value → Heap → (Value → Heap → Option R) → Option R := jf 1 [(.a 7),.l,.l,.b,.b,.b,.b,.b] x3c f
variable {f0 f1 f2 f3 f4 f5 z0}
theorem x3e0 (k : Nat) (H : Heap) (K : XK R) : jE Try.prog An 63 (x3C f0 f1 f2 f3 f4 f5) (x3J z0 k) x3s0 (sel [1,0,0] (bd Try.f3)) H K = mapT (fun g => x3c0 g H K) x3s0.ts (L_PktheadNews_p0_b k) := by kernel_rfl
theorem x3e (k : Nat) (H : Heap) (K : Value → Heap → Option R) : fE Try.prog An (x3C f0 f1 f2 f3 f4 f5) (x3J z0 k) x3t Try.f3 [(.a 7),.l,.l,.b,.b,.b,.b,.b] H K = mapT (fun g => x3c g H K) [(.a 7),.l,.l,.b,.b,.b,.b,.b] (L_PktheadNews_b f0 f1 f2 f3 f4 f5 z0 k) := by kernel_rfl
theorem x3S (R : Type) (k : Nat) : CSound Try.prog (x3C (R := R) L_exampleHoldsq (pkthead_New k) (R26_New k) pkthead_State_Blocks R26_State_Blocks (pkthead_State_Passes k)) := csound_cons (x9cs R k) <| csound_cons (x10cs R k) <| csound_cons (x11cs R k) <| csound_cons (x12cs R k) <| csound_cons (x13cs R k) <| csound_cons (x14cs R k) <| csound_nil
theorem x3j0 (R : Type) (k : Nat) : JS Try.prog 63 (x3a0 (L_PktheadNews_p0 (R := R) k) k) x3s0.ls x3s0.out (sel [1,0,0] (bd Try.f3)) := pj (x3S R k) (x3J (L_PktheadNews_p0 k) k) (by kernel_rfl) (A := True) trivial (by kernel_rfl) (fun _ _ => .trans (x3e0 _ _ _) (by kernel_rfl))
theorem x3cs (R : Type) (k : Nat) : ∀ args H K r,x3a (L_PktheadNews k) args H K = some (r : R) → ∃ v H',Tri Try.prog 3 args H v H' ∧ K v H' = some r := fj (x3S R k) (x3J (L_PktheadNews_p0 k) k) Try.func3 (by kernel_rfl) (A := JS Try.prog 63 (x3a0 (L_PktheadNews_p0 (R := R) k) k) x3s0.ls x3s0.out (sel [1,0,0] (bd Try.f3)) ∧ True) ⟨x3j0 R k,trivial⟩ (by kernel_rfl) (fun _ _ => .trans (x3e _ _ _) (by kernel_rfl))
def L_PktheadNews_c (R : Type) (k : Nat) : List Value → Heap → (Value → Heap → Option R) → Option R := x3a (L_PktheadNews k)
theorem L_PktheadNews_cs (R : Type) (k : Nat) : ∀ args H K r,L_PktheadNews_c R k args H K = some r → ∃ v H',Tri Try.prog 3 args H v H' ∧ K v H' = some r := x3cs R k
end
end Go.Proofs.Ytmanlfonppfhaaa.Sh
