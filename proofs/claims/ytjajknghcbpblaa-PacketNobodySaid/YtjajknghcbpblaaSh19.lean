/- Lean functions that stand for Go's,over an explicit heap,and the proofs that they do (written by this claim's program sh2.py). -/
import Derived.Test.YtjajknghcbpblaaShA
import Derived.Test.YtjajknghcbpblaaSh11
import Derived.Test.YtjajknghcbpblaaShD
set_option maxRecDepth 100000
set_option linter.unusedVariables false
set_option linter.unusedSimpArgs false
namespace Go.Proofs.Ytjajknghcbpblaa.Sh
open Go.Proofs.Ytjajknghcbpblaa.FW
/-! ### L_PacketNobody: function 7 -/
abbrev L_PacketNobody_p0_u (R : Type) : Type := Heap → (Oa → Nat → Nat → Int → Int → Oa → Heap → Option R) → Option R
abbrev L_PacketNobody_p0_t (R : Type) : Type := Oa → Nat → Nat → Int → Int → Bool → Oa → L_PacketNobody_p0_u R
abbrev L_PacketNobody_u (R : Type) : Type := Heap → (Bool → Heap → Option R) → Option R
abbrev L_PacketNobody_t (R : Type) : Type := Oa → Nat → Nat → Int → Int → Bool → L_PacketNobody_u R
section
variable {R : Type} (f0 : L_exampleHoldsq_t R) (f1 : packet_Read_t R) (f2 : R27_SamePacket_t R) (z0 : L_PacketNobody_p0_t R)
def L_PacketNobody_p0_b (k : Nat) : L_PacketNobody_p0_t R := fun q1 l2 c3 n4 n5 t6 p7 H KN =>
bif t6 then (hal H [.bool false,.bool false,.bool false,.bool false,.bool false,.bool false,.bool false,.bool false,.slice none 0 0,.slice none 0 0,.int .i64 0] fun p8 H9 =>
KN q1 l2 c3 n4 n5 p8 H9)
 else (KN q1 l2 c3 n4 n5 p7 H)
def L_PacketNobody_p0 (k : Nat) : L_PacketNobody_p0_t R := L_PacketNobody_p0_b k
def L_PacketNobody_b (k : Nat) : L_PacketNobody_t R := fun q1 l2 c3 n4 n5 t6 H K =>
bif decide (((l2 : Nat) : Int) > 500) then (f0 fun t7 =>
K t7 H)
 else (z0 q1 l2 c3 n4 n5 t6 none H (fun q14 l15 c16 n17 n18 p19 H20 =>
f1 q14 l15 c16 n17 p19 0 0 0 1 false false n18 H20 fun n21 n22 n23 n24 q25 l26 c27 q28 l29 c30 q31 l32 c33 n34 n35 H36 =>
hal H36 [.int .i64 0,.int .i64 0,.int .i64 0,.int .i64 0,.slice none 0 0,.slice none 0 0] fun p37 H38 =>
hst H38 p37 [.int .i64 n21,.int .i64 n22,.int .i64 n23,.int .i64 n24,.slice q25 l26 c27,.slice q28 l29 c30] fun H39 =>
ldI .i64 H39 (pad p37 0) fun n40 =>
ldI .i64 H39 (pad p37 1) fun n41 =>
ldI .i64 H39 (pad p37 2) fun n42 =>
ldI .i64 H39 (pad p37 3) fun n43 =>
ldL H39 (pad p37 4) fun q44 l45 c46 =>
ldL H39 (pad p37 5) fun q47 l48 c49 =>
f2 n40 n41 n42 n43 q44 l45 c46 q47 l48 c49 0 0 0 0 none 0 0 none 0 0 H39 fun t50 H51 =>
bif t50 then (bif (((l32 : Nat) : Int) == 0) then (bif (n34 == 0) then (bif (n35 == 6) then (f0 fun t52 =>
K t52 H51)
 else (K false H51))
 else (K false H51))
 else (K false H51))
 else (K false H51)))
def L_PacketNobody (k : Nat) : L_PacketNobody_t R := L_PacketNobody_b L_exampleHoldsq (packet_Read k) R27_SamePacket (L_PacketNobody_p0 k) k
def x7C : Tab R := tcons 10 (x10a f0) <| tcons 20 (x20a f1) <| tcons 21 (x21a f2) <| fun _ _ _ _ => none
def x7s0 : PS := ⟨(.seq (.reg [0,1,2,9,18] []) (.cond (.reg [0,1,2,9] []) .leaf)),[0,1,2,3,9],[.l,.n,.n,.b,.p],⟨[0,1,2,9],[],[]⟩⟩
def x7c0 (g : L_PacketNobody_p0_u R) (H : Heap) (K : XK R) : Option R := g H (kH .normal [0,1,2,9] [.l,.n,.n,.p] K)
def x7a0 (f : L_PacketNobody_p0_t R) : Nat → List Value → Heap → XK R → Option R := jp x7s0 x7c0 f
def x7J (k : Nat) : JTab R := tcons 0 (x7a0 z0 k) <| fun _ _ _ _ => none
def x7t : AT := (.seq (.reg [0,1,2,3] []) (.seq (.seq (.reg [0,1,2,3,16] []) (.cond (.seq (.reg [8] []) .leaf) .leaf)) (.seq (.reg [0,1,2,3,9] []) (.seq (.opq 0 x7s0.ls x7s0.out x7s0.t) (.seq (.reg [10,11,12,13] []) (.seq (.reg [8] []) .leaf))))))
def x7c (g : L_PacketNobody_u R) (H : Heap) (K : Value → Heap → Option R) : Option R := g H (rH [.b] K)
def x7a (f : L_PacketNobody_t R) : List Value → Heap → (Value → Heap → Option R) → Option R := jf 4 [.l,.n,.n,.b] x7c f
variable {f0 f1 f2 z0}
theorem x7e0 (k : Nat) (H : Heap) (K : XK R) : jE Try.prog An 51 (x7C f0 f1 f2) (x7J z0 k) x7s0 (sel [1,1,1,0] (bd Try.f7)) H K = mapT (fun g => x7c0 g H K) x7s0.ts (L_PacketNobody_p0_b k) := by kernel_rfl
theorem x7e (k : Nat) (H : Heap) (K : Value → Heap → Option R) : fE Try.prog An (x7C f0 f1 f2) (x7J z0 k) x7t Try.f7 [.l,.n,.n,.b] H K = mapT (fun g => x7c g H K) [.l,.n,.n,.b] (L_PacketNobody_b f0 f1 f2 z0 k) := by kernel_rfl
theorem x7S (R : Type) (k : Nat) : CSound Try.prog (x7C (R := R) L_exampleHoldsq (packet_Read k) R27_SamePacket) := csound_cons (x10cs R k) <| csound_cons (x20cs R k) <| csound_cons (x21cs R k) <| csound_nil
theorem x7j0 (R : Type) (k : Nat) : JS Try.prog 51 (x7a0 (L_PacketNobody_p0 (R := R) k) k) x7s0.ls x7s0.out (sel [1,1,1,0] (bd Try.f7)) := pj (x7S R k) (x7J (L_PacketNobody_p0 k) k) (by kernel_rfl) (A := True) trivial (by kernel_rfl) (fun _ _ => .trans (x7e0 _ _ _) (by kernel_rfl))
theorem x7cs (R : Type) (k : Nat) : ∀ args H K r,x7a (L_PacketNobody k) args H K = some (r : R) → ∃ v H',Tri Try.prog 7 args H v H' ∧ K v H' = some r := fj (x7S R k) (x7J (L_PacketNobody_p0 k) k) Try.func7 (by kernel_rfl) (A := JS Try.prog 51 (x7a0 (L_PacketNobody_p0 (R := R) k) k) x7s0.ls x7s0.out (sel [1,1,1,0] (bd Try.f7)) ∧ True) ⟨x7j0 R k,trivial⟩ (by kernel_rfl) (fun _ _ => .trans (x7e _ _ _) (by kernel_rfl))
def L_PacketNobody_c (R : Type) (k : Nat) : List Value → Heap → (Value → Heap → Option R) → Option R := x7a (L_PacketNobody k)
theorem L_PacketNobody_cs (R : Type) (k : Nat) : ∀ args H K r,L_PacketNobody_c R k args H K = some r → ∃ v H',Tri Try.prog 7 args H v H' ∧ K v H' = some r := x7cs R k
end
end Go.Proofs.Ytjajknghcbpblaa.Sh
