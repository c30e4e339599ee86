/- Lean functions that stand for Go's,over an explicit heap,and the proofs that they do (written by this claim's program sh2.py). -/
import Derived.Test.YtkjcjlembepdkaaShA
import Derived.Test.YtkjcjlembepdkaaSh0
import Derived.Test.YtkjcjlembepdkaaSh2
import Derived.Test.YtkjcjlembepdkaaSh3
import Derived.Test.YtkjcjlembepdkaaSh4
import Derived.Test.YtkjcjlembepdkaaSh6
import Derived.Test.YtkjcjlembepdkaaShD
set_option maxRecDepth 100000
set_option linter.unusedVariables false
set_option linter.unusedSimpArgs false
namespace Go.Proofs.Ytkjcjlembepdkaa.Sh
open Go.Proofs.Ytkjcjlembepdkaa.FW
/-! ### L_ColorspecChecks: function 3 -/
abbrev L_ColorspecChecks_p0_u (R : Type) : Type := Heap → (Int → Oa → Oa → Bool → Heap → Option R) → Option R
abbrev L_ColorspecChecks_p0_t (R : Type) : Type := Int → Oa → Oa → L_ColorspecChecks_p0_u R
abbrev L_ColorspecChecks_u (R : Type) : Type := Heap → (Bool → Heap → Option R) → Option R
abbrev L_ColorspecChecks_t (R : Type) : Type := Int → Oa → Nat → Nat → Oa → Nat → Nat → Int → Int → Int → Int → Int → Int → Oa → Nat → Nat → Int → L_ColorspecChecks_u R
section
variable {R : Type} (f0 : R46_Few_t R) (f1 : L_awakeq_t R) (f2 : colorspec_Check_t R) (f3 : R46_Check_t R) (f4 : colorspec_Channels_t R) (f5 : R46_Channels_t R) (z0 : L_ColorspecChecks_p0_t R)
def L_ColorspecChecks_p0_b (k : Nat) : L_ColorspecChecks_p0_t R := fun n1 p2 p3 H KN =>
ldI .i64 H (pad p2 0) fun n4 =>
ldL H (pad p2 1) fun q5 l6 c7 =>
ldL H (pad p2 2) fun q8 l9 c10 =>
f0 n4 q5 l6 c7 q8 l9 c10 H fun t11 H12 =>
bif (!t11) then (KN n1 p2 p3 true H12)
 else (hfad 6 p3 fun p13 =>
ldL H12 p13 fun q14 l15 c16 =>
KN n1 p2 p3 (decide (((l15 : Nat) : Int) > 10)) H12)
def L_ColorspecChecks_p0 (k : Nat) : L_ColorspecChecks_p0_t R := L_ColorspecChecks_p0_b (R46_Few k) k
def L_ColorspecChecks_b (k : Nat) : L_ColorspecChecks_t R := fun n1 q2 l3 c4 q5 l6 c7 n8 n9 n10 n11 n12 n13 q14 l15 c16 n17 H K =>
hal H [.int .i64 n1,.slice q2 l3 c4,.slice q5 l6 c7] fun p18 H19 =>
hal H19 [.int .i64 n8,.int .i64 n9,.int .i64 n10,.int .i64 n11,.int .i64 n12,.int .i64 n13,.slice q14 l15 c16] fun p20 H21 =>
z0 n17 p18 p20 H21 (fun n26 p27 p28 t29 H30 =>
bif t29 then (f1 fun t31 =>
K t31 H30)
 else (hfrz H30 p27 fun H32 =>
hfrz H32 p28 fun H33 =>
ldI .i64 H33 (pad p27 0) fun n34 =>
ldL H33 (pad p27 1) fun q35 l36 c37 =>
ldL H33 (pad p27 2) fun q38 l39 c40 =>
ldI .i64 H33 (pad p28 0) fun n41 =>
ldI .i64 H33 (pad p28 1) fun n42 =>
ldI .i64 H33 (pad p28 2) fun n43 =>
ldI .i64 H33 (pad p28 3) fun n44 =>
ldI .i64 H33 (pad p28 4) fun n45 =>
ldI .i64 H33 (pad p28 5) fun n46 =>
ldL H33 (pad p28 6) fun q47 l48 c49 =>
f2 n34 q35 l36 c37 q38 l39 c40 n41 n42 n43 n44 n45 n46 q47 l48 c49 H33 fun n50 H51 =>
bif isRo H33 p27 then (ldI .i64 H33 (pad p27 0) fun n52 =>
ldL H33 (pad p27 1) fun q53 l54 c55 =>
ldL H33 (pad p27 2) fun q56 l57 c58 =>
bif isRo H33 p28 then (ldI .i64 H33 (pad p28 0) fun n59 =>
ldI .i64 H33 (pad p28 1) fun n60 =>
ldI .i64 H33 (pad p28 2) fun n61 =>
ldI .i64 H33 (pad p28 3) fun n62 =>
ldI .i64 H33 (pad p28 4) fun n63 =>
ldI .i64 H33 (pad p28 5) fun n64 =>
ldL H33 (pad p28 6) fun q65 l66 c67 =>
f3 n52 q53 l54 c55 q56 l57 c58 n59 n60 n61 n62 n63 n64 q65 l66 c67 H51 fun n68 H69 =>
bif (n50 == n68) then (f4 n26 fun n70 =>
f5 n26 fun n71 =>
bif (n70 == n71) then (f1 fun t72 =>
K t72 H69)
 else (K false H69))
 else (K false H69))
 else none)
 else none))
def L_ColorspecChecks (k : Nat) : L_ColorspecChecks_t R := L_ColorspecChecks_b L_awakeq (colorspec_Check k) (R46_Check k) colorspec_Channels R46_Channels (L_ColorspecChecks_p0 k) k
def x3C : Tab R := tcons 9 (x9a f0) <| tcons 10 (x10a f1) <| tcons 11 (x11a f2) <| tcons 12 (x12a f3) <| tcons 13 (x13a f4) <| tcons 14 (x14a f5) <| fun _ _ _ _ => none
def x3s0 : PS := ⟨(.reg [2,3,4,15] []),[2,3,4],[.n,.p,.p],⟨[2,3,4,15],[],[]⟩⟩
def x3c0 (g : L_ColorspecChecks_p0_u R) (H : Heap) (K : XK R) : Option R := g H (kH .normal [2,3,4,15] [.n,.p,.p,.b] K)
def x3a0 (f : L_ColorspecChecks_p0_t R) : Nat → List Value → Heap → XK R → Option R := jp x3s0 x3c0 f
def x3J (k : Nat) : JTab R := tcons 0 (x3a0 z0 k) <| fun _ _ _ _ => none
def x3t : AT := (.seq (.reg [2,3,4] []) (.seq (.seq (.opq 0 x3s0.ls x3s0.out x3s0.t) (.cond (.seq (.reg [6] []) .leaf) .leaf)) (.seq (.frz 3 (.frz 4 (.reg [6] (ms [0,0,3,0,0,31,63,127,255,511,255,2047,4095,8191,16383,32767,65535,131071])))) .leaf)))
def x3c (g : L_ColorspecChecks_u R) (H : Heap) (K : Value → Heap → Option R) : Option R := g H (rH [.b] K)
def x3a (f : L_ColorspecChecks_t R) : List Value → Heap → (Value → Heap → Option R) → Option R := jf 3 [(.a 3),.n,.l,.l,(.a 7),.n,.n,.n,.n,.n,.n,.l,.n] x3c f
variable {f0 f1 f2 f3 f4 f5 z0}
theorem x3e0 (k : Nat) (H : Heap) (K : XK R) : jE Try.prog An 34 (x3C f0 f1 f2 f3 f4 f5) (x3J z0 k) x3s0 (sel [1,0,0] (bd Try.f3)) H K = mapT (fun g => x3c0 g H K) x3s0.ts (L_ColorspecChecks_p0_b f0 k) := by kernel_rfl
theorem x3e (k : Nat) (H : Heap) (K : Value → Heap → Option R) : fE Try.prog An (x3C f0 f1 f2 f3 f4 f5) (x3J z0 k) x3t Try.f3 [(.a 3),.n,.l,.l,(.a 7),.n,.n,.n,.n,.n,.n,.l,.n] H K = mapT (fun g => x3c g H K) [(.a 3),.n,.l,.l,(.a 7),.n,.n,.n,.n,.n,.n,.l,.n] (L_ColorspecChecks_b f1 f2 f3 f4 f5 z0 k) := by kernel_rfl
theorem x3S (R : Type) (k : Nat) : CSound Try.prog (x3C (R := R) (R46_Few k) L_awakeq (colorspec_Check k) (R46_Check k) colorspec_Channels R46_Channels) := csound_cons (x9cs R k) <| csound_cons (x10cs R k) <| csound_cons (x11cs R k) <| csound_cons (x12cs R k) <| csound_cons (x13cs R k) <| csound_cons (x14cs R k) <| csound_nil
theorem x3j0 (R : Type) (k : Nat) : JS Try.prog 34 (x3a0 (L_ColorspecChecks_p0 (R := R) k) k) x3s0.ls x3s0.out (sel [1,0,0] (bd Try.f3)) := pj (x3S R k) (x3J (L_ColorspecChecks_p0 k) k) (by kernel_rfl) (A := True) trivial (by kernel_rfl) (fun _ _ => .trans (x3e0 _ _ _) (by kernel_rfl))
theorem x3cs (R : Type) (k : Nat) : ∀ args H K r,x3a (L_ColorspecChecks k) args H K = some (r : R) → ∃ v H',Tri Try.prog 3 args H v H' ∧ K v H' = some r := fj (x3S R k) (x3J (L_ColorspecChecks_p0 k) k) Try.func3 (by kernel_rfl) (A := JS Try.prog 34 (x3a0 (L_ColorspecChecks_p0 (R := R) k) k) x3s0.ls x3s0.out (sel [1,0,0] (bd Try.f3)) ∧ True) ⟨x3j0 R k,trivial⟩ (by kernel_rfl) (fun _ _ => .trans (x3e _ _ _) (by kernel_rfl))
def L_ColorspecChecks_c (R : Type) (k : Nat) : List Value → Heap → (Value → Heap → Option R) → Option R := x3a (L_ColorspecChecks k)
theorem L_ColorspecChecks_cs (R : Type) (k : Nat) : ∀ args H K r,L_ColorspecChecks_c R k args H K = some r → ∃ v H',Tri Try.prog 3 args H v H' ∧ K v H' = some r := x3cs R k
end
end Go.Proofs.Ytkjcjlembepdkaa.Sh
