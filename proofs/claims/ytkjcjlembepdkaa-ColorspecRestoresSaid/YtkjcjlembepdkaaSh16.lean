/- Lean functions that stand for Go's,over an explicit heap,and the proofs that they do (written by this claim's program sh2.py). -/
import Derived.Test.YtkjcjlembepdkaaShA
import Derived.Test.YtkjcjlembepdkaaSh10
import Derived.Test.YtkjcjlembepdkaaSh2
import Derived.Test.YtkjcjlembepdkaaSh5
import Derived.Test.YtkjcjlembepdkaaSh9
import Derived.Test.YtkjcjlembepdkaaShD
set_option maxRecDepth 100000
set_option linter.unusedVariables false
set_option linter.unusedSimpArgs false
namespace Go.Proofs.Ytkjcjlembepdkaa.Sh
open Go.Proofs.Ytkjcjlembepdkaa.FW
/-! ### L_ColorspecRestores: function 8 -/
abbrev L_ColorspecRestores_p0_u (R : Type) : Type := Heap → (Oa → Nat → Nat → Oa → Bool → Heap → Option R) → Option R
abbrev L_ColorspecRestores_p0_t (R : Type) : Type := Oa → Nat → Nat → Oa → L_ColorspecRestores_p0_u R
abbrev L_ColorspecRestores_p1_u (R : Type) : Type := Heap → (Oa → Nat → Nat → Heap → Option R) → (Bool → Heap → Option R) → Option R
abbrev L_ColorspecRestores_p1_t (R : Type) : Type := Oa → Nat → Nat → Oa → Oa → Nat → Nat → Int → L_ColorspecRestores_p1_u R
abbrev L_ColorspecRestores_u (R : Type) : Type := Heap → (Bool → Heap → Option R) → Option R
abbrev L_ColorspecRestores_t (R : Type) : Type := Int → Oa → Nat → Nat → Oa → Nat → Nat → Oa → Nat → Nat → L_ColorspecRestores_u R
section
variable {R : Type} (f0 : R46_Few_t R) (f1 : L_awakeq_t R) (f2 : colorspec_Encode_t R) (f3 : colorspec_Decode_t R) (f4 : colorspec_Same_t R) (f5 : R46_Same_t R) (z0 : L_ColorspecRestores_p0_t R) (z1 : L_ColorspecRestores_p1_t R)
def L_ColorspecRestores_p0_b (k : Nat) : L_ColorspecRestores_p0_t R := fun q1 l2 c3 p4 H KN =>
ldI .i64 H (pad p4 0) fun n5 =>
ldL H (pad p4 1) fun q6 l7 c8 =>
ldL H (pad p4 2) fun q9 l10 c11 =>
f0 n5 q6 l7 c8 q9 l10 c11 H fun t12 H13 =>
bif (!t12) then (KN q1 l2 c3 p4 true H13)
 else (KN q1 l2 c3 p4 (decide (((l2 : Nat) : Int) > 5000)) H13)
def L_ColorspecRestores_p0 (k : Nat) : L_ColorspecRestores_p0_t R := L_ColorspecRestores_p0_b (R46_Few k) k
def L_ColorspecRestores_p1_b (k : Nat) : L_ColorspecRestores_p1_t R := fun q1 l2 c3 p4 q5 l6 c7 n8 H KN KR =>
bif (n8 == 0) then (f3 q5 l6 c7 H fun n9 q10 l11 c12 q13 l14 c15 n16 H17 =>
hal H17 [.int .i64 0,.slice none 0 0,.slice none 0 0] fun p18 H19 =>
hst H19 p18 [.int .i64 n9,.slice q10 l11 c12,.slice q13 l14 c15] fun H20 =>
bif (n16 != 0) then (KR false H20)
 else (ldI .i64 H20 (pad p4 0) fun n21 =>
ldL H20 (pad p4 1) fun q22 l23 c24 =>
ldL H20 (pad p4 2) fun q25 l26 c27 =>
ldI .i64 H20 (pad p18 0) fun n28 =>
ldL H20 (pad p18 1) fun q29 l30 c31 =>
ldL H20 (pad p18 2) fun q32 l33 c34 =>
f4 n21 q22 l23 c24 q25 l26 c27 n28 q29 l30 c31 q32 l33 c34 H20 fun t35 H36 =>
bif (!t35) then (KR false H36)
 else (ldI .i64 H36 (pad p4 0) fun n37 =>
ldL H36 (pad p4 1) fun q38 l39 c40 =>
ldL H36 (pad p4 2) fun q41 l42 c43 =>
ldI .i64 H36 (pad p18 0) fun n44 =>
ldL H36 (pad p18 1) fun q45 l46 c47 =>
ldL H36 (pad p18 2) fun q48 l49 c50 =>
f5 n37 q38 l39 c40 q41 l42 c43 n44 q45 l46 c47 q48 l49 c50 H36 fun t51 H52 =>
bif (!t51) then (KR false H52)
 else (KN q1 l2 c3 H52))))
 else (KN q1 l2 c3 H)
def L_ColorspecRestores_p1 (k : Nat) : L_ColorspecRestores_p1_t R := L_ColorspecRestores_p1_b (colorspec_Decode k) (colorspec_Same k) (R46_Same k) k
def L_ColorspecRestores_b (k : Nat) : L_ColorspecRestores_t R := fun n1 q2 l3 c4 q5 l6 c7 q8 l9 c10 H K =>
hal H [.int .i64 n1,.slice q2 l3 c4,.slice q5 l6 c7] fun p11 H12 =>
z0 q8 l9 c10 p11 H12 (fun q18 l19 c20 p21 t22 H23 =>
bif t22 then (f1 fun t24 =>
K t24 H23)
 else (ldI .i64 H23 (pad p21 0) fun n25 =>
ldL H23 (pad p21 1) fun q26 l27 c28 =>
ldL H23 (pad p21 2) fun q29 l30 c31 =>
f2 n25 q26 l27 c28 q29 l30 c31 H23 fun q32 l33 c34 n35 H36 =>
z1 q18 l19 c20 p21 q32 l33 c34 n35 H36 (fun q41 l42 c43 H44 =>
f3 q41 l42 c43 H44 fun n45 q46 l47 c48 q49 l50 c51 n52 H53 =>
hal H53 [.int .i64 0,.slice none 0 0,.slice none 0 0] fun p54 H55 =>
hst H55 p54 [.int .i64 n45,.slice q46 l47 c48,.slice q49 l50 c51] fun H56 =>
bif (n52 != 0) then (hfad 1 p54 fun p57 =>
ldL H56 p57 fun q58 l59 c60 =>
bif (((l59 : Nat) : Int) == 0) then (f1 fun t61 =>
K t61 H56)
 else (K false H56))
 else (ldI .i64 H56 (pad p54 0) fun n62 =>
ldL H56 (pad p54 1) fun q63 l64 c65 =>
ldL H56 (pad p54 2) fun q66 l67 c68 =>
f2 n62 q63 l64 c65 q66 l67 c68 H56 fun q69 l70 c71 n72 H73 =>
bif (n72 == 0) then (hb2s H73 q69 l70 fun s74 =>
hb2s H73 q41 l42 fun s75 =>
bif (s74 == s75) then (f1 fun t76 =>
K t76 H73)
 else (K false H73))
 else (K false H73))) (fun t77 H78 =>
K t77 H78)))
def L_ColorspecRestores (k : Nat) : L_ColorspecRestores_t R := L_ColorspecRestores_b L_awakeq (colorspec_Encode k) (colorspec_Decode k) (L_ColorspecRestores_p0 k) (L_ColorspecRestores_p1 k) k
def x8C : Tab R := tcons 9 (x9a f0) <| tcons 10 (x10a f1) <| tcons 19 (x19a f2) <| tcons 23 (x23a f3) <| tcons 21 (x21a f4) <| tcons 22 (x22a f5) <| fun _ _ _ _ => none
def x8s1 : PS := ⟨(.seq (.reg [1,2,5,26] []) (.cond (.seq (.reg [1,2,7,8] []) (.seq (.reg [1,45] []) (.cond (.seq (.reg [4] []) .leaf) .leaf))) .leaf)),[1,2,5,6],[.l,.p,.l,.n],⟨[1],[],[4]⟩⟩
def x8c1 (g : L_ColorspecRestores_p1_u R) (H : Heap) (K : XK R) : Option R := g H (kH .normal [1] [.l] K) (kH .ret [4] [.b] K)
def x8a1 (f : L_ColorspecRestores_p1_t R) : Nat → List Value → Heap → XK R → Option R := jp x8s1 x8c1 f
def x8s0 : PS := ⟨(.reg [1,2,18] []),[1,2],[.l,.p],⟨[1,2,18],[],[]⟩⟩
def x8c0 (g : L_ColorspecRestores_p0_u R) (H : Heap) (K : XK R) : Option R := g H (kH .normal [1,2,18] [.l,.p,.b] K)
def x8a0 (f : L_ColorspecRestores_p0_t R) : Nat → List Value → Heap → XK R → Option R := jp x8s0 x8c0 f
def x8J (k : Nat) : JTab R := tcons 0 (x8a0 z0 k) <| tcons 1 (x8a1 z1 k) <| fun _ _ _ _ => none
def x8t : AT := (.seq (.reg [1,2] []) (.seq (.seq (.opq 0 x8s0.ls x8s0.out x8s0.t) (.cond (.seq (.reg [4] []) .leaf) .leaf)) (.seq (.reg [1,2,5,6] []) (.seq (.opq 1 x8s1.ls x8s1.out x8s1.t) (.seq (.reg [1,9,10] []) (.seq (.seq (.reg [1,9,52] []) (.cond (.seq (.reg [4] []) .leaf) .leaf)) (.seq (.reg [1,5,6] []) (.seq (.reg [4] []) .leaf))))))))
def x8c (g : L_ColorspecRestores_u R) (H : Heap) (K : Value → Heap → Option R) : Option R := g H (rH [.b] K)
def x8a (f : L_ColorspecRestores_t R) : List Value → Heap → (Value → Heap → Option R) → Option R := jf 2 [(.a 3),.n,.l,.l,.l] x8c f
variable {f0 f1 f2 f3 f4 f5 z0 z1}
theorem x8e1 (k : Nat) (H : Heap) (K : XK R) : jE Try.prog An 77 (x8C f0 f1 f2 f3 f4 f5) (x8J z0 z1 k) x8s1 (sel [1,1,1,0] (bd Try.f8)) H K = mapT (fun g => x8c1 g H K) x8s1.ts (L_ColorspecRestores_p1_b f3 f4 f5 k) := by kernel_rfl
theorem x8e0 (k : Nat) (H : Heap) (K : XK R) : jE Try.prog An 77 (x8C f0 f1 f2 f3 f4 f5) (x8J z0 z1 k) x8s0 (sel [1,0,0] (bd Try.f8)) H K = mapT (fun g => x8c0 g H K) x8s0.ts (L_ColorspecRestores_p0_b f0 k) := by kernel_rfl
theorem x8e (k : Nat) (H : Heap) (K : Value → Heap → Option R) : fE Try.prog An (x8C f0 f1 f2 f3 f4 f5) (x8J z0 z1 k) x8t Try.f8 [(.a 3),.n,.l,.l,.l] H K = mapT (fun g => x8c g H K) [(.a 3),.n,.l,.l,.l] (L_ColorspecRestores_b f1 f2 f3 z0 z1 k) := by kernel_rfl
theorem x8S (R : Type) (k : Nat) : CSound Try.prog (x8C (R := R) (R46_Few k) L_awakeq (colorspec_Encode k) (colorspec_Decode k) (colorspec_Same k) (R46_Same k)) := csound_cons (x9cs R k) <| csound_cons (x10cs R k) <| csound_cons (x19cs R k) <| csound_cons (x23cs R k) <| csound_cons (x21cs R k) <| csound_cons (x22cs R k) <| csound_nil
theorem x8j1 (R : Type) (k : Nat) : JS Try.prog 77 (x8a1 (L_ColorspecRestores_p1 (R := R) k) k) x8s1.ls x8s1.out (sel [1,1,1,0] (bd Try.f8)) := pj (x8S R k) (x8J (L_ColorspecRestores_p0 k) (L_ColorspecRestores_p1 k) k) (by kernel_rfl) (A := True) trivial (by kernel_rfl) (fun _ _ => .trans (x8e1 _ _ _) (by kernel_rfl))
theorem x8j0 (R : Type) (k : Nat) : JS Try.prog 77 (x8a0 (L_ColorspecRestores_p0 (R := R) k) k) x8s0.ls x8s0.out (sel [1,0,0] (bd Try.f8)) := pj (x8S R k) (x8J (L_ColorspecRestores_p0 k) (L_ColorspecRestores_p1 k) k) (by kernel_rfl) (A := True) trivial (by kernel_rfl) (fun _ _ => .trans (x8e0 _ _ _) (by kernel_rfl))
theorem x8cs (R : Type) (k : Nat) : ∀ args H K r,x8a (L_ColorspecRestores k) args H K = some (r : R) → ∃ v H',Tri Try.prog 8 args H v H' ∧ K v H' = some r := fj (x8S R k) (x8J (L_ColorspecRestores_p0 k) (L_ColorspecRestores_p1 k) k) Try.func8 (by kernel_rfl) (A := JS Try.prog 77 (x8a0 (L_ColorspecRestores_p0 (R := R) k) k) x8s0.ls x8s0.out (sel [1,0,0] (bd Try.f8)) ∧ JS Try.prog 77 (x8a1 (L_ColorspecRestores_p1 (R := R) k) k) x8s1.ls x8s1.out (sel [1,1,1,0] (bd Try.f8)) ∧ True) ⟨x8j0 R k,⟨x8j1 R k,trivial⟩⟩ (by kernel_rfl) (fun _ _ => .trans (x8e _ _ _) (by kernel_rfl))
def L_ColorspecRestores_c (R : Type) (k : Nat) : List Value → Heap → (Value → Heap → Option R) → Option R := x8a (L_ColorspecRestores k)
theorem L_ColorspecRestores_cs (R : Type) (k : Nat) : ∀ args H K r,L_ColorspecRestores_c R k args H K = some r → ∃ v H',Tri Try.prog 8 args H v H' ∧ K v H' = some r := x8cs R k
end
end Go.Proofs.Ytkjcjlembepdkaa.Sh
