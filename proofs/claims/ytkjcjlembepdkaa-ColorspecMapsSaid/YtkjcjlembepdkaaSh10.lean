/- Lean functions that stand for Go's,over an explicit heap,and the proofs that they do (written by this claim's program sh2.py). -/
import Derived.Test.YtkjcjlembepdkaaShA
import Derived.Test.YtkjcjlembepdkaaSh0
import Derived.Test.YtkjcjlembepdkaaSh1
set_option maxRecDepth 100000
set_option linter.unusedVariables false
set_option linter.unusedSimpArgs false
namespace Go.Proofs.Ytkjcjlembepdkaa.Sh
open Go.Proofs.Ytkjcjlembepdkaa.FW
/-! ### colorspec_numbers: function 40 -/
abbrev colorspec_numbers_l0_r (R : Type) : Type := Oa → Nat → Nat → Oa → Nat → Nat → Int → Int → Heap → Option R
abbrev colorspec_numbers_l0_q (R T : Type) : Type := (Oa → Nat → Nat → Heap → Option R) → T
abbrev colorspec_numbers_l0_t (R : Type) : Type := colorspec_numbers_l0_q R (Nat → colorspec_numbers_l0_r R)
abbrev colorspec_numbers_u (R : Type) : Type := Heap → (Oa → Nat → Nat → Heap → Option R) → Option R
abbrev colorspec_numbers_t (R : Type) : Type := Oa → Nat → Nat → colorspec_numbers_u R
section
variable {R : Type} (z0 : colorspec_numbers_l0_t R)
def colorspec_numbers_l0_b (k : Nat) : colorspec_numbers_l0_q R (colorspec_numbers_l0_r R → colorspec_numbers_l0_r R) := fun KE0 rec q1 l2 c3 q4 l5 c6 n7 n8 H =>
bif decide (n8 < n7) then (hidx q4 l5 n8 1 fun p9 =>
ldI .u8 H p9 fun n10 =>
hal H [.int .i64 (IntKind.wrap .i64 n10)] fun p11 H12 =>
happS 1 8 H12 q1 l2 c3 p11 1 fun q13 l14 c15 H16 =>
rec q13 l14 c15 q4 l5 c6 n7 (IntKind.wrap .i64 (n8 + 1)) H16)
 else (KE0 q1 l2 c3 H)
def colorspec_numbers_l0 (k : Nat) : colorspec_numbers_l0_t R
  | KE0,0 => fun _ _ _ _ _ _ _ _ _ => none
  | KE0,n + 1 => colorspec_numbers_l0_b k KE0 (colorspec_numbers_l0 k KE0 n)
def colorspec_numbers_b (k : Nat) : colorspec_numbers_t R := fun q1 l2 c3 H K =>
z0 (fun q7 l8 c9 H10 =>
K q7 l8 c9 H10) k none 0 0 q1 l2 c3 ((l2 : Nat) : Int) 0 H
def colorspec_numbers (k : Nat) : colorspec_numbers_t R := colorspec_numbers_b (colorspec_numbers_l0 k) k
def x40C : Tab R := fun _ _ _ _ => none
def x40s0 : PS := ⟨(.seq (.reg [3,6,7,8,9] []) (.seq (.cond .leaf .leaf) (.seq (.node (.seq (.reg [3,5,6,7,8] []) (.reg [3,6,7,8] []))) (.reg [3,6,7,8] [])))),[3,6,7,8],[.l,.l,.n,.n],⟨[],[(0,[3])],[]⟩⟩
def x40c0 {T : Type} (g : colorspec_numbers_l0_q R T) (H : Heap) (K : XK R) : T := g (kH (.exit 0) [3] [.l] K)
def x40a0 (f : colorspec_numbers_l0_t R) : Nat → List Value → Heap → XK R → Option R := jl x40s0 (L := colorspec_numbers_l0_t R) x40c0 pH f
def x40J (k : Nat) : JTab R := tcons 0 (x40a0 z0 k) <| fun _ _ _ _ => none
def x40t : AT := (.seq (.reg [0] []) (.seq (.reg [0,3] []) (.seq (.seq (.reg [3,6,7,8] []) (.node (.opq 0 x40s0.ls x40s0.out (.node x40s0.t)))) (.seq (.reg [2] []) .leaf))))
def x40c (g : colorspec_numbers_u R) (H : Heap) (K : Value → Heap → Option R) : Option R := g H (rH [.l] K)
def x40a (f : colorspec_numbers_t R) : List Value → Heap → (Value → Heap → Option R) → Option R := jf 1 [.l] x40c f
variable {z0}
theorem x40e0 (k n : Nat) (H : Heap) (K : XK R) : lE Try.prog An 19 (x40C) (x40J z0 k) x40s0 (sel [1,1,0,1,0,0] (bd Try.f40)) (x40a0 z0) n H K = mapT (fun g => pH g H) x40s0.ts (x40c0 (colorspec_numbers_l0_b k) H K (x40c0 z0 H K n)) := by kernel_rfl
theorem x40e (k : Nat) (H : Heap) (K : Value → Heap → Option R) : fE Try.prog An (x40C) (x40J z0 k) x40t Try.f40 [.l] H K = mapT (fun g => x40c g H K) [.l] (colorspec_numbers_b z0 k) := by kernel_rfl
theorem x40S (R : Type) (k : Nat) : CSound Try.prog (x40C (R := R)) := csound_nil
theorem x40j0 (R : Type) (k : Nat) : JS Try.prog 19 (x40a0 (colorspec_numbers_l0 (R := R) k) k) x40s0.ls x40s0.out (.loop (sel [1,1,0,1,0,0] (bd Try.f40))) := lj (x40S R k) (x40J (colorspec_numbers_l0 k) k) (by kernel_rfl) (A := True) trivial (by kernel_rfl) (fun _ _ => by kernel_rfl) (fun _ _ _ => .trans (x40e0 _ _ _ _) (by kernel_rfl)) k
theorem x40cs (R : Type) (k : Nat) : ∀ args H K r,x40a (colorspec_numbers k) args H K = some (r : R) → ∃ v H',Tri Try.prog 40 args H v H' ∧ K v H' = some r := fj (x40S R k) (x40J (colorspec_numbers_l0 k) k) Try.func40 (by kernel_rfl) (A := JS Try.prog 19 (x40a0 (colorspec_numbers_l0 (R := R) k) k) x40s0.ls x40s0.out (.loop (sel [1,1,0,1,0,0] (bd Try.f40))) ∧ True) ⟨x40j0 R k,trivial⟩ (by kernel_rfl) (fun _ _ => .trans (x40e _ _ _) (by kernel_rfl))
end
/-! ### colorspec_Decode: function 23 -/
abbrev colorspec_Decode_p0_u (R : Type) : Type := (Oa → Nat → Nat → Oa → Int → Oa → Bool → Option R) → Option R
abbrev colorspec_Decode_p0_t (R : Type) : Type := Oa → Nat → Nat → Oa → Int → Int → Oa → colorspec_Decode_p0_u R
abbrev colorspec_Decode_l1_r (R : Type) : Type := Oa → Nat → Nat → Oa → Int → Oa → Int → Heap → Option R
abbrev colorspec_Decode_l1_q (R T : Type) : Type := (Oa → Oa → Heap → Option R) → T
abbrev colorspec_Decode_l1_t (R : Type) : Type := colorspec_Decode_l1_q R (Nat → colorspec_Decode_l1_r R)
abbrev colorspec_Decode_u (R : Type) : Type := Heap → (Int → Oa → Nat → Nat → Oa → Nat → Nat → Int → Heap → Option R) → Option R
abbrev colorspec_Decode_t (R : Type) : Type := Oa → Nat → Nat → colorspec_Decode_u R
section
variable {R : Type} (f0 : colorspec_numbers_t R) (f1 : colorspec_known_t R) (f2 : colorspec_validate_t R) (z0 : colorspec_Decode_p0_t R) (z1 : colorspec_Decode_l1_t R)
def colorspec_Decode_p0_b (k : Nat) : colorspec_Decode_p0_t R := fun q1 l2 c3 p4 n5 n6 p7 KN =>
bif (n5 == 0) then (KN q1 l2 c3 p4 n5 p7 (decide (n6 > 0)))
 else (KN q1 l2 c3 p4 n5 p7 false)
def colorspec_Decode_p0 (k : Nat) : colorspec_Decode_p0_t R := colorspec_Decode_p0_b k
def colorspec_Decode_l1_b (k : Nat) : colorspec_Decode_l1_q R (colorspec_Decode_l1_r R → colorspec_Decode_l1_r R) := fun KE0 rec q1 l2 c3 p4 n5 p6 n7 H =>
bif decide (n7 < ((l2 : Nat) : Int)) then (hfad 2 p6 fun p8 =>
ldL H p8 fun q9 l10 c11 =>
hslc 1 q1 l2 c3 (some n7) (some (IntKind.wrap .i64 (n7 + n5))) none fun q12 l13 c14 =>
f0 q12 l13 c14 (roH H) fun q15 l16 c17 H18 =>
hal (H ++ H18.drop H.length) [.slice q15 l16 c17] fun p19 H20 =>
happS 1 24 H20 q9 l10 c11 p19 1 fun q21 l22 c23 H24 =>
hfad 2 p6 fun p25 =>
hst1 H24 p25 (.slice q21 l22 c23) fun H26 =>
rec q1 l2 c3 p4 n5 p6 (IntKind.wrap .i64 (n7 + n5)) H26)
 else (KE0 p4 p6 H)
def colorspec_Decode_l1 (k : Nat) : colorspec_Decode_l1_t R
  | KE0,0 => fun _ _ _ _ _ _ _ _ => none
  | KE0,n + 1 => colorspec_Decode_l1_b (colorspec_numbers k) k KE0 (colorspec_Decode_l1 k KE0 n)
def colorspec_Decode_b (k : Nat) : colorspec_Decode_t R := fun q1 l2 c3 H K =>
hal H [.int .i64 0,.slice none 0 0,.slice none 0 0] fun p4 H5 =>
bif decide (((l2 : Nat) : Int) < 2) then (hst H5 p4 [.int .i64 0,.slice none 0 0,.slice none 0 0] fun H6 =>
ldI .i64 H6 (pad p4 0) fun n7 =>
ldL H6 (pad p4 1) fun q8 l9 c10 =>
ldL H6 (pad p4 2) fun q11 l12 c13 =>
K n7 q8 l9 c10 q11 l12 c13 7 H6)
 else (hidx q1 l2 1 1 fun p14 =>
ldI .u8 H5 p14 fun n15 =>
bif decide (((l2 : Nat) : Int) < (IntKind.wrap .i64 ((IntKind.wrap .i64 n15) + 4))) then (hst H5 p4 [.int .i64 0,.slice none 0 0,.slice none 0 0] fun H16 =>
ldI .i64 H16 (pad p4 0) fun n17 =>
ldL H16 (pad p4 1) fun q18 l19 c20 =>
ldL H16 (pad p4 2) fun q21 l22 c23 =>
K n17 q18 l19 c20 q21 l22 c23 7 H16)
 else (hidx q1 l2 (IntKind.wrap .i64 ((IntKind.wrap .i64 n15) + 2)) 1 fun p24 =>
ldI .u8 H5 p24 fun n25 =>
hidx q1 l2 (IntKind.wrap .i64 ((IntKind.wrap .i64 n15) + 3)) 1 fun p26 =>
ldI .u8 H5 p26 fun n27 =>
hbin .or .i64 (IntKind.wrap .i64 ((IntKind.wrap .i64 n25) * 256)) (IntKind.wrap .i64 n27) fun n28 =>
bif decide (((l2 : Nat) : Int) < (IntKind.wrap .i64 ((IntKind.wrap .i64 ((IntKind.wrap .i64 n15) + 4)) + (IntKind.wrap .i64 ((IntKind.wrap .i64 n15) * n28))))) then (hst H5 p4 [.int .i64 0,.slice none 0 0,.slice none 0 0] fun H29 =>
ldI .i64 H29 (pad p4 0) fun n30 =>
ldL H29 (pad p4 1) fun q31 l32 c33 =>
ldL H29 (pad p4 2) fun q34 l35 c36 =>
K n30 q31 l32 c33 q34 l35 c36 7 H29)
 else (bif decide (((l2 : Nat) : Int) > (IntKind.wrap .i64 ((IntKind.wrap .i64 ((IntKind.wrap .i64 n15) + 4)) + (IntKind.wrap .i64 ((IntKind.wrap .i64 n15) * n28))))) then (hst H5 p4 [.int .i64 0,.slice none 0 0,.slice none 0 0] fun H37 =>
ldI .i64 H37 (pad p4 0) fun n38 =>
ldL H37 (pad p4 1) fun q39 l40 c41 =>
ldL H37 (pad p4 2) fun q42 l43 c44 =>
K n38 q39 l40 c41 q42 l43 c44 9 H37)
 else (hidx q1 l2 0 1 fun p45 =>
ldI .u8 H5 p45 fun n46 =>
hslc 1 q1 l2 c3 (some 2) (some (IntKind.wrap .i64 ((IntKind.wrap .i64 n15) + 2))) none fun q47 l48 c49 =>
f0 q47 l48 c49 (roH H5) fun q50 l51 c52 H53 =>
hal (H5 ++ H53.drop H5.length) [.int .i64 0,.slice none 0 0,.slice none 0 0] fun p54 H55 =>
hst H55 p54 [.int .i64 (IntKind.wrap .i64 n46),.slice q50 l51 c52,.slice none 0 0] fun H56 =>
z0 q1 l2 c3 p4 (IntKind.wrap .i64 n15) n28 p54 (fun q64 l65 c66 p67 n68 p69 t70 =>
bif t70 then (hfad 0 p69 fun p71 =>
ldI .i64 H56 p71 fun n72 =>
f1 n72 fun t73 =>
bif (!t73) then (hst H56 p67 [.int .i64 0,.slice none 0 0,.slice none 0 0] fun H74 =>
ldI .i64 H74 (pad p67 0) fun n75 =>
ldL H74 (pad p67 1) fun q76 l77 c78 =>
ldL H74 (pad p67 2) fun q79 l80 c81 =>
K n75 q76 l77 c78 q79 l80 c81 3 H74)
 else (hst H56 p67 [.int .i64 0,.slice none 0 0,.slice none 0 0] fun H82 =>
ldI .i64 H82 (pad p67 0) fun n83 =>
ldL H82 (pad p67 1) fun q84 l85 c86 =>
ldL H82 (pad p67 2) fun q87 l88 c89 =>
K n83 q84 l85 c86 q87 l88 c89 21 H82))
 else (z1 (fun p92 p93 H94 =>
ldI .i64 H94 (pad p93 0) fun n95 =>
ldL H94 (pad p93 1) fun q96 l97 c98 =>
ldL H94 (pad p93 2) fun q99 l100 c101 =>
f2 n95 q96 l97 c98 q99 l100 c101 H94 fun n102 H103 =>
bif (n102 != 0) then (hst H103 p92 [.int .i64 0,.slice none 0 0,.slice none 0 0] fun H104 =>
ldI .i64 H104 (pad p92 0) fun n105 =>
ldL H104 (pad p92 1) fun q106 l107 c108 =>
ldL H104 (pad p92 2) fun q109 l110 c111 =>
K n105 q106 l107 c108 q109 l110 c111 n102 H104)
 else (ldI .i64 H103 (pad p93 0) fun n112 =>
ldL H103 (pad p93 1) fun q113 l114 c115 =>
ldL H103 (pad p93 2) fun q116 l117 c118 =>
hst H103 p92 [.int .i64 n112,.slice q113 l114 c115,.slice q116 l117 c118] fun H119 =>
ldI .i64 H119 (pad p92 0) fun n120 =>
ldL H119 (pad p92 1) fun q121 l122 c123 =>
ldL H119 (pad p92 2) fun q124 l125 c126 =>
K n120 q121 l122 c123 q124 l125 c126 0 H119)) k q64 l65 c66 p67 n68 p69 (IntKind.wrap .i64 (n68 + 4)) H56))))))
def colorspec_Decode (k : Nat) : colorspec_Decode_t R := colorspec_Decode_b (colorspec_numbers k) colorspec_known (colorspec_validate k) (colorspec_Decode_p0 k) (colorspec_Decode_l1 k) k
def x23C : Tab R := tcons 40 (x40a f0) <| tcons 41 (x41a f1) <| tcons 26 (x26a f2) <| fun _ _ _ _ => none
def x23s1 : PS := ⟨(.seq (.seq (.reg [0,2,4,6,7,84] []) (.cond .leaf .leaf)) (.seq (.node (.reg [0,2,4,6,7] (ms [0,1,0,0,0,0,48,124,252,508,1023,2047,4095]))) (.reg [0,2,4,6,7] []))),[0,2,4,6,7],[.l,.p,.n,.p,.n],⟨[],[(0,[2,6])],[]⟩⟩
def x23c1 {T : Type} (g : colorspec_Decode_l1_q R T) (H : Heap) (K : XK R) : T := g (kH (.exit 0) [2,6] [.p,.p] K)
def x23a1 (f : colorspec_Decode_l1_t R) : Nat → List Value → Heap → XK R → Option R := jl x23s1 (L := colorspec_Decode_l1_t R) x23c1 pH f
def x23s0 : PS := ⟨(.reg [0,2,4,6,72] []),[0,2,4,5,6],[.l,.p,.n,.n,.p],⟨[0,2,4,6,72],[],[]⟩⟩
def x23c0 (g : colorspec_Decode_p0_u R) (H : Heap) (K : XK R) : Option R := g (kN .normal [0,2,4,6,72] [.l,.p,.n,.p,.b] K H)
def x23a0 (f : colorspec_Decode_p0_t R) : Nat → List Value → Heap → XK R → Option R := jp x23s0 x23c0 f
def x23J (k : Nat) : JTab R := tcons 0 (x23a0 z0 k) <| tcons 1 (x23a1 z1 k) <| fun _ _ _ _ => none
def x23t : AT := (.seq (.reg [0,2] []) (.seq (.seq (.reg [0,2,11] []) (.cond (.seq (.reg [2,3] []) .leaf) .leaf)) (.seq (.reg [0,2,4] []) (.seq (.seq (.reg [0,2,4,21] []) (.cond (.seq (.reg [2,3] []) .leaf) .leaf)) (.seq (.reg [0,2,4,5] (ms [0,0,2,7,15,31,63,0,0,256,896,1920,3968,8191,16383])) (.seq (.seq (.reg [0,2,4,5,45] []) (.cond (.seq (.reg [2,3] []) .leaf) .leaf)) (.seq (.seq (.reg [0,2,4,5,55] []) (.cond (.seq (.reg [2,3] []) .leaf) .leaf)) (.seq (.reg [0,2,4,5,6] (ms [0,1,3,7,0,0,32,112,240,511,0,2047])) (.seq (.seq (.opq 0 x23s0.ls x23s0.out x23s0.t) (.cond (.seq (.seq (.reg [2,76] []) (.cond (.seq (.reg [2,3] []) .leaf) .leaf)) (.seq (.reg [2,3] []) .leaf)) .leaf)) (.seq (.seq (.reg [0,2,4,6,7] []) (.node (.opq 1 x23s1.ls x23s1.out (.node x23s1.t)))) (.seq (.seq (.reg [2,6,8] []) (.seq (.reg [2,6,8,103] []) (.cond (.seq (.reg [2,3] []) .leaf) .leaf))) (.seq (.reg [2,3] []) .leaf))))))))))))
def x23c (g : colorspec_Decode_u R) (H : Heap) (K : Value → Heap → Option R) : Option R := g H (rH [(.a 3),.n,.l,.l,.n] K)
def x23a (f : colorspec_Decode_t R) : List Value → Heap → (Value → Heap → Option R) → Option R := jf 1 [.l] x23c f
variable {f0 f1 f2 z0 z1}
theorem x23e1 (k n : Nat) (H : Heap) (K : XK R) : lE Try.prog An 107 (x23C f0 f1 f2) (x23J z0 z1 k) x23s1 (sel [1,1,1,1,1,1,1,1,1,0,1,0,0] (bd Try.f23)) (x23a1 z1) n H K = mapT (fun g => pH g H) x23s1.ts (x23c1 (colorspec_Decode_l1_b f0 k) H K (x23c1 z1 H K n)) := by kernel_rfl
theorem x23e0 (k : Nat) (H : Heap) (K : XK R) : jE Try.prog An 107 (x23C f0 f1 f2) (x23J z0 z1 k) x23s0 (sel [1,1,1,1,1,1,1,1,0,0] (bd Try.f23)) H K = mapT (fun g => x23c0 g H K) x23s0.ts (colorspec_Decode_p0_b k) := by kernel_rfl
theorem x23e (k : Nat) (H : Heap) (K : Value → Heap → Option R) : fE Try.prog An (x23C f0 f1 f2) (x23J z0 z1 k) x23t Try.f23 [.l] H K = mapT (fun g => x23c g H K) [.l] (colorspec_Decode_b f0 f1 f2 z0 z1 k) := by kernel_rfl
theorem x23S (R : Type) (k : Nat) : CSound Try.prog (x23C (R := R) (colorspec_numbers k) colorspec_known (colorspec_validate k)) := csound_cons (x40cs R k) <| csound_cons (x41cs R k) <| csound_cons (x26cs R k) <| csound_nil
theorem x23j1 (R : Type) (k : Nat) : JS Try.prog 107 (x23a1 (colorspec_Decode_l1 (R := R) k) k) x23s1.ls x23s1.out (.loop (sel [1,1,1,1,1,1,1,1,1,0,1,0,0] (bd Try.f23))) := lj (x23S R k) (x23J (colorspec_Decode_p0 k) (colorspec_Decode_l1 k) k) (by kernel_rfl) (A := True) trivial (by kernel_rfl) (fun _ _ => by kernel_rfl) (fun _ _ _ => .trans (x23e1 _ _ _ _) (by kernel_rfl)) k
theorem x23j0 (R : Type) (k : Nat) : JS Try.prog 107 (x23a0 (colorspec_Decode_p0 (R := R) k) k) x23s0.ls x23s0.out (sel [1,1,1,1,1,1,1,1,0,0] (bd Try.f23)) := pj (x23S R k) (x23J (colorspec_Decode_p0 k) (colorspec_Decode_l1 k) k) (by kernel_rfl) (A := True) trivial (by kernel_rfl) (fun _ _ => .trans (x23e0 _ _ _) (by kernel_rfl))
theorem x23cs (R : Type) (k : Nat) : ∀ args H K r,x23a (colorspec_Decode k) args H K = some (r : R) → ∃ v H',Tri Try.prog 23 args H v H' ∧ K v H' = some r := fj (x23S R k) (x23J (colorspec_Decode_p0 k) (colorspec_Decode_l1 k) k) Try.func23 (by kernel_rfl) (A := JS Try.prog 107 (x23a0 (colorspec_Decode_p0 (R := R) k) k) x23s0.ls x23s0.out (sel [1,1,1,1,1,1,1,1,0,0] (bd Try.f23)) ∧ JS Try.prog 107 (x23a1 (colorspec_Decode_l1 (R := R) k) k) x23s1.ls x23s1.out (.loop (sel [1,1,1,1,1,1,1,1,1,0,1,0,0] (bd Try.f23))) ∧ True) ⟨x23j0 R k,⟨x23j1 R k,trivial⟩⟩ (by kernel_rfl) (fun _ _ => .trans (x23e _ _ _) (by kernel_rfl))
end
end Go.Proofs.Ytkjcjlembepdkaa.Sh
