/- Lean functions that stand for Go's,over an explicit heap,and the proofs that they do (written by this claim's program sh2.py). -/
import Derived.Test.YtkjcjlembepdkaaShA
import Derived.Test.YtkjcjlembepdkaaSh10
import Derived.Test.YtkjcjlembepdkaaSh3
import Derived.Test.YtkjcjlembepdkaaSh5
import Derived.Test.YtkjcjlembepdkaaShD
set_option maxRecDepth 100000
set_option linter.unusedVariables false
set_option linter.unusedSimpArgs false
namespace Go.Proofs.Ytkjcjlembepdkaa.Sh
open Go.Proofs.Ytkjcjlembepdkaa.FW
/-! ### R46_Decode: function 24 -/
abbrev R46_Decode_l0_r (R : Type) : Type := Oa → Nat → Nat → Oa → Int → Int → Oa → Int → Heap → Option R
abbrev R46_Decode_l0_q (R T : Type) : Type := (Oa → Nat → Nat → Oa → Int → Int → Oa → Heap → Option R) → T
abbrev R46_Decode_l0_t (R : Type) : Type := R46_Decode_l0_q R (Nat → R46_Decode_l0_r R)
abbrev R46_Decode_l2_r (R : Type) : Type := Oa → Nat → Nat → Oa → Int → Int → Oa → Int → Oa → Nat → Nat → Int → Heap → Option R
abbrev R46_Decode_l2_q (R T : Type) : Type := (Oa → Nat → Nat → Oa → Int → Int → Oa → Int → Oa → Nat → Nat → Heap → Option R) → T
abbrev R46_Decode_l2_t (R : Type) : Type := R46_Decode_l2_q R (Nat → R46_Decode_l2_r R)
abbrev R46_Decode_l1_r (R : Type) : Type := Oa → Nat → Nat → Oa → Int → Int → Oa → Int → Heap → Option R
abbrev R46_Decode_l1_q (R T : Type) : Type := (Oa → Oa → Heap → Option R) → T
abbrev R46_Decode_l1_t (R : Type) : Type := R46_Decode_l1_q R (Nat → R46_Decode_l1_r R)
abbrev R46_Decode_u (R : Type) : Type := Heap → (Int → Oa → Nat → Nat → Oa → Nat → Nat → Int → Heap → Option R) → Option R
abbrev R46_Decode_t (R : Type) : Type := Oa → Nat → Nat → R46_Decode_u R
section
variable {R : Type} (f0 : R46_Valid_t R) (z0 : R46_Decode_l0_t R) (z1 : R46_Decode_l1_t R) (z2 : R46_Decode_l2_t R)
def R46_Decode_l0_b (k : Nat) : R46_Decode_l0_q R (R46_Decode_l0_r R → R46_Decode_l0_r R) := fun KE0 rec q1 l2 c3 p4 n5 n6 p7 n8 H =>
bif decide (n8 < n5) then (hfad 1 p7 fun p9 =>
ldL H p9 fun q10 l11 c12 =>
hidx q1 l2 (IntKind.wrap .i64 (2 + n8)) 1 fun p13 =>
ldI .u8 H p13 fun n14 =>
hal H [.int .i64 (IntKind.wrap .i64 n14)] fun p15 H16 =>
happS 1 8 H16 q10 l11 c12 p15 1 fun q17 l18 c19 H20 =>
hfad 1 p7 fun p21 =>
hst1 H20 p21 (.slice q17 l18 c19) fun H22 =>
rec q1 l2 c3 p4 n5 n6 p7 (IntKind.wrap .i64 (n8 + 1)) H22)
 else (KE0 q1 l2 c3 p4 n5 n6 p7 H)
def R46_Decode_l0 (k : Nat) : R46_Decode_l0_t R
  | KE0,0 => fun _ _ _ _ _ _ _ _ _ => none
  | KE0,n + 1 => R46_Decode_l0_b k KE0 (R46_Decode_l0 k KE0 n)
def R46_Decode_l2_b (k : Nat) : R46_Decode_l2_q R (R46_Decode_l2_r R → R46_Decode_l2_r R) := fun KE4 rec q1 l2 c3 p4 n5 n6 p7 n8 q9 l10 c11 n12 H =>
bif decide (n12 < n5) then (hidx q1 l2 (IntKind.wrap .i64 ((IntKind.wrap .i64 ((IntKind.wrap .i64 (4 + n5)) + (IntKind.wrap .i64 (n8 * n5)))) + n12)) 1 fun p13 =>
ldI .u8 H p13 fun n14 =>
hal H [.int .i64 (IntKind.wrap .i64 n14)] fun p15 H16 =>
happS 1 8 H16 q9 l10 c11 p15 1 fun q17 l18 c19 H20 =>
rec q1 l2 c3 p4 n5 n6 p7 n8 q17 l18 c19 (IntKind.wrap .i64 (n12 + 1)) H20)
 else (KE4 q1 l2 c3 p4 n5 n6 p7 n8 q9 l10 c11 H)
def R46_Decode_l2 (k : Nat) : R46_Decode_l2_t R
  | KE4,0 => fun _ _ _ _ _ _ _ _ _ _ _ _ _ => none
  | KE4,n + 1 => R46_Decode_l2_b k KE4 (R46_Decode_l2 k KE4 n)
def R46_Decode_l1_b (k : Nat) : R46_Decode_l1_q R (R46_Decode_l1_r R → R46_Decode_l1_r R) := fun KE2 rec q1 l2 c3 p4 n5 n6 p7 n8 H =>
bif decide (n8 < n6) then (hal H [] fun p9 H10 =>
z2 (fun q22 l23 c24 p25 n26 n27 p28 n29 q30 l31 c32 H33 =>
hfad 2 p28 fun p34 =>
ldL H33 p34 fun q35 l36 c37 =>
hal H33 [.slice q30 l31 c32] fun p38 H39 =>
happS 1 24 H39 q35 l36 c37 p38 1 fun q40 l41 c42 H43 =>
hfad 2 p28 fun p44 =>
hst1 H43 p44 (.slice q40 l41 c42) fun H45 =>
rec q22 l23 c24 p25 n26 n27 p28 (IntKind.wrap .i64 (n29 + 1)) H45) k q1 l2 c3 p4 n5 n6 p7 n8 p9 0 0 0 H10)
 else (KE2 p4 p7 H)
def R46_Decode_l1 (k : Nat) : R46_Decode_l1_t R
  | KE2,0 => fun _ _ _ _ _ _ _ _ _ => none
  | KE2,n + 1 => R46_Decode_l1_b (R46_Decode_l2 k) k KE2 (R46_Decode_l1 k KE2 n)
def R46_Decode_b (k : Nat) : R46_Decode_t R := fun q1 l2 c3 H K =>
hal H [.int .i64 0,.slice none 0 0,.slice none 0 0] fun p4 H5 =>
bif decide (((l2 : Nat) : Int) < 2) then (hst H5 p4 [.int .i64 0,.slice none 0 0,.slice none 0 0] fun H6 =>
ldI .i64 H6 (pad p4 0) fun n7 =>
ldL H6 (pad p4 1) fun q8 l9 c10 =>
ldL H6 (pad p4 2) fun q11 l12 c13 =>
K n7 q8 l9 c10 q11 l12 c13 7 H6)
 else (hidx q1 l2 1 1 fun p14 =>
ldI .u8 H5 p14 fun n15 =>
bif decide (((l2 : Nat) : Int) < (IntKind.wrap .i64 (4 + (IntKind.wrap .i64 n15)))) then (hst H5 p4 [.int .i64 0,.slice none 0 0,.slice none 0 0] fun H16 =>
ldI .i64 H16 (pad p4 0) fun n17 =>
ldL H16 (pad p4 1) fun q18 l19 c20 =>
ldL H16 (pad p4 2) fun q21 l22 c23 =>
K n17 q18 l19 c20 q21 l22 c23 7 H16)
 else (hidx q1 l2 (IntKind.wrap .i64 (2 + (IntKind.wrap .i64 n15))) 1 fun p24 =>
ldI .u8 H5 p24 fun n25 =>
hidx q1 l2 (IntKind.wrap .i64 (3 + (IntKind.wrap .i64 n15))) 1 fun p26 =>
ldI .u8 H5 p26 fun n27 =>
bif decide (((l2 : Nat) : Int) < (IntKind.wrap .i64 ((IntKind.wrap .i64 (4 + (IntKind.wrap .i64 n15))) + (IntKind.wrap .i64 ((IntKind.wrap .i64 ((IntKind.wrap .i64 ((IntKind.wrap .i64 n25) * 256)) + (IntKind.wrap .i64 n27))) * (IntKind.wrap .i64 n15)))))) then (hst H5 p4 [.int .i64 0,.slice none 0 0,.slice none 0 0] fun H28 =>
ldI .i64 H28 (pad p4 0) fun n29 =>
ldL H28 (pad p4 1) fun q30 l31 c32 =>
ldL H28 (pad p4 2) fun q33 l34 c35 =>
K n29 q30 l31 c32 q33 l34 c35 7 H28)
 else (bif decide (((l2 : Nat) : Int) > (IntKind.wrap .i64 ((IntKind.wrap .i64 (4 + (IntKind.wrap .i64 n15))) + (IntKind.wrap .i64 ((IntKind.wrap .i64 ((IntKind.wrap .i64 ((IntKind.wrap .i64 n25) * 256)) + (IntKind.wrap .i64 n27))) * (IntKind.wrap .i64 n15)))))) then (hst H5 p4 [.int .i64 0,.slice none 0 0,.slice none 0 0] fun H36 =>
ldI .i64 H36 (pad p4 0) fun n37 =>
ldL H36 (pad p4 1) fun q38 l39 c40 =>
ldL H36 (pad p4 2) fun q41 l42 c43 =>
K n37 q38 l39 c40 q41 l42 c43 9 H36)
 else (hidx q1 l2 0 1 fun p44 =>
ldI .u8 H5 p44 fun n45 =>
hal H5 [.int .i64 0,.slice none 0 0,.slice none 0 0] fun p46 H47 =>
hst H47 p46 [.int .i64 (IntKind.wrap .i64 n45),.slice none 0 0,.slice none 0 0] fun H48 =>
z0 (fun q56 l57 c58 p59 n60 n61 p62 H63 =>
z1 (fun p66 p67 H68 =>
ldI .i64 H68 (pad p67 0) fun n69 =>
ldL H68 (pad p67 1) fun q70 l71 c72 =>
ldL H68 (pad p67 2) fun q73 l74 c75 =>
f0 n69 q70 l71 c72 q73 l74 c75 H68 fun n76 H77 =>
bif (n76 != 0) then (hst H77 p66 [.int .i64 0,.slice none 0 0,.slice none 0 0] fun H78 =>
ldI .i64 H78 (pad p66 0) fun n79 =>
ldL H78 (pad p66 1) fun q80 l81 c82 =>
ldL H78 (pad p66 2) fun q83 l84 c85 =>
K n79 q80 l81 c82 q83 l84 c85 n76 H78)
 else (ldI .i64 H77 (pad p67 0) fun n86 =>
ldL H77 (pad p67 1) fun q87 l88 c89 =>
ldL H77 (pad p67 2) fun q90 l91 c92 =>
hst H77 p66 [.int .i64 n86,.slice q87 l88 c89,.slice q90 l91 c92] fun H93 =>
ldI .i64 H93 (pad p66 0) fun n94 =>
ldL H93 (pad p66 1) fun q95 l96 c97 =>
ldL H93 (pad p66 2) fun q98 l99 c100 =>
K n94 q95 l96 c97 q98 l99 c100 0 H93)) k q56 l57 c58 p59 n60 n61 p62 0 H63) k q1 l2 c3 p4 (IntKind.wrap .i64 n15) (IntKind.wrap .i64 ((IntKind.wrap .i64 ((IntKind.wrap .i64 n25) * 256)) + (IntKind.wrap .i64 n27))) p46 0 H48))))
def R46_Decode (k : Nat) : R46_Decode_t R := R46_Decode_b (R46_Valid k) (R46_Decode_l0 k) (R46_Decode_l1 k) k
def x24C : Tab R := tcons 28 (x28a f0) <| fun _ _ _ _ => none
def x24s2 : PS := ⟨(.seq (.seq (.reg [0,2,4,5,6,8,9,10,89] []) (.cond .leaf .leaf)) (.seq (.node (.reg [0,2,4,5,6,8,9,10] [])) (.reg [0,2,4,5,6,8,9,10] []))),[0,2,4,5,6,8,9,10],[.l,.p,.n,.n,.p,.n,.l,.n],⟨[],[(4,[0,2,4,5,6,8,9])],[]⟩⟩
def x24c2 {T : Type} (g : R46_Decode_l2_q R T) (H : Heap) (K : XK R) : T := g (kH (.exit 4) [0,2,4,5,6,8,9] [.l,.p,.n,.n,.p,.n,.l] K)
def x24a2 (f : R46_Decode_l2_t R) : Nat → List Value → Heap → XK R → Option R := jl x24s2 (L := R46_Decode_l2_t R) x24c2 pH f
def x24s1 : PS := ⟨(.seq (.seq (.reg [0,2,4,5,6,8,83] []) (.cond .leaf .leaf)) (.seq (.node (.seq (.reg [0,2,4,5,6,8,9] []) (.seq (.seq (.reg [0,2,4,5,6,8,9,10] []) (.node (.opq 2 x24s2.ls x24s2.out (.node x24s2.t)))) (.reg [0,2,4,5,6,8] [])))) (.reg [0,2,4,5,6,8] []))),[0,2,4,5,6,8],[.l,.p,.n,.n,.p,.n],⟨[],[(2,[2,6])],[]⟩⟩
def x24c1 {T : Type} (g : R46_Decode_l1_q R T) (H : Heap) (K : XK R) : T := g (kH (.exit 2) [2,6] [.p,.p] K)
def x24a1 (f : R46_Decode_l1_t R) : Nat → List Value → Heap → XK R → Option R := jl x24s1 (L := R46_Decode_l1_t R) x24c1 pH f
def x24s0 : PS := ⟨(.seq (.seq (.reg [0,2,4,5,6,7,67] []) (.cond .leaf .leaf)) (.seq (.node (.reg [0,2,4,5,6,7] (ms [0,1,0,0,8,28,60,124,252,511,1023,2047]))) (.reg [0,2,4,5,6,7] []))),[0,2,4,5,6,7],[.l,.p,.n,.n,.p,.n],⟨[],[(0,[0,2,4,5,6])],[]⟩⟩
def x24c0 {T : Type} (g : R46_Decode_l0_q R T) (H : Heap) (K : XK R) : T := g (kH (.exit 0) [0,2,4,5,6] [.l,.p,.n,.n,.p] K)
def x24a0 (f : R46_Decode_l0_t R) : Nat → List Value → Heap → XK R → Option R := jl x24s0 (L := R46_Decode_l0_t R) x24c0 pH f
def x24J (k : Nat) : JTab R := tcons 0 (x24a0 z0 k) <| tcons 1 (x24a1 z1 k) <| tcons 2 (x24a2 z2 k) <| fun _ _ _ _ => none
def x24t : AT := (.seq (.reg [0,2] []) (.seq (.seq (.reg [0,2,14] []) (.cond (.seq (.reg [2,3] []) .leaf) .leaf)) (.seq (.reg [0,2,4] []) (.seq (.seq (.reg [0,2,4,24] []) (.cond (.seq (.reg [2,3] []) .leaf) .leaf)) (.seq (.reg [0,2,4,5] (ms [0,0,2,7,15,31,63,0,0,256,896,1920,3968,8191,16383])) (.seq (.seq (.reg [0,2,4,5,48] []) (.cond (.seq (.reg [2,3] []) .leaf) .leaf)) (.seq (.seq (.reg [0,2,4,5,58] []) (.cond (.seq (.reg [2,3] []) .leaf) .leaf)) (.seq (.reg [0,2,4,5,6] []) (.seq (.seq (.reg [0,2,4,5,6,7] []) (.node (.opq 0 x24s0.ls x24s0.out (.node x24s0.t)))) (.seq (.seq (.reg [0,2,4,5,6,8] []) (.node (.opq 1 x24s1.ls x24s1.out (.node x24s1.t)))) (.seq (.reg [2,6,11] []) (.seq (.seq (.reg [2,6,11,116] []) (.cond (.seq (.reg [2,3] []) .leaf) .leaf)) (.seq (.reg [2,3] []) .leaf)))))))))))))
def x24c (g : R46_Decode_u R) (H : Heap) (K : Value → Heap → Option R) : Option R := g H (rH [(.a 3),.n,.l,.l,.n] K)
def x24a (f : R46_Decode_t R) : List Value → Heap → (Value → Heap → Option R) → Option R := jf 1 [.l] x24c f
variable {f0 z0 z1 z2}
theorem x24e2 (k n : Nat) (H : Heap) (K : XK R) : lE Try.prog An 120 (x24C f0) (x24J z0 z1 z2 k) x24s2 (sel [1,1,1,1,1,1,1,1,1,0,1,0,0,1,0,0,1,0,1,0,0] (bd Try.f24)) (x24a2 z2) n H K = mapT (fun g => pH g H) x24s2.ts (x24c2 (R46_Decode_l2_b k) H K (x24c2 z2 H K n)) := by kernel_rfl
theorem x24e1 (k n : Nat) (H : Heap) (K : XK R) : lE Try.prog An 120 (x24C f0) (x24J z0 z1 z2 k) x24s1 (sel [1,1,1,1,1,1,1,1,1,0,1,0,0] (bd Try.f24)) (x24a1 z1) n H K = mapT (fun g => pH g H) x24s1.ts (x24c1 (R46_Decode_l1_b z2 k) H K (x24c1 z1 H K n)) := by kernel_rfl
theorem x24e0 (k n : Nat) (H : Heap) (K : XK R) : lE Try.prog An 120 (x24C f0) (x24J z0 z1 z2 k) x24s0 (sel [1,1,1,1,1,1,1,1,0,1,0,0] (bd Try.f24)) (x24a0 z0) n H K = mapT (fun g => pH g H) x24s0.ts (x24c0 (R46_Decode_l0_b k) H K (x24c0 z0 H K n)) := by kernel_rfl
theorem x24e (k : Nat) (H : Heap) (K : Value → Heap → Option R) : fE Try.prog An (x24C f0) (x24J z0 z1 z2 k) x24t Try.f24 [.l] H K = mapT (fun g => x24c g H K) [.l] (R46_Decode_b f0 z0 z1 k) := by kernel_rfl
theorem x24S (R : Type) (k : Nat) : CSound Try.prog (x24C (R := R) (R46_Valid k)) := csound_cons (x28cs R k) <| csound_nil
theorem x24j2 (R : Type) (k : Nat) : JS Try.prog 120 (x24a2 (R46_Decode_l2 (R := R) k) k) x24s2.ls x24s2.out (.loop (sel [1,1,1,1,1,1,1,1,1,0,1,0,0,1,0,0,1,0,1,0,0] (bd Try.f24))) := lj (x24S R k) (x24J (R46_Decode_l0 k) (R46_Decode_l1 k) (R46_Decode_l2 k) k) (by kernel_rfl) (A := True) trivial (by kernel_rfl) (fun _ _ => by kernel_rfl) (fun _ _ _ => .trans (x24e2 _ _ _ _) (by kernel_rfl)) k
theorem x24j1 (R : Type) (k : Nat) : JS Try.prog 120 (x24a1 (R46_Decode_l1 (R := R) k) k) x24s1.ls x24s1.out (.loop (sel [1,1,1,1,1,1,1,1,1,0,1,0,0] (bd Try.f24))) := lj (x24S R k) (x24J (R46_Decode_l0 k) (R46_Decode_l1 k) (R46_Decode_l2 k) k) (by kernel_rfl) (A := JS Try.prog 120 (x24a2 (R46_Decode_l2 (R := R) k) k) x24s2.ls x24s2.out (.loop (sel [1,1,1,1,1,1,1,1,1,0,1,0,0,1,0,0,1,0,1,0,0] (bd Try.f24))) ∧ True) ⟨x24j2 R k,trivial⟩ (by kernel_rfl) (fun _ _ => by kernel_rfl) (fun _ _ _ => .trans (x24e1 _ _ _ _) (by kernel_rfl)) k
theorem x24j0 (R : Type) (k : Nat) : JS Try.prog 120 (x24a0 (R46_Decode_l0 (R := R) k) k) x24s0.ls x24s0.out (.loop (sel [1,1,1,1,1,1,1,1,0,1,0,0] (bd Try.f24))) := lj (x24S R k) (x24J (R46_Decode_l0 k) (R46_Decode_l1 k) (R46_Decode_l2 k) k) (by kernel_rfl) (A := True) trivial (by kernel_rfl) (fun _ _ => by kernel_rfl) (fun _ _ _ => .trans (x24e0 _ _ _ _) (by kernel_rfl)) k
theorem x24cs (R : Type) (k : Nat) : ∀ args H K r,x24a (R46_Decode k) args H K = some (r : R) → ∃ v H',Tri Try.prog 24 args H v H' ∧ K v H' = some r := fj (x24S R k) (x24J (R46_Decode_l0 k) (R46_Decode_l1 k) (R46_Decode_l2 k) k) Try.func24 (by kernel_rfl) (A := JS Try.prog 120 (x24a0 (R46_Decode_l0 (R := R) k) k) x24s0.ls x24s0.out (.loop (sel [1,1,1,1,1,1,1,1,0,1,0,0] (bd Try.f24))) ∧ JS Try.prog 120 (x24a1 (R46_Decode_l1 (R := R) k) k) x24s1.ls x24s1.out (.loop (sel [1,1,1,1,1,1,1,1,1,0,1,0,0] (bd Try.f24))) ∧ True) ⟨x24j0 R k,⟨x24j1 R k,trivial⟩⟩ (by kernel_rfl) (fun _ _ => .trans (x24e _ _ _) (by kernel_rfl))
end
/-! ### L_ColorspecDecodes: function 7 -/
abbrev L_ColorspecDecodes_u (R : Type) : Type := Heap → (Bool → Heap → Option R) → Option R
abbrev L_ColorspecDecodes_t (R : Type) : Type := Oa → Nat → Nat → L_ColorspecDecodes_u R
section
variable {R : Type} (f0 : L_awakeq_t R) (f1 : colorspec_Decode_t R) (f2 : R46_Decode_t R) (f3 : R46_Same_t R)
def L_ColorspecDecodes_b (k : Nat) : L_ColorspecDecodes_t R := fun q1 l2 c3 H K =>
bif decide (((l2 : Nat) : Int) > 5000) then (f0 fun t4 =>
K t4 H)
 else (f1 q1 l2 c3 H fun n5 q6 l7 c8 q9 l10 c11 n12 H13 =>
hal H13 [.int .i64 0,.slice none 0 0,.slice none 0 0] fun p14 H15 =>
hst H15 p14 [.int .i64 n5,.slice q6 l7 c8,.slice q9 l10 c11] fun H16 =>
f2 q1 l2 c3 H16 fun n17 q18 l19 c20 q21 l22 c23 n24 H25 =>
hal H25 [.int .i64 0,.slice none 0 0,.slice none 0 0] fun p26 H27 =>
hst H27 p26 [.int .i64 n17,.slice q18 l19 c20,.slice q21 l22 c23] fun H28 =>
ldI .i64 H28 (pad p14 0) fun n29 =>
ldL H28 (pad p14 1) fun q30 l31 c32 =>
ldL H28 (pad p14 2) fun q33 l34 c35 =>
ldI .i64 H28 (pad p26 0) fun n36 =>
ldL H28 (pad p26 1) fun q37 l38 c39 =>
ldL H28 (pad p26 2) fun q40 l41 c42 =>
f3 n29 q30 l31 c32 q33 l34 c35 n36 q37 l38 c39 q40 l41 c42 H28 fun t43 H44 =>
bif t43 then (bif (n12 == n24) then (f0 fun t45 =>
K t45 H44)
 else (K false H44))
 else (K false H44))
def L_ColorspecDecodes (k : Nat) : L_ColorspecDecodes_t R := L_ColorspecDecodes_b L_awakeq (colorspec_Decode k) (R46_Decode k) (R46_Same k) k
def x7C : Tab R := tcons 10 (x10a f0) <| tcons 23 (x23a f1) <| tcons 24 (x24a f2) <| tcons 22 (x22a f3) <| fun _ _ _ _ => none
def x7J (k : Nat) : JTab R := fun _ _ _ _ => none
def x7t : AT := (.seq (.reg [0] []) (.seq (.seq (.reg [0,9] []) (.cond (.seq (.reg [2] []) .leaf) .leaf)) (.seq (.reg [0,3,4] []) (.seq (.reg [3,4,5,6] []) (.seq (.reg [2] []) .leaf)))))
def x7c (g : L_ColorspecDecodes_u R) (H : Heap) (K : Value → Heap → Option R) : Option R := g H (rH [.b] K)
def x7a (f : L_ColorspecDecodes_t R) : List Value → Heap → (Value → Heap → Option R) → Option R := jf 1 [.l] x7c f
variable {f0 f1 f2 f3}
theorem x7e (k : Nat) (H : Heap) (K : Value → Heap → Option R) : fE Try.prog An (x7C f0 f1 f2 f3) (x7J k) x7t Try.f7 [.l] H K = mapT (fun g => x7c g H K) [.l] (L_ColorspecDecodes_b f0 f1 f2 f3 k) := by kernel_rfl
theorem x7S (R : Type) (k : Nat) : CSound Try.prog (x7C (R := R) L_awakeq (colorspec_Decode k) (R46_Decode k) (R46_Same k)) := csound_cons (x10cs R k) <| csound_cons (x23cs R k) <| csound_cons (x24cs R k) <| csound_cons (x22cs R k) <| csound_nil
theorem x7cs (R : Type) (k : Nat) : ∀ args H K r,x7a (L_ColorspecDecodes k) args H K = some (r : R) → ∃ v H',Tri Try.prog 7 args H v H' ∧ K v H' = some r := fj (x7S R k) (x7J k) Try.func7 (by kernel_rfl) (A := True) trivial (by kernel_rfl) (fun _ _ => .trans (x7e _ _ _) (by kernel_rfl))
def L_ColorspecDecodes_c (R : Type) (k : Nat) : List Value → Heap → (Value → Heap → Option R) → Option R := x7a (L_ColorspecDecodes k)
theorem L_ColorspecDecodes_cs (R : Type) (k : Nat) : ∀ args H K r,L_ColorspecDecodes_c R k args H K = some r → ∃ v H',Tri Try.prog 7 args H v H' ∧ K v H' = some r := x7cs R k
end
end Go.Proofs.Ytkjcjlembepdkaa.Sh
