/- Lean functions that stand for Go's,over an explicit heap,and the proofs that they do (written by this claim's program sh2.py). -/
import Derived.Test.YtkjcjlembepdkaaShA
import Derived.Test.YtkjcjlembepdkaaSh2
import Derived.Test.YtkjcjlembepdkaaSh3
import Derived.Test.YtkjcjlembepdkaaSh5
import Derived.Test.YtkjcjlembepdkaaSh9
import Derived.Test.YtkjcjlembepdkaaShD
set_option maxRecDepth 100000
set_option linter.unusedVariables false
set_option linter.unusedSimpArgs false
namespace Go.Proofs.Ytkjcjlembepdkaa.Sh
open Go.Proofs.Ytkjcjlembepdkaa.FW
/-! ### R46_Encode: function 20 -/
abbrev R46_Encode_l0_r (R : Type) : Type := Oa → Oa → Nat → Nat → Int → Heap → Option R
abbrev R46_Encode_l0_q (R T : Type) : Type := (Oa → Oa → Nat → Nat → Heap → Option R) → T
abbrev R46_Encode_l0_t (R : Type) : Type := R46_Encode_l0_q R (Nat → R46_Encode_l0_r R)
abbrev R46_Encode_l2_r (R : Type) : Type := Oa → Oa → Nat → Nat → Int → Int → Heap → Option R
abbrev R46_Encode_l2_q (R T : Type) : Type := (Oa → Oa → Nat → Nat → Int → Heap → Option R) → T
abbrev R46_Encode_l2_t (R : Type) : Type := R46_Encode_l2_q R (Nat → R46_Encode_l2_r R)
abbrev R46_Encode_l1_r (R : Type) : Type := Oa → Oa → Nat → Nat → Int → Heap → Option R
abbrev R46_Encode_l1_q (R T : Type) : Type := (Oa → Nat → Nat → Heap → Option R) → T
abbrev R46_Encode_l1_t (R : Type) : Type := R46_Encode_l1_q R (Nat → R46_Encode_l1_r R)
abbrev R46_Encode_u (R : Type) : Type := Heap → (Oa → Nat → Nat → Int → Heap → Option R) → Option R
abbrev R46_Encode_t (R : Type) : Type := Int → Oa → Nat → Nat → Oa → Nat → Nat → R46_Encode_u R
section
variable {R : Type} (f0 : R46_Valid_t R) (z0 : R46_Encode_l0_t R) (z1 : R46_Encode_l1_t R) (z2 : R46_Encode_l2_t R)
def R46_Encode_l0_b (k : Nat) : R46_Encode_l0_q R (R46_Encode_l0_r R → R46_Encode_l0_r R) := fun KE0 rec p1 q2 l3 c4 n5 H =>
hfad 1 p1 fun p6 =>
ldL H p6 fun q7 l8 c9 =>
bif decide (n5 < ((l8 : Nat) : Int)) then (hfad 1 p1 fun p10 =>
ldL H p10 fun q11 l12 c13 =>
hidx q11 l12 n5 1 fun p14 =>
ldI .i64 H p14 fun n15 =>
hal H [.int .u8 (IntKind.wrap .u8 n15)] fun p16 H17 =>
happS 1 1 H17 q2 l3 c4 p16 1 fun q18 l19 c20 H21 =>
rec p1 q18 l19 c20 (IntKind.wrap .i64 (n5 + 1)) H21)
 else (KE0 p1 q2 l3 c4 H)
def R46_Encode_l0 (k : Nat) : R46_Encode_l0_t R
  | KE0,0 => fun _ _ _ _ _ _ => none
  | KE0,n + 1 => R46_Encode_l0_b k KE0 (R46_Encode_l0 k KE0 n)
def R46_Encode_l2_b (k : Nat) : R46_Encode_l2_q R (R46_Encode_l2_r R → R46_Encode_l2_r R) := fun KE4 rec p1 q2 l3 c4 n5 n6 H =>
hfad 2 p1 fun p7 =>
ldL H p7 fun q8 l9 c10 =>
hidx q8 l9 n5 1 fun p11 =>
ldL H p11 fun q12 l13 c14 =>
bif decide (n6 < ((l13 : Nat) : Int)) then (hfad 2 p1 fun p15 =>
ldL H p15 fun q16 l17 c18 =>
hidx q16 l17 n5 1 fun p19 =>
ldL H p19 fun q20 l21 c22 =>
hidx q20 l21 n6 1 fun p23 =>
ldI .i64 H p23 fun n24 =>
hal H [.int .u8 (IntKind.wrap .u8 n24)] fun p25 H26 =>
happS 1 1 H26 q2 l3 c4 p25 1 fun q27 l28 c29 H30 =>
rec p1 q27 l28 c29 n5 (IntKind.wrap .i64 (n6 + 1)) H30)
 else (KE4 p1 q2 l3 c4 n5 H)
def R46_Encode_l2 (k : Nat) : R46_Encode_l2_t R
  | KE4,0 => fun _ _ _ _ _ _ _ => none
  | KE4,n + 1 => R46_Encode_l2_b k KE4 (R46_Encode_l2 k KE4 n)
def R46_Encode_l1_b (k : Nat) : R46_Encode_l1_q R (R46_Encode_l1_r R → R46_Encode_l1_r R) := fun KE2 rec p1 q2 l3 c4 n5 H =>
hfad 2 p1 fun p6 =>
ldL H p6 fun q7 l8 c9 =>
bif decide (n5 < ((l8 : Nat) : Int)) then (z2 (fun p15 q16 l17 c18 n19 H20 =>
rec p15 q16 l17 c18 (IntKind.wrap .i64 (n19 + 1)) H20) k p1 q2 l3 c4 n5 0 H)
 else (KE2 q2 l3 c4 H)
def R46_Encode_l1 (k : Nat) : R46_Encode_l1_t R
  | KE2,0 => fun _ _ _ _ _ _ => none
  | KE2,n + 1 => R46_Encode_l1_b (R46_Encode_l2 k) k KE2 (R46_Encode_l1 k KE2 n)
def R46_Encode_b (k : Nat) : R46_Encode_t R := fun n1 q2 l3 c4 q5 l6 c7 H K =>
hal H [.int .i64 n1,.slice q2 l3 c4,.slice q5 l6 c7] fun p8 H9 =>
ldI .i64 H9 (pad p8 0) fun n10 =>
ldL H9 (pad p8 1) fun q11 l12 c13 =>
ldL H9 (pad p8 2) fun q14 l15 c16 =>
f0 n10 q11 l12 c13 q14 l15 c16 H9 fun n17 H18 =>
bif (n17 != 0) then (K none 0 0 n17 H18)
 else (hfad 0 p8 fun p19 =>
ldI .i64 H18 p19 fun n20 =>
hfad 1 p8 fun p21 =>
ldL H18 p21 fun q22 l23 c24 =>
hal H18 [.int .u8 (IntKind.wrap .u8 n20),.int .u8 (IntKind.wrap .u8 ((l23 : Nat) : Int))] fun p25 H26 =>
z0 (fun p31 q32 l33 c34 H35 =>
hfad 2 p31 fun p36 =>
ldL H35 p36 fun q37 l38 c39 =>
hfad 2 p31 fun p40 =>
ldL H35 p40 fun q41 l42 c43 =>
hal H35 [.int .u8 (IntKind.wrap .u8 (Int.fdiv ((l38 : Nat) : Int) 256)),.int .u8 (IntKind.wrap .u8 ((l42 : Nat) : Int))] fun p44 H45 =>
happS 1 1 H45 q32 l33 c34 p44 2 fun q46 l47 c48 H49 =>
z1 (fun q53 l54 c55 H56 =>
K q53 l54 c55 0 H56) k p31 q46 l47 c48 0 H49) k p8 p25 2 2 0 H26)
def R46_Encode (k : Nat) : R46_Encode_t R := R46_Encode_b (R46_Valid k) (R46_Encode_l0 k) (R46_Encode_l1 k) k
def x20C : Tab R := tcons 28 (x28a f0) <| fun _ _ _ _ => none
def x20s2 : PS := ⟨(.seq (.seq (.reg [1,5,7,8,64] []) (.cond .leaf .leaf)) (.seq (.node (.reg [1,5,7,8] [])) (.reg [1,5,7,8] []))),[1,5,7,8],[.p,.l,.n,.n],⟨[],[(4,[1,5,7])],[]⟩⟩
def x20c2 {T : Type} (g : R46_Encode_l2_q R T) (H : Heap) (K : XK R) : T := g (kH (.exit 4) [1,5,7] [.p,.l,.n] K)
def x20a2 (f : R46_Encode_l2_t R) : Nat → List Value → Heap → XK R → Option R := jl x20s2 (L := R46_Encode_l2_t R) x20c2 pH f
def x20s1 : PS := ⟨(.seq (.seq (.reg [1,5,7,54] []) (.cond .leaf .leaf)) (.seq (.node (.seq (.reg [1,5,7,8] []) (.node (.opq 2 x20s2.ls x20s2.out (.node x20s2.t))))) (.reg [1,5,7] []))),[1,5,7],[.p,.l,.n],⟨[],[(2,[5])],[]⟩⟩
def x20c1 {T : Type} (g : R46_Encode_l1_q R T) (H : Heap) (K : XK R) : T := g (kH (.exit 2) [5] [.l] K)
def x20a1 (f : R46_Encode_l1_t R) : Nat → List Value → Heap → XK R → Option R := jl x20s1 (L := R46_Encode_l1_t R) x20c1 pH f
def x20s0 : PS := ⟨(.seq (.seq (.reg [1,5,6,26] []) (.cond .leaf .leaf)) (.seq (.node (.reg [1,5,6] [])) (.reg [1,5,6] []))),[1,5,6],[.p,.l,.n],⟨[],[(0,[1,5])],[]⟩⟩
def x20c0 {T : Type} (g : R46_Encode_l0_q R T) (H : Heap) (K : XK R) : T := g (kH (.exit 0) [1,5] [.p,.l] K)
def x20a0 (f : R46_Encode_l0_t R) : Nat → List Value → Heap → XK R → Option R := jl x20s0 (L := R46_Encode_l0_t R) x20c0 pH f
def x20J (k : Nat) : JTab R := tcons 0 (x20a0 z0 k) <| tcons 1 (x20a1 z1 k) <| tcons 2 (x20a2 z2 k) <| fun _ _ _ _ => none
def x20t : AT := (.seq (.reg [1] []) (.seq (.reg [1,4] []) (.seq (.seq (.reg [1,4,12] []) (.cond (.seq (.reg [2,3] []) .leaf) .leaf)) (.seq (.reg [1,5] []) (.seq (.seq (.reg [1,5,6] []) (.node (.opq 0 x20s0.ls x20s0.out (.node x20s0.t)))) (.seq (.reg [1,5] []) (.seq (.seq (.reg [1,5,7] []) (.node (.opq 1 x20s1.ls x20s1.out (.node x20s1.t)))) (.seq (.reg [2,3] []) .leaf))))))))
def x20c (g : R46_Encode_u R) (H : Heap) (K : Value → Heap → Option R) : Option R := g H (rH [.l,.n] K)
def x20a (f : R46_Encode_t R) : List Value → Heap → (Value → Heap → Option R) → Option R := jf 1 [(.a 3),.n,.l,.l] x20c f
variable {f0 z0 z1 z2}
theorem x20e2 (k n : Nat) (H : Heap) (K : XK R) : lE Try.prog An 80 (x20C f0) (x20J z0 z1 z2 k) x20s2 (sel [1,1,1,1,1,1,0,1,0,0,1,0,0,1,0,0] (bd Try.f20)) (x20a2 z2) n H K = mapT (fun g => pH g H) x20s2.ts (x20c2 (R46_Encode_l2_b k) H K (x20c2 z2 H K n)) := by kernel_rfl
theorem x20e1 (k n : Nat) (H : Heap) (K : XK R) : lE Try.prog An 80 (x20C f0) (x20J z0 z1 z2 k) x20s1 (sel [1,1,1,1,1,1,0,1,0,0] (bd Try.f20)) (x20a1 z1) n H K = mapT (fun g => pH g H) x20s1.ts (x20c1 (R46_Encode_l1_b z2 k) H K (x20c1 z1 H K n)) := by kernel_rfl
theorem x20e0 (k n : Nat) (H : Heap) (K : XK R) : lE Try.prog An 80 (x20C f0) (x20J z0 z1 z2 k) x20s0 (sel [1,1,1,1,0,1,0,0] (bd Try.f20)) (x20a0 z0) n H K = mapT (fun g => pH g H) x20s0.ts (x20c0 (R46_Encode_l0_b k) H K (x20c0 z0 H K n)) := by kernel_rfl
theorem x20e (k : Nat) (H : Heap) (K : Value → Heap → Option R) : fE Try.prog An (x20C f0) (x20J z0 z1 z2 k) x20t Try.f20 [(.a 3),.n,.l,.l] H K = mapT (fun g => x20c g H K) [(.a 3),.n,.l,.l] (R46_Encode_b f0 z0 z1 k) := by kernel_rfl
theorem x20S (R : Type) (k : Nat) : CSound Try.prog (x20C (R := R) (R46_Valid k)) := csound_cons (x28cs R k) <| csound_nil
theorem x20j2 (R : Type) (k : Nat) : JS Try.prog 80 (x20a2 (R46_Encode_l2 (R := R) k) k) x20s2.ls x20s2.out (.loop (sel [1,1,1,1,1,1,0,1,0,0,1,0,0,1,0,0] (bd Try.f20))) := lj (x20S R k) (x20J (R46_Encode_l0 k) (R46_Encode_l1 k) (R46_Encode_l2 k) k) (by kernel_rfl) (A := True) trivial (by kernel_rfl) (fun _ _ => by kernel_rfl) (fun _ _ _ => .trans (x20e2 _ _ _ _) (by kernel_rfl)) k
theorem x20j1 (R : Type) (k : Nat) : JS Try.prog 80 (x20a1 (R46_Encode_l1 (R := R) k) k) x20s1.ls x20s1.out (.loop (sel [1,1,1,1,1,1,0,1,0,0] (bd Try.f20))) := lj (x20S R k) (x20J (R46_Encode_l0 k) (R46_Encode_l1 k) (R46_Encode_l2 k) k) (by kernel_rfl) (A := JS Try.prog 80 (x20a2 (R46_Encode_l2 (R := R) k) k) x20s2.ls x20s2.out (.loop (sel [1,1,1,1,1,1,0,1,0,0,1,0,0,1,0,0] (bd Try.f20))) ∧ True) ⟨x20j2 R k,trivial⟩ (by kernel_rfl) (fun _ _ => by kernel_rfl) (fun _ _ _ => .trans (x20e1 _ _ _ _) (by kernel_rfl)) k
theorem x20j0 (R : Type) (k : Nat) : JS Try.prog 80 (x20a0 (R46_Encode_l0 (R := R) k) k) x20s0.ls x20s0.out (.loop (sel [1,1,1,1,0,1,0,0] (bd Try.f20))) := lj (x20S R k) (x20J (R46_Encode_l0 k) (R46_Encode_l1 k) (R46_Encode_l2 k) k) (by kernel_rfl) (A := True) trivial (by kernel_rfl) (fun _ _ => by kernel_rfl) (fun _ _ _ => .trans (x20e0 _ _ _ _) (by kernel_rfl)) k
theorem x20cs (R : Type) (k : Nat) : ∀ args H K r,x20a (R46_Encode k) args H K = some (r : R) → ∃ v H',Tri Try.prog 20 args H v H' ∧ K v H' = some r := fj (x20S R k) (x20J (R46_Encode_l0 k) (R46_Encode_l1 k) (R46_Encode_l2 k) k) Try.func20 (by kernel_rfl) (A := JS Try.prog 80 (x20a0 (R46_Encode_l0 (R := R) k) k) x20s0.ls x20s0.out (.loop (sel [1,1,1,1,0,1,0,0] (bd Try.f20))) ∧ JS Try.prog 80 (x20a1 (R46_Encode_l1 (R := R) k) k) x20s1.ls x20s1.out (.loop (sel [1,1,1,1,1,1,0,1,0,0] (bd Try.f20))) ∧ True) ⟨x20j0 R k,⟨x20j1 R k,trivial⟩⟩ (by kernel_rfl) (fun _ _ => .trans (x20e _ _ _) (by kernel_rfl))
end
/-! ### L_ColorspecEncodes: function 6 -/
abbrev L_ColorspecEncodes_p0_u (R : Type) : Type := Heap → (Oa → Oa → Bool → Heap → Option R) → Option R
abbrev L_ColorspecEncodes_p0_t (R : Type) : Type := Oa → Oa → L_ColorspecEncodes_p0_u R
abbrev L_ColorspecEncodes_u (R : Type) : Type := Heap → (Bool → Heap → Option R) → Option R
abbrev L_ColorspecEncodes_t (R : Type) : Type := Int → Oa → Nat → Nat → Oa → Nat → Nat → Int → Oa → Nat → Nat → Oa → Nat → Nat → L_ColorspecEncodes_u R
section
variable {R : Type} (f0 : R46_Few_t R) (f1 : L_awakeq_t R) (f2 : colorspec_Encode_t R) (f3 : R46_Encode_t R) (f4 : colorspec_Same_t R) (f5 : R46_Same_t R) (z0 : L_ColorspecEncodes_p0_t R)
def L_ColorspecEncodes_p0_b (k : Nat) : L_ColorspecEncodes_p0_t R := fun p1 p2 H KN =>
ldI .i64 H (pad p1 0) fun n3 =>
ldL H (pad p1 1) fun q4 l5 c6 =>
ldL H (pad p1 2) fun q7 l8 c9 =>
f0 n3 q4 l5 c6 q7 l8 c9 H fun t10 H11 =>
bif (!t10) then (KN p1 p2 true H11)
 else (ldI .i64 H11 (pad p2 0) fun n12 =>
ldL H11 (pad p2 1) fun q13 l14 c15 =>
ldL H11 (pad p2 2) fun q16 l17 c18 =>
f0 n12 q13 l14 c15 q16 l17 c18 H11 fun t19 H20 =>
KN p1 p2 (!t19) H20)
def L_ColorspecEncodes_p0 (k : Nat) : L_ColorspecEncodes_p0_t R := L_ColorspecEncodes_p0_b (R46_Few k) k
def L_ColorspecEncodes_b (k : Nat) : L_ColorspecEncodes_t R := fun n1 q2 l3 c4 q5 l6 c7 n8 q9 l10 c11 q12 l13 c14 H K =>
hal H [.int .i64 n1,.slice q2 l3 c4,.slice q5 l6 c7] fun p15 H16 =>
hal H16 [.int .i64 n8,.slice q9 l10 c11,.slice q12 l13 c14] fun p17 H18 =>
z0 p15 p17 H18 (fun p22 p23 t24 H25 =>
bif t24 then (f1 fun t26 =>
K t26 H25)
 else (ldI .i64 H25 (pad p22 0) fun n27 =>
ldL H25 (pad p22 1) fun q28 l29 c30 =>
ldL H25 (pad p22 2) fun q31 l32 c33 =>
f2 n27 q28 l29 c30 q31 l32 c33 H25 fun q34 l35 c36 n37 H38 =>
ldI .i64 H38 (pad p22 0) fun n39 =>
ldL H38 (pad p22 1) fun q40 l41 c42 =>
ldL H38 (pad p22 2) fun q43 l44 c45 =>
f3 n39 q40 l41 c42 q43 l44 c45 H38 fun q46 l47 c48 n49 H50 =>
hfrz H50 p22 fun H51 =>
hfrz H51 p23 fun H52 =>
hb2s H52 q34 l35 fun s53 =>
hb2s H52 q46 l47 fun s54 =>
bif (s53 == s54) then (bif (n37 == n49) then (ldI .i64 H52 (pad p22 0) fun n55 =>
ldL H52 (pad p22 1) fun q56 l57 c58 =>
ldL H52 (pad p22 2) fun q59 l60 c61 =>
ldI .i64 H52 (pad p23 0) fun n62 =>
ldL H52 (pad p23 1) fun q63 l64 c65 =>
ldL H52 (pad p23 2) fun q66 l67 c68 =>
f4 n55 q56 l57 c58 q59 l60 c61 n62 q63 l64 c65 q66 l67 c68 H52 fun t69 H70 =>
bif isRo H52 p22 then (ldI .i64 H52 (pad p22 0) fun n71 =>
ldL H52 (pad p22 1) fun q72 l73 c74 =>
ldL H52 (pad p22 2) fun q75 l76 c77 =>
bif isRo H52 p23 then (ldI .i64 H52 (pad p23 0) fun n78 =>
ldL H52 (pad p23 1) fun q79 l80 c81 =>
ldL H52 (pad p23 2) fun q82 l83 c84 =>
f5 n71 q72 l73 c74 q75 l76 c77 n78 q79 l80 c81 q82 l83 c84 H70 fun t85 H86 =>
bif (t69 == t85) then (ldI .i64 H86 (pad p22 0) fun n87 =>
ldL H86 (pad p22 1) fun q88 l89 c90 =>
ldL H86 (pad p22 2) fun q91 l92 c93 =>
ldI .i64 H86 (pad p22 0) fun n94 =>
ldL H86 (pad p22 1) fun q95 l96 c97 =>
ldL H86 (pad p22 2) fun q98 l99 c100 =>
f4 n87 q88 l89 c90 q91 l92 c93 n94 q95 l96 c97 q98 l99 c100 H86 fun t101 H102 =>
bif t101 then (f1 fun t103 =>
K t103 H102)
 else (K false H102))
 else (K false H86))
 else none)
 else none)
 else (K false H52))
 else (K false H52)))
def L_ColorspecEncodes (k : Nat) : L_ColorspecEncodes_t R := L_ColorspecEncodes_b L_awakeq (colorspec_Encode k) (R46_Encode k) (colorspec_Same k) (R46_Same k) (L_ColorspecEncodes_p0 k) k
def x6C : Tab R := tcons 9 (x9a f0) <| tcons 10 (x10a f1) <| tcons 19 (x19a f2) <| tcons 20 (x20a f3) <| tcons 21 (x21a f4) <| tcons 22 (x22a f5) <| fun _ _ _ _ => none
def x6s0 : PS := ⟨(.reg [2,3,16] []),[2,3],[.p,.p],⟨[2,3,16],[],[]⟩⟩
def x6c0 (g : L_ColorspecEncodes_p0_u R) (H : Heap) (K : XK R) : Option R := g H (kH .normal [2,3,16] [.p,.p,.b] K)
def x6a0 (f : L_ColorspecEncodes_p0_t R) : Nat → List Value → Heap → XK R → Option R := jp x6s0 x6c0 f
def x6J (k : Nat) : JTab R := tcons 0 (x6a0 z0 k) <| fun _ _ _ _ => none
def x6t : AT := (.seq (.reg [2,3] []) (.seq (.seq (.opq 0 x6s0.ls x6s0.out x6s0.t) (.cond (.seq (.reg [4] []) .leaf) .leaf)) (.seq (.reg [2,3,5,6] []) (.seq (.reg [2,3,5,6,7,8] []) (.seq (.frz 2 (.frz 3 (.reg [4] (ms [0,1,0,4,15,31,63,63,255,511,1023,2047,2047,8191,2047,2047,65535,131071,262143,524287,1048575,1048575,4194303,8388607,16777215,33554431,67108863,134217727])))) .leaf)))))
def x6c (g : L_ColorspecEncodes_u R) (H : Heap) (K : Value → Heap → Option R) : Option R := g H (rH [.b] K)
def x6a (f : L_ColorspecEncodes_t R) : List Value → Heap → (Value → Heap → Option R) → Option R := jf 2 [(.a 3),.n,.l,.l,(.a 3),.n,.l,.l] x6c f
variable {f0 f1 f2 f3 f4 f5 z0}
theorem x6e0 (k : Nat) (H : Heap) (K : XK R) : jE Try.prog An 55 (x6C f0 f1 f2 f3 f4 f5) (x6J z0 k) x6s0 (sel [1,0,0] (bd Try.f6)) H K = mapT (fun g => x6c0 g H K) x6s0.ts (L_ColorspecEncodes_p0_b f0 k) := by kernel_rfl
theorem x6e (k : Nat) (H : Heap) (K : Value → Heap → Option R) : fE Try.prog An (x6C f0 f1 f2 f3 f4 f5) (x6J z0 k) x6t Try.f6 [(.a 3),.n,.l,.l,(.a 3),.n,.l,.l] H K = mapT (fun g => x6c g H K) [(.a 3),.n,.l,.l,(.a 3),.n,.l,.l] (L_ColorspecEncodes_b f1 f2 f3 f4 f5 z0 k) := by kernel_rfl
theorem x6S (R : Type) (k : Nat) : CSound Try.prog (x6C (R := R) (R46_Few k) L_awakeq (colorspec_Encode k) (R46_Encode k) (colorspec_Same k) (R46_Same k)) := csound_cons (x9cs R k) <| csound_cons (x10cs R k) <| csound_cons (x19cs R k) <| csound_cons (x20cs R k) <| csound_cons (x21cs R k) <| csound_cons (x22cs R k) <| csound_nil
theorem x6j0 (R : Type) (k : Nat) : JS Try.prog 55 (x6a0 (L_ColorspecEncodes_p0 (R := R) k) k) x6s0.ls x6s0.out (sel [1,0,0] (bd Try.f6)) := pj (x6S R k) (x6J (L_ColorspecEncodes_p0 k) k) (by kernel_rfl) (A := True) trivial (by kernel_rfl) (fun _ _ => .trans (x6e0 _ _ _) (by kernel_rfl))
theorem x6cs (R : Type) (k : Nat) : ∀ args H K r,x6a (L_ColorspecEncodes k) args H K = some (r : R) → ∃ v H',Tri Try.prog 6 args H v H' ∧ K v H' = some r := fj (x6S R k) (x6J (L_ColorspecEncodes_p0 k) k) Try.func6 (by kernel_rfl) (A := JS Try.prog 55 (x6a0 (L_ColorspecEncodes_p0 (R := R) k) k) x6s0.ls x6s0.out (sel [1,0,0] (bd Try.f6)) ∧ True) ⟨x6j0 R k,trivial⟩ (by kernel_rfl) (fun _ _ => .trans (x6e _ _ _) (by kernel_rfl))
def L_ColorspecEncodes_c (R : Type) (k : Nat) : List Value → Heap → (Value → Heap → Option R) → Option R := x6a (L_ColorspecEncodes k)
theorem L_ColorspecEncodes_cs (R : Type) (k : Nat) : ∀ args H K r,L_ColorspecEncodes_c R k args H K = some r → ∃ v H',Tri Try.prog 6 args H v H' ∧ K v H' = some r := x6cs R k
end
end Go.Proofs.Ytkjcjlembepdkaa.Sh
