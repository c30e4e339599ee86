/- Lean functions that stand for Go's,over an explicit heap,and the proofs that they do (written by this claim's program sh2.py). -/
import Derived.Test.YtkjcjlembepdkaaShA
import Derived.Test.YtkjcjlembepdkaaSh2
import Derived.Test.YtkjcjlembepdkaaSh7
import Derived.Test.YtkjcjlembepdkaaSh8
import Derived.Test.YtkjcjlembepdkaaShD
set_option maxRecDepth 100000
set_option linter.unusedVariables false
set_option linter.unusedSimpArgs false
namespace Go.Proofs.Ytkjcjlembepdkaa.Sh
open Go.Proofs.Ytkjcjlembepdkaa.FW
/-! ### L_ColorspecMaps: function 5 -/
abbrev L_ColorspecMaps_p0_u (R : Type) : Type := Heap → (Oa → Oa → Bool → Heap → Option R) → Option R
abbrev L_ColorspecMaps_p0_t (R : Type) : Type := Oa → Oa → L_ColorspecMaps_p0_u R
abbrev L_ColorspecMaps_p1_u (R : Type) : Type := Heap → (Oa → Oa → Option R) → (Bool → Option R) → Option R
abbrev L_ColorspecMaps_p1_t (R : Type) : Type := Oa → Oa → Oa → L_ColorspecMaps_p1_u R
abbrev L_ColorspecMaps_p3_u (R : Type) : Type := Heap → (Oa → Oa → Nat → Nat → Oa → Nat → Nat → Int → Int → Int → Option R) → (Bool → Option R) → Option R
abbrev L_ColorspecMaps_p3_t (R : Type) : Type := Oa → Oa → Nat → Nat → Oa → Nat → Nat → Int → Int → Int → L_ColorspecMaps_p3_u R
abbrev L_ColorspecMaps_l4_r (R : Type) : Type := Oa → Oa → Nat → Nat → Oa → Nat → Nat → Int → Int → Int → Int → Int → Heap → Option R
abbrev L_ColorspecMaps_l4_q (R T : Type) : Type := (Oa → Oa → Nat → Nat → Oa → Nat → Nat → Int → Int → Int → Heap → Option R) → T
abbrev L_ColorspecMaps_l4_t (R : Type) : Type := L_ColorspecMaps_l4_q R (Nat → L_ColorspecMaps_l4_r R)
abbrev L_ColorspecMaps_p6_u (R : Type) : Type := Heap → (Oa → Oa → Nat → Nat → Oa → Nat → Nat → Int → Int → Int → Int → Oa → Nat → Nat → Int → Int → Option R) → (Bool → Option R) → Option R
abbrev L_ColorspecMaps_p6_t (R : Type) : Type := Oa → Oa → Nat → Nat → Oa → Nat → Nat → Int → Int → Int → Int → Oa → Nat → Nat → Int → Int → L_ColorspecMaps_p6_u R
abbrev L_ColorspecMaps_l5_r (R : Type) : Type := Oa → Oa → Nat → Nat → Oa → Nat → Nat → Int → Int → Oa → Nat → Nat → Int → Int → Heap → Option R
abbrev L_ColorspecMaps_l5_q (R T : Type) : Type := (Oa → Oa → Nat → Nat → Oa → Nat → Nat → Int → Int → Heap → Option R) → (Bool → Heap → Option R) → T
abbrev L_ColorspecMaps_l5_t (R : Type) : Type := L_ColorspecMaps_l5_q R (Nat → L_ColorspecMaps_l5_r R)
abbrev L_ColorspecMaps_l2_r (R : Type) : Type := Oa → Oa → Nat → Nat → Oa → Nat → Nat → Int → Int → Heap → Option R
abbrev L_ColorspecMaps_l2_q (R T : Type) : Type := (Heap → Option R) → (Bool → Heap → Option R) → T
abbrev L_ColorspecMaps_l2_t (R : Type) : Type := L_ColorspecMaps_l2_q R (Nat → L_ColorspecMaps_l2_r R)
abbrev L_ColorspecMaps_u (R : Type) : Type := Heap → (Bool → Heap → Option R) → Option R
abbrev L_ColorspecMaps_t (R : Type) : Type := Int → Int → Int → Int → Int → Int → Oa → Nat → Nat → Oa → Nat → Nat → Int → Oa → Nat → Nat → Oa → Nat → Nat → L_ColorspecMaps_u R
section
variable {R : Type} (f0 : L_few_t R) (f1 : R46_Few_t R) (f2 : L_awakeq_t R) (f3 : colorspec_Expand_t R) (f4 : L_sameImage_t R) (z0 : L_ColorspecMaps_p0_t R) (z1 : L_ColorspecMaps_p1_t R) (z2 : L_ColorspecMaps_l2_t R) (z3 : L_ColorspecMaps_p3_t R) (z4 : L_ColorspecMaps_l4_t R) (z5 : L_ColorspecMaps_l5_t R) (z6 : L_ColorspecMaps_p6_t R)
def L_ColorspecMaps_p0_b (k : Nat) : L_ColorspecMaps_p0_t R := fun p1 p2 H KN =>
ldI .i64 H (pad p1 0) fun n3 =>
ldI .i64 H (pad p1 1) fun n4 =>
ldI .i64 H (pad p1 2) fun n5 =>
ldI .i64 H (pad p1 3) fun n6 =>
ldI .i64 H (pad p1 4) fun n7 =>
ldI .i64 H (pad p1 5) fun n8 =>
ldL H (pad p1 6) fun q9 l10 c11 =>
ldL H (pad p1 7) fun q12 l13 c14 =>
f0 n3 n4 n5 n6 n7 n8 q9 l10 c11 q12 l13 c14 H fun t15 H16 =>
bif (!t15) then (KN p1 p2 true H16)
 else (ldI .i64 H16 (pad p2 0) fun n17 =>
ldL H16 (pad p2 1) fun q18 l19 c20 =>
ldL H16 (pad p2 2) fun q21 l22 c23 =>
f1 n17 q18 l19 c20 q21 l22 c23 H16 fun t24 H25 =>
KN p1 p2 (!t24) H25)
def L_ColorspecMaps_p0 (k : Nat) : L_ColorspecMaps_p0_t R := L_ColorspecMaps_p0_b (L_few k) (R46_Few k) k
def L_ColorspecMaps_p1_b (k : Nat) : L_ColorspecMaps_p1_t R := fun p1 p2 p3 H KN KR =>
hfad 7 p3 fun p4 =>
ldL H p4 fun q5 l6 c7 =>
hfad 1 p2 fun p8 =>
ldL H p8 fun q9 l10 c11 =>
bif (((l6 : Nat) : Int) != ((l10 : Nat) : Int)) then (KR false)
 else (hfad 0 p3 fun p12 =>
hfad 6 p12 fun p13 =>
ldL H p13 fun q14 l15 c16 =>
hfad 1 p2 fun p17 =>
ldL H p17 fun q18 l19 c20 =>
bif (((l15 : Nat) : Int) != ((l19 : Nat) : Int)) then (KR false)
 else (hfad 7 p1 fun p21 =>
ldL H p21 fun q22 l23 c24 =>
bif (((l23 : Nat) : Int) != 1) then (KR false)
 else (KN p1 p3)))
def L_ColorspecMaps_p1 (k : Nat) : L_ColorspecMaps_p1_t R := L_ColorspecMaps_p1_b k
def L_ColorspecMaps_p3_b (k : Nat) : L_ColorspecMaps_p3_t R := fun p1 q2 l3 c4 q5 l6 c7 n8 n9 n10 H KN KR =>
hfad 7 p1 fun p11 =>
ldL H p11 fun q12 l13 c14 =>
hidx q12 l13 n8 5 fun p15 =>
hfad 4 p15 fun p16 =>
ldL H p16 fun q17 l18 c19 =>
bif (((l18 : Nat) : Int) != ((l3 : Nat) : Int)) then (KR false)
 else (hfad 0 p1 fun p20 =>
hfad 6 p20 fun p21 =>
ldL H p21 fun q22 l23 c24 =>
hidx q22 l23 n8 4 fun p25 =>
hfad 0 p25 fun p26 =>
ldI .i64 H p26 fun n27 =>
bif (n27 != 8) then (KR false)
 else (KN p1 q2 l3 c4 q5 l6 c7 n8 n9 n10))
def L_ColorspecMaps_p3 (k : Nat) : L_ColorspecMaps_p3_t R := L_ColorspecMaps_p3_b k
def L_ColorspecMaps_l4_b (k : Nat) : L_ColorspecMaps_l4_q R (L_ColorspecMaps_l4_r R → L_ColorspecMaps_l4_r R) := fun KE2 rec p1 q2 l3 c4 q5 l6 c7 n8 n9 n10 n11 n12 H =>
bif decide (n12 < n11) then (hidx q5 l6 n12 1 fun p13 =>
hst1 H p13 (.int .i64 (-1)) fun H14 =>
rec p1 q2 l3 c4 q5 l6 c7 n8 n9 n10 n11 (IntKind.wrap .i64 (n12 + 1)) H14)
 else (KE2 p1 q2 l3 c4 q5 l6 c7 n8 n9 n10 H)
def L_ColorspecMaps_l4 (k : Nat) : L_ColorspecMaps_l4_t R
  | KE2,0 => fun _ _ _ _ _ _ _ _ _ _ _ _ _ => none
  | KE2,n + 1 => L_ColorspecMaps_l4_b k KE2 (L_ColorspecMaps_l4 k KE2 n)
def L_ColorspecMaps_p6_b (k : Nat) : L_ColorspecMaps_p6_t R := fun p1 q2 l3 c4 q5 l6 c7 n8 n9 n10 n11 q12 l13 c14 n15 n16 H KN KR =>
bif decide (n9 < 0) then (KR false)
 else (bif decide (n9 > 255) then (KR false)
 else (hidx q2 l3 n8 1 fun p17 =>
ldI .i64 H p17 fun n18 =>
bif decide (n18 < 0) then (KR false)
 else (hidx q2 l3 n8 1 fun p19 =>
ldI .i64 H p19 fun n20 =>
bif decide (n20 > 255) then (KR false)
 else (hidx q2 l3 n8 1 fun p21 =>
ldI .i64 H p21 fun n22 =>
hidx q5 l6 n22 1 fun p23 =>
ldI .i64 H p23 fun n24 =>
bif decide (n24 ≥ 0) then (hidx q2 l3 n8 1 fun p25 =>
ldI .i64 H p25 fun n26 =>
hidx q5 l6 n26 1 fun p27 =>
ldI .i64 H p27 fun n28 =>
bif (n28 != n9) then (KR false)
 else (KN p1 q2 l3 c4 q5 l6 c7 n8 n9 n10 n11 q12 l13 c14 n15 n16))
 else (KN p1 q2 l3 c4 q5 l6 c7 n8 n9 n10 n11 q12 l13 c14 n15 n16)))))
def L_ColorspecMaps_p6 (k : Nat) : L_ColorspecMaps_p6_t R := L_ColorspecMaps_p6_b k
def L_ColorspecMaps_l5_b (k : Nat) : L_ColorspecMaps_l5_q R (L_ColorspecMaps_l5_r R → L_ColorspecMaps_l5_r R) := fun KE4 KR rec p1 q2 l3 c4 q5 l6 c7 n8 n9 q10 l11 c12 n13 n14 H =>
bif decide (n14 < n13) then (hidx q10 l11 n14 1 fun p15 =>
ldI .i64 H p15 fun n16 =>
z6 p1 q2 l3 c4 q5 l6 c7 n14 n16 n8 n9 q10 l11 c12 n13 n14 H (fun p34 q35 l36 c37 q38 l39 c40 n41 n42 n43 n44 q45 l46 c47 n48 n49 =>
hidx q35 l36 n41 1 fun p50 =>
ldI .i64 H p50 fun n51 =>
hidx q38 l39 n51 1 fun p52 =>
hst1 H p52 (.int .i64 n42) fun H53 =>
rec p34 q35 l36 c37 q38 l39 c40 n43 n44 q45 l46 c47 n48 (IntKind.wrap .i64 (n49 + 1)) H53) (fun t54 =>
KR t54 H))
 else (KE4 p1 q2 l3 c4 q5 l6 c7 n8 n9 H)
def L_ColorspecMaps_l5 (k : Nat) : L_ColorspecMaps_l5_t R
  | KE4,KR,0 => fun _ _ _ _ _ _ _ _ _ _ _ _ _ _ _ => none
  | KE4,KR,n + 1 => L_ColorspecMaps_l5_b (L_ColorspecMaps_p6 k) k KE4 KR (L_ColorspecMaps_l5 k KE4 KR n)
def L_ColorspecMaps_l2_b (k : Nat) : L_ColorspecMaps_l2_q R (L_ColorspecMaps_l2_r R → L_ColorspecMaps_l2_r R) := fun KE0 KR rec p1 q2 l3 c4 q5 l6 c7 n8 n9 H =>
bif decide (n9 < n8) then (z3 p1 q2 l3 c4 q5 l6 c7 n9 n8 n9 H (fun p21 q22 l23 c24 q25 l26 c27 n28 n29 n30 =>
z4 (fun p41 q42 l43 c44 q45 l46 c47 n48 n49 n50 H51 =>
hfad 7 p41 fun p52 =>
ldL H51 p52 fun q53 l54 c55 =>
hidx q53 l54 n48 5 fun p56 =>
hfad 4 p56 fun p57 =>
ldL H51 p57 fun q58 l59 c60 =>
z5 (fun p71 q72 l73 c74 q75 l76 c77 n78 n79 H80 =>
rec p71 q72 l73 c74 q75 l76 c77 n78 (IntKind.wrap .i64 (n79 + 1)) H80) (fun t81 H82 =>
KR t81 H82) k p41 q42 l43 c44 q45 l46 c47 n49 n50 q58 l59 c60 ((l59 : Nat) : Int) 0 H51) k p21 q22 l23 c24 q25 l26 c27 n28 n29 n30 ((l26 : Nat) : Int) 0 H) (fun t83 =>
KR t83 H))
 else (KE0 H)
def L_ColorspecMaps_l2 (k : Nat) : L_ColorspecMaps_l2_t R
  | KE0,KR,0 => fun _ _ _ _ _ _ _ _ _ _ => none
  | KE0,KR,n + 1 => L_ColorspecMaps_l2_b (L_ColorspecMaps_p3 k) (L_ColorspecMaps_l4 k) (L_ColorspecMaps_l5 k) k KE0 KR (L_ColorspecMaps_l2 k KE0 KR n)
def L_ColorspecMaps_b (k : Nat) : L_ColorspecMaps_t R := fun n1 n2 n3 n4 n5 n6 q7 l8 c9 q10 l11 c12 n13 q14 l15 c16 q17 l18 c19 H K =>
hal H [.int .i64 n1,.int .i64 n2,.int .i64 n3,.int .i64 n4,.int .i64 n5,.int .i64 n6,.slice q7 l8 c9,.slice q10 l11 c12] fun p20 H21 =>
hal H21 [.int .i64 n13,.slice q14 l15 c16,.slice q17 l18 c19] fun p22 H23 =>
z0 p20 p22 H23 (fun p27 p28 t29 H30 =>
bif t29 then (f2 fun t31 =>
K t31 H30)
 else (ldI .i64 H30 (pad p27 0) fun n32 =>
ldI .i64 H30 (pad p27 1) fun n33 =>
ldI .i64 H30 (pad p27 2) fun n34 =>
ldI .i64 H30 (pad p27 3) fun n35 =>
ldI .i64 H30 (pad p27 4) fun n36 =>
ldI .i64 H30 (pad p27 5) fun n37 =>
ldL H30 (pad p27 6) fun q38 l39 c40 =>
ldL H30 (pad p27 7) fun q41 l42 c43 =>
ldI .i64 H30 (pad p28 0) fun n44 =>
ldL H30 (pad p28 1) fun q45 l46 c47 =>
ldL H30 (pad p28 2) fun q48 l49 c50 =>
f3 n32 n33 n34 n35 n36 n37 q38 l39 c40 q41 l42 c43 n44 q45 l46 c47 q48 l49 c50 H30 fun n51 n52 n53 n54 n55 n56 q57 l58 c59 q60 l61 c62 n63 H64 =>
hal H64 [.int .i64 0,.int .i64 0,.int .i64 0,.int .i64 0,.int .i64 0,.int .i64 0,.slice none 0 0,.slice none 0 0] fun p65 H66 =>
hst H66 p65 [.int .i64 n51,.int .i64 n52,.int .i64 n53,.int .i64 n54,.int .i64 n55,.int .i64 n56,.slice q57 l58 c59,.slice q60 l61 c62] fun H67 =>
bif (n63 != 0) then (hfad 7 p65 fun p68 =>
ldL H67 p68 fun q69 l70 c71 =>
bif (((l70 : Nat) : Int) == 0) then (f2 fun t72 =>
K t72 H67)
 else (K false H67))
 else (hfad 2 p28 fun p73 =>
ldL H67 p73 fun q74 l75 c76 =>
bif (((l75 : Nat) : Int) == 0) then (ldI .i64 H67 (pad p65 0) fun n77 =>
ldI .i64 H67 (pad p65 1) fun n78 =>
ldI .i64 H67 (pad p65 2) fun n79 =>
ldI .i64 H67 (pad p65 3) fun n80 =>
ldI .i64 H67 (pad p65 4) fun n81 =>
ldI .i64 H67 (pad p65 5) fun n82 =>
ldL H67 (pad p65 6) fun q83 l84 c85 =>
ldL H67 (pad p65 7) fun q86 l87 c88 =>
ldI .i64 H67 (pad p27 0) fun n89 =>
ldI .i64 H67 (pad p27 1) fun n90 =>
ldI .i64 H67 (pad p27 2) fun n91 =>
ldI .i64 H67 (pad p27 3) fun n92 =>
ldI .i64 H67 (pad p27 4) fun n93 =>
ldI .i64 H67 (pad p27 5) fun n94 =>
ldL H67 (pad p27 6) fun q95 l96 c97 =>
ldL H67 (pad p27 7) fun q98 l99 c100 =>
f4 n77 n78 n79 n80 n81 n82 q83 l84 c85 q86 l87 c88 n89 n90 n91 n92 n93 n94 q95 l96 c97 q98 l99 c100 H67 fun t101 H102 =>
bif t101 then (f2 fun t103 =>
K t103 H102)
 else (K false H102))
 else (z1 p27 p28 p65 H67 (fun p107 p108 =>
hfad 7 p107 fun p109 =>
ldL H67 p109 fun q110 l111 c112 =>
hidx q110 l111 0 5 fun p113 =>
hfad 4 p113 fun p114 =>
ldL H67 p114 fun q115 l116 c117 =>
hmk [.int .i64 0] 8 H67 256 256 fun q118 l119 c120 H121 =>
hfad 7 p108 fun p122 =>
ldL H121 p122 fun q123 l124 c125 =>
z2 (fun H127 =>
f2 fun t128 =>
K t128 H127) (fun t129 H130 =>
K t129 H130) k p108 q115 l116 c117 q118 l119 c120 ((l124 : Nat) : Int) 0 H121) (fun t131 =>
K t131 H67)))))
def L_ColorspecMaps (k : Nat) : L_ColorspecMaps_t R := L_ColorspecMaps_b L_awakeq (colorspec_Expand k) (L_sameImage k) (L_ColorspecMaps_p0 k) (L_ColorspecMaps_p1 k) (L_ColorspecMaps_l2 k) k
def x5C : Tab R := tcons 15 (x15a f0) <| tcons 9 (x9a f1) <| tcons 10 (x10a f2) <| tcons 16 (x16a f3) <| tcons 18 (x18a f4) <| fun _ _ _ _ => none
def x5s6 : PS := ⟨(.seq (.reg [5,7,8,11,12,78,79,116,117,118,163] []) (.cond (.seq (.reg [4] []) .leaf) .leaf)),[5,7,8,11,12,78,79,116,117,118],[.p,.l,.l,.n,.n,.n,.n,.l,.n,.n],⟨[5,7,8,11,12,78,79,116,117,118],[],[4]⟩⟩
def x5c6 (g : L_ColorspecMaps_p6_u R) (H : Heap) (K : XK R) : Option R := g H (kN .normal [5,7,8,11,12,78,79,116,117,118] [.p,.l,.l,.n,.n,.n,.n,.l,.n,.n] K H) (kN .ret [4] [.b] K H)
def x5a6 (f : L_ColorspecMaps_p6_t R) : Nat → List Value → Heap → XK R → Option R := jp x5s6 x5c6 f
def x5s5 : PS := ⟨(.seq (.reg [5,7,8,78,79,116,117,118,119] []) (.seq (.cond .leaf .leaf) (.seq (.node (.seq (.reg [5,7,8,11,12,78,79,116,117,118] []) (.seq (.opq 6 x5s6.ls x5s6.out x5s6.t) (.reg [5,7,8,78,79,116,117,118] [])))) (.reg [5,7,8,78,79,116,117,118] [])))),[5,7,8,78,79,116,117,118],[.p,.l,.l,.n,.n,.l,.n,.n],⟨[],[(4,[5,7,8,78,79])],[4]⟩⟩
def x5c5 {T : Type} (g : L_ColorspecMaps_l5_q R T) (H : Heap) (K : XK R) : T := g (kH (.exit 4) [5,7,8,78,79] [.p,.l,.l,.n,.n] K) (kH .ret [4] [.b] K)
def x5a5 (f : L_ColorspecMaps_l5_t R) : Nat → List Value → Heap → XK R → Option R := jl x5s5 (L := L_ColorspecMaps_l5_t R) x5c5 pH f
def x5s4 : PS := ⟨(.seq (.reg [5,7,8,9,78,79,103,104,105] []) (.seq (.cond .leaf .leaf) (.seq (.node (.seq (.reg [5,7,8,9,10,78,79,103,104] []) (.reg [5,7,8,9,78,79,103,104] []))) (.reg [5,7,8,9,78,79,103,104] [])))),[5,7,8,9,78,79,103,104],[.p,.l,.l,.n,.n,.n,.n,.n],⟨[],[(2,[5,7,8,9,78,79])],[]⟩⟩
def x5c4 {T : Type} (g : L_ColorspecMaps_l4_q R T) (H : Heap) (K : XK R) : T := g (kH (.exit 2) [5,7,8,9,78,79] [.p,.l,.l,.n,.n,.n] K)
def x5a4 (f : L_ColorspecMaps_l4_t R) : Nat → List Value → Heap → XK R → Option R := jl x5s4 (L := L_ColorspecMaps_l4_t R) x5c4 pH f
def x5s3 : PS := ⟨(.seq (.reg [5,7,8,9,78,79,101] []) (.cond (.seq (.reg [4] []) .leaf) .leaf)),[5,7,8,9,78,79],[.p,.l,.l,.n,.n,.n],⟨[5,7,8,9,78,79],[],[4]⟩⟩
def x5c3 (g : L_ColorspecMaps_p3_u R) (H : Heap) (K : XK R) : Option R := g H (kN .normal [5,7,8,9,78,79] [.p,.l,.l,.n,.n,.n] K H) (kN .ret [4] [.b] K H)
def x5a3 (f : L_ColorspecMaps_p3_t R) : Nat → List Value → Heap → XK R → Option R := jp x5s3 x5c3 f
def x5s2 : PS := ⟨(.seq (.reg [5,7,8,78,79,80] []) (.seq (.cond .leaf .leaf) (.seq (.node (.seq (.reg [5,7,8,9,78,79] []) (.seq (.opq 3 x5s3.ls x5s3.out x5s3.t) (.seq (.seq (.reg [5,7,8,9,78,79,103,104] []) (.node (.opq 4 x5s4.ls x5s4.out (.node x5s4.t)))) (.seq (.reg [5,7,8,78,79,116,117,118] []) (.node (.opq 5 x5s5.ls x5s5.out (.node x5s5.t)))))))) (.reg [5,7,8,78,79] [])))),[5,7,8,78,79],[.p,.l,.l,.n,.n],⟨[],[(0,[])],[4]⟩⟩
def x5c2 {T : Type} (g : L_ColorspecMaps_l2_q R T) (H : Heap) (K : XK R) : T := g (kH (.exit 0) [] [] K) (kH .ret [4] [.b] K)
def x5a2 (f : L_ColorspecMaps_l2_t R) : Nat → List Value → Heap → XK R → Option R := jl x5s2 (L := L_ColorspecMaps_l2_t R) x5c2 pH f
def x5s1 : PS := ⟨(.seq (.reg [2,5,69] []) (.cond (.seq (.reg [4] []) .leaf) .leaf)),[2,3,5],[.p,.p,.p],⟨[2,5],[],[4]⟩⟩
def x5c1 (g : L_ColorspecMaps_p1_u R) (H : Heap) (K : XK R) : Option R := g H (kN .normal [2,5] [.p,.p] K H) (kN .ret [4] [.b] K H)
def x5a1 (f : L_ColorspecMaps_p1_t R) : Nat → List Value → Heap → XK R → Option R := jp x5s1 x5c1 f
def x5s0 : PS := ⟨(.reg [2,3,20] []),[2,3],[.p,.p],⟨[2,3,20],[],[]⟩⟩
def x5c0 (g : L_ColorspecMaps_p0_u R) (H : Heap) (K : XK R) : Option R := g H (kH .normal [2,3,20] [.p,.p,.b] K)
def x5a0 (f : L_ColorspecMaps_p0_t R) : Nat → List Value → Heap → XK R → Option R := jp x5s0 x5c0 f
def x5J (k : Nat) : JTab R := tcons 0 (x5a0 z0 k) <| tcons 1 (x5a1 z1 k) <| tcons 2 (x5a2 z2 k) <| tcons 3 (x5a3 z3 k) <| tcons 4 (x5a4 z4 k) <| tcons 5 (x5a5 z5 k) <| tcons 6 (x5a6 z6 k) <| fun _ _ _ _ => none
def x5t : AT := (.seq (.reg [2,3] []) (.seq (.seq (.opq 0 x5s0.ls x5s0.out x5s0.t) (.cond (.seq (.reg [4] []) .leaf) .leaf)) (.seq (.reg [2,3,5,6] []) (.seq (.seq (.reg [2,3,5,29] []) (.cond (.seq (.reg [4] []) .leaf) .leaf)) (.seq (.seq (.reg [2,3,5,40] []) (.cond (.seq (.reg [4] []) .leaf) .leaf)) (.seq (.opq 1 x5s1.ls x5s1.out x5s1.t) (.seq (.reg [5,7] []) (.seq (.reg [5,7,8] []) (.seq (.seq (.reg [5,7,8,78,79] []) (.node (.opq 2 x5s2.ls x5s2.out (.node x5s2.t)))) (.seq (.reg [4] []) .leaf))))))))))
def x5c (g : L_ColorspecMaps_u R) (H : Heap) (K : Value → Heap → Option R) : Option R := g H (rH [.b] K)
def x5a (f : L_ColorspecMaps_t R) : List Value → Heap → (Value → Heap → Option R) → Option R := jf 2 [(.a 8),.n,.n,.n,.n,.n,.n,.l,.l,(.a 3),.n,.l,.l] x5c f
variable {f0 f1 f2 f3 f4 z0 z1 z2 z3 z4 z5 z6}
theorem x5e6 (k : Nat) (H : Heap) (K : XK R) : jE Try.prog An 174 (x5C f0 f1 f2 f3 f4) (x5J z0 z1 z2 z3 z4 z5 z6 k) x5s6 (sel [1,1,1,1,1,1,1,1,0,1,0,0,1,1,0,0,1,1,1,1,0,0,1,1,0,0,1,0] (bd Try.f5)) H K = mapT (fun g => x5c6 g H K) x5s6.ts (L_ColorspecMaps_p6_b k) := by kernel_rfl
theorem x5e5 (k n : Nat) (H : Heap) (K : XK R) : lE Try.prog An 174 (x5C f0 f1 f2 f3 f4) (x5J z0 z1 z2 z3 z4 z5 z6 k) x5s5 (sel [1,1,1,1,1,1,1,1,0,1,0,0,1,1,0,0,1,1,1,1,0,0] (bd Try.f5)) (x5a5 z5) n H K = mapT (fun g => pH g H) x5s5.ts (x5c5 (L_ColorspecMaps_l5_b z6 k) H K (x5c5 z5 H K n)) := by kernel_rfl
theorem x5e4 (k n : Nat) (H : Heap) (K : XK R) : lE Try.prog An 174 (x5C f0 f1 f2 f3 f4) (x5J z0 z1 z2 z3 z4 z5 z6 k) x5s4 (sel [1,1,1,1,1,1,1,1,0,1,0,0,1,1,0,0,1,1,0,1,0,0] (bd Try.f5)) (x5a4 z4) n H K = mapT (fun g => pH g H) x5s4.ts (x5c4 (L_ColorspecMaps_l4_b k) H K (x5c4 z4 H K n)) := by kernel_rfl
theorem x5e3 (k : Nat) (H : Heap) (K : XK R) : jE Try.prog An 174 (x5C f0 f1 f2 f3 f4) (x5J z0 z1 z2 z3 z4 z5 z6 k) x5s3 (sel [1,1,1,1,1,1,1,1,0,1,0,0,1,1,0,0,1,0] (bd Try.f5)) H K = mapT (fun g => x5c3 g H K) x5s3.ts (L_ColorspecMaps_p3_b k) := by kernel_rfl
theorem x5e2 (k n : Nat) (H : Heap) (K : XK R) : lE Try.prog An 174 (x5C f0 f1 f2 f3 f4) (x5J z0 z1 z2 z3 z4 z5 z6 k) x5s2 (sel [1,1,1,1,1,1,1,1,0,1,0,0] (bd Try.f5)) (x5a2 z2) n H K = mapT (fun g => pH g H) x5s2.ts (x5c2 (L_ColorspecMaps_l2_b z3 z4 z5 k) H K (x5c2 z2 H K n)) := by kernel_rfl
theorem x5e1 (k : Nat) (H : Heap) (K : XK R) : jE Try.prog An 174 (x5C f0 f1 f2 f3 f4) (x5J z0 z1 z2 z3 z4 z5 z6 k) x5s1 (sel [1,1,1,1,1,0] (bd Try.f5)) H K = mapT (fun g => x5c1 g H K) x5s1.ts (L_ColorspecMaps_p1_b k) := by kernel_rfl
theorem x5e0 (k : Nat) (H : Heap) (K : XK R) : jE Try.prog An 174 (x5C f0 f1 f2 f3 f4) (x5J z0 z1 z2 z3 z4 z5 z6 k) x5s0 (sel [1,0,0] (bd Try.f5)) H K = mapT (fun g => x5c0 g H K) x5s0.ts (L_ColorspecMaps_p0_b f0 f1 k) := by kernel_rfl
theorem x5e (k : Nat) (H : Heap) (K : Value → Heap → Option R) : fE Try.prog An (x5C f0 f1 f2 f3 f4) (x5J z0 z1 z2 z3 z4 z5 z6 k) x5t Try.f5 [(.a 8),.n,.n,.n,.n,.n,.n,.l,.l,(.a 3),.n,.l,.l] H K = mapT (fun g => x5c g H K) [(.a 8),.n,.n,.n,.n,.n,.n,.l,.l,(.a 3),.n,.l,.l] (L_ColorspecMaps_b f2 f3 f4 z0 z1 z2 k) := by kernel_rfl
theorem x5S (R : Type) (k : Nat) : CSound Try.prog (x5C (R := R) (L_few k) (R46_Few k) L_awakeq (colorspec_Expand k) (L_sameImage k)) := csound_cons (x15cs R k) <| csound_cons (x9cs R k) <| csound_cons (x10cs R k) <| csound_cons (x16cs R k) <| csound_cons (x18cs R k) <| csound_nil
theorem x5j6 (R : Type) (k : Nat) : JS Try.prog 174 (x5a6 (L_ColorspecMaps_p6 (R := R) k) k) x5s6.ls x5s6.out (sel [1,1,1,1,1,1,1,1,0,1,0,0,1,1,0,0,1,1,1,1,0,0,1,1,0,0,1,0] (bd Try.f5)) := pj (x5S R k) (x5J (L_ColorspecMaps_p0 k) (L_ColorspecMaps_p1 k) (L_ColorspecMaps_l2 k) (L_ColorspecMaps_p3 k) (L_ColorspecMaps_l4 k) (L_ColorspecMaps_l5 k) (L_ColorspecMaps_p6 k) k) (by kernel_rfl) (A := True) trivial (by kernel_rfl) (fun _ _ => .trans (x5e6 _ _ _) (by kernel_rfl))
theorem x5j5 (R : Type) (k : Nat) : JS Try.prog 174 (x5a5 (L_ColorspecMaps_l5 (R := R) k) k) x5s5.ls x5s5.out (.loop (sel [1,1,1,1,1,1,1,1,0,1,0,0,1,1,0,0,1,1,1,1,0,0] (bd Try.f5))) := lj (x5S R k) (x5J (L_ColorspecMaps_p0 k) (L_ColorspecMaps_p1 k) (L_ColorspecMaps_l2 k) (L_ColorspecMaps_p3 k) (L_ColorspecMaps_l4 k) (L_ColorspecMaps_l5 k) (L_ColorspecMaps_p6 k) k) (by kernel_rfl) (A := JS Try.prog 174 (x5a6 (L_ColorspecMaps_p6 (R := R) k) k) x5s6.ls x5s6.out (sel [1,1,1,1,1,1,1,1,0,1,0,0,1,1,0,0,1,1,1,1,0,0,1,1,0,0,1,0] (bd Try.f5)) ∧ True) ⟨x5j6 R k,trivial⟩ (by kernel_rfl) (fun _ _ => by kernel_rfl) (fun _ _ _ => .trans (x5e5 _ _ _ _) (by kernel_rfl)) k
theorem x5j4 (R : Type) (k : Nat) : JS Try.prog 174 (x5a4 (L_ColorspecMaps_l4 (R := R) k) k) x5s4.ls x5s4.out (.loop (sel [1,1,1,1,1,1,1,1,0,1,0,0,1,1,0,0,1,1,0,1,0,0] (bd Try.f5))) := lj (x5S R k) (x5J (L_ColorspecMaps_p0 k) (L_ColorspecMaps_p1 k) (L_ColorspecMaps_l2 k) (L_ColorspecMaps_p3 k) (L_ColorspecMaps_l4 k) (L_ColorspecMaps_l5 k) (L_ColorspecMaps_p6 k) k) (by kernel_rfl) (A := True) trivial (by kernel_rfl) (fun _ _ => by kernel_rfl) (fun _ _ _ => .trans (x5e4 _ _ _ _) (by kernel_rfl)) k
theorem x5j3 (R : Type) (k : Nat) : JS Try.prog 174 (x5a3 (L_ColorspecMaps_p3 (R := R) k) k) x5s3.ls x5s3.out (sel [1,1,1,1,1,1,1,1,0,1,0,0,1,1,0,0,1,0] (bd Try.f5)) := pj (x5S R k) (x5J (L_ColorspecMaps_p0 k) (L_ColorspecMaps_p1 k) (L_ColorspecMaps_l2 k) (L_ColorspecMaps_p3 k) (L_ColorspecMaps_l4 k) (L_ColorspecMaps_l5 k) (L_ColorspecMaps_p6 k) k) (by kernel_rfl) (A := True) trivial (by kernel_rfl) (fun _ _ => .trans (x5e3 _ _ _) (by kernel_rfl))
theorem x5j2 (R : Type) (k : Nat) : JS Try.prog 174 (x5a2 (L_ColorspecMaps_l2 (R := R) k) k) x5s2.ls x5s2.out (.loop (sel [1,1,1,1,1,1,1,1,0,1,0,0] (bd Try.f5))) := lj (x5S R k) (x5J (L_ColorspecMaps_p0 k) (L_ColorspecMaps_p1 k) (L_ColorspecMaps_l2 k) (L_ColorspecMaps_p3 k) (L_ColorspecMaps_l4 k) (L_ColorspecMaps_l5 k) (L_ColorspecMaps_p6 k) k) (by kernel_rfl) (A := JS Try.prog 174 (x5a3 (L_ColorspecMaps_p3 (R := R) k) k) x5s3.ls x5s3.out (sel [1,1,1,1,1,1,1,1,0,1,0,0,1,1,0,0,1,0] (bd Try.f5)) ∧ JS Try.prog 174 (x5a4 (L_ColorspecMaps_l4 (R := R) k) k) x5s4.ls x5s4.out (.loop (sel [1,1,1,1,1,1,1,1,0,1,0,0,1,1,0,0,1,1,0,1,0,0] (bd Try.f5))) ∧ JS Try.prog 174 (x5a5 (L_ColorspecMaps_l5 (R := R) k) k) x5s5.ls x5s5.out (.loop (sel [1,1,1,1,1,1,1,1,0,1,0,0,1,1,0,0,1,1,1,1,0,0] (bd Try.f5))) ∧ True) ⟨x5j3 R k,⟨x5j4 R k,⟨x5j5 R k,trivial⟩⟩⟩ (by kernel_rfl) (fun _ _ => by kernel_rfl) (fun _ _ _ => .trans (x5e2 _ _ _ _) (by kernel_rfl)) k
theorem x5j1 (R : Type) (k : Nat) : JS Try.prog 174 (x5a1 (L_ColorspecMaps_p1 (R := R) k) k) x5s1.ls x5s1.out (sel [1,1,1,1,1,0] (bd Try.f5)) := pj (x5S R k) (x5J (L_ColorspecMaps_p0 k) (L_ColorspecMaps_p1 k) (L_ColorspecMaps_l2 k) (L_ColorspecMaps_p3 k) (L_ColorspecMaps_l4 k) (L_ColorspecMaps_l5 k) (L_ColorspecMaps_p6 k) k) (by kernel_rfl) (A := True) trivial (by kernel_rfl) (fun _ _ => .trans (x5e1 _ _ _) (by kernel_rfl))
theorem x5j0 (R : Type) (k : Nat) : JS Try.prog 174 (x5a0 (L_ColorspecMaps_p0 (R := R) k) k) x5s0.ls x5s0.out (sel [1,0,0] (bd Try.f5)) := pj (x5S R k) (x5J (L_ColorspecMaps_p0 k) (L_ColorspecMaps_p1 k) (L_ColorspecMaps_l2 k) (L_ColorspecMaps_p3 k) (L_ColorspecMaps_l4 k) (L_ColorspecMaps_l5 k) (L_ColorspecMaps_p6 k) k) (by kernel_rfl) (A := True) trivial (by kernel_rfl) (fun _ _ => .trans (x5e0 _ _ _) (by kernel_rfl))
theorem x5cs (R : Type) (k : Nat) : ∀ args H K r,x5a (L_ColorspecMaps k) args H K = some (r : R) → ∃ v H',Tri Try.prog 5 args H v H' ∧ K v H' = some r := fj (x5S R k) (x5J (L_ColorspecMaps_p0 k) (L_ColorspecMaps_p1 k) (L_ColorspecMaps_l2 k) (L_ColorspecMaps_p3 k) (L_ColorspecMaps_l4 k) (L_ColorspecMaps_l5 k) (L_ColorspecMaps_p6 k) k) Try.func5 (by kernel_rfl) (A := JS Try.prog 174 (x5a0 (L_ColorspecMaps_p0 (R := R) k) k) x5s0.ls x5s0.out (sel [1,0,0] (bd Try.f5)) ∧ JS Try.prog 174 (x5a1 (L_ColorspecMaps_p1 (R := R) k) k) x5s1.ls x5s1.out (sel [1,1,1,1,1,0] (bd Try.f5)) ∧ JS Try.prog 174 (x5a2 (L_ColorspecMaps_l2 (R := R) k) k) x5s2.ls x5s2.out (.loop (sel [1,1,1,1,1,1,1,1,0,1,0,0] (bd Try.f5))) ∧ True) ⟨x5j0 R k,⟨x5j1 R k,⟨x5j2 R k,trivial⟩⟩⟩ (by kernel_rfl) (fun _ _ => .trans (x5e _ _ _) (by kernel_rfl))
def L_ColorspecMaps_c (R : Type) (k : Nat) : List Value → Heap → (Value → Heap → Option R) → Option R := x5a (L_ColorspecMaps k)
theorem L_ColorspecMaps_cs (R : Type) (k : Nat) : ∀ args H K r,L_ColorspecMaps_c R k args H K = some r → ∃ v H',Tri Try.prog 5 args H v H' ∧ K v H' = some r := x5cs R k
end
end Go.Proofs.Ytkjcjlembepdkaa.Sh
