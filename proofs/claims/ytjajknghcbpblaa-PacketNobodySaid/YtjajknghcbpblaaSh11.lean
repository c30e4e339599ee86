/- Lean functions that stand for Go's,over an explicit heap,and the proofs that they do (written by this claim's program sh2.py). -/
import Derived.Test.YtjajknghcbpblaaShA
import Derived.Test.YtjajknghcbpblaaSh10
import Derived.Test.YtjajknghcbpblaaSh2
import Derived.Test.YtjajknghcbpblaaSh4
import Derived.Test.YtjajknghcbpblaaSh7
import Derived.Test.YtjajknghcbpblaaSh8
import Derived.Test.YtjajknghcbpblaaSh9
set_option maxRecDepth 100000
set_option linter.unusedVariables false
set_option linter.unusedSimpArgs false
namespace Go.Proofs.Ytjajknghcbpblaa.Sh
open Go.Proofs.Ytjajknghcbpblaa.FW
/-! ### pkthead_suffices: function 68 -/
abbrev pkthead_suffices_l0_r (R : Type) : Type := Int → Oa → Nat → Nat → Oa → Nat → Nat → Int → Int → Heap → Option R
abbrev pkthead_suffices_l0_q (R T : Type) : Type := (Unit → Option R) → (Bool → Option R) → T
abbrev pkthead_suffices_l0_t (R : Type) : Type := pkthead_suffices_l0_q R (Nat → pkthead_suffices_l0_r R)
abbrev pkthead_suffices_u (R : Type) : Type := Heap → (Bool → Option R) → Option R
abbrev pkthead_suffices_t (R : Type) : Type := Int → Oa → Nat → Nat → Oa → Nat → Nat → pkthead_suffices_u R
section
variable {R : Type} (f0 : pkthead_width_t R) (z0 : pkthead_suffices_l0_t R)
def pkthead_suffices_l0_b (k : Nat) : pkthead_suffices_l0_q R (pkthead_suffices_l0_r R → pkthead_suffices_l0_r R) := fun KE0 KR rec n1 q2 l3 c4 q5 l6 c7 n8 n9 H =>
bif decide (n9 < n8) then (hidx q5 l6 n9 1 fun p10 =>
ldI .i64 H p10 fun n11 =>
hidx q2 l3 n9 1 fun p12 =>
ldI .i64 H p12 fun n13 =>
f0 n13 fun n14 =>
hbin .shl .i64 1 (IntKind.wrap .i64 (n1 + n14)) fun n15 =>
bif decide (n11 ≥ n15) then (KR false)
 else (rec n1 q2 l3 c4 q5 l6 c7 n8 (IntKind.wrap .i64 (n9 + 1)) H))
 else (KE0 ())
def pkthead_suffices_l0 (k : Nat) : pkthead_suffices_l0_t R
  | KE0,KR,0 => fun _ _ _ _ _ _ _ _ _ _ => none
  | KE0,KR,n + 1 => pkthead_suffices_l0_b (pkthead_width k) k KE0 KR (pkthead_suffices_l0 k KE0 KR n)
def pkthead_suffices_b (k : Nat) : pkthead_suffices_t R := fun n1 q2 l3 c4 q5 l6 c7 H K =>
z0 (fun (_ : Unit) =>
K true) (fun t9 =>
K t9) k n1 q2 l3 c4 q5 l6 c7 ((l6 : Nat) : Int) 0 H
def pkthead_suffices (k : Nat) : pkthead_suffices_t R := pkthead_suffices_b (pkthead_suffices_l0 k) k
def x68C : Tab R := tcons 71 (x71a f0) <| fun _ _ _ _ => none
def x68s0 : PS := ⟨(.seq (.reg [0,1,9,10,11,12] []) (.seq (.cond .leaf .leaf) (.seq (.node (.seq (.reg [0,1,7,8,9,10,11] []) (.seq (.reg [0,1,9,10,11,25] []) (.cond (.seq (.reg [6] []) .leaf) .leaf)))) (.reg [0,1,9,10,11] [])))),[0,1,9,10,11],[.n,.l,.l,.n,.n],⟨[],[(0,[])],[6]⟩⟩
def x68c0 {T : Type} (g : pkthead_suffices_l0_q R T) (H : Heap) (K : XK R) : T := g (kU (.exit 0) K H) (kN .ret [6] [.b] K H)
def x68a0 (f : pkthead_suffices_l0_t R) : Nat → List Value → Heap → XK R → Option R := jl x68s0 (L := pkthead_suffices_l0_t R) x68c0 pH f
def x68J (k : Nat) : JTab R := tcons 0 (x68a0 z0 k) <| fun _ _ _ _ => none
def x68t : AT := (.seq (.reg [0,1,2] []) (.seq (.seq (.reg [0,1,9,10,11] []) (.node (.opq 0 x68s0.ls x68s0.out (.node x68s0.t)))) (.seq (.reg [6] []) .leaf)))
def x68c (g : pkthead_suffices_u R) (H : Heap) (K : Value → Heap → Option R) : Option R := g H (rN [.b] K H)
def x68a (f : pkthead_suffices_t R) : List Value → Heap → (Value → Heap → Option R) → Option R := jf 3 [.n,.l,.l] x68c f
variable {f0 z0}
theorem x68e0 (k n : Nat) (H : Heap) (K : XK R) : lE Try.prog An 27 (x68C f0) (x68J z0 k) x68s0 (sel [1,0,1,0,0] (bd Try.f68)) (x68a0 z0) n H K = mapT (fun g => pH g H) x68s0.ts (x68c0 (pkthead_suffices_l0_b f0 k) H K (x68c0 z0 H K n)) := by kernel_rfl
theorem x68e (k : Nat) (H : Heap) (K : Value → Heap → Option R) : fE Try.prog An (x68C f0) (x68J z0 k) x68t Try.f68 [.n,.l,.l] H K = mapT (fun g => x68c g H K) [.n,.l,.l] (pkthead_suffices_b z0 k) := by kernel_rfl
theorem x68S (R : Type) (k : Nat) : CSound Try.prog (x68C (R := R) (pkthead_width k)) := csound_cons (x71cs R k) <| csound_nil
theorem x68j0 (R : Type) (k : Nat) : JS Try.prog 27 (x68a0 (pkthead_suffices_l0 (R := R) k) k) x68s0.ls x68s0.out (.loop (sel [1,0,1,0,0] (bd Try.f68))) := lj (x68S R k) (x68J (pkthead_suffices_l0 k) k) (by kernel_rfl) (A := True) trivial (by kernel_rfl) (fun _ _ => by kernel_rfl) (fun _ _ _ => .trans (x68e0 _ _ _ _) (by kernel_rfl)) k
theorem x68cs (R : Type) (k : Nat) : ∀ args H K r,x68a (pkthead_suffices k) args H K = some (r : R) → ∃ v H',Tri Try.prog 68 args H v H' ∧ K v H' = some r := fj (x68S R k) (x68J (pkthead_suffices_l0 k) k) Try.func68 (by kernel_rfl) (A := JS Try.prog 27 (x68a0 (pkthead_suffices_l0 (R := R) k) k) x68s0.ls x68s0.out (.loop (sel [1,0,1,0,0] (bd Try.f68))) ∧ True) ⟨x68j0 R k,trivial⟩ (by kernel_rfl) (fun _ _ => .trans (x68e _ _ _) (by kernel_rfl))
end
/-! ### pkthead_State_lengths: function 74 -/
abbrev pkthead_State_lengths_l0_r (R : Type) : Type := Oa → Oa → Oa → Oa → Int → Int → Oa → Nat → Nat → Oa → Oa → Oa → Nat → Nat → Int → Int → Heap → Option R
abbrev pkthead_State_lengths_l0_q (R T : Type) : Type := (Oa → Oa → Oa → Int → Int → Oa → Nat → Nat → Heap → Option R) → (Oa → Int → Heap → Option R) → T
abbrev pkthead_State_lengths_l0_t (R : Type) : Type := pkthead_State_lengths_l0_q R (Nat → pkthead_State_lengths_l0_r R)
abbrev pkthead_State_lengths_p1_u (R : Type) : Type := Heap → (Oa → Oa → Oa → Int → Int → Bool → Option R) → Option R
abbrev pkthead_State_lengths_p1_t (R : Type) : Type := Oa → Oa → Oa → Int → Int → Oa → Nat → Nat → pkthead_State_lengths_p1_u R
abbrev pkthead_State_lengths_u (R : Type) : Type := Heap → (Int → Int → Oa → Nat → Nat → Int → Heap → Option R) → Option R
abbrev pkthead_State_lengths_t (R : Type) : Type := Oa → Oa → Oa → pkthead_State_lengths_u R
section
variable {R : Type} (f0 : bitio_Reader_Gamma_t R) (f1 : bitio_Reader_Unary_t R) (f2 : pkthead_Parts_t R) (f3 : pkthead_width_t R) (f4 : bitio_Reader_Bits_t R) (f5 : pkthead_State_lengths_1_t R) (f6 : pkthead_suffices_t R) (z0 : pkthead_State_lengths_l0_t R) (z1 : pkthead_State_lengths_p1_t R)
def pkthead_State_lengths_l0_b (k : Nat) : pkthead_State_lengths_l0_q R (pkthead_State_lengths_l0_r R → pkthead_State_lengths_l0_r R) := fun KE0 KR rec p1 p2 p3 p4 n5 n6 q7 l8 c9 p10 p11 q12 l13 c14 n15 n16 H =>
bif decide (n16 < n15) then (hidx q12 l13 n16 1 fun p17 =>
ldI .i64 H p17 fun n18 =>
ldP H p2 fun p19 =>
hnil p19 fun p20 =>
hfad 7 p20 fun p21 =>
ldI .i64 H p21 fun n22 =>
f3 n18 fun n23 =>
f4 p1 (IntKind.wrap .i64 ((IntKind.wrap .i64 (n22 + n6)) + n23)) H fun n24 n25 H26 =>
bif (n25 != 0) then (ldI .i64 H26 (pad p4 0) fun n27 =>
ldI .i64 H26 (pad p4 1) fun n28 =>
ldL H26 (pad p4 2) fun q29 l30 c31 =>
hst H26 p3 [.int .i64 n27,.int .i64 n28,.slice q29 l30 c31] fun H32 =>
KR p3 n25 H32)
 else (f5 n24 p10 p11 H26 fun H33 =>
rec p1 p2 p3 p4 n5 n6 q7 l8 c9 p10 p11 q12 l13 c14 n15 (IntKind.wrap .i64 (n16 + 1)) H33))
 else (KE0 p2 p3 p4 n5 n6 q7 l8 c9 H)
def pkthead_State_lengths_l0 (k : Nat) : pkthead_State_lengths_l0_t R
  | KE0,KR,0 => fun _ _ _ _ _ _ _ _ _ _ _ _ _ _ _ _ _ => none
  | KE0,KR,n + 1 => pkthead_State_lengths_l0_b (pkthead_width k) (bitio_Reader_Bits k) pkthead_State_lengths_1 k KE0 KR (pkthead_State_lengths_l0 k KE0 KR n)
def pkthead_State_lengths_p1_b (k : Nat) : pkthead_State_lengths_p1_t R := fun p1 p2 p3 n4 n5 q6 l7 c8 H KN =>
bif decide (n5 > 0) then (ldP H p1 fun p9 =>
hnil p9 fun p10 =>
hfad 7 p10 fun p11 =>
ldI .i64 H p11 fun n12 =>
hfad 2 p3 fun p13 =>
ldL H p13 fun q14 l15 c16 =>
f6 (IntKind.wrap .i64 ((IntKind.wrap .i64 (n12 + n5)) - 1)) q6 l7 c8 q14 l15 c16 H fun t17 =>
bif t17 then (KN p1 p2 p3 n4 n5 true)
 else (ldP H p1 fun p18 =>
hnil p18 fun p19 =>
hfad 6 p19 fun p20 =>
ldI .i64 H p20 fun n21 =>
KN p1 p2 p3 n4 n5 (decide (n21 > 65535))))
 else (ldP H p1 fun p22 =>
hnil p22 fun p23 =>
hfad 6 p23 fun p24 =>
ldI .i64 H p24 fun n25 =>
KN p1 p2 p3 n4 n5 (decide (n25 > 65535)))
def pkthead_State_lengths_p1 (k : Nat) : pkthead_State_lengths_p1_t R := pkthead_State_lengths_p1_b (pkthead_suffices k) k
def pkthead_State_lengths_b (k : Nat) : pkthead_State_lengths_t R := fun p1 p2 p3 H K =>
hal H [.pointer p3] fun p4 H5 =>
hal H5 [.int .i64 0,.int .i64 0,.slice none 0 0] fun p6 H7 =>
ldP H7 p4 fun p8 =>
hnil p8 fun p9 =>
hfad 4 p9 fun p10 =>
ldI .i64 H7 p10 fun n11 =>
hal H7 [.int .i64 0,.int .i64 0,.slice none 0 0] fun p12 H13 =>
hst H13 p12 [.int .i64 n11,.int .i64 0,.slice none 0 0] fun H14 =>
f0 p2 H14 fun n15 n16 H17 =>
bif (n16 != 0) then (ldI .i64 H17 (pad p12 0) fun n18 =>
ldI .i64 H17 (pad p12 1) fun n19 =>
ldL H17 (pad p12 2) fun q20 l21 c22 =>
hst H17 p6 [.int .i64 n18,.int .i64 n19,.slice q20 l21 c22] fun H23 =>
ldI .i64 H23 (pad p6 0) fun n24 =>
ldI .i64 H23 (pad p6 1) fun n25 =>
ldL H23 (pad p6 2) fun q26 l27 c28 =>
K n24 n25 q26 l27 c28 n16 H23)
 else (ldP H17 p4 fun p29 =>
hnil p29 fun p30 =>
hfad 4 p30 fun p31 =>
ldI .i64 H17 p31 fun n32 =>
ldP H17 p4 fun p33 =>
hnil p33 fun p34 =>
hfad 5 p34 fun p35 =>
ldI .i64 H17 p35 fun n36 =>
bif decide (n15 > (IntKind.wrap .i64 ((IntKind.wrap .i64 ((IntKind.wrap .i64 (3 * n32)) - 2)) - n36))) then (ldI .i64 H17 (pad p12 0) fun n37 =>
ldI .i64 H17 (pad p12 1) fun n38 =>
ldL H17 (pad p12 2) fun q39 l40 c41 =>
hst H17 p6 [.int .i64 n37,.int .i64 n38,.slice q39 l40 c41] fun H42 =>
ldI .i64 H42 (pad p6 0) fun n43 =>
ldI .i64 H42 (pad p6 1) fun n44 =>
ldL H42 (pad p6 2) fun q45 l46 c47 =>
K n43 n44 q45 l46 c47 15 H42)
 else (f1 p2 65535 H17 fun n48 n49 H50 =>
bif (n49 != 0) then (ldI .i64 H50 (pad p12 0) fun n51 =>
ldI .i64 H50 (pad p12 1) fun n52 =>
ldL H50 (pad p12 2) fun q53 l54 c55 =>
hst H50 p6 [.int .i64 n51,.int .i64 n52,.slice q53 l54 c55] fun H56 =>
ldI .i64 H56 (pad p6 0) fun n57 =>
ldI .i64 H56 (pad p6 1) fun n58 =>
ldL H56 (pad p6 2) fun q59 l60 c61 =>
K n57 n58 q59 l60 c61 n49 H56)
 else (ldP H50 p4 fun p62 =>
hnil p62 fun p63 =>
hfad 7 p63 fun p64 =>
ldI .i64 H50 p64 fun n65 =>
bif decide ((IntKind.wrap .i64 (n65 + n48)) > 16) then (ldI .i64 H50 (pad p12 0) fun n66 =>
ldI .i64 H50 (pad p12 1) fun n67 =>
ldL H50 (pad p12 2) fun q68 l69 c70 =>
hst H50 p6 [.int .i64 n66,.int .i64 n67,.slice q68 l69 c70] fun H71 =>
ldI .i64 H71 (pad p6 0) fun n72 =>
ldI .i64 H71 (pad p6 1) fun n73 =>
ldL H71 (pad p6 2) fun q74 l75 c76 =>
K n72 n73 q74 l75 c76 15 H71)
 else (hfad 1 p12 fun p77 =>
hst1 H50 p77 (.int .i64 n15) fun H78 =>
ldP H78 p4 fun p79 =>
hnil p79 fun p80 =>
hfad 5 p80 fun p81 =>
ldI .i64 H78 p81 fun n82 =>
hnil p1 fun p83 =>
hfad 3 p83 fun p84 =>
ldB H78 (pad p84 0) fun t85 =>
ldB H78 (pad p84 1) fun t86 =>
ldB H78 (pad p84 2) fun t87 =>
ldB H78 (pad p84 3) fun t88 =>
ldB H78 (pad p84 4) fun t89 =>
f2 n82 n15 t85 t86 t87 t88 t89 H78 fun q90 l91 c92 H93 =>
z0 (fun p104 p105 p106 n107 n108 q109 l110 c111 H112 =>
z1 p104 p105 p106 n107 n108 q109 l110 c111 H112 (fun p119 p120 p121 n122 n123 t124 =>
bif t124 then (ldI .i64 H112 (pad p121 0) fun n125 =>
ldI .i64 H112 (pad p121 1) fun n126 =>
ldL H112 (pad p121 2) fun q127 l128 c129 =>
hst H112 p120 [.int .i64 n125,.int .i64 n126,.slice q127 l128 c129] fun H130 =>
ldI .i64 H130 (pad p120 0) fun n131 =>
ldI .i64 H130 (pad p120 1) fun n132 =>
ldL H130 (pad p120 2) fun q133 l134 c135 =>
K n131 n132 q133 l134 c135 15 H130)
 else (ldP H112 p119 fun p136 =>
hnil p136 fun p137 =>
hfad 7 p137 fun p138 =>
ldI .i64 H112 p138 fun n139 =>
hnil p136 fun p140 =>
hfad 7 p140 fun p141 =>
hst1 H112 p141 (.int .i64 (IntKind.wrap .i64 (n139 + n123))) fun H142 =>
ldP H142 p119 fun p143 =>
hnil p143 fun p144 =>
hfad 5 p144 fun p145 =>
ldI .i64 H142 p145 fun n146 =>
hnil p143 fun p147 =>
hfad 5 p147 fun p148 =>
hst1 H142 p148 (.int .i64 (IntKind.wrap .i64 (n146 + n122))) fun H149 =>
ldI .i64 H149 (pad p121 0) fun n150 =>
ldI .i64 H149 (pad p121 1) fun n151 =>
ldL H149 (pad p121 2) fun q152 l153 c154 =>
hst H149 p120 [.int .i64 n150,.int .i64 n151,.slice q152 l153 c154] fun H155 =>
ldI .i64 H155 (pad p120 0) fun n156 =>
ldI .i64 H155 (pad p120 1) fun n157 =>
ldL H155 (pad p120 2) fun q158 l159 c160 =>
K n156 n157 q158 l159 c160 0 H155))) (fun p161 n162 H163 =>
ldI .i64 H163 (pad p161 0) fun n164 =>
ldI .i64 H163 (pad p161 1) fun n165 =>
ldL H163 (pad p161 2) fun q166 l167 c168 =>
K n164 n165 q166 l167 c168 n162 H163) k p2 p4 p6 p12 n15 n48 q90 l91 c92 p12 p4 q90 l91 c92 ((l91 : Nat) : Int) 0 H93))))
def pkthead_State_lengths (k : Nat) : pkthead_State_lengths_t R := pkthead_State_lengths_b (bitio_Reader_Gamma k) (bitio_Reader_Unary k) (pkthead_Parts k) (pkthead_State_lengths_l0 k) (pkthead_State_lengths_p1 k) k
def x74C : Tab R := tcons 89 (x89a f0) <| tcons 90 (x90a f1) <| tcons 63 (x63a f2) <| tcons 71 (x71a f3) <| tcons 92 (x92a f4) <| tcons 91 (x91a f5) <| tcons 68 (x68a f6) <| fun _ _ _ _ => none
def x74s1 : PS := ⟨(.reg [5,6,8,9,11,125] (ms [0,1,3,7,15,31,63,7,255,511,7,7,2055,8191,16383,32767,65535,131071,262143,524287,1048575,2097151])),[5,6,8,9,11,12],[.p,.p,.p,.n,.n,.l],⟨[5,6,8,9,11,125],[],[]⟩⟩
def x74c1 (g : pkthead_State_lengths_p1_u R) (H : Heap) (K : XK R) : Option R := g H (kN .normal [5,6,8,9,11,125] [.p,.p,.p,.n,.n,.b] K H)
def x74a1 (f : pkthead_State_lengths_p1_t R) : Nat → List Value → Heap → XK R → Option R := jp x74s1 x74c1 f
def x74s0 : PS := ⟨(.seq (.reg [1,5,6,8,9,11,12,13,76,77,78,79] []) (.seq (.cond .leaf .leaf) (.seq (.node (.seq (.reg [1,5,6,8,9,11,12,13,15,76,77,78] []) (.seq (.reg [1,5,6,8,9,11,12,13,16,17,76,77,78] (ms [0,0,2,6,14,0,62,0,128,510,1023,2047,4095,4095,8191,32767])) (.seq (.seq (.reg [1,5,6,8,9,11,12,13,16,17,76,77,78,97] []) (.cond (.seq (.reg [6,7] []) .leaf) .leaf)) (.reg [1,5,6,8,9,11,12,13,76,77,78] []))))) (.reg [1,5,6,8,9,11,12,13,76,77,78] [])))),[1,5,6,8,9,11,12,13,76,77,78],[.p,.p,.p,.p,.n,.n,.l,(.f 91 2),.p,.p,.l,.n,.n],⟨[],[(0,[5,6,8,9,11,12])],[6,7]⟩⟩
def x74c0 {T : Type} (g : pkthead_State_lengths_l0_q R T) (H : Heap) (K : XK R) : T := g (kH (.exit 0) [5,6,8,9,11,12] [.p,.p,.p,.n,.n,.l] K) (kH .ret [6,7] [.p,.n] K)
def x74a0 (f : pkthead_State_lengths_l0_t R) : Nat → List Value → Heap → XK R → Option R := jl x74s0 (L := pkthead_State_lengths_l0_t R) x74c0 pH f
def x74J (k : Nat) : JTab R := tcons 0 (x74a0 z0 k) <| tcons 1 (x74a1 z1 k) <| fun _ _ _ _ => none
def x74t : AT := (.seq (.reg [0,1,5,6] []) (.seq (.reg [0,1,5,6,8] []) (.seq (.reg [0,1,5,6,8,9,10] []) (.seq (.seq (.reg [0,1,5,6,8,9,10,29] []) (.cond (.seq (.reg [6,7] []) .leaf) .leaf)) (.seq (.seq (.reg [0,1,5,6,8,9,44] (ms [0,0,2,6,14,30,62,0,128,384,896,2046,4095])) (.cond (.seq (.reg [6,7] []) .leaf) .leaf)) (.seq (.reg [0,1,5,6,8,9,10,11] []) (.seq (.seq (.reg [0,1,5,6,8,9,10,11,52] []) (.cond (.seq (.reg [6,7] []) .leaf) .leaf)) (.seq (.seq (.reg [0,1,5,6,8,9,11,61] []) (.cond (.seq (.reg [6,7] []) .leaf) .leaf)) (.seq (.reg [0,1,5,6,8,9,11] []) (.seq (.reg [1,5,6,8,9,11,12] (ms [0,1,3,7,0,0,32,96,224,511,1023])) (.seq (.reg [1,5,6,8,9,11,12,13] []) (.seq (.seq (.reg [1,5,6,8,9,11,12,13,76,77,78] []) (.node (.opq 0 x74s0.ls x74s0.out (.node x74s0.t)))) (.seq (.seq (.opq 1 x74s1.ls x74s1.out x74s1.t) (.cond (.seq (.reg [6,7] []) .leaf) .leaf)) (.seq (.reg [5,6,8,9] []) (.seq (.reg [6,8] []) (.seq (.reg [6,7] []) .leaf))))))))))))))))
def x74c (g : pkthead_State_lengths_u R) (H : Heap) (K : Value → Heap → Option R) : Option R := g H (rH [(.a 3),.n,.n,.l,.n] K)
def x74a (f : pkthead_State_lengths_t R) : List Value → Heap → (Value → Heap → Option R) → Option R := jf 3 [.p,.p,.p] x74c f
variable {f0 f1 f2 f3 f4 f5 f6 z0 z1}
theorem x74e1 (k : Nat) (H : Heap) (K : XK R) : jE Try.prog An 144 (x74C f0 f1 f2 f3 f4 f5 f6) (x74J z0 z1 k) x74s1 (sel [1,1,1,1,1,1,1,1,1,1,1,1,0,0] (bd Try.f74)) H K = mapT (fun g => x74c1 g H K) x74s1.ts (pkthead_State_lengths_p1_b f6 k) := by kernel_rfl
theorem x74e0 (k n : Nat) (H : Heap) (K : XK R) : lE Try.prog An 144 (x74C f0 f1 f2 f3 f4 f5 f6) (x74J z0 z1 k) x74s0 (sel [1,1,1,1,1,1,1,1,1,1,1,0,1,0,0] (bd Try.f74)) (x74a0 z0) n H K = mapT (fun g => pH g H) x74s0.ts (x74c0 (pkthead_State_lengths_l0_b f3 f4 f5 k) H K (x74c0 z0 H K n)) := by kernel_rfl
theorem x74e (k : Nat) (H : Heap) (K : Value → Heap → Option R) : fE Try.prog An (x74C f0 f1 f2 f3 f4 f5 f6) (x74J z0 z1 k) x74t Try.f74 [.p,.p,.p] H K = mapT (fun g => x74c g H K) [.p,.p,.p] (pkthead_State_lengths_b f0 f1 f2 z0 z1 k) := by kernel_rfl
theorem x74S (R : Type) (k : Nat) : CSound Try.prog (x74C (R := R) (bitio_Reader_Gamma k) (bitio_Reader_Unary k) (pkthead_Parts k) (pkthead_width k) (bitio_Reader_Bits k) pkthead_State_lengths_1 (pkthead_suffices k)) := csound_cons (x89cs R k) <| csound_cons (x90cs R k) <| csound_cons (x63cs R k) <| csound_cons (x71cs R k) <| csound_cons (x92cs R k) <| csound_cons (x91cs R k) <| csound_cons (x68cs R k) <| csound_nil
theorem x74j1 (R : Type) (k : Nat) : JS Try.prog 144 (x74a1 (pkthead_State_lengths_p1 (R := R) k) k) x74s1.ls x74s1.out (sel [1,1,1,1,1,1,1,1,1,1,1,1,0,0] (bd Try.f74)) := pj (x74S R k) (x74J (pkthead_State_lengths_l0 k) (pkthead_State_lengths_p1 k) k) (by kernel_rfl) (A := True) trivial (by kernel_rfl) (fun _ _ => .trans (x74e1 _ _ _) (by kernel_rfl))
theorem x74j0 (R : Type) (k : Nat) : JS Try.prog 144 (x74a0 (pkthead_State_lengths_l0 (R := R) k) k) x74s0.ls x74s0.out (.loop (sel [1,1,1,1,1,1,1,1,1,1,1,0,1,0,0] (bd Try.f74))) := lj (x74S R k) (x74J (pkthead_State_lengths_l0 k) (pkthead_State_lengths_p1 k) k) (by kernel_rfl) (A := True) trivial (by kernel_rfl) (fun _ _ => by kernel_rfl) (fun _ _ _ => .trans (x74e0 _ _ _ _) (by kernel_rfl)) k
theorem x74cs (R : Type) (k : Nat) : ∀ args H K r,x74a (pkthead_State_lengths k) args H K = some (r : R) → ∃ v H',Tri Try.prog 74 args H v H' ∧ K v H' = some r := fj (x74S R k) (x74J (pkthead_State_lengths_l0 k) (pkthead_State_lengths_p1 k) k) Try.func74 (by kernel_rfl) (A := JS Try.prog 144 (x74a0 (pkthead_State_lengths_l0 (R := R) k) k) x74s0.ls x74s0.out (.loop (sel [1,1,1,1,1,1,1,1,1,1,1,0,1,0,0] (bd Try.f74))) ∧ JS Try.prog 144 (x74a1 (pkthead_State_lengths_p1 (R := R) k) k) x74s1.ls x74s1.out (sel [1,1,1,1,1,1,1,1,1,1,1,1,0,0] (bd Try.f74)) ∧ True) ⟨x74j0 R k,⟨x74j1 R k,trivial⟩⟩ (by kernel_rfl) (fun _ _ => .trans (x74e _ _ _) (by kernel_rfl))
end
/-! ### bitio_Reader_Align: function 75 -/
abbrev bitio_Reader_Align_p1_u (R : Type) : Type := Heap → (Oa → Bool → Option R) → Option R
abbrev bitio_Reader_Align_p1_t (R : Type) : Type := Oa → Int → bitio_Reader_Align_p1_u R
abbrev bitio_Reader_Align_p0_u (R : Type) : Type := Heap → (Oa → Heap → Option R) → (Int → Int → Heap → Option R) → Option R
abbrev bitio_Reader_Align_p0_t (R : Type) : Type := Oa → Int → bitio_Reader_Align_p0_u R
abbrev bitio_Reader_Align_u (R : Type) : Type := Heap → (Int → Int → Heap → Option R) → Option R
abbrev bitio_Reader_Align_t (R : Type) : Type := Oa → bitio_Reader_Align_u R
section
variable {R : Type} (f0 : bitio_Reader_ok_t R) (z0 : bitio_Reader_Align_p0_t R) (z1 : bitio_Reader_Align_p1_t R)
def bitio_Reader_Align_p1_b (k : Nat) : bitio_Reader_Align_p1_t R := fun p1 n2 H KN =>
hnil p1 fun p3 =>
hfad 3 p3 fun p4 =>
ldI .i64 H p4 fun n5 =>
bif (n5 == 0) then (KN p1 (n2 == 255))
 else (KN p1 false)
def bitio_Reader_Align_p1 (k : Nat) : bitio_Reader_Align_p1_t R := bitio_Reader_Align_p1_b k
def bitio_Reader_Align_p0_b (k : Nat) : bitio_Reader_Align_p0_t R := fun p1 n2 H KN KR =>
z1 p1 n2 H (fun p5 t6 =>
bif t6 then (hnil p5 fun p7 =>
hfad 2 p7 fun p8 =>
ldI .i64 H p8 fun n9 =>
hnil p5 fun p10 =>
hfad 1 p10 fun p11 =>
ldL H p11 fun q12 l13 c14 =>
bif (n9 == ((l13 : Nat) : Int)) then (KR 0 7 H)
 else (hnil p5 fun p15 =>
hfad 1 p15 fun p16 =>
ldL H p16 fun q17 l18 c19 =>
hnil p5 fun p20 =>
hfad 2 p20 fun p21 =>
ldI .i64 H p21 fun n22 =>
hidx q17 l18 n22 1 fun p23 =>
ldI .u8 H p23 fun n24 =>
bif (n24 != 0) then (KR 0 8 H)
 else (hnil p5 fun p25 =>
hfad 2 p25 fun p26 =>
ldI .i64 H p26 fun n27 =>
hnil p5 fun p28 =>
hfad 2 p28 fun p29 =>
hst1 H p29 (.int .i64 (IntKind.wrap .i64 (n27 + 1))) fun H30 =>
KN p5 H30)))
 else (KN p5 H))
def bitio_Reader_Align_p0 (k : Nat) : bitio_Reader_Align_p0_t R := bitio_Reader_Align_p0_b (bitio_Reader_Align_p1 k) k
def bitio_Reader_Align_b (k : Nat) : bitio_Reader_Align_t R := fun p1 H K =>
f0 p1 H fun t2 =>
bif (!t2) then (K 0 6 H)
 else (hnil p1 fun p3 =>
hfad 2 p3 fun p4 =>
ldI .i64 H p4 fun n5 =>
bif (n5 == 0) then (K 0 0 H)
 else (hnil p1 fun p6 =>
hfad 1 p6 fun p7 =>
ldL H p7 fun q8 l9 c10 =>
hnil p1 fun p11 =>
hfad 2 p11 fun p12 =>
ldI .i64 H p12 fun n13 =>
hidx q8 l9 (IntKind.wrap .i64 (n13 - 1)) 1 fun p14 =>
ldI .u8 H p14 fun n15 =>
hnil p1 fun p16 =>
hfad 3 p16 fun p17 =>
ldI .i64 H p17 fun n18 =>
hbin .shl .u8 1 (IntKind.wrap .u64 n18) fun n19 =>
hbin .and .u8 n15 (IntKind.wrap .u8 (n19 - 1)) fun n20 =>
bif (n20 != 0) then (K 0 8 H)
 else (z0 p1 n15 H (fun p24 H25 =>
hnil p24 fun p26 =>
hfad 3 p26 fun p27 =>
hst1 H25 p27 (.int .i64 0) fun H28 =>
hnil p24 fun p29 =>
hfad 2 p29 fun p30 =>
ldI .i64 H28 p30 fun n31 =>
K n31 0 H28) (fun n32 n33 H34 =>
K n32 n33 H34))))
def bitio_Reader_Align (k : Nat) : bitio_Reader_Align_t R := bitio_Reader_Align_b bitio_Reader_ok (bitio_Reader_Align_p0 k) k
def x75C : Tab R := tcons 85 (x85a f0) <| fun _ _ _ _ => none
def x75s1 : PS := ⟨(.reg [0,42] []),[0,4],[.p,(.i .u8)],⟨[0,42],[],[]⟩⟩
def x75c1 (g : bitio_Reader_Align_p1_u R) (H : Heap) (K : XK R) : Option R := g H (kN .normal [0,42] [.p,.b] K H)
def x75a1 (f : bitio_Reader_Align_p1_t R) : Nat → List Value → Heap → XK R → Option R := jp x75s1 x75c1 f
def x75s0 : PS := ⟨(.seq (.opq 1 x75s1.ls x75s1.out x75s1.t) (.cond (.seq (.seq (.reg [0,52] (ms [0,1,3,7,0,16,48,112,240,511])) (.cond (.seq (.reg [2,3] []) .leaf) .leaf)) (.seq (.seq (.reg [0,63] (ms [0,1,3,7,0,16,48,112,255,511,1023])) (.cond (.seq (.reg [2,3] []) .leaf) .leaf)) (.reg [0] []))) .leaf)),[0,4],[.p,(.i .u8)],⟨[0],[],[2,3]⟩⟩
def x75c0 (g : bitio_Reader_Align_p0_u R) (H : Heap) (K : XK R) : Option R := g H (kH .normal [0] [.p] K) (kH .ret [2,3] [.n,.n] K)
def x75a0 (f : bitio_Reader_Align_p0_t R) : Nat → List Value → Heap → XK R → Option R := jp x75s0 x75c0 f
def x75J (k : Nat) : JTab R := tcons 0 (x75a0 z0 k) <| tcons 1 (x75a1 z1 k) <| fun _ _ _ _ => none
def x75t : AT := (.seq (.reg [0] []) (.seq (.seq (.reg [0,7] []) (.cond (.seq (.reg [2,3] []) .leaf) .leaf)) (.seq (.seq (.reg [0,12] []) (.cond (.seq (.reg [2,3] []) .leaf) .leaf)) (.seq (.reg [0,4] (ms [0,1,3,7,0,16,48,112,240,511,1023,2047])) (.seq (.seq (.reg [0,4,33] []) (.cond (.seq (.reg [2,3] []) .leaf) .leaf)) (.seq (.opq 0 x75s0.ls x75s0.out x75s0.t) (.seq (.reg [0] []) (.seq (.reg [2,3] []) .leaf))))))))
def x75c (g : bitio_Reader_Align_u R) (H : Heap) (K : Value → Heap → Option R) : Option R := g H (rH [.n,.n] K)
def x75a (f : bitio_Reader_Align_t R) : List Value → Heap → (Value → Heap → Option R) → Option R := jf 1 [.p] x75c f
variable {f0 z0 z1}
theorem x75e1 (k : Nat) (H : Heap) (K : XK R) : jE Try.prog An 78 (x75C f0) (x75J z0 z1 k) x75s1 (sel [1,1,1,1,1,0,0] (bd Try.f75)) H K = mapT (fun g => x75c1 g H K) x75s1.ts (bitio_Reader_Align_p1_b k) := by kernel_rfl
theorem x75e0 (k : Nat) (H : Heap) (K : XK R) : jE Try.prog An 78 (x75C f0) (x75J z0 z1 k) x75s0 (sel [1,1,1,1,1,0] (bd Try.f75)) H K = mapT (fun g => x75c0 g H K) x75s0.ts (bitio_Reader_Align_p0_b z1 k) := by kernel_rfl
theorem x75e (k : Nat) (H : Heap) (K : Value → Heap → Option R) : fE Try.prog An (x75C f0) (x75J z0 z1 k) x75t Try.f75 [.p] H K = mapT (fun g => x75c g H K) [.p] (bitio_Reader_Align_b f0 z0 k) := by kernel_rfl
theorem x75S (R : Type) (k : Nat) : CSound Try.prog (x75C (R := R) bitio_Reader_ok) := csound_cons (x85cs R k) <| csound_nil
theorem x75j1 (R : Type) (k : Nat) : JS Try.prog 78 (x75a1 (bitio_Reader_Align_p1 (R := R) k) k) x75s1.ls x75s1.out (sel [1,1,1,1,1,0,0] (bd Try.f75)) := pj (x75S R k) (x75J (bitio_Reader_Align_p0 k) (bitio_Reader_Align_p1 k) k) (by kernel_rfl) (A := True) trivial (by kernel_rfl) (fun _ _ => .trans (x75e1 _ _ _) (by kernel_rfl))
theorem x75j0 (R : Type) (k : Nat) : JS Try.prog 78 (x75a0 (bitio_Reader_Align_p0 (R := R) k) k) x75s0.ls x75s0.out (sel [1,1,1,1,1,0] (bd Try.f75)) := pj (x75S R k) (x75J (bitio_Reader_Align_p0 k) (bitio_Reader_Align_p1 k) k) (by kernel_rfl) (A := JS Try.prog 78 (x75a1 (bitio_Reader_Align_p1 (R := R) k) k) x75s1.ls x75s1.out (sel [1,1,1,1,1,0,0] (bd Try.f75)) ∧ True) ⟨x75j1 R k,trivial⟩ (by kernel_rfl) (fun _ _ => .trans (x75e0 _ _ _) (by kernel_rfl))
theorem x75cs (R : Type) (k : Nat) : ∀ args H K r,x75a (bitio_Reader_Align k) args H K = some (r : R) → ∃ v H',Tri Try.prog 75 args H v H' ∧ K v H' = some r := fj (x75S R k) (x75J (bitio_Reader_Align_p0 k) (bitio_Reader_Align_p1 k) k) Try.func75 (by kernel_rfl) (A := JS Try.prog 78 (x75a0 (bitio_Reader_Align_p0 (R := R) k) k) x75s0.ls x75s0.out (sel [1,1,1,1,1,0] (bd Try.f75)) ∧ True) ⟨x75j0 R k,trivial⟩ (by kernel_rfl) (fun _ _ => .trans (x75e _ _ _) (by kernel_rfl))
end
/-! ### pkthead_State_read: function 53 -/
abbrev pkthead_State_read_p1_u (R : Type) : Type := Heap → (Oa → Oa → Oa → Nat → Nat → Int → Bool → Int → Int → Heap → Option R) → (Oa → Nat → Nat → Int → Int → Heap → Option R) → Option R
abbrev pkthead_State_read_p1_t (R : Type) : Type := Oa → Oa → Oa → Nat → Nat → Int → Bool → Int → Int → pkthead_State_read_p1_u R
abbrev pkthead_State_read_l0_r (R : Type) : Type := Oa → Oa → Oa → Nat → Nat → Int → Bool → Int → Int → Heap → Option R
abbrev pkthead_State_read_l0_q (R T : Type) : Type := (Oa → Oa → Oa → Nat → Nat → Int → Bool → Heap → Option R) → (Oa → Nat → Nat → Int → Int → Heap → Option R) → T
abbrev pkthead_State_read_l0_t (R : Type) : Type := pkthead_State_read_l0_q R (Nat → pkthead_State_read_l0_r R)
abbrev pkthead_State_read_p2_u (R : Type) : Type := (Oa → Oa → Oa → Nat → Nat → Option R) → (Oa → Nat → Nat → Int → Int → Option R) → Option R
abbrev pkthead_State_read_p2_t (R : Type) : Type := Oa → Oa → Oa → Nat → Nat → Int → Bool → pkthead_State_read_p2_u R
abbrev pkthead_State_read_u (R : Type) : Type := Heap → (Oa → Nat → Nat → Int → Int → Heap → Option R) → Option R
abbrev pkthead_State_read_t (R : Type) : Type := Oa → Oa → pkthead_State_read_u R
section
variable {R : Type} (f0 : bitio_Reader_Get_t R) (f1 : pkthead_State_contributes_t R) (f2 : pkthead_State_lengths_t R) (f3 : bitio_Reader_Align_t R) (z0 : pkthead_State_read_l0_t R) (z1 : pkthead_State_read_p1_t R) (z2 : pkthead_State_read_p2_t R)
def pkthead_State_read_p1_b (k : Nat) : pkthead_State_read_p1_t R := fun p1 p2 q3 l4 c5 n6 t7 n8 n9 H KN KR =>
hnil p1 fun p10 =>
hfad 9 p10 fun p11 =>
ldL H p11 fun q12 l13 c14 =>
hidx q12 l13 n9 10 fun p15 =>
hnil p15 fun p16 =>
hfad 4 p16 fun p17 =>
ldI .i64 H p17 fun n18 =>
hidx q3 l4 n9 3 fun p19 =>
hfad 0 p19 fun p20 =>
hst1 H p20 (.int .i64 n18) fun H21 =>
bif (n6 == 0) then (KN p1 p2 q3 l4 c5 n6 t7 n8 n9 H21)
 else (f1 p1 p2 p15 H21 fun t22 n23 H24 =>
bif (n23 != 0) then (KR none 0 0 0 n23 H24)
 else (bif (!t22) then (KN p1 p2 q3 l4 c5 n6 t7 n8 n9 H24)
 else (f2 p1 p2 p15 H24 fun n25 n26 q27 l28 c29 n30 H31 =>
hidx q3 l4 n9 3 fun p32 =>
hst H31 p32 [.int .i64 n25,.int .i64 n26,.slice q27 l28 c29] fun H33 =>
bif (n30 != 0) then (KR none 0 0 0 n30 H33)
 else (KN p1 p2 q3 l4 c5 n6 true n8 n9 H33))))
def pkthead_State_read_p1 (k : Nat) : pkthead_State_read_p1_t R := pkthead_State_read_p1_b (pkthead_State_contributes k) (pkthead_State_lengths k) k
def pkthead_State_read_l0_b (k : Nat) : pkthead_State_read_l0_q R (pkthead_State_read_l0_r R → pkthead_State_read_l0_r R) := fun KE0 KR rec p1 p2 q3 l4 c5 n6 t7 n8 n9 H =>
bif decide (n9 < n8) then (z1 p1 p2 q3 l4 c5 n6 t7 n8 n9 H (fun p24 p25 q26 l27 c28 n29 t30 n31 n32 H33 =>
rec p24 p25 q26 l27 c28 n29 t30 n31 (IntKind.wrap .i64 (n32 + 1)) H33) (fun q34 l35 c36 n37 n38 H39 =>
KR q34 l35 c36 n37 n38 H39))
 else (KE0 p1 p2 q3 l4 c5 n6 t7 H)
def pkthead_State_read_l0 (k : Nat) : pkthead_State_read_l0_t R
  | KE0,KR,0 => fun _ _ _ _ _ _ _ _ _ _ => none
  | KE0,KR,n + 1 => pkthead_State_read_l0_b (pkthead_State_read_p1 k) k KE0 KR (pkthead_State_read_l0 k KE0 KR n)
def pkthead_State_read_p2_b (k : Nat) : pkthead_State_read_p2_t R := fun p1 p2 q3 l4 c5 n6 t7 KN KR =>
bif (n6 == 1) then (bif (!t7) then (KR none 0 0 0 15)
 else (KN p1 p2 q3 l4 c5))
 else (KN p1 p2 q3 l4 c5)
def pkthead_State_read_p2 (k : Nat) : pkthead_State_read_p2_t R := pkthead_State_read_p2_b k
def pkthead_State_read_b (k : Nat) : pkthead_State_read_t R := fun p1 p2 H K =>
hnil p1 fun p3 =>
hfad 9 p3 fun p4 =>
ldL H p4 fun q5 l6 c7 =>
hmk [.int .i64 0,.int .i64 0,.slice none 0 0] 40 H ((l6 : Nat) : Int) ((l6 : Nat) : Int) fun q8 l9 c10 H11 =>
f0 p2 H11 fun n12 n13 H14 =>
bif (n13 != 0) then (K none 0 0 0 n13 H14)
 else (hnil p1 fun p15 =>
hfad 9 p15 fun p16 =>
ldL H14 p16 fun q17 l18 c19 =>
z0 (fun p32 p33 q34 l35 c36 n37 t38 H39 =>
z2 p32 p33 q34 l35 c36 n37 t38 (fun p50 p51 q52 l53 c54 =>
f3 p51 H39 fun n55 n56 H57 =>
bif (n56 != 0) then (K none 0 0 0 n56 H57)
 else (hnil p50 fun p58 =>
hfad 10 p58 fun p59 =>
ldI .i64 H57 p59 fun n60 =>
hnil p50 fun p61 =>
hfad 10 p61 fun p62 =>
hst1 H57 p62 (.int .i64 (IntKind.wrap .i64 (n60 + 1))) fun H63 =>
hnil p50 fun p64 =>
hfad 2 p64 fun p65 =>
hst1 H63 p65 (.bool true) fun H66 =>
K q52 l53 c54 n55 0 H66)) (fun q67 l68 c69 n70 n71 =>
K q67 l68 c69 n70 n71 H39)) (fun q72 l73 c74 n75 n76 H77 =>
K q72 l73 c74 n75 n76 H77) k p1 p2 q8 l9 c10 n12 false ((l18 : Nat) : Int) 0 H14)
def pkthead_State_read (k : Nat) : pkthead_State_read_t R := pkthead_State_read_b (bitio_Reader_Get k) (bitio_Reader_Align k) (pkthead_State_read_l0 k) (pkthead_State_read_p2 k) k
def x53C : Tab R := tcons 72 (x72a f0) <| tcons 73 (x73a f1) <| tcons 74 (x74a f2) <| tcons 75 (x75a f3) <| fun _ _ _ _ => none
def x53s2 : PS := ⟨(.seq (.reg [0,1,7,85] []) (.cond (.seq (.reg [4,5,6] []) .leaf) .leaf)),[0,1,7,8,10],[.p,.p,.l,.n,.b],⟨[0,1,7],[],[4,5,6]⟩⟩
def x53c2 (g : pkthead_State_read_p2_u R) (H : Heap) (K : XK R) : Option R := g (kN .normal [0,1,7] [.p,.p,.l] K H) (kN .ret [4,5,6] [.l,.n,.n] K H)
def x53a2 (f : pkthead_State_read_p2_t R) : Nat → List Value → Heap → XK R → Option R := jp x53s2 x53c2 f
def x53s1 : PS := ⟨(.node (.seq (.reg [0,1,7,8,10,11,34,35] []) (.seq (.reg [0,1,7,8,10,11,12,34,35] []) (.seq (.reg [0,1,7,8,10,11,12,34,35] []) (.seq (.seq (.reg [0,1,7,8,10,11,12,34,35,53] []) (.cond .leaf .leaf)) (.seq (.reg [0,1,7,8,10,11,12,13,14,34,35] []) (.seq (.seq (.reg [0,1,7,8,10,11,12,13,14,34,35,62] []) (.cond (.seq (.reg [4,5,6] []) .leaf) .leaf)) (.seq (.seq (.reg [0,1,7,8,10,11,12,34,35,65] []) (.cond .leaf .leaf)) (.seq (.reg [0,1,7,8,10,11,12,34,35] []) (.seq (.reg [0,1,7,8,10,14,34,35] []) (.seq (.reg [0,1,7,8,10,14,34,35,77] []) (.cond (.seq (.reg [4,5,6] []) .leaf) .leaf)))))))))))),[0,1,7,8,10,34,35],[.p,.p,.l,.n,.b,.n,.n],⟨[0,1,7,8,10,34,35],[],[4,5,6]⟩⟩
def x53c1 (g : pkthead_State_read_p1_u R) (H : Heap) (K : XK R) : Option R := g H (kH .normal [0,1,7,8,10,34,35] [.p,.p,.l,.n,.b,.n,.n] K) (kH .ret [4,5,6] [.l,.n,.n] K)
def x53a1 (f : pkthead_State_read_p1_t R) : Nat → List Value → Heap → XK R → Option R := jp x53s1 x53c1 f
def x53s0 : PS := ⟨(.seq (.reg [0,1,7,8,10,34,35,36] []) (.seq (.cond .leaf .leaf) (.seq (.opq 1 x53s1.ls x53s1.out x53s1.t) (.reg [0,1,7,8,10,34,35] [])))),[0,1,7,8,10,34,35],[.p,.p,.l,.n,.b,.n,.n],⟨[],[(0,[0,1,7,8,10])],[4,5,6]⟩⟩
def x53c0 {T : Type} (g : pkthead_State_read_l0_q R T) (H : Heap) (K : XK R) : T := g (kH (.exit 0) [0,1,7,8,10] [.p,.p,.l,.n,.b] K) (kH .ret [4,5,6] [.l,.n,.n] K)
def x53a0 (f : pkthead_State_read_l0_t R) : Nat → List Value → Heap → XK R → Option R := jl x53s0 (L := pkthead_State_read_l0_t R) x53c0 pH f
def x53J (k : Nat) : JTab R := tcons 0 (x53a0 z0 k) <| tcons 1 (x53a1 z1 k) <| tcons 2 (x53a2 z2 k) <| fun _ _ _ _ => none
def x53t : AT := (.seq (.reg [0,1] []) (.seq (.reg [0,1,7] []) (.seq (.reg [0,1,7,8,9] []) (.seq (.seq (.reg [0,1,7,8,9,28] []) (.cond (.seq (.reg [4,5,6] []) .leaf) .leaf)) (.seq (.reg [0,1,7,8,10] []) (.seq (.seq (.reg [0,1,7,8,10,34,35] []) (.node (.opq 0 x53s0.ls x53s0.out (.node x53s0.t)))) (.seq (.opq 2 x53s2.ls x53s2.out x53s2.t) (.seq (.reg [0,7,9,15] []) (.seq (.seq (.reg [0,7,9,15,92] []) (.cond (.seq (.reg [4,5,6] []) .leaf) .leaf)) (.seq (.reg [0,7,15] []) (.seq (.reg [7,15] []) (.seq (.reg [4,5,6] []) .leaf))))))))))))
def x53c (g : pkthead_State_read_u R) (H : Heap) (K : Value → Heap → Option R) : Option R := g H (rH [.l,.n,.n] K)
def x53a (f : pkthead_State_read_t R) : List Value → Heap → (Value → Heap → Option R) → Option R := jf 2 [.p,.p] x53c f
variable {f0 f1 f2 f3 z0 z1 z2}
theorem x53e2 (k : Nat) (H : Heap) (K : XK R) : jE Try.prog An 106 (x53C f0 f1 f2 f3) (x53J z0 z1 z2 k) x53s2 (sel [1,1,1,1,1,1,0] (bd Try.f53)) H K = mapT (fun g => x53c2 g H K) x53s2.ts (pkthead_State_read_p2_b k) := by kernel_rfl
theorem x53e1 (k : Nat) (H : Heap) (K : XK R) : jE Try.prog An 106 (x53C f0 f1 f2 f3) (x53J z0 z1 z2 k) x53s1 (sel [1,1,1,1,1,0,1,0,0,1,1,0] (bd Try.f53)) H K = mapT (fun g => x53c1 g H K) x53s1.ts (pkthead_State_read_p1_b f1 f2 k) := by kernel_rfl
theorem x53e0 (k n : Nat) (H : Heap) (K : XK R) : lE Try.prog An 106 (x53C f0 f1 f2 f3) (x53J z0 z1 z2 k) x53s0 (sel [1,1,1,1,1,0,1,0,0] (bd Try.f53)) (x53a0 z0) n H K = mapT (fun g => pH g H) x53s0.ts (x53c0 (pkthead_State_read_l0_b z1 k) H K (x53c0 z0 H K n)) := by kernel_rfl
theorem x53e (k : Nat) (H : Heap) (K : Value → Heap → Option R) : fE Try.prog An (x53C f0 f1 f2 f3) (x53J z0 z1 z2 k) x53t Try.f53 [.p,.p] H K = mapT (fun g => x53c g H K) [.p,.p] (pkthead_State_read_b f0 f3 z0 z2 k) := by kernel_rfl
theorem x53S (R : Type) (k : Nat) : CSound Try.prog (x53C (R := R) (bitio_Reader_Get k) (pkthead_State_contributes k) (pkthead_State_lengths k) (bitio_Reader_Align k)) := csound_cons (x72cs R k) <| csound_cons (x73cs R k) <| csound_cons (x74cs R k) <| csound_cons (x75cs R k) <| csound_nil
theorem x53j2 (R : Type) (k : Nat) : JS Try.prog 106 (x53a2 (pkthead_State_read_p2 (R := R) k) k) x53s2.ls x53s2.out (sel [1,1,1,1,1,1,0] (bd Try.f53)) := pj (x53S R k) (x53J (pkthead_State_read_l0 k) (pkthead_State_read_p1 k) (pkthead_State_read_p2 k) k) (by kernel_rfl) (A := True) trivial (by kernel_rfl) (fun _ _ => .trans (x53e2 _ _ _) (by kernel_rfl))
theorem x53j1 (R : Type) (k : Nat) : JS Try.prog 106 (x53a1 (pkthead_State_read_p1 (R := R) k) k) x53s1.ls x53s1.out (sel [1,1,1,1,1,0,1,0,0,1,1,0] (bd Try.f53)) := pj (x53S R k) (x53J (pkthead_State_read_l0 k) (pkthead_State_read_p1 k) (pkthead_State_read_p2 k) k) (by kernel_rfl) (A := True) trivial (by kernel_rfl) (fun _ _ => .trans (x53e1 _ _ _) (by kernel_rfl))
theorem x53j0 (R : Type) (k : Nat) : JS Try.prog 106 (x53a0 (pkthead_State_read_l0 (R := R) k) k) x53s0.ls x53s0.out (.loop (sel [1,1,1,1,1,0,1,0,0] (bd Try.f53))) := lj (x53S R k) (x53J (pkthead_State_read_l0 k) (pkthead_State_read_p1 k) (pkthead_State_read_p2 k) k) (by kernel_rfl) (A := JS Try.prog 106 (x53a1 (pkthead_State_read_p1 (R := R) k) k) x53s1.ls x53s1.out (sel [1,1,1,1,1,0,1,0,0,1,1,0] (bd Try.f53)) ∧ True) ⟨x53j1 R k,trivial⟩ (by kernel_rfl) (fun _ _ => by kernel_rfl) (fun _ _ _ => .trans (x53e0 _ _ _ _) (by kernel_rfl)) k
theorem x53cs (R : Type) (k : Nat) : ∀ args H K r,x53a (pkthead_State_read k) args H K = some (r : R) → ∃ v H',Tri Try.prog 53 args H v H' ∧ K v H' = some r := fj (x53S R k) (x53J (pkthead_State_read_l0 k) (pkthead_State_read_p1 k) (pkthead_State_read_p2 k) k) Try.func53 (by kernel_rfl) (A := JS Try.prog 106 (x53a0 (pkthead_State_read_l0 (R := R) k) k) x53s0.ls x53s0.out (.loop (sel [1,1,1,1,1,0,1,0,0] (bd Try.f53))) ∧ JS Try.prog 106 (x53a2 (pkthead_State_read_p2 (R := R) k) k) x53s2.ls x53s2.out (sel [1,1,1,1,1,1,0] (bd Try.f53)) ∧ True) ⟨x53j0 R k,⟨x53j2 R k,trivial⟩⟩ (by kernel_rfl) (fun _ _ => .trans (x53e _ _ _) (by kernel_rfl))
end
/-! ### pkthead_State_Decode: function 39 -/
abbrev pkthead_State_Decode_p0_u (R : Type) : Type := Heap → (Oa → Oa → Nat → Nat → Option R) → (Oa → Nat → Nat → Int → Int → Option R) → Option R
abbrev pkthead_State_Decode_p0_t (R : Type) : Type := Oa → Oa → Nat → Nat → pkthead_State_Decode_p0_u R
abbrev pkthead_State_Decode_u (R : Type) : Type := Heap → (Oa → Nat → Nat → Int → Int → Heap → Option R) → Option R
abbrev pkthead_State_Decode_t (R : Type) : Type := Oa → Oa → Nat → Nat → pkthead_State_Decode_u R
section
variable {R : Type} (f0 : pkthead_State_Clone_t R) (f1 : bitio_NewReader_t R) (f2 : pkthead_State_read_t R) (z0 : pkthead_State_Decode_p0_t R)
def pkthead_State_Decode_p0_b (k : Nat) : pkthead_State_Decode_p0_t R := fun p1 q2 l3 c4 H KN KR =>
bif p1.isNone then (KR none 0 0 0 6)
 else (hnil p1 fun p5 =>
hfad 0 p5 fun p6 =>
ldB H p6 fun t7 =>
bif (!t7) then (KR none 0 0 0 6)
 else (hnil p1 fun p8 =>
hfad 1 p8 fun p9 =>
ldB H p9 fun t10 =>
bif t10 then (KR none 0 0 0 6)
 else (hnil p1 fun p11 =>
hfad 10 p11 fun p12 =>
ldI .i64 H p12 fun n13 =>
bif decide (n13 ≥ 16) then (KR none 0 0 0 6)
 else (KN p1 q2 l3 c4))))
def pkthead_State_Decode_p0 (k : Nat) : pkthead_State_Decode_p0_t R := pkthead_State_Decode_p0_b k
def pkthead_State_Decode_b (k : Nat) : pkthead_State_Decode_t R := fun p1 q2 l3 c4 H K =>
z0 p1 q2 l3 c4 H (fun p14 q15 l16 c17 =>
f0 p14 H fun p18 H19 =>
f1 q15 l16 c17 H19 fun p20 H21 =>
f2 p18 p20 H21 fun q22 l23 c24 n25 n26 H27 =>
bif (n26 != 0) then (K none 0 0 0 n26 H27)
 else (hnil p18 fun p28 =>
ldB H27 (pad p28 0) fun t29 =>
ldB H27 (pad p28 1) fun t30 =>
ldB H27 (pad p28 2) fun t31 =>
ldB H27 (pad p28 3) fun t32 =>
ldB H27 (pad p28 4) fun t33 =>
ldB H27 (pad p28 5) fun t34 =>
ldB H27 (pad p28 6) fun t35 =>
ldB H27 (pad p28 7) fun t36 =>
ldL H27 (pad p28 8) fun q37 l38 c39 =>
ldL H27 (pad p28 9) fun q40 l41 c42 =>
ldI .i64 H27 (pad p28 10) fun n43 =>
hnil p14 fun p44 =>
hst H27 p44 [.bool t29,.bool t30,.bool t31,.bool t32,.bool t33,.bool t34,.bool t35,.bool t36,.slice q37 l38 c39,.slice q40 l41 c42,.int .i64 n43] fun H45 =>
K q22 l23 c24 n25 0 H45)) (fun q46 l47 c48 n49 n50 =>
K q46 l47 c48 n49 n50 H)
def pkthead_State_Decode (k : Nat) : pkthead_State_Decode_t R := pkthead_State_Decode_b (pkthead_State_Clone k) bitio_NewReader (pkthead_State_read k) (pkthead_State_Decode_p0 k) k
def x39C : Tab R := tcons 37 (x37a f0) <| tcons 54 (x54a f1) <| tcons 53 (x53a f2) <| fun _ _ _ _ => none
def x39s0 : PS := ⟨(.seq (.reg [0,1,29] []) (.cond (.seq (.reg [4,5,6] []) .leaf) .leaf)),[0,1],[.p,.l],⟨[0,1],[],[4,5,6]⟩⟩
def x39c0 (g : pkthead_State_Decode_p0_u R) (H : Heap) (K : XK R) : Option R := g H (kN .normal [0,1] [.p,.l] K H) (kN .ret [4,5,6] [.l,.n,.n] K H)
def x39a0 (f : pkthead_State_Decode_p0_t R) : Nat → List Value → Heap → XK R → Option R := jp x39s0 x39c0 f
def x39J (k : Nat) : JTab R := tcons 0 (x39a0 z0 k) <| fun _ _ _ _ => none
def x39t : AT := (.seq (.reg [0,1] []) (.seq (.opq 0 x39s0.ls x39s0.out x39s0.t) (.seq (.reg [0,1,7] []) (.seq (.reg [0,4,5,6,7] []) (.seq (.seq (.reg [0,4,5,6,7,41] []) (.cond (.seq (.reg [4,5,6] []) .leaf) .leaf)) (.seq (.reg [4,5] []) (.seq (.reg [4,5,6] []) .leaf)))))))
def x39c (g : pkthead_State_Decode_u R) (H : Heap) (K : Value → Heap → Option R) : Option R := g H (rH [.l,.n,.n] K)
def x39a (f : pkthead_State_Decode_t R) : List Value → Heap → (Value → Heap → Option R) → Option R := jf 2 [.p,.l] x39c f
variable {f0 f1 f2 z0}
theorem x39e0 (k : Nat) (H : Heap) (K : XK R) : jE Try.prog An 50 (x39C f0 f1 f2) (x39J z0 k) x39s0 (sel [1,0] (bd Try.f39)) H K = mapT (fun g => x39c0 g H K) x39s0.ts (pkthead_State_Decode_p0_b k) := by kernel_rfl
theorem x39e (k : Nat) (H : Heap) (K : Value → Heap → Option R) : fE Try.prog An (x39C f0 f1 f2) (x39J z0 k) x39t Try.f39 [.p,.l] H K = mapT (fun g => x39c g H K) [.p,.l] (pkthead_State_Decode_b f0 f1 f2 z0 k) := by kernel_rfl
theorem x39S (R : Type) (k : Nat) : CSound Try.prog (x39C (R := R) (pkthead_State_Clone k) bitio_NewReader (pkthead_State_read k)) := csound_cons (x37cs R k) <| csound_cons (x54cs R k) <| csound_cons (x53cs R k) <| csound_nil
theorem x39j0 (R : Type) (k : Nat) : JS Try.prog 50 (x39a0 (pkthead_State_Decode_p0 (R := R) k) k) x39s0.ls x39s0.out (sel [1,0] (bd Try.f39)) := pj (x39S R k) (x39J (pkthead_State_Decode_p0 k) k) (by kernel_rfl) (A := True) trivial (by kernel_rfl) (fun _ _ => .trans (x39e0 _ _ _) (by kernel_rfl))
theorem x39cs (R : Type) (k : Nat) : ∀ args H K r,x39a (pkthead_State_Decode k) args H K = some (r : R) → ∃ v H',Tri Try.prog 39 args H v H' ∧ K v H' = some r := fj (x39S R k) (x39J (pkthead_State_Decode_p0 k) k) Try.func39 (by kernel_rfl) (A := JS Try.prog 50 (x39a0 (pkthead_State_Decode_p0 (R := R) k) k) x39s0.ls x39s0.out (sel [1,0] (bd Try.f39)) ∧ True) ⟨x39j0 R k,trivial⟩ (by kernel_rfl) (fun _ _ => .trans (x39e _ _ _) (by kernel_rfl))
end
/-! ### packet_Read: function 20 -/
abbrev packet_Read_p0_u (R : Type) : Type := Heap → (Oa → Nat → Nat → Oa → Bool → Oa → Oa → Oa → Nat → Nat → Oa → Int → Int → Heap → Option R) → (Oa → Oa → Nat → Nat → Int → Int → Heap → Option R) → Option R
abbrev packet_Read_p0_t (R : Type) : Type := Oa → Nat → Nat → Oa → Bool → Bool → Oa → Oa → Oa → Nat → Nat → Oa → Int → Int → packet_Read_p0_u R
abbrev packet_Read_l2_r (R : Type) : Type := Oa → Nat → Nat → Oa → Bool → Oa → Oa → Oa → Nat → Nat → Oa → Int → Int → Int → Oa → Nat → Nat → Int → Int → Oa → Nat → Nat → Int → Int → Heap → Option R
abbrev packet_Read_l2_q (R T : Type) : Type := (Oa → Nat → Nat → Oa → Bool → Oa → Oa → Oa → Nat → Nat → Oa → Int → Int → Int → Oa → Nat → Nat → Int → Int → Option R) → T
abbrev packet_Read_l2_t (R : Type) : Type := packet_Read_l2_q R (Nat → packet_Read_l2_r R)
abbrev packet_Read_l1_r (R : Type) : Type := Oa → Nat → Nat → Oa → Bool → Oa → Oa → Oa → Nat → Nat → Oa → Int → Int → Int → Oa → Nat → Nat → Int → Int → Heap → Option R
abbrev packet_Read_l1_q (R T : Type) : Type := (Oa → Nat → Nat → Oa → Bool → Oa → Oa → Oa → Nat → Nat → Oa → Int → Int → Int → Heap → Option R) → T
abbrev packet_Read_l1_t (R : Type) : Type := packet_Read_l1_q R (Nat → packet_Read_l1_r R)
abbrev packet_Read_p3_u (R : Type) : Type := Heap → (Oa → Nat → Nat → Oa → Oa → Oa → Oa → Nat → Nat → Int → Oa → Int → Int → Bool → Option R) → Option R
abbrev packet_Read_p3_t (R : Type) : Type := Oa → Nat → Nat → Oa → Bool → Oa → Oa → Oa → Nat → Nat → Int → Oa → Int → Int → packet_Read_p3_u R
abbrev packet_Read_u (R : Type) : Type := Heap → (Int → Int → Int → Int → Oa → Nat → Nat → Oa → Nat → Nat → Oa → Nat → Nat → Int → Int → Heap → Option R) → Option R
abbrev packet_Read_t (R : Type) : Type := Oa → Nat → Nat → Int → Oa → Int → Int → Int → Int → Bool → Bool → Int → packet_Read_u R
section
variable {R : Type} (f0 : pkthead_State_Clone_t R) (f1 : packet_bounds_t R) (f2 : pkthead_State_Decode_t R) (f3 : packet_get_t R) (z0 : packet_Read_p0_t R) (z1 : packet_Read_l1_t R) (z2 : packet_Read_l2_t R) (z3 : packet_Read_p3_t R)
def packet_Read_p0_b (k : Nat) : packet_Read_p0_t R := fun q1 l2 c3 p4 t5 t6 p7 p8 q9 l10 c11 p12 n13 n14 H KN KR =>
bif t6 then (hfad 1 p12 fun p15 =>
ldI .i64 H p15 fun n16 =>
bif decide ((IntKind.wrap .i64 (n16 - n13)) < 2) then (hst H p8 [.int .i64 0,.int .i64 0,.int .i64 0,.int .i64 0,.slice none 0 0,.slice none 0 0] fun H17 =>
KR p8 none 0 0 0 7 H17)
 else (hslc 1 q1 l2 c3 (some n13) (some (IntKind.wrap .i64 (n13 + 2))) none fun q18 l19 c20 =>
f3 q18 l19 c20 H fun n21 =>
bif (n21 != 65460) then (hst H p8 [.int .i64 0,.int .i64 0,.int .i64 0,.int .i64 0,.slice none 0 0,.slice none 0 0] fun H22 =>
KR p8 none 0 0 0 11 H22)
 else (KN q1 l2 c3 p4 t5 p7 p8 q9 l10 c11 p12 n13 (IntKind.wrap .i64 (n14 + 2)) H)))
 else (KN q1 l2 c3 p4 t5 p7 p8 q9 l10 c11 p12 n13 n14 H)
def packet_Read_p0 (k : Nat) : packet_Read_p0_t R := packet_Read_p0_b (packet_get k) k
def packet_Read_l2_b (k : Nat) : packet_Read_l2_q R (packet_Read_l2_r R → packet_Read_l2_r R) := fun KE2 rec q1 l2 c3 p4 t5 p6 p7 q8 l9 c10 p11 n12 n13 n14 q15 l16 c17 n18 n19 q20 l21 c22 n23 n24 H =>
bif decide (n24 < n23) then (hidx q20 l21 n24 1 fun p25 =>
ldI .i64 H p25 fun n26 =>
rec q1 l2 c3 p4 t5 p6 p7 q8 l9 c10 p11 n12 n13 (IntKind.wrap .i64 (n14 + n26)) q15 l16 c17 n18 n19 q20 l21 c22 n23 (IntKind.wrap .i64 (n24 + 1)) H)
 else (KE2 q1 l2 c3 p4 t5 p6 p7 q8 l9 c10 p11 n12 n13 n14 q15 l16 c17 n18 n19)
def packet_Read_l2 (k : Nat) : packet_Read_l2_t R
  | KE2,0 => fun _ _ _ _ _ _ _ _ _ _ _ _ _ _ _ _ _ _ _ _ _ _ _ _ _ => none
  | KE2,n + 1 => packet_Read_l2_b k KE2 (packet_Read_l2 k KE2 n)
def packet_Read_l1_b (k : Nat) : packet_Read_l1_q R (packet_Read_l1_r R → packet_Read_l1_r R) := fun KE0 rec q1 l2 c3 p4 t5 p6 p7 q8 l9 c10 p11 n12 n13 n14 q15 l16 c17 n18 n19 H =>
bif decide (n19 < n18) then (hidx q15 l16 n19 3 fun p20 =>
ldI .i64 H (pad p20 0) fun n21 =>
ldI .i64 H (pad p20 1) fun n22 =>
ldL H (pad p20 2) fun q23 l24 c25 =>
hal H [.int .i64 0,.int .i64 0,.slice none 0 0] fun p26 H27 =>
hst H27 p26 [.int .i64 n21,.int .i64 n22,.slice q23 l24 c25] fun H28 =>
hfad 2 p26 fun p29 =>
ldL H28 p29 fun q30 l31 c32 =>
z2 (fun q52 l53 c54 p55 t56 p57 p58 q59 l60 c61 p62 n63 n64 n65 q66 l67 c68 n69 n70 =>
rec q52 l53 c54 p55 t56 p57 p58 q59 l60 c61 p62 n63 n64 n65 q66 l67 c68 n69 (IntKind.wrap .i64 (n70 + 1)) H28) k q1 l2 c3 p4 t5 p6 p7 q8 l9 c10 p11 n12 n13 n14 q15 l16 c17 n18 n19 q30 l31 c32 ((l31 : Nat) : Int) 0 H28)
 else (KE0 q1 l2 c3 p4 t5 p6 p7 q8 l9 c10 p11 n12 n13 n14 H)
def packet_Read_l1 (k : Nat) : packet_Read_l1_t R
  | KE0,0 => fun _ _ _ _ _ _ _ _ _ _ _ _ _ _ _ _ _ _ _ _ => none
  | KE0,n + 1 => packet_Read_l1_b (packet_Read_l2 k) k KE0 (packet_Read_l1 k KE0 n)
def packet_Read_p3_b (k : Nat) : packet_Read_p3_t R := fun q1 l2 c3 p4 t5 p6 p7 q8 l9 c10 n11 p12 n13 n14 H KN =>
bif t5 then (hfad 1 p12 fun p15 =>
ldI .i64 H p15 fun n16 =>
KN q1 l2 c3 p4 p6 p7 q8 l9 c10 n11 p12 n13 n14 (n11 != n16))
 else (KN q1 l2 c3 p4 p6 p7 q8 l9 c10 n11 p12 n13 n14 false)
def packet_Read_p3 (k : Nat) : packet_Read_p3_t R := packet_Read_p3_b k
def packet_Read_b (k : Nat) : packet_Read_t R := fun q1 l2 c3 n4 p5 n6 n7 n8 n9 t10 t11 n12 H K =>
hal H [.int .i64 n6,.int .i64 n7,.int .i64 n8,.int .i64 n9] fun p13 H14 =>
hal H14 [.int .i64 0,.int .i64 0,.int .i64 0,.int .i64 0,.slice none 0 0,.slice none 0 0] fun p15 H16 =>
f0 p5 H16 fun p17 H18 =>
bif p17.isNone then (hst H18 p15 [.int .i64 0,.int .i64 0,.int .i64 0,.int .i64 0,.slice none 0 0,.slice none 0 0] fun H19 =>
ldI .i64 H19 (pad p15 0) fun n20 =>
ldI .i64 H19 (pad p15 1) fun n21 =>
ldI .i64 H19 (pad p15 2) fun n22 =>
ldI .i64 H19 (pad p15 3) fun n23 =>
ldL H19 (pad p15 4) fun q24 l25 c26 =>
ldL H19 (pad p15 5) fun q27 l28 c29 =>
K n20 n21 n22 n23 q24 l25 c26 q27 l28 c29 none 0 0 0 6 H19)
 else (f1 q1 l2 c3 n4 t10 n12 H18 fun n30 n31 n32 H33 =>
hal H33 [.int .i64 0,.int .i64 0] fun p34 H35 =>
hst H35 p34 [.int .i64 n30,.int .i64 n31] fun H36 =>
bif (n32 != 0) then (hst H36 p15 [.int .i64 0,.int .i64 0,.int .i64 0,.int .i64 0,.slice none 0 0,.slice none 0 0] fun H37 =>
ldI .i64 H37 (pad p15 0) fun n38 =>
ldI .i64 H37 (pad p15 1) fun n39 =>
ldI .i64 H37 (pad p15 2) fun n40 =>
ldI .i64 H37 (pad p15 3) fun n41 =>
ldL H37 (pad p15 4) fun q42 l43 c44 =>
ldL H37 (pad p15 5) fun q45 l46 c47 =>
K n38 n39 n40 n41 q42 l43 c44 q45 l46 c47 none 0 0 0 n32 H37)
 else (hfad 0 p34 fun p48 =>
ldI .i64 H36 p48 fun n49 =>
hfad 1 p34 fun p50 =>
ldI .i64 H36 p50 fun n51 =>
hslc 1 q1 l2 c3 (some n49) (some n51) none fun q52 l53 c54 =>
f2 p17 q52 l53 c54 H36 fun q55 l56 c57 n58 n59 H60 =>
bif (n59 != 0) then (hst H60 p15 [.int .i64 0,.int .i64 0,.int .i64 0,.int .i64 0,.slice none 0 0,.slice none 0 0] fun H61 =>
ldI .i64 H61 (pad p15 0) fun n62 =>
ldI .i64 H61 (pad p15 1) fun n63 =>
ldI .i64 H61 (pad p15 2) fun n64 =>
ldI .i64 H61 (pad p15 3) fun n65 =>
ldL H61 (pad p15 4) fun q66 l67 c68 =>
ldL H61 (pad p15 5) fun q69 l70 c71 =>
K n62 n63 n64 n65 q66 l67 c68 q69 l70 c71 none 0 0 0 n59 H61)
 else (hfad 0 p34 fun p72 =>
ldI .i64 H60 p72 fun n73 =>
z0 q1 l2 c3 p5 t10 t11 p13 p15 q55 l56 c57 p34 (IntKind.wrap .i64 (n73 + n58)) (IntKind.wrap .i64 (n73 + n58)) H60 (fun q93 l94 c95 p96 t97 p98 p99 q100 l101 c102 p103 n104 n105 H106 =>
z1 (fun q121 l122 c123 p124 t125 p126 p127 q128 l129 c130 p131 n132 n133 n134 H135 =>
hfad 1 p131 fun p136 =>
ldI .i64 H135 p136 fun n137 =>
bif decide ((IntKind.wrap .i64 (n137 - n133)) < n134) then (hst H135 p127 [.int .i64 0,.int .i64 0,.int .i64 0,.int .i64 0,.slice none 0 0,.slice none 0 0] fun H138 =>
ldI .i64 H138 (pad p127 0) fun n139 =>
ldI .i64 H138 (pad p127 1) fun n140 =>
ldI .i64 H138 (pad p127 2) fun n141 =>
ldI .i64 H138 (pad p127 3) fun n142 =>
ldL H138 (pad p127 4) fun q143 l144 c145 =>
ldL H138 (pad p127 5) fun q146 l147 c148 =>
K n139 n140 n141 n142 q143 l144 c145 q146 l147 c148 none 0 0 0 7 H138)
 else (z3 q121 l122 c123 p124 t125 p126 p127 q128 l129 c130 (IntKind.wrap .i64 (n133 + n134)) p131 n132 n133 H135 (fun q163 l164 c165 p166 p167 p168 q169 l170 c171 n172 p173 n174 n175 t176 =>
bif t176 then (hst H135 p168 [.int .i64 0,.int .i64 0,.int .i64 0,.int .i64 0,.slice none 0 0,.slice none 0 0] fun H177 =>
ldI .i64 H177 (pad p168 0) fun n178 =>
ldI .i64 H177 (pad p168 1) fun n179 =>
ldI .i64 H177 (pad p168 2) fun n180 =>
ldI .i64 H177 (pad p168 3) fun n181 =>
ldL H177 (pad p168 4) fun q182 l183 c184 =>
ldL H177 (pad p168 5) fun q185 l186 c187 =>
K n178 n179 n180 n181 q182 l183 c184 q185 l186 c187 none 0 0 0 4 H177)
 else (hfad 0 p173 fun p188 =>
ldI .i64 H135 p188 fun n189 =>
hfad 1 p173 fun p190 =>
ldI .i64 H135 p190 fun n191 =>
hslc 1 q163 l164 c165 (some n189) (some n191) none fun q192 l193 c194 =>
f2 p166 q192 l193 c194 H135 fun q195 l196 c197 n198 n199 H200 =>
bif (n199 != 0) then (hst H200 p168 [.int .i64 0,.int .i64 0,.int .i64 0,.int .i64 0,.slice none 0 0,.slice none 0 0] fun H201 =>
ldI .i64 H201 (pad p168 0) fun n202 =>
ldI .i64 H201 (pad p168 1) fun n203 =>
ldI .i64 H201 (pad p168 2) fun n204 =>
ldI .i64 H201 (pad p168 3) fun n205 =>
ldL H201 (pad p168 4) fun q206 l207 c208 =>
ldL H201 (pad p168 5) fun q209 l210 c211 =>
K n202 n203 n204 n205 q206 l207 c208 q209 l210 c211 none 0 0 0 n199 H201)
 else (ldI .i64 H200 (pad p167 0) fun n212 =>
ldI .i64 H200 (pad p167 1) fun n213 =>
ldI .i64 H200 (pad p167 2) fun n214 =>
ldI .i64 H200 (pad p167 3) fun n215 =>
hfad 0 p173 fun p216 =>
ldI .i64 H200 p216 fun n217 =>
hslc 1 q163 l164 c165 (some n217) (some n174) none fun q218 l219 c220 =>
hapnS 1 1 H200 none 0 0 q218 l219 fun q221 l222 c223 H224 =>
hslc 1 q163 l164 c165 (some n175) (some n172) none fun q225 l226 c227 =>
hapnS 1 1 H224 none 0 0 q225 l226 fun q228 l229 c230 H231 =>
hst H231 p168 [.int .i64 n212,.int .i64 n213,.int .i64 n214,.int .i64 n215,.slice q221 l222 c223,.slice q228 l229 c230] fun H232 =>
ldI .i64 H232 (pad p168 0) fun n233 =>
ldI .i64 H232 (pad p168 1) fun n234 =>
ldI .i64 H232 (pad p168 2) fun n235 =>
ldI .i64 H232 (pad p168 3) fun n236 =>
ldL H232 (pad p168 4) fun q237 l238 c239 =>
ldL H232 (pad p168 5) fun q240 l241 c242 =>
hst H232 p168 [.int .i64 n233,.int .i64 n234,.int .i64 n235,.int .i64 n236,.slice q237 l238 c239,.slice q240 l241 c242] fun H243 =>
ldI .i64 H243 (pad p168 0) fun n244 =>
ldI .i64 H243 (pad p168 1) fun n245 =>
ldI .i64 H243 (pad p168 2) fun n246 =>
ldI .i64 H243 (pad p168 3) fun n247 =>
ldL H243 (pad p168 4) fun q248 l249 c250 =>
ldL H243 (pad p168 5) fun q251 l252 c253 =>
K n244 n245 n246 n247 q248 l249 c250 q251 l252 c253 q169 l170 c171 n172 0 H243))))) k q93 l94 c95 p96 t97 p98 p99 q100 l101 c102 p103 n104 n105 0 q100 l101 c102 ((l101 : Nat) : Int) 0 H106) (fun p254 q255 l256 c257 n258 n259 H260 =>
ldI .i64 H260 (pad p254 0) fun n261 =>
ldI .i64 H260 (pad p254 1) fun n262 =>
ldI .i64 H260 (pad p254 2) fun n263 =>
ldI .i64 H260 (pad p254 3) fun n264 =>
ldL H260 (pad p254 4) fun q265 l266 c267 =>
ldL H260 (pad p254 5) fun q268 l269 c270 =>
K n261 n262 n263 n264 q265 l266 c267 q268 l269 c270 q255 l256 c257 n258 n259 H260))))
def packet_Read (k : Nat) : packet_Read_t R := packet_Read_b (pkthead_State_Clone k) (packet_bounds k) (pkthead_State_Decode k) (packet_Read_p0 k) (packet_Read_l1 k) (packet_Read_p3 k) k
def x20C : Tab R := tcons 37 (x37a f0) <| tcons 38 (x38a f1) <| tcons 39 (x39a f2) <| tcons 40 (x40a f3) <| fun _ _ _ _ => none
def x20s3 : PS := ⟨(.reg [0,2,10,14,15,16,19,21,22,120] []),[0,2,4,10,14,15,16,19,21,22],[.l,.p,.b,.p,.p,.l,.n,.p,.n,.n],⟨[0,2,10,14,15,16,19,21,22,120],[],[]⟩⟩
def x20c3 (g : packet_Read_p3_u R) (H : Heap) (K : XK R) : Option R := g H (kN .normal [0,2,10,14,15,16,19,21,22,120] [.l,.p,.p,.p,.l,.n,.p,.n,.n,.b] K H)
def x20a3 (f : packet_Read_p3_t R) : Nat → List Value → Heap → XK R → Option R := jp x20s3 x20c3 f
def x20s2 : PS := ⟨(.seq (.reg [0,2,4,10,14,15,19,21,22,23,86,87,88,93,94,95,96] []) (.seq (.cond .leaf .leaf) (.seq (.node (.seq (.reg [0,2,4,10,14,15,19,21,22,23,27,86,87,88,93,94,95] []) (.reg [0,2,4,10,14,15,19,21,22,23,86,87,88,93,94,95] []))) (.reg [0,2,4,10,14,15,19,21,22,23,86,87,88,93,94,95] [])))),[0,2,4,10,14,15,19,21,22,23,86,87,88,93,94,95],[.l,.p,.b,.p,.p,.l,.p,.n,.n,.n,.l,.n,.n,.l,.n,.n],⟨[],[(2,[0,2,4,10,14,15,19,21,22,23,86,87,88])],[]⟩⟩
def x20c2 {T : Type} (g : packet_Read_l2_q R T) (H : Heap) (K : XK R) : T := g (kN (.exit 2) [0,2,4,10,14,15,19,21,22,23,86,87,88] [.l,.p,.b,.p,.p,.l,.p,.n,.n,.n,.l,.n,.n] K H)
def x20a2 (f : packet_Read_l2_t R) : Nat → List Value → Heap → XK R → Option R := jl x20s2 (L := packet_Read_l2_t R) x20c2 pH f
def x20s1 : PS := ⟨(.seq (.reg [0,2,4,10,14,15,19,21,22,23,86,87,88,89] []) (.seq (.cond .leaf .leaf) (.seq (.node (.seq (.reg [0,2,4,10,14,15,19,21,22,23,25,86,87,88] []) (.seq (.reg [0,2,4,10,14,15,19,21,22,23,86,87,88,93,94,95] []) (.node (.opq 2 x20s2.ls x20s2.out (.node x20s2.t)))))) (.reg [0,2,4,10,14,15,19,21,22,23,86,87,88] [])))),[0,2,4,10,14,15,19,21,22,23,86,87,88],[.l,.p,.b,.p,.p,.l,.p,.n,.n,.n,.l,.n,.n],⟨[],[(0,[0,2,4,10,14,15,19,21,22,23])],[]⟩⟩
def x20c1 {T : Type} (g : packet_Read_l1_q R T) (H : Heap) (K : XK R) : T := g (kH (.exit 0) [0,2,4,10,14,15,19,21,22,23] [.l,.p,.b,.p,.p,.l,.p,.n,.n,.n] K)
def x20a1 (f : packet_Read_l1_t R) : Nat → List Value → Heap → XK R → Option R := jl x20s1 (L := packet_Read_l1_t R) x20c1 pH f
def x20s0 : PS := ⟨(.seq (.reg [0,2,4,10,14,15,19,21,22,69] []) (.cond (.seq (.seq (.reg [0,2,4,10,14,15,19,21,22,74] []) (.cond (.seq (.reg [14,15,16,17] []) .leaf) .leaf)) (.seq (.seq (.reg [0,2,4,10,14,15,19,21,22,82] []) (.cond (.seq (.reg [14,15,16,17] []) .leaf) .leaf)) (.reg [0,2,4,10,14,15,19,21,22] []))) .leaf)),[0,2,4,5,10,14,15,19,21,22],[.l,.p,.b,.b,.p,.p,.l,.p,.n,.n],⟨[0,2,4,10,14,15,19,21,22],[],[14,15,16,17]⟩⟩
def x20c0 (g : packet_Read_p0_u R) (H : Heap) (K : XK R) : Option R := g H (kH .normal [0,2,4,10,14,15,19,21,22] [.l,.p,.b,.p,.p,.l,.p,.n,.n] K) (kH .ret [14,15,16,17] [.p,.l,.n,.n] K)
def x20a0 (f : packet_Read_p0_t R) : Nat → List Value → Heap → XK R → Option R := jp x20s0 x20c0 f
def x20J (k : Nat) : JTab R := tcons 0 (x20a0 z0 k) <| tcons 1 (x20a1 z1 k) <| tcons 2 (x20a2 z2 k) <| tcons 3 (x20a3 z3 k) <| fun _ _ _ _ => none
def x20t : AT := (.seq (.reg [0,1,2,4,5,6,10,14] []) (.seq (.reg [0,1,2,4,5,6,10,14,18] []) (.seq (.seq (.reg [0,1,2,4,5,6,10,14,18,34] []) (.cond (.seq (.reg [14,15,16,17] []) .leaf) .leaf)) (.seq (.reg [0,2,4,5,10,14,17,18,19] []) (.seq (.seq (.reg [0,2,4,5,10,14,17,18,19,45] []) (.cond (.seq (.reg [14,15,16,17] []) .leaf) .leaf)) (.seq (.reg [0,2,4,5,10,14,15,17,19,20] []) (.seq (.seq (.reg [0,2,4,5,10,14,15,17,19,20,61] []) (.cond (.seq (.reg [14,15,16,17] []) .leaf) .leaf)) (.seq (.reg [0,2,4,5,10,14,15,19,21] []) (.seq (.reg [0,2,4,5,10,14,15,19,21,22] []) (.seq (.opq 0 x20s0.ls x20s0.out x20s0.t) (.seq (.reg [0,2,4,10,14,15,19,21,22,23] []) (.seq (.seq (.reg [0,2,4,10,14,15,19,21,22,23,86,87,88] []) (.node (.opq 1 x20s1.ls x20s1.out (.node x20s1.t)))) (.seq (.seq (.reg [0,2,4,10,14,15,19,21,22,23,109] []) (.cond (.seq (.reg [14,15,16,17] []) .leaf) .leaf)) (.seq (.reg [0,2,4,10,14,15,16,19,21,22] []) (.seq (.seq (.opq 3 x20s3.ls x20s3.out x20s3.t) (.cond (.seq (.reg [14,15,16,17] []) .leaf) .leaf)) (.seq (.seq (.reg [0,10,14,15,16,19,21,22,30] []) (.seq (.reg [0,10,14,15,16,19,21,22,30,135] []) (.cond (.seq (.reg [14,15,16,17] []) .leaf) .leaf))) (.seq (.reg [14,15,16] (ms [0,0,0,4,0,30,62,0,0,0,896,2046,4095,8191])) (.seq (.reg [14,15,16,17] []) .leaf))))))))))))))))))
def x20c (g : packet_Read_u R) (H : Heap) (K : Value → Heap → Option R) : Option R := g H (rH [(.a 6),.n,.n,.n,.n,.l,.l,.l,.n,.n] K)
def x20a (f : packet_Read_t R) : List Value → Heap → (Value → Heap → Option R) → Option R := jf 7 [.l,.n,.p,(.a 4),.n,.n,.n,.n,.b,.b,.n] x20c f
variable {f0 f1 f2 f3 z0 z1 z2 z3}
theorem x20e3 (k : Nat) (H : Heap) (K : XK R) : jE Try.prog An 154 (x20C f0 f1 f2 f3) (x20J z0 z1 z2 z3 k) x20s3 (sel [1,1,1,1,1,1,1,1,1,1,1,1,1,1,0,0] (bd Try.f20)) H K = mapT (fun g => x20c3 g H K) x20s3.ts (packet_Read_p3_b k) := by kernel_rfl
theorem x20e2 (k n : Nat) (H : Heap) (K : XK R) : lE Try.prog An 154 (x20C f0 f1 f2 f3) (x20J z0 z1 z2 z3 k) x20s2 (sel [1,1,1,1,1,1,1,1,1,1,1,0,1,0,0,1,1,0,0,1,1,0,0] (bd Try.f20)) (x20a2 z2) n H K = mapT (fun g => pH g H) x20s2.ts (x20c2 (packet_Read_l2_b k) H K (x20c2 z2 H K n)) := by kernel_rfl
theorem x20e1 (k n : Nat) (H : Heap) (K : XK R) : lE Try.prog An 154 (x20C f0 f1 f2 f3) (x20J z0 z1 z2 z3 k) x20s1 (sel [1,1,1,1,1,1,1,1,1,1,1,0,1,0,0] (bd Try.f20)) (x20a1 z1) n H K = mapT (fun g => pH g H) x20s1.ts (x20c1 (packet_Read_l1_b z2 k) H K (x20c1 z1 H K n)) := by kernel_rfl
theorem x20e0 (k : Nat) (H : Heap) (K : XK R) : jE Try.prog An 154 (x20C f0 f1 f2 f3) (x20J z0 z1 z2 z3 k) x20s0 (sel [1,1,1,1,1,1,1,1,1,0] (bd Try.f20)) H K = mapT (fun g => x20c0 g H K) x20s0.ts (packet_Read_p0_b f3 k) := by kernel_rfl
theorem x20e (k : Nat) (H : Heap) (K : Value → Heap → Option R) : fE Try.prog An (x20C f0 f1 f2 f3) (x20J z0 z1 z2 z3 k) x20t Try.f20 [.l,.n,.p,(.a 4),.n,.n,.n,.n,.b,.b,.n] H K = mapT (fun g => x20c g H K) [.l,.n,.p,(.a 4),.n,.n,.n,.n,.b,.b,.n] (packet_Read_b f0 f1 f2 z0 z1 z3 k) := by kernel_rfl
theorem x20S (R : Type) (k : Nat) : CSound Try.prog (x20C (R := R) (pkthead_State_Clone k) (packet_bounds k) (pkthead_State_Decode k) (packet_get k)) := csound_cons (x37cs R k) <| csound_cons (x38cs R k) <| csound_cons (x39cs R k) <| csound_cons (x40cs R k) <| csound_nil
theorem x20j3 (R : Type) (k : Nat) : JS Try.prog 154 (x20a3 (packet_Read_p3 (R := R) k) k) x20s3.ls x20s3.out (sel [1,1,1,1,1,1,1,1,1,1,1,1,1,1,0,0] (bd Try.f20)) := pj (x20S R k) (x20J (packet_Read_p0 k) (packet_Read_l1 k) (packet_Read_l2 k) (packet_Read_p3 k) k) (by kernel_rfl) (A := True) trivial (by kernel_rfl) (fun _ _ => .trans (x20e3 _ _ _) (by kernel_rfl))
theorem x20j2 (R : Type) (k : Nat) : JS Try.prog 154 (x20a2 (packet_Read_l2 (R := R) k) k) x20s2.ls x20s2.out (.loop (sel [1,1,1,1,1,1,1,1,1,1,1,0,1,0,0,1,1,0,0,1,1,0,0] (bd Try.f20))) := lj (x20S R k) (x20J (packet_Read_p0 k) (packet_Read_l1 k) (packet_Read_l2 k) (packet_Read_p3 k) k) (by kernel_rfl) (A := True) trivial (by kernel_rfl) (fun _ _ => by kernel_rfl) (fun _ _ _ => .trans (x20e2 _ _ _ _) (by kernel_rfl)) k
theorem x20j1 (R : Type) (k : Nat) : JS Try.prog 154 (x20a1 (packet_Read_l1 (R := R) k) k) x20s1.ls x20s1.out (.loop (sel [1,1,1,1,1,1,1,1,1,1,1,0,1,0,0] (bd Try.f20))) := lj (x20S R k) (x20J (packet_Read_p0 k) (packet_Read_l1 k) (packet_Read_l2 k) (packet_Read_p3 k) k) (by kernel_rfl) (A := JS Try.prog 154 (x20a2 (packet_Read_l2 (R := R) k) k) x20s2.ls x20s2.out (.loop (sel [1,1,1,1,1,1,1,1,1,1,1,0,1,0,0,1,1,0,0,1,1,0,0] (bd Try.f20))) ∧ True) ⟨x20j2 R k,trivial⟩ (by kernel_rfl) (fun _ _ => by kernel_rfl) (fun _ _ _ => .trans (x20e1 _ _ _ _) (by kernel_rfl)) k
theorem x20j0 (R : Type) (k : Nat) : JS Try.prog 154 (x20a0 (packet_Read_p0 (R := R) k) k) x20s0.ls x20s0.out (sel [1,1,1,1,1,1,1,1,1,0] (bd Try.f20)) := pj (x20S R k) (x20J (packet_Read_p0 k) (packet_Read_l1 k) (packet_Read_l2 k) (packet_Read_p3 k) k) (by kernel_rfl) (A := True) trivial (by kernel_rfl) (fun _ _ => .trans (x20e0 _ _ _) (by kernel_rfl))
theorem x20cs (R : Type) (k : Nat) : ∀ args H K r,x20a (packet_Read k) args H K = some (r : R) → ∃ v H',Tri Try.prog 20 args H v H' ∧ K v H' = some r := fj (x20S R k) (x20J (packet_Read_p0 k) (packet_Read_l1 k) (packet_Read_l2 k) (packet_Read_p3 k) k) Try.func20 (by kernel_rfl) (A := JS Try.prog 154 (x20a0 (packet_Read_p0 (R := R) k) k) x20s0.ls x20s0.out (sel [1,1,1,1,1,1,1,1,1,0] (bd Try.f20)) ∧ JS Try.prog 154 (x20a1 (packet_Read_l1 (R := R) k) k) x20s1.ls x20s1.out (.loop (sel [1,1,1,1,1,1,1,1,1,1,1,0,1,0,0] (bd Try.f20))) ∧ JS Try.prog 154 (x20a3 (packet_Read_p3 (R := R) k) k) x20s3.ls x20s3.out (sel [1,1,1,1,1,1,1,1,1,1,1,1,1,1,0,0] (bd Try.f20)) ∧ True) ⟨x20j0 R k,⟨x20j1 R k,⟨x20j3 R k,trivial⟩⟩⟩ (by kernel_rfl) (fun _ _ => .trans (x20e _ _ _) (by kernel_rfl))
end
/-! ### R27_SamePacket: function 21 -/
abbrev R27_SamePacket_u (R : Type) : Type := Heap → (Bool → Heap → Option R) → Option R
abbrev R27_SamePacket_t (R : Type) : Type := Int → Int → Int → Int → Oa → Nat → Nat → Oa → Nat → Nat → Int → Int → Int → Int → Oa → Nat → Nat → Oa → Nat → Nat → R27_SamePacket_u R
section
variable {R : Type} (f0 : R27_SameBytes_t R)
def R27_SamePacket_b (k : Nat) : R27_SamePacket_t R := fun n1 n2 n3 n4 q5 l6 c7 q8 l9 c10 n11 n12 n13 n14 q15 l16 c17 q18 l19 c20 H K =>
hal H [.int .i64 n1,.int .i64 n2,.int .i64 n3,.int .i64 n4,.slice q5 l6 c7,.slice q8 l9 c10] fun p21 H22 =>
hal H22 [.int .i64 n11,.int .i64 n12,.int .i64 n13,.int .i64 n14,.slice q15 l16 c17,.slice q18 l19 c20] fun p23 H24 =>
hfad 0 p21 fun p25 =>
ldI .i64 H24 (pad p25 0) fun n26 =>
ldI .i64 H24 (pad p25 1) fun n27 =>
ldI .i64 H24 (pad p25 2) fun n28 =>
ldI .i64 H24 (pad p25 3) fun n29 =>
hfad 0 p23 fun p30 =>
ldI .i64 H24 (pad p30 0) fun n31 =>
ldI .i64 H24 (pad p30 1) fun n32 =>
ldI .i64 H24 (pad p30 2) fun n33 =>
ldI .i64 H24 (pad p30 3) fun n34 =>
bif ((((true && (n26 == n31)) && (n27 == n32)) && (n28 == n33)) && (n29 == n34)) then (hfad 4 p21 fun p35 =>
ldL H24 p35 fun q36 l37 c38 =>
hfad 4 p23 fun p39 =>
ldL H24 p39 fun q40 l41 c42 =>
f0 q36 l37 c38 q40 l41 c42 H24 fun t43 =>
bif t43 then (hfad 5 p21 fun p44 =>
ldL H24 p44 fun q45 l46 c47 =>
hfad 5 p23 fun p48 =>
ldL H24 p48 fun q49 l50 c51 =>
f0 q45 l46 c47 q49 l50 c51 H24 fun t52 =>
K t52 H24)
 else (K false H24))
 else (K false H24)
def R27_SamePacket : R27_SamePacket_t R := R27_SamePacket_b R27_SameBytes 0
def x21C : Tab R := tcons 15 (x15a f0) <| fun _ _ _ _ => none
def x21J (k : Nat) : JTab R := fun _ _ _ _ => none
def x21t : AT := (.seq (.reg [2,3] []) (.seq (.reg [4] []) .leaf))
def x21c (g : R27_SamePacket_u R) (H : Heap) (K : Value → Heap → Option R) : Option R := g H (rH [.b] K)
def x21a (f : R27_SamePacket_t R) : List Value → Heap → (Value → Heap → Option R) → Option R := jf 2 [(.a 6),.n,.n,.n,.n,.l,.l,(.a 6),.n,.n,.n,.n,.l,.l] x21c f
variable {f0}
theorem x21e (k : Nat) (H : Heap) (K : Value → Heap → Option R) : fE Try.prog An (x21C f0) (x21J k) x21t Try.f21 [(.a 6),.n,.n,.n,.n,.l,.l,(.a 6),.n,.n,.n,.n,.l,.l] H K = mapT (fun g => x21c g H K) [(.a 6),.n,.n,.n,.n,.l,.l,(.a 6),.n,.n,.n,.n,.l,.l] (R27_SamePacket_b f0 k) := by kernel_rfl
theorem x21S (R : Type) (k : Nat) : CSound Try.prog (x21C (R := R) R27_SameBytes) := csound_cons (x15cs R 0) <| csound_nil
theorem x21cs (R : Type) (k : Nat) : ∀ args H K r,x21a (R27_SamePacket) args H K = some (r : R) → ∃ v H',Tri Try.prog 21 args H v H' ∧ K v H' = some r := fj (x21S R k) (x21J 0) Try.func21 (by kernel_rfl) (A := True) trivial (by kernel_rfl) (fun _ _ => .trans (x21e _ _ _) (by kernel_rfl))
end
end Go.Proofs.Ytjajknghcbpblaa.Sh
