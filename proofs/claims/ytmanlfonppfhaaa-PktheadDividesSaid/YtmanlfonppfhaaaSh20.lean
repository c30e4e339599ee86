/- Lean functions that stand for Go's,over an explicit heap,and the proofs that they do (written by this claim's program sh2.py). -/
import Derived.Test.YtmanlfonppfhaaaShA
import Derived.Test.YtmanlfonppfhaaaSh0
import Derived.Test.YtmanlfonppfhaaaSh10
import Derived.Test.YtmanlfonppfhaaaShD
set_option maxRecDepth 100000
set_option linter.unusedVariables false
set_option linter.unusedSimpArgs false
namespace Go.Proofs.Ytmanlfonppfhaaa.Sh
open Go.Proofs.Ytmanlfonppfhaaa.FW
/-! ### L_sum: function 26 -/
abbrev L_sum_l0_r (R : Type) : Type := Oa → Nat → Nat → Int → Int → Heap → Option R
abbrev L_sum_l0_q (R T : Type) : Type := (Int → Option R) → T
abbrev L_sum_l0_t (R : Type) : Type := L_sum_l0_q R (Nat → L_sum_l0_r R)
abbrev L_sum_u (R : Type) : Type := Heap → (Int → Option R) → Option R
abbrev L_sum_t (R : Type) : Type := Oa → Nat → Nat → L_sum_u R
section
variable {R : Type} (z0 : L_sum_l0_t R)
def L_sum_l0_b (k : Nat) : L_sum_l0_q R (L_sum_l0_r R → L_sum_l0_r R) := fun KE0 rec q1 l2 c3 n4 n5 H =>
bif decide (n5 < ((l2 : Nat) : Int)) then (hidx q1 l2 n5 1 fun p6 =>
ldI .i64 H p6 fun n7 =>
rec q1 l2 c3 (IntKind.wrap .i64 (n4 + n7)) (IntKind.wrap .i64 (n5 + 1)) H)
 else (KE0 n4)
def L_sum_l0 (k : Nat) : L_sum_l0_t R
  | KE0,0 => fun _ _ _ _ _ _ => none
  | KE0,n + 1 => L_sum_l0_b k KE0 (L_sum_l0 k KE0 n)
def L_sum_b (k : Nat) : L_sum_t R := fun q1 l2 c3 H K =>
z0 (fun n5 =>
K n5) k q1 l2 c3 0 0 H
def L_sum (k : Nat) : L_sum_t R := L_sum_b (L_sum_l0 k) k
def x26C : Tab R := fun _ _ _ _ => none
def x26s0 : PS := ⟨(.seq (.seq (.reg [0,3,4,8] []) (.cond .leaf .leaf)) (.seq (.node (.reg [0,3,4] [])) (.reg [0,3,4] []))),[0,3,4],[.l,.n,.n],⟨[],[(0,[3])],[]⟩⟩
def x26c0 {T : Type} (g : L_sum_l0_q R T) (H : Heap) (K : XK R) : T := g (kN (.exit 0) [3] [.n] K H)
def x26a0 (f : L_sum_l0_t R) : Nat → List Value → Heap → XK R → Option R := jl x26s0 (L := L_sum_l0_t R) x26c0 pH f
def x26J (k : Nat) : JTab R := tcons 0 (x26a0 z0 k) <| fun _ _ _ _ => none
def x26t : AT := (.seq (.reg [0] []) (.seq (.reg [0,3] []) (.seq (.seq (.reg [0,3,4] []) (.node (.opq 0 x26s0.ls x26s0.out (.node x26s0.t)))) (.seq (.reg [2] []) .leaf))))
def x26c (g : L_sum_u R) (H : Heap) (K : Value → Heap → Option R) : Option R := g H (rN [.n] K H)
def x26a (f : L_sum_t R) : List Value → Heap → (Value → Heap → Option R) → Option R := jf 1 [.l] x26c f
variable {z0}
theorem x26e0 (k n : Nat) (H : Heap) (K : XK R) : lE Try.prog An 18 (x26C) (x26J z0 k) x26s0 (sel [1,1,0,1,0,0] (bd Try.f26)) (x26a0 z0) n H K = mapT (fun g => pH g H) x26s0.ts (x26c0 (L_sum_l0_b k) H K (x26c0 z0 H K n)) := by kernel_rfl
theorem x26e (k : Nat) (H : Heap) (K : Value → Heap → Option R) : fE Try.prog An (x26C) (x26J z0 k) x26t Try.f26 [.l] H K = mapT (fun g => x26c g H K) [.l] (L_sum_b z0 k) := by kernel_rfl
theorem x26S (R : Type) (k : Nat) : CSound Try.prog (x26C (R := R)) := csound_nil
theorem x26j0 (R : Type) (k : Nat) : JS Try.prog 18 (x26a0 (L_sum_l0 (R := R) k) k) x26s0.ls x26s0.out (.loop (sel [1,1,0,1,0,0] (bd Try.f26))) := lj (x26S R k) (x26J (L_sum_l0 k) k) (by kernel_rfl) (A := True) trivial (by kernel_rfl) (fun _ _ => by kernel_rfl) (fun _ _ _ => .trans (x26e0 _ _ _ _) (by kernel_rfl)) k
theorem x26cs (R : Type) (k : Nat) : ∀ args H K r,x26a (L_sum k) args H K = some (r : R) → ∃ v H',Tri Try.prog 26 args H v H' ∧ K v H' = some r := fj (x26S R k) (x26J (L_sum_l0 k) k) Try.func26 (by kernel_rfl) (A := JS Try.prog 18 (x26a0 (L_sum_l0 (R := R) k) k) x26s0.ls x26s0.out (.loop (sel [1,1,0,1,0,0] (bd Try.f26))) ∧ True) ⟨x26j0 R k,trivial⟩ (by kernel_rfl) (fun _ _ => .trans (x26e _ _ _) (by kernel_rfl))
end
/-! ### L_PktheadDivides: function 7 -/
abbrev L_PktheadDivides_p0_u (R : Type) : Type := Heap → (Oa → Nat → Nat → Oa → Nat → Nat → Oa → Nat → Nat → Option R) → (Bool → Option R) → Option R
abbrev L_PktheadDivides_p0_t (R : Type) : Type := Int → Int → Oa → Nat → Nat → Oa → Nat → Nat → Oa → Nat → Nat → L_PktheadDivides_p0_u R
abbrev L_PktheadDivides_l1_r (R : Type) : Type := Oa → Nat → Nat → Oa → Nat → Nat → Oa → Nat → Nat → Int → Heap → Option R
abbrev L_PktheadDivides_l1_q (R T : Type) : Type := (Oa → Nat → Nat → Oa → Nat → Nat → Oa → Nat → Nat → Option R) → (Bool → Option R) → T
abbrev L_PktheadDivides_l1_t (R : Type) : Type := L_PktheadDivides_l1_q R (Nat → L_PktheadDivides_l1_r R)
abbrev L_PktheadDivides_l2_r (R : Type) : Type := Oa → Nat → Nat → Oa → Nat → Nat → Oa → Nat → Nat → Int → Heap → Option R
abbrev L_PktheadDivides_l2_q (R T : Type) : Type := (Oa → Nat → Nat → Oa → Nat → Nat → Oa → Nat → Nat → Option R) → (Bool → Option R) → T
abbrev L_PktheadDivides_l2_t (R : Type) : Type := L_PktheadDivides_l2_q R (Nat → L_PktheadDivides_l2_r R)
abbrev L_PktheadDivides_p3_u (R : Type) : Type := Heap → (Oa → Nat → Nat → Oa → Nat → Nat → Heap → Option R) → Option R
abbrev L_PktheadDivides_p3_t (R : Type) : Type := Oa → Nat → Nat → Oa → Nat → Nat → Oa → Nat → Nat → Oa → Nat → Nat → L_PktheadDivides_p3_u R
abbrev L_PktheadDivides_u (R : Type) : Type := Heap → (Bool → Heap → Option R) → Option R
abbrev L_PktheadDivides_t (R : Type) : Type := Int → Int → Int → Bool → Bool → Bool → Bool → Bool → L_PktheadDivides_u R
section
variable {R : Type} (f0 : pkthead_Parts_t R) (f1 : L_sum_t R) (f2 : R02_SameInts_t R) (f3 : L_exampleHoldsq_t R) (z0 : L_PktheadDivides_p0_t R) (z1 : L_PktheadDivides_l1_t R) (z2 : L_PktheadDivides_l2_t R) (z3 : L_PktheadDivides_p3_t R)
def L_PktheadDivides_p0_b (k : Nat) : L_PktheadDivides_p0_t R := fun n1 n2 q3 l4 c5 q6 l7 c8 q9 l10 c11 H KN KR =>
f1 q3 l4 c5 H fun n12 =>
bif (n12 != n1) then (KR false)
 else (f1 q6 l7 c8 H fun n13 =>
bif (n13 != n2) then (KR false)
 else (f1 q9 l10 c11 H fun n14 =>
bif (n14 != (IntKind.wrap .i64 (n1 + n2))) then (KR false)
 else (bif (((l4 : Nat) : Int) == 0) then (KR false)
 else (bif (((l7 : Nat) : Int) == 0) then (KR false)
 else (KN q3 l4 c5 q6 l7 c8 q9 l10 c11)))))
def L_PktheadDivides_p0 (k : Nat) : L_PktheadDivides_p0_t R := L_PktheadDivides_p0_b (L_sum k) k
def L_PktheadDivides_l1_b (k : Nat) : L_PktheadDivides_l1_q R (L_PktheadDivides_l1_r R → L_PktheadDivides_l1_r R) := fun KE0 KR rec q1 l2 c3 q4 l5 c6 q7 l8 c9 n10 H =>
bif decide (n10 < ((l2 : Nat) : Int)) then (hidx q1 l2 n10 1 fun p11 =>
ldI .i64 H p11 fun n12 =>
bif decide (n12 < 1) then (KR false)
 else (rec q1 l2 c3 q4 l5 c6 q7 l8 c9 (IntKind.wrap .i64 (n10 + 1)) H))
 else (KE0 q1 l2 c3 q4 l5 c6 q7 l8 c9)
def L_PktheadDivides_l1 (k : Nat) : L_PktheadDivides_l1_t R
  | KE0,KR,0 => fun _ _ _ _ _ _ _ _ _ _ _ => none
  | KE0,KR,n + 1 => L_PktheadDivides_l1_b k KE0 KR (L_PktheadDivides_l1 k KE0 KR n)
def L_PktheadDivides_l2_b (k : Nat) : L_PktheadDivides_l2_q R (L_PktheadDivides_l2_r R → L_PktheadDivides_l2_r R) := fun KE2 KR rec q1 l2 c3 q4 l5 c6 q7 l8 c9 n10 H =>
bif decide (n10 < ((l5 : Nat) : Int)) then (hidx q4 l5 n10 1 fun p11 =>
ldI .i64 H p11 fun n12 =>
bif decide (n12 < 1) then (KR false)
 else (rec q1 l2 c3 q4 l5 c6 q7 l8 c9 (IntKind.wrap .i64 (n10 + 1)) H))
 else (KE2 q1 l2 c3 q4 l5 c6 q7 l8 c9)
def L_PktheadDivides_l2 (k : Nat) : L_PktheadDivides_l2_t R
  | KE2,KR,0 => fun _ _ _ _ _ _ _ _ _ _ _ => none
  | KE2,KR,n + 1 => L_PktheadDivides_l2_b k KE2 KR (L_PktheadDivides_l2 k KE2 KR n)
def L_PktheadDivides_p3_b (k : Nat) : L_PktheadDivides_p3_t R := fun q1 l2 c3 q4 l5 c6 q7 l8 c9 q10 l11 c12 H KN =>
bif (((l11 : Nat) : Int) != ((l8 : Nat) : Int)) then (hal H [] fun p13 H14 =>
hslc 1 q1 l2 c3 none (some (IntKind.wrap .i64 (((l2 : Nat) : Int) - 1))) none fun q15 l16 c17 =>
hapnS 1 8 H14 p13 0 0 q15 l16 fun q18 l19 c20 H21 =>
hidx q1 l2 (IntKind.wrap .i64 (((l2 : Nat) : Int) - 1)) 1 fun p22 =>
ldI .i64 H21 p22 fun n23 =>
hidx q4 l5 0 1 fun p24 =>
ldI .i64 H21 p24 fun n25 =>
hal H21 [.int .i64 (IntKind.wrap .i64 (n23 + n25))] fun p26 H27 =>
happS 1 8 H27 q18 l19 c20 p26 1 fun q28 l29 c30 H31 =>
hslc 1 q4 l5 c6 (some 1) none none fun q32 l33 c34 =>
happS 1 8 H31 q28 l29 c30 q32 l33 fun q35 l36 c37 H38 =>
KN q7 l8 c9 q35 l36 c37 H38)
 else (KN q7 l8 c9 q10 l11 c12 H)
def L_PktheadDivides_p3 (k : Nat) : L_PktheadDivides_p3_t R := L_PktheadDivides_p3_b k
def L_PktheadDivides_b (k : Nat) : L_PktheadDivides_t R := fun n1 n2 n3 t4 t5 t6 t7 t8 H K =>
hal H [.int .u8 n1,.int .u8 n2,.int .u8 n3] fun p9 H10 =>
hal H10 [.bool t4,.bool t5,.bool t6,.bool t7,.bool t8] fun p11 H12 =>
hidx p9 3 0 1 fun p13 =>
ldI .u8 H12 p13 fun n14 =>
hidx p9 3 1 1 fun p15 =>
ldI .u8 H12 p15 fun n16 =>
hidx p9 3 2 1 fun p17 =>
ldI .u8 H12 p17 fun n18 =>
ldB H12 (pad p11 0) fun t19 =>
ldB H12 (pad p11 1) fun t20 =>
ldB H12 (pad p11 2) fun t21 =>
ldB H12 (pad p11 3) fun t22 =>
ldB H12 (pad p11 4) fun t23 =>
f0 (Int.tmod (IntKind.wrap .i64 n14) 60) (IntKind.wrap .i64 ((Int.tmod (IntKind.wrap .i64 n16) 60) + 1)) t19 t20 t21 t22 t23 (roH H12) fun q24 l25 c26 H27 =>
ldB (H12 ++ H27.drop H12.length) (pad p11 0) fun t28 =>
ldB (H12 ++ H27.drop H12.length) (pad p11 1) fun t29 =>
ldB (H12 ++ H27.drop H12.length) (pad p11 2) fun t30 =>
ldB (H12 ++ H27.drop H12.length) (pad p11 3) fun t31 =>
ldB (H12 ++ H27.drop H12.length) (pad p11 4) fun t32 =>
f0 (IntKind.wrap .i64 ((Int.tmod (IntKind.wrap .i64 n14) 60) + (IntKind.wrap .i64 ((Int.tmod (IntKind.wrap .i64 n16) 60) + 1)))) (IntKind.wrap .i64 ((Int.tmod (IntKind.wrap .i64 n18) 58) + 1)) t28 t29 t30 t31 t32 (roH (H12 ++ H27.drop H12.length)) fun q33 l34 c35 H36 =>
ldB ((H12 ++ H27.drop H12.length) ++ H36.drop (H12 ++ H27.drop H12.length).length) (pad p11 0) fun t37 =>
ldB ((H12 ++ H27.drop H12.length) ++ H36.drop (H12 ++ H27.drop H12.length).length) (pad p11 1) fun t38 =>
ldB ((H12 ++ H27.drop H12.length) ++ H36.drop (H12 ++ H27.drop H12.length).length) (pad p11 2) fun t39 =>
ldB ((H12 ++ H27.drop H12.length) ++ H36.drop (H12 ++ H27.drop H12.length).length) (pad p11 3) fun t40 =>
ldB ((H12 ++ H27.drop H12.length) ++ H36.drop (H12 ++ H27.drop H12.length).length) (pad p11 4) fun t41 =>
f0 (Int.tmod (IntKind.wrap .i64 n14) 60) (IntKind.wrap .i64 ((IntKind.wrap .i64 ((Int.tmod (IntKind.wrap .i64 n16) 60) + 1)) + (IntKind.wrap .i64 ((Int.tmod (IntKind.wrap .i64 n18) 58) + 1)))) t37 t38 t39 t40 t41 ((H12 ++ H27.drop H12.length) ++ H36.drop (H12 ++ H27.drop H12.length).length) fun q42 l43 c44 H45 =>
z0 (IntKind.wrap .i64 ((Int.tmod (IntKind.wrap .i64 n16) 60) + 1)) (IntKind.wrap .i64 ((Int.tmod (IntKind.wrap .i64 n18) 58) + 1)) q24 l25 c26 q33 l34 c35 q42 l43 c44 H45 (fun q56 l57 c58 q59 l60 c61 q62 l63 c64 =>
z1 (fun q75 l76 c77 q78 l79 c80 q81 l82 c83 =>
z2 (fun q94 l95 c96 q97 l98 c99 q100 l101 c102 =>
hal H45 [] fun p103 H104 =>
happS 1 8 H104 p103 0 0 q94 l95 fun q105 l106 c107 H108 =>
happS 1 8 H108 q105 l106 c107 q97 l98 fun q109 l110 c111 H112 =>
z3 q94 l95 c96 q97 l98 c99 q100 l101 c102 q109 l110 c111 H112 (fun q119 l120 c121 q122 l123 c124 H125 =>
f2 q122 l123 c124 q119 l120 c121 H125 fun t126 =>
bif t126 then (f3 fun t127 =>
K t127 H125)
 else (K false H125))) (fun t128 =>
K t128 H45) k q75 l76 c77 q78 l79 c80 q81 l82 c83 0 H45) (fun t129 =>
K t129 H45) k q56 l57 c58 q59 l60 c61 q62 l63 c64 0 H45) (fun t130 =>
K t130 H45)
def L_PktheadDivides (k : Nat) : L_PktheadDivides_t R := L_PktheadDivides_b (pkthead_Parts k) (R02_SameInts k) L_exampleHoldsq (L_PktheadDivides_p0 k) (L_PktheadDivides_l1 k) (L_PktheadDivides_l2 k) (L_PktheadDivides_p3 k) k
def x7C : Tab R := tcons 20 (x20a f0) <| tcons 26 (x26a f1) <| tcons 19 (x19a f2) <| tcons 9 (x9a f3) <| fun _ _ _ _ => none
def x7s3 : PS := ⟨(.seq (.reg [8,9,10,13,103] []) (.cond (.seq (.reg [9,10,13] (ms [0,0,0,4,12,30,63,0,0,256,768,1920,3968,0,8192,24576,65408,130944,262143,524287])) (.reg [10,13] [])) .leaf)),[8,9,10,13],[.l,.l,.l,.l],⟨[10,13],[],[]⟩⟩
def x7c3 (g : L_PktheadDivides_p3_u R) (H : Heap) (K : XK R) : Option R := g H (kH .normal [10,13] [.l,.l] K)
def x7a3 (f : L_PktheadDivides_p3_t R) : Nat → List Value → Heap → XK R → Option R := jp x7s3 x7c3 f
def x7s2 : PS := ⟨(.seq (.seq (.reg [8,9,10,12,86] []) (.cond .leaf .leaf)) (.seq (.node (.seq (.reg [8,9,10,12,93] []) (.cond (.seq (.reg [4] []) .leaf) .leaf))) (.reg [8,9,10,12] []))),[8,9,10,12],[.l,.l,.l,.n],⟨[],[(2,[8,9,10])],[4]⟩⟩
def x7c2 {T : Type} (g : L_PktheadDivides_l2_q R T) (H : Heap) (K : XK R) : T := g (kN (.exit 2) [8,9,10] [.l,.l,.l] K H) (kN .ret [4] [.b] K H)
def x7a2 (f : L_PktheadDivides_l2_t R) : Nat → List Value → Heap → XK R → Option R := jl x7s2 (L := L_PktheadDivides_l2_t R) x7c2 pH f
def x7s1 : PS := ⟨(.seq (.seq (.reg [8,9,10,11,75] []) (.cond .leaf .leaf)) (.seq (.node (.seq (.reg [8,9,10,11,82] []) (.cond (.seq (.reg [4] []) .leaf) .leaf))) (.reg [8,9,10,11] []))),[8,9,10,11],[.l,.l,.l,.n],⟨[],[(0,[8,9,10])],[4]⟩⟩
def x7c1 {T : Type} (g : L_PktheadDivides_l1_q R T) (H : Heap) (K : XK R) : T := g (kN (.exit 0) [8,9,10] [.l,.l,.l] K H) (kN .ret [4] [.b] K H)
def x7a1 (f : L_PktheadDivides_l1_t R) : Nat → List Value → Heap → XK R → Option R := jl x7s1 (L := L_PktheadDivides_l1_t R) x7c1 pH f
def x7s0 : PS := ⟨(.seq (.reg [8,9,10,71] []) (.cond (.seq (.reg [4] []) .leaf) .leaf)),[6,7,8,9,10],[.n,.n,.l,.l,.l],⟨[8,9,10],[],[4]⟩⟩
def x7c0 (g : L_PktheadDivides_p0_u R) (H : Heap) (K : XK R) : Option R := g H (kN .normal [8,9,10] [.l,.l,.l] K H) (kN .ret [4] [.b] K H)
def x7a0 (f : L_PktheadDivides_p0_t R) : Nat → List Value → Heap → XK R → Option R := jp x7s0 x7c0 f
def x7J (k : Nat) : JTab R := tcons 0 (x7a0 z0 k) <| tcons 1 (x7a1 z1 k) <| tcons 2 (x7a2 z2 k) <| tcons 3 (x7a3 z3 k) <| fun _ _ _ _ => none
def x7t : AT := (.seq (.reg [2,3] []) (.seq (.reg [3,5,6,7] (ms [0,1,3,7,0,16,48,112,240,0,512,1536,3584,7680,15,16895,65535])) (.seq (.reg [6,7,8,9,10] (ms [0,0,0,7,0,0,48,0,0,511,0,0,0,6144,0,32767,65535,131071,262143])) (.seq (.opq 0 x7s0.ls x7s0.out x7s0.t) (.seq (.seq (.reg [8,9,10,11] []) (.node (.opq 1 x7s1.ls x7s1.out (.node x7s1.t)))) (.seq (.seq (.reg [8,9,10,12] []) (.node (.opq 2 x7s2.ls x7s2.out (.node x7s2.t)))) (.seq (.reg [8,9,10,13] []) (.seq (.opq 3 x7s3.ls x7s3.out x7s3.t) (.seq (.reg [4] []) .leaf)))))))))
def x7c (g : L_PktheadDivides_u R) (H : Heap) (K : Value → Heap → Option R) : Option R := g H (rH [.b] K)
def x7a (f : L_PktheadDivides_t R) : List Value → Heap → (Value → Heap → Option R) → Option R := jf 2 [(.a 3),(.i .u8),(.i .u8),(.i .u8),(.a 5),.b,.b,.b,.b,.b] x7c f
variable {f0 f1 f2 f3 z0 z1 z2 z3}
theorem x7e3 (k : Nat) (H : Heap) (K : XK R) : jE Try.prog An 133 (x7C f0 f1 f2 f3) (x7J z0 z1 z2 z3 k) x7s3 (sel [1,1,1,1,1,1,1,0] (bd Try.f7)) H K = mapT (fun g => x7c3 g H K) x7s3.ts (L_PktheadDivides_p3_b k) := by kernel_rfl
theorem x7e2 (k n : Nat) (H : Heap) (K : XK R) : lE Try.prog An 133 (x7C f0 f1 f2 f3) (x7J z0 z1 z2 z3 k) x7s2 (sel [1,1,1,1,1,0,1,0,0] (bd Try.f7)) (x7a2 z2) n H K = mapT (fun g => pH g H) x7s2.ts (x7c2 (L_PktheadDivides_l2_b k) H K (x7c2 z2 H K n)) := by kernel_rfl
theorem x7e1 (k n : Nat) (H : Heap) (K : XK R) : lE Try.prog An 133 (x7C f0 f1 f2 f3) (x7J z0 z1 z2 z3 k) x7s1 (sel [1,1,1,1,0,1,0,0] (bd Try.f7)) (x7a1 z1) n H K = mapT (fun g => pH g H) x7s1.ts (x7c1 (L_PktheadDivides_l1_b k) H K (x7c1 z1 H K n)) := by kernel_rfl
theorem x7e0 (k : Nat) (H : Heap) (K : XK R) : jE Try.prog An 133 (x7C f0 f1 f2 f3) (x7J z0 z1 z2 z3 k) x7s0 (sel [1,1,1,0] (bd Try.f7)) H K = mapT (fun g => x7c0 g H K) x7s0.ts (L_PktheadDivides_p0_b f1 k) := by kernel_rfl
theorem x7e (k : Nat) (H : Heap) (K : Value → Heap → Option R) : fE Try.prog An (x7C f0 f1 f2 f3) (x7J z0 z1 z2 z3 k) x7t Try.f7 [(.a 3),(.i .u8),(.i .u8),(.i .u8),(.a 5),.b,.b,.b,.b,.b] H K = mapT (fun g => x7c g H K) [(.a 3),(.i .u8),(.i .u8),(.i .u8),(.a 5),.b,.b,.b,.b,.b] (L_PktheadDivides_b f0 f2 f3 z0 z1 z2 z3 k) := by kernel_rfl
theorem x7S (R : Type) (k : Nat) : CSound Try.prog (x7C (R := R) (pkthead_Parts k) (L_sum k) (R02_SameInts k) L_exampleHoldsq) := csound_cons (x20cs R k) <| csound_cons (x26cs R k) <| csound_cons (x19cs R k) <| csound_cons (x9cs R k) <| csound_nil
theorem x7j3 (R : Type) (k : Nat) : JS Try.prog 133 (x7a3 (L_PktheadDivides_p3 (R := R) k) k) x7s3.ls x7s3.out (sel [1,1,1,1,1,1,1,0] (bd Try.f7)) := pj (x7S R k) (x7J (L_PktheadDivides_p0 k) (L_PktheadDivides_l1 k) (L_PktheadDivides_l2 k) (L_PktheadDivides_p3 k) k) (by kernel_rfl) (A := True) trivial (by kernel_rfl) (fun _ _ => .trans (x7e3 _ _ _) (by kernel_rfl))
theorem x7j2 (R : Type) (k : Nat) : JS Try.prog 133 (x7a2 (L_PktheadDivides_l2 (R := R) k) k) x7s2.ls x7s2.out (.loop (sel [1,1,1,1,1,0,1,0,0] (bd Try.f7))) := lj (x7S R k) (x7J (L_PktheadDivides_p0 k) (L_PktheadDivides_l1 k) (L_PktheadDivides_l2 k) (L_PktheadDivides_p3 k) k) (by kernel_rfl) (A := True) trivial (by kernel_rfl) (fun _ _ => by kernel_rfl) (fun _ _ _ => .trans (x7e2 _ _ _ _) (by kernel_rfl)) k
theorem x7j1 (R : Type) (k : Nat) : JS Try.prog 133 (x7a1 (L_PktheadDivides_l1 (R := R) k) k) x7s1.ls x7s1.out (.loop (sel [1,1,1,1,0,1,0,0] (bd Try.f7))) := lj (x7S R k) (x7J (L_PktheadDivides_p0 k) (L_PktheadDivides_l1 k) (L_PktheadDivides_l2 k) (L_PktheadDivides_p3 k) k) (by kernel_rfl) (A := True) trivial (by kernel_rfl) (fun _ _ => by kernel_rfl) (fun _ _ _ => .trans (x7e1 _ _ _ _) (by kernel_rfl)) k
theorem x7j0 (R : Type) (k : Nat) : JS Try.prog 133 (x7a0 (L_PktheadDivides_p0 (R := R) k) k) x7s0.ls x7s0.out (sel [1,1,1,0] (bd Try.f7)) := pj (x7S R k) (x7J (L_PktheadDivides_p0 k) (L_PktheadDivides_l1 k) (L_PktheadDivides_l2 k) (L_PktheadDivides_p3 k) k) (by kernel_rfl) (A := True) trivial (by kernel_rfl) (fun _ _ => .trans (x7e0 _ _ _) (by kernel_rfl))
theorem x7cs (R : Type) (k : Nat) : ∀ args H K r,x7a (L_PktheadDivides k) args H K = some (r : R) → ∃ v H',Tri Try.prog 7 args H v H' ∧ K v H' = some r := fj (x7S R k) (x7J (L_PktheadDivides_p0 k) (L_PktheadDivides_l1 k) (L_PktheadDivides_l2 k) (L_PktheadDivides_p3 k) k) Try.func7 (by kernel_rfl) (A := JS Try.prog 133 (x7a0 (L_PktheadDivides_p0 (R := R) k) k) x7s0.ls x7s0.out (sel [1,1,1,0] (bd Try.f7)) ∧ JS Try.prog 133 (x7a1 (L_PktheadDivides_l1 (R := R) k) k) x7s1.ls x7s1.out (.loop (sel [1,1,1,1,0,1,0,0] (bd Try.f7))) ∧ JS Try.prog 133 (x7a2 (L_PktheadDivides_l2 (R := R) k) k) x7s2.ls x7s2.out (.loop (sel [1,1,1,1,1,0,1,0,0] (bd Try.f7))) ∧ JS Try.prog 133 (x7a3 (L_PktheadDivides_p3 (R := R) k) k) x7s3.ls x7s3.out (sel [1,1,1,1,1,1,1,0] (bd Try.f7)) ∧ True) ⟨x7j0 R k,⟨x7j1 R k,⟨x7j2 R k,⟨x7j3 R k,trivial⟩⟩⟩⟩ (by kernel_rfl) (fun _ _ => .trans (x7e _ _ _) (by kernel_rfl))
def L_PktheadDivides_c (R : Type) (k : Nat) : List Value → Heap → (Value → Heap → Option R) → Option R := x7a (L_PktheadDivides k)
theorem L_PktheadDivides_cs (R : Type) (k : Nat) : ∀ args H K r,L_PktheadDivides_c R k args H K = some r → ∃ v H',Tri Try.prog 7 args H v H' ∧ K v H' = some r := x7cs R k
end
end Go.Proofs.Ytmanlfonppfhaaa.Sh
