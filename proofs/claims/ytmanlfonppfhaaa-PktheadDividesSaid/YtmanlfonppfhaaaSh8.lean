/- Lean functions that stand for Go's,over an explicit heap,and the proofs that they do (written by this claim's program sh2.py). -/
import Derived.Test.YtmanlfonppfhaaaShA
set_option maxRecDepth 100000
set_option linter.unusedVariables false
set_option linter.unusedSimpArgs false
namespace Go.Proofs.Ytmanlfonppfhaaa.Sh
open Go.Proofs.Ytmanlfonppfhaaa.FW
/-! ### R14_Segments: function 36 -/
abbrev R14_Segments_p0_u (R : Type) : Type := (Int → Oa → Option R) → (Oa → Nat → Nat → Option R) → Option R
abbrev R14_Segments_p0_t (R : Type) : Type := Int → Oa → R14_Segments_p0_u R
abbrev R14_Segments_p3_u (R : Type) : Type := Heap → (Oa → Oa → Nat → Nat → Int → Int → Bool → Option R) → Option R
abbrev R14_Segments_p3_t (R : Type) : Type := Oa → Oa → Nat → Nat → Int → Int → R14_Segments_p3_u R
abbrev R14_Segments_p2_u (R : Type) : Type := Heap → (Oa → Oa → Nat → Nat → Int → Int → Option R) → Option R
abbrev R14_Segments_p2_t (R : Type) : Type := Oa → Oa → Nat → Nat → Int → Int → R14_Segments_p2_u R
abbrev R14_Segments_l1_r (R : Type) : Type := Oa → Oa → Nat → Nat → Int → Heap → Option R
abbrev R14_Segments_l1_q (R T : Type) : Type := (Oa → Nat → Nat → Heap → Option R) → T
abbrev R14_Segments_l1_t (R : Type) : Type := R14_Segments_l1_q R (Nat → R14_Segments_l1_r R)
abbrev R14_Segments_u (R : Type) : Type := Heap → (Oa → Nat → Nat → Heap → Option R) → Option R
abbrev R14_Segments_t (R : Type) : Type := Int → Bool → Bool → Bool → Bool → Bool → R14_Segments_u R
section
variable {R : Type} (z0 : R14_Segments_p0_t R) (z1 : R14_Segments_l1_t R) (z2 : R14_Segments_p2_t R) (z3 : R14_Segments_p3_t R)
def R14_Segments_p0_b (k : Nat) : R14_Segments_p0_t R := fun n1 p2 KN KR =>
bif decide (n1 < 1) then (KR none 0 0)
 else (bif decide (n1 > 178) then (KR none 0 0)
 else (KN n1 p2))
def R14_Segments_p0 (k : Nat) : R14_Segments_p0_t R := R14_Segments_p0_b k
def R14_Segments_p3_b (k : Nat) : R14_Segments_p3_t R := fun p1 q2 l3 c4 n5 n6 H KN =>
hfad 0 p1 fun p7 =>
ldB H p7 fun t8 =>
bif t8 then (KN p1 q2 l3 c4 n5 n6 (((l3 : Nat) : Int) == 0))
 else (KN p1 q2 l3 c4 n5 n6 false)
def R14_Segments_p3 (k : Nat) : R14_Segments_p3_t R := R14_Segments_p3_b k
def R14_Segments_p2_b (k : Nat) : R14_Segments_p2_t R := fun p1 q2 l3 c4 n5 n6 H KN =>
hfad 1 p1 fun p7 =>
ldB H p7 fun t8 =>
bif t8 then (KN p1 q2 l3 c4 n5 1)
 else (z3 p1 q2 l3 c4 n5 n6 H (fun p16 q17 l18 c19 n20 n21 t22 =>
bif t22 then (KN p16 q17 l18 c19 n20 (imn n20 10))
 else (hfad 0 p16 fun p23 =>
ldB H p23 fun t24 =>
bif t24 then (KN p16 q17 l18 c19 n20 (imn n20 (IntKind.wrap .i64 (1 + (Int.tmod ((l18 : Nat) : Int) 2)))))
 else (KN p16 q17 l18 c19 n20 n21))))
def R14_Segments_p2 (k : Nat) : R14_Segments_p2_t R := R14_Segments_p2_b (R14_Segments_p3 k) k
def R14_Segments_l1_b (k : Nat) : R14_Segments_l1_q R (R14_Segments_l1_r R → R14_Segments_l1_r R) := fun KE0 rec p1 q2 l3 c4 n5 H =>
bif decide (n5 > 0) then (z2 p1 q2 l3 c4 n5 n5 H (fun p12 q13 l14 c15 n16 n17 =>
hal H [.int .i64 n17] fun p18 H19 =>
happS 1 8 H19 q13 l14 c15 p18 1 fun q20 l21 c22 H23 =>
rec p12 q20 l21 c22 (IntKind.wrap .i64 (n16 - n17)) H23))
 else (KE0 q2 l3 c4 H)
def R14_Segments_l1 (k : Nat) : R14_Segments_l1_t R
  | KE0,0 => fun _ _ _ _ _ _ => none
  | KE0,n + 1 => R14_Segments_l1_b (R14_Segments_p2 k) k KE0 (R14_Segments_l1 k KE0 n)
def R14_Segments_b (k : Nat) : R14_Segments_t R := fun n1 t2 t3 t4 t5 t6 H K =>
hal H [.bool t2,.bool t3,.bool t4,.bool t5,.bool t6] fun p7 H8 =>
z0 n1 p7 (fun n14 p15 =>
z1 (fun q19 l20 c21 H22 =>
K q19 l20 c21 H22) k p15 none 0 0 n14 H8) (fun q23 l24 c25 =>
K q23 l24 c25 H8)
def R14_Segments (k : Nat) : R14_Segments_t R := R14_Segments_b (R14_Segments_p0 k) (R14_Segments_l1 k) k
def x36C : Tab R := fun _ _ _ _ => none
def x36s3 : PS := ⟨(.reg [3,5,6,7,26] []),[3,5,6,7],[.p,.l,.n,.n],⟨[3,5,6,7,26],[],[]⟩⟩
def x36c3 (g : R14_Segments_p3_u R) (H : Heap) (K : XK R) : Option R := g H (kN .normal [3,5,6,7,26] [.p,.l,.n,.n,.b] K H)
def x36a3 (f : R14_Segments_p3_t R) : Nat → List Value → Heap → XK R → Option R := jp x36s3 x36c3 f
def x36s2 : PS := ⟨(.seq (.reg [3,5,6,7,19] []) (.cond (.reg [3,5,6,7] []) (.seq (.opq 3 x36s3.ls x36s3.out x36s3.t) (.cond (.reg [3,5,6,7] []) (.seq (.reg [3,5,6,7,30] []) (.cond (.reg [3,5,6,7] []) .leaf)))))),[3,5,6,7],[.p,.l,.n,.n],⟨[3,5,6,7],[],[]⟩⟩
def x36c2 (g : R14_Segments_p2_u R) (H : Heap) (K : XK R) : Option R := g H (kN .normal [3,5,6,7] [.p,.l,.n,.n] K H)
def x36a2 (f : R14_Segments_p2_t R) : Nat → List Value → Heap → XK R → Option R := jp x36s2 x36c2 f
def x36s1 : PS := ⟨(.seq (.seq (.reg [3,5,6,16] []) (.cond .leaf .leaf)) (.node (.seq (.reg [3,5,6,7] []) (.seq (.opq 2 x36s2.ls x36s2.out x36s2.t) (.seq (.reg [3,5,6,7] []) (.reg [3,5,6] [])))))),[3,5,6],[.p,.l,.n],⟨[],[(0,[5])],[]⟩⟩
def x36c1 {T : Type} (g : R14_Segments_l1_q R T) (H : Heap) (K : XK R) : T := g (kH (.exit 0) [5] [.l] K)
def x36a1 (f : R14_Segments_l1_t R) : Nat → List Value → Heap → XK R → Option R := jl x36s1 (L := R14_Segments_l1_t R) x36c1 pH f
def x36s0 : PS := ⟨(.seq (.reg [0,3,13] []) (.cond (.seq (.reg [4] []) .leaf) .leaf)),[0,3],[.n,.p],⟨[0,3],[],[4]⟩⟩
def x36c0 (g : R14_Segments_p0_u R) (H : Heap) (K : XK R) : Option R := g (kN .normal [0,3] [.n,.p] K H) (kN .ret [4] [.l] K H)
def x36a0 (f : R14_Segments_p0_t R) : Nat → List Value → Heap → XK R → Option R := jp x36s0 x36c0 f
def x36J (k : Nat) : JTab R := tcons 0 (x36a0 z0 k) <| tcons 1 (x36a1 z1 k) <| tcons 2 (x36a2 z2 k) <| tcons 3 (x36a3 z3 k) <| fun _ _ _ _ => none
def x36t : AT := (.seq (.reg [0,3] []) (.seq (.opq 0 x36s0.ls x36s0.out x36s0.t) (.seq (.reg [0,3,5] []) (.seq (.reg [3,5,6] []) (.seq (.node (.opq 1 x36s1.ls x36s1.out (.node x36s1.t))) (.seq (.reg [4] []) .leaf))))))
def x36c (g : R14_Segments_u R) (H : Heap) (K : Value → Heap → Option R) : Option R := g H (rH [.l] K)
def x36a (f : R14_Segments_t R) : List Value → Heap → (Value → Heap → Option R) → Option R := jf 2 [.n,(.a 5),.b,.b,.b,.b,.b] x36c f
variable {z0 z1 z2 z3}
theorem x36e3 (k : Nat) (H : Heap) (K : XK R) : jE Try.prog An 45 (x36C) (x36J z0 z1 z2 z3 k) x36s3 (sel [1,1,1,1,0,0,0,1,0,1,0,1,1,0] (bd Try.f36)) H K = mapT (fun g => x36c3 g H K) x36s3.ts (R14_Segments_p3_b k) := by kernel_rfl
theorem x36e2 (k : Nat) (H : Heap) (K : XK R) : jE Try.prog An 45 (x36C) (x36J z0 z1 z2 z3 k) x36s2 (sel [1,1,1,1,0,0,0,1,0,1,0] (bd Try.f36)) H K = mapT (fun g => x36c2 g H K) x36s2.ts (R14_Segments_p2_b z3 k) := by kernel_rfl
theorem x36e1 (k n : Nat) (H : Heap) (K : XK R) : lE Try.prog An 45 (x36C) (x36J z0 z1 z2 z3 k) x36s1 (sel [1,1,1,1,0,0,0] (bd Try.f36)) (x36a1 z1) n H K = mapT (fun g => pH g H) x36s1.ts (x36c1 (R14_Segments_l1_b z2 k) H K (x36c1 z1 H K n)) := by kernel_rfl
theorem x36e0 (k : Nat) (H : Heap) (K : XK R) : jE Try.prog An 45 (x36C) (x36J z0 z1 z2 z3 k) x36s0 (sel [1,0] (bd Try.f36)) H K = mapT (fun g => x36c0 g H K) x36s0.ts (R14_Segments_p0_b k) := by kernel_rfl
theorem x36e (k : Nat) (H : Heap) (K : Value → Heap → Option R) : fE Try.prog An (x36C) (x36J z0 z1 z2 z3 k) x36t Try.f36 [.n,(.a 5),.b,.b,.b,.b,.b] H K = mapT (fun g => x36c g H K) [.n,(.a 5),.b,.b,.b,.b,.b] (R14_Segments_b z0 z1 k) := by kernel_rfl
theorem x36S (R : Type) (k : Nat) : CSound Try.prog (x36C (R := R)) := csound_nil
theorem x36j3 (R : Type) (k : Nat) : JS Try.prog 45 (x36a3 (R14_Segments_p3 (R := R) k) k) x36s3.ls x36s3.out (sel [1,1,1,1,0,0,0,1,0,1,0,1,1,0] (bd Try.f36)) := pj (x36S R k) (x36J (R14_Segments_p0 k) (R14_Segments_l1 k) (R14_Segments_p2 k) (R14_Segments_p3 k) k) (by kernel_rfl) (A := True) trivial (by kernel_rfl) (fun _ _ => .trans (x36e3 _ _ _) (by kernel_rfl))
theorem x36j2 (R : Type) (k : Nat) : JS Try.prog 45 (x36a2 (R14_Segments_p2 (R := R) k) k) x36s2.ls x36s2.out (sel [1,1,1,1,0,0,0,1,0,1,0] (bd Try.f36)) := pj (x36S R k) (x36J (R14_Segments_p0 k) (R14_Segments_l1 k) (R14_Segments_p2 k) (R14_Segments_p3 k) k) (by kernel_rfl) (A := JS Try.prog 45 (x36a3 (R14_Segments_p3 (R := R) k) k) x36s3.ls x36s3.out (sel [1,1,1,1,0,0,0,1,0,1,0,1,1,0] (bd Try.f36)) ∧ True) ⟨x36j3 R k,trivial⟩ (by kernel_rfl) (fun _ _ => .trans (x36e2 _ _ _) (by kernel_rfl))
theorem x36j1 (R : Type) (k : Nat) : JS Try.prog 45 (x36a1 (R14_Segments_l1 (R := R) k) k) x36s1.ls x36s1.out (.loop (sel [1,1,1,1,0,0,0] (bd Try.f36))) := lj (x36S R k) (x36J (R14_Segments_p0 k) (R14_Segments_l1 k) (R14_Segments_p2 k) (R14_Segments_p3 k) k) (by kernel_rfl) (A := JS Try.prog 45 (x36a2 (R14_Segments_p2 (R := R) k) k) x36s2.ls x36s2.out (sel [1,1,1,1,0,0,0,1,0,1,0] (bd Try.f36)) ∧ True) ⟨x36j2 R k,trivial⟩ (by kernel_rfl) (fun _ _ => by kernel_rfl) (fun _ _ _ => .trans (x36e1 _ _ _ _) (by kernel_rfl)) k
theorem x36j0 (R : Type) (k : Nat) : JS Try.prog 45 (x36a0 (R14_Segments_p0 (R := R) k) k) x36s0.ls x36s0.out (sel [1,0] (bd Try.f36)) := pj (x36S R k) (x36J (R14_Segments_p0 k) (R14_Segments_l1 k) (R14_Segments_p2 k) (R14_Segments_p3 k) k) (by kernel_rfl) (A := True) trivial (by kernel_rfl) (fun _ _ => .trans (x36e0 _ _ _) (by kernel_rfl))
theorem x36cs (R : Type) (k : Nat) : ∀ args H K r,x36a (R14_Segments k) args H K = some (r : R) → ∃ v H',Tri Try.prog 36 args H v H' ∧ K v H' = some r := fj (x36S R k) (x36J (R14_Segments_p0 k) (R14_Segments_l1 k) (R14_Segments_p2 k) (R14_Segments_p3 k) k) Try.func36 (by kernel_rfl) (A := JS Try.prog 45 (x36a0 (R14_Segments_p0 (R := R) k) k) x36s0.ls x36s0.out (sel [1,0] (bd Try.f36)) ∧ JS Try.prog 45 (x36a1 (R14_Segments_l1 (R := R) k) k) x36s1.ls x36s1.out (.loop (sel [1,1,1,1,0,0,0] (bd Try.f36))) ∧ True) ⟨x36j0 R k,⟨x36j1 R k,trivial⟩⟩ (by kernel_rfl) (fun _ _ => .trans (x36e _ _ _) (by kernel_rfl))
end
/-! ### R26_Parts: function 21 -/
abbrev R26_Parts_p0_u (R : Type) : Type := (Int → Int → Oa → Option R) → (Oa → Nat → Nat → Option R) → Option R
abbrev R26_Parts_p0_t (R : Type) : Type := Int → Int → Oa → R26_Parts_p0_u R
abbrev R26_Parts_p2_u (R : Type) : Type := Heap → (Int → Int → Oa → Nat → Nat → Int → Oa → Nat → Nat → Int → Heap → Option R) → Option R
abbrev R26_Parts_p2_t (R : Type) : Type := Int → Int → Oa → Nat → Nat → Int → Oa → Nat → Nat → Int → R26_Parts_p2_u R
abbrev R26_Parts_l1_r (R : Type) : Type := Int → Int → Oa → Nat → Nat → Int → Oa → Nat → Nat → Int → Heap → Option R
abbrev R26_Parts_l1_q (R T : Type) : Type := (Oa → Nat → Nat → Heap → Option R) → T
abbrev R26_Parts_l1_t (R : Type) : Type := R26_Parts_l1_q R (Nat → R26_Parts_l1_r R)
abbrev R26_Parts_u (R : Type) : Type := Heap → (Oa → Nat → Nat → Heap → Option R) → Option R
abbrev R26_Parts_t (R : Type) : Type := Int → Int → Bool → Bool → Bool → Bool → Bool → R26_Parts_u R
section
variable {R : Type} (f0 : R14_Segments_t R) (z0 : R26_Parts_p0_t R) (z1 : R26_Parts_l1_t R) (z2 : R26_Parts_p2_t R)
def R26_Parts_p0_b (k : Nat) : R26_Parts_p0_t R := fun n1 n2 p3 KN KR =>
bif decide (n1 < 0) then (KR none 0 0)
 else (bif decide (n2 < 1) then (KR none 0 0)
 else (bif decide (n1 > 178) then (KR none 0 0)
 else (bif decide (n2 > (IntKind.wrap .i64 (178 - n1))) then (KR none 0 0)
 else (KN n1 n2 p3))))
def R26_Parts_p0 (k : Nat) : R26_Parts_p0_t R := R26_Parts_p0_b k
def R26_Parts_p2_b (k : Nat) : R26_Parts_p2_t R := fun n1 n2 q3 l4 c5 n6 q7 l8 c9 n10 H KN =>
hidx q7 l8 n10 1 fun p11 =>
ldI .i64 H p11 fun n12 =>
bif decide ((IntKind.wrap .i64 ((imn (IntKind.wrap .i64 (n6 + n12)) (IntKind.wrap .i64 (n1 + n2))) - (imx n6 n1))) > 0) then (hal H [.int .i64 (IntKind.wrap .i64 ((imn (IntKind.wrap .i64 (n6 + n12)) (IntKind.wrap .i64 (n1 + n2))) - (imx n6 n1)))] fun p13 H14 =>
happS 1 8 H14 q3 l4 c5 p13 1 fun q15 l16 c17 H18 =>
KN n1 n2 q15 l16 c17 (IntKind.wrap .i64 (n6 + n12)) q7 l8 c9 n10 H18)
 else (KN n1 n2 q3 l4 c5 (IntKind.wrap .i64 (n6 + n12)) q7 l8 c9 n10 H)
def R26_Parts_p2 (k : Nat) : R26_Parts_p2_t R := R26_Parts_p2_b k
def R26_Parts_l1_b (k : Nat) : R26_Parts_l1_q R (R26_Parts_l1_r R → R26_Parts_l1_r R) := fun KE0 rec n1 n2 q3 l4 c5 n6 q7 l8 c9 n10 H =>
bif decide (n10 < ((l8 : Nat) : Int)) then (z2 n1 n2 q3 l4 c5 n6 q7 l8 c9 n10 H (fun n21 n22 q23 l24 c25 n26 q27 l28 c29 n30 H31 =>
rec n21 n22 q23 l24 c25 n26 q27 l28 c29 (IntKind.wrap .i64 (n30 + 1)) H31))
 else (KE0 q3 l4 c5 H)
def R26_Parts_l1 (k : Nat) : R26_Parts_l1_t R
  | KE0,0 => fun _ _ _ _ _ _ _ _ _ _ _ => none
  | KE0,n + 1 => R26_Parts_l1_b (R26_Parts_p2 k) k KE0 (R26_Parts_l1 k KE0 n)
def R26_Parts_b (k : Nat) : R26_Parts_t R := fun n1 n2 t3 t4 t5 t6 t7 H K =>
hal H [.bool t3,.bool t4,.bool t5,.bool t6,.bool t7] fun p8 H9 =>
z0 n1 n2 p8 (fun n16 n17 p18 =>
ldB H9 (pad p18 0) fun t19 =>
ldB H9 (pad p18 1) fun t20 =>
ldB H9 (pad p18 2) fun t21 =>
ldB H9 (pad p18 3) fun t22 =>
ldB H9 (pad p18 4) fun t23 =>
f0 178 t19 t20 t21 t22 t23 H9 fun q24 l25 c26 H27 =>
z1 (fun q31 l32 c33 H34 =>
K q31 l32 c33 H34) k n16 n17 none 0 0 0 q24 l25 c26 0 H27) (fun q35 l36 c37 =>
K q35 l36 c37 H9)
def R26_Parts (k : Nat) : R26_Parts_t R := R26_Parts_b (R14_Segments k) (R26_Parts_p0 k) (R26_Parts_l1 k) k
def x21C : Tab R := tcons 36 (x36a f0) <| fun _ _ _ _ => none
def x21s2 : PS := ⟨(.node (.seq (.reg [0,1,7,8,9,10,11] []) (.seq (.reg [0,1,7,8,9,10,11] []) (.seq (.reg [0,1,7,8,9,10,12] []) (.seq (.reg [0,1,7,8,9,10,12,54] []) (.cond (.reg [0,1,7,8,9,10] []) .leaf)))))),[0,1,7,8,9,10],[.n,.n,.l,.n,.l,.n],⟨[0,1,7,8,9,10],[],[]⟩⟩
def x21c2 (g : R26_Parts_p2_u R) (H : Heap) (K : XK R) : Option R := g H (kH .normal [0,1,7,8,9,10] [.n,.n,.l,.n,.l,.n] K)
def x21a2 (f : R26_Parts_p2_t R) : Nat → List Value → Heap → XK R → Option R := jp x21s2 x21c2 f
def x21s1 : PS := ⟨(.seq (.seq (.reg [0,1,7,8,9,10,34] []) (.cond .leaf .leaf)) (.seq (.opq 2 x21s2.ls x21s2.out x21s2.t) (.reg [0,1,7,8,9,10] []))),[0,1,7,8,9,10],[.n,.n,.l,.n,.l,.n],⟨[],[(0,[7])],[]⟩⟩
def x21c1 {T : Type} (g : R26_Parts_l1_q R T) (H : Heap) (K : XK R) : T := g (kH (.exit 0) [7] [.l] K)
def x21a1 (f : R26_Parts_l1_t R) : Nat → List Value → Heap → XK R → Option R := jl x21s1 (L := R26_Parts_l1_t R) x21c1 pH f
def x21s0 : PS := ⟨(.seq (.reg [0,1,5,28] []) (.cond (.seq (.reg [6] []) .leaf) .leaf)),[0,1,5],[.n,.n,.p],⟨[0,1,5],[],[6]⟩⟩
def x21c0 (g : R26_Parts_p0_u R) (H : Heap) (K : XK R) : Option R := g (kN .normal [0,1,5] [.n,.n,.p] K H) (kN .ret [6] [.l] K H)
def x21a0 (f : R26_Parts_p0_t R) : Nat → List Value → Heap → XK R → Option R := jp x21s0 x21c0 f
def x21J (k : Nat) : JTab R := tcons 0 (x21a0 z0 k) <| tcons 1 (x21a1 z1 k) <| tcons 2 (x21a2 z2 k) <| fun _ _ _ _ => none
def x21t : AT := (.seq (.reg [0,1,5] []) (.seq (.opq 0 x21s0.ls x21s0.out x21s0.t) (.seq (.reg [0,1,5,7] []) (.seq (.reg [0,1,5,7,8] []) (.seq (.reg [0,1,7,8,9] []) (.seq (.seq (.reg [0,1,7,8,9,10] []) (.node (.opq 1 x21s1.ls x21s1.out (.node x21s1.t)))) (.seq (.reg [6] []) .leaf)))))))
def x21c (g : R26_Parts_u R) (H : Heap) (K : Value → Heap → Option R) : Option R := g H (rH [.l] K)
def x21a (f : R26_Parts_t R) : List Value → Heap → (Value → Heap → Option R) → Option R := jf 3 [.n,.n,(.a 5),.b,.b,.b,.b,.b] x21c f
variable {f0 z0 z1 z2}
theorem x21e2 (k : Nat) (H : Heap) (K : XK R) : jE Try.prog An 60 (x21C f0) (x21J z0 z1 z2 k) x21s2 (sel [1,1,1,1,1,0,1,0,0,1,0] (bd Try.f21)) H K = mapT (fun g => x21c2 g H K) x21s2.ts (R26_Parts_p2_b k) := by kernel_rfl
theorem x21e1 (k n : Nat) (H : Heap) (K : XK R) : lE Try.prog An 60 (x21C f0) (x21J z0 z1 z2 k) x21s1 (sel [1,1,1,1,1,0,1,0,0] (bd Try.f21)) (x21a1 z1) n H K = mapT (fun g => pH g H) x21s1.ts (x21c1 (R26_Parts_l1_b z2 k) H K (x21c1 z1 H K n)) := by kernel_rfl
theorem x21e0 (k : Nat) (H : Heap) (K : XK R) : jE Try.prog An 60 (x21C f0) (x21J z0 z1 z2 k) x21s0 (sel [1,0] (bd Try.f21)) H K = mapT (fun g => x21c0 g H K) x21s0.ts (R26_Parts_p0_b k) := by kernel_rfl
theorem x21e (k : Nat) (H : Heap) (K : Value → Heap → Option R) : fE Try.prog An (x21C f0) (x21J z0 z1 z2 k) x21t Try.f21 [.n,.n,(.a 5),.b,.b,.b,.b,.b] H K = mapT (fun g => x21c g H K) [.n,.n,(.a 5),.b,.b,.b,.b,.b] (R26_Parts_b f0 z0 z1 k) := by kernel_rfl
theorem x21S (R : Type) (k : Nat) : CSound Try.prog (x21C (R := R) (R14_Segments k)) := csound_cons (x36cs R k) <| csound_nil
theorem x21j2 (R : Type) (k : Nat) : JS Try.prog 60 (x21a2 (R26_Parts_p2 (R := R) k) k) x21s2.ls x21s2.out (sel [1,1,1,1,1,0,1,0,0,1,0] (bd Try.f21)) := pj (x21S R k) (x21J (R26_Parts_p0 k) (R26_Parts_l1 k) (R26_Parts_p2 k) k) (by kernel_rfl) (A := True) trivial (by kernel_rfl) (fun _ _ => .trans (x21e2 _ _ _) (by kernel_rfl))
theorem x21j1 (R : Type) (k : Nat) : JS Try.prog 60 (x21a1 (R26_Parts_l1 (R := R) k) k) x21s1.ls x21s1.out (.loop (sel [1,1,1,1,1,0,1,0,0] (bd Try.f21))) := lj (x21S R k) (x21J (R26_Parts_p0 k) (R26_Parts_l1 k) (R26_Parts_p2 k) k) (by kernel_rfl) (A := JS Try.prog 60 (x21a2 (R26_Parts_p2 (R := R) k) k) x21s2.ls x21s2.out (sel [1,1,1,1,1,0,1,0,0,1,0] (bd Try.f21)) ∧ True) ⟨x21j2 R k,trivial⟩ (by kernel_rfl) (fun _ _ => by kernel_rfl) (fun _ _ _ => .trans (x21e1 _ _ _ _) (by kernel_rfl)) k
theorem x21j0 (R : Type) (k : Nat) : JS Try.prog 60 (x21a0 (R26_Parts_p0 (R := R) k) k) x21s0.ls x21s0.out (sel [1,0] (bd Try.f21)) := pj (x21S R k) (x21J (R26_Parts_p0 k) (R26_Parts_l1 k) (R26_Parts_p2 k) k) (by kernel_rfl) (A := True) trivial (by kernel_rfl) (fun _ _ => .trans (x21e0 _ _ _) (by kernel_rfl))
theorem x21cs (R : Type) (k : Nat) : ∀ args H K r,x21a (R26_Parts k) args H K = some (r : R) → ∃ v H',Tri Try.prog 21 args H v H' ∧ K v H' = some r := fj (x21S R k) (x21J (R26_Parts_p0 k) (R26_Parts_l1 k) (R26_Parts_p2 k) k) Try.func21 (by kernel_rfl) (A := JS Try.prog 60 (x21a0 (R26_Parts_p0 (R := R) k) k) x21s0.ls x21s0.out (sel [1,0] (bd Try.f21)) ∧ JS Try.prog 60 (x21a1 (R26_Parts_l1 (R := R) k) k) x21s1.ls x21s1.out (.loop (sel [1,1,1,1,1,0,1,0,0] (bd Try.f21))) ∧ True) ⟨x21j0 R k,⟨x21j1 R k,trivial⟩⟩ (by kernel_rfl) (fun _ _ => .trans (x21e _ _ _) (by kernel_rfl))
end
end Go.Proofs.Ytmanlfonppfhaaa.Sh
