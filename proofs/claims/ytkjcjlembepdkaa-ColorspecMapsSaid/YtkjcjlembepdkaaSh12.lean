/- Lean functions that stand for Go's,over an explicit heap,and the proofs that they do (written by this claim's program sh2.py). -/
import Derived.Test.YtkjcjlembepdkaaShA
import Derived.Test.YtkjcjlembepdkaaSh2
import Derived.Test.YtkjcjlembepdkaaSh6
import Derived.Test.YtkjcjlembepdkaaSh7
import Derived.Test.YtkjcjlembepdkaaSh8
import Derived.Test.YtkjcjlembepdkaaShD
set_option maxRecDepth 100000
set_option linter.unusedVariables false
set_option linter.unusedSimpArgs false
namespace Go.Proofs.Ytkjcjlembepdkaa.Sh
open Go.Proofs.Ytkjcjlembepdkaa.FW
/-! ### R46_copied: function 33 -/
abbrev R46_copied_u (R : Type) : Type := Heap → (Int → Int → Int → Int → Oa → Nat → Nat → Heap → Option R) → Option R
abbrev R46_copied_t (R : Type) : Type := Int → Int → Int → Int → Oa → Nat → Nat → R46_copied_u R
section
variable {R : Type}
def R46_copied_b (k : Nat) : R46_copied_t R := fun n1 n2 n3 n4 q5 l6 c7 H K =>
hal H [.int .i64 n1,.int .i64 n2,.int .i64 n3,.int .i64 n4,.slice q5 l6 c7] fun p8 H9 =>
hal H9 [.int .i64 0,.int .i64 0,.int .i64 0,.int .i64 0,.slice none 0 0] fun p10 H11 =>
hfad 0 p8 fun p12 =>
ldI .i64 H11 (pad p12 0) fun n13 =>
ldI .i64 H11 (pad p12 1) fun n14 =>
ldI .i64 H11 (pad p12 2) fun n15 =>
ldI .i64 H11 (pad p12 3) fun n16 =>
hal H11 [] fun p17 H18 =>
hfad 4 p8 fun p19 =>
ldL H18 p19 fun q20 l21 c22 =>
hapnS 1 8 H18 p17 0 0 q20 l21 fun q23 l24 c25 H26 =>
hst H26 p10 [.int .i64 n13,.int .i64 n14,.int .i64 n15,.int .i64 n16,.slice q23 l24 c25] fun H27 =>
ldI .i64 H27 (pad p10 0) fun n28 =>
ldI .i64 H27 (pad p10 1) fun n29 =>
ldI .i64 H27 (pad p10 2) fun n30 =>
ldI .i64 H27 (pad p10 3) fun n31 =>
ldL H27 (pad p10 4) fun q32 l33 c34 =>
K n28 n29 n30 n31 q32 l33 c34 H27
def R46_copied : R46_copied_t R := R46_copied_b 0
def x33C : Tab R := fun _ _ _ _ => none
def x33J (k : Nat) : JTab R := fun _ _ _ _ => none
def x33t : AT := (.seq (.reg [1,2] []) (.seq (.reg [2] (ms [0,1,0,0,8,28,63,127])) .leaf))
def x33c (g : R46_copied_u R) (H : Heap) (K : Value → Heap → Option R) : Option R := g H (rH [(.a 5),.n,.n,.n,.n,.l] K)
def x33a (f : R46_copied_t R) : List Value → Heap → (Value → Heap → Option R) → Option R := jf 1 [(.a 5),.n,.n,.n,.n,.l] x33c f
theorem x33e (k : Nat) (H : Heap) (K : Value → Heap → Option R) : fE Try.prog An (x33C) (x33J k) x33t Try.f33 [(.a 5),.n,.n,.n,.n,.l] H K = mapT (fun g => x33c g H K) [(.a 5),.n,.n,.n,.n,.l] (R46_copied_b k) := by kernel_rfl
theorem x33S (R : Type) (k : Nat) : CSound Try.prog (x33C (R := R)) := csound_nil
theorem x33cs (R : Type) (k : Nat) : ∀ args H K r,x33a (R46_copied) args H K = some (r : R) → ∃ v H',Tri Try.prog 33 args H v H' ∧ K v H' = some r := fj (x33S R k) (x33J 0) Try.func33 (by kernel_rfl) (A := True) trivial (by kernel_rfl) (fun _ _ => .trans (x33e _ _ _) (by kernel_rfl))
end
/-! ### R07_power: function 48 -/
abbrev R07_power_l0_r (R : Type) : Type := Int → Int → Int → Option R
abbrev R07_power_l0_q (R T : Type) : Type := (Int → Option R) → T
abbrev R07_power_l0_t (R : Type) : Type := R07_power_l0_q R (Nat → R07_power_l0_r R)
abbrev R07_power_u (R : Type) : Type := (Int → Option R) → Option R
abbrev R07_power_t (R : Type) : Type := Int → R07_power_u R
section
variable {R : Type} (z0 : R07_power_l0_t R)
def R07_power_l0_b (k : Nat) : R07_power_l0_q R (R07_power_l0_r R → R07_power_l0_r R) := fun KE0 rec n1 n2 n3 =>
bif decide (n3 < n1) then (rec n1 (IntKind.wrap .i64 (2 * n2)) (IntKind.wrap .i64 (n3 + 1)))
 else (KE0 n2)
def R07_power_l0 (k : Nat) : R07_power_l0_t R
  | KE0,0 => fun _ _ _ => none
  | KE0,n + 1 => R07_power_l0_b k KE0 (R07_power_l0 k KE0 n)
def R07_power_b (k : Nat) : R07_power_t R := fun n1 K =>
z0 (fun n3 =>
K n3) k n1 1 0
def R07_power (k : Nat) : R07_power_t R := R07_power_b (R07_power_l0 k) k
def x48C : Tab R := fun _ _ _ _ => none
def x48s0 : PS := ⟨(.seq (.seq (.reg [0,3,4,7] []) (.cond .leaf .leaf)) (.seq (.node (.reg [0,3,4] [])) (.reg [0,3,4] []))),[0,3,4],[.n,.n,.n],⟨[],[(0,[3])],[]⟩⟩
def x48c0 {T : Type} (g : R07_power_l0_q R T) (H : Heap) (K : XK R) : T := g (kN (.exit 0) [3] [.n] K H)
def x48a0 (f : R07_power_l0_t R) : Nat → List Value → Heap → XK R → Option R := jl x48s0 (L := R07_power_l0_t R) x48c0 pN f
def x48J (k : Nat) : JTab R := tcons 0 (x48a0 z0 k) <| fun _ _ _ _ => none
def x48t : AT := (.seq (.reg [0] []) (.seq (.reg [0,3] []) (.seq (.seq (.reg [0,3,4] []) (.node (.opq 0 x48s0.ls x48s0.out (.node x48s0.t)))) (.seq (.reg [2] []) .leaf))))
def x48c (g : R07_power_u R) (H : Heap) (K : Value → Heap → Option R) : Option R := g (rN [.n] K H)
def x48a (f : R07_power_t R) : List Value → Heap → (Value → Heap → Option R) → Option R := jf 1 [.n] x48c f
variable {z0}
theorem x48e0 (k n : Nat) (H : Heap) (K : XK R) : lE Try.prog An 13 (x48C) (x48J z0 k) x48s0 (sel [1,1,0,1,0,0] (bd Try.f48)) (x48a0 z0) n H K = mapT (fun g => pN g H) x48s0.ts (x48c0 (R07_power_l0_b k) H K (x48c0 z0 H K n)) := by kernel_rfl
theorem x48e (k : Nat) (H : Heap) (K : Value → Heap → Option R) : fE Try.prog An (x48C) (x48J z0 k) x48t Try.f48 [.n] H K = mapT (fun g => x48c g H K) [.n] (R07_power_b z0 k) := by kernel_rfl
theorem x48S (R : Type) (k : Nat) : CSound Try.prog (x48C (R := R)) := csound_nil
theorem x48j0 (R : Type) (k : Nat) : JS Try.prog 13 (x48a0 (R07_power_l0 (R := R) k) k) x48s0.ls x48s0.out (.loop (sel [1,1,0,1,0,0] (bd Try.f48))) := lj (x48S R k) (x48J (R07_power_l0 k) k) (by kernel_rfl) (A := True) trivial (by kernel_rfl) (fun _ _ => by kernel_rfl) (fun _ _ _ => .trans (x48e0 _ _ _ _) (by kernel_rfl)) k
theorem x48cs (R : Type) (k : Nat) : ∀ args H K r,x48a (R07_power k) args H K = some (r : R) → ∃ v H',Tri Try.prog 48 args H v H' ∧ K v H' = some r := fj (x48S R k) (x48J (R07_power_l0 k) k) Try.func48 (by kernel_rfl) (A := JS Try.prog 13 (x48a0 (R07_power_l0 (R := R) k) k) x48s0.ls x48s0.out (.loop (sel [1,1,0,1,0,0] (bd Try.f48))) ∧ True) ⟨x48j0 R k,trivial⟩ (by kernel_rfl) (fun _ _ => .trans (x48e _ _ _) (by kernel_rfl))
end
/-! ### R07_Range: function 34 -/
abbrev R07_Range_p0_u (R : Type) : Type := Heap → (Oa → Option R) → (Int → Int → Option R) → Option R
abbrev R07_Range_p0_t (R : Type) : Type := Oa → R07_Range_p0_u R
abbrev R07_Range_u (R : Type) : Type := Heap → (Int → Int → Heap → Option R) → Option R
abbrev R07_Range_t (R : Type) : Type := Int → Bool → Int → Int → R07_Range_u R
section
variable {R : Type} (f0 : R07_power_t R) (z0 : R07_Range_p0_t R)
def R07_Range_p0_b (k : Nat) : R07_Range_p0_t R := fun p1 H KN KR =>
hfad 0 p1 fun p2 =>
ldI .i64 H p2 fun n3 =>
bif decide (n3 < 1) then (KR 0 0)
 else (hfad 0 p1 fun p4 =>
ldI .i64 H p4 fun n5 =>
bif decide (n5 > 16) then (KR 0 0)
 else (KN p1))
def R07_Range_p0 (k : Nat) : R07_Range_p0_t R := R07_Range_p0_b k
def R07_Range_b (k : Nat) : R07_Range_t R := fun n1 t2 n3 n4 H K =>
hal H [.int .i64 n1,.bool t2,.int .i64 n3,.int .i64 n4] fun p5 H6 =>
z0 p5 H6 (fun p10 =>
hfad 0 p10 fun p11 =>
ldI .i64 H6 p11 fun n12 =>
f0 (IntKind.wrap .i64 (n12 - 1)) fun n13 =>
hfad 1 p10 fun p14 =>
ldB H6 p14 fun t15 =>
bif t15 then (K (IntKind.wrap .i64 (0 - n13)) (IntKind.wrap .i64 (n13 - 1)) H6)
 else (K 0 (IntKind.wrap .i64 ((IntKind.wrap .i64 (2 * n13)) - 1)) H6)) (fun n16 n17 =>
K n16 n17 H6)
def R07_Range (k : Nat) : R07_Range_t R := R07_Range_b (R07_power k) (R07_Range_p0 k) k
def x34C : Tab R := tcons 48 (x48a f0) <| fun _ _ _ _ => none
def x34s0 : PS := ⟨(.seq (.reg [1,12] []) (.cond (.seq (.reg [2,3] []) .leaf) .leaf)),[1],[.p],⟨[1],[],[2,3]⟩⟩
def x34c0 (g : R07_Range_p0_u R) (H : Heap) (K : XK R) : Option R := g H (kN .normal [1] [.p] K H) (kN .ret [2,3] [.n,.n] K H)
def x34a0 (f : R07_Range_p0_t R) : Nat → List Value → Heap → XK R → Option R := jp x34s0 x34c0 f
def x34J (k : Nat) : JTab R := tcons 0 (x34a0 z0 k) <| fun _ _ _ _ => none
def x34t : AT := (.seq (.reg [1] []) (.seq (.opq 0 x34s0.ls x34s0.out x34s0.t) (.seq (.reg [1,4] []) (.seq (.seq (.reg [4,18] []) (.cond (.seq (.reg [2,3] []) .leaf) .leaf)) (.seq (.reg [2,3] []) .leaf)))))
def x34c (g : R07_Range_u R) (H : Heap) (K : Value → Heap → Option R) : Option R := g H (rH [.n,.n] K)
def x34a (f : R07_Range_t R) : List Value → Heap → (Value → Heap → Option R) → Option R := jf 1 [(.a 4),.n,.b,.n,.n] x34c f
variable {f0 z0}
theorem x34e0 (k : Nat) (H : Heap) (K : XK R) : jE Try.prog An 26 (x34C f0) (x34J z0 k) x34s0 (sel [1,0] (bd Try.f34)) H K = mapT (fun g => x34c0 g H K) x34s0.ts (R07_Range_p0_b k) := by kernel_rfl
theorem x34e (k : Nat) (H : Heap) (K : Value → Heap → Option R) : fE Try.prog An (x34C f0) (x34J z0 k) x34t Try.f34 [(.a 4),.n,.b,.n,.n] H K = mapT (fun g => x34c g H K) [(.a 4),.n,.b,.n,.n] (R07_Range_b f0 z0 k) := by kernel_rfl
theorem x34S (R : Type) (k : Nat) : CSound Try.prog (x34C (R := R) (R07_power k)) := csound_cons (x48cs R k) <| csound_nil
theorem x34j0 (R : Type) (k : Nat) : JS Try.prog 26 (x34a0 (R07_Range_p0 (R := R) k) k) x34s0.ls x34s0.out (sel [1,0] (bd Try.f34)) := pj (x34S R k) (x34J (R07_Range_p0 k) k) (by kernel_rfl) (A := True) trivial (by kernel_rfl) (fun _ _ => .trans (x34e0 _ _ _) (by kernel_rfl))
theorem x34cs (R : Type) (k : Nat) : ∀ args H K r,x34a (R07_Range k) args H K = some (r : R) → ∃ v H',Tri Try.prog 34 args H v H' ∧ K v H' = some r := fj (x34S R k) (x34J (R07_Range_p0 k) k) Try.func34 (by kernel_rfl) (A := JS Try.prog 26 (x34a0 (R07_Range_p0 (R := R) k) k) x34s0.ls x34s0.out (sel [1,0] (bd Try.f34)) ∧ True) ⟨x34j0 R k,trivial⟩ (by kernel_rfl) (fun _ _ => .trans (x34e _ _ _) (by kernel_rfl))
end
/-! ### R46_Expand: function 17 -/
abbrev R46_Expand_l0_r (R : Type) : Type := Oa → Oa → Oa → Int → Heap → Option R
abbrev R46_Expand_l0_q (R T : Type) : Type := (Oa → Oa → Heap → Option R) → T
abbrev R46_Expand_l0_t (R : Type) : Type := R46_Expand_l0_q R (Nat → R46_Expand_l0_r R)
abbrev R46_Expand_p2_u (R : Type) : Type := Heap → (Oa → Oa → Oa → Oa → Oa → Int → Int → Int → Bool → Option R) → Option R
abbrev R46_Expand_p2_t (R : Type) : Type := Oa → Oa → Oa → Oa → Oa → Int → Int → Int → R46_Expand_p2_u R
abbrev R46_Expand_l1_r (R : Type) : Type := Oa → Oa → Oa → Oa → Oa → Int → Int → Int → Heap → Option R
abbrev R46_Expand_l1_q (R T : Type) : Type := (Oa → Oa → Oa → Oa → Oa → Heap → Option R) → (Oa → Int → Heap → Option R) → T
abbrev R46_Expand_l1_t (R : Type) : Type := R46_Expand_l1_q R (Nat → R46_Expand_l1_r R)
abbrev R46_Expand_l4_r (R : Type) : Type := Oa → Oa → Oa → Oa → Oa → Int → Oa → Int → Heap → Option R
abbrev R46_Expand_l4_q (R T : Type) : Type := (Oa → Oa → Oa → Oa → Oa → Int → Oa → Heap → Option R) → T
abbrev R46_Expand_l4_t (R : Type) : Type := R46_Expand_l4_q R (Nat → R46_Expand_l4_r R)
abbrev R46_Expand_l3_r (R : Type) : Type := Oa → Oa → Oa → Oa → Oa → Int → Heap → Option R
abbrev R46_Expand_l3_q (R T : Type) : Type := (Oa → Oa → Heap → Option R) → T
abbrev R46_Expand_l3_t (R : Type) : Type := R46_Expand_l3_q R (Nat → R46_Expand_l3_r R)
abbrev R46_Expand_u (R : Type) : Type := Heap → (Int → Int → Int → Int → Int → Int → Oa → Nat → Nat → Oa → Nat → Nat → Int → Heap → Option R) → Option R
abbrev R46_Expand_t (R : Type) : Type := Int → Int → Int → Int → Int → Int → Oa → Nat → Nat → Oa → Nat → Nat → Int → Oa → Nat → Nat → Oa → Nat → Nat → R46_Expand_u R
section
variable {R : Type} (f0 : R46_Check_t R) (f1 : R46_copied_t R) (f2 : R07_Range_t R) (z0 : R46_Expand_l0_t R) (z1 : R46_Expand_l1_t R) (z2 : R46_Expand_p2_t R) (z3 : R46_Expand_l3_t R) (z4 : R46_Expand_l4_t R)
def R46_Expand_l0_b (k : Nat) : R46_Expand_l0_q R (R46_Expand_l0_r R → R46_Expand_l0_r R) := fun KE0 rec p1 p2 p3 n4 H =>
hfad 7 p1 fun p5 =>
ldL H p5 fun q6 l7 c8 =>
bif decide (n4 < ((l7 : Nat) : Int)) then (hfad 7 p3 fun p9 =>
ldL H p9 fun q10 l11 c12 =>
hfad 7 p1 fun p13 =>
ldL H p13 fun q14 l15 c16 =>
hidx q14 l15 n4 5 fun p17 =>
ldI .i64 H (pad p17 0) fun n18 =>
ldI .i64 H (pad p17 1) fun n19 =>
ldI .i64 H (pad p17 2) fun n20 =>
ldI .i64 H (pad p17 3) fun n21 =>
ldL H (pad p17 4) fun q22 l23 c24 =>
f1 n18 n19 n20 n21 q22 l23 c24 (roH H) fun n25 n26 n27 n28 q29 l30 c31 H32 =>
hal (H ++ H32.drop H.length) [.int .i64 n25,.int .i64 n26,.int .i64 n27,.int .i64 n28,.slice q29 l30 c31] fun p33 H34 =>
happS 5 56 H34 q10 l11 c12 p33 1 fun q35 l36 c37 H38 =>
hfad 7 p3 fun p39 =>
hst1 H38 p39 (.slice q35 l36 c37) fun H40 =>
rec p1 p2 p3 (IntKind.wrap .i64 (n4 + 1)) H40)
 else (KE0 p2 p3 H)
def R46_Expand_l0 (k : Nat) : R46_Expand_l0_t R
  | KE0,0 => fun _ _ _ _ _ => none
  | KE0,n + 1 => R46_Expand_l0_b R46_copied k KE0 (R46_Expand_l0 k KE0 n)
def R46_Expand_p2_b (k : Nat) : R46_Expand_p2_t R := fun p1 p2 p3 p4 p5 n6 n7 n8 H KN =>
hfad 4 p5 fun p9 =>
ldL H p9 fun q10 l11 c12 =>
hidx q10 l11 n8 1 fun p13 =>
ldI .i64 H p13 fun n14 =>
bif decide (n14 < n6) then (KN p1 p2 p3 p4 p5 n6 n7 n8 true)
 else (hfad 4 p5 fun p15 =>
ldL H p15 fun q16 l17 c18 =>
hidx q16 l17 n8 1 fun p19 =>
ldI .i64 H p19 fun n20 =>
KN p1 p2 p3 p4 p5 n6 n7 n8 (decide (n20 > n7)))
def R46_Expand_p2 (k : Nat) : R46_Expand_p2_t R := R46_Expand_p2_b k
def R46_Expand_l1_b (k : Nat) : R46_Expand_l1_q R (R46_Expand_l1_r R → R46_Expand_l1_r R) := fun KE2 KR rec p1 p2 p3 p4 p5 n6 n7 n8 H =>
hfad 4 p5 fun p9 =>
ldL H p9 fun q10 l11 c12 =>
bif decide (n8 < ((l11 : Nat) : Int)) then (z2 p1 p2 p3 p4 p5 n6 n7 n8 H (fun p22 p23 p24 p25 p26 n27 n28 n29 t30 =>
bif t30 then (hst H p23 [.int .i64 0,.int .i64 0,.int .i64 0,.int .i64 0,.int .i64 0,.int .i64 0,.slice none 0 0,.slice none 0 0] fun H31 =>
KR p23 2 H31)
 else (rec p22 p23 p24 p25 p26 n27 n28 (IntKind.wrap .i64 (n29 + 1)) H)))
 else (KE2 p1 p2 p3 p4 p5 H)
def R46_Expand_l1 (k : Nat) : R46_Expand_l1_t R
  | KE2,KR,0 => fun _ _ _ _ _ _ _ _ _ => none
  | KE2,KR,n + 1 => R46_Expand_l1_b (R46_Expand_p2 k) k KE2 KR (R46_Expand_l1 k KE2 KR n)
def R46_Expand_l4_b (k : Nat) : R46_Expand_l4_q R (R46_Expand_l4_r R → R46_Expand_l4_r R) := fun KE6 rec p1 p2 p3 p4 p5 n6 p7 n8 H =>
hfad 4 p7 fun p9 =>
ldL H p9 fun q10 l11 c12 =>
bif decide (n8 < ((l11 : Nat) : Int)) then (hfad 4 p7 fun p13 =>
ldL H p13 fun q14 l15 c16 =>
hfad 2 p1 fun p17 =>
ldL H p17 fun q18 l19 c20 =>
hfad 4 p4 fun p21 =>
ldL H p21 fun q22 l23 c24 =>
hidx q22 l23 n8 1 fun p25 =>
ldI .i64 H p25 fun n26 =>
hidx q18 l19 n26 1 fun p27 =>
ldL H p27 fun q28 l29 c30 =>
hidx q28 l29 n6 1 fun p31 =>
ldI .i64 H p31 fun n32 =>
hidx q14 l15 n8 1 fun p33 =>
hst1 H p33 (.int .i64 n32) fun H34 =>
rec p1 p2 p3 p4 p5 n6 p7 (IntKind.wrap .i64 (n8 + 1)) H34)
 else (KE6 p1 p2 p3 p4 p5 n6 p7 H)
def R46_Expand_l4 (k : Nat) : R46_Expand_l4_t R
  | KE6,0 => fun _ _ _ _ _ _ _ _ _ => none
  | KE6,n + 1 => R46_Expand_l4_b k KE6 (R46_Expand_l4 k KE6 n)
def R46_Expand_l3_b (k : Nat) : R46_Expand_l3_q R (R46_Expand_l3_r R → R46_Expand_l3_r R) := fun KE4 rec p1 p2 p3 p4 p5 n6 H =>
hfad 1 p1 fun p7 =>
ldL H p7 fun q8 l9 c10 =>
bif decide (n6 < ((l9 : Nat) : Int)) then (hfad 0 p3 fun p11 =>
hfad 6 p11 fun p12 =>
ldL H p12 fun q13 l14 c15 =>
hfad 2 p5 fun p16 =>
ldI .i64 H p16 fun n17 =>
hfad 3 p5 fun p18 =>
ldI .i64 H p18 fun n19 =>
hal H [.int .i64 8,.bool false,.int .i64 n17,.int .i64 n19] fun p20 H21 =>
happS 4 32 H21 q13 l14 c15 p20 1 fun q22 l23 c24 H25 =>
hfad 0 p3 fun p26 =>
hfad 6 p26 fun p27 =>
hst1 H25 p27 (.slice q22 l23 c24) fun H28 =>
ldI .i64 H28 (pad p4 0) fun n29 =>
ldI .i64 H28 (pad p4 1) fun n30 =>
ldI .i64 H28 (pad p4 2) fun n31 =>
ldI .i64 H28 (pad p4 3) fun n32 =>
ldL H28 (pad p4 4) fun q33 l34 c35 =>
f1 n29 n30 n31 n32 q33 l34 c35 H28 fun n36 n37 n38 n39 q40 l41 c42 H43 =>
hal H43 [.int .i64 0,.int .i64 0,.int .i64 0,.int .i64 0,.slice none 0 0] fun p44 H45 =>
hst H45 p44 [.int .i64 n36,.int .i64 n37,.int .i64 n38,.int .i64 n39,.slice q40 l41 c42] fun H46 =>
z4 (fun p54 p55 p56 p57 p58 n59 p60 H61 =>
hfad 7 p56 fun p62 =>
ldL H61 p62 fun q63 l64 c65 =>
ldI .i64 H61 (pad p60 0) fun n66 =>
ldI .i64 H61 (pad p60 1) fun n67 =>
ldI .i64 H61 (pad p60 2) fun n68 =>
ldI .i64 H61 (pad p60 3) fun n69 =>
ldL H61 (pad p60 4) fun q70 l71 c72 =>
hal H61 [.int .i64 n66,.int .i64 n67,.int .i64 n68,.int .i64 n69,.slice q70 l71 c72] fun p73 H74 =>
happS 5 56 H74 q63 l64 c65 p73 1 fun q75 l76 c77 H78 =>
hfad 7 p56 fun p79 =>
hst1 H78 p79 (.slice q75 l76 c77) fun H80 =>
rec p54 p55 p56 p57 p58 (IntKind.wrap .i64 (n59 + 1)) H80) k p1 p2 p3 p4 p5 n6 p44 0 H46)
 else (KE4 p2 p3 H)
def R46_Expand_l3 (k : Nat) : R46_Expand_l3_t R
  | KE4,0 => fun _ _ _ _ _ _ _ => none
  | KE4,n + 1 => R46_Expand_l3_b R46_copied (R46_Expand_l4 k) k KE4 (R46_Expand_l3 k KE4 n)
def R46_Expand_b (k : Nat) : R46_Expand_t R := fun n1 n2 n3 n4 n5 n6 q7 l8 c9 q10 l11 c12 n13 q14 l15 c16 q17 l18 c19 H K =>
hal H [.int .i64 n1,.int .i64 n2,.int .i64 n3,.int .i64 n4,.int .i64 n5,.int .i64 n6,.slice q7 l8 c9,.slice q10 l11 c12] fun p20 H21 =>
hal H21 [.int .i64 n13,.slice q14 l15 c16,.slice q17 l18 c19] fun p22 H23 =>
hal H23 [.int .i64 0,.int .i64 0,.int .i64 0,.int .i64 0,.int .i64 0,.int .i64 0,.slice none 0 0,.slice none 0 0] fun p24 H25 =>
ldI .i64 H25 (pad p22 0) fun n26 =>
ldL H25 (pad p22 1) fun q27 l28 c29 =>
ldL H25 (pad p22 2) fun q30 l31 c32 =>
hfad 0 p20 fun p33 =>
ldI .i64 H25 (pad p33 0) fun n34 =>
ldI .i64 H25 (pad p33 1) fun n35 =>
ldI .i64 H25 (pad p33 2) fun n36 =>
ldI .i64 H25 (pad p33 3) fun n37 =>
ldI .i64 H25 (pad p33 4) fun n38 =>
ldI .i64 H25 (pad p33 5) fun n39 =>
ldL H25 (pad p33 6) fun q40 l41 c42 =>
f0 n26 q27 l28 c29 q30 l31 c32 n34 n35 n36 n37 n38 n39 q40 l41 c42 H25 fun n43 H44 =>
bif (n43 != 0) then (hst H44 p24 [.int .i64 0,.int .i64 0,.int .i64 0,.int .i64 0,.int .i64 0,.int .i64 0,.slice none 0 0,.slice none 0 0] fun H45 =>
ldI .i64 H45 (pad p24 0) fun n46 =>
ldI .i64 H45 (pad p24 1) fun n47 =>
ldI .i64 H45 (pad p24 2) fun n48 =>
ldI .i64 H45 (pad p24 3) fun n49 =>
ldI .i64 H45 (pad p24 4) fun n50 =>
ldI .i64 H45 (pad p24 5) fun n51 =>
ldL H45 (pad p24 6) fun q52 l53 c54 =>
ldL H45 (pad p24 7) fun q55 l56 c57 =>
K n46 n47 n48 n49 n50 n51 q52 l53 c54 q55 l56 c57 n43 H45)
 else (hfad 7 p20 fun p58 =>
ldL H44 p58 fun q59 l60 c61 =>
hfad 0 p20 fun p62 =>
hfad 6 p62 fun p63 =>
ldL H44 p63 fun q64 l65 c66 =>
bif (((l60 : Nat) : Int) != ((l65 : Nat) : Int)) then (hst H44 p24 [.int .i64 0,.int .i64 0,.int .i64 0,.int .i64 0,.int .i64 0,.int .i64 0,.slice none 0 0,.slice none 0 0] fun H67 =>
ldI .i64 H67 (pad p24 0) fun n68 =>
ldI .i64 H67 (pad p24 1) fun n69 =>
ldI .i64 H67 (pad p24 2) fun n70 =>
ldI .i64 H67 (pad p24 3) fun n71 =>
ldI .i64 H67 (pad p24 4) fun n72 =>
ldI .i64 H67 (pad p24 5) fun n73 =>
ldL H67 (pad p24 6) fun q74 l75 c76 =>
ldL H67 (pad p24 7) fun q77 l78 c79 =>
K n68 n69 n70 n71 n72 n73 q74 l75 c76 q77 l78 c79 1 H67)
 else (hfad 0 p20 fun p80 =>
ldI .i64 H44 (pad p80 0) fun n81 =>
ldI .i64 H44 (pad p80 1) fun n82 =>
ldI .i64 H44 (pad p80 2) fun n83 =>
ldI .i64 H44 (pad p80 3) fun n84 =>
ldI .i64 H44 (pad p80 4) fun n85 =>
ldI .i64 H44 (pad p80 5) fun n86 =>
ldL H44 (pad p80 6) fun q87 l88 c89 =>
hal H44 [.int .i64 0,.int .i64 0,.int .i64 0,.int .i64 0,.int .i64 0,.int .i64 0,.slice none 0 0] fun p90 H91 =>
hst H91 p90 [.int .i64 n81,.int .i64 n82,.int .i64 n83,.int .i64 n84,.int .i64 n85,.int .i64 n86,.slice q87 l88 c89] fun H92 =>
hal H92 [] fun p93 H94 =>
hfad 0 p20 fun p95 =>
hfad 6 p95 fun p96 =>
ldL H94 p96 fun q97 l98 c99 =>
happS 4 32 H94 p93 0 0 q97 l98 fun q100 l101 c102 H103 =>
hfad 6 p90 fun p104 =>
hst1 H103 p104 (.slice q100 l101 c102) fun H105 =>
ldI .i64 H105 (pad p90 0) fun n106 =>
ldI .i64 H105 (pad p90 1) fun n107 =>
ldI .i64 H105 (pad p90 2) fun n108 =>
ldI .i64 H105 (pad p90 3) fun n109 =>
ldI .i64 H105 (pad p90 4) fun n110 =>
ldI .i64 H105 (pad p90 5) fun n111 =>
ldL H105 (pad p90 6) fun q112 l113 c114 =>
hal H105 [.int .i64 0,.int .i64 0,.int .i64 0,.int .i64 0,.int .i64 0,.int .i64 0,.slice none 0 0,.slice none 0 0] fun p115 H116 =>
hst H116 p115 [.int .i64 n106,.int .i64 n107,.int .i64 n108,.int .i64 n109,.int .i64 n110,.int .i64 n111,.slice q112 l113 c114,.slice none 0 0] fun H117 =>
hfad 2 p22 fun p118 =>
ldL H117 p118 fun q119 l120 c121 =>
bif (((l120 : Nat) : Int) == 0) then (z0 (fun p124 p125 H126 =>
ldI .i64 H126 (pad p125 0) fun n127 =>
ldI .i64 H126 (pad p125 1) fun n128 =>
ldI .i64 H126 (pad p125 2) fun n129 =>
ldI .i64 H126 (pad p125 3) fun n130 =>
ldI .i64 H126 (pad p125 4) fun n131 =>
ldI .i64 H126 (pad p125 5) fun n132 =>
ldL H126 (pad p125 6) fun q133 l134 c135 =>
ldL H126 (pad p125 7) fun q136 l137 c138 =>
hst H126 p124 [.int .i64 n127,.int .i64 n128,.int .i64 n129,.int .i64 n130,.int .i64 n131,.int .i64 n132,.slice q133 l134 c135,.slice q136 l137 c138] fun H139 =>
ldI .i64 H139 (pad p124 0) fun n140 =>
ldI .i64 H139 (pad p124 1) fun n141 =>
ldI .i64 H139 (pad p124 2) fun n142 =>
ldI .i64 H139 (pad p124 3) fun n143 =>
ldI .i64 H139 (pad p124 4) fun n144 =>
ldI .i64 H139 (pad p124 5) fun n145 =>
ldL H139 (pad p124 6) fun q146 l147 c148 =>
ldL H139 (pad p124 7) fun q149 l150 c151 =>
K n140 n141 n142 n143 n144 n145 q146 l147 c148 q149 l150 c151 0 H139) k p20 p24 p115 0 H117)
 else (hfad 7 p20 fun p152 =>
ldL H117 p152 fun q153 l154 c155 =>
hidx q153 l154 0 5 fun p156 =>
ldI .i64 H117 (pad p156 0) fun n157 =>
ldI .i64 H117 (pad p156 1) fun n158 =>
ldI .i64 H117 (pad p156 2) fun n159 =>
ldI .i64 H117 (pad p156 3) fun n160 =>
ldL H117 (pad p156 4) fun q161 l162 c163 =>
hal H117 [.int .i64 0,.int .i64 0,.int .i64 0,.int .i64 0,.slice none 0 0] fun p164 H165 =>
hst H165 p164 [.int .i64 n157,.int .i64 n158,.int .i64 n159,.int .i64 n160,.slice q161 l162 c163] fun H166 =>
hfad 6 p90 fun p167 =>
ldL H166 p167 fun q168 l169 c170 =>
hidx q168 l169 0 4 fun p171 =>
ldI .i64 H166 (pad p171 0) fun n172 =>
ldB H166 (pad p171 1) fun t173 =>
ldI .i64 H166 (pad p171 2) fun n174 =>
ldI .i64 H166 (pad p171 3) fun n175 =>
f2 n172 t173 n174 n175 H166 fun n176 n177 H178 =>
z1 (fun p186 p187 p188 p189 p190 H191 =>
hfad 6 p188 fun p192 =>
ldL H191 p192 fun q193 l194 c195 =>
hidx q193 l194 0 4 fun p196 =>
ldI .i64 H191 (pad p196 0) fun n197 =>
ldB H191 (pad p196 1) fun t198 =>
ldI .i64 H191 (pad p196 2) fun n199 =>
ldI .i64 H191 (pad p196 3) fun n200 =>
hal H191 [.int .i64 0,.bool false,.int .i64 0,.int .i64 0] fun p201 H202 =>
hst H202 p201 [.int .i64 n197,.bool t198,.int .i64 n199,.int .i64 n200] fun H203 =>
hfad 0 p189 fun p204 =>
hfad 6 p204 fun p205 =>
hst1 H203 p205 (.slice none 0 0) fun H206 =>
z3 (fun p209 p210 H211 =>
ldI .i64 H211 (pad p210 0) fun n212 =>
ldI .i64 H211 (pad p210 1) fun n213 =>
ldI .i64 H211 (pad p210 2) fun n214 =>
ldI .i64 H211 (pad p210 3) fun n215 =>
ldI .i64 H211 (pad p210 4) fun n216 =>
ldI .i64 H211 (pad p210 5) fun n217 =>
ldL H211 (pad p210 6) fun q218 l219 c220 =>
ldL H211 (pad p210 7) fun q221 l222 c223 =>
hst H211 p209 [.int .i64 n212,.int .i64 n213,.int .i64 n214,.int .i64 n215,.int .i64 n216,.int .i64 n217,.slice q218 l219 c220,.slice q221 l222 c223] fun H224 =>
ldI .i64 H224 (pad p209 0) fun n225 =>
ldI .i64 H224 (pad p209 1) fun n226 =>
ldI .i64 H224 (pad p209 2) fun n227 =>
ldI .i64 H224 (pad p209 3) fun n228 =>
ldI .i64 H224 (pad p209 4) fun n229 =>
ldI .i64 H224 (pad p209 5) fun n230 =>
ldL H224 (pad p209 6) fun q231 l232 c233 =>
ldL H224 (pad p209 7) fun q234 l235 c236 =>
K n225 n226 n227 n228 n229 n230 q231 l232 c233 q234 l235 c236 0 H224) k p186 p187 p189 p190 p201 0 H206) (fun p237 n238 H239 =>
ldI .i64 H239 (pad p237 0) fun n240 =>
ldI .i64 H239 (pad p237 1) fun n241 =>
ldI .i64 H239 (pad p237 2) fun n242 =>
ldI .i64 H239 (pad p237 3) fun n243 =>
ldI .i64 H239 (pad p237 4) fun n244 =>
ldI .i64 H239 (pad p237 5) fun n245 =>
ldL H239 (pad p237 6) fun q246 l247 c248 =>
ldL H239 (pad p237 7) fun q249 l250 c251 =>
K n240 n241 n242 n243 n244 n245 q246 l247 c248 q249 l250 c251 n238 H239) k p22 p24 p90 p115 p164 n176 n177 0 H178)))
def R46_Expand (k : Nat) : R46_Expand_t R := R46_Expand_b (R46_Check k) (R07_Range k) (R46_Expand_l0 k) (R46_Expand_l1 k) (R46_Expand_l3 k) k
def x17C : Tab R := tcons 12 (x12a f0) <| tcons 33 (x33a f1) <| tcons 34 (x34a f2) <| fun _ _ _ _ => none
def x17s4 : PS := ⟨(.seq (.seq (.reg [3,4,8,10,14,15,16,17,135] []) (.cond .leaf .leaf)) (.seq (.node (.reg [3,4,8,10,14,15,16,17] (ms [0,1,0,0,8,0,32,0,224,480,1016,2040,0,8184,16376,32767,65535]))) (.reg [3,4,8,10,14,15,16,17] []))),[3,4,8,10,14,15,16,17],[.p,.p,.p,.p,.p,.n,.p,.n],⟨[],[(6,[3,4,8,10,14,15,16])],[]⟩⟩
def x17c4 {T : Type} (g : R46_Expand_l4_q R T) (H : Heap) (K : XK R) : T := g (kH (.exit 6) [3,4,8,10,14,15,16] [.p,.p,.p,.p,.p,.n,.p] K)
def x17a4 (f : R46_Expand_l4_t R) : Nat → List Value → Heap → XK R → Option R := jl x17s4 (L := R46_Expand_l4_t R) x17c4 pH f
def x17s3 : PS := ⟨(.seq (.seq (.reg [3,4,8,10,14,15,114] []) (.cond .leaf .leaf)) (.seq (.node (.seq (.reg [3,4,8,10,14,15] []) (.seq (.reg [3,4,8,10,14,15,16] []) (.seq (.seq (.reg [3,4,8,10,14,15,16,17] []) (.node (.opq 4 x17s4.ls x17s4.out (.node x17s4.t)))) (.reg [3,4,8,10,14,15] []))))) (.reg [3,4,8,10,14,15] []))),[3,4,8,10,14,15],[.p,.p,.p,.p,.p,.n],⟨[],[(4,[4,8])],[]⟩⟩
def x17c3 {T : Type} (g : R46_Expand_l3_q R T) (H : Heap) (K : XK R) : T := g (kH (.exit 4) [4,8] [.p,.p] K)
def x17a3 (f : R46_Expand_l3_t R) : Nat → List Value → Heap → XK R → Option R := jl x17s3 (L := R46_Expand_l3_t R) x17c3 pH f
def x17s2 : PS := ⟨(.reg [3,4,7,8,10,11,12,13,102] []),[3,4,7,8,10,11,12,13],[.p,.p,.p,.p,.p,.n,.n,.n],⟨[3,4,7,8,10,11,12,13,102],[],[]⟩⟩
def x17c2 (g : R46_Expand_p2_u R) (H : Heap) (K : XK R) : Option R := g H (kN .normal [3,4,7,8,10,11,12,13,102] [.p,.p,.p,.p,.p,.n,.n,.n,.b] K H)
def x17a2 (f : R46_Expand_p2_t R) : Nat → List Value → Heap → XK R → Option R := jp x17s2 x17c2 f
def x17s1 : PS := ⟨(.seq (.seq (.reg [3,4,7,8,10,11,12,13,84] []) (.cond .leaf .leaf)) (.seq (.node (.seq (.opq 2 x17s2.ls x17s2.out x17s2.t) (.cond (.seq (.reg [4,5] []) .leaf) .leaf))) (.reg [3,4,7,8,10,11,12,13] []))),[3,4,7,8,10,11,12,13],[.p,.p,.p,.p,.p,.n,.n,.n],⟨[],[(2,[3,4,7,8,10])],[4,5]⟩⟩
def x17c1 {T : Type} (g : R46_Expand_l1_q R T) (H : Heap) (K : XK R) : T := g (kH (.exit 2) [3,4,7,8,10] [.p,.p,.p,.p,.p] K) (kH .ret [4,5] [.p,.n] K)
def x17a1 (f : R46_Expand_l1_t R) : Nat → List Value → Heap → XK R → Option R := jl x17s1 (L := R46_Expand_l1_t R) x17c1 pH f
def x17s0 : PS := ⟨(.seq (.seq (.reg [2,4,8,9,53] []) (.cond .leaf .leaf)) (.seq (.node (.reg [2,4,8,9] (ms [0,1,0,4,0,28,60,124,252,511,1023,2047]))) (.reg [2,4,8,9] []))),[2,4,8,9],[.p,.p,.p,.n],⟨[],[(0,[4,8])],[]⟩⟩
def x17c0 {T : Type} (g : R46_Expand_l0_q R T) (H : Heap) (K : XK R) : T := g (kH (.exit 0) [4,8] [.p,.p] K)
def x17a0 (f : R46_Expand_l0_t R) : Nat → List Value → Heap → XK R → Option R := jl x17s0 (L := R46_Expand_l0_t R) x17c0 pH f
def x17J (k : Nat) : JTab R := tcons 0 (x17a0 z0 k) <| tcons 1 (x17a1 z1 k) <| tcons 2 (x17a2 z2 k) <| tcons 3 (x17a3 z3 k) <| tcons 4 (x17a4 z4 k) <| fun _ _ _ _ => none
def x17t : AT := (.seq (.reg [2,3,4] []) (.seq (.reg [2,3,4,6] []) (.seq (.seq (.reg [2,3,4,6,23] []) (.cond (.seq (.reg [4,5] []) .leaf) .leaf)) (.seq (.seq (.reg [2,3,4,33] []) (.cond (.seq (.reg [4,5] []) .leaf) .leaf)) (.seq (.reg [2,3,4,7] []) (.seq (.reg [2,3,4,7] []) (.seq (.reg [2,3,4,7,8] []) (.seq (.seq (.reg [2,3,4,7,8,48] []) (.cond (.seq (.seq (.reg [2,4,8,9] []) (.node (.opq 0 x17s0.ls x17s0.out (.node x17s0.t)))) (.seq (.reg [4,5] []) .leaf)) .leaf)) (.seq (.reg [3,4,7,8,10] []) (.seq (.reg [3,4,7,8,10,11,12] []) (.seq (.seq (.reg [3,4,7,8,10,11,12,13] []) (.node (.opq 1 x17s1.ls x17s1.out (.node x17s1.t)))) (.seq (.reg [3,4,8,10,14] []) (.seq (.reg [3,4,8,10,14] []) (.seq (.seq (.reg [3,4,8,10,14,15] []) (.node (.opq 3 x17s3.ls x17s3.out (.node x17s3.t)))) (.seq (.reg [4,5] []) .leaf)))))))))))))))
def x17c (g : R46_Expand_u R) (H : Heap) (K : Value → Heap → Option R) : Option R := g H (rH [(.a 8),.n,.n,.n,.n,.n,.n,.l,.l,.n] K)
def x17a (f : R46_Expand_t R) : List Value → Heap → (Value → Heap → Option R) → Option R := jf 2 [(.a 8),.n,.n,.n,.n,.n,.n,.l,.l,(.a 3),.n,.l,.l] x17c f
variable {f0 f1 f2 z0 z1 z2 z3 z4}
theorem x17e4 (k n : Nat) (H : Heap) (K : XK R) : lE Try.prog An 161 (x17C f0 f1 f2) (x17J z0 z1 z2 z3 z4 k) x17s4 (sel [1,1,1,1,1,1,1,1,1,1,1,1,1,0,1,0,0,1,0,0,1,1,0,1,0,0] (bd Try.f17)) (x17a4 z4) n H K = mapT (fun g => pH g H) x17s4.ts (x17c4 (R46_Expand_l4_b k) H K (x17c4 z4 H K n)) := by kernel_rfl
theorem x17e3 (k n : Nat) (H : Heap) (K : XK R) : lE Try.prog An 161 (x17C f0 f1 f2) (x17J z0 z1 z2 z3 z4 k) x17s3 (sel [1,1,1,1,1,1,1,1,1,1,1,1,1,0,1,0,0] (bd Try.f17)) (x17a3 z3) n H K = mapT (fun g => pH g H) x17s3.ts (x17c3 (R46_Expand_l3_b f1 z4 k) H K (x17c3 z3 H K n)) := by kernel_rfl
theorem x17e2 (k : Nat) (H : Heap) (K : XK R) : jE Try.prog An 161 (x17C f0 f1 f2) (x17J z0 z1 z2 z3 z4 k) x17s2 (sel [1,1,1,1,1,1,1,1,1,1,0,1,0,0,1,0,0,0] (bd Try.f17)) H K = mapT (fun g => x17c2 g H K) x17s2.ts (R46_Expand_p2_b k) := by kernel_rfl
theorem x17e1 (k n : Nat) (H : Heap) (K : XK R) : lE Try.prog An 161 (x17C f0 f1 f2) (x17J z0 z1 z2 z3 z4 k) x17s1 (sel [1,1,1,1,1,1,1,1,1,1,0,1,0,0] (bd Try.f17)) (x17a1 z1) n H K = mapT (fun g => pH g H) x17s1.ts (x17c1 (R46_Expand_l1_b z2 k) H K (x17c1 z1 H K n)) := by kernel_rfl
theorem x17e0 (k n : Nat) (H : Heap) (K : XK R) : lE Try.prog An 161 (x17C f0 f1 f2) (x17J z0 z1 z2 z3 z4 k) x17s0 (sel [1,1,1,1,1,1,1,0,1,0,0,1,0,0] (bd Try.f17)) (x17a0 z0) n H K = mapT (fun g => pH g H) x17s0.ts (x17c0 (R46_Expand_l0_b f1 k) H K (x17c0 z0 H K n)) := by kernel_rfl
theorem x17e (k : Nat) (H : Heap) (K : Value → Heap → Option R) : fE Try.prog An (x17C f0 f1 f2) (x17J z0 z1 z2 z3 z4 k) x17t Try.f17 [(.a 8),.n,.n,.n,.n,.n,.n,.l,.l,(.a 3),.n,.l,.l] H K = mapT (fun g => x17c g H K) [(.a 8),.n,.n,.n,.n,.n,.n,.l,.l,(.a 3),.n,.l,.l] (R46_Expand_b f0 f2 z0 z1 z3 k) := by kernel_rfl
theorem x17S (R : Type) (k : Nat) : CSound Try.prog (x17C (R := R) (R46_Check k) R46_copied (R07_Range k)) := csound_cons (x12cs R k) <| csound_cons (x33cs R k) <| csound_cons (x34cs R k) <| csound_nil
theorem x17j4 (R : Type) (k : Nat) : JS Try.prog 161 (x17a4 (R46_Expand_l4 (R := R) k) k) x17s4.ls x17s4.out (.loop (sel [1,1,1,1,1,1,1,1,1,1,1,1,1,0,1,0,0,1,0,0,1,1,0,1,0,0] (bd Try.f17))) := lj (x17S R k) (x17J (R46_Expand_l0 k) (R46_Expand_l1 k) (R46_Expand_p2 k) (R46_Expand_l3 k) (R46_Expand_l4 k) k) (by kernel_rfl) (A := True) trivial (by kernel_rfl) (fun _ _ => by kernel_rfl) (fun _ _ _ => .trans (x17e4 _ _ _ _) (by kernel_rfl)) k
theorem x17j3 (R : Type) (k : Nat) : JS Try.prog 161 (x17a3 (R46_Expand_l3 (R := R) k) k) x17s3.ls x17s3.out (.loop (sel [1,1,1,1,1,1,1,1,1,1,1,1,1,0,1,0,0] (bd Try.f17))) := lj (x17S R k) (x17J (R46_Expand_l0 k) (R46_Expand_l1 k) (R46_Expand_p2 k) (R46_Expand_l3 k) (R46_Expand_l4 k) k) (by kernel_rfl) (A := JS Try.prog 161 (x17a4 (R46_Expand_l4 (R := R) k) k) x17s4.ls x17s4.out (.loop (sel [1,1,1,1,1,1,1,1,1,1,1,1,1,0,1,0,0,1,0,0,1,1,0,1,0,0] (bd Try.f17))) ∧ True) ⟨x17j4 R k,trivial⟩ (by kernel_rfl) (fun _ _ => by kernel_rfl) (fun _ _ _ => .trans (x17e3 _ _ _ _) (by kernel_rfl)) k
theorem x17j2 (R : Type) (k : Nat) : JS Try.prog 161 (x17a2 (R46_Expand_p2 (R := R) k) k) x17s2.ls x17s2.out (sel [1,1,1,1,1,1,1,1,1,1,0,1,0,0,1,0,0,0] (bd Try.f17)) := pj (x17S R k) (x17J (R46_Expand_l0 k) (R46_Expand_l1 k) (R46_Expand_p2 k) (R46_Expand_l3 k) (R46_Expand_l4 k) k) (by kernel_rfl) (A := True) trivial (by kernel_rfl) (fun _ _ => .trans (x17e2 _ _ _) (by kernel_rfl))
theorem x17j1 (R : Type) (k : Nat) : JS Try.prog 161 (x17a1 (R46_Expand_l1 (R := R) k) k) x17s1.ls x17s1.out (.loop (sel [1,1,1,1,1,1,1,1,1,1,0,1,0,0] (bd Try.f17))) := lj (x17S R k) (x17J (R46_Expand_l0 k) (R46_Expand_l1 k) (R46_Expand_p2 k) (R46_Expand_l3 k) (R46_Expand_l4 k) k) (by kernel_rfl) (A := JS Try.prog 161 (x17a2 (R46_Expand_p2 (R := R) k) k) x17s2.ls x17s2.out (sel [1,1,1,1,1,1,1,1,1,1,0,1,0,0,1,0,0,0] (bd Try.f17)) ∧ True) ⟨x17j2 R k,trivial⟩ (by kernel_rfl) (fun _ _ => by kernel_rfl) (fun _ _ _ => .trans (x17e1 _ _ _ _) (by kernel_rfl)) k
theorem x17j0 (R : Type) (k : Nat) : JS Try.prog 161 (x17a0 (R46_Expand_l0 (R := R) k) k) x17s0.ls x17s0.out (.loop (sel [1,1,1,1,1,1,1,0,1,0,0,1,0,0] (bd Try.f17))) := lj (x17S R k) (x17J (R46_Expand_l0 k) (R46_Expand_l1 k) (R46_Expand_p2 k) (R46_Expand_l3 k) (R46_Expand_l4 k) k) (by kernel_rfl) (A := True) trivial (by kernel_rfl) (fun _ _ => by kernel_rfl) (fun _ _ _ => .trans (x17e0 _ _ _ _) (by kernel_rfl)) k
theorem x17cs (R : Type) (k : Nat) : ∀ args H K r,x17a (R46_Expand k) args H K = some (r : R) → ∃ v H',Tri Try.prog 17 args H v H' ∧ K v H' = some r := fj (x17S R k) (x17J (R46_Expand_l0 k) (R46_Expand_l1 k) (R46_Expand_p2 k) (R46_Expand_l3 k) (R46_Expand_l4 k) k) Try.func17 (by kernel_rfl) (A := JS Try.prog 161 (x17a0 (R46_Expand_l0 (R := R) k) k) x17s0.ls x17s0.out (.loop (sel [1,1,1,1,1,1,1,0,1,0,0,1,0,0] (bd Try.f17))) ∧ JS Try.prog 161 (x17a1 (R46_Expand_l1 (R := R) k) k) x17s1.ls x17s1.out (.loop (sel [1,1,1,1,1,1,1,1,1,1,0,1,0,0] (bd Try.f17))) ∧ JS Try.prog 161 (x17a3 (R46_Expand_l3 (R := R) k) k) x17s3.ls x17s3.out (.loop (sel [1,1,1,1,1,1,1,1,1,1,1,1,1,0,1,0,0] (bd Try.f17))) ∧ True) ⟨x17j0 R k,⟨x17j1 R k,⟨x17j3 R k,trivial⟩⟩⟩ (by kernel_rfl) (fun _ _ => .trans (x17e _ _ _) (by kernel_rfl))
end
/-! ### L_ColorspecExpands: function 4 -/
abbrev L_ColorspecExpands_p0_u (R : Type) : Type := Heap → (Oa → Oa → Bool → Heap → Option R) → Option R
abbrev L_ColorspecExpands_p0_t (R : Type) : Type := Oa → Oa → L_ColorspecExpands_p0_u R
abbrev L_ColorspecExpands_u (R : Type) : Type := Heap → (Bool → Heap → Option R) → Option R
abbrev L_ColorspecExpands_t (R : Type) : Type := Int → Int → Int → Int → Int → Int → Oa → Nat → Nat → Oa → Nat → Nat → Int → Oa → Nat → Nat → Oa → Nat → Nat → L_ColorspecExpands_u R
section
variable {R : Type} (f0 : L_few_t R) (f1 : R46_Few_t R) (f2 : L_awakeq_t R) (f3 : colorspec_Expand_t R) (f4 : R46_Expand_t R) (f5 : L_sameImage_t R) (z0 : L_ColorspecExpands_p0_t R)
def L_ColorspecExpands_p0_b (k : Nat) : L_ColorspecExpands_p0_t R := fun p1 p2 H KN =>
ldI .i64 H (pad p1 0) fun n3 =>
ldI .i64 H (pad p1 1) fun n4 =>
ldI .i64 H (pad p1 2) fun n5 =>
ldI .i64 H (pad p1 3) fun n6 =>
ldI .i64 H (pad p1 4) fun n7 =>
ldI .i64 H (pad p1 5) fun n8 =>
ldL H (pad p1 6) fun q9 l10 c11 =>
ldL H (pad p1 7) fun q12 l13 c14 =>
f0 n3 n4 n5 n6 n7 n8 q9 l10 c11 q12 l13 c14 H fun t15 H16 =>
bif (!t15) then (KN p1 p2 true H16)
 else (ldI .i64 H16 (pad p2 0) fun n17 =>
ldL H16 (pad p2 1) fun q18 l19 c20 =>
ldL H16 (pad p2 2) fun q21 l22 c23 =>
f1 n17 q18 l19 c20 q21 l22 c23 H16 fun t24 H25 =>
KN p1 p2 (!t24) H25)
def L_ColorspecExpands_p0 (k : Nat) : L_ColorspecExpands_p0_t R := L_ColorspecExpands_p0_b (L_few k) (R46_Few k) k
def L_ColorspecExpands_b (k : Nat) : L_ColorspecExpands_t R := fun n1 n2 n3 n4 n5 n6 q7 l8 c9 q10 l11 c12 n13 q14 l15 c16 q17 l18 c19 H K =>
hal H [.int .i64 n1,.int .i64 n2,.int .i64 n3,.int .i64 n4,.int .i64 n5,.int .i64 n6,.slice q7 l8 c9,.slice q10 l11 c12] fun p20 H21 =>
hal H21 [.int .i64 n13,.slice q14 l15 c16,.slice q17 l18 c19] fun p22 H23 =>
z0 p20 p22 H23 (fun p27 p28 t29 H30 =>
bif t29 then (f2 fun t31 =>
K t31 H30)
 else (ldI .i64 H30 (pad p27 0) fun n32 =>
ldI .i64 H30 (pad p27 1) fun n33 =>
ldI .i64 H30 (pad p27 2) fun n34 =>
ldI .i64 H30 (pad p27 3) fun n35 =>
ldI .i64 H30 (pad p27 4) fun n36 =>
ldI .i64 H30 (pad p27 5) fun n37 =>
ldL H30 (pad p27 6) fun q38 l39 c40 =>
ldL H30 (pad p27 7) fun q41 l42 c43 =>
ldI .i64 H30 (pad p28 0) fun n44 =>
ldL H30 (pad p28 1) fun q45 l46 c47 =>
ldL H30 (pad p28 2) fun q48 l49 c50 =>
f3 n32 n33 n34 n35 n36 n37 q38 l39 c40 q41 l42 c43 n44 q45 l46 c47 q48 l49 c50 H30 fun n51 n52 n53 n54 n55 n56 q57 l58 c59 q60 l61 c62 n63 H64 =>
hal H64 [.int .i64 0,.int .i64 0,.int .i64 0,.int .i64 0,.int .i64 0,.int .i64 0,.slice none 0 0,.slice none 0 0] fun p65 H66 =>
hst H66 p65 [.int .i64 n51,.int .i64 n52,.int .i64 n53,.int .i64 n54,.int .i64 n55,.int .i64 n56,.slice q57 l58 c59,.slice q60 l61 c62] fun H67 =>
ldI .i64 H67 (pad p27 0) fun n68 =>
ldI .i64 H67 (pad p27 1) fun n69 =>
ldI .i64 H67 (pad p27 2) fun n70 =>
ldI .i64 H67 (pad p27 3) fun n71 =>
ldI .i64 H67 (pad p27 4) fun n72 =>
ldI .i64 H67 (pad p27 5) fun n73 =>
ldL H67 (pad p27 6) fun q74 l75 c76 =>
ldL H67 (pad p27 7) fun q77 l78 c79 =>
ldI .i64 H67 (pad p28 0) fun n80 =>
ldL H67 (pad p28 1) fun q81 l82 c83 =>
ldL H67 (pad p28 2) fun q84 l85 c86 =>
f4 n68 n69 n70 n71 n72 n73 q74 l75 c76 q77 l78 c79 n80 q81 l82 c83 q84 l85 c86 H67 fun n87 n88 n89 n90 n91 n92 q93 l94 c95 q96 l97 c98 n99 H100 =>
hal H100 [.int .i64 0,.int .i64 0,.int .i64 0,.int .i64 0,.int .i64 0,.int .i64 0,.slice none 0 0,.slice none 0 0] fun p101 H102 =>
hst H102 p101 [.int .i64 n87,.int .i64 n88,.int .i64 n89,.int .i64 n90,.int .i64 n91,.int .i64 n92,.slice q93 l94 c95,.slice q96 l97 c98] fun H103 =>
ldI .i64 H103 (pad p65 0) fun n104 =>
ldI .i64 H103 (pad p65 1) fun n105 =>
ldI .i64 H103 (pad p65 2) fun n106 =>
ldI .i64 H103 (pad p65 3) fun n107 =>
ldI .i64 H103 (pad p65 4) fun n108 =>
ldI .i64 H103 (pad p65 5) fun n109 =>
ldL H103 (pad p65 6) fun q110 l111 c112 =>
ldL H103 (pad p65 7) fun q113 l114 c115 =>
ldI .i64 H103 (pad p101 0) fun n116 =>
ldI .i64 H103 (pad p101 1) fun n117 =>
ldI .i64 H103 (pad p101 2) fun n118 =>
ldI .i64 H103 (pad p101 3) fun n119 =>
ldI .i64 H103 (pad p101 4) fun n120 =>
ldI .i64 H103 (pad p101 5) fun n121 =>
ldL H103 (pad p101 6) fun q122 l123 c124 =>
ldL H103 (pad p101 7) fun q125 l126 c127 =>
f5 n104 n105 n106 n107 n108 n109 q110 l111 c112 q113 l114 c115 n116 n117 n118 n119 n120 n121 q122 l123 c124 q125 l126 c127 H103 fun t128 H129 =>
bif t128 then (bif (n63 == n99) then (f2 fun t130 =>
K t130 H129)
 else (K false H129))
 else (K false H129)))
def L_ColorspecExpands (k : Nat) : L_ColorspecExpands_t R := L_ColorspecExpands_b L_awakeq (colorspec_Expand k) (R46_Expand k) (L_sameImage k) (L_ColorspecExpands_p0 k) k
def x4C : Tab R := tcons 15 (x15a f0) <| tcons 9 (x9a f1) <| tcons 10 (x10a f2) <| tcons 16 (x16a f3) <| tcons 17 (x17a f4) <| tcons 18 (x18a f5) <| fun _ _ _ _ => none
def x4s0 : PS := ⟨(.reg [2,3,16] []),[2,3],[.p,.p],⟨[2,3,16],[],[]⟩⟩
def x4c0 (g : L_ColorspecExpands_p0_u R) (H : Heap) (K : XK R) : Option R := g H (kH .normal [2,3,16] [.p,.p,.b] K)
def x4a0 (f : L_ColorspecExpands_p0_t R) : Nat → List Value → Heap → XK R → Option R := jp x4s0 x4c0 f
def x4J (k : Nat) : JTab R := tcons 0 (x4a0 z0 k) <| fun _ _ _ _ => none
def x4t : AT := (.seq (.reg [2,3] []) (.seq (.seq (.opq 0 x4s0.ls x4s0.out x4s0.t) (.cond (.seq (.reg [4] []) .leaf) .leaf)) (.seq (.reg [2,3,5,6] []) (.seq (.reg [5,6,7,8] []) (.seq (.reg [4] []) .leaf)))))
def x4c (g : L_ColorspecExpands_u R) (H : Heap) (K : Value → Heap → Option R) : Option R := g H (rH [.b] K)
def x4a (f : L_ColorspecExpands_t R) : List Value → Heap → (Value → Heap → Option R) → Option R := jf 2 [(.a 8),.n,.n,.n,.n,.n,.n,.l,.l,(.a 3),.n,.l,.l] x4c f
variable {f0 f1 f2 f3 f4 f5 z0}
theorem x4e0 (k : Nat) (H : Heap) (K : XK R) : jE Try.prog An 41 (x4C f0 f1 f2 f3 f4 f5) (x4J z0 k) x4s0 (sel [1,0,0] (bd Try.f4)) H K = mapT (fun g => x4c0 g H K) x4s0.ts (L_ColorspecExpands_p0_b f0 f1 k) := by kernel_rfl
theorem x4e (k : Nat) (H : Heap) (K : Value → Heap → Option R) : fE Try.prog An (x4C f0 f1 f2 f3 f4 f5) (x4J z0 k) x4t Try.f4 [(.a 8),.n,.n,.n,.n,.n,.n,.l,.l,(.a 3),.n,.l,.l] H K = mapT (fun g => x4c g H K) [(.a 8),.n,.n,.n,.n,.n,.n,.l,.l,(.a 3),.n,.l,.l] (L_ColorspecExpands_b f2 f3 f4 f5 z0 k) := by kernel_rfl
theorem x4S (R : Type) (k : Nat) : CSound Try.prog (x4C (R := R) (L_few k) (R46_Few k) L_awakeq (colorspec_Expand k) (R46_Expand k) (L_sameImage k)) := csound_cons (x15cs R k) <| csound_cons (x9cs R k) <| csound_cons (x10cs R k) <| csound_cons (x16cs R k) <| csound_cons (x17cs R k) <| csound_cons (x18cs R k) <| csound_nil
theorem x4j0 (R : Type) (k : Nat) : JS Try.prog 41 (x4a0 (L_ColorspecExpands_p0 (R := R) k) k) x4s0.ls x4s0.out (sel [1,0,0] (bd Try.f4)) := pj (x4S R k) (x4J (L_ColorspecExpands_p0 k) k) (by kernel_rfl) (A := True) trivial (by kernel_rfl) (fun _ _ => .trans (x4e0 _ _ _) (by kernel_rfl))
theorem x4cs (R : Type) (k : Nat) : ∀ args H K r,x4a (L_ColorspecExpands k) args H K = some (r : R) → ∃ v H',Tri Try.prog 4 args H v H' ∧ K v H' = some r := fj (x4S R k) (x4J (L_ColorspecExpands_p0 k) k) Try.func4 (by kernel_rfl) (A := JS Try.prog 41 (x4a0 (L_ColorspecExpands_p0 (R := R) k) k) x4s0.ls x4s0.out (sel [1,0,0] (bd Try.f4)) ∧ True) ⟨x4j0 R k,trivial⟩ (by kernel_rfl) (fun _ _ => .trans (x4e _ _ _) (by kernel_rfl))
def L_ColorspecExpands_c (R : Type) (k : Nat) : List Value → Heap → (Value → Heap → Option R) → Option R := x4a (L_ColorspecExpands k)
theorem L_ColorspecExpands_cs (R : Type) (k : Nat) : ∀ args H K r,L_ColorspecExpands_c R k args H K = some r → ∃ v H',Tri Try.prog 4 args H v H' ∧ K v H' = some r := x4cs R k
end
end Go.Proofs.Ytkjcjlembepdkaa.Sh
