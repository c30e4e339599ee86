/- Lean functions that stand for Go's,over an explicit heap,and the proofs that they do (written by this claim's program sh2.py). -/
import Derived.Test.YtkjcjlembepdkaaShA
import Derived.Test.YtkjcjlembepdkaaSh1
set_option maxRecDepth 100000
set_option linter.unusedVariables false
set_option linter.unusedSimpArgs false
namespace Go.Proofs.Ytkjcjlembepdkaa.Sh
open Go.Proofs.Ytkjcjlembepdkaa.FW
/-! ### colorspec_Encode: function 19 -/
abbrev colorspec_Encode_l0_r (R : Type) : Type := Oa → Oa → Nat → Nat → Oa → Nat → Nat → Int → Int → Heap → Option R
abbrev colorspec_Encode_l0_q (R T : Type) : Type := (Oa → Oa → Nat → Nat → Heap → Option R) → T
abbrev colorspec_Encode_l0_t (R : Type) : Type := colorspec_Encode_l0_q R (Nat → colorspec_Encode_l0_r R)
abbrev colorspec_Encode_l2_r (R : Type) : Type := Oa → Nat → Nat → Oa → Nat → Nat → Int → Int → Oa → Nat → Nat → Int → Int → Heap → Option R
abbrev colorspec_Encode_l2_q (R T : Type) : Type := (Oa → Nat → Nat → Oa → Nat → Nat → Int → Int → Heap → Option R) → T
abbrev colorspec_Encode_l2_t (R : Type) : Type := colorspec_Encode_l2_q R (Nat → colorspec_Encode_l2_r R)
abbrev colorspec_Encode_l1_r (R : Type) : Type := Oa → Nat → Nat → Oa → Nat → Nat → Int → Int → Heap → Option R
abbrev colorspec_Encode_l1_q (R T : Type) : Type := (Oa → Nat → Nat → Heap → Option R) → T
abbrev colorspec_Encode_l1_t (R : Type) : Type := colorspec_Encode_l1_q R (Nat → colorspec_Encode_l1_r R)
abbrev colorspec_Encode_u (R : Type) : Type := Heap → (Oa → Nat → Nat → Int → Heap → Option R) → Option R
abbrev colorspec_Encode_t (R : Type) : Type := Int → Oa → Nat → Nat → Oa → Nat → Nat → colorspec_Encode_u R
section
variable {R : Type} (f0 : colorspec_validate_t R) (z0 : colorspec_Encode_l0_t R) (z1 : colorspec_Encode_l1_t R) (z2 : colorspec_Encode_l2_t R)
def colorspec_Encode_l0_b (k : Nat) : colorspec_Encode_l0_q R (colorspec_Encode_l0_r R → colorspec_Encode_l0_r R) := fun KE0 rec p1 q2 l3 c4 q5 l6 c7 n8 n9 H =>
bif decide (n9 < n8) then (hidx q5 l6 n9 1 fun p10 =>
ldI .i64 H p10 fun n11 =>
hal H [.int .u8 (IntKind.wrap .u8 n11)] fun p12 H13 =>
happS 1 1 H13 q2 l3 c4 p12 1 fun q14 l15 c16 H17 =>
rec p1 q14 l15 c16 q5 l6 c7 n8 (IntKind.wrap .i64 (n9 + 1)) H17)
 else (KE0 p1 q2 l3 c4 H)
def colorspec_Encode_l0 (k : Nat) : colorspec_Encode_l0_t R
  | KE0,0 => fun _ _ _ _ _ _ _ _ _ _ => none
  | KE0,n + 1 => colorspec_Encode_l0_b k KE0 (colorspec_Encode_l0 k KE0 n)
def colorspec_Encode_l2_b (k : Nat) : colorspec_Encode_l2_q R (colorspec_Encode_l2_r R → colorspec_Encode_l2_r R) := fun KE4 rec q1 l2 c3 q4 l5 c6 n7 n8 q9 l10 c11 n12 n13 H =>
bif decide (n13 < n12) then (hidx q9 l10 n13 1 fun p14 =>
ldI .i64 H p14 fun n15 =>
hal H [.int .u8 (IntKind.wrap .u8 n15)] fun p16 H17 =>
happS 1 1 H17 q1 l2 c3 p16 1 fun q18 l19 c20 H21 =>
rec q18 l19 c20 q4 l5 c6 n7 n8 q9 l10 c11 n12 (IntKind.wrap .i64 (n13 + 1)) H21)
 else (KE4 q1 l2 c3 q4 l5 c6 n7 n8 H)
def colorspec_Encode_l2 (k : Nat) : colorspec_Encode_l2_t R
  | KE4,0 => fun _ _ _ _ _ _ _ _ _ _ _ _ _ _ => none
  | KE4,n + 1 => colorspec_Encode_l2_b k KE4 (colorspec_Encode_l2 k KE4 n)
def colorspec_Encode_l1_b (k : Nat) : colorspec_Encode_l1_q R (colorspec_Encode_l1_r R → colorspec_Encode_l1_r R) := fun KE2 rec q1 l2 c3 q4 l5 c6 n7 n8 H =>
bif decide (n8 < n7) then (hidx q4 l5 n8 1 fun p9 =>
ldL H p9 fun q10 l11 c12 =>
z2 (fun q21 l22 c23 q24 l25 c26 n27 n28 H29 =>
rec q21 l22 c23 q24 l25 c26 n27 (IntKind.wrap .i64 (n28 + 1)) H29) k q1 l2 c3 q4 l5 c6 n7 n8 q10 l11 c12 ((l11 : Nat) : Int) 0 H)
 else (KE2 q1 l2 c3 H)
def colorspec_Encode_l1 (k : Nat) : colorspec_Encode_l1_t R
  | KE2,0 => fun _ _ _ _ _ _ _ _ _ => none
  | KE2,n + 1 => colorspec_Encode_l1_b (colorspec_Encode_l2 k) k KE2 (colorspec_Encode_l1 k KE2 n)
def colorspec_Encode_b (k : Nat) : colorspec_Encode_t R := fun n1 q2 l3 c4 q5 l6 c7 H K =>
hal H [.int .i64 n1,.slice q2 l3 c4,.slice q5 l6 c7] fun p8 H9 =>
ldI .i64 H9 (pad p8 0) fun n10 =>
ldL H9 (pad p8 1) fun q11 l12 c13 =>
ldL H9 (pad p8 2) fun q14 l15 c16 =>
f0 n10 q11 l12 c13 q14 l15 c16 H9 fun n17 H18 =>
bif (n17 != 0) then (K none 0 0 n17 H18)
 else (hfad 0 p8 fun p19 =>
ldI .i64 H18 p19 fun n20 =>
hfad 1 p8 fun p21 =>
ldL H18 p21 fun q22 l23 c24 =>
hal H18 [.int .u8 (IntKind.wrap .u8 n20),.int .u8 (IntKind.wrap .u8 ((l23 : Nat) : Int))] fun p25 H26 =>
hfad 1 p8 fun p27 =>
ldL H26 p27 fun q28 l29 c30 =>
z0 (fun p35 q36 l37 c38 H39 =>
hfad 2 p35 fun p40 =>
ldL H39 p40 fun q41 l42 c43 =>
hfad 2 p35 fun p44 =>
ldL H39 p44 fun q45 l46 c47 =>
hal H39 [.int .u8 (IntKind.wrap .u8 (Int.fdiv ((l42 : Nat) : Int) 256)),.int .u8 (IntKind.wrap .u8 ((l46 : Nat) : Int))] fun p48 H49 =>
happS 1 1 H49 q36 l37 c38 p48 2 fun q50 l51 c52 H53 =>
hfad 2 p35 fun p54 =>
ldL H53 p54 fun q55 l56 c57 =>
z1 (fun q61 l62 c63 H64 =>
K q61 l62 c63 0 H64) k q50 l51 c52 q55 l56 c57 ((l56 : Nat) : Int) 0 H53) k p8 p25 2 2 q28 l29 c30 ((l29 : Nat) : Int) 0 H26)
def colorspec_Encode (k : Nat) : colorspec_Encode_t R := colorspec_Encode_b (colorspec_validate k) (colorspec_Encode_l0 k) (colorspec_Encode_l1 k) k
def x19C : Tab R := tcons 26 (x26a f0) <| fun _ _ _ _ => none
def x19s2 : PS := ⟨(.seq (.reg [5,51,52,53,57,58,59,60] []) (.seq (.cond .leaf .leaf) (.seq (.node (.seq (.reg [5,11,51,52,53,57,58,59] []) (.reg [5,51,52,53,57,58,59] []))) (.reg [5,51,52,53,57,58,59] [])))),[5,51,52,53,57,58,59],[.l,.l,.n,.n,.l,.n,.n],⟨[],[(4,[5,51,52,53])],[]⟩⟩
def x19c2 {T : Type} (g : colorspec_Encode_l2_q R T) (H : Heap) (K : XK R) : T := g (kH (.exit 4) [5,51,52,53] [.l,.l,.n,.n] K)
def x19a2 (f : colorspec_Encode_l2_t R) : Nat → List Value → Heap → XK R → Option R := jl x19s2 (L := colorspec_Encode_l2_t R) x19c2 pH f
def x19s1 : PS := ⟨(.seq (.reg [5,51,52,53,54] []) (.seq (.cond .leaf .leaf) (.seq (.node (.seq (.reg [5,9,51,52,53] []) (.seq (.reg [5,51,52,53,57,58,59] []) (.node (.opq 2 x19s2.ls x19s2.out (.node x19s2.t)))))) (.reg [5,51,52,53] [])))),[5,51,52,53],[.l,.l,.n,.n],⟨[],[(2,[5])],[]⟩⟩
def x19c1 {T : Type} (g : colorspec_Encode_l1_q R T) (H : Heap) (K : XK R) : T := g (kH (.exit 2) [5] [.l] K)
def x19a1 (f : colorspec_Encode_l1_t R) : Nat → List Value → Heap → XK R → Option R := jl x19s1 (L := colorspec_Encode_l1_t R) x19c1 pH f
def x19s0 : PS := ⟨(.seq (.reg [1,5,26,27,28,29] []) (.seq (.cond .leaf .leaf) (.seq (.node (.seq (.reg [1,5,7,26,27,28] []) (.reg [1,5,26,27,28] []))) (.reg [1,5,26,27,28] [])))),[1,5,26,27,28],[.p,.l,.l,.n,.n],⟨[],[(0,[1,5])],[]⟩⟩
def x19c0 {T : Type} (g : colorspec_Encode_l0_q R T) (H : Heap) (K : XK R) : T := g (kH (.exit 0) [1,5] [.p,.l] K)
def x19a0 (f : colorspec_Encode_l0_t R) : Nat → List Value → Heap → XK R → Option R := jl x19s0 (L := colorspec_Encode_l0_t R) x19c0 pH f
def x19J (k : Nat) : JTab R := tcons 0 (x19a0 z0 k) <| tcons 1 (x19a1 z1 k) <| tcons 2 (x19a2 z2 k) <| fun _ _ _ _ => none
def x19t : AT := (.seq (.reg [1] []) (.seq (.seq (.reg [1,4] []) (.seq (.reg [1,4,15] []) (.cond (.seq (.reg [2,3] []) .leaf) .leaf))) (.seq (.reg [1,5] []) (.seq (.seq (.reg [1,5,26,27,28] []) (.node (.opq 0 x19s0.ls x19s0.out (.node x19s0.t)))) (.seq (.reg [1,5] []) (.seq (.seq (.reg [5,51,52,53] []) (.node (.opq 1 x19s1.ls x19s1.out (.node x19s1.t)))) (.seq (.reg [2,3] []) .leaf)))))))
def x19c (g : colorspec_Encode_u R) (H : Heap) (K : Value → Heap → Option R) : Option R := g H (rH [.l,.n] K)
def x19a (f : colorspec_Encode_t R) : List Value → Heap → (Value → Heap → Option R) → Option R := jf 1 [(.a 3),.n,.l,.l] x19c f
variable {f0 z0 z1 z2}
theorem x19e2 (k n : Nat) (H : Heap) (K : XK R) : lE Try.prog An 71 (x19C f0) (x19J z0 z1 z2 k) x19s2 (sel [1,1,1,1,1,0,1,0,0,1,1,0,0,1,1,0,0] (bd Try.f19)) (x19a2 z2) n H K = mapT (fun g => pH g H) x19s2.ts (x19c2 (colorspec_Encode_l2_b k) H K (x19c2 z2 H K n)) := by kernel_rfl
theorem x19e1 (k n : Nat) (H : Heap) (K : XK R) : lE Try.prog An 71 (x19C f0) (x19J z0 z1 z2 k) x19s1 (sel [1,1,1,1,1,0,1,0,0] (bd Try.f19)) (x19a1 z1) n H K = mapT (fun g => pH g H) x19s1.ts (x19c1 (colorspec_Encode_l1_b z2 k) H K (x19c1 z1 H K n)) := by kernel_rfl
theorem x19e0 (k n : Nat) (H : Heap) (K : XK R) : lE Try.prog An 71 (x19C f0) (x19J z0 z1 z2 k) x19s0 (sel [1,1,1,0,1,0,0] (bd Try.f19)) (x19a0 z0) n H K = mapT (fun g => pH g H) x19s0.ts (x19c0 (colorspec_Encode_l0_b k) H K (x19c0 z0 H K n)) := by kernel_rfl
theorem x19e (k : Nat) (H : Heap) (K : Value → Heap → Option R) : fE Try.prog An (x19C f0) (x19J z0 z1 z2 k) x19t Try.f19 [(.a 3),.n,.l,.l] H K = mapT (fun g => x19c g H K) [(.a 3),.n,.l,.l] (colorspec_Encode_b f0 z0 z1 k) := by kernel_rfl
theorem x19S (R : Type) (k : Nat) : CSound Try.prog (x19C (R := R) (colorspec_validate k)) := csound_cons (x26cs R k) <| csound_nil
theorem x19j2 (R : Type) (k : Nat) : JS Try.prog 71 (x19a2 (colorspec_Encode_l2 (R := R) k) k) x19s2.ls x19s2.out (.loop (sel [1,1,1,1,1,0,1,0,0,1,1,0,0,1,1,0,0] (bd Try.f19))) := lj (x19S R k) (x19J (colorspec_Encode_l0 k) (colorspec_Encode_l1 k) (colorspec_Encode_l2 k) k) (by kernel_rfl) (A := True) trivial (by kernel_rfl) (fun _ _ => by kernel_rfl) (fun _ _ _ => .trans (x19e2 _ _ _ _) (by kernel_rfl)) k
theorem x19j1 (R : Type) (k : Nat) : JS Try.prog 71 (x19a1 (colorspec_Encode_l1 (R := R) k) k) x19s1.ls x19s1.out (.loop (sel [1,1,1,1,1,0,1,0,0] (bd Try.f19))) := lj (x19S R k) (x19J (colorspec_Encode_l0 k) (colorspec_Encode_l1 k) (colorspec_Encode_l2 k) k) (by kernel_rfl) (A := JS Try.prog 71 (x19a2 (colorspec_Encode_l2 (R := R) k) k) x19s2.ls x19s2.out (.loop (sel [1,1,1,1,1,0,1,0,0,1,1,0,0,1,1,0,0] (bd Try.f19))) ∧ True) ⟨x19j2 R k,trivial⟩ (by kernel_rfl) (fun _ _ => by kernel_rfl) (fun _ _ _ => .trans (x19e1 _ _ _ _) (by kernel_rfl)) k
theorem x19j0 (R : Type) (k : Nat) : JS Try.prog 71 (x19a0 (colorspec_Encode_l0 (R := R) k) k) x19s0.ls x19s0.out (.loop (sel [1,1,1,0,1,0,0] (bd Try.f19))) := lj (x19S R k) (x19J (colorspec_Encode_l0 k) (colorspec_Encode_l1 k) (colorspec_Encode_l2 k) k) (by kernel_rfl) (A := True) trivial (by kernel_rfl) (fun _ _ => by kernel_rfl) (fun _ _ _ => .trans (x19e0 _ _ _ _) (by kernel_rfl)) k
theorem x19cs (R : Type) (k : Nat) : ∀ args H K r,x19a (colorspec_Encode k) args H K = some (r : R) → ∃ v H',Tri Try.prog 19 args H v H' ∧ K v H' = some r := fj (x19S R k) (x19J (colorspec_Encode_l0 k) (colorspec_Encode_l1 k) (colorspec_Encode_l2 k) k) Try.func19 (by kernel_rfl) (A := JS Try.prog 71 (x19a0 (colorspec_Encode_l0 (R := R) k) k) x19s0.ls x19s0.out (.loop (sel [1,1,1,0,1,0,0] (bd Try.f19))) ∧ JS Try.prog 71 (x19a1 (colorspec_Encode_l1 (R := R) k) k) x19s1.ls x19s1.out (.loop (sel [1,1,1,1,1,0,1,0,0] (bd Try.f19))) ∧ True) ⟨x19j0 R k,⟨x19j1 R k,trivial⟩⟩ (by kernel_rfl) (fun _ _ => .trans (x19e _ _ _) (by kernel_rfl))
end
/-! ### slices_Equal___int_int_: function 36 -/
abbrev slices_Equal___int_int__l0_r (R : Type) : Type := Oa → Nat → Nat → Oa → Nat → Nat → Int → Int → Heap → Option R
abbrev slices_Equal___int_int__l0_q (R T : Type) : Type := (Unit → Option R) → (Bool → Option R) → T
abbrev slices_Equal___int_int__l0_t (R : Type) : Type := slices_Equal___int_int__l0_q R (Nat → slices_Equal___int_int__l0_r R)
abbrev slices_Equal___int_int__u (R : Type) : Type := Heap → (Bool → Option R) → Option R
abbrev slices_Equal___int_int__t (R : Type) : Type := Oa → Nat → Nat → Oa → Nat → Nat → slices_Equal___int_int__u R
section
variable {R : Type} (z0 : slices_Equal___int_int__l0_t R)
def slices_Equal___int_int__l0_b (k : Nat) : slices_Equal___int_int__l0_q R (slices_Equal___int_int__l0_r R → slices_Equal___int_int__l0_r R) := fun KE0 KR rec q1 l2 c3 q4 l5 c6 n7 n8 H =>
bif decide (n8 < n7) then (hidx q1 l2 n8 1 fun p9 =>
ldI .i64 H p9 fun n10 =>
hidx q4 l5 n8 1 fun p11 =>
ldI .i64 H p11 fun n12 =>
bif (n10 != n12) then (KR false)
 else (rec q1 l2 c3 q4 l5 c6 n7 (IntKind.wrap .i64 (n8 + 1)) H))
 else (KE0 ())
def slices_Equal___int_int__l0 (k : Nat) : slices_Equal___int_int__l0_t R
  | KE0,KR,0 => fun _ _ _ _ _ _ _ _ _ => none
  | KE0,KR,n + 1 => slices_Equal___int_int__l0_b k KE0 KR (slices_Equal___int_int__l0 k KE0 KR n)
def slices_Equal___int_int__b (k : Nat) : slices_Equal___int_int__t R := fun q1 l2 c3 q4 l5 c6 H K =>
bif (((l2 : Nat) : Int) != ((l5 : Nat) : Int)) then (K false)
 else (z0 (fun (_ : Unit) =>
K true) (fun t8 =>
K t8) k q1 l2 c3 q4 l5 c6 ((l2 : Nat) : Int) 0 H)
def slices_Equal___int_int_ (k : Nat) : slices_Equal___int_int__t R := slices_Equal___int_int__b (slices_Equal___int_int__l0 k) k
def x36C : Tab R := fun _ _ _ _ => none
def x36s0 : PS := ⟨(.seq (.reg [0,1,12,13,14] []) (.seq (.cond .leaf .leaf) (.seq (.node (.seq (.reg [0,1,5,12,13] []) (.seq (.reg [0,1,12,13,24] (ms [0,0,3,7,0,0,48,112,255])) (.cond (.seq (.reg [4] []) .leaf) .leaf)))) (.reg [0,1,12,13] [])))),[0,1,12,13],[.l,.l,.n,.n],⟨[],[(0,[])],[4]⟩⟩
def x36c0 {T : Type} (g : slices_Equal___int_int__l0_q R T) (H : Heap) (K : XK R) : T := g (kU (.exit 0) K H) (kN .ret [4] [.b] K H)
def x36a0 (f : slices_Equal___int_int__l0_t R) : Nat → List Value → Heap → XK R → Option R := jl x36s0 (L := slices_Equal___int_int__l0_t R) x36c0 pH f
def x36J (k : Nat) : JTab R := tcons 0 (x36a0 z0 k) <| fun _ _ _ _ => none
def x36t : AT := (.seq (.reg [0,1] []) (.seq (.seq (.reg [0,1,10] []) (.cond (.seq (.reg [4] []) .leaf) .leaf)) (.seq (.seq (.reg [0,1,12,13] []) (.node (.opq 0 x36s0.ls x36s0.out (.node x36s0.t)))) (.seq (.reg [4] []) .leaf))))
def x36c (g : slices_Equal___int_int__u R) (H : Heap) (K : Value → Heap → Option R) : Option R := g H (rN [.b] K H)
def x36a (f : slices_Equal___int_int__t R) : List Value → Heap → (Value → Heap → Option R) → Option R := jf 2 [.l,.l] x36c f
variable {z0}
theorem x36e0 (k n : Nat) (H : Heap) (K : XK R) : lE Try.prog An 26 (x36C) (x36J z0 k) x36s0 (sel [1,1,0,1,0,0] (bd Try.f36)) (x36a0 z0) n H K = mapT (fun g => pH g H) x36s0.ts (x36c0 (slices_Equal___int_int__l0_b k) H K (x36c0 z0 H K n)) := by kernel_rfl
theorem x36e (k : Nat) (H : Heap) (K : Value → Heap → Option R) : fE Try.prog An (x36C) (x36J z0 k) x36t Try.f36 [.l,.l] H K = mapT (fun g => x36c g H K) [.l,.l] (slices_Equal___int_int__b z0 k) := by kernel_rfl
theorem x36S (R : Type) (k : Nat) : CSound Try.prog (x36C (R := R)) := csound_nil
theorem x36j0 (R : Type) (k : Nat) : JS Try.prog 26 (x36a0 (slices_Equal___int_int__l0 (R := R) k) k) x36s0.ls x36s0.out (.loop (sel [1,1,0,1,0,0] (bd Try.f36))) := lj (x36S R k) (x36J (slices_Equal___int_int__l0 k) k) (by kernel_rfl) (A := True) trivial (by kernel_rfl) (fun _ _ => by kernel_rfl) (fun _ _ _ => .trans (x36e0 _ _ _ _) (by kernel_rfl)) k
theorem x36cs (R : Type) (k : Nat) : ∀ args H K r,x36a (slices_Equal___int_int_ k) args H K = some (r : R) → ∃ v H',Tri Try.prog 36 args H v H' ∧ K v H' = some r := fj (x36S R k) (x36J (slices_Equal___int_int__l0 k) k) Try.func36 (by kernel_rfl) (A := JS Try.prog 26 (x36a0 (slices_Equal___int_int__l0 (R := R) k) k) x36s0.ls x36s0.out (.loop (sel [1,1,0,1,0,0] (bd Try.f36))) ∧ True) ⟨x36j0 R k,trivial⟩ (by kernel_rfl) (fun _ _ => .trans (x36e _ _ _) (by kernel_rfl))
end
/-! ### colorspec_Same_1: function 38 -/
abbrev colorspec_Same_1_u (R : Type) : Type := Heap → (Bool → Option R) → Option R
abbrev colorspec_Same_1_t (R : Type) : Type := Oa → Nat → Nat → Oa → Nat → Nat → colorspec_Same_1_u R
section
variable {R : Type} (f0 : slices_Equal___int_int__t R)
def colorspec_Same_1_b (k : Nat) : colorspec_Same_1_t R := fun q1 l2 c3 q4 l5 c6 H K =>
f0 q1 l2 c3 q4 l5 c6 H fun t7 =>
K t7
def colorspec_Same_1 (k : Nat) : colorspec_Same_1_t R := colorspec_Same_1_b (slices_Equal___int_int_ k) k
def x38C : Tab R := tcons 36 (x36a f0) <| fun _ _ _ _ => none
def x38J (k : Nat) : JTab R := fun _ _ _ _ => none
def x38t : AT := (.seq (.reg [0,1] []) (.seq (.reg [4] []) .leaf))
def x38c (g : colorspec_Same_1_u R) (H : Heap) (K : Value → Heap → Option R) : Option R := g H (rN [.b] K H)
def x38a (f : colorspec_Same_1_t R) : List Value → Heap → (Value → Heap → Option R) → Option R := jf 2 [.l,.l] x38c f
variable {f0}
theorem x38e (k : Nat) (H : Heap) (K : Value → Heap → Option R) : fE Try.prog An (x38C f0) (x38J k) x38t Try.f38 [.l,.l] H K = mapT (fun g => x38c g H K) [.l,.l] (colorspec_Same_1_b f0 k) := by kernel_rfl
theorem x38S (R : Type) (k : Nat) : CSound Try.prog (x38C (R := R) (slices_Equal___int_int_ k)) := csound_cons (x36cs R k) <| csound_nil
theorem x38cs (R : Type) (k : Nat) : ∀ args H K r,x38a (colorspec_Same_1 k) args H K = some (r : R) → ∃ v H',Tri Try.prog 38 args H v H' ∧ K v H' = some r := fj (x38S R k) (x38J k) Try.func38 (by kernel_rfl) (A := True) trivial (by kernel_rfl) (fun _ _ => .trans (x38e _ _ _) (by kernel_rfl))
end
/-! ### slices_EqualFunc_____int_____int___int___int__v38: function 37 -/
abbrev slices_EqualFunc_____int_____int___int___int__v38_l0_r (R : Type) : Type := Oa → Nat → Nat → Oa → Nat → Nat → Int → Int → Heap → Option R
abbrev slices_EqualFunc_____int_____int___int___int__v38_l0_q (R T : Type) : Type := (Unit → Option R) → (Bool → Option R) → T
abbrev slices_EqualFunc_____int_____int___int___int__v38_l0_t (R : Type) : Type := slices_EqualFunc_____int_____int___int___int__v38_l0_q R (Nat → slices_EqualFunc_____int_____int___int___int__v38_l0_r R)
abbrev slices_EqualFunc_____int_____int___int___int__v38_u (R : Type) : Type := Heap → (Bool → Option R) → Option R
abbrev slices_EqualFunc_____int_____int___int___int__v38_t (R : Type) : Type := Oa → Nat → Nat → Oa → Nat → Nat → slices_EqualFunc_____int_____int___int___int__v38_u R
section
variable {R : Type} (f0 : colorspec_Same_1_t R) (z0 : slices_EqualFunc_____int_____int___int___int__v38_l0_t R)
def slices_EqualFunc_____int_____int___int___int__v38_l0_b (k : Nat) : slices_EqualFunc_____int_____int___int___int__v38_l0_q R (slices_EqualFunc_____int_____int___int___int__v38_l0_r R → slices_EqualFunc_____int_____int___int___int__v38_l0_r R) := fun KE0 KR rec q1 l2 c3 q4 l5 c6 n7 n8 H =>
bif decide (n8 < n7) then (hidx q4 l5 n8 1 fun p9 =>
ldL H p9 fun q10 l11 c12 =>
hidx q1 l2 n8 1 fun p13 =>
ldL H p13 fun q14 l15 c16 =>
f0 q10 l11 c12 q14 l15 c16 H fun t17 =>
bif (!t17) then (KR false)
 else (rec q1 l2 c3 q4 l5 c6 n7 (IntKind.wrap .i64 (n8 + 1)) H))
 else (KE0 ())
def slices_EqualFunc_____int_____int___int___int__v38_l0 (k : Nat) : slices_EqualFunc_____int_____int___int___int__v38_l0_t R
  | KE0,KR,0 => fun _ _ _ _ _ _ _ _ _ => none
  | KE0,KR,n + 1 => slices_EqualFunc_____int_____int___int___int__v38_l0_b (colorspec_Same_1 k) k KE0 KR (slices_EqualFunc_____int_____int___int___int__v38_l0 k KE0 KR n)
def slices_EqualFunc_____int_____int___int___int__v38_b (k : Nat) : slices_EqualFunc_____int_____int___int___int__v38_t R := fun q1 l2 c3 q4 l5 c6 H K =>
bif (((l2 : Nat) : Int) != ((l5 : Nat) : Int)) then (K false)
 else (z0 (fun (_ : Unit) =>
K true) (fun t8 =>
K t8) k q4 l5 c6 q1 l2 c3 ((l2 : Nat) : Int) 0 H)
def slices_EqualFunc_____int_____int___int___int__v38 (k : Nat) : slices_EqualFunc_____int_____int___int___int__v38_t R := slices_EqualFunc_____int_____int___int___int__v38_b (slices_EqualFunc_____int_____int___int___int__v38_l0 k) k
def x37v38C : Tab R := tcons 38 (x38a f0) <| fun _ _ _ _ => none
def x37v38s0 : PS := ⟨(.seq (.reg [1,2,15,16,17,18] []) (.seq (.cond .leaf .leaf) (.seq (.node (.seq (.reg [1,2,7,8,15,16,17] []) (.seq (.reg [1,2,8,9,15,16,17] []) (.seq (.reg [1,2,15,16,17,30] []) (.cond (.seq (.reg [6] []) .leaf) .leaf))))) (.reg [1,2,15,16,17] [])))),[1,2,15,16,17],[.l,(.f 38 0),.l,.n,.n],⟨[],[(0,[])],[6]⟩⟩
def x37v38c0 {T : Type} (g : slices_EqualFunc_____int_____int___int___int__v38_l0_q R T) (H : Heap) (K : XK R) : T := g (kU (.exit 0) K H) (kN .ret [6] [.b] K H)
def x37v38a0 (f : slices_EqualFunc_____int_____int___int___int__v38_l0_t R) : Nat → List Value → Heap → XK R → Option R := jl x37v38s0 (L := slices_EqualFunc_____int_____int___int___int__v38_l0_t R) x37v38c0 pH f
def x37v38J (k : Nat) : JTab R := tcons 0 (x37v38a0 z0 k) <| fun _ _ _ _ => none
def x37v38t : AT := (.seq (.reg [0,1,2] []) (.seq (.seq (.reg [0,1,2,14] []) (.cond (.seq (.reg [6] []) .leaf) .leaf)) (.seq (.seq (.reg [1,2,15,16,17] []) (.node (.opq 0 x37v38s0.ls x37v38s0.out (.node x37v38s0.t)))) (.seq (.reg [6] []) .leaf))))
def x37v38c (g : slices_EqualFunc_____int_____int___int___int__v38_u R) (H : Heap) (K : Value → Heap → Option R) : Option R := g H (rN [.b] K H)
def x37v38a (f : slices_EqualFunc_____int_____int___int___int__v38_t R) : List Value → Heap → (Value → Heap → Option R) → Option R := jf 3 [.l,.l,(.f 38 0)] x37v38c f
variable {f0 z0}
theorem x37v38e0 (k n : Nat) (H : Heap) (K : XK R) : lE Try.prog An 32 (x37v38C f0) (x37v38J z0 k) x37v38s0 (sel [1,1,0,1,0,0] (bd Try.f37)) (x37v38a0 z0) n H K = mapT (fun g => pH g H) x37v38s0.ts (x37v38c0 (slices_EqualFunc_____int_____int___int___int__v38_l0_b f0 k) H K (x37v38c0 z0 H K n)) := by kernel_rfl
theorem x37v38e (k : Nat) (H : Heap) (K : Value → Heap → Option R) : fE Try.prog An (x37v38C f0) (x37v38J z0 k) x37v38t Try.f37 [.l,.l,(.f 38 0)] H K = mapT (fun g => x37v38c g H K) [.l,.l,(.f 38 0)] (slices_EqualFunc_____int_____int___int___int__v38_b z0 k) := by kernel_rfl
theorem x37v38S (R : Type) (k : Nat) : CSound Try.prog (x37v38C (R := R) (colorspec_Same_1 k)) := csound_cons (x38cs R k) <| csound_nil
theorem x37v38j0 (R : Type) (k : Nat) : JS Try.prog 32 (x37v38a0 (slices_EqualFunc_____int_____int___int___int__v38_l0 (R := R) k) k) x37v38s0.ls x37v38s0.out (.loop (sel [1,1,0,1,0,0] (bd Try.f37))) := lj (x37v38S R k) (x37v38J (slices_EqualFunc_____int_____int___int___int__v38_l0 k) k) (by kernel_rfl) (A := True) trivial (by kernel_rfl) (fun _ _ => by kernel_rfl) (fun _ _ _ => .trans (x37v38e0 _ _ _ _) (by kernel_rfl)) k
theorem x37v38cs (R : Type) (k : Nat) : ∀ args H K r,x37v38a (slices_EqualFunc_____int_____int___int___int__v38 k) args H K = some (r : R) → ∃ v H',Tri Try.prog 37 args H v H' ∧ K v H' = some r := fj (x37v38S R k) (x37v38J (slices_EqualFunc_____int_____int___int___int__v38_l0 k) k) Try.func37 (by kernel_rfl) (A := JS Try.prog 32 (x37v38a0 (slices_EqualFunc_____int_____int___int___int__v38_l0 (R := R) k) k) x37v38s0.ls x37v38s0.out (.loop (sel [1,1,0,1,0,0] (bd Try.f37))) ∧ True) ⟨x37v38j0 R k,trivial⟩ (by kernel_rfl) (fun _ _ => .trans (x37v38e _ _ _) (by kernel_rfl))
end
/-! ### colorspec_Same: function 21 -/
abbrev colorspec_Same_u (R : Type) : Type := Heap → (Bool → Heap → Option R) → Option R
abbrev colorspec_Same_t (R : Type) : Type := Int → Oa → Nat → Nat → Oa → Nat → Nat → Int → Oa → Nat → Nat → Oa → Nat → Nat → colorspec_Same_u R
section
variable {R : Type} (f0 : slices_Equal___int_int__t R) (f1 : slices_EqualFunc_____int_____int___int___int__v38_t R)
def colorspec_Same_b (k : Nat) : colorspec_Same_t R := fun n1 q2 l3 c4 q5 l6 c7 n8 q9 l10 c11 q12 l13 c14 H K =>
hal H [.int .i64 n1,.slice q2 l3 c4,.slice q5 l6 c7] fun p15 H16 =>
hal H16 [.int .i64 n8,.slice q9 l10 c11,.slice q12 l13 c14] fun p17 H18 =>
hfad 0 p15 fun p19 =>
ldI .i64 H18 p19 fun n20 =>
hfad 0 p17 fun p21 =>
ldI .i64 H18 p21 fun n22 =>
bif (n20 == n22) then (hfad 1 p15 fun p23 =>
ldL H18 p23 fun q24 l25 c26 =>
hfad 1 p17 fun p27 =>
ldL H18 p27 fun q28 l29 c30 =>
f0 q24 l25 c26 q28 l29 c30 H18 fun t31 =>
bif t31 then (hfad 2 p15 fun p32 =>
ldL H18 p32 fun q33 l34 c35 =>
hfad 2 p17 fun p36 =>
ldL H18 p36 fun q37 l38 c39 =>
f1 q33 l34 c35 q37 l38 c39 H18 fun t40 =>
K t40 H18)
 else (K false H18))
 else (K false H18)
def colorspec_Same (k : Nat) : colorspec_Same_t R := colorspec_Same_b (slices_Equal___int_int_ k) (slices_EqualFunc_____int_____int___int___int__v38 k) k
def x21C : Tab R := tcons 36 (x36a f0) <| tcons 37 (x37v38a f1) <| fun _ _ _ _ => none
def x21J (k : Nat) : JTab R := fun _ _ _ _ => none
def x21t : AT := (.seq (.reg [2,3] []) (.seq (.reg [4] []) .leaf))
def x21c (g : colorspec_Same_u R) (H : Heap) (K : Value → Heap → Option R) : Option R := g H (rH [.b] K)
def x21a (f : colorspec_Same_t R) : List Value → Heap → (Value → Heap → Option R) → Option R := jf 2 [(.a 3),.n,.l,.l,(.a 3),.n,.l,.l] x21c f
variable {f0 f1}
theorem x21e (k : Nat) (H : Heap) (K : Value → Heap → Option R) : fE Try.prog An (x21C f0 f1) (x21J k) x21t Try.f21 [(.a 3),.n,.l,.l,(.a 3),.n,.l,.l] H K = mapT (fun g => x21c g H K) [(.a 3),.n,.l,.l,(.a 3),.n,.l,.l] (colorspec_Same_b f0 f1 k) := by kernel_rfl
theorem x21S (R : Type) (k : Nat) : CSound Try.prog (x21C (R := R) (slices_Equal___int_int_ k) (slices_EqualFunc_____int_____int___int___int__v38 k)) := csound_cons (x36cs R k) <| csound_cons (x37v38cs R k) <| csound_nil
theorem x21cs (R : Type) (k : Nat) : ∀ args H K r,x21a (colorspec_Same k) args H K = some (r : R) → ∃ v H',Tri Try.prog 21 args H v H' ∧ K v H' = some r := fj (x21S R k) (x21J k) Try.func21 (by kernel_rfl) (A := True) trivial (by kernel_rfl) (fun _ _ => .trans (x21e _ _ _) (by kernel_rfl))
end
end Go.Proofs.Ytkjcjlembepdkaa.Sh
