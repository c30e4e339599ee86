/- Lean functions that stand for Go's,over an explicit heap,and the proofs that they do (written by this claim's program sh2.py). -/
import Derived.Test.YtkjcjlembepdkaaShA
import Derived.Test.YtkjcjlembepdkaaSh0
import Derived.Test.YtkjcjlembepdkaaSh4
set_option maxRecDepth 100000
set_option linter.unusedVariables false
set_option linter.unusedSimpArgs false
namespace Go.Proofs.Ytkjcjlembepdkaa.Sh
open Go.Proofs.Ytkjcjlembepdkaa.FW
/-! ### api_Component_: function 45 -/
abbrev api_Component__u (R : Type) : Type := Heap → (Oa → Nat → Nat → Heap → Option R) → Option R
abbrev api_Component__t (R : Type) : Type := Oa → Nat → Nat → api_Component__u R
section
variable {R : Type}
def api_Component__b (k : Nat) : api_Component__t R := fun q1 l2 c3 H K =>
bif q1.isNone then (K none 0 0 H)
 else (hal H [] fun p4 H5 =>
happS 4 32 H5 p4 0 0 q1 l2 fun q6 l7 c8 H9 =>
K q6 l7 c8 H9)
def api_Component_ : api_Component__t R := api_Component__b 0
def x45C : Tab R := fun _ _ _ _ => none
def x45J (k : Nat) : JTab R := fun _ _ _ _ => none
def x45t : AT := (.seq (.reg [0] []) (.seq (.seq (.reg [0,4] []) (.cond (.seq (.reg [2] []) .leaf) .leaf)) (.seq (.reg [2] []) .leaf)))
def x45c (g : api_Component__u R) (H : Heap) (K : Value → Heap → Option R) : Option R := g H (rH [.l] K)
def x45a (f : api_Component__t R) : List Value → Heap → (Value → Heap → Option R) → Option R := jf 1 [.l] x45c f
theorem x45e (k : Nat) (H : Heap) (K : Value → Heap → Option R) : fE Try.prog An (x45C) (x45J k) x45t Try.f45 [.l] H K = mapT (fun g => x45c g H K) [.l] (api_Component__b k) := by kernel_rfl
theorem x45S (R : Type) (k : Nat) : CSound Try.prog (x45C (R := R)) := csound_nil
theorem x45cs (R : Type) (k : Nat) : ∀ args H K r,x45a (api_Component_) args H K = some (r : R) → ∃ v H',Tri Try.prog 45 args H v H' ∧ K v H' = some r := fj (x45S R k) (x45J 0) Try.func45 (by kernel_rfl) (A := True) trivial (by kernel_rfl) (fun _ _ => .trans (x45e _ _ _) (by kernel_rfl))
end
/-! ### colorspec_cloneImage: function 30 -/
abbrev colorspec_cloneImage_l0_r (R : Type) : Type := Oa → Oa → Oa → Nat → Nat → Int → Int → Heap → Option R
abbrev colorspec_cloneImage_l0_q (R T : Type) : Type := (Oa → Oa → Heap → Option R) → T
abbrev colorspec_cloneImage_l0_t (R : Type) : Type := colorspec_cloneImage_l0_q R (Nat → colorspec_cloneImage_l0_r R)
abbrev colorspec_cloneImage_u (R : Type) : Type := Heap → (Int → Int → Int → Int → Int → Int → Oa → Nat → Nat → Oa → Nat → Nat → Heap → Option R) → Option R
abbrev colorspec_cloneImage_t (R : Type) : Type := Int → Int → Int → Int → Int → Int → Oa → Nat → Nat → Oa → Nat → Nat → colorspec_cloneImage_u R
section
variable {R : Type} (f0 : api_Component__t R) (f1 : slices_Clone___int_int__t R) (z0 : colorspec_cloneImage_l0_t R)
def colorspec_cloneImage_l0_b (k : Nat) : colorspec_cloneImage_l0_q R (colorspec_cloneImage_l0_r R → colorspec_cloneImage_l0_r R) := fun KE0 rec p1 p2 q3 l4 c5 n6 n7 H =>
bif decide (n7 < n6) then (hidx q3 l4 n7 5 fun p8 =>
ldI .i64 H (pad p8 0) fun n9 =>
ldI .i64 H (pad p8 1) fun n10 =>
ldI .i64 H (pad p8 2) fun n11 =>
ldI .i64 H (pad p8 3) fun n12 =>
ldL H (pad p8 4) fun q13 l14 c15 =>
hal H [.int .i64 0,.int .i64 0,.int .i64 0,.int .i64 0,.slice none 0 0] fun p16 H17 =>
hst H17 p16 [.int .i64 n9,.int .i64 n10,.int .i64 n11,.int .i64 n12,.slice q13 l14 c15] fun H18 =>
hfad 7 p2 fun p19 =>
ldL H18 p19 fun q20 l21 c22 =>
hfad 0 p16 fun p23 =>
ldI .i64 H18 (pad p23 0) fun n24 =>
ldI .i64 H18 (pad p23 1) fun n25 =>
ldI .i64 H18 (pad p23 2) fun n26 =>
ldI .i64 H18 (pad p23 3) fun n27 =>
hfad 4 p16 fun p28 =>
ldL H18 p28 fun q29 l30 c31 =>
f1 q29 l30 c31 (roH H18) fun q32 l33 c34 H35 =>
hal (H18 ++ H35.drop H18.length) [.int .i64 n24,.int .i64 n25,.int .i64 n26,.int .i64 n27,.slice q32 l33 c34] fun p36 H37 =>
happS 5 56 H37 q20 l21 c22 p36 1 fun q38 l39 c40 H41 =>
hfad 7 p2 fun p42 =>
hst1 H41 p42 (.slice q38 l39 c40) fun H43 =>
rec p1 p2 q3 l4 c5 n6 (IntKind.wrap .i64 (n7 + 1)) H43)
 else (KE0 p1 p2 H)
def colorspec_cloneImage_l0 (k : Nat) : colorspec_cloneImage_l0_t R
  | KE0,0 => fun _ _ _ _ _ _ _ _ => none
  | KE0,n + 1 => colorspec_cloneImage_l0_b slices_Clone___int_int_ k KE0 (colorspec_cloneImage_l0 k KE0 n)
def colorspec_cloneImage_b (k : Nat) : colorspec_cloneImage_t R := fun n1 n2 n3 n4 n5 n6 q7 l8 c9 q10 l11 c12 H K =>
hal H [.int .i64 n1,.int .i64 n2,.int .i64 n3,.int .i64 n4,.int .i64 n5,.int .i64 n6,.slice q7 l8 c9,.slice q10 l11 c12] fun p13 H14 =>
hal H14 [.int .i64 0,.int .i64 0,.int .i64 0,.int .i64 0,.int .i64 0,.int .i64 0,.slice none 0 0,.slice none 0 0] fun p15 H16 =>
ldI .i64 H16 (pad p13 0) fun n17 =>
ldI .i64 H16 (pad p13 1) fun n18 =>
ldI .i64 H16 (pad p13 2) fun n19 =>
ldI .i64 H16 (pad p13 3) fun n20 =>
ldI .i64 H16 (pad p13 4) fun n21 =>
ldI .i64 H16 (pad p13 5) fun n22 =>
ldL H16 (pad p13 6) fun q23 l24 c25 =>
ldL H16 (pad p13 7) fun q26 l27 c28 =>
hal H16 [.int .i64 0,.int .i64 0,.int .i64 0,.int .i64 0,.int .i64 0,.int .i64 0,.slice none 0 0,.slice none 0 0] fun p29 H30 =>
hst H30 p29 [.int .i64 n17,.int .i64 n18,.int .i64 n19,.int .i64 n20,.int .i64 n21,.int .i64 n22,.slice q23 l24 c25,.slice q26 l27 c28] fun H31 =>
hfad 0 p13 fun p32 =>
hfad 6 p32 fun p33 =>
ldL H31 p33 fun q34 l35 c36 =>
f0 q34 l35 c36 H31 fun q37 l38 c39 H40 =>
hfad 0 p29 fun p41 =>
hfad 6 p41 fun p42 =>
hst1 H40 p42 (.slice q37 l38 c39) fun H43 =>
hfad 7 p29 fun p44 =>
hst1 H43 p44 (.slice none 0 0) fun H45 =>
hfad 7 p13 fun p46 =>
ldL H45 p46 fun q47 l48 c49 =>
z0 (fun p52 p53 H54 =>
ldI .i64 H54 (pad p53 0) fun n55 =>
ldI .i64 H54 (pad p53 1) fun n56 =>
ldI .i64 H54 (pad p53 2) fun n57 =>
ldI .i64 H54 (pad p53 3) fun n58 =>
ldI .i64 H54 (pad p53 4) fun n59 =>
ldI .i64 H54 (pad p53 5) fun n60 =>
ldL H54 (pad p53 6) fun q61 l62 c63 =>
ldL H54 (pad p53 7) fun q64 l65 c66 =>
hst H54 p52 [.int .i64 n55,.int .i64 n56,.int .i64 n57,.int .i64 n58,.int .i64 n59,.int .i64 n60,.slice q61 l62 c63,.slice q64 l65 c66] fun H67 =>
ldI .i64 H67 (pad p52 0) fun n68 =>
ldI .i64 H67 (pad p52 1) fun n69 =>
ldI .i64 H67 (pad p52 2) fun n70 =>
ldI .i64 H67 (pad p52 3) fun n71 =>
ldI .i64 H67 (pad p52 4) fun n72 =>
ldI .i64 H67 (pad p52 5) fun n73 =>
ldL H67 (pad p52 6) fun q74 l75 c76 =>
ldL H67 (pad p52 7) fun q77 l78 c79 =>
K n68 n69 n70 n71 n72 n73 q74 l75 c76 q77 l78 c79 H67) k p15 p29 q47 l48 c49 ((l48 : Nat) : Int) 0 H45
def colorspec_cloneImage (k : Nat) : colorspec_cloneImage_t R := colorspec_cloneImage_b api_Component_ (colorspec_cloneImage_l0 k) k
def x30C : Tab R := tcons 45 (x45a f0) <| tcons 46 (x46a f1) <| fun _ _ _ _ => none
def x30s0 : PS := ⟨(.seq (.reg [2,3,15,16,17,18] []) (.seq (.cond .leaf .leaf) (.seq (.node (.seq (.reg [2,3,5,15,16,17] []) (.reg [2,3,15,16,17] (ms [0,1,0,4,0,16,48,124,252,511,1023,2047])))) (.reg [2,3,15,16,17] [])))),[2,3,15,16,17],[.p,.p,.l,.n,.n],⟨[],[(0,[2,3])],[]⟩⟩
def x30c0 {T : Type} (g : colorspec_cloneImage_l0_q R T) (H : Heap) (K : XK R) : T := g (kH (.exit 0) [2,3] [.p,.p] K)
def x30a0 (f : colorspec_cloneImage_l0_t R) : Nat → List Value → Heap → XK R → Option R := jl x30s0 (L := colorspec_cloneImage_l0_t R) x30c0 pH f
def x30J (k : Nat) : JTab R := tcons 0 (x30a0 z0 k) <| fun _ _ _ _ => none
def x30t : AT := (.seq (.reg [1,2] []) (.seq (.reg [1,2,3] []) (.seq (.reg [1,2,3] []) (.seq (.reg [1,2,3] []) (.seq (.seq (.reg [2,3,15,16,17] []) (.node (.opq 0 x30s0.ls x30s0.out (.node x30s0.t)))) (.seq (.reg [2] []) .leaf))))))
def x30c (g : colorspec_cloneImage_u R) (H : Heap) (K : Value → Heap → Option R) : Option R := g H (rH [(.a 8),.n,.n,.n,.n,.n,.n,.l,.l] K)
def x30a (f : colorspec_cloneImage_t R) : List Value → Heap → (Value → Heap → Option R) → Option R := jf 1 [(.a 8),.n,.n,.n,.n,.n,.n,.l,.l] x30c f
variable {f0 f1 z0}
theorem x30e0 (k n : Nat) (H : Heap) (K : XK R) : lE Try.prog An 34 (x30C f0 f1) (x30J z0 k) x30s0 (sel [1,1,1,1,0,1,0,0] (bd Try.f30)) (x30a0 z0) n H K = mapT (fun g => pH g H) x30s0.ts (x30c0 (colorspec_cloneImage_l0_b f1 k) H K (x30c0 z0 H K n)) := by kernel_rfl
theorem x30e (k : Nat) (H : Heap) (K : Value → Heap → Option R) : fE Try.prog An (x30C f0 f1) (x30J z0 k) x30t Try.f30 [(.a 8),.n,.n,.n,.n,.n,.n,.l,.l] H K = mapT (fun g => x30c g H K) [(.a 8),.n,.n,.n,.n,.n,.n,.l,.l] (colorspec_cloneImage_b f0 z0 k) := by kernel_rfl
theorem x30S (R : Type) (k : Nat) : CSound Try.prog (x30C (R := R) api_Component_ slices_Clone___int_int_) := csound_cons (x45cs R k) <| csound_cons (x46cs R k) <| csound_nil
theorem x30j0 (R : Type) (k : Nat) : JS Try.prog 34 (x30a0 (colorspec_cloneImage_l0 (R := R) k) k) x30s0.ls x30s0.out (.loop (sel [1,1,1,1,0,1,0,0] (bd Try.f30))) := lj (x30S R k) (x30J (colorspec_cloneImage_l0 k) k) (by kernel_rfl) (A := True) trivial (by kernel_rfl) (fun _ _ => by kernel_rfl) (fun _ _ _ => .trans (x30e0 _ _ _ _) (by kernel_rfl)) k
theorem x30cs (R : Type) (k : Nat) : ∀ args H K r,x30a (colorspec_cloneImage k) args H K = some (r : R) → ∃ v H',Tri Try.prog 30 args H v H' ∧ K v H' = some r := fj (x30S R k) (x30J (colorspec_cloneImage_l0 k) k) Try.func30 (by kernel_rfl) (A := JS Try.prog 34 (x30a0 (colorspec_cloneImage_l0 (R := R) k) k) x30s0.ls x30s0.out (.loop (sel [1,1,1,1,0,1,0,0] (bd Try.f30))) ∧ True) ⟨x30j0 R k,trivial⟩ (by kernel_rfl) (fun _ _ => .trans (x30e _ _ _) (by kernel_rfl))
end
/-! ### color_deep: function 47 -/
abbrev color_deep_u (R : Type) : Type := (Bool → Option R) → Option R
abbrev color_deep_t (R : Type) : Type := Int → color_deep_u R
section
variable {R : Type}
def color_deep_b (k : Nat) : color_deep_t R := fun n1 K =>
bif decide (n1 ≥ 1) then (K (decide (n1 ≤ 16)))
 else (K false)
def color_deep : color_deep_t R := color_deep_b 0
def x47C : Tab R := fun _ _ _ _ => none
def x47J (k : Nat) : JTab R := fun _ _ _ _ => none
def x47t : AT := (.seq (.reg [0] []) (.seq (.reg [2] []) .leaf))
def x47c (g : color_deep_u R) (H : Heap) (K : Value → Heap → Option R) : Option R := g (rN [.b] K H)
def x47a (f : color_deep_t R) : List Value → Heap → (Value → Heap → Option R) → Option R := jf 1 [.n] x47c f
theorem x47e (k : Nat) (H : Heap) (K : Value → Heap → Option R) : fE Try.prog An (x47C) (x47J k) x47t Try.f47 [.n] H K = mapT (fun g => x47c g H K) [.n] (color_deep_b k) := by kernel_rfl
theorem x47S (R : Type) (k : Nat) : CSound Try.prog (x47C (R := R)) := csound_nil
theorem x47cs (R : Type) (k : Nat) : ∀ args H K r,x47a (color_deep) args H K = some (r : R) → ∃ v H',Tri Try.prog 47 args H v H' ∧ K v H' = some r := fj (x47S R k) (x47J 0) Try.func47 (by kernel_rfl) (A := True) trivial (by kernel_rfl) (fun _ _ => .trans (x47e _ _ _) (by kernel_rfl))
end
/-! ### color_Range: function 31 -/
abbrev color_Range_u (R : Type) : Type := Heap → (Int → Int → Heap → Option R) → Option R
abbrev color_Range_t (R : Type) : Type := Int → Bool → Int → Int → color_Range_u R
section
variable {R : Type} (f0 : color_deep_t R)
def color_Range_b (k : Nat) : color_Range_t R := fun n1 t2 n3 n4 H K =>
hal H [.int .i64 n1,.bool t2,.int .i64 n3,.int .i64 n4] fun p5 H6 =>
hfad 0 p5 fun p7 =>
ldI .i64 H6 p7 fun n8 =>
f0 n8 fun t9 =>
bif (!t9) then (K 0 0 H6)
 else (hfad 1 p5 fun p10 =>
ldB H6 p10 fun t11 =>
bif t11 then (hfad 0 p5 fun p12 =>
ldI .i64 H6 p12 fun n13 =>
hbin .shl .i64 (-1) (IntKind.wrap .i64 (n13 - 1)) fun n14 =>
hfad 0 p5 fun p15 =>
ldI .i64 H6 p15 fun n16 =>
hbin .shl .i64 1 (IntKind.wrap .i64 (n16 - 1)) fun n17 =>
K n14 (IntKind.wrap .i64 (n17 - 1)) H6)
 else (hfad 0 p5 fun p18 =>
ldI .i64 H6 p18 fun n19 =>
hbin .shl .i64 1 n19 fun n20 =>
K 0 (IntKind.wrap .i64 (n20 - 1)) H6))
def color_Range : color_Range_t R := color_Range_b color_deep 0
def x31C : Tab R := tcons 47 (x47a f0) <| fun _ _ _ _ => none
def x31J (k : Nat) : JTab R := fun _ _ _ _ => none
def x31t : AT := (.seq (.reg [1] []) (.seq (.seq (.reg [1,7] []) (.cond (.seq (.reg [2,3] []) .leaf) .leaf)) (.seq (.seq (.reg [1,9] []) (.cond (.seq (.reg [2,3] (ms [0,1,3,7,0,16,48,112,240,15,1023])) .leaf) .leaf)) (.seq (.reg [2,3] (ms [0,1,3,7,0,31])) .leaf))))
def x31c (g : color_Range_u R) (H : Heap) (K : Value → Heap → Option R) : Option R := g H (rH [.n,.n] K)
def x31a (f : color_Range_t R) : List Value → Heap → (Value → Heap → Option R) → Option R := jf 1 [(.a 4),.n,.b,.n,.n] x31c f
variable {f0}
theorem x31e (k : Nat) (H : Heap) (K : Value → Heap → Option R) : fE Try.prog An (x31C f0) (x31J k) x31t Try.f31 [(.a 4),.n,.b,.n,.n] H K = mapT (fun g => x31c g H K) [(.a 4),.n,.b,.n,.n] (color_Range_b f0 k) := by kernel_rfl
theorem x31S (R : Type) (k : Nat) : CSound Try.prog (x31C (R := R) color_deep) := csound_cons (x47cs R 0) <| csound_nil
theorem x31cs (R : Type) (k : Nat) : ∀ args H K r,x31a (color_Range) args H K = some (r : R) → ∃ v H',Tri Try.prog 31 args H v H' ∧ K v H' = some r := fj (x31S R k) (x31J 0) Try.func31 (by kernel_rfl) (A := True) trivial (by kernel_rfl) (fun _ _ => .trans (x31e _ _ _) (by kernel_rfl))
end
/-! ### colorspec_Expand: function 16 -/
abbrev colorspec_Expand_l1_r (R : Type) : Type := Oa → Oa → Oa → Oa → Oa → Int → Oa → Int → Int → Oa → Nat → Nat → Int → Int → Heap → Option R
abbrev colorspec_Expand_l1_q (R T : Type) : Type := (Oa → Oa → Oa → Oa → Oa → Oa → Int → Int → Heap → Option R) → T
abbrev colorspec_Expand_l1_t (R : Type) : Type := colorspec_Expand_l1_q R (Nat → colorspec_Expand_l1_r R)
abbrev colorspec_Expand_l0_r (R : Type) : Type := Oa → Oa → Oa → Oa → Oa → Int → Int → Heap → Option R
abbrev colorspec_Expand_l0_q (R T : Type) : Type := (Oa → Oa → Heap → Option R) → T
abbrev colorspec_Expand_l0_t (R : Type) : Type := colorspec_Expand_l0_q R (Nat → colorspec_Expand_l0_r R)
abbrev colorspec_Expand_u (R : Type) : Type := Heap → (Int → Int → Int → Int → Int → Int → Oa → Nat → Nat → Oa → Nat → Nat → Int → Heap → Option R) → Option R
abbrev colorspec_Expand_t (R : Type) : Type := Int → Int → Int → Int → Int → Int → Oa → Nat → Nat → Oa → Nat → Nat → Int → Oa → Nat → Nat → Oa → Nat → Nat → colorspec_Expand_u R
section
variable {R : Type} (f0 : colorspec_Check_t R) (f1 : colorspec_cloneImage_t R) (f2 : color_Range_t R) (f3 : colorspec_within_t R) (z0 : colorspec_Expand_l0_t R) (z1 : colorspec_Expand_l1_t R)
def colorspec_Expand_l1_b (k : Nat) : colorspec_Expand_l1_q R (colorspec_Expand_l1_r R → colorspec_Expand_l1_r R) := fun KE2 rec p1 p2 p3 p4 p5 n6 p7 n8 n9 q10 l11 c12 n13 n14 H =>
bif decide (n14 < n13) then (hidx q10 l11 n14 1 fun p15 =>
ldI .i64 H p15 fun n16 =>
hfad 4 p7 fun p17 =>
ldL H p17 fun q18 l19 c20 =>
hfad 2 p2 fun p21 =>
ldL H p21 fun q22 l23 c24 =>
hidx q22 l23 n16 1 fun p25 =>
ldL H p25 fun q26 l27 c28 =>
hidx q26 l27 n6 1 fun p29 =>
ldI .i64 H p29 fun n30 =>
hal H [.int .i64 n30] fun p31 H32 =>
happS 1 8 H32 q18 l19 c20 p31 1 fun q33 l34 c35 H36 =>
hfad 4 p7 fun p37 =>
hst1 H36 p37 (.slice q33 l34 c35) fun H38 =>
rec p1 p2 p3 p4 p5 n6 p7 n8 n9 q10 l11 c12 n13 (IntKind.wrap .i64 (n14 + 1)) H38)
 else (KE2 p1 p2 p3 p4 p5 p7 n8 n9 H)
def colorspec_Expand_l1 (k : Nat) : colorspec_Expand_l1_t R
  | KE2,0 => fun _ _ _ _ _ _ _ _ _ _ _ _ _ _ _ => none
  | KE2,n + 1 => colorspec_Expand_l1_b k KE2 (colorspec_Expand_l1 k KE2 n)
def colorspec_Expand_l0_b (k : Nat) : colorspec_Expand_l0_q R (colorspec_Expand_l0_r R → colorspec_Expand_l0_r R) := fun KE0 rec p1 p2 p3 p4 p5 n6 n7 H =>
bif decide (n7 < n6) then (hfad 0 p5 fun p8 =>
hfad 6 p8 fun p9 =>
ldL H p9 fun q10 l11 c12 =>
hfad 2 p4 fun p13 =>
ldI .i64 H p13 fun n14 =>
hfad 3 p4 fun p15 =>
ldI .i64 H p15 fun n16 =>
hal H [.int .i64 8,.bool false,.int .i64 n14,.int .i64 n16] fun p17 H18 =>
happS 4 32 H18 q10 l11 c12 p17 1 fun q19 l20 c21 H22 =>
hfad 0 p5 fun p23 =>
hfad 6 p23 fun p24 =>
hst1 H22 p24 (.slice q19 l20 c21) fun H25 =>
hfad 7 p1 fun p26 =>
ldL H25 p26 fun q27 l28 c29 =>
hidx q27 l28 0 5 fun p30 =>
hfad 0 p30 fun p31 =>
ldI .i64 H25 (pad p31 0) fun n32 =>
ldI .i64 H25 (pad p31 1) fun n33 =>
ldI .i64 H25 (pad p31 2) fun n34 =>
ldI .i64 H25 (pad p31 3) fun n35 =>
hal H25 [.int .i64 0,.int .i64 0,.int .i64 0,.int .i64 0,.slice none 0 0] fun p36 H37 =>
hst H37 p36 [.int .i64 n32,.int .i64 n33,.int .i64 n34,.int .i64 n35,.slice none 0 0] fun H38 =>
hfad 7 p1 fun p39 =>
ldL H38 p39 fun q40 l41 c42 =>
hidx q40 l41 0 5 fun p43 =>
hfad 4 p43 fun p44 =>
ldL H38 p44 fun q45 l46 c47 =>
z1 (fun p56 p57 p58 p59 p60 p61 n62 n63 H64 =>
hfad 7 p60 fun p65 =>
ldL H64 p65 fun q66 l67 c68 =>
ldI .i64 H64 (pad p61 0) fun n69 =>
ldI .i64 H64 (pad p61 1) fun n70 =>
ldI .i64 H64 (pad p61 2) fun n71 =>
ldI .i64 H64 (pad p61 3) fun n72 =>
ldL H64 (pad p61 4) fun q73 l74 c75 =>
hal H64 [.int .i64 n69,.int .i64 n70,.int .i64 n71,.int .i64 n72,.slice q73 l74 c75] fun p76 H77 =>
happS 5 56 H77 q66 l67 c68 p76 1 fun q78 l79 c80 H81 =>
hfad 7 p60 fun p82 =>
hst1 H81 p82 (.slice q78 l79 c80) fun H83 =>
rec p56 p57 p58 p59 p60 n62 (IntKind.wrap .i64 (n63 + 1)) H83) k p1 p2 p3 p4 p5 n7 p36 n6 n7 q45 l46 c47 ((l46 : Nat) : Int) 0 H38)
 else (KE0 p3 p5 H)
def colorspec_Expand_l0 (k : Nat) : colorspec_Expand_l0_t R
  | KE0,0 => fun _ _ _ _ _ _ _ _ => none
  | KE0,n + 1 => colorspec_Expand_l0_b (colorspec_Expand_l1 k) k KE0 (colorspec_Expand_l0 k KE0 n)
def colorspec_Expand_b (k : Nat) : colorspec_Expand_t R := fun n1 n2 n3 n4 n5 n6 q7 l8 c9 q10 l11 c12 n13 q14 l15 c16 q17 l18 c19 H K =>
hal H [.int .i64 n1,.int .i64 n2,.int .i64 n3,.int .i64 n4,.int .i64 n5,.int .i64 n6,.slice q7 l8 c9,.slice q10 l11 c12] fun p20 H21 =>
hal H21 [.int .i64 n13,.slice q14 l15 c16,.slice q17 l18 c19] fun p22 H23 =>
hal H23 [.int .i64 0,.int .i64 0,.int .i64 0,.int .i64 0,.int .i64 0,.int .i64 0,.slice none 0 0,.slice none 0 0] fun p24 H25 =>
ldI .i64 H25 (pad p22 0) fun n26 =>
ldL H25 (pad p22 1) fun q27 l28 c29 =>
ldL H25 (pad p22 2) fun q30 l31 c32 =>
hfad 0 p20 fun p33 =>
ldI .i64 H25 (pad p33 0) fun n34 =>
ldI .i64 H25 (pad p33 1) fun n35 =>
ldI .i64 H25 (pad p33 2) fun n36 =>
ldI .i64 H25 (pad p33 3) fun n37 =>
ldI .i64 H25 (pad p33 4) fun n38 =>
ldI .i64 H25 (pad p33 5) fun n39 =>
ldL H25 (pad p33 6) fun q40 l41 c42 =>
f0 n26 q27 l28 c29 q30 l31 c32 n34 n35 n36 n37 n38 n39 q40 l41 c42 H25 fun n43 H44 =>
bif (n43 != 0) then (hst H44 p24 [.int .i64 0,.int .i64 0,.int .i64 0,.int .i64 0,.int .i64 0,.int .i64 0,.slice none 0 0,.slice none 0 0] fun H45 =>
ldI .i64 H45 (pad p24 0) fun n46 =>
ldI .i64 H45 (pad p24 1) fun n47 =>
ldI .i64 H45 (pad p24 2) fun n48 =>
ldI .i64 H45 (pad p24 3) fun n49 =>
ldI .i64 H45 (pad p24 4) fun n50 =>
ldI .i64 H45 (pad p24 5) fun n51 =>
ldL H45 (pad p24 6) fun q52 l53 c54 =>
ldL H45 (pad p24 7) fun q55 l56 c57 =>
K n46 n47 n48 n49 n50 n51 q52 l53 c54 q55 l56 c57 n43 H45)
 else (hfad 7 p20 fun p58 =>
ldL H44 p58 fun q59 l60 c61 =>
hfad 0 p20 fun p62 =>
hfad 6 p62 fun p63 =>
ldL H44 p63 fun q64 l65 c66 =>
bif (((l60 : Nat) : Int) != ((l65 : Nat) : Int)) then (hst H44 p24 [.int .i64 0,.int .i64 0,.int .i64 0,.int .i64 0,.int .i64 0,.int .i64 0,.slice none 0 0,.slice none 0 0] fun H67 =>
ldI .i64 H67 (pad p24 0) fun n68 =>
ldI .i64 H67 (pad p24 1) fun n69 =>
ldI .i64 H67 (pad p24 2) fun n70 =>
ldI .i64 H67 (pad p24 3) fun n71 =>
ldI .i64 H67 (pad p24 4) fun n72 =>
ldI .i64 H67 (pad p24 5) fun n73 =>
ldL H67 (pad p24 6) fun q74 l75 c76 =>
ldL H67 (pad p24 7) fun q77 l78 c79 =>
K n68 n69 n70 n71 n72 n73 q74 l75 c76 q77 l78 c79 1 H67)
 else (hfad 2 p22 fun p80 =>
ldL H44 p80 fun q81 l82 c83 =>
bif (((l82 : Nat) : Int) == 0) then (ldI .i64 H44 (pad p20 0) fun n84 =>
ldI .i64 H44 (pad p20 1) fun n85 =>
ldI .i64 H44 (pad p20 2) fun n86 =>
ldI .i64 H44 (pad p20 3) fun n87 =>
ldI .i64 H44 (pad p20 4) fun n88 =>
ldI .i64 H44 (pad p20 5) fun n89 =>
ldL H44 (pad p20 6) fun q90 l91 c92 =>
ldL H44 (pad p20 7) fun q93 l94 c95 =>
f1 n84 n85 n86 n87 n88 n89 q90 l91 c92 q93 l94 c95 H44 fun n96 n97 n98 n99 n100 n101 q102 l103 c104 q105 l106 c107 H108 =>
hst H108 p24 [.int .i64 n96,.int .i64 n97,.int .i64 n98,.int .i64 n99,.int .i64 n100,.int .i64 n101,.slice q102 l103 c104,.slice q105 l106 c107] fun H109 =>
ldI .i64 H109 (pad p24 0) fun n110 =>
ldI .i64 H109 (pad p24 1) fun n111 =>
ldI .i64 H109 (pad p24 2) fun n112 =>
ldI .i64 H109 (pad p24 3) fun n113 =>
ldI .i64 H109 (pad p24 4) fun n114 =>
ldI .i64 H109 (pad p24 5) fun n115 =>
ldL H109 (pad p24 6) fun q116 l117 c118 =>
ldL H109 (pad p24 7) fun q119 l120 c121 =>
K n110 n111 n112 n113 n114 n115 q116 l117 c118 q119 l120 c121 0 H109)
 else (hfad 0 p20 fun p122 =>
hfad 6 p122 fun p123 =>
ldL H44 p123 fun q124 l125 c126 =>
hidx q124 l125 0 4 fun p127 =>
ldI .i64 H44 (pad p127 0) fun n128 =>
ldB H44 (pad p127 1) fun t129 =>
ldI .i64 H44 (pad p127 2) fun n130 =>
ldI .i64 H44 (pad p127 3) fun n131 =>
hal H44 [.int .i64 0,.bool false,.int .i64 0,.int .i64 0] fun p132 H133 =>
hst H133 p132 [.int .i64 n128,.bool t129,.int .i64 n130,.int .i64 n131] fun H134 =>
ldI .i64 H134 (pad p132 0) fun n135 =>
ldB H134 (pad p132 1) fun t136 =>
ldI .i64 H134 (pad p132 2) fun n137 =>
ldI .i64 H134 (pad p132 3) fun n138 =>
f2 n135 t136 n137 n138 H134 fun n139 n140 H141 =>
hfad 7 p20 fun p142 =>
ldL H141 p142 fun q143 l144 c145 =>
hidx q143 l144 0 5 fun p146 =>
hfad 4 p146 fun p147 =>
ldL H141 p147 fun q148 l149 c150 =>
f3 n139 n140 q148 l149 c150 H141 fun t151 =>
bif (!t151) then (hst H141 p24 [.int .i64 0,.int .i64 0,.int .i64 0,.int .i64 0,.int .i64 0,.int .i64 0,.slice none 0 0,.slice none 0 0] fun H152 =>
ldI .i64 H152 (pad p24 0) fun n153 =>
ldI .i64 H152 (pad p24 1) fun n154 =>
ldI .i64 H152 (pad p24 2) fun n155 =>
ldI .i64 H152 (pad p24 3) fun n156 =>
ldI .i64 H152 (pad p24 4) fun n157 =>
ldI .i64 H152 (pad p24 5) fun n158 =>
ldL H152 (pad p24 6) fun q159 l160 c161 =>
ldL H152 (pad p24 7) fun q162 l163 c164 =>
K n153 n154 n155 n156 n157 n158 q159 l160 c161 q162 l163 c164 2 H152)
 else (hfad 0 p20 fun p165 =>
ldI .i64 H141 (pad p165 0) fun n166 =>
ldI .i64 H141 (pad p165 1) fun n167 =>
ldI .i64 H141 (pad p165 2) fun n168 =>
ldI .i64 H141 (pad p165 3) fun n169 =>
ldI .i64 H141 (pad p165 4) fun n170 =>
ldI .i64 H141 (pad p165 5) fun n171 =>
ldL H141 (pad p165 6) fun q172 l173 c174 =>
hal H141 [.int .i64 0,.int .i64 0,.int .i64 0,.int .i64 0,.int .i64 0,.int .i64 0,.slice none 0 0,.slice none 0 0] fun p175 H176 =>
hst H176 p175 [.int .i64 n166,.int .i64 n167,.int .i64 n168,.int .i64 n169,.int .i64 n170,.int .i64 n171,.slice q172 l173 c174,.slice none 0 0] fun H177 =>
hfad 0 p175 fun p178 =>
hfad 6 p178 fun p179 =>
hst1 H177 p179 (.slice none 0 0) fun H180 =>
hfad 1 p22 fun p181 =>
ldL H180 p181 fun q182 l183 c184 =>
z0 (fun p187 p188 H189 =>
ldI .i64 H189 (pad p188 0) fun n190 =>
ldI .i64 H189 (pad p188 1) fun n191 =>
ldI .i64 H189 (pad p188 2) fun n192 =>
ldI .i64 H189 (pad p188 3) fun n193 =>
ldI .i64 H189 (pad p188 4) fun n194 =>
ldI .i64 H189 (pad p188 5) fun n195 =>
ldL H189 (pad p188 6) fun q196 l197 c198 =>
ldL H189 (pad p188 7) fun q199 l200 c201 =>
hst H189 p187 [.int .i64 n190,.int .i64 n191,.int .i64 n192,.int .i64 n193,.int .i64 n194,.int .i64 n195,.slice q196 l197 c198,.slice q199 l200 c201] fun H202 =>
ldI .i64 H202 (pad p187 0) fun n203 =>
ldI .i64 H202 (pad p187 1) fun n204 =>
ldI .i64 H202 (pad p187 2) fun n205 =>
ldI .i64 H202 (pad p187 3) fun n206 =>
ldI .i64 H202 (pad p187 4) fun n207 =>
ldI .i64 H202 (pad p187 5) fun n208 =>
ldL H202 (pad p187 6) fun q209 l210 c211 =>
ldL H202 (pad p187 7) fun q212 l213 c214 =>
K n203 n204 n205 n206 n207 n208 q209 l210 c211 q212 l213 c214 0 H202) k p20 p22 p24 p132 p175 ((l183 : Nat) : Int) 0 H180))))
def colorspec_Expand (k : Nat) : colorspec_Expand_t R := colorspec_Expand_b (colorspec_Check k) (colorspec_cloneImage k) color_Range (colorspec_within k) (colorspec_Expand_l0 k) k
def x16C : Tab R := tcons 11 (x11a f0) <| tcons 30 (x30a f1) <| tcons 31 (x31a f2) <| tcons 32 (x32a f3) <| fun _ _ _ _ => none
def x16s1 : PS := ⟨(.seq (.reg [2,3,4,7,10,11,12,65,66,91,92,93,94] []) (.seq (.cond .leaf .leaf) (.seq (.node (.seq (.reg [2,3,4,7,10,11,12,14,65,66,91,92,93] []) (.reg [2,3,4,7,10,11,12,65,66,91,92,93] (ms [0,1,0,4,0,28,60,0,252,508,1020,2047,4095,8191])))) (.reg [2,3,4,7,10,11,12,65,66,91,92,93] [])))),[2,3,4,7,10,11,12,65,66,91,92,93],[.p,.p,.p,.p,.p,.n,.p,.n,.n,.l,.n,.n],⟨[],[(2,[2,3,4,7,10,12,65,66])],[]⟩⟩
def x16c1 {T : Type} (g : colorspec_Expand_l1_q R T) (H : Heap) (K : XK R) : T := g (kH (.exit 2) [2,3,4,7,10,12,65,66] [.p,.p,.p,.p,.p,.p,.n,.n] K)
def x16a1 (f : colorspec_Expand_l1_t R) : Nat → List Value → Heap → XK R → Option R := jl x16s1 (L := colorspec_Expand_l1_t R) x16c1 pH f
def x16s0 : PS := ⟨(.seq (.reg [2,3,4,7,10,65,66,67] []) (.seq (.cond .leaf .leaf) (.seq (.node (.seq (.reg [2,3,4,7,10,11,65,66] []) (.seq (.reg [2,3,4,7,10,11,65,66] []) (.seq (.reg [2,3,4,7,10,11,12,65,66] []) (.seq (.seq (.reg [2,3,4,7,10,11,12,65,66,91,92,93] []) (.node (.opq 1 x16s1.ls x16s1.out (.node x16s1.t)))) (.reg [2,3,4,7,10,65,66] [])))))) (.reg [2,3,4,7,10,65,66] [])))),[2,3,4,7,10,65,66],[.p,.p,.p,.p,.p,.n,.n],⟨[],[(0,[4,10])],[]⟩⟩
def x16c0 {T : Type} (g : colorspec_Expand_l0_q R T) (H : Heap) (K : XK R) : T := g (kH (.exit 0) [4,10] [.p,.p] K)
def x16a0 (f : colorspec_Expand_l0_t R) : Nat → List Value → Heap → XK R → Option R := jl x16s0 (L := colorspec_Expand_l0_t R) x16c0 pH f
def x16J (k : Nat) : JTab R := tcons 0 (x16a0 z0 k) <| tcons 1 (x16a1 z1 k) <| fun _ _ _ _ => none
def x16t : AT := (.seq (.reg [2,3,4] []) (.seq (.seq (.reg [2,3,4,6] []) (.seq (.reg [2,3,4,6,20] []) (.cond (.seq (.reg [4,5] []) .leaf) .leaf))) (.seq (.seq (.reg [2,3,4,30] []) (.cond (.seq (.reg [4,5] []) .leaf) .leaf)) (.seq (.seq (.reg [2,3,4,35] []) (.cond (.seq (.reg [4,5] []) .leaf) .leaf)) (.seq (.reg [2,3,4,7] []) (.seq (.reg [2,3,4,7,8,9] []) (.seq (.seq (.reg [2,3,4,7,56] []) (.cond (.seq (.reg [4,5] []) .leaf) .leaf)) (.seq (.reg [2,3,4,7,10] []) (.seq (.reg [2,3,4,7,10] []) (.seq (.seq (.reg [2,3,4,7,10,65,66] []) (.node (.opq 0 x16s0.ls x16s0.out (.node x16s0.t)))) (.seq (.reg [4,5] []) .leaf)))))))))))
def x16c (g : colorspec_Expand_u R) (H : Heap) (K : Value → Heap → Option R) : Option R := g H (rH [(.a 8),.n,.n,.n,.n,.n,.n,.l,.l,.n] K)
def x16a (f : colorspec_Expand_t R) : List Value → Heap → (Value → Heap → Option R) → Option R := jf 2 [(.a 8),.n,.n,.n,.n,.n,.n,.l,.l,(.a 3),.n,.l,.l] x16c f
variable {f0 f1 f2 f3 z0 z1}
theorem x16e1 (k n : Nat) (H : Heap) (K : XK R) : lE Try.prog An 119 (x16C f0 f1 f2 f3) (x16J z0 z1 k) x16s1 (sel [1,1,1,1,1,1,1,1,1,0,1,0,0,1,1,0,0,1,1,1,0,1,0,0] (bd Try.f16)) (x16a1 z1) n H K = mapT (fun g => pH g H) x16s1.ts (x16c1 (colorspec_Expand_l1_b k) H K (x16c1 z1 H K n)) := by kernel_rfl
theorem x16e0 (k n : Nat) (H : Heap) (K : XK R) : lE Try.prog An 119 (x16C f0 f1 f2 f3) (x16J z0 z1 k) x16s0 (sel [1,1,1,1,1,1,1,1,1,0,1,0,0] (bd Try.f16)) (x16a0 z0) n H K = mapT (fun g => pH g H) x16s0.ts (x16c0 (colorspec_Expand_l0_b z1 k) H K (x16c0 z0 H K n)) := by kernel_rfl
theorem x16e (k : Nat) (H : Heap) (K : Value → Heap → Option R) : fE Try.prog An (x16C f0 f1 f2 f3) (x16J z0 z1 k) x16t Try.f16 [(.a 8),.n,.n,.n,.n,.n,.n,.l,.l,(.a 3),.n,.l,.l] H K = mapT (fun g => x16c g H K) [(.a 8),.n,.n,.n,.n,.n,.n,.l,.l,(.a 3),.n,.l,.l] (colorspec_Expand_b f0 f1 f2 f3 z0 k) := by kernel_rfl
theorem x16S (R : Type) (k : Nat) : CSound Try.prog (x16C (R := R) (colorspec_Check k) (colorspec_cloneImage k) color_Range (colorspec_within k)) := csound_cons (x11cs R k) <| csound_cons (x30cs R k) <| csound_cons (x31cs R k) <| csound_cons (x32cs R k) <| csound_nil
theorem x16j1 (R : Type) (k : Nat) : JS Try.prog 119 (x16a1 (colorspec_Expand_l1 (R := R) k) k) x16s1.ls x16s1.out (.loop (sel [1,1,1,1,1,1,1,1,1,0,1,0,0,1,1,0,0,1,1,1,0,1,0,0] (bd Try.f16))) := lj (x16S R k) (x16J (colorspec_Expand_l0 k) (colorspec_Expand_l1 k) k) (by kernel_rfl) (A := True) trivial (by kernel_rfl) (fun _ _ => by kernel_rfl) (fun _ _ _ => .trans (x16e1 _ _ _ _) (by kernel_rfl)) k
theorem x16j0 (R : Type) (k : Nat) : JS Try.prog 119 (x16a0 (colorspec_Expand_l0 (R := R) k) k) x16s0.ls x16s0.out (.loop (sel [1,1,1,1,1,1,1,1,1,0,1,0,0] (bd Try.f16))) := lj (x16S R k) (x16J (colorspec_Expand_l0 k) (colorspec_Expand_l1 k) k) (by kernel_rfl) (A := JS Try.prog 119 (x16a1 (colorspec_Expand_l1 (R := R) k) k) x16s1.ls x16s1.out (.loop (sel [1,1,1,1,1,1,1,1,1,0,1,0,0,1,1,0,0,1,1,1,0,1,0,0] (bd Try.f16))) ∧ True) ⟨x16j1 R k,trivial⟩ (by kernel_rfl) (fun _ _ => by kernel_rfl) (fun _ _ _ => .trans (x16e0 _ _ _ _) (by kernel_rfl)) k
theorem x16cs (R : Type) (k : Nat) : ∀ args H K r,x16a (colorspec_Expand k) args H K = some (r : R) → ∃ v H',Tri Try.prog 16 args H v H' ∧ K v H' = some r := fj (x16S R k) (x16J (colorspec_Expand_l0 k) (colorspec_Expand_l1 k) k) Try.func16 (by kernel_rfl) (A := JS Try.prog 119 (x16a0 (colorspec_Expand_l0 (R := R) k) k) x16s0.ls x16s0.out (.loop (sel [1,1,1,1,1,1,1,1,1,0,1,0,0] (bd Try.f16))) ∧ True) ⟨x16j0 R k,trivial⟩ (by kernel_rfl) (fun _ _ => .trans (x16e _ _ _) (by kernel_rfl))
end
/-! ### L_same: function 25 -/
abbrev L_same_l0_r (R : Type) : Type := Oa → Nat → Nat → Oa → Nat → Nat → Int → Int → Heap → Option R
abbrev L_same_l0_q (R T : Type) : Type := (Unit → Option R) → (Bool → Option R) → T
abbrev L_same_l0_t (R : Type) : Type := L_same_l0_q R (Nat → L_same_l0_r R)
abbrev L_same_u (R : Type) : Type := Heap → (Bool → Option R) → Option R
abbrev L_same_t (R : Type) : Type := Oa → Nat → Nat → Oa → Nat → Nat → L_same_u R
section
variable {R : Type} (z0 : L_same_l0_t R)
def L_same_l0_b (k : Nat) : L_same_l0_q R (L_same_l0_r R → L_same_l0_r R) := fun KE0 KR rec q1 l2 c3 q4 l5 c6 n7 n8 H =>
bif decide (n8 < n7) then (hidx q1 l2 n8 1 fun p9 =>
ldI .i64 H p9 fun n10 =>
hidx q4 l5 n8 1 fun p11 =>
ldI .i64 H p11 fun n12 =>
bif (n10 != n12) then (KR false)
 else (rec q1 l2 c3 q4 l5 c6 n7 (IntKind.wrap .i64 (n8 + 1)) H))
 else (KE0 ())
def L_same_l0 (k : Nat) : L_same_l0_t R
  | KE0,KR,0 => fun _ _ _ _ _ _ _ _ _ => none
  | KE0,KR,n + 1 => L_same_l0_b k KE0 KR (L_same_l0 k KE0 KR n)
def L_same_b (k : Nat) : L_same_t R := fun q1 l2 c3 q4 l5 c6 H K =>
bif (((l2 : Nat) : Int) != ((l5 : Nat) : Int)) then (K false)
 else (z0 (fun (_ : Unit) =>
K true) (fun t8 =>
K t8) k q1 l2 c3 q4 l5 c6 ((l2 : Nat) : Int) 0 H)
def L_same (k : Nat) : L_same_t R := L_same_b (L_same_l0 k) k
def x25C : Tab R := fun _ _ _ _ => none
def x25s0 : PS := ⟨(.seq (.reg [0,1,12,13,14] []) (.seq (.cond .leaf .leaf) (.seq (.node (.seq (.reg [0,1,5,12,13] []) (.seq (.reg [0,1,12,13,24] (ms [0,0,3,7,0,0,48,112,255])) (.cond (.seq (.reg [4] []) .leaf) .leaf)))) (.reg [0,1,12,13] [])))),[0,1,12,13],[.l,.l,.n,.n],⟨[],[(0,[])],[4]⟩⟩
def x25c0 {T : Type} (g : L_same_l0_q R T) (H : Heap) (K : XK R) : T := g (kU (.exit 0) K H) (kN .ret [4] [.b] K H)
def x25a0 (f : L_same_l0_t R) : Nat → List Value → Heap → XK R → Option R := jl x25s0 (L := L_same_l0_t R) x25c0 pH f
def x25J (k : Nat) : JTab R := tcons 0 (x25a0 z0 k) <| fun _ _ _ _ => none
def x25t : AT := (.seq (.reg [0,1] []) (.seq (.seq (.reg [0,1,10] []) (.cond (.seq (.reg [4] []) .leaf) .leaf)) (.seq (.seq (.reg [0,1,12,13] []) (.node (.opq 0 x25s0.ls x25s0.out (.node x25s0.t)))) (.seq (.reg [4] []) .leaf))))
def x25c (g : L_same_u R) (H : Heap) (K : Value → Heap → Option R) : Option R := g H (rN [.b] K H)
def x25a (f : L_same_t R) : List Value → Heap → (Value → Heap → Option R) → Option R := jf 2 [.l,.l] x25c f
variable {z0}
theorem x25e0 (k n : Nat) (H : Heap) (K : XK R) : lE Try.prog An 26 (x25C) (x25J z0 k) x25s0 (sel [1,1,0,1,0,0] (bd Try.f25)) (x25a0 z0) n H K = mapT (fun g => pH g H) x25s0.ts (x25c0 (L_same_l0_b k) H K (x25c0 z0 H K n)) := by kernel_rfl
theorem x25e (k : Nat) (H : Heap) (K : Value → Heap → Option R) : fE Try.prog An (x25C) (x25J z0 k) x25t Try.f25 [.l,.l] H K = mapT (fun g => x25c g H K) [.l,.l] (L_same_b z0 k) := by kernel_rfl
theorem x25S (R : Type) (k : Nat) : CSound Try.prog (x25C (R := R)) := csound_nil
theorem x25j0 (R : Type) (k : Nat) : JS Try.prog 26 (x25a0 (L_same_l0 (R := R) k) k) x25s0.ls x25s0.out (.loop (sel [1,1,0,1,0,0] (bd Try.f25))) := lj (x25S R k) (x25J (L_same_l0 k) k) (by kernel_rfl) (A := True) trivial (by kernel_rfl) (fun _ _ => by kernel_rfl) (fun _ _ _ => .trans (x25e0 _ _ _ _) (by kernel_rfl)) k
theorem x25cs (R : Type) (k : Nat) : ∀ args H K r,x25a (L_same k) args H K = some (r : R) → ∃ v H',Tri Try.prog 25 args H v H' ∧ K v H' = some r := fj (x25S R k) (x25J (L_same_l0 k) k) Try.func25 (by kernel_rfl) (A := JS Try.prog 26 (x25a0 (L_same_l0 (R := R) k) k) x25s0.ls x25s0.out (.loop (sel [1,1,0,1,0,0] (bd Try.f25))) ∧ True) ⟨x25j0 R k,trivial⟩ (by kernel_rfl) (fun _ _ => .trans (x25e _ _ _) (by kernel_rfl))
end
/-! ### L_few: function 15 -/
abbrev L_few_p0_u (R : Type) : Type := Heap → (Oa → Option R) → (Bool → Option R) → Option R
abbrev L_few_p0_t (R : Type) : Type := Oa → L_few_p0_u R
abbrev L_few_l1_r (R : Type) : Type := Oa → Int → Int → Heap → Option R
abbrev L_few_l1_q (R T : Type) : Type := (Unit → Option R) → (Bool → Option R) → T
abbrev L_few_l1_t (R : Type) : Type := L_few_l1_q R (Nat → L_few_l1_r R)
abbrev L_few_u (R : Type) : Type := Heap → (Bool → Heap → Option R) → Option R
abbrev L_few_t (R : Type) : Type := Int → Int → Int → Int → Int → Int → Oa → Nat → Nat → Oa → Nat → Nat → L_few_u R
section
variable {R : Type} (z0 : L_few_p0_t R) (z1 : L_few_l1_t R)
def L_few_p0_b (k : Nat) : L_few_p0_t R := fun p1 H KN KR =>
hfad 0 p1 fun p2 =>
hfad 6 p2 fun p3 =>
ldL H p3 fun q4 l5 c6 =>
bif decide (((l5 : Nat) : Int) > 10) then (KR false)
 else (hfad 7 p1 fun p7 =>
ldL H p7 fun q8 l9 c10 =>
bif decide (((l9 : Nat) : Int) > 10) then (KR false)
 else (KN p1))
def L_few_p0 (k : Nat) : L_few_p0_t R := L_few_p0_b k
def L_few_l1_b (k : Nat) : L_few_l1_q R (L_few_l1_r R → L_few_l1_r R) := fun KE0 KR rec p1 n2 n3 H =>
bif decide (n3 < n2) then (hfad 7 p1 fun p4 =>
ldL H p4 fun q5 l6 c7 =>
hidx q5 l6 n3 5 fun p8 =>
hfad 4 p8 fun p9 =>
ldL H p9 fun q10 l11 c12 =>
bif decide (((l11 : Nat) : Int) > 2000) then (KR false)
 else (rec p1 n2 (IntKind.wrap .i64 (n3 + 1)) H))
 else (KE0 ())
def L_few_l1 (k : Nat) : L_few_l1_t R
  | KE0,KR,0 => fun _ _ _ _ => none
  | KE0,KR,n + 1 => L_few_l1_b k KE0 KR (L_few_l1 k KE0 KR n)
def L_few_b (k : Nat) : L_few_t R := fun n1 n2 n3 n4 n5 n6 q7 l8 c9 q10 l11 c12 H K =>
hal H [.int .i64 n1,.int .i64 n2,.int .i64 n3,.int .i64 n4,.int .i64 n5,.int .i64 n6,.slice q7 l8 c9,.slice q10 l11 c12] fun p13 H14 =>
z0 p13 H14 (fun p17 =>
hfad 7 p17 fun p18 =>
ldL H14 p18 fun q19 l20 c21 =>
z1 (fun (_ : Unit) =>
K true H14) (fun t23 =>
K t23 H14) k p17 ((l20 : Nat) : Int) 0 H14) (fun t24 =>
K t24 H14)
def L_few (k : Nat) : L_few_t R := L_few_b (L_few_p0 k) (L_few_l1 k) k
def x15C : Tab R := fun _ _ _ _ => none
def x15s1 : PS := ⟨(.seq (.reg [1,17,18,19] []) (.seq (.cond .leaf .leaf) (.seq (.node (.seq (.reg [1,3,17,18] []) (.seq (.reg [1,17,18,28] []) (.cond (.seq (.reg [2] []) .leaf) .leaf)))) (.reg [1,17,18] [])))),[1,17,18],[.p,.n,.n],⟨[],[(0,[])],[2]⟩⟩
def x15c1 {T : Type} (g : L_few_l1_q R T) (H : Heap) (K : XK R) : T := g (kU (.exit 0) K H) (kN .ret [2] [.b] K H)
def x15a1 (f : L_few_l1_t R) : Nat → List Value → Heap → XK R → Option R := jl x15s1 (L := L_few_l1_t R) x15c1 pH f
def x15s0 : PS := ⟨(.seq (.reg [1,14] []) (.cond (.seq (.reg [2] []) .leaf) .leaf)),[1],[.p],⟨[1],[],[2]⟩⟩
def x15c0 (g : L_few_p0_u R) (H : Heap) (K : XK R) : Option R := g H (kN .normal [1] [.p] K H) (kN .ret [2] [.b] K H)
def x15a0 (f : L_few_p0_t R) : Nat → List Value → Heap → XK R → Option R := jp x15s0 x15c0 f
def x15J (k : Nat) : JTab R := tcons 0 (x15a0 z0 k) <| tcons 1 (x15a1 z1 k) <| fun _ _ _ _ => none
def x15t : AT := (.seq (.reg [1] []) (.seq (.opq 0 x15s0.ls x15s0.out x15s0.t) (.seq (.seq (.reg [1,17,18] []) (.node (.opq 1 x15s1.ls x15s1.out (.node x15s1.t)))) (.seq (.reg [2] []) .leaf))))
def x15c (g : L_few_u R) (H : Heap) (K : Value → Heap → Option R) : Option R := g H (rH [.b] K)
def x15a (f : L_few_t R) : List Value → Heap → (Value → Heap → Option R) → Option R := jf 1 [(.a 8),.n,.n,.n,.n,.n,.n,.l,.l] x15c f
variable {z0 z1}
theorem x15e1 (k n : Nat) (H : Heap) (K : XK R) : lE Try.prog An 30 (x15C) (x15J z0 z1 k) x15s1 (sel [1,1,0,1,0,0] (bd Try.f15)) (x15a1 z1) n H K = mapT (fun g => pH g H) x15s1.ts (x15c1 (L_few_l1_b k) H K (x15c1 z1 H K n)) := by kernel_rfl
theorem x15e0 (k : Nat) (H : Heap) (K : XK R) : jE Try.prog An 30 (x15C) (x15J z0 z1 k) x15s0 (sel [1,0] (bd Try.f15)) H K = mapT (fun g => x15c0 g H K) x15s0.ts (L_few_p0_b k) := by kernel_rfl
theorem x15e (k : Nat) (H : Heap) (K : Value → Heap → Option R) : fE Try.prog An (x15C) (x15J z0 z1 k) x15t Try.f15 [(.a 8),.n,.n,.n,.n,.n,.n,.l,.l] H K = mapT (fun g => x15c g H K) [(.a 8),.n,.n,.n,.n,.n,.n,.l,.l] (L_few_b z0 z1 k) := by kernel_rfl
theorem x15S (R : Type) (k : Nat) : CSound Try.prog (x15C (R := R)) := csound_nil
theorem x15j1 (R : Type) (k : Nat) : JS Try.prog 30 (x15a1 (L_few_l1 (R := R) k) k) x15s1.ls x15s1.out (.loop (sel [1,1,0,1,0,0] (bd Try.f15))) := lj (x15S R k) (x15J (L_few_p0 k) (L_few_l1 k) k) (by kernel_rfl) (A := True) trivial (by kernel_rfl) (fun _ _ => by kernel_rfl) (fun _ _ _ => .trans (x15e1 _ _ _ _) (by kernel_rfl)) k
theorem x15j0 (R : Type) (k : Nat) : JS Try.prog 30 (x15a0 (L_few_p0 (R := R) k) k) x15s0.ls x15s0.out (sel [1,0] (bd Try.f15)) := pj (x15S R k) (x15J (L_few_p0 k) (L_few_l1 k) k) (by kernel_rfl) (A := True) trivial (by kernel_rfl) (fun _ _ => .trans (x15e0 _ _ _) (by kernel_rfl))
theorem x15cs (R : Type) (k : Nat) : ∀ args H K r,x15a (L_few k) args H K = some (r : R) → ∃ v H',Tri Try.prog 15 args H v H' ∧ K v H' = some r := fj (x15S R k) (x15J (L_few_p0 k) (L_few_l1 k) k) Try.func15 (by kernel_rfl) (A := JS Try.prog 30 (x15a0 (L_few_p0 (R := R) k) k) x15s0.ls x15s0.out (sel [1,0] (bd Try.f15)) ∧ JS Try.prog 30 (x15a1 (L_few_l1 (R := R) k) k) x15s1.ls x15s1.out (.loop (sel [1,1,0,1,0,0] (bd Try.f15))) ∧ True) ⟨x15j0 R k,⟨x15j1 R k,trivial⟩⟩ (by kernel_rfl) (fun _ _ => .trans (x15e _ _ _) (by kernel_rfl))
end
/-! ### R23_SameHeader: function 35 -/
abbrev R23_SameHeader_p0_u (R : Type) : Type := Heap → (Oa → Oa → Option R) → (Bool → Option R) → Option R
abbrev R23_SameHeader_p0_t (R : Type) : Type := Oa → Oa → R23_SameHeader_p0_u R
abbrev R23_SameHeader_l1_r (R : Type) : Type := Oa → Oa → Int → Heap → Option R
abbrev R23_SameHeader_l1_q (R T : Type) : Type := (Unit → Option R) → (Bool → Option R) → T
abbrev R23_SameHeader_l1_t (R : Type) : Type := R23_SameHeader_l1_q R (Nat → R23_SameHeader_l1_r R)
abbrev R23_SameHeader_u (R : Type) : Type := Heap → (Bool → Heap → Option R) → Option R
abbrev R23_SameHeader_t (R : Type) : Type := Int → Int → Int → Int → Int → Int → Oa → Nat → Nat → Int → Int → Int → Int → Int → Int → Oa → Nat → Nat → R23_SameHeader_u R
section
variable {R : Type} (z0 : R23_SameHeader_p0_t R) (z1 : R23_SameHeader_l1_t R)
def R23_SameHeader_p0_b (k : Nat) : R23_SameHeader_p0_t R := fun p1 p2 H KN KR =>
hfad 0 p1 fun p3 =>
ldI .i64 H (pad p3 0) fun n4 =>
ldI .i64 H (pad p3 1) fun n5 =>
ldI .i64 H (pad p3 2) fun n6 =>
ldI .i64 H (pad p3 3) fun n7 =>
hfad 0 p2 fun p8 =>
ldI .i64 H (pad p8 0) fun n9 =>
ldI .i64 H (pad p8 1) fun n10 =>
ldI .i64 H (pad p8 2) fun n11 =>
ldI .i64 H (pad p8 3) fun n12 =>
bif (!((((true && (n4 == n9)) && (n5 == n10)) && (n6 == n11)) && (n7 == n12))) then (KR false)
 else (hfad 4 p1 fun p13 =>
ldI .i64 H p13 fun n14 =>
hfad 4 p2 fun p15 =>
ldI .i64 H p15 fun n16 =>
bif (n14 != n16) then (KR false)
 else (hfad 5 p1 fun p17 =>
ldI .i64 H p17 fun n18 =>
hfad 5 p2 fun p19 =>
ldI .i64 H p19 fun n20 =>
bif (n18 != n20) then (KR false)
 else (hfad 6 p1 fun p21 =>
ldL H p21 fun q22 l23 c24 =>
hfad 6 p2 fun p25 =>
ldL H p25 fun q26 l27 c28 =>
bif (((l23 : Nat) : Int) != ((l27 : Nat) : Int)) then (KR false)
 else (KN p1 p2))))
def R23_SameHeader_p0 (k : Nat) : R23_SameHeader_p0_t R := R23_SameHeader_p0_b k
def R23_SameHeader_l1_b (k : Nat) : R23_SameHeader_l1_q R (R23_SameHeader_l1_r R → R23_SameHeader_l1_r R) := fun KE0 KR rec p1 p2 n3 H =>
hfad 6 p1 fun p4 =>
ldL H p4 fun q5 l6 c7 =>
bif decide (n3 < ((l6 : Nat) : Int)) then (hfad 6 p1 fun p8 =>
ldL H p8 fun q9 l10 c11 =>
hidx q9 l10 n3 4 fun p12 =>
ldI .i64 H (pad p12 0) fun n13 =>
ldB H (pad p12 1) fun t14 =>
ldI .i64 H (pad p12 2) fun n15 =>
ldI .i64 H (pad p12 3) fun n16 =>
hfad 6 p2 fun p17 =>
ldL H p17 fun q18 l19 c20 =>
hidx q18 l19 n3 4 fun p21 =>
ldI .i64 H (pad p21 0) fun n22 =>
ldB H (pad p21 1) fun t23 =>
ldI .i64 H (pad p21 2) fun n24 =>
ldI .i64 H (pad p21 3) fun n25 =>
bif (!((((true && (n13 == n22)) && (t14 == t23)) && (n15 == n24)) && (n16 == n25))) then (KR false)
 else (rec p1 p2 (IntKind.wrap .i64 (n3 + 1)) H))
 else (KE0 ())
def R23_SameHeader_l1 (k : Nat) : R23_SameHeader_l1_t R
  | KE0,KR,0 => fun _ _ _ _ => none
  | KE0,KR,n + 1 => R23_SameHeader_l1_b k KE0 KR (R23_SameHeader_l1 k KE0 KR n)
def R23_SameHeader_b (k : Nat) : R23_SameHeader_t R := fun n1 n2 n3 n4 n5 n6 q7 l8 c9 n10 n11 n12 n13 n14 n15 q16 l17 c18 H K =>
hal H [.int .i64 n1,.int .i64 n2,.int .i64 n3,.int .i64 n4,.int .i64 n5,.int .i64 n6,.slice q7 l8 c9] fun p19 H20 =>
hal H20 [.int .i64 n10,.int .i64 n11,.int .i64 n12,.int .i64 n13,.int .i64 n14,.int .i64 n15,.slice q16 l17 c18] fun p21 H22 =>
z0 p19 p21 H22 (fun p26 p27 =>
z1 (fun (_ : Unit) =>
K true H22) (fun t29 =>
K t29 H22) k p26 p27 0 H22) (fun t30 =>
K t30 H22)
def R23_SameHeader (k : Nat) : R23_SameHeader_t R := R23_SameHeader_b (R23_SameHeader_p0 k) (R23_SameHeader_l1 k) k
def x35C : Tab R := fun _ _ _ _ => none
def x35s1 : PS := ⟨(.seq (.seq (.reg [2,3,5,38] []) (.cond .leaf .leaf)) (.seq (.node (.seq (.reg [2,3,5,51] (ms [0,1,0,7,15,0,32,0,224,480,1023])) (.cond (.seq (.reg [4] []) .leaf) .leaf))) (.reg [2,3,5] []))),[2,3,5],[.p,.p,.n],⟨[],[(0,[])],[4]⟩⟩
def x35c1 {T : Type} (g : R23_SameHeader_l1_q R T) (H : Heap) (K : XK R) : T := g (kU (.exit 0) K H) (kN .ret [4] [.b] K H)
def x35a1 (f : R23_SameHeader_l1_t R) : Nat → List Value → Heap → XK R → Option R := jl x35s1 (L := R23_SameHeader_l1_t R) x35c1 pH f
def x35s0 : PS := ⟨(.seq (.reg [2,3,33] []) (.cond (.seq (.reg [4] []) .leaf) .leaf)),[2,3],[.p,.p],⟨[2,3],[],[4]⟩⟩
def x35c0 (g : R23_SameHeader_p0_u R) (H : Heap) (K : XK R) : Option R := g H (kN .normal [2,3] [.p,.p] K H) (kN .ret [4] [.b] K H)
def x35a0 (f : R23_SameHeader_p0_t R) : Nat → List Value → Heap → XK R → Option R := jp x35s0 x35c0 f
def x35J (k : Nat) : JTab R := tcons 0 (x35a0 z0 k) <| tcons 1 (x35a1 z1 k) <| fun _ _ _ _ => none
def x35t : AT := (.seq (.reg [2,3] []) (.seq (.opq 0 x35s0.ls x35s0.out x35s0.t) (.seq (.seq (.reg [2,3,5] []) (.node (.opq 1 x35s1.ls x35s1.out (.node x35s1.t)))) (.seq (.reg [4] []) .leaf))))
def x35c (g : R23_SameHeader_u R) (H : Heap) (K : Value → Heap → Option R) : Option R := g H (rH [.b] K)
def x35a (f : R23_SameHeader_t R) : List Value → Heap → (Value → Heap → Option R) → Option R := jf 2 [(.a 7),.n,.n,.n,.n,.n,.n,.l,(.a 7),.n,.n,.n,.n,.n,.n,.l] x35c f
variable {z0 z1}
theorem x35e1 (k n : Nat) (H : Heap) (K : XK R) : lE Try.prog An 52 (x35C) (x35J z0 z1 k) x35s1 (sel [1,1,0,1,0,0] (bd Try.f35)) (x35a1 z1) n H K = mapT (fun g => pH g H) x35s1.ts (x35c1 (R23_SameHeader_l1_b k) H K (x35c1 z1 H K n)) := by kernel_rfl
theorem x35e0 (k : Nat) (H : Heap) (K : XK R) : jE Try.prog An 52 (x35C) (x35J z0 z1 k) x35s0 (sel [1,0] (bd Try.f35)) H K = mapT (fun g => x35c0 g H K) x35s0.ts (R23_SameHeader_p0_b k) := by kernel_rfl
theorem x35e (k : Nat) (H : Heap) (K : Value → Heap → Option R) : fE Try.prog An (x35C) (x35J z0 z1 k) x35t Try.f35 [(.a 7),.n,.n,.n,.n,.n,.n,.l,(.a 7),.n,.n,.n,.n,.n,.n,.l] H K = mapT (fun g => x35c g H K) [(.a 7),.n,.n,.n,.n,.n,.n,.l,(.a 7),.n,.n,.n,.n,.n,.n,.l] (R23_SameHeader_b z0 z1 k) := by kernel_rfl
theorem x35S (R : Type) (k : Nat) : CSound Try.prog (x35C (R := R)) := csound_nil
theorem x35j1 (R : Type) (k : Nat) : JS Try.prog 52 (x35a1 (R23_SameHeader_l1 (R := R) k) k) x35s1.ls x35s1.out (.loop (sel [1,1,0,1,0,0] (bd Try.f35))) := lj (x35S R k) (x35J (R23_SameHeader_p0 k) (R23_SameHeader_l1 k) k) (by kernel_rfl) (A := True) trivial (by kernel_rfl) (fun _ _ => by kernel_rfl) (fun _ _ _ => .trans (x35e1 _ _ _ _) (by kernel_rfl)) k
theorem x35j0 (R : Type) (k : Nat) : JS Try.prog 52 (x35a0 (R23_SameHeader_p0 (R := R) k) k) x35s0.ls x35s0.out (sel [1,0] (bd Try.f35)) := pj (x35S R k) (x35J (R23_SameHeader_p0 k) (R23_SameHeader_l1 k) k) (by kernel_rfl) (A := True) trivial (by kernel_rfl) (fun _ _ => .trans (x35e0 _ _ _) (by kernel_rfl))
theorem x35cs (R : Type) (k : Nat) : ∀ args H K r,x35a (R23_SameHeader k) args H K = some (r : R) → ∃ v H',Tri Try.prog 35 args H v H' ∧ K v H' = some r := fj (x35S R k) (x35J (R23_SameHeader_p0 k) (R23_SameHeader_l1 k) k) Try.func35 (by kernel_rfl) (A := JS Try.prog 52 (x35a0 (R23_SameHeader_p0 (R := R) k) k) x35s0.ls x35s0.out (sel [1,0] (bd Try.f35)) ∧ JS Try.prog 52 (x35a1 (R23_SameHeader_l1 (R := R) k) k) x35s1.ls x35s1.out (.loop (sel [1,1,0,1,0,0] (bd Try.f35))) ∧ True) ⟨x35j0 R k,⟨x35j1 R k,trivial⟩⟩ (by kernel_rfl) (fun _ _ => .trans (x35e _ _ _) (by kernel_rfl))
end
end Go.Proofs.Ytkjcjlembepdkaa.Sh
