/- Lean functions that stand for Go's,over an explicit heap,and the proofs that they do (written by this claim's program sh2.py). -/
import Derived.Test.YtjajknghcbpblaaShA
import Derived.Test.YtjajknghcbpblaaSh7
set_option maxRecDepth 100000
set_option linter.unusedVariables false
set_option linter.unusedSimpArgs false
namespace Go.Proofs.Ytjajknghcbpblaa.Sh
open Go.Proofs.Ytjajknghcbpblaa.FW
/-! ### bitio_Reader_bits: function 107 -/
abbrev bitio_Reader_bits_l0_r (R : Type) : Type := Oa → Int → Int → Int → Heap → Option R
abbrev bitio_Reader_bits_l0_q (R T : Type) : Type := (Int → Heap → Option R) → (Int → Int → Heap → Option R) → T
abbrev bitio_Reader_bits_l0_t (R : Type) : Type := bitio_Reader_bits_l0_q R (Nat → bitio_Reader_bits_l0_r R)
abbrev bitio_Reader_bits_u (R : Type) : Type := Heap → (Int → Int → Heap → Option R) → Option R
abbrev bitio_Reader_bits_t (R : Type) : Type := Oa → Int → bitio_Reader_bits_u R
section
variable {R : Type} (f0 : bitio_Reader_get_t R) (z0 : bitio_Reader_bits_l0_t R)
def bitio_Reader_bits_l0_b (k : Nat) : bitio_Reader_bits_l0_q R (bitio_Reader_bits_l0_r R → bitio_Reader_bits_l0_r R) := fun KE0 KR rec p1 n2 n3 n4 H =>
bif decide (n4 < n3) then (f0 p1 H fun n5 n6 H7 =>
bif (n6 != 0) then (KR 0 n6 H7)
 else (hbin .or .i64 (IntKind.wrap .i64 (n2 * 2)) n5 fun n8 =>
rec p1 n8 n3 (IntKind.wrap .i64 (n4 + 1)) H7))
 else (KE0 n2 H)
def bitio_Reader_bits_l0 (k : Nat) : bitio_Reader_bits_l0_t R
  | KE0,KR,0 => fun _ _ _ _ _ => none
  | KE0,KR,n + 1 => bitio_Reader_bits_l0_b (bitio_Reader_get k) k KE0 KR (bitio_Reader_bits_l0 k KE0 KR n)
def bitio_Reader_bits_b (k : Nat) : bitio_Reader_bits_t R := fun p1 n2 H K =>
z0 (fun n6 H7 =>
K n6 0 H7) (fun n8 n9 H10 =>
K n8 n9 H10) k p1 0 n2 0 H
def bitio_Reader_bits (k : Nat) : bitio_Reader_bits_t R := bitio_Reader_bits_b (bitio_Reader_bits_l0 k) k
def x107C : Tab R := tcons 86 (x86a f0) <| fun _ _ _ _ => none
def x107s0 : PS := ⟨(.seq (.reg [0,6,9,10,11] []) (.seq (.cond .leaf .leaf) (.seq (.node (.seq (.reg [0,6,7,8,9,10] []) (.seq (.seq (.reg [0,6,7,8,9,10,18] []) (.cond (.seq (.reg [4,5] []) .leaf) .leaf)) (.reg [0,6,9,10] [])))) (.reg [0,6,9,10] [])))),[0,6,9,10],[.p,.n,.n,.n],⟨[],[(0,[6])],[4,5]⟩⟩
def x107c0 {T : Type} (g : bitio_Reader_bits_l0_q R T) (H : Heap) (K : XK R) : T := g (kH (.exit 0) [6] [.n] K) (kH .ret [4,5] [.n,.n] K)
def x107a0 (f : bitio_Reader_bits_l0_t R) : Nat → List Value → Heap → XK R → Option R := jl x107s0 (L := bitio_Reader_bits_l0_t R) x107c0 pH f
def x107J (k : Nat) : JTab R := tcons 0 (x107a0 z0 k) <| fun _ _ _ _ => none
def x107t : AT := (.seq (.reg [0,1] []) (.seq (.reg [0,1,6] []) (.seq (.seq (.reg [0,6,9,10] []) (.node (.opq 0 x107s0.ls x107s0.out (.node x107s0.t)))) (.seq (.reg [4,5] []) .leaf))))
def x107c (g : bitio_Reader_bits_u R) (H : Heap) (K : Value → Heap → Option R) : Option R := g H (rH [.n,.n] K)
def x107a (f : bitio_Reader_bits_t R) : List Value → Heap → (Value → Heap → Option R) → Option R := jf 2 [.p,.n] x107c f
variable {f0 z0}
theorem x107e0 (k n : Nat) (H : Heap) (K : XK R) : lE Try.prog An 26 (x107C f0) (x107J z0 k) x107s0 (sel [1,1,0,1,0,0] (bd Try.f107)) (x107a0 z0) n H K = mapT (fun g => pH g H) x107s0.ts (x107c0 (bitio_Reader_bits_l0_b f0 k) H K (x107c0 z0 H K n)) := by kernel_rfl
theorem x107e (k : Nat) (H : Heap) (K : Value → Heap → Option R) : fE Try.prog An (x107C f0) (x107J z0 k) x107t Try.f107 [.p,.n] H K = mapT (fun g => x107c g H K) [.p,.n] (bitio_Reader_bits_b z0 k) := by kernel_rfl
theorem x107S (R : Type) (k : Nat) : CSound Try.prog (x107C (R := R) (bitio_Reader_get k)) := csound_cons (x86cs R k) <| csound_nil
theorem x107j0 (R : Type) (k : Nat) : JS Try.prog 26 (x107a0 (bitio_Reader_bits_l0 (R := R) k) k) x107s0.ls x107s0.out (.loop (sel [1,1,0,1,0,0] (bd Try.f107))) := lj (x107S R k) (x107J (bitio_Reader_bits_l0 k) k) (by kernel_rfl) (A := True) trivial (by kernel_rfl) (fun _ _ => by kernel_rfl) (fun _ _ _ => .trans (x107e0 _ _ _ _) (by kernel_rfl)) k
theorem x107cs (R : Type) (k : Nat) : ∀ args H K r,x107a (bitio_Reader_bits k) args H K = some (r : R) → ∃ v H',Tri Try.prog 107 args H v H' ∧ K v H' = some r := fj (x107S R k) (x107J (bitio_Reader_bits_l0 k) k) Try.func107 (by kernel_rfl) (A := JS Try.prog 26 (x107a0 (bitio_Reader_bits_l0 (R := R) k) k) x107s0.ls x107s0.out (.loop (sel [1,1,0,1,0,0] (bd Try.f107))) ∧ True) ⟨x107j0 R k,trivial⟩ (by kernel_rfl) (fun _ _ => .trans (x107e _ _ _) (by kernel_rfl))
end
/-! ### bitio_Reader_Bits_1: function 109 -/
abbrev bitio_Reader_Bits_1_u (R : Type) : Type := Heap → (Int → Int → Heap → Option R) → Option R
abbrev bitio_Reader_Bits_1_t (R : Type) : Type := Oa → Oa → bitio_Reader_Bits_1_u R
section
variable {R : Type} (f0 : bitio_Reader_bits_t R)
def bitio_Reader_Bits_1_b (k : Nat) : bitio_Reader_Bits_1_t R := fun p1 p2 H K =>
ldP H p1 fun p3 =>
ldI .i64 H p2 fun n4 =>
f0 p3 n4 H fun n5 n6 H7 =>
K n5 n6 H7
def bitio_Reader_Bits_1 (k : Nat) : bitio_Reader_Bits_1_t R := bitio_Reader_Bits_1_b (bitio_Reader_bits k) k
def x109C : Tab R := tcons 107 (x107a f0) <| fun _ _ _ _ => none
def x109J (k : Nat) : JTab R := fun _ _ _ _ => none
def x109t : AT := (.seq (.reg [0,1] []) (.seq (.reg [2,3] []) .leaf))
def x109c (g : bitio_Reader_Bits_1_u R) (H : Heap) (K : Value → Heap → Option R) : Option R := g H (rH [.n,.n] K)
def x109a (f : bitio_Reader_Bits_1_t R) : List Value → Heap → (Value → Heap → Option R) → Option R := jf 2 [.p,.p] x109c f
variable {f0}
theorem x109e (k : Nat) (H : Heap) (K : Value → Heap → Option R) : fE Try.prog An (x109C f0) (x109J k) x109t Try.f109 [.p,.p] H K = mapT (fun g => x109c g H K) [.p,.p] (bitio_Reader_Bits_1_b f0 k) := by kernel_rfl
theorem x109S (R : Type) (k : Nat) : CSound Try.prog (x109C (R := R) (bitio_Reader_bits k)) := csound_cons (x107cs R k) <| csound_nil
theorem x109cs (R : Type) (k : Nat) : ∀ args H K r,x109a (bitio_Reader_Bits_1 k) args H K = some (r : R) → ∃ v H',Tri Try.prog 109 args H v H' ∧ K v H' = some r := fj (x109S R k) (x109J k) Try.func109 (by kernel_rfl) (A := True) trivial (by kernel_rfl) (fun _ _ => .trans (x109e _ _ _) (by kernel_rfl))
end
/-! ### bitio_Reader_whole_v109: function 104 -/
abbrev bitio_Reader_whole_v109_u (R : Type) : Type := Heap → (Int → Int → Heap → Option R) → Option R
abbrev bitio_Reader_whole_v109_t (R : Type) : Type := Oa → Oa → Oa → bitio_Reader_whole_v109_u R
section
variable {R : Type} (f0 : bitio_Reader_Bits_1_t R)
def bitio_Reader_whole_v109_b (k : Nat) : bitio_Reader_whole_v109_t R := fun p1 p2 p3 H K =>
hnil p1 fun p4 =>
hfad 2 p4 fun p5 =>
ldI .i64 H p5 fun n6 =>
hnil p1 fun p7 =>
hfad 3 p7 fun p8 =>
ldI .i64 H p8 fun n9 =>
f0 p2 p3 H fun n10 n11 H12 =>
bif (n11 != 0) then (hnil p1 fun p13 =>
hfad 2 p13 fun p14 =>
hst1 H12 p14 (.int .i64 n6) fun H15 =>
hnil p1 fun p16 =>
hfad 3 p16 fun p17 =>
hst1 H15 p17 (.int .i64 n9) fun H18 =>
K 0 n11 H18)
 else (K n10 0 H12)
def bitio_Reader_whole_v109 (k : Nat) : bitio_Reader_whole_v109_t R := bitio_Reader_whole_v109_b (bitio_Reader_Bits_1 k) k
def x104v109C : Tab R := tcons 109 (x109a f0) <| fun _ _ _ _ => none
def x104v109J (k : Nat) : JTab R := fun _ _ _ _ => none
def x104v109t : AT := (.seq (.reg [0,1] []) (.seq (.reg [0,1,6,7] (ms [0,1,3,7,0,16,48,112,15,511])) (.seq (.reg [0,6,7,8,9] []) (.seq (.seq (.reg [0,6,7,8,9,24] []) (.cond (.seq (.reg [9] []) (.seq (.reg [4,5] []) .leaf)) .leaf)) (.seq (.reg [4,5] []) .leaf)))))
def x104v109c (g : bitio_Reader_whole_v109_u R) (H : Heap) (K : Value → Heap → Option R) : Option R := g H (rH [.n,.n] K)
def x104v109a (f : bitio_Reader_whole_v109_t R) : List Value → Heap → (Value → Heap → Option R) → Option R := jf 2 [.p,(.f 109 2),.p,.p] x104v109c f
variable {f0}
theorem x104v109e (k : Nat) (H : Heap) (K : Value → Heap → Option R) : fE Try.prog An (x104v109C f0) (x104v109J k) x104v109t Try.f104 [.p,(.f 109 2),.p,.p] H K = mapT (fun g => x104v109c g H K) [.p,(.f 109 2),.p,.p] (bitio_Reader_whole_v109_b f0 k) := by kernel_rfl
theorem x104v109S (R : Type) (k : Nat) : CSound Try.prog (x104v109C (R := R) (bitio_Reader_Bits_1 k)) := csound_cons (x109cs R k) <| csound_nil
theorem x104v109cs (R : Type) (k : Nat) : ∀ args H K r,x104v109a (bitio_Reader_whole_v109 k) args H K = some (r : R) → ∃ v H',Tri Try.prog 104 args H v H' ∧ K v H' = some r := fj (x104v109S R k) (x104v109J k) Try.func104 (by kernel_rfl) (A := True) trivial (by kernel_rfl) (fun _ _ => .trans (x104v109e _ _ _) (by kernel_rfl))
end
/-! ### bitio_Reader_Bits: function 92 -/
abbrev bitio_Reader_Bits_p0_u (R : Type) : Type := Heap → (Oa → Oa → Option R) → (Int → Int → Option R) → Option R
abbrev bitio_Reader_Bits_p0_t (R : Type) : Type := Oa → Oa → bitio_Reader_Bits_p0_u R
abbrev bitio_Reader_Bits_u (R : Type) : Type := Heap → (Int → Int → Heap → Option R) → Option R
abbrev bitio_Reader_Bits_t (R : Type) : Type := Oa → Int → bitio_Reader_Bits_u R
section
variable {R : Type} (f0 : bitio_Reader_ok_t R) (f1 : bitio_Reader_whole_v109_t R) (z0 : bitio_Reader_Bits_p0_t R)
def bitio_Reader_Bits_p0_b (k : Nat) : bitio_Reader_Bits_p0_t R := fun p1 p2 H KN KR =>
ldI .i64 H p2 fun n3 =>
bif decide (n3 < 0) then (KR 0 1)
 else (ldI .i64 H p2 fun n4 =>
bif decide (n4 > 32) then (KR 0 1)
 else (KN p1 p2))
def bitio_Reader_Bits_p0 (k : Nat) : bitio_Reader_Bits_p0_t R := bitio_Reader_Bits_p0_b k
def bitio_Reader_Bits_b (k : Nat) : bitio_Reader_Bits_t R := fun p1 n2 H K =>
hal H [.pointer p1] fun p3 H4 =>
hal H4 [.int .i64 n2] fun p5 H6 =>
ldP H6 p3 fun p7 =>
f0 p7 H6 fun t8 =>
bif (!t8) then (K 0 6 H6)
 else (z0 p3 p5 H6 (fun p13 p14 =>
ldP H6 p13 fun p15 =>
f1 p15 p13 p14 H6 fun n16 n17 H18 =>
K n16 n17 H18) (fun n19 n20 =>
K n19 n20 H6))
def bitio_Reader_Bits (k : Nat) : bitio_Reader_Bits_t R := bitio_Reader_Bits_b bitio_Reader_ok (bitio_Reader_whole_v109 k) (bitio_Reader_Bits_p0 k) k
def x92C : Tab R := tcons 85 (x85a f0) <| tcons 104 (x104v109a f1) <| fun _ _ _ _ => none
def x92s0 : PS := ⟨(.seq (.reg [2,3,14] []) (.cond (.seq (.reg [4,5] []) .leaf) .leaf)),[2,3],[.p,.p],⟨[2,3],[],[4,5]⟩⟩
def x92c0 (g : bitio_Reader_Bits_p0_u R) (H : Heap) (K : XK R) : Option R := g H (kN .normal [2,3] [.p,.p] K H) (kN .ret [4,5] [.n,.n] K H)
def x92a0 (f : bitio_Reader_Bits_p0_t R) : Nat → List Value → Heap → XK R → Option R := jp x92s0 x92c0 f
def x92J (k : Nat) : JTab R := tcons 0 (x92a0 z0 k) <| fun _ _ _ _ => none
def x92t : AT := (.seq (.reg [2,3] []) (.seq (.seq (.reg [2,3,8] []) (.cond (.seq (.reg [4,5] []) .leaf) .leaf)) (.seq (.opq 0 x92s0.ls x92s0.out x92s0.t) (.seq (.reg [4,5] []) .leaf))))
def x92c (g : bitio_Reader_Bits_u R) (H : Heap) (K : Value → Heap → Option R) : Option R := g H (rH [.n,.n] K)
def x92a (f : bitio_Reader_Bits_t R) : List Value → Heap → (Value → Heap → Option R) → Option R := jf 2 [.p,.n] x92c f
variable {f0 f1 z0}
theorem x92e0 (k : Nat) (H : Heap) (K : XK R) : jE Try.prog An 20 (x92C f0 f1) (x92J z0 k) x92s0 (sel [1,1,0] (bd Try.f92)) H K = mapT (fun g => x92c0 g H K) x92s0.ts (bitio_Reader_Bits_p0_b k) := by kernel_rfl
theorem x92e (k : Nat) (H : Heap) (K : Value → Heap → Option R) : fE Try.prog An (x92C f0 f1) (x92J z0 k) x92t Try.f92 [.p,.n] H K = mapT (fun g => x92c g H K) [.p,.n] (bitio_Reader_Bits_b f0 f1 z0 k) := by kernel_rfl
theorem x92S (R : Type) (k : Nat) : CSound Try.prog (x92C (R := R) bitio_Reader_ok (bitio_Reader_whole_v109 k)) := csound_cons (x85cs R k) <| csound_cons (x104v109cs R k) <| csound_nil
theorem x92j0 (R : Type) (k : Nat) : JS Try.prog 20 (x92a0 (bitio_Reader_Bits_p0 (R := R) k) k) x92s0.ls x92s0.out (sel [1,1,0] (bd Try.f92)) := pj (x92S R k) (x92J (bitio_Reader_Bits_p0 k) k) (by kernel_rfl) (A := True) trivial (by kernel_rfl) (fun _ _ => .trans (x92e0 _ _ _) (by kernel_rfl))
theorem x92cs (R : Type) (k : Nat) : ∀ args H K r,x92a (bitio_Reader_Bits k) args H K = some (r : R) → ∃ v H',Tri Try.prog 92 args H v H' ∧ K v H' = some r := fj (x92S R k) (x92J (bitio_Reader_Bits_p0 k) k) Try.func92 (by kernel_rfl) (A := JS Try.prog 20 (x92a0 (bitio_Reader_Bits_p0 (R := R) k) k) x92s0.ls x92s0.out (sel [1,1,0] (bd Try.f92)) ∧ True) ⟨x92j0 R k,trivial⟩ (by kernel_rfl) (fun _ _ => .trans (x92e _ _ _) (by kernel_rfl))
end
/-! ### tagtree_Tree_has: function 60 -/
abbrev tagtree_Tree_has_u (R : Type) : Type := Heap → (Bool → Heap → Option R) → Option R
abbrev tagtree_Tree_has_t (R : Type) : Type := Oa → Int → Int → tagtree_Tree_has_u R
section
variable {R : Type}
def tagtree_Tree_has_b (k : Nat) : tagtree_Tree_has_t R := fun p1 n2 n3 H K =>
hnil p1 fun p4 =>
hfad 0 p4 fun p5 =>
ldL H p5 fun q6 l7 c8 =>
hidx q6 l7 0 3 fun p9 =>
ldI .i64 H (pad p9 0) fun n10 =>
ldI .i64 H (pad p9 1) fun n11 =>
ldL H (pad p9 2) fun q12 l13 c14 =>
hal H [.int .i64 0,.int .i64 0,.slice none 0 0] fun p15 H16 =>
hst H16 p15 [.int .i64 n10,.int .i64 n11,.slice q12 l13 c14] fun H17 =>
bif decide (n2 ≥ 0) then (bif decide (n3 ≥ 0) then (hfad 0 p15 fun p18 =>
ldI .i64 H17 p18 fun n19 =>
bif decide (n2 < n19) then (hfad 1 p15 fun p20 =>
ldI .i64 H17 p20 fun n21 =>
K (decide (n3 < n21)) H17)
 else (K false H17))
 else (K false H17))
 else (K false H17)
def tagtree_Tree_has : tagtree_Tree_has_t R := tagtree_Tree_has_b 0
def x60C : Tab R := fun _ _ _ _ => none
def x60J (k : Nat) : JTab R := fun _ _ _ _ => none
def x60t : AT := (.seq (.reg [0,1,2] []) (.seq (.reg [1,2,7] []) (.seq (.reg [6] []) .leaf)))
def x60c (g : tagtree_Tree_has_u R) (H : Heap) (K : Value → Heap → Option R) : Option R := g H (rH [.b] K)
def x60a (f : tagtree_Tree_has_t R) : List Value → Heap → (Value → Heap → Option R) → Option R := jf 3 [.p,.n,.n] x60c f
theorem x60e (k : Nat) (H : Heap) (K : Value → Heap → Option R) : fE Try.prog An (x60C) (x60J k) x60t Try.f60 [.p,.n,.n] H K = mapT (fun g => x60c g H K) [.p,.n,.n] (tagtree_Tree_has_b k) := by kernel_rfl
theorem x60S (R : Type) (k : Nat) : CSound Try.prog (x60C (R := R)) := csound_nil
theorem x60cs (R : Type) (k : Nat) : ∀ args H K r,x60a (tagtree_Tree_has) args H K = some (r : R) → ∃ v H',Tri Try.prog 60 args H v H' ∧ K v H' = some r := fj (x60S R k) (x60J 0) Try.func60 (by kernel_rfl) (A := True) trivial (by kernel_rfl) (fun _ _ => .trans (x60e _ _ _) (by kernel_rfl))
end
/-! ### tagtree_Tree_at: function 61 -/
abbrev tagtree_Tree_at_u (R : Type) : Type := Heap → (Oa → Option R) → Option R
abbrev tagtree_Tree_at_t (R : Type) : Type := Oa → Int → Int → Int → tagtree_Tree_at_u R
section
variable {R : Type}
def tagtree_Tree_at_b (k : Nat) : tagtree_Tree_at_t R := fun p1 n2 n3 n4 H K =>
hnil p1 fun p5 =>
hfad 0 p5 fun p6 =>
ldL H p6 fun q7 l8 c9 =>
hidx q7 l8 n2 3 fun p10 =>
hnil p10 fun p11 =>
hfad 2 p11 fun p12 =>
ldL H p12 fun q13 l14 c15 =>
hbin .shr .i64 n4 (IntKind.wrap .u64 n2) fun n16 =>
hnil p10 fun p17 =>
hfad 0 p17 fun p18 =>
ldI .i64 H p18 fun n19 =>
hbin .shr .i64 n3 (IntKind.wrap .u64 n2) fun n20 =>
hidx q13 l14 (IntKind.wrap .i64 ((IntKind.wrap .i64 (n16 * n19)) + n20)) 3 fun p21 =>
K p21
def tagtree_Tree_at : tagtree_Tree_at_t R := tagtree_Tree_at_b 0
def x61C : Tab R := fun _ _ _ _ => none
def x61J (k : Nat) : JTab R := fun _ _ _ _ => none
def x61t : AT := (.seq (.reg [0,1,2,3] []) (.seq (.reg [1,2,3,9] []) (.seq (.reg [8] (ms [0,1,3,7,0,0,32,112,0,256,768,1792,4080,0,0,16384,57344,131056,262143,524287])) .leaf)))
def x61c (g : tagtree_Tree_at_u R) (H : Heap) (K : Value → Heap → Option R) : Option R := g H (rN [.p] K H)
def x61a (f : tagtree_Tree_at_t R) : List Value → Heap → (Value → Heap → Option R) → Option R := jf 4 [.p,.n,.n,.n] x61c f
theorem x61e (k : Nat) (H : Heap) (K : Value → Heap → Option R) : fE Try.prog An (x61C) (x61J k) x61t Try.f61 [.p,.n,.n,.n] H K = mapT (fun g => x61c g H K) [.p,.n,.n,.n] (tagtree_Tree_at_b k) := by kernel_rfl
theorem x61S (R : Type) (k : Nat) : CSound Try.prog (x61C (R := R)) := csound_nil
theorem x61cs (R : Type) (k : Nat) : ∀ args H K r,x61a (tagtree_Tree_at) args H K = some (r : R) → ∃ v H',Tri Try.prog 61 args H v H' ∧ K v H' = some r := fj (x61S R k) (x61J 0) Try.func61 (by kernel_rfl) (A := True) trivial (by kernel_rfl) (fun _ _ => .trans (x61e _ _ _) (by kernel_rfl))
end
/-! ### tagtree_Tree_Decode_1: function 103 -/
abbrev tagtree_Tree_Decode_1_u (R : Type) : Type := Heap → (Int → Int → Heap → Option R) → Option R
abbrev tagtree_Tree_Decode_1_t (R : Type) : Type := Int → Int → Bool → Oa → tagtree_Tree_Decode_1_u R
section
variable {R : Type} (f0 : bitio_Reader_Get_t R)
def tagtree_Tree_Decode_1_b (k : Nat) : tagtree_Tree_Decode_1_t R := fun n1 n2 t3 p4 H K =>
hal H [.int .i64 n1,.int .i64 n2,.bool t3] fun p5 H6 =>
ldP H6 p4 fun p7 =>
f0 p7 H6 fun n8 n9 H10 =>
K n8 n9 H10
def tagtree_Tree_Decode_1 (k : Nat) : tagtree_Tree_Decode_1_t R := tagtree_Tree_Decode_1_b (bitio_Reader_Get k) k
def x103C : Tab R := tcons 72 (x72a f0) <| fun _ _ _ _ => none
def x103J (k : Nat) : JTab R := fun _ _ _ _ => none
def x103t : AT := (.seq (.reg [1] []) (.seq (.reg [3,4] []) .leaf))
def x103c (g : tagtree_Tree_Decode_1_u R) (H : Heap) (K : Value → Heap → Option R) : Option R := g H (rH [.n,.n] K)
def x103a (f : tagtree_Tree_Decode_1_t R) : List Value → Heap → (Value → Heap → Option R) → Option R := jf 2 [(.a 3),.n,.n,.b,.p] x103c f
variable {f0}
theorem x103e (k : Nat) (H : Heap) (K : Value → Heap → Option R) : fE Try.prog An (x103C f0) (x103J k) x103t Try.f103 [(.a 3),.n,.n,.b,.p] H K = mapT (fun g => x103c g H K) [(.a 3),.n,.n,.b,.p] (tagtree_Tree_Decode_1_b f0 k) := by kernel_rfl
theorem x103S (R : Type) (k : Nat) : CSound Try.prog (x103C (R := R) (bitio_Reader_Get k)) := csound_cons (x72cs R k) <| csound_nil
theorem x103cs (R : Type) (k : Nat) : ∀ args H K r,x103a (tagtree_Tree_Decode_1 k) args H K = some (r : R) → ∃ v H',Tri Try.prog 103 args H v H' ∧ K v H' = some r := fj (x103S R k) (x103J k) Try.func103 (by kernel_rfl) (A := True) trivial (by kernel_rfl) (fun _ _ => .trans (x103e _ _ _) (by kernel_rfl))
end
/-! ### tagtree_Tree_walk_v103: function 82 -/
abbrev tagtree_Tree_walk_v103_p2_u (R : Type) : Type := Heap → (Oa → Int → Int → Int → Oa → Oa → Nat → Nat → Int → Oa → Option R) → (Oa → Int → Int → Int → Oa → Oa → Nat → Nat → Int → Oa → Option R) → Option R
abbrev tagtree_Tree_walk_v103_p2_t (R : Type) : Type := Oa → Int → Int → Int → Oa → Oa → Nat → Nat → Int → Oa → tagtree_Tree_walk_v103_p2_u R
abbrev tagtree_Tree_walk_v103_l1_r (R : Type) : Type := Oa → Int → Int → Int → Oa → Oa → Nat → Nat → Int → Oa → Heap → Option R
abbrev tagtree_Tree_walk_v103_l1_q (R T : Type) : Type := (Oa → Int → Int → Int → Oa → Oa → Nat → Nat → Int → Oa → Heap → Option R) → (Int → Heap → Option R) → T
abbrev tagtree_Tree_walk_v103_l1_t (R : Type) : Type := tagtree_Tree_walk_v103_l1_q R (Nat → tagtree_Tree_walk_v103_l1_r R)
abbrev tagtree_Tree_walk_v103_l0_r (R : Type) : Type := Oa → Int → Int → Int → Oa → Oa → Nat → Nat → Int → Int → Heap → Option R
abbrev tagtree_Tree_walk_v103_l0_q (R T : Type) : Type := (Oa → Int → Int → Oa → Nat → Nat → Heap → Option R) → (Int → Heap → Option R) → T
abbrev tagtree_Tree_walk_v103_l0_t (R : Type) : Type := tagtree_Tree_walk_v103_l0_q R (Nat → tagtree_Tree_walk_v103_l0_r R)
abbrev tagtree_Tree_walk_v103_l3_r (R : Type) : Type := Oa → Int → Int → Oa → Nat → Nat → Int → Int → Heap → Option R
abbrev tagtree_Tree_walk_v103_l3_q (R T : Type) : Type := (Heap → Option R) → T
abbrev tagtree_Tree_walk_v103_l3_t (R : Type) : Type := tagtree_Tree_walk_v103_l3_q R (Nat → tagtree_Tree_walk_v103_l3_r R)
abbrev tagtree_Tree_walk_v103_u (R : Type) : Type := Heap → (Int → Heap → Option R) → Option R
abbrev tagtree_Tree_walk_v103_t (R : Type) : Type := Oa → Int → Int → Int → Oa → tagtree_Tree_walk_v103_u R
section
variable {R : Type} (f0 : tagtree_Tree_at_t R) (f1 : tagtree_Tree_Decode_1_t R) (z0 : tagtree_Tree_walk_v103_l0_t R) (z1 : tagtree_Tree_walk_v103_l1_t R) (z2 : tagtree_Tree_walk_v103_p2_t R) (z3 : tagtree_Tree_walk_v103_l3_t R)
def tagtree_Tree_walk_v103_p2_b (k : Nat) : tagtree_Tree_walk_v103_p2_t R := fun p1 n2 n3 n4 p5 q6 l7 c8 n9 p10 H KE2 KN =>
hfad 1 p10 fun p11 =>
ldI .i64 H p11 fun n12 =>
bif decide (n12 < n4) then (hfad 2 p10 fun p13 =>
ldB H p13 fun t14 =>
bif (!t14) then (KN p1 n2 n3 n4 p5 q6 l7 c8 n9 p10)
 else (KE2 p1 n2 n3 n4 p5 q6 l7 c8 n9 p10))
 else (KE2 p1 n2 n3 n4 p5 q6 l7 c8 n9 p10)
def tagtree_Tree_walk_v103_p2 (k : Nat) : tagtree_Tree_walk_v103_p2_t R := tagtree_Tree_walk_v103_p2_b k
def tagtree_Tree_walk_v103_l1_b (k : Nat) : tagtree_Tree_walk_v103_l1_q R (tagtree_Tree_walk_v103_l1_r R → tagtree_Tree_walk_v103_l1_r R) := fun KE2 KR rec p1 n2 n3 n4 p5 q6 l7 c8 n9 p10 H =>
z2 p1 n2 n3 n4 p5 q6 l7 c8 n9 p10 H (fun p31 n32 n33 n34 p35 q36 l37 c38 n39 p40 =>
KE2 p31 n32 n33 n34 p35 q36 l37 c38 n39 p40 H) (fun p41 n42 n43 n44 p45 q46 l47 c48 n49 p50 =>
ldI .i64 H (pad p50 0) fun n51 =>
ldI .i64 H (pad p50 1) fun n52 =>
ldB H (pad p50 2) fun t53 =>
f1 n51 n52 t53 p45 H fun n54 n55 H56 =>
bif (n55 != 0) then (KR n55 H56)
 else (bif (n54 == 1) then (hfad 2 p50 fun p57 =>
hst1 H56 p57 (.bool true) fun H58 =>
rec p41 n42 n43 n44 p45 q46 l47 c48 n49 p50 H58)
 else (hfad 1 p50 fun p59 =>
ldI .i64 H56 p59 fun n60 =>
hfad 1 p50 fun p61 =>
hst1 H56 p61 (.int .i64 (IntKind.wrap .i64 (n60 + 1))) fun H62 =>
rec p41 n42 n43 n44 p45 q46 l47 c48 n49 p50 H62)))
def tagtree_Tree_walk_v103_l1 (k : Nat) : tagtree_Tree_walk_v103_l1_t R
  | KE2,KR,0 => fun _ _ _ _ _ _ _ _ _ _ _ => none
  | KE2,KR,n + 1 => tagtree_Tree_walk_v103_l1_b (tagtree_Tree_Decode_1 k) (tagtree_Tree_walk_v103_p2 k) k KE2 KR (tagtree_Tree_walk_v103_l1 k KE2 KR n)
def tagtree_Tree_walk_v103_l0_b (k : Nat) : tagtree_Tree_walk_v103_l0_q R (tagtree_Tree_walk_v103_l0_r R → tagtree_Tree_walk_v103_l0_r R) := fun KE0 KR rec p1 n2 n3 n4 p5 q6 l7 c8 n9 n10 H =>
bif decide (n10 ≥ 0) then (f0 p1 n10 n2 n3 H fun p11 =>
hnil p11 fun p12 =>
ldI .i64 H (pad p12 0) fun n13 =>
ldI .i64 H (pad p12 1) fun n14 =>
ldB H (pad p12 2) fun t15 =>
hal H [.int .i64 0,.int .i64 0,.bool false] fun p16 H17 =>
hst H17 p16 [.int .i64 n13,.int .i64 n14,.bool t15] fun H18 =>
hfad 1 p16 fun p19 =>
ldI .i64 H18 p19 fun n20 =>
hfad 1 p16 fun p21 =>
hst1 H18 p21 (.int .i64 (imx n20 n9)) fun H22 =>
z1 (fun p34 n35 n36 n37 p38 q39 l40 c41 n42 p43 H44 =>
hfad 1 p43 fun p45 =>
ldI .i64 H44 p45 fun n46 =>
ldI .i64 H44 (pad p43 0) fun n47 =>
ldI .i64 H44 (pad p43 1) fun n48 =>
ldB H44 (pad p43 2) fun t49 =>
hidx q39 l40 n42 3 fun p50 =>
hst H44 p50 [.int .i64 n47,.int .i64 n48,.bool t49] fun H51 =>
rec p34 n35 n36 n37 p38 q39 l40 c41 n46 (IntKind.wrap .i64 (n42 - 1)) H51) (fun n52 H53 =>
KR n52 H53) k p1 n2 n3 n4 p5 q6 l7 c8 n10 p16 H22)
 else (KE0 p1 n2 n3 q6 l7 c8 H)
def tagtree_Tree_walk_v103_l0 (k : Nat) : tagtree_Tree_walk_v103_l0_t R
  | KE0,KR,0 => fun _ _ _ _ _ _ _ _ _ _ _ => none
  | KE0,KR,n + 1 => tagtree_Tree_walk_v103_l0_b tagtree_Tree_at (tagtree_Tree_walk_v103_l1 k) k KE0 KR (tagtree_Tree_walk_v103_l0 k KE0 KR n)
def tagtree_Tree_walk_v103_l3_b (k : Nat) : tagtree_Tree_walk_v103_l3_q R (tagtree_Tree_walk_v103_l3_r R → tagtree_Tree_walk_v103_l3_r R) := fun KE4 rec p1 n2 n3 q4 l5 c6 n7 n8 H =>
bif decide (n8 < n7) then (hidx q4 l5 n8 3 fun p9 =>
ldI .i64 H (pad p9 0) fun n10 =>
ldI .i64 H (pad p9 1) fun n11 =>
ldB H (pad p9 2) fun t12 =>
hal H [.int .i64 0,.int .i64 0,.bool false] fun p13 H14 =>
hst H14 p13 [.int .i64 n10,.int .i64 n11,.bool t12] fun H15 =>
f0 p1 n8 n2 n3 (roH H15) fun p16 =>
ldI .i64 (H15 ++ (roH H15).drop H15.length) (pad p13 0) fun n17 =>
ldI .i64 (H15 ++ (roH H15).drop H15.length) (pad p13 1) fun n18 =>
ldB (H15 ++ (roH H15).drop H15.length) (pad p13 2) fun t19 =>
hnil p16 fun p20 =>
hst (H15 ++ (roH H15).drop H15.length) p20 [.int .i64 n17,.int .i64 n18,.bool t19] fun H21 =>
rec p1 n2 n3 q4 l5 c6 n7 (IntKind.wrap .i64 (n8 + 1)) H21)
 else (KE4 H)
def tagtree_Tree_walk_v103_l3 (k : Nat) : tagtree_Tree_walk_v103_l3_t R
  | KE4,0 => fun _ _ _ _ _ _ _ _ _ => none
  | KE4,n + 1 => tagtree_Tree_walk_v103_l3_b tagtree_Tree_at k KE4 (tagtree_Tree_walk_v103_l3 k KE4 n)
def tagtree_Tree_walk_v103_b (k : Nat) : tagtree_Tree_walk_v103_t R := fun p1 n2 n3 n4 p5 H K =>
hnil p1 fun p6 =>
hfad 0 p6 fun p7 =>
ldL H p7 fun q8 l9 c10 =>
hmk [.int .i64 0,.int .i64 0,.bool false] 24 H ((l9 : Nat) : Int) ((l9 : Nat) : Int) fun q11 l12 c13 H14 =>
hnil p1 fun p15 =>
hfad 0 p15 fun p16 =>
ldL H14 p16 fun q17 l18 c19 =>
z0 (fun p27 n28 n29 q30 l31 c32 H33 =>
z3 (fun H34 =>
K 0 H34) k p27 n28 n29 q30 l31 c32 ((l31 : Nat) : Int) 0 H33) (fun n35 H36 =>
K n35 H36) k p1 n2 n3 n4 p5 q11 l12 c13 0 (IntKind.wrap .i64 (((l18 : Nat) : Int) - 1)) H14
def tagtree_Tree_walk_v103 (k : Nat) : tagtree_Tree_walk_v103_t R := tagtree_Tree_walk_v103_b (tagtree_Tree_walk_v103_l0 k) (tagtree_Tree_walk_v103_l3 k) k
def x82v103C : Tab R := tcons 61 (x61a f0) <| tcons 103 (x103a f1) <| fun _ _ _ _ => none
def x82v103s3 : PS := ⟨(.seq (.reg [0,1,2,78,79,80,81] []) (.seq (.cond .leaf .leaf) (.seq (.node (.seq (.reg [0,1,2,17,18,78,79,80] []) (.reg [0,1,2,78,79,80] (ms [0,0,0,0,15,0,63,127])))) (.reg [0,1,2,78,79,80] [])))),[0,1,2,78,79,80],[.p,.n,.n,.l,.n,.n],⟨[],[(4,[])],[]⟩⟩
def x82v103c3 {T : Type} (g : tagtree_Tree_walk_v103_l3_q R T) (H : Heap) (K : XK R) : T := g (kH (.exit 4) [] [] K)
def x82v103a3 (f : tagtree_Tree_walk_v103_l3_t R) : Nat → List Value → Heap → XK R → Option R := jl x82v103s3 (L := tagtree_Tree_walk_v103_l3_t R) x82v103c3 pH f
def x82v103s2 : PS := ⟨(.seq (.reg [0,1,2,3,4,11,13,14,55] []) (.cond .leaf .leaf)),[0,1,2,3,4,11,13,14],[.p,.n,.n,.n,(.f 103 1),.p,.l,.n,.p],⟨[0,1,2,3,4,11,13,14],[(2,[0,1,2,3,4,11,13,14])],[]⟩⟩
def x82v103c2 (g : tagtree_Tree_walk_v103_p2_u R) (H : Heap) (K : XK R) : Option R := g H (kN (.exit 2) [0,1,2,3,4,11,13,14] [.p,.n,.n,.n,(.f 103 1),.p,.l,.n,.p] K H) (kN .normal [0,1,2,3,4,11,13,14] [.p,.n,.n,.n,(.f 103 1),.p,.l,.n,.p] K H)
def x82v103a2 (f : tagtree_Tree_walk_v103_p2_t R) : Nat → List Value → Heap → XK R → Option R := jp x82v103s2 x82v103c2 f
def x82v103s1 : PS := ⟨(.seq (.opq 2 x82v103s2.ls x82v103s2.out x82v103s2.t) (.node (.seq (.reg [0,1,2,3,4,11,13,14,15,16] []) (.seq (.seq (.reg [0,1,2,3,4,11,13,14,15,16,63] []) (.cond (.seq (.reg [10] []) .leaf) .leaf)) (.seq (.reg [0,1,2,3,4,11,13,14,66] []) (.cond (.reg [0,1,2,3,4,11,13,14] []) (.reg [0,1,2,3,4,11,13,14] []))))))),[0,1,2,3,4,11,13,14],[.p,.n,.n,.n,(.f 103 1),.p,.l,.n,.p],⟨[],[(2,[0,1,2,3,4,11,13,14])],[10]⟩⟩
def x82v103c1 {T : Type} (g : tagtree_Tree_walk_v103_l1_q R T) (H : Heap) (K : XK R) : T := g (kH (.exit 2) [0,1,2,3,4,11,13,14] [.p,.n,.n,.n,(.f 103 1),.p,.l,.n,.p] K) (kH .ret [10] [.n] K)
def x82v103a1 (f : tagtree_Tree_walk_v103_l1_t R) : Nat → List Value → Heap → XK R → Option R := jl x82v103s1 (L := tagtree_Tree_walk_v103_l1_t R) x82v103c1 pH f
def x82v103s0 : PS := ⟨(.seq (.seq (.reg [0,1,2,3,4,11,12,13,32] []) (.cond .leaf .leaf)) (.seq (.node (.seq (.reg [0,1,2,3,4,11,12,13,14] []) (.seq (.reg [0,1,2,3,4,11,13,14] []) (.seq (.node (.opq 1 x82v103s1.ls x82v103s1.out (.node x82v103s1.t))) (.reg [0,1,2,3,4,11,12,13] (ms [0,0,0,4,0,12,63,127])))))) (.reg [0,1,2,3,4,11,12,13] []))),[0,1,2,3,4,11,12,13],[.p,.n,.n,.n,(.f 103 1),.p,.l,.n,.n],⟨[],[(0,[0,1,2,11])],[10]⟩⟩
def x82v103c0 {T : Type} (g : tagtree_Tree_walk_v103_l0_q R T) (H : Heap) (K : XK R) : T := g (kH (.exit 0) [0,1,2,11] [.p,.n,.n,.l] K) (kH .ret [10] [.n] K)
def x82v103a0 (f : tagtree_Tree_walk_v103_l0_t R) : Nat → List Value → Heap → XK R → Option R := jl x82v103s0 (L := tagtree_Tree_walk_v103_l0_t R) x82v103c0 pH f
def x82v103J (k : Nat) : JTab R := tcons 0 (x82v103a0 z0 k) <| tcons 1 (x82v103a1 z1 k) <| tcons 2 (x82v103a2 z2 k) <| tcons 3 (x82v103a3 z3 k) <| fun _ _ _ _ => none
def x82v103t : AT := (.seq (.reg [0,1,2,3,4] []) (.seq (.reg [0,1,2,3,4,11] []) (.seq (.reg [0,1,2,3,4,11,12] []) (.seq (.seq (.reg [0,1,2,3,4,11,12,13] []) (.node (.opq 0 x82v103s0.ls x82v103s0.out (.node x82v103s0.t)))) (.seq (.seq (.reg [0,1,2,78,79,80] []) (.node (.opq 3 x82v103s3.ls x82v103s3.out (.node x82v103s3.t)))) (.seq (.reg [10] []) .leaf))))))
def x82v103c (g : tagtree_Tree_walk_v103_u R) (H : Heap) (K : Value → Heap → Option R) : Option R := g H (rH [.n] K)
def x82v103a (f : tagtree_Tree_walk_v103_t R) : List Value → Heap → (Value → Heap → Option R) → Option R := jf 5 [.p,.n,.n,.n,(.f 103 1),.p] x82v103c f
variable {f0 f1 z0 z1 z2 z3}
theorem x82v103e3 (k n : Nat) (H : Heap) (K : XK R) : lE Try.prog An 93 (x82v103C f0 f1) (x82v103J z0 z1 z2 z3 k) x82v103s3 (sel [1,1,1,1,0,1,0,0] (bd Try.f82)) (x82v103a3 z3) n H K = mapT (fun g => pH g H) x82v103s3.ts (x82v103c3 (tagtree_Tree_walk_v103_l3_b f0 k) H K (x82v103c3 z3 H K n)) := by kernel_rfl
theorem x82v103e2 (k : Nat) (H : Heap) (K : XK R) : jE Try.prog An 93 (x82v103C f0 f1) (x82v103J z0 z1 z2 z3 k) x82v103s2 (sel [1,1,1,0,1,0,0,1,0,0,1,1,0,0,0,0] (bd Try.f82)) H K = mapT (fun g => x82v103c2 g H K) x82v103s2.ts (tagtree_Tree_walk_v103_p2_b k) := by kernel_rfl
theorem x82v103e1 (k n : Nat) (H : Heap) (K : XK R) : lE Try.prog An 93 (x82v103C f0 f1) (x82v103J z0 z1 z2 z3 k) x82v103s1 (sel [1,1,1,0,1,0,0,1,0,0,1,1,0,0,0] (bd Try.f82)) (x82v103a1 z1) n H K = mapT (fun g => pH g H) x82v103s1.ts (x82v103c1 (tagtree_Tree_walk_v103_l1_b f1 z2 k) H K (x82v103c1 z1 H K n)) := by kernel_rfl
theorem x82v103e0 (k n : Nat) (H : Heap) (K : XK R) : lE Try.prog An 93 (x82v103C f0 f1) (x82v103J z0 z1 z2 z3 k) x82v103s0 (sel [1,1,1,0,1,0,0] (bd Try.f82)) (x82v103a0 z0) n H K = mapT (fun g => pH g H) x82v103s0.ts (x82v103c0 (tagtree_Tree_walk_v103_l0_b f0 z1 k) H K (x82v103c0 z0 H K n)) := by kernel_rfl
theorem x82v103e (k : Nat) (H : Heap) (K : Value → Heap → Option R) : fE Try.prog An (x82v103C f0 f1) (x82v103J z0 z1 z2 z3 k) x82v103t Try.f82 [.p,.n,.n,.n,(.f 103 1),.p] H K = mapT (fun g => x82v103c g H K) [.p,.n,.n,.n,(.f 103 1),.p] (tagtree_Tree_walk_v103_b z0 z3 k) := by kernel_rfl
theorem x82v103S (R : Type) (k : Nat) : CSound Try.prog (x82v103C (R := R) tagtree_Tree_at (tagtree_Tree_Decode_1 k)) := csound_cons (x61cs R k) <| csound_cons (x103cs R k) <| csound_nil
theorem x82v103j3 (R : Type) (k : Nat) : JS Try.prog 93 (x82v103a3 (tagtree_Tree_walk_v103_l3 (R := R) k) k) x82v103s3.ls x82v103s3.out (.loop (sel [1,1,1,1,0,1,0,0] (bd Try.f82))) := lj (x82v103S R k) (x82v103J (tagtree_Tree_walk_v103_l0 k) (tagtree_Tree_walk_v103_l1 k) (tagtree_Tree_walk_v103_p2 k) (tagtree_Tree_walk_v103_l3 k) k) (by kernel_rfl) (A := True) trivial (by kernel_rfl) (fun _ _ => by kernel_rfl) (fun _ _ _ => .trans (x82v103e3 _ _ _ _) (by kernel_rfl)) k
theorem x82v103j2 (R : Type) (k : Nat) : JS Try.prog 93 (x82v103a2 (tagtree_Tree_walk_v103_p2 (R := R) k) k) x82v103s2.ls x82v103s2.out (sel [1,1,1,0,1,0,0,1,0,0,1,1,0,0,0,0] (bd Try.f82)) := pj (x82v103S R k) (x82v103J (tagtree_Tree_walk_v103_l0 k) (tagtree_Tree_walk_v103_l1 k) (tagtree_Tree_walk_v103_p2 k) (tagtree_Tree_walk_v103_l3 k) k) (by kernel_rfl) (A := True) trivial (by kernel_rfl) (fun _ _ => .trans (x82v103e2 _ _ _) (by kernel_rfl))
theorem x82v103j1 (R : Type) (k : Nat) : JS Try.prog 93 (x82v103a1 (tagtree_Tree_walk_v103_l1 (R := R) k) k) x82v103s1.ls x82v103s1.out (.loop (sel [1,1,1,0,1,0,0,1,0,0,1,1,0,0,0] (bd Try.f82))) := lj (x82v103S R k) (x82v103J (tagtree_Tree_walk_v103_l0 k) (tagtree_Tree_walk_v103_l1 k) (tagtree_Tree_walk_v103_p2 k) (tagtree_Tree_walk_v103_l3 k) k) (by kernel_rfl) (A := JS Try.prog 93 (x82v103a2 (tagtree_Tree_walk_v103_p2 (R := R) k) k) x82v103s2.ls x82v103s2.out (sel [1,1,1,0,1,0,0,1,0,0,1,1,0,0,0,0] (bd Try.f82)) ∧ True) ⟨x82v103j2 R k,trivial⟩ (by kernel_rfl) (fun _ _ => by kernel_rfl) (fun _ _ _ => .trans (x82v103e1 _ _ _ _) (by kernel_rfl)) k
theorem x82v103j0 (R : Type) (k : Nat) : JS Try.prog 93 (x82v103a0 (tagtree_Tree_walk_v103_l0 (R := R) k) k) x82v103s0.ls x82v103s0.out (.loop (sel [1,1,1,0,1,0,0] (bd Try.f82))) := lj (x82v103S R k) (x82v103J (tagtree_Tree_walk_v103_l0 k) (tagtree_Tree_walk_v103_l1 k) (tagtree_Tree_walk_v103_p2 k) (tagtree_Tree_walk_v103_l3 k) k) (by kernel_rfl) (A := JS Try.prog 93 (x82v103a1 (tagtree_Tree_walk_v103_l1 (R := R) k) k) x82v103s1.ls x82v103s1.out (.loop (sel [1,1,1,0,1,0,0,1,0,0,1,1,0,0,0] (bd Try.f82))) ∧ True) ⟨x82v103j1 R k,trivial⟩ (by kernel_rfl) (fun _ _ => by kernel_rfl) (fun _ _ _ => .trans (x82v103e0 _ _ _ _) (by kernel_rfl)) k
theorem x82v103cs (R : Type) (k : Nat) : ∀ args H K r,x82v103a (tagtree_Tree_walk_v103 k) args H K = some (r : R) → ∃ v H',Tri Try.prog 82 args H v H' ∧ K v H' = some r := fj (x82v103S R k) (x82v103J (tagtree_Tree_walk_v103_l0 k) (tagtree_Tree_walk_v103_l1 k) (tagtree_Tree_walk_v103_p2 k) (tagtree_Tree_walk_v103_l3 k) k) Try.func82 (by kernel_rfl) (A := JS Try.prog 93 (x82v103a0 (tagtree_Tree_walk_v103_l0 (R := R) k) k) x82v103s0.ls x82v103s0.out (.loop (sel [1,1,1,0,1,0,0] (bd Try.f82))) ∧ JS Try.prog 93 (x82v103a3 (tagtree_Tree_walk_v103_l3 (R := R) k) k) x82v103s3.ls x82v103s3.out (.loop (sel [1,1,1,1,0,1,0,0] (bd Try.f82))) ∧ True) ⟨x82v103j0 R k,⟨x82v103j3 R k,trivial⟩⟩ (by kernel_rfl) (fun _ _ => .trans (x82v103e _ _ _) (by kernel_rfl))
end
end Go.Proofs.Ytjajknghcbpblaa.Sh
