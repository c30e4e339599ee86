/- Lean functions that stand for Go's,over an explicit heap,and the proofs that they do (written by this claim's program sh2.py). -/
import Derived.Test.YtmanlfonppfhaaaShA
set_option maxRecDepth 100000
set_option linter.unusedVariables false
set_option linter.unusedSimpArgs false
namespace Go.Proofs.Ytmanlfonppfhaaa.Sh
open Go.Proofs.Ytmanlfonppfhaaa.FW
/-! ### tagtree_valid: function 44 -/
abbrev tagtree_valid_p0_u (R : Type) : Type := (Int → Int → Option R) → (Int → Option R) → Option R
abbrev tagtree_valid_p0_t (R : Type) : Type := Int → Int → tagtree_valid_p0_u R
abbrev tagtree_valid_u (R : Type) : Type := (Int → Option R) → Option R
abbrev tagtree_valid_t (R : Type) : Type := Int → Int → tagtree_valid_u R
section
variable {R : Type} (z0 : tagtree_valid_p0_t R)
def tagtree_valid_p0_b (k : Nat) : tagtree_valid_p0_t R := fun n1 n2 KN KR =>
bif decide (n1 < 1) then (KR 2)
 else (bif decide (n2 < 1) then (KR 2)
 else (KN n1 n2))
def tagtree_valid_p0 (k : Nat) : tagtree_valid_p0_t R := tagtree_valid_p0_b k
def tagtree_valid_b (k : Nat) : tagtree_valid_t R := fun n1 n2 K =>
z0 n1 n2 (fun n6 n7 =>
bif decide (n6 > 65536) then (K 5)
 else (bif decide (n7 > 65536) then (K 5)
 else (bif decide ((IntKind.wrap .i64 (n6 * n7)) > 65536) then (K 5)
 else (K 0)))) (fun n8 =>
K n8)
def tagtree_valid (k : Nat) : tagtree_valid_t R := tagtree_valid_b (tagtree_valid_p0 k) k
def x44C : Tab R := fun _ _ _ _ => none
def x44s0 : PS := ⟨(.seq (.reg [0,1,10] []) (.cond (.seq (.reg [4] []) .leaf) .leaf)),[0,1],[.n,.n],⟨[0,1],[],[4]⟩⟩
def x44c0 (g : tagtree_valid_p0_u R) (H : Heap) (K : XK R) : Option R := g (kN .normal [0,1] [.n,.n] K H) (kN .ret [4] [.n] K H)
def x44a0 (f : tagtree_valid_p0_t R) : Nat → List Value → Heap → XK R → Option R := jp x44s0 x44c0 f
def x44J (k : Nat) : JTab R := tcons 0 (x44a0 z0 k) <| fun _ _ _ _ => none
def x44t : AT := (.seq (.reg [0,1] []) (.seq (.opq 0 x44s0.ls x44s0.out x44s0.t) (.seq (.seq (.reg [22] []) (.cond (.seq (.reg [4] []) .leaf) .leaf)) (.seq (.reg [4] []) .leaf))))
def x44c (g : tagtree_valid_u R) (H : Heap) (K : Value → Heap → Option R) : Option R := g (rN [.n] K H)
def x44a (f : tagtree_valid_t R) : List Value → Heap → (Value → Heap → Option R) → Option R := jf 2 [.n,.n] x44c f
variable {z0}
theorem x44e0 (k : Nat) (H : Heap) (K : XK R) : jE Try.prog An 23 (x44C) (x44J z0 k) x44s0 (sel [1,0] (bd Try.f44)) H K = mapT (fun g => x44c0 g H K) x44s0.ts (tagtree_valid_p0_b k) := by kernel_rfl
theorem x44e (k : Nat) (H : Heap) (K : Value → Heap → Option R) : fE Try.prog An (x44C) (x44J z0 k) x44t Try.f44 [.n,.n] H K = mapT (fun g => x44c g H K) [.n,.n] (tagtree_valid_b z0 k) := by kernel_rfl
theorem x44S (R : Type) (k : Nat) : CSound Try.prog (x44C (R := R)) := csound_nil
theorem x44j0 (R : Type) (k : Nat) : JS Try.prog 23 (x44a0 (tagtree_valid_p0 (R := R) k) k) x44s0.ls x44s0.out (sel [1,0] (bd Try.f44)) := pj (x44S R k) (x44J (tagtree_valid_p0 k) k) (by kernel_rfl) (A := True) trivial (by kernel_rfl) (fun _ _ => .trans (x44e0 _ _ _) (by kernel_rfl))
theorem x44cs (R : Type) (k : Nat) : ∀ args H K r,x44a (tagtree_valid k) args H K = some (r : R) → ∃ v H',Tri Try.prog 44 args H v H' ∧ K v H' = some r := fj (x44S R k) (x44J (tagtree_valid_p0 k) k) Try.func44 (by kernel_rfl) (A := JS Try.prog 23 (x44a0 (tagtree_valid_p0 (R := R) k) k) x44s0.ls x44s0.out (sel [1,0] (bd Try.f44)) ∧ True) ⟨x44j0 R k,trivial⟩ (by kernel_rfl) (fun _ _ => .trans (x44e _ _ _) (by kernel_rfl))
end
/-! ### tagtree_New: function 28 -/
abbrev tagtree_New_p1_u (R : Type) : Type := (Int → Int → Oa → Option R) → (Oa → Int → Option R) → Option R
abbrev tagtree_New_p1_t (R : Type) : Type := Int → Int → Oa → tagtree_New_p1_u R
abbrev tagtree_New_l0_r (R : Type) : Type := Int → Int → Oa → Heap → Option R
abbrev tagtree_New_l0_q (R T : Type) : Type := (Oa → Int → Heap → Option R) → T
abbrev tagtree_New_l0_t (R : Type) : Type := tagtree_New_l0_q R (Nat → tagtree_New_l0_r R)
abbrev tagtree_New_u (R : Type) : Type := Heap → (Oa → Int → Heap → Option R) → Option R
abbrev tagtree_New_t (R : Type) : Type := Int → Int → tagtree_New_u R
section
variable {R : Type} (f0 : tagtree_valid_t R) (z0 : tagtree_New_l0_t R) (z1 : tagtree_New_p1_t R)
def tagtree_New_p1_b (k : Nat) : tagtree_New_p1_t R := fun n1 n2 p3 KN KR =>
bif (n1 == 1) then (bif (n2 == 1) then (KR p3 0)
 else (KN n1 n2 p3))
 else (KN n1 n2 p3)
def tagtree_New_p1 (k : Nat) : tagtree_New_p1_t R := tagtree_New_p1_b k
def tagtree_New_l0_b (k : Nat) : tagtree_New_l0_q R (tagtree_New_l0_r R → tagtree_New_l0_r R) := fun KR rec n1 n2 p3 H =>
hnil p3 fun p4 =>
hfad 0 p4 fun p5 =>
ldL H p5 fun q6 l7 c8 =>
hmk [.int .i64 0,.int .i64 0,.bool false] 24 H (IntKind.wrap .i64 (n1 * n2)) (IntKind.wrap .i64 (n1 * n2)) fun q9 l10 c11 H12 =>
hal H12 [.int .i64 n1,.int .i64 n2,.slice q9 l10 c11] fun p13 H14 =>
happS 3 40 H14 q6 l7 c8 p13 1 fun q15 l16 c17 H18 =>
hnil p3 fun p19 =>
hfad 0 p19 fun p20 =>
hst1 H18 p20 (.slice q15 l16 c17) fun H21 =>
z1 n1 n2 p3 (fun n27 n28 p29 =>
rec (IntKind.wrap .i64 (Int.tdiv (IntKind.wrap .i64 (n27 + 1)) 2)) (IntKind.wrap .i64 (Int.tdiv (IntKind.wrap .i64 (n28 + 1)) 2)) p29 H21) (fun p30 n31 =>
KR p30 n31 H21)
def tagtree_New_l0 (k : Nat) : tagtree_New_l0_t R
  | KR,0 => fun _ _ _ _ => none
  | KR,n + 1 => tagtree_New_l0_b (tagtree_New_p1 k) k KR (tagtree_New_l0 k KR n)
def tagtree_New_b (k : Nat) : tagtree_New_t R := fun n1 n2 H K =>
f0 n1 n2 fun n3 =>
bif (n3 != 0) then (K none n3 H)
 else (hal H [.slice none 0 0,.bool false,.bool false] fun p4 H5 =>
z0 (fun p8 n9 H10 =>
K p8 n9 H10) k n1 n2 p4 H5)
def tagtree_New (k : Nat) : tagtree_New_t R := tagtree_New_b (tagtree_valid k) (tagtree_New_l0 k) k
def x28C : Tab R := tcons 44 (x44a f0) <| fun _ _ _ _ => none
def x28s1 : PS := ⟨(.seq (.reg [0,1,7,37] []) (.cond (.seq (.reg [4,5] []) .leaf) .leaf)),[0,1,7],[.n,.n,.p],⟨[0,1,7],[],[4,5]⟩⟩
def x28c1 (g : tagtree_New_p1_u R) (H : Heap) (K : XK R) : Option R := g (kN .normal [0,1,7] [.n,.n,.p] K H) (kN .ret [4,5] [.p,.n] K H)
def x28a1 (f : tagtree_New_p1_t R) : Nat → List Value → Heap → XK R → Option R := jp x28s1 x28c1 f
def x28s0 : PS := ⟨(.node (.seq (.reg [0,1,7] (ms [0,0,2,6,14,0,0,0,0,384,896,2016,4064,8190,16383,32767,65535])) (.seq (.opq 1 x28s1.ls x28s1.out x28s1.t) (.reg [0,1,7] [])))),[0,1,7],[.n,.n,.p],⟨[],[],[4,5]⟩⟩
def x28c0 {T : Type} (g : tagtree_New_l0_q R T) (H : Heap) (K : XK R) : T := g (kH .ret [4,5] [.p,.n] K)
def x28a0 (f : tagtree_New_l0_t R) : Nat → List Value → Heap → XK R → Option R := jl x28s0 (L := tagtree_New_l0_t R) x28c0 pH f
def x28J (k : Nat) : JTab R := tcons 0 (x28a0 z0 k) <| tcons 1 (x28a1 z1 k) <| fun _ _ _ _ => none
def x28t : AT := (.seq (.reg [0,1] []) (.seq (.seq (.reg [0,1,6] []) (.seq (.reg [0,1,6,12] []) (.cond (.seq (.reg [4,5] []) .leaf) .leaf))) (.seq (.reg [0,1,7] []) (.node (.opq 0 x28s0.ls x28s0.out (.node x28s0.t))))))
def x28c (g : tagtree_New_u R) (H : Heap) (K : Value → Heap → Option R) : Option R := g H (rH [.p,.n] K)
def x28a (f : tagtree_New_t R) : List Value → Heap → (Value → Heap → Option R) → Option R := jf 2 [.n,.n] x28c f
variable {f0 z0 z1}
theorem x28e1 (k : Nat) (H : Heap) (K : XK R) : jE Try.prog An 45 (x28C f0) (x28J z0 z1 k) x28s1 (sel [1,1,1,0,0,0,1,0] (bd Try.f28)) H K = mapT (fun g => x28c1 g H K) x28s1.ts (tagtree_New_p1_b k) := by kernel_rfl
theorem x28e0 (k n : Nat) (H : Heap) (K : XK R) : lE Try.prog An 45 (x28C f0) (x28J z0 z1 k) x28s0 (sel [1,1,1,0,0] (bd Try.f28)) (x28a0 z0) n H K = mapT (fun g => pH g H) x28s0.ts (x28c0 (tagtree_New_l0_b z1 k) H K (x28c0 z0 H K n)) := by kernel_rfl
theorem x28e (k : Nat) (H : Heap) (K : Value → Heap → Option R) : fE Try.prog An (x28C f0) (x28J z0 z1 k) x28t Try.f28 [.n,.n] H K = mapT (fun g => x28c g H K) [.n,.n] (tagtree_New_b f0 z0 k) := by kernel_rfl
theorem x28S (R : Type) (k : Nat) : CSound Try.prog (x28C (R := R) (tagtree_valid k)) := csound_cons (x44cs R k) <| csound_nil
theorem x28j1 (R : Type) (k : Nat) : JS Try.prog 45 (x28a1 (tagtree_New_p1 (R := R) k) k) x28s1.ls x28s1.out (sel [1,1,1,0,0,0,1,0] (bd Try.f28)) := pj (x28S R k) (x28J (tagtree_New_l0 k) (tagtree_New_p1 k) k) (by kernel_rfl) (A := True) trivial (by kernel_rfl) (fun _ _ => .trans (x28e1 _ _ _) (by kernel_rfl))
theorem x28j0 (R : Type) (k : Nat) : JS Try.prog 45 (x28a0 (tagtree_New_l0 (R := R) k) k) x28s0.ls x28s0.out (.loop (sel [1,1,1,0,0] (bd Try.f28))) := lj (x28S R k) (x28J (tagtree_New_l0 k) (tagtree_New_p1 k) k) (by kernel_rfl) (A := JS Try.prog 45 (x28a1 (tagtree_New_p1 (R := R) k) k) x28s1.ls x28s1.out (sel [1,1,1,0,0,0,1,0] (bd Try.f28)) ∧ True) ⟨x28j1 R k,trivial⟩ (by kernel_rfl) (fun _ _ => by kernel_rfl) (fun _ _ _ => .trans (x28e0 _ _ _ _) (by kernel_rfl)) k
theorem x28cs (R : Type) (k : Nat) : ∀ args H K r,x28a (tagtree_New k) args H K = some (r : R) → ∃ v H',Tri Try.prog 28 args H v H' ∧ K v H' = some r := fj (x28S R k) (x28J (tagtree_New_l0 k) (tagtree_New_p1 k) k) Try.func28 (by kernel_rfl) (A := JS Try.prog 45 (x28a0 (tagtree_New_l0 (R := R) k) k) x28s0.ls x28s0.out (.loop (sel [1,1,1,0,0] (bd Try.f28))) ∧ True) ⟨x28j0 R k,trivial⟩ (by kernel_rfl) (fun _ _ => .trans (x28e _ _ _) (by kernel_rfl))
end
/-! ### pkthead_New: function 10 -/
abbrev pkthead_New_p0_u (R : Type) : Type := (Oa → Nat → Nat → Oa → Nat → Nat → Oa → Option R) → (Oa → Int → Option R) → Option R
abbrev pkthead_New_p0_t (R : Type) : Type := Oa → Nat → Nat → Oa → Nat → Nat → Oa → pkthead_New_p0_u R
abbrev pkthead_New_p2_u (R : Type) : Type := Heap → (Oa → Nat → Nat → Oa → Nat → Nat → Oa → Int → Int → Oa → Bool → Oa → Nat → Nat → Int → Int → Option R) → Option R
abbrev pkthead_New_p2_t (R : Type) : Type := Oa → Nat → Nat → Oa → Nat → Nat → Oa → Int → Int → Oa → Oa → Nat → Nat → Int → Int → pkthead_New_p2_u R
abbrev pkthead_New_p3_u (R : Type) : Type := Heap → (Oa → Nat → Nat → Oa → Nat → Nat → Oa → Int → Int → Oa → Bool → Bool → Oa → Nat → Nat → Int → Int → Option R) → Option R
abbrev pkthead_New_p3_t (R : Type) : Type := Oa → Nat → Nat → Oa → Nat → Nat → Oa → Int → Int → Oa → Bool → Oa → Nat → Nat → Int → Int → pkthead_New_p3_u R
abbrev pkthead_New_p4_u (R : Type) : Type := Heap → (Oa → Nat → Nat → Oa → Nat → Nat → Oa → Int → Oa → Oa → Nat → Nat → Int → Int → Option R) → (Oa → Int → Option R) → Option R
abbrev pkthead_New_p4_t (R : Type) : Type := Oa → Nat → Nat → Oa → Nat → Nat → Oa → Int → Int → Oa → Bool → Bool → Oa → Nat → Nat → Int → Int → pkthead_New_p4_u R
abbrev pkthead_New_l1_r (R : Type) : Type := Oa → Nat → Nat → Oa → Nat → Nat → Oa → Int → Oa → Nat → Nat → Int → Int → Heap → Option R
abbrev pkthead_New_l1_q (R T : Type) : Type := (Oa → Nat → Nat → Oa → Nat → Nat → Oa → Int → Heap → Option R) → (Oa → Int → Heap → Option R) → T
abbrev pkthead_New_l1_t (R : Type) : Type := pkthead_New_l1_q R (Nat → pkthead_New_l1_r R)
abbrev pkthead_New_p6_u (R : Type) : Type := Heap → (Oa → Nat → Nat → Oa → Int → Oa → Oa → Oa → Nat → Nat → Int → Int → Heap → Option R) → Option R
abbrev pkthead_New_p6_t (R : Type) : Type := Oa → Nat → Nat → Oa → Int → Oa → Oa → Oa → Nat → Nat → Int → Int → pkthead_New_p6_u R
abbrev pkthead_New_l7_r (R : Type) : Type := Oa → Nat → Nat → Oa → Int → Oa → Oa → Nat → Nat → Int → Int → Int → Int → Heap → Option R
abbrev pkthead_New_l7_q (R T : Type) : Type := (Oa → Nat → Nat → Oa → Oa → Nat → Nat → Int → Int → Heap → Option R) → T
abbrev pkthead_New_l7_t (R : Type) : Type := pkthead_New_l7_q R (Nat → pkthead_New_l7_r R)
abbrev pkthead_New_l5_r (R : Type) : Type := Oa → Nat → Nat → Oa → Oa → Nat → Nat → Int → Int → Heap → Option R
abbrev pkthead_New_l5_q (R T : Type) : Type := (Oa → Heap → Option R) → T
abbrev pkthead_New_l5_t (R : Type) : Type := pkthead_New_l5_q R (Nat → pkthead_New_l5_r R)
abbrev pkthead_New_u (R : Type) : Type := Heap → (Oa → Int → Heap → Option R) → Option R
abbrev pkthead_New_t (R : Type) : Type := Oa → Nat → Nat → Oa → Nat → Nat → Bool → Bool → Bool → Bool → Bool → pkthead_New_u R
section
variable {R : Type} (f0 : tagtree_New_t R) (z0 : pkthead_New_p0_t R) (z1 : pkthead_New_l1_t R) (z2 : pkthead_New_p2_t R) (z3 : pkthead_New_p3_t R) (z4 : pkthead_New_p4_t R) (z5 : pkthead_New_l5_t R) (z6 : pkthead_New_p6_t R) (z7 : pkthead_New_l7_t R)
def pkthead_New_p0_b (k : Nat) : pkthead_New_p0_t R := fun q1 l2 c3 q4 l5 c6 p7 KN KR =>
bif (((l2 : Nat) : Int) != ((l5 : Nat) : Int)) then (KR none 4)
 else (bif decide (((l2 : Nat) : Int) > 3) then (KR none 4)
 else (KN q1 l2 c3 q4 l5 c6 p7))
def pkthead_New_p0 (k : Nat) : pkthead_New_p0_t R := pkthead_New_p0_b k
def pkthead_New_p2_b (k : Nat) : pkthead_New_p2_t R := fun q1 l2 c3 q4 l5 c6 p7 n8 n9 p10 q11 l12 c13 n14 n15 H KN =>
hfad 0 p10 fun p16 =>
ldI .i64 H p16 fun n17 =>
bif (n17 == 0) then (hfad 1 p10 fun p18 =>
ldI .i64 H p18 fun n19 =>
KN q1 l2 c3 q4 l5 c6 p7 n8 n9 p10 (n19 == 0) q11 l12 c13 n14 n15)
 else (KN q1 l2 c3 q4 l5 c6 p7 n8 n9 p10 false q11 l12 c13 n14 n15)
def pkthead_New_p2 (k : Nat) : pkthead_New_p2_t R := pkthead_New_p2_b k
def pkthead_New_p3_b (k : Nat) : pkthead_New_p3_t R := fun q1 l2 c3 q4 l5 c6 p7 n8 n9 p10 t11 q12 l13 c14 n15 n16 H KN =>
hfad 0 p10 fun p17 =>
ldI .i64 H p17 fun n18 =>
bif decide (n18 ≥ 1) then (hfad 0 p10 fun p19 =>
ldI .i64 H p19 fun n20 =>
bif decide (n20 ≤ 4096) then (hfad 1 p10 fun p21 =>
ldI .i64 H p21 fun n22 =>
bif decide (n22 ≥ 1) then (hfad 1 p10 fun p23 =>
ldI .i64 H p23 fun n24 =>
KN q1 l2 c3 q4 l5 c6 p7 n8 n9 p10 t11 (decide (n24 ≤ 4096)) q12 l13 c14 n15 n16)
 else (KN q1 l2 c3 q4 l5 c6 p7 n8 n9 p10 t11 false q12 l13 c14 n15 n16))
 else (KN q1 l2 c3 q4 l5 c6 p7 n8 n9 p10 t11 false q12 l13 c14 n15 n16))
 else (KN q1 l2 c3 q4 l5 c6 p7 n8 n9 p10 t11 false q12 l13 c14 n15 n16)
def pkthead_New_p3 (k : Nat) : pkthead_New_p3_t R := pkthead_New_p3_b k
def pkthead_New_p4_b (k : Nat) : pkthead_New_p4_t R := fun q1 l2 c3 q4 l5 c6 p7 n8 n9 p10 t11 t12 q13 l14 c15 n16 n17 H KN KR =>
bif (!t11) then (bif (!t12) then (KR none 2)
 else (hidx q4 l5 n9 1 fun p18 =>
ldI .i64 H p18 fun n19 =>
bif decide (n19 < 0) then (KR none 2)
 else (hidx q4 l5 n9 1 fun p20 =>
ldI .i64 H p20 fun n21 =>
bif decide (n21 > 60) then (KR none 2)
 else (KN q1 l2 c3 q4 l5 c6 p7 n8 p10 q13 l14 c15 n16 n17))))
 else (hidx q4 l5 n9 1 fun p22 =>
ldI .i64 H p22 fun n23 =>
bif decide (n23 < 0) then (KR none 2)
 else (hidx q4 l5 n9 1 fun p24 =>
ldI .i64 H p24 fun n25 =>
bif decide (n25 > 60) then (KR none 2)
 else (KN q1 l2 c3 q4 l5 c6 p7 n8 p10 q13 l14 c15 n16 n17)))
def pkthead_New_p4 (k : Nat) : pkthead_New_p4_t R := pkthead_New_p4_b k
def pkthead_New_l1_b (k : Nat) : pkthead_New_l1_q R (pkthead_New_l1_r R → pkthead_New_l1_r R) := fun KE0 KR rec q1 l2 c3 q4 l5 c6 p7 n8 q9 l10 c11 n12 n13 H =>
bif decide (n13 < n12) then (hidx q9 l10 n13 2 fun p14 =>
ldI .i64 H (pad p14 0) fun n15 =>
ldI .i64 H (pad p14 1) fun n16 =>
hal H [.int .i64 0,.int .i64 0] fun p17 H18 =>
hst H18 p17 [.int .i64 n15,.int .i64 n16] fun H19 =>
z2 q1 l2 c3 q4 l5 c6 p7 n8 n13 p17 q9 l10 c11 n12 n13 H19 (fun q36 l37 c38 q39 l40 c41 p42 n43 n44 p45 t46 q47 l48 c49 n50 n51 =>
z3 q36 l37 c38 q39 l40 c41 p42 n43 n44 p45 t46 q47 l48 c49 n50 n51 H19 (fun q69 l70 c71 q72 l73 c74 p75 n76 n77 p78 t79 t80 q81 l82 c83 n84 n85 =>
z4 q69 l70 c71 q72 l73 c74 p75 n76 n77 p78 t79 t80 q81 l82 c83 n84 n85 H19 (fun q102 l103 c104 q105 l106 c107 p108 n109 p110 q111 l112 c113 n114 n115 =>
hfad 0 p110 fun p116 =>
ldI .i64 H19 p116 fun n117 =>
hfad 1 p110 fun p118 =>
ldI .i64 H19 p118 fun n119 =>
rec q102 l103 c104 q105 l106 c107 p108 (IntKind.wrap .i64 (n109 + (IntKind.wrap .i64 (n117 * n119)))) q111 l112 c113 n114 (IntKind.wrap .i64 (n115 + 1)) H19) (fun p120 n121 =>
KR p120 n121 H19))))
 else (KE0 q1 l2 c3 q4 l5 c6 p7 n8 H)
def pkthead_New_l1 (k : Nat) : pkthead_New_l1_t R
  | KE0,KR,0 => fun _ _ _ _ _ _ _ _ _ _ _ _ _ _ => none
  | KE0,KR,n + 1 => pkthead_New_l1_b (pkthead_New_p2 k) (pkthead_New_p3 k) (pkthead_New_p4 k) k KE0 KR (pkthead_New_l1 k KE0 KR n)
def pkthead_New_p6_b (k : Nat) : pkthead_New_p6_t R := fun q1 l2 c3 p4 n5 p6 p7 q8 l9 c10 n11 n12 H KN =>
hfad 0 p6 fun p13 =>
ldI .i64 H p13 fun n14 =>
bif decide (n14 > 0) then (hfad 0 p6 fun p15 =>
ldI .i64 H p15 fun n16 =>
hfad 1 p6 fun p17 =>
ldI .i64 H p17 fun n18 =>
f0 n16 n18 H fun p19 n20 H21 =>
hfad 1 p7 fun p22 =>
hst1 H21 p22 (.pointer p19) fun H23 =>
hfad 0 p6 fun p24 =>
ldI .i64 H23 p24 fun n25 =>
hfad 1 p6 fun p26 =>
ldI .i64 H23 p26 fun n27 =>
f0 n25 n27 H23 fun p28 n29 H30 =>
hfad 2 p7 fun p31 =>
hst1 H30 p31 (.pointer p28) fun H32 =>
KN q1 l2 c3 p4 n5 p6 p7 q8 l9 c10 n11 n12 H32)
 else (KN q1 l2 c3 p4 n5 p6 p7 q8 l9 c10 n11 n12 H)
def pkthead_New_p6 (k : Nat) : pkthead_New_p6_t R := pkthead_New_p6_b (tagtree_New k) k
def pkthead_New_l7_b (k : Nat) : pkthead_New_l7_q R (pkthead_New_l7_r R → pkthead_New_l7_r R) := fun KE4 rec q1 l2 c3 p4 n5 p6 q7 l8 c9 n10 n11 n12 n13 H =>
bif decide (n13 < n12) then (hnil p4 fun p14 =>
hfad 9 p14 fun p15 =>
ldL H p15 fun q16 l17 c18 =>
hfad 0 p6 fun p19 =>
ldI .i64 H p19 fun n20 =>
hbin .rem .i64 n13 n20 fun n21 =>
hfad 0 p6 fun p22 =>
ldI .i64 H p22 fun n23 =>
hbin .quo .i64 n13 n23 fun n24 =>
hal H [.int .i64 n5,.int .i64 n21,.int .i64 n24,.bool false,.int .i64 0,.int .i64 0,.int .i64 0,.int .i64 3,.int .i64 0,.int .i64 0] fun p25 H26 =>
happS 10 80 H26 q16 l17 c18 p25 1 fun q27 l28 c29 H30 =>
hnil p4 fun p31 =>
hfad 9 p31 fun p32 =>
hst1 H30 p32 (.slice q27 l28 c29) fun H33 =>
rec q1 l2 c3 p4 n5 p6 q7 l8 c9 n10 n11 n12 (IntKind.wrap .i64 (n13 + 1)) H33)
 else (KE4 q1 l2 c3 p4 q7 l8 c9 n10 n11 H)
def pkthead_New_l7 (k : Nat) : pkthead_New_l7_t R
  | KE4,0 => fun _ _ _ _ _ _ _ _ _ _ _ _ _ _ => none
  | KE4,n + 1 => pkthead_New_l7_b k KE4 (pkthead_New_l7 k KE4 n)
def pkthead_New_l5_b (k : Nat) : pkthead_New_l5_q R (pkthead_New_l5_r R → pkthead_New_l5_r R) := fun KE2 rec q1 l2 c3 p4 q5 l6 c7 n8 n9 H =>
bif decide (n9 < n8) then (hidx q5 l6 n9 2 fun p10 =>
ldI .i64 H (pad p10 0) fun n11 =>
ldI .i64 H (pad p10 1) fun n12 =>
hal H [.int .i64 0,.int .i64 0] fun p13 H14 =>
hst H14 p13 [.int .i64 n11,.int .i64 n12] fun H15 =>
hidx q1 l2 n9 1 fun p16 =>
ldI .i64 H15 p16 fun n17 =>
hal H15 [.int .i64 0,.pointer none,.pointer none] fun p18 H19 =>
hst H19 p18 [.int .i64 n17,.pointer none,.pointer none] fun H20 =>
z6 q1 l2 c3 p4 n9 p13 p18 q5 l6 c7 n8 n9 H20 (fun q33 l34 c35 p36 n37 p38 p39 q40 l41 c42 n43 n44 H45 =>
hnil p36 fun p46 =>
hfad 8 p46 fun p47 =>
ldL H45 p47 fun q48 l49 c50 =>
ldI .i64 H45 (pad p39 0) fun n51 =>
ldP H45 (pad p39 1) fun p52 =>
ldP H45 (pad p39 2) fun p53 =>
hal H45 [.int .i64 n51,.pointer p52,.pointer p53] fun p54 H55 =>
happS 3 24 H55 q48 l49 c50 p54 1 fun q56 l57 c58 H59 =>
hnil p36 fun p60 =>
hfad 8 p60 fun p61 =>
hst1 H59 p61 (.slice q56 l57 c58) fun H62 =>
hfad 0 p38 fun p63 =>
ldI .i64 H62 p63 fun n64 =>
hfad 1 p38 fun p65 =>
ldI .i64 H62 p65 fun n66 =>
z7 (fun q76 l77 c78 p79 q80 l81 c82 n83 n84 H85 =>
rec q76 l77 c78 p79 q80 l81 c82 n83 (IntKind.wrap .i64 (n84 + 1)) H85) k q33 l34 c35 p36 n37 p38 q40 l41 c42 n43 n44 (IntKind.wrap .i64 (n64 * n66)) 0 H62))
 else (KE2 p4 H)
def pkthead_New_l5 (k : Nat) : pkthead_New_l5_t R
  | KE2,0 => fun _ _ _ _ _ _ _ _ _ _ => none
  | KE2,n + 1 => pkthead_New_l5_b (pkthead_New_p6 k) (pkthead_New_l7 k) k KE2 (pkthead_New_l5 k KE2 n)
def pkthead_New_b (k : Nat) : pkthead_New_t R := fun q1 l2 c3 q4 l5 c6 t7 t8 t9 t10 t11 H K =>
hal H [.bool t7,.bool t8,.bool t9,.bool t10,.bool t11] fun p12 H13 =>
z0 q1 l2 c3 q4 l5 c6 p12 (fun q23 l24 c25 q26 l27 c28 p29 =>
z1 (fun q40 l41 c42 q43 l44 c45 p46 n47 H48 =>
bif decide (n47 > 65536) then (K none 5 H48)
 else (ldB H48 (pad p46 0) fun t49 =>
ldB H48 (pad p46 1) fun t50 =>
ldB H48 (pad p46 2) fun t51 =>
ldB H48 (pad p46 3) fun t52 =>
ldB H48 (pad p46 4) fun t53 =>
hal H48 [.bool true,.bool false,.bool false,.bool t49,.bool t50,.bool t51,.bool t52,.bool t53,.slice none 0 0,.slice none 0 0,.int .i64 0] fun p54 H55 =>
z5 (fun p57 H58 =>
K p57 0 H58) k q43 l44 c45 p54 q40 l41 c42 ((l41 : Nat) : Int) 0 H55)) (fun p59 n60 H61 =>
K p59 n60 H61) k q23 l24 c25 q26 l27 c28 p29 0 q23 l24 c25 ((l24 : Nat) : Int) 0 H13) (fun p62 n63 =>
K p62 n63 H13)
def pkthead_New (k : Nat) : pkthead_New_t R := pkthead_New_b (pkthead_New_p0 k) (pkthead_New_l1 k) (pkthead_New_l5 k) k
def x10C : Tab R := tcons 28 (x28a f0) <| fun _ _ _ _ => none
def x10s7 : PS := ⟨(.seq (.reg [1,13,14,15,94,95,96,141,142,143] []) (.seq (.cond .leaf .leaf) (.seq (.node (.seq (.reg [1,13,14,15,17,94,95,96,141,142] []) (.reg [1,13,14,15,94,95,96,141,142] (ms [0,0,2,6,14,0,0,0,128,448,0,0,2048,7168,16352,32736,65534,131071,262143,524287])))) (.reg [1,13,14,15,94,95,96,141,142] [])))),[1,13,14,15,94,95,96,141,142],[.l,.p,.n,.p,.l,.n,.n,.n,.n],⟨[],[(4,[1,13,94,95,96])],[]⟩⟩
def x10c7 {T : Type} (g : pkthead_New_l7_q R T) (H : Heap) (K : XK R) : T := g (kH (.exit 4) [1,13,94,95,96] [.l,.p,.l,.n,.n] K)
def x10a7 (f : pkthead_New_l7_t R) : Nat → List Value → Heap → XK R → Option R := jl x10s7 (L := pkthead_New_l7_t R) x10c7 pH f
def x10s6 : PS := ⟨(.seq (.reg [1,13,14,15,16,94,95,96,108] []) (.cond (.seq (.reg [1,13,14,15,16,94,95,96] []) (.reg [1,13,14,15,16,94,95,96] [])) .leaf)),[1,13,14,15,16,94,95,96],[.l,.p,.n,.p,.p,.l,.n,.n],⟨[1,13,14,15,16,94,95,96],[],[]⟩⟩
def x10c6 (g : pkthead_New_p6_u R) (H : Heap) (K : XK R) : Option R := g H (kH .normal [1,13,14,15,16,94,95,96] [.l,.p,.n,.p,.p,.l,.n,.n] K)
def x10a6 (f : pkthead_New_p6_t R) : Nat → List Value → Heap → XK R → Option R := jp x10s6 x10c6 f
def x10s5 : PS := ⟨(.seq (.reg [1,13,94,95,96,97] []) (.seq (.cond .leaf .leaf) (.seq (.node (.seq (.reg [1,13,14,15,94,95,96] []) (.seq (.reg [1,13,14,15,16,94,95,96] []) (.seq (.opq 6 x10s6.ls x10s6.out x10s6.t) (.seq (.reg [1,13,14,15,94,95,96] (ms [0,0,2,6,14,0,32,126,255,511,1023])) (.seq (.reg [1,13,14,15,94,95,96,141,142] []) (.node (.opq 7 x10s7.ls x10s7.out (.node x10s7.t))))))))) (.reg [1,13,94,95,96] [])))),[1,13,94,95,96],[.l,.p,.l,.n,.n],⟨[],[(2,[13])],[]⟩⟩
def x10c5 {T : Type} (g : pkthead_New_l5_q R T) (H : Heap) (K : XK R) : T := g (kH (.exit 2) [13] [.p] K)
def x10a5 (f : pkthead_New_l5_t R) : Nat → List Value → Heap → XK R → Option R := jl x10s5 (L := pkthead_New_l5_t R) x10c5 pH f
def x10s4 : PS := ⟨(.seq (.reg [0,1,5,8,10,28,29,30,80] []) (.cond (.seq (.reg [6,7] []) .leaf) .leaf)),[0,1,5,8,9,10,11,12,28,29,30],[.l,.l,.p,.n,.n,.p,.b,.b,.l,.n,.n],⟨[0,1,5,8,10,28,29,30],[],[6,7]⟩⟩
def x10c4 (g : pkthead_New_p4_u R) (H : Heap) (K : XK R) : Option R := g H (kN .normal [0,1,5,8,10,28,29,30] [.l,.l,.p,.n,.p,.l,.n,.n] K H) (kN .ret [6,7] [.p,.n] K H)
def x10a4 (f : pkthead_New_p4_t R) : Nat → List Value → Heap → XK R → Option R := jp x10s4 x10c4 f
def x10s3 : PS := ⟨(.reg [0,1,5,8,9,10,11,12,28,29,30] []),[0,1,5,8,9,10,11,28,29,30],[.l,.l,.p,.n,.n,.p,.b,.l,.n,.n],⟨[0,1,5,8,9,10,11,12,28,29,30],[],[]⟩⟩
def x10c3 (g : pkthead_New_p3_u R) (H : Heap) (K : XK R) : Option R := g H (kN .normal [0,1,5,8,9,10,11,12,28,29,30] [.l,.l,.p,.n,.n,.p,.b,.b,.l,.n,.n] K H)
def x10a3 (f : pkthead_New_p3_t R) : Nat → List Value → Heap → XK R → Option R := jp x10s3 x10c3 f
def x10s2 : PS := ⟨(.reg [0,1,5,8,9,10,11,28,29,30] []),[0,1,5,8,9,10,28,29,30],[.l,.l,.p,.n,.n,.p,.l,.n,.n],⟨[0,1,5,8,9,10,11,28,29,30],[],[]⟩⟩
def x10c2 (g : pkthead_New_p2_u R) (H : Heap) (K : XK R) : Option R := g H (kN .normal [0,1,5,8,9,10,11,28,29,30] [.l,.l,.p,.n,.n,.p,.b,.l,.n,.n] K H)
def x10a2 (f : pkthead_New_p2_t R) : Nat → List Value → Heap → XK R → Option R := jp x10s2 x10c2 f
def x10s1 : PS := ⟨(.seq (.reg [0,1,5,8,28,29,30,31] []) (.seq (.cond .leaf .leaf) (.seq (.node (.seq (.reg [0,1,5,8,9,10,28,29,30] []) (.seq (.opq 2 x10s2.ls x10s2.out x10s2.t) (.seq (.opq 3 x10s3.ls x10s3.out x10s3.t) (.seq (.opq 4 x10s4.ls x10s4.out x10s4.t) (.reg [0,1,5,8,28,29,30] [])))))) (.reg [0,1,5,8,28,29,30] [])))),[0,1,5,8,28,29,30],[.l,.l,.p,.n,.l,.n,.n],⟨[],[(0,[0,1,5,8])],[6,7]⟩⟩
def x10c1 {T : Type} (g : pkthead_New_l1_q R T) (H : Heap) (K : XK R) : T := g (kH (.exit 0) [0,1,5,8] [.l,.l,.p,.n] K) (kH .ret [6,7] [.p,.n] K)
def x10a1 (f : pkthead_New_l1_t R) : Nat → List Value → Heap → XK R → Option R := jl x10s1 (L := pkthead_New_l1_t R) x10c1 pH f
def x10s0 : PS := ⟨(.seq (.reg [0,1,5,27] []) (.cond (.seq (.reg [6,7] []) .leaf) .leaf)),[0,1,5],[.l,.l,.p],⟨[0,1,5],[],[6,7]⟩⟩
def x10c0 (g : pkthead_New_p0_u R) (H : Heap) (K : XK R) : Option R := g (kN .normal [0,1,5] [.l,.l,.p] K H) (kN .ret [6,7] [.p,.n] K H)
def x10a0 (f : pkthead_New_p0_t R) : Nat → List Value → Heap → XK R → Option R := jp x10s0 x10c0 f
def x10J (k : Nat) : JTab R := tcons 0 (x10a0 z0 k) <| tcons 1 (x10a1 z1 k) <| tcons 2 (x10a2 z2 k) <| tcons 3 (x10a3 z3 k) <| tcons 4 (x10a4 z4 k) <| tcons 5 (x10a5 z5 k) <| tcons 6 (x10a6 z6 k) <| tcons 7 (x10a7 z7 k) <| fun _ _ _ _ => none
def x10t : AT := (.seq (.reg [0,1,5] []) (.seq (.opq 0 x10s0.ls x10s0.out x10s0.t) (.seq (.reg [0,1,5,8] []) (.seq (.seq (.reg [0,1,5,8,28,29,30] []) (.node (.opq 1 x10s1.ls x10s1.out (.node x10s1.t)))) (.seq (.seq (.reg [0,1,5,90] []) (.cond (.seq (.reg [6,7] []) .leaf) .leaf)) (.seq (.reg [0,1,13] []) (.seq (.seq (.reg [1,13,94,95,96] []) (.node (.opq 5 x10s5.ls x10s5.out (.node x10s5.t)))) (.seq (.reg [6,7] []) .leaf))))))))
def x10c (g : pkthead_New_u R) (H : Heap) (K : Value → Heap → Option R) : Option R := g H (rH [.p,.n] K)
def x10a (f : pkthead_New_t R) : List Value → Heap → (Value → Heap → Option R) → Option R := jf 3 [.l,.l,(.a 5),.b,.b,.b,.b,.b] x10c f
variable {f0 z0 z1 z2 z3 z4 z5 z6 z7}
theorem x10e7 (k n : Nat) (H : Heap) (K : XK R) : lE Try.prog An 167 (x10C f0) (x10J z0 z1 z2 z3 z4 z5 z6 z7 k) x10s7 (sel [1,1,1,1,1,1,0,1,0,0,1,1,0,0,1,1,1,1,1,0,0] (bd Try.f10)) (x10a7 z7) n H K = mapT (fun g => pH g H) x10s7.ts (x10c7 (pkthead_New_l7_b k) H K (x10c7 z7 H K n)) := by kernel_rfl
theorem x10e6 (k : Nat) (H : Heap) (K : XK R) : jE Try.prog An 167 (x10C f0) (x10J z0 z1 z2 z3 z4 z5 z6 z7 k) x10s6 (sel [1,1,1,1,1,1,0,1,0,0,1,1,0,0,1,1,0] (bd Try.f10)) H K = mapT (fun g => x10c6 g H K) x10s6.ts (pkthead_New_p6_b f0 k) := by kernel_rfl
theorem x10e5 (k n : Nat) (H : Heap) (K : XK R) : lE Try.prog An 167 (x10C f0) (x10J z0 z1 z2 z3 z4 z5 z6 z7 k) x10s5 (sel [1,1,1,1,1,1,0,1,0,0] (bd Try.f10)) (x10a5 z5) n H K = mapT (fun g => pH g H) x10s5.ts (x10c5 (pkthead_New_l5_b z6 z7 k) H K (x10c5 z5 H K n)) := by kernel_rfl
theorem x10e4 (k : Nat) (H : Heap) (K : XK R) : jE Try.prog An 167 (x10C f0) (x10J z0 z1 z2 z3 z4 z5 z6 z7 k) x10s4 (sel [1,1,1,0,1,0,0,1,1,0,0,1,1,1,0] (bd Try.f10)) H K = mapT (fun g => x10c4 g H K) x10s4.ts (pkthead_New_p4_b k) := by kernel_rfl
theorem x10e3 (k : Nat) (H : Heap) (K : XK R) : jE Try.prog An 167 (x10C f0) (x10J z0 z1 z2 z3 z4 z5 z6 z7 k) x10s3 (sel [1,1,1,0,1,0,0,1,1,0,0,1,1,0] (bd Try.f10)) H K = mapT (fun g => x10c3 g H K) x10s3.ts (pkthead_New_p3_b k) := by kernel_rfl
theorem x10e2 (k : Nat) (H : Heap) (K : XK R) : jE Try.prog An 167 (x10C f0) (x10J z0 z1 z2 z3 z4 z5 z6 z7 k) x10s2 (sel [1,1,1,0,1,0,0,1,1,0,0,1,0] (bd Try.f10)) H K = mapT (fun g => x10c2 g H K) x10s2.ts (pkthead_New_p2_b k) := by kernel_rfl
theorem x10e1 (k n : Nat) (H : Heap) (K : XK R) : lE Try.prog An 167 (x10C f0) (x10J z0 z1 z2 z3 z4 z5 z6 z7 k) x10s1 (sel [1,1,1,0,1,0,0] (bd Try.f10)) (x10a1 z1) n H K = mapT (fun g => pH g H) x10s1.ts (x10c1 (pkthead_New_l1_b z2 z3 z4 k) H K (x10c1 z1 H K n)) := by kernel_rfl
theorem x10e0 (k : Nat) (H : Heap) (K : XK R) : jE Try.prog An 167 (x10C f0) (x10J z0 z1 z2 z3 z4 z5 z6 z7 k) x10s0 (sel [1,0] (bd Try.f10)) H K = mapT (fun g => x10c0 g H K) x10s0.ts (pkthead_New_p0_b k) := by kernel_rfl
theorem x10e (k : Nat) (H : Heap) (K : Value → Heap → Option R) : fE Try.prog An (x10C f0) (x10J z0 z1 z2 z3 z4 z5 z6 z7 k) x10t Try.f10 [.l,.l,(.a 5),.b,.b,.b,.b,.b] H K = mapT (fun g => x10c g H K) [.l,.l,(.a 5),.b,.b,.b,.b,.b] (pkthead_New_b z0 z1 z5 k) := by kernel_rfl
theorem x10S (R : Type) (k : Nat) : CSound Try.prog (x10C (R := R) (tagtree_New k)) := csound_cons (x28cs R k) <| csound_nil
theorem x10j7 (R : Type) (k : Nat) : JS Try.prog 167 (x10a7 (pkthead_New_l7 (R := R) k) k) x10s7.ls x10s7.out (.loop (sel [1,1,1,1,1,1,0,1,0,0,1,1,0,0,1,1,1,1,1,0,0] (bd Try.f10))) := lj (x10S R k) (x10J (pkthead_New_p0 k) (pkthead_New_l1 k) (pkthead_New_p2 k) (pkthead_New_p3 k) (pkthead_New_p4 k) (pkthead_New_l5 k) (pkthead_New_p6 k) (pkthead_New_l7 k) k) (by kernel_rfl) (A := True) trivial (by kernel_rfl) (fun _ _ => by kernel_rfl) (fun _ _ _ => .trans (x10e7 _ _ _ _) (by kernel_rfl)) k
theorem x10j6 (R : Type) (k : Nat) : JS Try.prog 167 (x10a6 (pkthead_New_p6 (R := R) k) k) x10s6.ls x10s6.out (sel [1,1,1,1,1,1,0,1,0,0,1,1,0,0,1,1,0] (bd Try.f10)) := pj (x10S R k) (x10J (pkthead_New_p0 k) (pkthead_New_l1 k) (pkthead_New_p2 k) (pkthead_New_p3 k) (pkthead_New_p4 k) (pkthead_New_l5 k) (pkthead_New_p6 k) (pkthead_New_l7 k) k) (by kernel_rfl) (A := True) trivial (by kernel_rfl) (fun _ _ => .trans (x10e6 _ _ _) (by kernel_rfl))
theorem x10j5 (R : Type) (k : Nat) : JS Try.prog 167 (x10a5 (pkthead_New_l5 (R := R) k) k) x10s5.ls x10s5.out (.loop (sel [1,1,1,1,1,1,0,1,0,0] (bd Try.f10))) := lj (x10S R k) (x10J (pkthead_New_p0 k) (pkthead_New_l1 k) (pkthead_New_p2 k) (pkthead_New_p3 k) (pkthead_New_p4 k) (pkthead_New_l5 k) (pkthead_New_p6 k) (pkthead_New_l7 k) k) (by kernel_rfl) (A := JS Try.prog 167 (x10a6 (pkthead_New_p6 (R := R) k) k) x10s6.ls x10s6.out (sel [1,1,1,1,1,1,0,1,0,0,1,1,0,0,1,1,0] (bd Try.f10)) ∧ JS Try.prog 167 (x10a7 (pkthead_New_l7 (R := R) k) k) x10s7.ls x10s7.out (.loop (sel [1,1,1,1,1,1,0,1,0,0,1,1,0,0,1,1,1,1,1,0,0] (bd Try.f10))) ∧ True) ⟨x10j6 R k,⟨x10j7 R k,trivial⟩⟩ (by kernel_rfl) (fun _ _ => by kernel_rfl) (fun _ _ _ => .trans (x10e5 _ _ _ _) (by kernel_rfl)) k
theorem x10j4 (R : Type) (k : Nat) : JS Try.prog 167 (x10a4 (pkthead_New_p4 (R := R) k) k) x10s4.ls x10s4.out (sel [1,1,1,0,1,0,0,1,1,0,0,1,1,1,0] (bd Try.f10)) := pj (x10S R k) (x10J (pkthead_New_p0 k) (pkthead_New_l1 k) (pkthead_New_p2 k) (pkthead_New_p3 k) (pkthead_New_p4 k) (pkthead_New_l5 k) (pkthead_New_p6 k) (pkthead_New_l7 k) k) (by kernel_rfl) (A := True) trivial (by kernel_rfl) (fun _ _ => .trans (x10e4 _ _ _) (by kernel_rfl))
theorem x10j3 (R : Type) (k : Nat) : JS Try.prog 167 (x10a3 (pkthead_New_p3 (R := R) k) k) x10s3.ls x10s3.out (sel [1,1,1,0,1,0,0,1,1,0,0,1,1,0] (bd Try.f10)) := pj (x10S R k) (x10J (pkthead_New_p0 k) (pkthead_New_l1 k) (pkthead_New_p2 k) (pkthead_New_p3 k) (pkthead_New_p4 k) (pkthead_New_l5 k) (pkthead_New_p6 k) (pkthead_New_l7 k) k) (by kernel_rfl) (A := True) trivial (by kernel_rfl) (fun _ _ => .trans (x10e3 _ _ _) (by kernel_rfl))
theorem x10j2 (R : Type) (k : Nat) : JS Try.prog 167 (x10a2 (pkthead_New_p2 (R := R) k) k) x10s2.ls x10s2.out (sel [1,1,1,0,1,0,0,1,1,0,0,1,0] (bd Try.f10)) := pj (x10S R k) (x10J (pkthead_New_p0 k) (pkthead_New_l1 k) (pkthead_New_p2 k) (pkthead_New_p3 k) (pkthead_New_p4 k) (pkthead_New_l5 k) (pkthead_New_p6 k) (pkthead_New_l7 k) k) (by kernel_rfl) (A := True) trivial (by kernel_rfl) (fun _ _ => .trans (x10e2 _ _ _) (by kernel_rfl))
theorem x10j1 (R : Type) (k : Nat) : JS Try.prog 167 (x10a1 (pkthead_New_l1 (R := R) k) k) x10s1.ls x10s1.out (.loop (sel [1,1,1,0,1,0,0] (bd Try.f10))) := lj (x10S R k) (x10J (pkthead_New_p0 k) (pkthead_New_l1 k) (pkthead_New_p2 k) (pkthead_New_p3 k) (pkthead_New_p4 k) (pkthead_New_l5 k) (pkthead_New_p6 k) (pkthead_New_l7 k) k) (by kernel_rfl) (A := JS Try.prog 167 (x10a2 (pkthead_New_p2 (R := R) k) k) x10s2.ls x10s2.out (sel [1,1,1,0,1,0,0,1,1,0,0,1,0] (bd Try.f10)) ∧ JS Try.prog 167 (x10a3 (pkthead_New_p3 (R := R) k) k) x10s3.ls x10s3.out (sel [1,1,1,0,1,0,0,1,1,0,0,1,1,0] (bd Try.f10)) ∧ JS Try.prog 167 (x10a4 (pkthead_New_p4 (R := R) k) k) x10s4.ls x10s4.out (sel [1,1,1,0,1,0,0,1,1,0,0,1,1,1,0] (bd Try.f10)) ∧ True) ⟨x10j2 R k,⟨x10j3 R k,⟨x10j4 R k,trivial⟩⟩⟩ (by kernel_rfl) (fun _ _ => by kernel_rfl) (fun _ _ _ => .trans (x10e1 _ _ _ _) (by kernel_rfl)) k
theorem x10j0 (R : Type) (k : Nat) : JS Try.prog 167 (x10a0 (pkthead_New_p0 (R := R) k) k) x10s0.ls x10s0.out (sel [1,0] (bd Try.f10)) := pj (x10S R k) (x10J (pkthead_New_p0 k) (pkthead_New_l1 k) (pkthead_New_p2 k) (pkthead_New_p3 k) (pkthead_New_p4 k) (pkthead_New_l5 k) (pkthead_New_p6 k) (pkthead_New_l7 k) k) (by kernel_rfl) (A := True) trivial (by kernel_rfl) (fun _ _ => .trans (x10e0 _ _ _) (by kernel_rfl))
theorem x10cs (R : Type) (k : Nat) : ∀ args H K r,x10a (pkthead_New k) args H K = some (r : R) → ∃ v H',Tri Try.prog 10 args H v H' ∧ K v H' = some r := fj (x10S R k) (x10J (pkthead_New_p0 k) (pkthead_New_l1 k) (pkthead_New_p2 k) (pkthead_New_p3 k) (pkthead_New_p4 k) (pkthead_New_l5 k) (pkthead_New_p6 k) (pkthead_New_l7 k) k) Try.func10 (by kernel_rfl) (A := JS Try.prog 167 (x10a0 (pkthead_New_p0 (R := R) k) k) x10s0.ls x10s0.out (sel [1,0] (bd Try.f10)) ∧ JS Try.prog 167 (x10a1 (pkthead_New_l1 (R := R) k) k) x10s1.ls x10s1.out (.loop (sel [1,1,1,0,1,0,0] (bd Try.f10))) ∧ JS Try.prog 167 (x10a5 (pkthead_New_l5 (R := R) k) k) x10s5.ls x10s5.out (.loop (sel [1,1,1,1,1,1,0,1,0,0] (bd Try.f10))) ∧ True) ⟨x10j0 R k,⟨x10j1 R k,⟨x10j5 R k,trivial⟩⟩⟩ (by kernel_rfl) (fun _ _ => .trans (x10e _ _ _) (by kernel_rfl))
end
/-! ### R10_New: function 29 -/
abbrev R10_New_p0_u (R : Type) : Type := (Int → Int → Option R) → (Oa → Int → Option R) → Option R
abbrev R10_New_p0_t (R : Type) : Type := Int → Int → R10_New_p0_u R
abbrev R10_New_p1_u (R : Type) : Type := (Int → Int → Option R) → (Oa → Int → Option R) → Option R
abbrev R10_New_p1_t (R : Type) : Type := Int → Int → R10_New_p1_u R
abbrev R10_New_l2_r (R : Type) : Type := Int → Int → Int → Int → Int → Option R
abbrev R10_New_l2_q (R T : Type) : Type := (Int → Int → Int → Option R) → T
abbrev R10_New_l2_t (R : Type) : Type := R10_New_l2_q R (Nat → R10_New_l2_r R)
abbrev R10_New_u (R : Type) : Type := Heap → (Oa → Int → Heap → Option R) → Option R
abbrev R10_New_t (R : Type) : Type := Int → Int → R10_New_u R
section
variable {R : Type} (z0 : R10_New_p0_t R) (z1 : R10_New_p1_t R) (z2 : R10_New_l2_t R)
def R10_New_p0_b (k : Nat) : R10_New_p0_t R := fun n1 n2 KN KR =>
bif decide (n1 < 1) then (KR none 2)
 else (bif decide (n2 < 1) then (KR none 2)
 else (KN n1 n2))
def R10_New_p0 (k : Nat) : R10_New_p0_t R := R10_New_p0_b k
def R10_New_p1_b (k : Nat) : R10_New_p1_t R := fun n1 n2 KN KR =>
bif decide (n1 > 65536) then (KR none 5)
 else (bif decide (n2 > 65536) then (KR none 5)
 else (bif decide ((IntKind.wrap .i64 (n1 * n2)) > 65536) then (KR none 5)
 else (KN n1 n2)))
def R10_New_p1 (k : Nat) : R10_New_p1_t R := R10_New_p1_b k
def R10_New_l2_b (k : Nat) : R10_New_l2_q R (R10_New_l2_r R → R10_New_l2_r R) := fun KE0 rec n1 n2 n3 n4 n5 =>
bif decide ((IntKind.wrap .i64 (n4 * n5)) > 1) then (rec n1 n2 (IntKind.wrap .i64 (n3 + (IntKind.wrap .i64 ((IntKind.wrap .i64 (Int.tdiv (IntKind.wrap .i64 (n4 + 1)) 2)) * (IntKind.wrap .i64 (Int.tdiv (IntKind.wrap .i64 (n5 + 1)) 2)))))) (IntKind.wrap .i64 (Int.tdiv (IntKind.wrap .i64 (n4 + 1)) 2)) (IntKind.wrap .i64 (Int.tdiv (IntKind.wrap .i64 (n5 + 1)) 2)))
 else (KE0 n1 n2 n3)
def R10_New_l2 (k : Nat) : R10_New_l2_t R
  | KE0,0 => fun _ _ _ _ _ => none
  | KE0,n + 1 => R10_New_l2_b k KE0 (R10_New_l2 k KE0 n)
def R10_New_b (k : Nat) : R10_New_t R := fun n1 n2 H K =>
z0 n1 n2 (fun n7 n8 =>
z1 n7 n8 (fun n13 n14 =>
z2 (fun n18 n19 n20 =>
hmk [.int .i64 0,.int .i64 0,.bool false] 24 H n20 n20 fun q21 l22 c23 H24 =>
hal H24 [.bool true,.int .i64 n18,.int .i64 n19,.slice q21 l22 c23,.bool false,.bool false] fun p25 H26 =>
K p25 0 H26) k n13 n14 (IntKind.wrap .i64 (n13 * n14)) n13 n14) (fun p27 n28 =>
K p27 n28 H)) (fun p29 n30 =>
K p29 n30 H)
def R10_New (k : Nat) : R10_New_t R := R10_New_b (R10_New_p0 k) (R10_New_p1 k) (R10_New_l2 k) k
def x29C : Tab R := fun _ _ _ _ => none
def x29s2 : PS := ⟨(.seq (.seq (.reg [0,1,6,7,8,35] []) (.cond .leaf .leaf)) (.node (.seq (.reg [0,1,6,7,8] []) (.reg [0,1,6,7,8] [])))),[0,1,6,7,8],[.n,.n,.n,.n,.n],⟨[],[(0,[0,1,6])],[]⟩⟩
def x29c2 {T : Type} (g : R10_New_l2_q R T) (H : Heap) (K : XK R) : T := g (kN (.exit 0) [0,1,6] [.n,.n,.n] K H)
def x29a2 (f : R10_New_l2_t R) : Nat → List Value → Heap → XK R → Option R := jl x29s2 (L := R10_New_l2_t R) x29c2 pN f
def x29s1 : PS := ⟨(.seq (.reg [0,1,26] []) (.cond (.seq (.reg [4,5] []) .leaf) .leaf)),[0,1],[.n,.n],⟨[0,1],[],[4,5]⟩⟩
def x29c1 (g : R10_New_p1_u R) (H : Heap) (K : XK R) : Option R := g (kN .normal [0,1] [.n,.n] K H) (kN .ret [4,5] [.p,.n] K H)
def x29a1 (f : R10_New_p1_t R) : Nat → List Value → Heap → XK R → Option R := jp x29s1 x29c1 f
def x29s0 : PS := ⟨(.seq (.reg [0,1,14] []) (.cond (.seq (.reg [4,5] []) .leaf) .leaf)),[0,1],[.n,.n],⟨[0,1],[],[4,5]⟩⟩
def x29c0 (g : R10_New_p0_u R) (H : Heap) (K : XK R) : Option R := g (kN .normal [0,1] [.n,.n] K H) (kN .ret [4,5] [.p,.n] K H)
def x29a0 (f : R10_New_p0_t R) : Nat → List Value → Heap → XK R → Option R := jp x29s0 x29c0 f
def x29J (k : Nat) : JTab R := tcons 0 (x29a0 z0 k) <| tcons 1 (x29a1 z1 k) <| tcons 2 (x29a2 z2 k) <| fun _ _ _ _ => none
def x29t : AT := (.seq (.reg [0,1] []) (.seq (.opq 0 x29s0.ls x29s0.out x29s0.t) (.seq (.opq 1 x29s1.ls x29s1.out x29s1.t) (.seq (.reg [0,1,6] []) (.seq (.reg [0,1,6,7,8] []) (.seq (.node (.opq 2 x29s2.ls x29s2.out (.node x29s2.t))) (.seq (.reg [4,5] []) .leaf)))))))
def x29c (g : R10_New_u R) (H : Heap) (K : Value → Heap → Option R) : Option R := g H (rH [.p,.n] K)
def x29a (f : R10_New_t R) : List Value → Heap → (Value → Heap → Option R) → Option R := jf 2 [.n,.n] x29c f
variable {z0 z1 z2}
theorem x29e2 (k n : Nat) (H : Heap) (K : XK R) : lE Try.prog An 53 (x29C) (x29J z0 z1 z2 k) x29s2 (sel [1,1,1,1,1,0,0,0] (bd Try.f29)) (x29a2 z2) n H K = mapT (fun g => pN g H) x29s2.ts (x29c2 (R10_New_l2_b k) H K (x29c2 z2 H K n)) := by kernel_rfl
theorem x29e1 (k : Nat) (H : Heap) (K : XK R) : jE Try.prog An 53 (x29C) (x29J z0 z1 z2 k) x29s1 (sel [1,1,0] (bd Try.f29)) H K = mapT (fun g => x29c1 g H K) x29s1.ts (R10_New_p1_b k) := by kernel_rfl
theorem x29e0 (k : Nat) (H : Heap) (K : XK R) : jE Try.prog An 53 (x29C) (x29J z0 z1 z2 k) x29s0 (sel [1,0] (bd Try.f29)) H K = mapT (fun g => x29c0 g H K) x29s0.ts (R10_New_p0_b k) := by kernel_rfl
theorem x29e (k : Nat) (H : Heap) (K : Value → Heap → Option R) : fE Try.prog An (x29C) (x29J z0 z1 z2 k) x29t Try.f29 [.n,.n] H K = mapT (fun g => x29c g H K) [.n,.n] (R10_New_b z0 z1 z2 k) := by kernel_rfl
theorem x29S (R : Type) (k : Nat) : CSound Try.prog (x29C (R := R)) := csound_nil
theorem x29j2 (R : Type) (k : Nat) : JS Try.prog 53 (x29a2 (R10_New_l2 (R := R) k) k) x29s2.ls x29s2.out (.loop (sel [1,1,1,1,1,0,0,0] (bd Try.f29))) := lj (x29S R k) (x29J (R10_New_p0 k) (R10_New_p1 k) (R10_New_l2 k) k) (by kernel_rfl) (A := True) trivial (by kernel_rfl) (fun _ _ => by kernel_rfl) (fun _ _ _ => .trans (x29e2 _ _ _ _) (by kernel_rfl)) k
theorem x29j1 (R : Type) (k : Nat) : JS Try.prog 53 (x29a1 (R10_New_p1 (R := R) k) k) x29s1.ls x29s1.out (sel [1,1,0] (bd Try.f29)) := pj (x29S R k) (x29J (R10_New_p0 k) (R10_New_p1 k) (R10_New_l2 k) k) (by kernel_rfl) (A := True) trivial (by kernel_rfl) (fun _ _ => .trans (x29e1 _ _ _) (by kernel_rfl))
theorem x29j0 (R : Type) (k : Nat) : JS Try.prog 53 (x29a0 (R10_New_p0 (R := R) k) k) x29s0.ls x29s0.out (sel [1,0] (bd Try.f29)) := pj (x29S R k) (x29J (R10_New_p0 k) (R10_New_p1 k) (R10_New_l2 k) k) (by kernel_rfl) (A := True) trivial (by kernel_rfl) (fun _ _ => .trans (x29e0 _ _ _) (by kernel_rfl))
theorem x29cs (R : Type) (k : Nat) : ∀ args H K r,x29a (R10_New k) args H K = some (r : R) → ∃ v H',Tri Try.prog 29 args H v H' ∧ K v H' = some r := fj (x29S R k) (x29J (R10_New_p0 k) (R10_New_p1 k) (R10_New_l2 k) k) Try.func29 (by kernel_rfl) (A := JS Try.prog 53 (x29a0 (R10_New_p0 (R := R) k) k) x29s0.ls x29s0.out (sel [1,0] (bd Try.f29)) ∧ JS Try.prog 53 (x29a1 (R10_New_p1 (R := R) k) k) x29s1.ls x29s1.out (sel [1,1,0] (bd Try.f29)) ∧ JS Try.prog 53 (x29a2 (R10_New_l2 (R := R) k) k) x29s2.ls x29s2.out (.loop (sel [1,1,1,1,1,0,0,0] (bd Try.f29))) ∧ True) ⟨x29j0 R k,⟨x29j1 R k,⟨x29j2 R k,trivial⟩⟩⟩ (by kernel_rfl) (fun _ _ => .trans (x29e _ _ _) (by kernel_rfl))
end
/-! ### R26_New: function 11 -/
abbrev R26_New_p0_u (R : Type) : Type := (Oa → Nat → Nat → Oa → Nat → Nat → Oa → Option R) → (Oa → Int → Option R) → Option R
abbrev R26_New_p0_t (R : Type) : Type := Oa → Nat → Nat → Oa → Nat → Nat → Oa → R26_New_p0_u R
abbrev R26_New_p2_u (R : Type) : Type := Heap → (Oa → Nat → Nat → Oa → Nat → Nat → Oa → Int → Int → Oa → Bool → Option R) → Option R
abbrev R26_New_p2_t (R : Type) : Type := Oa → Nat → Nat → Oa → Nat → Nat → Oa → Int → Int → Oa → R26_New_p2_u R
abbrev R26_New_p3_u (R : Type) : Type := Heap → (Oa → Nat → Nat → Oa → Nat → Nat → Oa → Int → Int → Oa → Option R) → (Oa → Int → Option R) → Option R
abbrev R26_New_p3_t (R : Type) : Type := Oa → Nat → Nat → Oa → Nat → Nat → Oa → Int → Int → Oa → Bool → R26_New_p3_u R
abbrev R26_New_l1_r (R : Type) : Type := Oa → Nat → Nat → Oa → Nat → Nat → Oa → Int → Int → Heap → Option R
abbrev R26_New_l1_q (R T : Type) : Type := (Oa → Nat → Nat → Oa → Nat → Nat → Oa → Int → Heap → Option R) → (Oa → Int → Heap → Option R) → T
abbrev R26_New_l1_t (R : Type) : Type := R26_New_l1_q R (Nat → R26_New_l1_r R)
abbrev R26_New_l6_r (R : Type) : Type := Oa → Nat → Nat → Oa → Int → Int → Int → Heap → Option R
abbrev R26_New_l6_q (R T : Type) : Type := (Oa → Nat → Nat → Oa → Int → Int → Heap → Option R) → T
abbrev R26_New_l6_t (R : Type) : Type := R26_New_l6_q R (Nat → R26_New_l6_r R)
abbrev R26_New_l5_r (R : Type) : Type := Oa → Nat → Nat → Oa → Int → Int → Heap → Option R
abbrev R26_New_l5_q (R T : Type) : Type := (Oa → Nat → Nat → Oa → Int → Heap → Option R) → T
abbrev R26_New_l5_t (R : Type) : Type := R26_New_l5_q R (Nat → R26_New_l5_r R)
abbrev R26_New_l4_r (R : Type) : Type := Oa → Nat → Nat → Oa → Int → Heap → Option R
abbrev R26_New_l4_q (R T : Type) : Type := (Oa → Heap → Option R) → T
abbrev R26_New_l4_t (R : Type) : Type := R26_New_l4_q R (Nat → R26_New_l4_r R)
abbrev R26_New_u (R : Type) : Type := Heap → (Oa → Int → Heap → Option R) → Option R
abbrev R26_New_t (R : Type) : Type := Oa → Nat → Nat → Oa → Nat → Nat → Bool → Bool → Bool → Bool → Bool → R26_New_u R
section
variable {R : Type} (f0 : R10_New_t R) (z0 : R26_New_p0_t R) (z1 : R26_New_l1_t R) (z2 : R26_New_p2_t R) (z3 : R26_New_p3_t R) (z4 : R26_New_l4_t R) (z5 : R26_New_l5_t R) (z6 : R26_New_l6_t R)
def R26_New_p0_b (k : Nat) : R26_New_p0_t R := fun q1 l2 c3 q4 l5 c6 p7 KN KR =>
bif (((l2 : Nat) : Int) != ((l5 : Nat) : Int)) then (KR none 4)
 else (bif decide (((l2 : Nat) : Int) > 3) then (KR none 4)
 else (KN q1 l2 c3 q4 l5 c6 p7))
def R26_New_p0 (k : Nat) : R26_New_p0_t R := R26_New_p0_b k
def R26_New_p2_b (k : Nat) : R26_New_p2_t R := fun q1 l2 c3 q4 l5 c6 p7 n8 n9 p10 H KN =>
hfad 0 p10 fun p11 =>
ldI .i64 H p11 fun n12 =>
bif (n12 == 0) then (hfad 1 p10 fun p13 =>
ldI .i64 H p13 fun n14 =>
KN q1 l2 c3 q4 l5 c6 p7 n8 n9 p10 (n14 == 0))
 else (KN q1 l2 c3 q4 l5 c6 p7 n8 n9 p10 false)
def R26_New_p2 (k : Nat) : R26_New_p2_t R := R26_New_p2_b k
def R26_New_p3_b (k : Nat) : R26_New_p3_t R := fun q1 l2 c3 q4 l5 c6 p7 n8 n9 p10 t11 H KN KR =>
bif (!t11) then (hfad 0 p10 fun p12 =>
ldI .i64 H p12 fun n13 =>
bif decide (n13 < 1) then (KR none 2)
 else (hfad 0 p10 fun p14 =>
ldI .i64 H p14 fun n15 =>
bif decide (n15 > 4096) then (KR none 2)
 else (hfad 1 p10 fun p16 =>
ldI .i64 H p16 fun n17 =>
bif decide (n17 < 1) then (KR none 2)
 else (hfad 1 p10 fun p18 =>
ldI .i64 H p18 fun n19 =>
bif decide (n19 > 4096) then (KR none 2)
 else (hidx q4 l5 n9 1 fun p20 =>
ldI .i64 H p20 fun n21 =>
bif decide (n21 < 0) then (KR none 2)
 else (hidx q4 l5 n9 1 fun p22 =>
ldI .i64 H p22 fun n23 =>
bif decide (n23 > 60) then (KR none 2)
 else (KN q1 l2 c3 q4 l5 c6 p7 n8 n9 p10)))))))
 else (hidx q4 l5 n9 1 fun p24 =>
ldI .i64 H p24 fun n25 =>
bif decide (n25 < 0) then (KR none 2)
 else (hidx q4 l5 n9 1 fun p26 =>
ldI .i64 H p26 fun n27 =>
bif decide (n27 > 60) then (KR none 2)
 else (KN q1 l2 c3 q4 l5 c6 p7 n8 n9 p10)))
def R26_New_p3 (k : Nat) : R26_New_p3_t R := R26_New_p3_b k
def R26_New_l1_b (k : Nat) : R26_New_l1_q R (R26_New_l1_r R → R26_New_l1_r R) := fun KE0 KR rec q1 l2 c3 q4 l5 c6 p7 n8 n9 H =>
bif decide (n9 < ((l2 : Nat) : Int)) then (hidx q1 l2 n9 2 fun p10 =>
ldI .i64 H (pad p10 0) fun n11 =>
ldI .i64 H (pad p10 1) fun n12 =>
hal H [.int .i64 0,.int .i64 0] fun p13 H14 =>
hst H14 p13 [.int .i64 n11,.int .i64 n12] fun H15 =>
z2 q1 l2 c3 q4 l5 c6 p7 n8 n9 p13 H15 (fun q27 l28 c29 q30 l31 c32 p33 n34 n35 p36 t37 =>
z3 q27 l28 c29 q30 l31 c32 p33 n34 n35 p36 t37 H15 (fun q50 l51 c52 q53 l54 c55 p56 n57 n58 p59 =>
hfad 0 p59 fun p60 =>
ldI .i64 H15 p60 fun n61 =>
hfad 1 p59 fun p62 =>
ldI .i64 H15 p62 fun n63 =>
rec q50 l51 c52 q53 l54 c55 p56 (IntKind.wrap .i64 (n57 + (IntKind.wrap .i64 (n61 * n63)))) (IntKind.wrap .i64 (n58 + 1)) H15) (fun p64 n65 =>
KR p64 n65 H15)))
 else (KE0 q1 l2 c3 q4 l5 c6 p7 n8 H)
def R26_New_l1 (k : Nat) : R26_New_l1_t R
  | KE0,KR,0 => fun _ _ _ _ _ _ _ _ _ _ => none
  | KE0,KR,n + 1 => R26_New_l1_b (R26_New_p2 k) (R26_New_p3 k) k KE0 KR (R26_New_l1 k KE0 KR n)
def R26_New_l6_b (k : Nat) : R26_New_l6_q R (R26_New_l6_r R → R26_New_l6_r R) := fun KE6 rec q1 l2 c3 p4 n5 n6 n7 H =>
hidx q1 l2 n5 2 fun p8 =>
hfad 0 p8 fun p9 =>
ldI .i64 H p9 fun n10 =>
bif decide (n7 < n10) then (hnil p4 fun p11 =>
hfad 9 p11 fun p12 =>
ldL H p12 fun q13 l14 c15 =>
hal H [.int .i64 n5,.int .i64 n7,.int .i64 n6,.bool false,.int .i64 0,.int .i64 0,.int .i64 0,.int .i64 3] fun p16 H17 =>
happS 8 64 H17 q13 l14 c15 p16 1 fun q18 l19 c20 H21 =>
hnil p4 fun p22 =>
hfad 9 p22 fun p23 =>
hst1 H21 p23 (.slice q18 l19 c20) fun H24 =>
rec q1 l2 c3 p4 n5 n6 (IntKind.wrap .i64 (n7 + 1)) H24)
 else (KE6 q1 l2 c3 p4 n5 n6 H)
def R26_New_l6 (k : Nat) : R26_New_l6_t R
  | KE6,0 => fun _ _ _ _ _ _ _ _ => none
  | KE6,n + 1 => R26_New_l6_b k KE6 (R26_New_l6 k KE6 n)
def R26_New_l5_b (k : Nat) : R26_New_l5_q R (R26_New_l5_r R → R26_New_l5_r R) := fun KE4 rec q1 l2 c3 p4 n5 n6 H =>
hidx q1 l2 n5 2 fun p7 =>
hfad 1 p7 fun p8 =>
ldI .i64 H p8 fun n9 =>
bif decide (n6 < n9) then (z6 (fun q16 l17 c18 p19 n20 n21 H22 =>
rec q16 l17 c18 p19 n20 (IntKind.wrap .i64 (n21 + 1)) H22) k q1 l2 c3 p4 n5 n6 0 H)
 else (KE4 q1 l2 c3 p4 n5 H)
def R26_New_l5 (k : Nat) : R26_New_l5_t R
  | KE4,0 => fun _ _ _ _ _ _ _ => none
  | KE4,n + 1 => R26_New_l5_b (R26_New_l6 k) k KE4 (R26_New_l5 k KE4 n)
def R26_New_l4_b (k : Nat) : R26_New_l4_q R (R26_New_l4_r R → R26_New_l4_r R) := fun KE2 rec q1 l2 c3 p4 n5 H =>
bif decide (n5 < ((l2 : Nat) : Int)) then (hidx q1 l2 n5 2 fun p6 =>
hfad 0 p6 fun p7 =>
ldI .i64 H p7 fun n8 =>
hidx q1 l2 n5 2 fun p9 =>
hfad 1 p9 fun p10 =>
ldI .i64 H p10 fun n11 =>
f0 n8 n11 H fun p12 n13 H14 =>
hidx q1 l2 n5 2 fun p15 =>
hfad 0 p15 fun p16 =>
ldI .i64 H14 p16 fun n17 =>
hidx q1 l2 n5 2 fun p18 =>
hfad 1 p18 fun p19 =>
ldI .i64 H14 p19 fun n20 =>
f0 n17 n20 H14 fun p21 n22 H23 =>
hnil p4 fun p24 =>
hfad 7 p24 fun p25 =>
ldL H23 p25 fun q26 l27 c28 =>
hal H23 [.pointer p12] fun p29 H30 =>
happS 1 8 H30 q26 l27 c28 p29 1 fun q31 l32 c33 H34 =>
hnil p4 fun p35 =>
hfad 7 p35 fun p36 =>
hst1 H34 p36 (.slice q31 l32 c33) fun H37 =>
hnil p4 fun p38 =>
hfad 8 p38 fun p39 =>
ldL H37 p39 fun q40 l41 c42 =>
hal H37 [.pointer p21] fun p43 H44 =>
happS 1 8 H44 q40 l41 c42 p43 1 fun q45 l46 c47 H48 =>
hnil p4 fun p49 =>
hfad 8 p49 fun p50 =>
hst1 H48 p50 (.slice q45 l46 c47) fun H51 =>
z5 (fun q57 l58 c59 p60 n61 H62 =>
rec q57 l58 c59 p60 (IntKind.wrap .i64 (n61 + 1)) H62) k q1 l2 c3 p4 n5 0 H51)
 else (KE2 p4 H)
def R26_New_l4 (k : Nat) : R26_New_l4_t R
  | KE2,0 => fun _ _ _ _ _ _ => none
  | KE2,n + 1 => R26_New_l4_b (R10_New k) (R26_New_l5 k) k KE2 (R26_New_l4 k KE2 n)
def R26_New_b (k : Nat) : R26_New_t R := fun q1 l2 c3 q4 l5 c6 t7 t8 t9 t10 t11 H K =>
hal H [.bool t7,.bool t8,.bool t9,.bool t10,.bool t11] fun p12 H13 =>
z0 q1 l2 c3 q4 l5 c6 p12 (fun q23 l24 c25 q26 l27 c28 p29 =>
z1 (fun q40 l41 c42 q43 l44 c45 p46 n47 H48 =>
bif decide (n47 > 65536) then (K none 5 H48)
 else (hal H48 [] fun p49 H50 =>
hapnS 1 8 H50 p49 0 0 q43 l44 fun q51 l52 c53 H54 =>
ldB H54 (pad p46 0) fun t55 =>
ldB H54 (pad p46 1) fun t56 =>
ldB H54 (pad p46 2) fun t57 =>
ldB H54 (pad p46 3) fun t58 =>
ldB H54 (pad p46 4) fun t59 =>
hal H54 [.bool true,.slice q51 l52 c53,.bool t55,.bool t56,.bool t57,.bool t58,.bool t59,.slice none 0 0,.slice none 0 0,.slice none 0 0,.int .i64 0,.bool false,.bool false,.slice none 0 0,.slice none 0 0] fun p60 H61 =>
z4 (fun p63 H64 =>
K p63 0 H64) k q40 l41 c42 p60 0 H61)) (fun p65 n66 H67 =>
K p65 n66 H67) k q23 l24 c25 q26 l27 c28 p29 0 0 H13) (fun p68 n69 =>
K p68 n69 H13)
def R26_New (k : Nat) : R26_New_t R := R26_New_b (R26_New_p0 k) (R26_New_l1 k) (R26_New_l4 k) k
def x11C : Tab R := tcons 29 (x29a f0) <| fun _ _ _ _ => none
def x11s6 : PS := ⟨(.seq (.seq (.reg [0,12,13,18,19,168] []) (.cond .leaf .leaf)) (.seq (.node (.reg [0,12,13,18,19] [])) (.reg [0,12,13,18,19] []))),[0,12,13,18,19],[.l,.p,.n,.n,.n],⟨[],[(6,[0,12,13,18])],[]⟩⟩
def x11c6 {T : Type} (g : R26_New_l6_q R T) (H : Heap) (K : XK R) : T := g (kH (.exit 6) [0,12,13,18] [.l,.p,.n,.n] K)
def x11a6 (f : R26_New_l6_t R) : Nat → List Value → Heap → XK R → Option R := jl x11s6 (L := R26_New_l6_t R) x11c6 pH f
def x11s5 : PS := ⟨(.seq (.seq (.reg [0,12,13,18,159] []) (.cond .leaf .leaf)) (.seq (.node (.seq (.reg [0,12,13,18,19] []) (.node (.opq 6 x11s6.ls x11s6.out (.node x11s6.t))))) (.reg [0,12,13,18] []))),[0,12,13,18],[.l,.p,.n,.n],⟨[],[(4,[0,12,13])],[]⟩⟩
def x11c5 {T : Type} (g : R26_New_l5_q R T) (H : Heap) (K : XK R) : T := g (kH (.exit 4) [0,12,13] [.l,.p,.n] K)
def x11a5 (f : R26_New_l5_t R) : Nat → List Value → Heap → XK R → Option R := jl x11s5 (L := R26_New_l5_t R) x11c5 pH f
def x11s4 : PS := ⟨(.seq (.seq (.reg [0,12,13,102] []) (.cond .leaf .leaf)) (.seq (.node (.seq (.reg [0,12,13,14] (ms [0,0,3,7,15,0,0,96,224,480,1023,2047,4095,4095,8191,32767])) (.seq (.reg [0,12,13,14,16] (ms [0,0,3,7,15,0,0,96,224,480,1023,2047,4095,4095,8191,32767])) (.seq (.reg [0,12,13,16] []) (.seq (.reg [0,12,13] []) (.seq (.reg [0,12,13,18] []) (.node (.opq 5 x11s5.ls x11s5.out (.node x11s5.t))))))))) (.reg [0,12,13] []))),[0,12,13],[.l,.p,.n],⟨[],[(2,[12])],[]⟩⟩
def x11c4 {T : Type} (g : R26_New_l4_q R T) (H : Heap) (K : XK R) : T := g (kH (.exit 2) [12] [.p] K)
def x11a4 (f : R26_New_l4_t R) : Nat → List Value → Heap → XK R → Option R := jl x11s4 (L := R26_New_l4_t R) x11c4 pH f
def x11s3 : PS := ⟨(.seq (.reg [0,1,5,8,9,10,83] []) (.cond (.seq (.reg [6,7] []) .leaf) .leaf)),[0,1,5,8,9,10,11],[.l,.l,.p,.n,.n,.p,.b],⟨[0,1,5,8,9,10],[],[6,7]⟩⟩
def x11c3 (g : R26_New_p3_u R) (H : Heap) (K : XK R) : Option R := g H (kN .normal [0,1,5,8,9,10] [.l,.l,.p,.n,.n,.p] K H) (kN .ret [6,7] [.p,.n] K H)
def x11a3 (f : R26_New_p3_t R) : Nat → List Value → Heap → XK R → Option R := jp x11s3 x11c3 f
def x11s2 : PS := ⟨(.reg [0,1,5,8,9,10,11] []),[0,1,5,8,9,10],[.l,.l,.p,.n,.n,.p],⟨[0,1,5,8,9,10,11],[],[]⟩⟩
def x11c2 (g : R26_New_p2_u R) (H : Heap) (K : XK R) : Option R := g H (kN .normal [0,1,5,8,9,10,11] [.l,.l,.p,.n,.n,.p,.b] K H)
def x11a2 (f : R26_New_p2_t R) : Nat → List Value → Heap → XK R → Option R := jp x11s2 x11c2 f
def x11s1 : PS := ⟨(.seq (.seq (.reg [0,1,5,8,9,33] []) (.cond .leaf .leaf)) (.seq (.node (.seq (.reg [0,1,5,8,9,10] []) (.seq (.opq 2 x11s2.ls x11s2.out x11s2.t) (.seq (.opq 3 x11s3.ls x11s3.out x11s3.t) (.reg [0,1,5,8,9] []))))) (.reg [0,1,5,8,9] []))),[0,1,5,8,9],[.l,.l,.p,.n,.n],⟨[],[(0,[0,1,5,8])],[6,7]⟩⟩
def x11c1 {T : Type} (g : R26_New_l1_q R T) (H : Heap) (K : XK R) : T := g (kH (.exit 0) [0,1,5,8] [.l,.l,.p,.n] K) (kH .ret [6,7] [.p,.n] K)
def x11a1 (f : R26_New_l1_t R) : Nat → List Value → Heap → XK R → Option R := jl x11s1 (L := R26_New_l1_t R) x11c1 pH f
def x11s0 : PS := ⟨(.seq (.reg [0,1,5,29] []) (.cond (.seq (.reg [6,7] []) .leaf) .leaf)),[0,1,5],[.l,.l,.p],⟨[0,1,5],[],[6,7]⟩⟩
def x11c0 (g : R26_New_p0_u R) (H : Heap) (K : XK R) : Option R := g (kN .normal [0,1,5] [.l,.l,.p] K H) (kN .ret [6,7] [.p,.n] K H)
def x11a0 (f : R26_New_p0_t R) : Nat → List Value → Heap → XK R → Option R := jp x11s0 x11c0 f
def x11J (k : Nat) : JTab R := tcons 0 (x11a0 z0 k) <| tcons 1 (x11a1 z1 k) <| tcons 2 (x11a2 z2 k) <| tcons 3 (x11a3 z3 k) <| tcons 4 (x11a4 z4 k) <| tcons 5 (x11a5 z5 k) <| tcons 6 (x11a6 z6 k) <| fun _ _ _ _ => none
def x11t : AT := (.seq (.reg [0,1,5] []) (.seq (.opq 0 x11s0.ls x11s0.out x11s0.t) (.seq (.reg [0,1,5,8] []) (.seq (.seq (.reg [0,1,5,8,9] []) (.node (.opq 1 x11s1.ls x11s1.out (.node x11s1.t)))) (.seq (.seq (.reg [0,1,5,92] []) (.cond (.seq (.reg [6,7] []) .leaf) .leaf)) (.seq (.reg [0,12] (ms [0,0,3,0,15,31,63])) (.seq (.seq (.reg [0,12,13] []) (.node (.opq 4 x11s4.ls x11s4.out (.node x11s4.t)))) (.seq (.reg [6,7] []) .leaf))))))))
def x11c (g : R26_New_u R) (H : Heap) (K : Value → Heap → Option R) : Option R := g H (rH [.p,.n] K)
def x11a (f : R26_New_t R) : List Value → Heap → (Value → Heap → Option R) → Option R := jf 3 [.l,.l,(.a 5),.b,.b,.b,.b,.b] x11c f
variable {f0 z0 z1 z2 z3 z4 z5 z6}
theorem x11e6 (k n : Nat) (H : Heap) (K : XK R) : lE Try.prog An 185 (x11C f0) (x11J z0 z1 z2 z3 z4 z5 z6 k) x11s6 (sel [1,1,1,1,1,1,0,1,0,0,1,0,0,1,1,1,1,1,0,0,1,0,0,1,0,0] (bd Try.f11)) (x11a6 z6) n H K = mapT (fun g => pH g H) x11s6.ts (x11c6 (R26_New_l6_b k) H K (x11c6 z6 H K n)) := by kernel_rfl
theorem x11e5 (k n : Nat) (H : Heap) (K : XK R) : lE Try.prog An 185 (x11C f0) (x11J z0 z1 z2 z3 z4 z5 z6 k) x11s5 (sel [1,1,1,1,1,1,0,1,0,0,1,0,0,1,1,1,1,1,0,0] (bd Try.f11)) (x11a5 z5) n H K = mapT (fun g => pH g H) x11s5.ts (x11c5 (R26_New_l5_b z6 k) H K (x11c5 z5 H K n)) := by kernel_rfl
theorem x11e4 (k n : Nat) (H : Heap) (K : XK R) : lE Try.prog An 185 (x11C f0) (x11J z0 z1 z2 z3 z4 z5 z6 k) x11s4 (sel [1,1,1,1,1,1,0,1,0,0] (bd Try.f11)) (x11a4 z4) n H K = mapT (fun g => pH g H) x11s4.ts (x11c4 (R26_New_l4_b f0 z5 k) H K (x11c4 z4 H K n)) := by kernel_rfl
theorem x11e3 (k : Nat) (H : Heap) (K : XK R) : jE Try.prog An 185 (x11C f0) (x11J z0 z1 z2 z3 z4 z5 z6 k) x11s3 (sel [1,1,1,0,1,0,0,1,0,0,1,1,0] (bd Try.f11)) H K = mapT (fun g => x11c3 g H K) x11s3.ts (R26_New_p3_b k) := by kernel_rfl
theorem x11e2 (k : Nat) (H : Heap) (K : XK R) : jE Try.prog An 185 (x11C f0) (x11J z0 z1 z2 z3 z4 z5 z6 k) x11s2 (sel [1,1,1,0,1,0,0,1,0,0,1,0] (bd Try.f11)) H K = mapT (fun g => x11c2 g H K) x11s2.ts (R26_New_p2_b k) := by kernel_rfl
theorem x11e1 (k n : Nat) (H : Heap) (K : XK R) : lE Try.prog An 185 (x11C f0) (x11J z0 z1 z2 z3 z4 z5 z6 k) x11s1 (sel [1,1,1,0,1,0,0] (bd Try.f11)) (x11a1 z1) n H K = mapT (fun g => pH g H) x11s1.ts (x11c1 (R26_New_l1_b z2 z3 k) H K (x11c1 z1 H K n)) := by kernel_rfl
theorem x11e0 (k : Nat) (H : Heap) (K : XK R) : jE Try.prog An 185 (x11C f0) (x11J z0 z1 z2 z3 z4 z5 z6 k) x11s0 (sel [1,0] (bd Try.f11)) H K = mapT (fun g => x11c0 g H K) x11s0.ts (R26_New_p0_b k) := by kernel_rfl
theorem x11e (k : Nat) (H : Heap) (K : Value → Heap → Option R) : fE Try.prog An (x11C f0) (x11J z0 z1 z2 z3 z4 z5 z6 k) x11t Try.f11 [.l,.l,(.a 5),.b,.b,.b,.b,.b] H K = mapT (fun g => x11c g H K) [.l,.l,(.a 5),.b,.b,.b,.b,.b] (R26_New_b z0 z1 z4 k) := by kernel_rfl
theorem x11S (R : Type) (k : Nat) : CSound Try.prog (x11C (R := R) (R10_New k)) := csound_cons (x29cs R k) <| csound_nil
theorem x11j6 (R : Type) (k : Nat) : JS Try.prog 185 (x11a6 (R26_New_l6 (R := R) k) k) x11s6.ls x11s6.out (.loop (sel [1,1,1,1,1,1,0,1,0,0,1,0,0,1,1,1,1,1,0,0,1,0,0,1,0,0] (bd Try.f11))) := lj (x11S R k) (x11J (R26_New_p0 k) (R26_New_l1 k) (R26_New_p2 k) (R26_New_p3 k) (R26_New_l4 k) (R26_New_l5 k) (R26_New_l6 k) k) (by kernel_rfl) (A := True) trivial (by kernel_rfl) (fun _ _ => by kernel_rfl) (fun _ _ _ => .trans (x11e6 _ _ _ _) (by kernel_rfl)) k
theorem x11j5 (R : Type) (k : Nat) : JS Try.prog 185 (x11a5 (R26_New_l5 (R := R) k) k) x11s5.ls x11s5.out (.loop (sel [1,1,1,1,1,1,0,1,0,0,1,0,0,1,1,1,1,1,0,0] (bd Try.f11))) := lj (x11S R k) (x11J (R26_New_p0 k) (R26_New_l1 k) (R26_New_p2 k) (R26_New_p3 k) (R26_New_l4 k) (R26_New_l5 k) (R26_New_l6 k) k) (by kernel_rfl) (A := JS Try.prog 185 (x11a6 (R26_New_l6 (R := R) k) k) x11s6.ls x11s6.out (.loop (sel [1,1,1,1,1,1,0,1,0,0,1,0,0,1,1,1,1,1,0,0,1,0,0,1,0,0] (bd Try.f11))) ∧ True) ⟨x11j6 R k,trivial⟩ (by kernel_rfl) (fun _ _ => by kernel_rfl) (fun _ _ _ => .trans (x11e5 _ _ _ _) (by kernel_rfl)) k
theorem x11j4 (R : Type) (k : Nat) : JS Try.prog 185 (x11a4 (R26_New_l4 (R := R) k) k) x11s4.ls x11s4.out (.loop (sel [1,1,1,1,1,1,0,1,0,0] (bd Try.f11))) := lj (x11S R k) (x11J (R26_New_p0 k) (R26_New_l1 k) (R26_New_p2 k) (R26_New_p3 k) (R26_New_l4 k) (R26_New_l5 k) (R26_New_l6 k) k) (by kernel_rfl) (A := JS Try.prog 185 (x11a5 (R26_New_l5 (R := R) k) k) x11s5.ls x11s5.out (.loop (sel [1,1,1,1,1,1,0,1,0,0,1,0,0,1,1,1,1,1,0,0] (bd Try.f11))) ∧ True) ⟨x11j5 R k,trivial⟩ (by kernel_rfl) (fun _ _ => by kernel_rfl) (fun _ _ _ => .trans (x11e4 _ _ _ _) (by kernel_rfl)) k
theorem x11j3 (R : Type) (k : Nat) : JS Try.prog 185 (x11a3 (R26_New_p3 (R := R) k) k) x11s3.ls x11s3.out (sel [1,1,1,0,1,0,0,1,0,0,1,1,0] (bd Try.f11)) := pj (x11S R k) (x11J (R26_New_p0 k) (R26_New_l1 k) (R26_New_p2 k) (R26_New_p3 k) (R26_New_l4 k) (R26_New_l5 k) (R26_New_l6 k) k) (by kernel_rfl) (A := True) trivial (by kernel_rfl) (fun _ _ => .trans (x11e3 _ _ _) (by kernel_rfl))
theorem x11j2 (R : Type) (k : Nat) : JS Try.prog 185 (x11a2 (R26_New_p2 (R := R) k) k) x11s2.ls x11s2.out (sel [1,1,1,0,1,0,0,1,0,0,1,0] (bd Try.f11)) := pj (x11S R k) (x11J (R26_New_p0 k) (R26_New_l1 k) (R26_New_p2 k) (R26_New_p3 k) (R26_New_l4 k) (R26_New_l5 k) (R26_New_l6 k) k) (by kernel_rfl) (A := True) trivial (by kernel_rfl) (fun _ _ => .trans (x11e2 _ _ _) (by kernel_rfl))
theorem x11j1 (R : Type) (k : Nat) : JS Try.prog 185 (x11a1 (R26_New_l1 (R := R) k) k) x11s1.ls x11s1.out (.loop (sel [1,1,1,0,1,0,0] (bd Try.f11))) := lj (x11S R k) (x11J (R26_New_p0 k) (R26_New_l1 k) (R26_New_p2 k) (R26_New_p3 k) (R26_New_l4 k) (R26_New_l5 k) (R26_New_l6 k) k) (by kernel_rfl) (A := JS Try.prog 185 (x11a2 (R26_New_p2 (R := R) k) k) x11s2.ls x11s2.out (sel [1,1,1,0,1,0,0,1,0,0,1,0] (bd Try.f11)) ∧ JS Try.prog 185 (x11a3 (R26_New_p3 (R := R) k) k) x11s3.ls x11s3.out (sel [1,1,1,0,1,0,0,1,0,0,1,1,0] (bd Try.f11)) ∧ True) ⟨x11j2 R k,⟨x11j3 R k,trivial⟩⟩ (by kernel_rfl) (fun _ _ => by kernel_rfl) (fun _ _ _ => .trans (x11e1 _ _ _ _) (by kernel_rfl)) k
theorem x11j0 (R : Type) (k : Nat) : JS Try.prog 185 (x11a0 (R26_New_p0 (R := R) k) k) x11s0.ls x11s0.out (sel [1,0] (bd Try.f11)) := pj (x11S R k) (x11J (R26_New_p0 k) (R26_New_l1 k) (R26_New_p2 k) (R26_New_p3 k) (R26_New_l4 k) (R26_New_l5 k) (R26_New_l6 k) k) (by kernel_rfl) (A := True) trivial (by kernel_rfl) (fun _ _ => .trans (x11e0 _ _ _) (by kernel_rfl))
theorem x11cs (R : Type) (k : Nat) : ∀ args H K r,x11a (R26_New k) args H K = some (r : R) → ∃ v H',Tri Try.prog 11 args H v H' ∧ K v H' = some r := fj (x11S R k) (x11J (R26_New_p0 k) (R26_New_l1 k) (R26_New_p2 k) (R26_New_p3 k) (R26_New_l4 k) (R26_New_l5 k) (R26_New_l6 k) k) Try.func11 (by kernel_rfl) (A := JS Try.prog 185 (x11a0 (R26_New_p0 (R := R) k) k) x11s0.ls x11s0.out (sel [1,0] (bd Try.f11)) ∧ JS Try.prog 185 (x11a1 (R26_New_l1 (R := R) k) k) x11s1.ls x11s1.out (.loop (sel [1,1,1,0,1,0,0] (bd Try.f11))) ∧ JS Try.prog 185 (x11a4 (R26_New_l4 (R := R) k) k) x11s4.ls x11s4.out (.loop (sel [1,1,1,1,1,1,0,1,0,0] (bd Try.f11))) ∧ True) ⟨x11j0 R k,⟨x11j1 R k,⟨x11j4 R k,trivial⟩⟩⟩ (by kernel_rfl) (fun _ _ => .trans (x11e _ _ _) (by kernel_rfl))
end
/-! ### R26_State_made: function 30 -/
abbrev R26_State_made_u (R : Type) : Type := Heap → (Bool → Option R) → Option R
abbrev R26_State_made_t (R : Type) : Type := Oa → R26_State_made_u R
section
variable {R : Type}
def R26_State_made_b (k : Nat) : R26_State_made_t R := fun p1 H K =>
bif p1.isSome then (hnil p1 fun p2 =>
hfad 0 p2 fun p3 =>
ldB H p3 fun t4 =>
K t4)
 else (K false)
def R26_State_made : R26_State_made_t R := R26_State_made_b 0
def x30C : Tab R := fun _ _ _ _ => none
def x30J (k : Nat) : JTab R := fun _ _ _ _ => none
def x30t : AT := (.seq (.reg [0] []) (.seq (.reg [2] []) .leaf))
def x30c (g : R26_State_made_u R) (H : Heap) (K : Value → Heap → Option R) : Option R := g H (rN [.b] K H)
def x30a (f : R26_State_made_t R) : List Value → Heap → (Value → Heap → Option R) → Option R := jf 1 [.p] x30c f
theorem x30e (k : Nat) (H : Heap) (K : Value → Heap → Option R) : fE Try.prog An (x30C) (x30J k) x30t Try.f30 [.p] H K = mapT (fun g => x30c g H K) [.p] (R26_State_made_b k) := by kernel_rfl
theorem x30S (R : Type) (k : Nat) : CSound Try.prog (x30C (R := R)) := csound_nil
theorem x30cs (R : Type) (k : Nat) : ∀ args H K r,x30a (R26_State_made) args H K = some (r : R) → ∃ v H',Tri Try.prog 30 args H v H' ∧ K v H' = some r := fj (x30S R k) (x30J 0) Try.func30 (by kernel_rfl) (A := True) trivial (by kernel_rfl) (fun _ _ => .trans (x30e _ _ _) (by kernel_rfl))
end
/-! ### R26_State_Blocks: function 13 -/
abbrev R26_State_Blocks_u (R : Type) : Type := Heap → (Int → Option R) → Option R
abbrev R26_State_Blocks_t (R : Type) : Type := Oa → R26_State_Blocks_u R
section
variable {R : Type} (f0 : R26_State_made_t R)
def R26_State_Blocks_b (k : Nat) : R26_State_Blocks_t R := fun p1 H K =>
f0 p1 H fun t2 =>
bif (!t2) then (K 0)
 else (hnil p1 fun p3 =>
hfad 9 p3 fun p4 =>
ldL H p4 fun q5 l6 c7 =>
K ((l6 : Nat) : Int))
def R26_State_Blocks : R26_State_Blocks_t R := R26_State_Blocks_b R26_State_made 0
def x13C : Tab R := tcons 30 (x30a f0) <| fun _ _ _ _ => none
def x13J (k : Nat) : JTab R := fun _ _ _ _ => none
def x13t : AT := (.seq (.reg [0] []) (.seq (.seq (.reg [0,5] []) (.cond (.seq (.reg [2] []) .leaf) .leaf)) (.seq (.reg [2] []) .leaf)))
def x13c (g : R26_State_Blocks_u R) (H : Heap) (K : Value → Heap → Option R) : Option R := g H (rN [.n] K H)
def x13a (f : R26_State_Blocks_t R) : List Value → Heap → (Value → Heap → Option R) → Option R := jf 1 [.p] x13c f
variable {f0}
theorem x13e (k : Nat) (H : Heap) (K : Value → Heap → Option R) : fE Try.prog An (x13C f0) (x13J k) x13t Try.f13 [.p] H K = mapT (fun g => x13c g H K) [.p] (R26_State_Blocks_b f0 k) := by kernel_rfl
theorem x13S (R : Type) (k : Nat) : CSound Try.prog (x13C (R := R) R26_State_made) := csound_cons (x30cs R 0) <| csound_nil
theorem x13cs (R : Type) (k : Nat) : ∀ args H K r,x13a (R26_State_Blocks) args H K = some (r : R) → ∃ v H',Tri Try.prog 13 args H v H' ∧ K v H' = some r := fj (x13S R k) (x13J 0) Try.func13 (by kernel_rfl) (A := True) trivial (by kernel_rfl) (fun _ _ => .trans (x13e _ _ _) (by kernel_rfl))
end
end Go.Proofs.Ytmanlfonppfhaaa.Sh
