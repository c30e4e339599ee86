/- Lean functions that stand for Go's,over an explicit heap,and the proofs that they do (written by this claim's program sh2.py). -/
import Derived.Test.YtkjcjlembepdkaaShA
import Derived.Test.YtkjcjlembepdkaaSh0
set_option maxRecDepth 100000
set_option linter.unusedVariables false
set_option linter.unusedSimpArgs false
namespace Go.Proofs.Ytkjcjlembepdkaa.Sh
open Go.Proofs.Ytkjcjlembepdkaa.FW
/-! ### slices_insertionSortOrdered_int_: function 53 -/
abbrev slices_insertionSortOrdered_int__p2_u (R : Type) : Type := Heap → (Oa → Nat → Nat → Int → Int → Int → Option R) → (Oa → Nat → Nat → Int → Int → Int → Int → Option R) → Option R
abbrev slices_insertionSortOrdered_int__p2_t (R : Type) : Type := Oa → Nat → Nat → Int → Int → Int → Int → slices_insertionSortOrdered_int__p2_u R
abbrev slices_insertionSortOrdered_int__l1_r (R : Type) : Type := Oa → Nat → Nat → Int → Int → Int → Int → Heap → Option R
abbrev slices_insertionSortOrdered_int__l1_q (R T : Type) : Type := (Oa → Nat → Nat → Int → Int → Int → Heap → Option R) → T
abbrev slices_insertionSortOrdered_int__l1_t (R : Type) : Type := slices_insertionSortOrdered_int__l1_q R (Nat → slices_insertionSortOrdered_int__l1_r R)
abbrev slices_insertionSortOrdered_int__l0_r (R : Type) : Type := Oa → Nat → Nat → Int → Int → Int → Heap → Option R
abbrev slices_insertionSortOrdered_int__l0_q (R T : Type) : Type := (Heap → Option R) → T
abbrev slices_insertionSortOrdered_int__l0_t (R : Type) : Type := slices_insertionSortOrdered_int__l0_q R (Nat → slices_insertionSortOrdered_int__l0_r R)
abbrev slices_insertionSortOrdered_int__u (R : Type) : Type := Heap → (Heap → Option R) → Option R
abbrev slices_insertionSortOrdered_int__t (R : Type) : Type := Oa → Nat → Nat → Int → Int → slices_insertionSortOrdered_int__u R
section
variable {R : Type} (f0 : cmp_Less_int__t R) (z0 : slices_insertionSortOrdered_int__l0_t R) (z1 : slices_insertionSortOrdered_int__l1_t R) (z2 : slices_insertionSortOrdered_int__p2_t R)
def slices_insertionSortOrdered_int__p2_b (k : Nat) : slices_insertionSortOrdered_int__p2_t R := fun q1 l2 c3 n4 n5 n6 n7 H KE2 KN =>
bif decide (n7 > n4) then (hidx q1 l2 n7 1 fun p8 =>
ldI .i64 H p8 fun n9 =>
hidx q1 l2 (IntKind.wrap .i64 (n7 - 1)) 1 fun p10 =>
ldI .i64 H p10 fun n11 =>
f0 n9 n11 fun t12 =>
bif t12 then (KN q1 l2 c3 n4 n5 n6 n7)
 else (KE2 q1 l2 c3 n4 n5 n6))
 else (KE2 q1 l2 c3 n4 n5 n6)
def slices_insertionSortOrdered_int__p2 (k : Nat) : slices_insertionSortOrdered_int__p2_t R := slices_insertionSortOrdered_int__p2_b cmp_Less_int_ k
def slices_insertionSortOrdered_int__l1_b (k : Nat) : slices_insertionSortOrdered_int__l1_q R (slices_insertionSortOrdered_int__l1_r R → slices_insertionSortOrdered_int__l1_r R) := fun KE2 rec q1 l2 c3 n4 n5 n6 n7 H =>
z2 q1 l2 c3 n4 n5 n6 n7 H (fun q21 l22 c23 n24 n25 n26 =>
KE2 q21 l22 c23 n24 n25 n26 H) (fun q27 l28 c29 n30 n31 n32 n33 =>
hidx q27 l28 (IntKind.wrap .i64 (n33 - 1)) 1 fun p34 =>
ldI .i64 H p34 fun n35 =>
hidx q27 l28 n33 1 fun p36 =>
ldI .i64 H p36 fun n37 =>
hidx q27 l28 n33 1 fun p38 =>
hst1 H p38 (.int .i64 n35) fun H39 =>
hidx q27 l28 (IntKind.wrap .i64 (n33 - 1)) 1 fun p40 =>
hst1 H39 p40 (.int .i64 n37) fun H41 =>
rec q27 l28 c29 n30 n31 n32 (IntKind.wrap .i64 (n33 - 1)) H41)
def slices_insertionSortOrdered_int__l1 (k : Nat) : slices_insertionSortOrdered_int__l1_t R
  | KE2,0 => fun _ _ _ _ _ _ _ _ => none
  | KE2,n + 1 => slices_insertionSortOrdered_int__l1_b (slices_insertionSortOrdered_int__p2 k) k KE2 (slices_insertionSortOrdered_int__l1 k KE2 n)
def slices_insertionSortOrdered_int__l0_b (k : Nat) : slices_insertionSortOrdered_int__l0_q R (slices_insertionSortOrdered_int__l0_r R → slices_insertionSortOrdered_int__l0_r R) := fun KE0 rec q1 l2 c3 n4 n5 n6 H =>
bif decide (n6 < n5) then (z1 (fun q13 l14 c15 n16 n17 n18 H19 =>
rec q13 l14 c15 n16 n17 (IntKind.wrap .i64 (n18 + 1)) H19) k q1 l2 c3 n4 n5 n6 n6 H)
 else (KE0 H)
def slices_insertionSortOrdered_int__l0 (k : Nat) : slices_insertionSortOrdered_int__l0_t R
  | KE0,0 => fun _ _ _ _ _ _ _ => none
  | KE0,n + 1 => slices_insertionSortOrdered_int__l0_b (slices_insertionSortOrdered_int__l1 k) k KE0 (slices_insertionSortOrdered_int__l0 k KE0 n)
def slices_insertionSortOrdered_int__b (k : Nat) : slices_insertionSortOrdered_int__t R := fun q1 l2 c3 n4 n5 H K =>
z0 (fun H6 =>
K H6) k q1 l2 c3 n4 n5 (IntKind.wrap .i64 (n4 + 1)) H
def slices_insertionSortOrdered_int_ (k : Nat) : slices_insertionSortOrdered_int__t R := slices_insertionSortOrdered_int__b (slices_insertionSortOrdered_int__l0 k) k
def x53C : Tab R := tcons 59 (x59a f0) <| fun _ _ _ _ => none
def x53s2 : PS := ⟨(.seq (.reg [0,1,2,6,7,30] (ms [0,0,3,7,15,15,63,127,15,15,527,1807,3855,8191,16383])) (.cond .leaf .leaf)),[0,1,2,6,7],[.l,.n,.n,.n,.n],⟨[0,1,2,6,7],[(2,[0,1,2,6])],[]⟩⟩
def x53c2 (g : slices_insertionSortOrdered_int__p2_u R) (H : Heap) (K : XK R) : Option R := g H (kN (.exit 2) [0,1,2,6] [.l,.n,.n,.n] K H) (kN .normal [0,1,2,6,7] [.l,.n,.n,.n,.n] K H)
def x53a2 (f : slices_insertionSortOrdered_int__p2_t R) : Nat → List Value → Heap → XK R → Option R := jp x53s2 x53c2 f
def x53s1 : PS := ⟨(.seq (.opq 2 x53s2.ls x53s2.out x53s2.t) (.seq (.node (.reg [0,1,2,6,7] (ms [0,0,0,0,8,0,0,64,224,480,0,0,3072,7168,16355,32739,65535,131071]))) (.reg [0,1,2,6,7] []))),[0,1,2,6,7],[.l,.n,.n,.n,.n],⟨[],[(2,[0,1,2,6])],[]⟩⟩
def x53c1 {T : Type} (g : slices_insertionSortOrdered_int__l1_q R T) (H : Heap) (K : XK R) : T := g (kH (.exit 2) [0,1,2,6] [.l,.n,.n,.n] K)
def x53a1 (f : slices_insertionSortOrdered_int__l1_t R) : Nat → List Value → Heap → XK R → Option R := jl x53s1 (L := slices_insertionSortOrdered_int__l1_t R) x53c1 pH f
def x53s0 : PS := ⟨(.seq (.seq (.reg [0,1,2,6,12] []) (.cond .leaf .leaf)) (.seq (.node (.seq (.reg [0,1,2,6,7] []) (.node (.opq 1 x53s1.ls x53s1.out (.node x53s1.t))))) (.reg [0,1,2,6] []))),[0,1,2,6],[.l,.n,.n,.n],⟨[],[(0,[])],[]⟩⟩
def x53c0 {T : Type} (g : slices_insertionSortOrdered_int__l0_q R T) (H : Heap) (K : XK R) : T := g (kH (.exit 0) [] [] K)
def x53a0 (f : slices_insertionSortOrdered_int__l0_t R) : Nat → List Value → Heap → XK R → Option R := jl x53s0 (L := slices_insertionSortOrdered_int__l0_t R) x53c0 pH f
def x53J (k : Nat) : JTab R := tcons 0 (x53a0 z0 k) <| tcons 1 (x53a1 z1 k) <| tcons 2 (x53a2 z2 k) <| fun _ _ _ _ => none
def x53t : AT := (.seq (.reg [0,1,2,6] []) (.node (.opq 0 x53s0.ls x53s0.out (.node x53s0.t))))
def x53c (g : slices_insertionSortOrdered_int__u R) (H : Heap) (K : Value → Heap → Option R) : Option R := g H (rH [] K)
def x53a (f : slices_insertionSortOrdered_int__t R) : List Value → Heap → (Value → Heap → Option R) → Option R := jf 3 [.l,.n,.n] x53c f
variable {f0 z0 z1 z2}
theorem x53e2 (k : Nat) (H : Heap) (K : XK R) : jE Try.prog An 49 (x53C f0) (x53J z0 z1 z2 k) x53s2 (sel [1,0,0,1,0,0,1,0,0,0] (bd Try.f53)) H K = mapT (fun g => x53c2 g H K) x53s2.ts (slices_insertionSortOrdered_int__p2_b f0 k) := by kernel_rfl
theorem x53e1 (k n : Nat) (H : Heap) (K : XK R) : lE Try.prog An 49 (x53C f0) (x53J z0 z1 z2 k) x53s1 (sel [1,0,0,1,0,0,1,0,0] (bd Try.f53)) (x53a1 z1) n H K = mapT (fun g => pH g H) x53s1.ts (x53c1 (slices_insertionSortOrdered_int__l1_b z2 k) H K (x53c1 z1 H K n)) := by kernel_rfl
theorem x53e0 (k n : Nat) (H : Heap) (K : XK R) : lE Try.prog An 49 (x53C f0) (x53J z0 z1 z2 k) x53s0 (sel [1,0,0] (bd Try.f53)) (x53a0 z0) n H K = mapT (fun g => pH g H) x53s0.ts (x53c0 (slices_insertionSortOrdered_int__l0_b z1 k) H K (x53c0 z0 H K n)) := by kernel_rfl
theorem x53e (k : Nat) (H : Heap) (K : Value → Heap → Option R) : fE Try.prog An (x53C f0) (x53J z0 z1 z2 k) x53t Try.f53 [.l,.n,.n] H K = mapT (fun g => x53c g H K) [.l,.n,.n] (slices_insertionSortOrdered_int__b z0 k) := by kernel_rfl
theorem x53S (R : Type) (k : Nat) : CSound Try.prog (x53C (R := R) cmp_Less_int_) := csound_cons (x59cs R k) <| csound_nil
theorem x53j2 (R : Type) (k : Nat) : JS Try.prog 49 (x53a2 (slices_insertionSortOrdered_int__p2 (R := R) k) k) x53s2.ls x53s2.out (sel [1,0,0,1,0,0,1,0,0,0] (bd Try.f53)) := pj (x53S R k) (x53J (slices_insertionSortOrdered_int__l0 k) (slices_insertionSortOrdered_int__l1 k) (slices_insertionSortOrdered_int__p2 k) k) (by kernel_rfl) (A := True) trivial (by kernel_rfl) (fun _ _ => .trans (x53e2 _ _ _) (by kernel_rfl))
theorem x53j1 (R : Type) (k : Nat) : JS Try.prog 49 (x53a1 (slices_insertionSortOrdered_int__l1 (R := R) k) k) x53s1.ls x53s1.out (.loop (sel [1,0,0,1,0,0,1,0,0] (bd Try.f53))) := lj (x53S R k) (x53J (slices_insertionSortOrdered_int__l0 k) (slices_insertionSortOrdered_int__l1 k) (slices_insertionSortOrdered_int__p2 k) k) (by kernel_rfl) (A := JS Try.prog 49 (x53a2 (slices_insertionSortOrdered_int__p2 (R := R) k) k) x53s2.ls x53s2.out (sel [1,0,0,1,0,0,1,0,0,0] (bd Try.f53)) ∧ True) ⟨x53j2 R k,trivial⟩ (by kernel_rfl) (fun _ _ => by kernel_rfl) (fun _ _ _ => .trans (x53e1 _ _ _ _) (by kernel_rfl)) k
theorem x53j0 (R : Type) (k : Nat) : JS Try.prog 49 (x53a0 (slices_insertionSortOrdered_int__l0 (R := R) k) k) x53s0.ls x53s0.out (.loop (sel [1,0,0] (bd Try.f53))) := lj (x53S R k) (x53J (slices_insertionSortOrdered_int__l0 k) (slices_insertionSortOrdered_int__l1 k) (slices_insertionSortOrdered_int__p2 k) k) (by kernel_rfl) (A := JS Try.prog 49 (x53a1 (slices_insertionSortOrdered_int__l1 (R := R) k) k) x53s1.ls x53s1.out (.loop (sel [1,0,0,1,0,0,1,0,0] (bd Try.f53))) ∧ True) ⟨x53j1 R k,trivial⟩ (by kernel_rfl) (fun _ _ => by kernel_rfl) (fun _ _ _ => .trans (x53e0 _ _ _ _) (by kernel_rfl)) k
theorem x53cs (R : Type) (k : Nat) : ∀ args H K r,x53a (slices_insertionSortOrdered_int_ k) args H K = some (r : R) → ∃ v H',Tri Try.prog 53 args H v H' ∧ K v H' = some r := fj (x53S R k) (x53J (slices_insertionSortOrdered_int__l0 k) (slices_insertionSortOrdered_int__l1 k) (slices_insertionSortOrdered_int__p2 k) k) Try.func53 (by kernel_rfl) (A := JS Try.prog 49 (x53a0 (slices_insertionSortOrdered_int__l0 (R := R) k) k) x53s0.ls x53s0.out (.loop (sel [1,0,0] (bd Try.f53))) ∧ True) ⟨x53j0 R k,trivial⟩ (by kernel_rfl) (fun _ _ => .trans (x53e _ _ _) (by kernel_rfl))
end
/-! ### slices_pdqsortOrdered_int_: function 51 -/
abbrev slices_pdqsortOrdered_int__p1_u (R : Type) : Type := (Oa → Nat → Nat → Int → Int → Int → Bool → Bool → Int → Option R) → Option R
abbrev slices_pdqsortOrdered_int__p1_t (R : Type) : Type := Oa → Nat → Nat → Int → Int → Int → Bool → Bool → Int → slices_pdqsortOrdered_int__p1_u R
abbrev slices_pdqsortOrdered_int__l0_r (R : Type) : Type := Oa → Nat → Nat → Int → Int → Int → Bool → Bool → Heap → Option R
abbrev slices_pdqsortOrdered_int__l0_q (R T : Type) : Type := (Heap → Option R) → T
abbrev slices_pdqsortOrdered_int__l0_t (R : Type) : Type := slices_pdqsortOrdered_int__l0_q R (Nat → slices_pdqsortOrdered_int__l0_r R)
abbrev slices_pdqsortOrdered_int__u (R : Type) : Type := Heap → (Heap → Option R) → Option R
abbrev slices_pdqsortOrdered_int__t (R : Type) : Type := Oa → Nat → Nat → Int → Int → Int → slices_pdqsortOrdered_int__u R
section
variable {R : Type} (f0 : slices_insertionSortOrdered_int__t R) (z0 : slices_pdqsortOrdered_int__l0_t R) (z1 : slices_pdqsortOrdered_int__p1_t R)
def slices_pdqsortOrdered_int__p1_b (k : Nat) : slices_pdqsortOrdered_int__p1_t R := fun q1 l2 c3 n4 n5 n6 t7 t8 n9 KN =>
bif (!t7) then (none)
 else (KN q1 l2 c3 n4 n5 n6 t7 t8 n9)
def slices_pdqsortOrdered_int__p1 (k : Nat) : slices_pdqsortOrdered_int__p1_t R := slices_pdqsortOrdered_int__p1_b k
def slices_pdqsortOrdered_int__l0_b (k : Nat) : slices_pdqsortOrdered_int__l0_q R (slices_pdqsortOrdered_int__l0_r R → slices_pdqsortOrdered_int__l0_r R) := fun KR rec q1 l2 c3 n4 n5 n6 t7 t8 H =>
bif decide ((IntKind.wrap .i64 (n5 - n4)) ≤ 12) then (f0 q1 l2 c3 n4 n5 H fun H9 =>
KR H9)
 else (bif (n6 == 0) then (none)
 else (z1 q1 l2 c3 n4 n5 n6 t7 t8 (IntKind.wrap .i64 (n5 - n4)) (fun q19 l20 c21 n22 n23 n24 t25 t26 n27 =>
none)))
def slices_pdqsortOrdered_int__l0 (k : Nat) : slices_pdqsortOrdered_int__l0_t R
  | KR,0 => fun _ _ _ _ _ _ _ _ _ => none
  | KR,n + 1 => slices_pdqsortOrdered_int__l0_b (slices_insertionSortOrdered_int_ k) (slices_pdqsortOrdered_int__p1 k) k KR (slices_pdqsortOrdered_int__l0 k KR n)
def slices_pdqsortOrdered_int__b (k : Nat) : slices_pdqsortOrdered_int__t R := fun q1 l2 c3 n4 n5 n6 H K =>
z0 (fun H7 =>
K H7) k q1 l2 c3 n4 n5 n6 true true H
def slices_pdqsortOrdered_int_ (k : Nat) : slices_pdqsortOrdered_int__t R := slices_pdqsortOrdered_int__b (slices_pdqsortOrdered_int__l0 k) k
def x51C : Tab R := tcons 53 (x53a f0) <| fun _ _ _ _ => none
def x51s1 : PS := ⟨(.seq (.reg [0,1,2,3,8,9,10,35] []) (.cond (.seq (.reg [0,1,2,3,8,9,10] []) (.reg [0,1,2,3,8,9,10] [])) .leaf)),[0,1,2,3,8,9,10],[.l,.n,.n,.n,.b,.b,.n],⟨[0,1,2,3,8,9,10],[],[]⟩⟩
def x51c1 (g : slices_pdqsortOrdered_int__p1_u R) (H : Heap) (K : XK R) : Option R := g (kN .normal [0,1,2,3,8,9,10] [.l,.n,.n,.n,.b,.b,.n] K H)
def x51a1 (f : slices_pdqsortOrdered_int__p1_t R) : Nat → List Value → Heap → XK R → Option R := jp x51s1 x51c1 f
def x51s0 : PS := ⟨(.node (.seq (.reg [0,1,2,3,8,9,10] []) (.seq (.seq (.reg [0,1,2,3,8,9,10,23] []) (.cond (.seq (.reg [] []) .leaf) .leaf)) (.seq (.seq (.reg [0,1,2,3,8,9,10,29] []) (.cond (.seq (.reg [] []) .leaf) .leaf)) (.seq (.opq 1 x51s1.ls x51s1.out x51s1.t) (.seq (.reg [0,1,2,3,8,9,10,11,12] []) (.seq (.seq (.reg [0,1,2,3,8,9,10,11,12,50] []) (.cond (.seq (.reg [0,1,2,3,8,9,10,11] []) (.seq (.reg [0,1,2,3,8,9,10,11] []) (.reg [0,1,2,3,8,9,10,11,12] []))) .leaf)) (.seq (.seq (.reg [0,1,2,3,8,9,10,11,68] []) (.cond (.seq (.reg [0,1,2,3,8,9,10,11,72] []) (.cond .leaf .leaf)) .leaf)) (.seq (.seq (.reg [0,1,2,3,8,9,10,11,87] (ms [0,1,3,7,7,23,63,127,7,7,775,1799,4095,8191,16383])) (.cond (.seq (.reg [0,2,3,8,9,13] []) (.seq (.reg [0,1,2,3,8,9] []) .leaf)) .leaf)) (.seq (.reg [0,1,2,3,10,14,15] []) (.seq (.reg [0,1,2,3,9,10,14] []) (.seq (.reg [0,1,2,3,9,10,14,16,17] []) (.seq (.reg [0,1,2,3,9,14,16,17,18] []) (.seq (.reg [0,1,2,3,9,14,16,17,18,113] []) (.cond (.seq (.reg [0,1,2,3,8,9,14] []) (.seq (.reg [0,2,3,8,9,14] []) (.reg [0,1,2,3,8,9] []))) (.seq (.reg [0,1,2,3,8,9,14] []) (.seq (.reg [0,1,3,8,9,14] []) (.reg [0,1,2,3,8,9] [])))))))))))))))))),[0,1,2,3,8,9],[.l,.n,.n,.n,.b,.b],⟨[],[],[]⟩⟩
def x51c0 {T : Type} (g : slices_pdqsortOrdered_int__l0_q R T) (H : Heap) (K : XK R) : T := g (kH .ret [] [] K)
def x51a0 (f : slices_pdqsortOrdered_int__l0_t R) : Nat → List Value → Heap → XK R → Option R := jl x51s0 (L := slices_pdqsortOrdered_int__l0_t R) x51c0 pH f
def x51J (k : Nat) : JTab R := tcons 0 (x51a0 z0 k) <| tcons 1 (x51a1 z1 k) <| fun _ _ _ _ => none
def x51t : AT := (.seq (.reg [0,1,2,3,8] []) (.seq (.reg [0,1,2,3,8,9] []) (.node (.opq 0 x51s0.ls x51s0.out (.node x51s0.t)))))
def x51c (g : slices_pdqsortOrdered_int__u R) (H : Heap) (K : Value → Heap → Option R) : Option R := g H (rH [] K)
def x51a (f : slices_pdqsortOrdered_int__t R) : List Value → Heap → (Value → Heap → Option R) → Option R := jf 4 [.l,.n,.n,.n] x51c f
variable {f0 z0 z1}
theorem x51e1 (k : Nat) (H : Heap) (K : XK R) : jE Try.prog An 134 (x51C f0) (x51J z0 z1 k) x51s1 (sel [1,1,0,0,0,1,1,1,0] (bd Try.f51)) H K = mapT (fun g => x51c1 g H K) x51s1.ts (slices_pdqsortOrdered_int__p1_b k) := by kernel_rfl
theorem x51e0 (k n : Nat) (H : Heap) (K : XK R) : lE Try.prog An 134 (x51C f0) (x51J z0 z1 k) x51s0 (sel [1,1,0,0] (bd Try.f51)) (x51a0 z0) n H K = mapT (fun g => pH g H) x51s0.ts (x51c0 (slices_pdqsortOrdered_int__l0_b f0 z1 k) H K (x51c0 z0 H K n)) := by kernel_rfl
theorem x51e (k : Nat) (H : Heap) (K : Value → Heap → Option R) : fE Try.prog An (x51C f0) (x51J z0 z1 k) x51t Try.f51 [.l,.n,.n,.n] H K = mapT (fun g => x51c g H K) [.l,.n,.n,.n] (slices_pdqsortOrdered_int__b z0 k) := by kernel_rfl
theorem x51S (R : Type) (k : Nat) : CSound Try.prog (x51C (R := R) (slices_insertionSortOrdered_int_ k)) := csound_cons (x53cs R k) <| csound_nil
theorem x51j1 (R : Type) (k : Nat) : JS Try.prog 134 (x51a1 (slices_pdqsortOrdered_int__p1 (R := R) k) k) x51s1.ls x51s1.out (sel [1,1,0,0,0,1,1,1,0] (bd Try.f51)) := pj (x51S R k) (x51J (slices_pdqsortOrdered_int__l0 k) (slices_pdqsortOrdered_int__p1 k) k) (by kernel_rfl) (A := True) trivial (by kernel_rfl) (fun _ _ => .trans (x51e1 _ _ _) (by kernel_rfl))
theorem x51j0 (R : Type) (k : Nat) : JS Try.prog 134 (x51a0 (slices_pdqsortOrdered_int__l0 (R := R) k) k) x51s0.ls x51s0.out (.loop (sel [1,1,0,0] (bd Try.f51))) := lj (x51S R k) (x51J (slices_pdqsortOrdered_int__l0 k) (slices_pdqsortOrdered_int__p1 k) k) (by kernel_rfl) (A := JS Try.prog 134 (x51a1 (slices_pdqsortOrdered_int__p1 (R := R) k) k) x51s1.ls x51s1.out (sel [1,1,0,0,0,1,1,1,0] (bd Try.f51)) ∧ True) ⟨x51j1 R k,trivial⟩ (by kernel_rfl) (fun _ _ => by kernel_rfl) (fun _ _ _ => .trans (x51e0 _ _ _ _) (by kernel_rfl)) k
theorem x51cs (R : Type) (k : Nat) : ∀ args H K r,x51a (slices_pdqsortOrdered_int_ k) args H K = some (r : R) → ∃ v H',Tri Try.prog 51 args H v H' ∧ K v H' = some r := fj (x51S R k) (x51J (slices_pdqsortOrdered_int__l0 k) (slices_pdqsortOrdered_int__p1 k) k) Try.func51 (by kernel_rfl) (A := JS Try.prog 134 (x51a0 (slices_pdqsortOrdered_int__l0 (R := R) k) k) x51s0.ls x51s0.out (.loop (sel [1,1,0,0] (bd Try.f51))) ∧ True) ⟨x51j0 R k,trivial⟩ (by kernel_rfl) (fun _ _ => .trans (x51e _ _ _) (by kernel_rfl))
end
/-! ### slices_Sort___int_int_: function 49 -/
abbrev slices_Sort___int_int__u (R : Type) : Type := Heap → (Heap → Option R) → Option R
abbrev slices_Sort___int_int__t (R : Type) : Type := Oa → Nat → Nat → slices_Sort___int_int__u R
section
variable {R : Type} (f0 : bits_Len_t R) (f1 : slices_pdqsortOrdered_int__t R)
def slices_Sort___int_int__b (k : Nat) : slices_Sort___int_int__t R := fun q1 l2 c3 H K =>
f0 (IntKind.wrap .u64 ((l2 : Nat) : Int)) fun n4 =>
f1 q1 l2 c3 0 ((l2 : Nat) : Int) n4 H fun H5 =>
K H5
def slices_Sort___int_int_ (k : Nat) : slices_Sort___int_int__t R := slices_Sort___int_int__b (bits_Len k) (slices_pdqsortOrdered_int_ k) k
def x49C : Tab R := tcons 52 (x52a f0) <| tcons 51 (x51a f1) <| fun _ _ _ _ => none
def x49J (k : Nat) : JTab R := fun _ _ _ _ => none
def x49t : AT := (.seq (.reg [0,2] []) (.reg [] []))
def x49c (g : slices_Sort___int_int__u R) (H : Heap) (K : Value → Heap → Option R) : Option R := g H (rH [] K)
def x49a (f : slices_Sort___int_int__t R) : List Value → Heap → (Value → Heap → Option R) → Option R := jf 1 [.l] x49c f
variable {f0 f1}
theorem x49e (k : Nat) (H : Heap) (K : Value → Heap → Option R) : fE Try.prog An (x49C f0 f1) (x49J k) x49t Try.f49 [.l] H K = mapT (fun g => x49c g H K) [.l] (slices_Sort___int_int__b f0 f1 k) := by kernel_rfl
theorem x49S (R : Type) (k : Nat) : CSound Try.prog (x49C (R := R) (bits_Len k) (slices_pdqsortOrdered_int_ k)) := csound_cons (x52cs R k) <| csound_cons (x51cs R k) <| csound_nil
theorem x49cs (R : Type) (k : Nat) : ∀ args H K r,x49a (slices_Sort___int_int_ k) args H K = some (r : R) → ∃ v H',Tri Try.prog 49 args H v H' ∧ K v H' = some r := fj (x49S R k) (x49J k) Try.func49 (by kernel_rfl) (A := True) trivial (by kernel_rfl) (fun _ _ => .trans (x49e _ _ _) (by kernel_rfl))
end
/-! ### slices_Compact___int_int_: function 50 -/
abbrev slices_Compact___int_int__p2_u (R : Type) : Type := Heap → (Oa → Nat → Nat → Int → Oa → Nat → Nat → Int → Heap → Option R) → Option R
abbrev slices_Compact___int_int__p2_t (R : Type) : Type := Oa → Nat → Nat → Int → Oa → Nat → Nat → Int → slices_Compact___int_int__p2_u R
abbrev slices_Compact___int_int__l1_r (R : Type) : Type := Oa → Nat → Nat → Int → Oa → Nat → Nat → Int → Heap → Option R
abbrev slices_Compact___int_int__l1_q (R T : Type) : Type := (Oa → Nat → Nat → Int → Heap → Option R) → T
abbrev slices_Compact___int_int__l1_t (R : Type) : Type := slices_Compact___int_int__l1_q R (Nat → slices_Compact___int_int__l1_r R)
abbrev slices_Compact___int_int__l0_r (R : Type) : Type := Oa → Nat → Nat → Int → Heap → Option R
abbrev slices_Compact___int_int__l0_q (R T : Type) : Type := (Oa → Nat → Nat → Heap → Option R) → (Oa → Nat → Nat → Heap → Option R) → T
abbrev slices_Compact___int_int__l0_t (R : Type) : Type := slices_Compact___int_int__l0_q R (Nat → slices_Compact___int_int__l0_r R)
abbrev slices_Compact___int_int__u (R : Type) : Type := Heap → (Oa → Nat → Nat → Heap → Option R) → Option R
abbrev slices_Compact___int_int__t (R : Type) : Type := Oa → Nat → Nat → slices_Compact___int_int__u R
section
variable {R : Type} (z0 : slices_Compact___int_int__l0_t R) (z1 : slices_Compact___int_int__l1_t R) (z2 : slices_Compact___int_int__p2_t R)
def slices_Compact___int_int__p2_b (k : Nat) : slices_Compact___int_int__p2_t R := fun q1 l2 c3 n4 q5 l6 c7 n8 H KN =>
hidx q5 l6 n8 1 fun p9 =>
ldI .i64 H p9 fun n10 =>
hidx q5 l6 (IntKind.wrap .i64 (n8 - 1)) 1 fun p11 =>
ldI .i64 H p11 fun n12 =>
bif (n10 != n12) then (hidx q5 l6 n8 1 fun p13 =>
ldI .i64 H p13 fun n14 =>
hidx q1 l2 n4 1 fun p15 =>
hst1 H p15 (.int .i64 n14) fun H16 =>
KN q1 l2 c3 (IntKind.wrap .i64 (n4 + 1)) q5 l6 c7 n8 H16)
 else (KN q1 l2 c3 n4 q5 l6 c7 n8 H)
def slices_Compact___int_int__p2 (k : Nat) : slices_Compact___int_int__p2_t R := slices_Compact___int_int__p2_b k
def slices_Compact___int_int__l1_b (k : Nat) : slices_Compact___int_int__l1_q R (slices_Compact___int_int__l1_r R → slices_Compact___int_int__l1_r R) := fun KE2 rec q1 l2 c3 n4 q5 l6 c7 n8 H =>
bif decide (n8 < ((l6 : Nat) : Int)) then (z2 q1 l2 c3 n4 q5 l6 c7 n8 H (fun q17 l18 c19 n20 q21 l22 c23 n24 H25 =>
rec q17 l18 c19 n20 q21 l22 c23 (IntKind.wrap .i64 (n24 + 1)) H25))
 else (KE2 q1 l2 c3 n4 H)
def slices_Compact___int_int__l1 (k : Nat) : slices_Compact___int_int__l1_t R
  | KE2,0 => fun _ _ _ _ _ _ _ _ _ => none
  | KE2,n + 1 => slices_Compact___int_int__l1_b (slices_Compact___int_int__p2 k) k KE2 (slices_Compact___int_int__l1 k KE2 n)
def slices_Compact___int_int__l0_b (k : Nat) : slices_Compact___int_int__l0_q R (slices_Compact___int_int__l0_r R → slices_Compact___int_int__l0_r R) := fun KE0 KR rec q1 l2 c3 n4 H =>
bif decide (n4 < ((l2 : Nat) : Int)) then (hidx q1 l2 n4 1 fun p5 =>
ldI .i64 H p5 fun n6 =>
hidx q1 l2 (IntKind.wrap .i64 (n4 - 1)) 1 fun p7 =>
ldI .i64 H p7 fun n8 =>
bif (n6 == n8) then (hslc 1 q1 l2 c3 (some n4) none none fun q9 l10 c11 =>
z1 (fun q16 l17 c18 n19 H20 =>
hslc 1 q16 l17 c18 (some n19) none none fun q21 l22 c23 =>
hclr [.int .i64 0] H20 q21 l22 fun H24 =>
hslc 1 q16 l17 c18 none (some n19) none fun q25 l26 c27 =>
KR q25 l26 c27 H24) k q1 l2 c3 n4 q9 l10 c11 1 H)
 else (rec q1 l2 c3 (IntKind.wrap .i64 (n4 + 1)) H))
 else (KE0 q1 l2 c3 H)
def slices_Compact___int_int__l0 (k : Nat) : slices_Compact___int_int__l0_t R
  | KE0,KR,0 => fun _ _ _ _ _ => none
  | KE0,KR,n + 1 => slices_Compact___int_int__l0_b (slices_Compact___int_int__l1 k) k KE0 KR (slices_Compact___int_int__l0 k KE0 KR n)
def slices_Compact___int_int__b (k : Nat) : slices_Compact___int_int__t R := fun q1 l2 c3 H K =>
bif decide (((l2 : Nat) : Int) < 2) then (K q1 l2 c3 H)
 else (z0 (fun q10 l11 c12 H13 =>
K q10 l11 c12 H13) (fun q14 l15 c16 H17 =>
K q14 l15 c16 H17) k q1 l2 c3 1 H)
def slices_Compact___int_int_ (k : Nat) : slices_Compact___int_int__t R := slices_Compact___int_int__b (slices_Compact___int_int__l0 k) k
def x50C : Tab R := fun _ _ _ _ => none
def x50s2 : PS := ⟨(.node (.seq (.reg [0,3,4,5,44] (ms [0,0,3,7,0,0,32,112,240,511])) (.cond (.seq (.reg [0,3,4,5] []) (.reg [0,3,4,5] [])) .leaf))),[0,3,4,5],[.l,.n,.l,.n],⟨[0,3,4,5],[],[]⟩⟩
def x50c2 (g : slices_Compact___int_int__p2_u R) (H : Heap) (K : XK R) : Option R := g H (kH .normal [0,3,4,5] [.l,.n,.l,.n] K)
def x50a2 (f : slices_Compact___int_int__p2_t R) : Nat → List Value → Heap → XK R → Option R := jp x50s2 x50c2 f
def x50s1 : PS := ⟨(.seq (.seq (.reg [0,3,4,5,32] []) (.cond .leaf .leaf)) (.seq (.opq 2 x50s2.ls x50s2.out x50s2.t) (.reg [0,3,4,5] []))),[0,3,4,5],[.l,.n,.l,.n],⟨[],[(2,[0,3])],[]⟩⟩
def x50c1 {T : Type} (g : slices_Compact___int_int__l1_q R T) (H : Heap) (K : XK R) : T := g (kH (.exit 2) [0,3] [.l,.n] K)
def x50a1 (f : slices_Compact___int_int__l1_t R) : Nat → List Value → Heap → XK R → Option R := jl x50s1 (L := slices_Compact___int_int__l1_t R) x50c1 pH f
def x50s0 : PS := ⟨(.seq (.seq (.reg [0,3,13] []) (.cond .leaf .leaf)) (.seq (.node (.seq (.reg [0,3,25] (ms [0,0,3,7,0,0,32,112,240,511])) (.cond (.seq (.reg [0,3,4] []) (.seq (.seq (.reg [0,3,4,5] []) (.node (.opq 1 x50s1.ls x50s1.out (.node x50s1.t)))) (.seq (.reg [0,3] []) (.seq (.reg [2] []) .leaf)))) .leaf))) (.reg [0,3] []))),[0,3],[.l,.n],⟨[],[(0,[0])],[2]⟩⟩
def x50c0 {T : Type} (g : slices_Compact___int_int__l0_q R T) (H : Heap) (K : XK R) : T := g (kH (.exit 0) [0] [.l] K) (kH .ret [2] [.l] K)
def x50a0 (f : slices_Compact___int_int__l0_t R) : Nat → List Value → Heap → XK R → Option R := jl x50s0 (L := slices_Compact___int_int__l0_t R) x50c0 pH f
def x50J (k : Nat) : JTab R := tcons 0 (x50a0 z0 k) <| tcons 1 (x50a1 z1 k) <| tcons 2 (x50a2 z2 k) <| fun _ _ _ _ => none
def x50t : AT := (.seq (.reg [0] []) (.seq (.seq (.reg [0,8] []) (.cond (.seq (.reg [2] []) .leaf) .leaf)) (.seq (.seq (.reg [0,3] []) (.node (.opq 0 x50s0.ls x50s0.out (.node x50s0.t)))) (.seq (.reg [2] []) .leaf))))
def x50c (g : slices_Compact___int_int__u R) (H : Heap) (K : Value → Heap → Option R) : Option R := g H (rH [.l] K)
def x50a (f : slices_Compact___int_int__t R) : List Value → Heap → (Value → Heap → Option R) → Option R := jf 1 [.l] x50c f
variable {z0 z1 z2}
theorem x50e2 (k : Nat) (H : Heap) (K : XK R) : jE Try.prog An 61 (x50C) (x50J z0 z1 z2 k) x50s2 (sel [1,1,0,1,0,0,1,0,0,1,0,1,0,1,0,0,1,0] (bd Try.f50)) H K = mapT (fun g => x50c2 g H K) x50s2.ts (slices_Compact___int_int__p2_b k) := by kernel_rfl
theorem x50e1 (k n : Nat) (H : Heap) (K : XK R) : lE Try.prog An 61 (x50C) (x50J z0 z1 z2 k) x50s1 (sel [1,1,0,1,0,0,1,0,0,1,0,1,0,1,0,0] (bd Try.f50)) (x50a1 z1) n H K = mapT (fun g => pH g H) x50s1.ts (x50c1 (slices_Compact___int_int__l1_b z2 k) H K (x50c1 z1 H K n)) := by kernel_rfl
theorem x50e0 (k n : Nat) (H : Heap) (K : XK R) : lE Try.prog An 61 (x50C) (x50J z0 z1 z2 k) x50s0 (sel [1,1,0,1,0,0] (bd Try.f50)) (x50a0 z0) n H K = mapT (fun g => pH g H) x50s0.ts (x50c0 (slices_Compact___int_int__l0_b z1 k) H K (x50c0 z0 H K n)) := by kernel_rfl
theorem x50e (k : Nat) (H : Heap) (K : Value → Heap → Option R) : fE Try.prog An (x50C) (x50J z0 z1 z2 k) x50t Try.f50 [.l] H K = mapT (fun g => x50c g H K) [.l] (slices_Compact___int_int__b z0 k) := by kernel_rfl
theorem x50S (R : Type) (k : Nat) : CSound Try.prog (x50C (R := R)) := csound_nil
theorem x50j2 (R : Type) (k : Nat) : JS Try.prog 61 (x50a2 (slices_Compact___int_int__p2 (R := R) k) k) x50s2.ls x50s2.out (sel [1,1,0,1,0,0,1,0,0,1,0,1,0,1,0,0,1,0] (bd Try.f50)) := pj (x50S R k) (x50J (slices_Compact___int_int__l0 k) (slices_Compact___int_int__l1 k) (slices_Compact___int_int__p2 k) k) (by kernel_rfl) (A := True) trivial (by kernel_rfl) (fun _ _ => .trans (x50e2 _ _ _) (by kernel_rfl))
theorem x50j1 (R : Type) (k : Nat) : JS Try.prog 61 (x50a1 (slices_Compact___int_int__l1 (R := R) k) k) x50s1.ls x50s1.out (.loop (sel [1,1,0,1,0,0,1,0,0,1,0,1,0,1,0,0] (bd Try.f50))) := lj (x50S R k) (x50J (slices_Compact___int_int__l0 k) (slices_Compact___int_int__l1 k) (slices_Compact___int_int__p2 k) k) (by kernel_rfl) (A := JS Try.prog 61 (x50a2 (slices_Compact___int_int__p2 (R := R) k) k) x50s2.ls x50s2.out (sel [1,1,0,1,0,0,1,0,0,1,0,1,0,1,0,0,1,0] (bd Try.f50)) ∧ True) ⟨x50j2 R k,trivial⟩ (by kernel_rfl) (fun _ _ => by kernel_rfl) (fun _ _ _ => .trans (x50e1 _ _ _ _) (by kernel_rfl)) k
theorem x50j0 (R : Type) (k : Nat) : JS Try.prog 61 (x50a0 (slices_Compact___int_int__l0 (R := R) k) k) x50s0.ls x50s0.out (.loop (sel [1,1,0,1,0,0] (bd Try.f50))) := lj (x50S R k) (x50J (slices_Compact___int_int__l0 k) (slices_Compact___int_int__l1 k) (slices_Compact___int_int__p2 k) k) (by kernel_rfl) (A := JS Try.prog 61 (x50a1 (slices_Compact___int_int__l1 (R := R) k) k) x50s1.ls x50s1.out (.loop (sel [1,1,0,1,0,0,1,0,0,1,0,1,0,1,0,0] (bd Try.f50))) ∧ True) ⟨x50j1 R k,trivial⟩ (by kernel_rfl) (fun _ _ => by kernel_rfl) (fun _ _ _ => .trans (x50e0 _ _ _ _) (by kernel_rfl)) k
theorem x50cs (R : Type) (k : Nat) : ∀ args H K r,x50a (slices_Compact___int_int_ k) args H K = some (r : R) → ∃ v H',Tri Try.prog 50 args H v H' ∧ K v H' = some r := fj (x50S R k) (x50J (slices_Compact___int_int__l0 k) (slices_Compact___int_int__l1 k) (slices_Compact___int_int__p2 k) k) Try.func50 (by kernel_rfl) (A := JS Try.prog 61 (x50a0 (slices_Compact___int_int__l0 (R := R) k) k) x50s0.ls x50s0.out (.loop (sel [1,1,0,1,0,0] (bd Try.f50))) ∧ True) ⟨x50j0 R k,trivial⟩ (by kernel_rfl) (fun _ _ => .trans (x50e _ _ _) (by kernel_rfl))
end
/-! ### colorspec_roles: function 42 -/
abbrev colorspec_roles_p0_u (R : Type) : Type := Heap → (Oa → Option R) → (Bool → Option R) → Option R
abbrev colorspec_roles_p0_t (R : Type) : Type := Oa → colorspec_roles_p0_u R
abbrev colorspec_roles_p2_u (R : Type) : Type := Heap → (Oa → Int → Oa → Nat → Nat → Int → Int → Option R) → Option R
abbrev colorspec_roles_p2_t (R : Type) : Type := Oa → Int → Oa → Nat → Nat → Int → Int → colorspec_roles_p2_u R
abbrev colorspec_roles_l1_r (R : Type) : Type := Oa → Int → Oa → Nat → Nat → Int → Int → Heap → Option R
abbrev colorspec_roles_l1_q (R T : Type) : Type := (Oa → Int → Option R) → T
abbrev colorspec_roles_l1_t (R : Type) : Type := colorspec_roles_l1_q R (Nat → colorspec_roles_l1_r R)
abbrev colorspec_roles_p3_u (R : Type) : Type := Heap → (Oa → Option R) → (Bool → Option R) → Option R
abbrev colorspec_roles_p3_t (R : Type) : Type := Oa → Int → colorspec_roles_p3_u R
abbrev colorspec_roles_u (R : Type) : Type := Heap → (Bool → Heap → Option R) → Option R
abbrev colorspec_roles_t (R : Type) : Type := Int → Oa → Nat → Nat → Oa → Nat → Nat → colorspec_roles_u R
section
variable {R : Type} (f0 : colorspec_Channels_t R) (f1 : colorspec_within_t R) (f2 : slices_Clone___int_int__t R) (f3 : slices_Sort___int_int__t R) (f4 : slices_Compact___int_int__t R) (z0 : colorspec_roles_p0_t R) (z1 : colorspec_roles_l1_t R) (z2 : colorspec_roles_p2_t R) (z3 : colorspec_roles_p3_t R)
def colorspec_roles_p0_b (k : Nat) : colorspec_roles_p0_t R := fun p1 H KN KR =>
hfad 1 p1 fun p2 =>
ldL H p2 fun q3 l4 c5 =>
bif decide (((l4 : Nat) : Int) < 1) then (KR false)
 else (hfad 1 p1 fun p6 =>
ldL H p6 fun q7 l8 c9 =>
bif decide (((l8 : Nat) : Int) > 4) then (KR false)
 else (KN p1))
def colorspec_roles_p0 (k : Nat) : colorspec_roles_p0_t R := colorspec_roles_p0_b k
def colorspec_roles_p2_b (k : Nat) : colorspec_roles_p2_t R := fun p1 n2 q3 l4 c5 n6 n7 H KN =>
hidx q3 l4 n7 1 fun p8 =>
ldI .i64 H p8 fun n9 =>
bif (n9 != 0) then (KN p1 (IntKind.wrap .i64 (n2 + 1)) q3 l4 c5 n6 n7)
 else (KN p1 n2 q3 l4 c5 n6 n7)
def colorspec_roles_p2 (k : Nat) : colorspec_roles_p2_t R := colorspec_roles_p2_b k
def colorspec_roles_l1_b (k : Nat) : colorspec_roles_l1_q R (colorspec_roles_l1_r R → colorspec_roles_l1_r R) := fun KE0 rec p1 n2 q3 l4 c5 n6 n7 H =>
bif decide (n7 < n6) then (z2 p1 n2 q3 l4 c5 n6 n7 H (fun p15 n16 q17 l18 c19 n20 n21 =>
rec p15 n16 q17 l18 c19 n20 (IntKind.wrap .i64 (n21 + 1)) H))
 else (KE0 p1 n2)
def colorspec_roles_l1 (k : Nat) : colorspec_roles_l1_t R
  | KE0,0 => fun _ _ _ _ _ _ _ _ => none
  | KE0,n + 1 => colorspec_roles_l1_b (colorspec_roles_p2 k) k KE0 (colorspec_roles_l1 k KE0 n)
def colorspec_roles_p3_b (k : Nat) : colorspec_roles_p3_t R := fun p1 n2 H KN KR =>
bif decide (n2 < 1) then (KR false)
 else (hfad 1 p1 fun p3 =>
ldL H p3 fun q4 l5 c6 =>
bif decide ((IntKind.wrap .i64 (((l5 : Nat) : Int) - n2)) > 1) then (KR false)
 else (hfad 0 p1 fun p7 =>
ldI .i64 H p7 fun n8 =>
bif (n8 != 4) then (hfad 0 p1 fun p9 =>
ldI .i64 H p9 fun n10 =>
f0 n10 fun n11 =>
bif (n2 != n11) then (KR false)
 else (hfad 1 p1 fun p12 =>
ldL H p12 fun q13 l14 c15 =>
f1 0 n2 q13 l14 c15 H fun t16 =>
bif (!t16) then (KR false)
 else (KN p1)))
 else (hfad 1 p1 fun p17 =>
ldL H p17 fun q18 l19 c20 =>
f1 0 n2 q18 l19 c20 H fun t21 =>
bif (!t21) then (KR false)
 else (KN p1))))
def colorspec_roles_p3 (k : Nat) : colorspec_roles_p3_t R := colorspec_roles_p3_b colorspec_Channels (colorspec_within k) k
def colorspec_roles_b (k : Nat) : colorspec_roles_t R := fun n1 q2 l3 c4 q5 l6 c7 H K =>
hal H [.int .i64 n1,.slice q2 l3 c4,.slice q5 l6 c7] fun p8 H9 =>
z0 p8 H9 (fun p12 =>
hfad 1 p12 fun p13 =>
ldL H9 p13 fun q14 l15 c16 =>
z1 (fun p19 n20 =>
z3 p19 n20 H9 (fun p23 =>
hfad 1 p23 fun p24 =>
ldL H9 p24 fun q25 l26 c27 =>
f2 q25 l26 c27 H9 fun q28 l29 c30 H31 =>
f3 q28 l29 c30 H31 fun H32 =>
hfrz H32 p23 fun H33 =>
f4 q28 l29 c30 H33 fun q34 l35 c36 H37 =>
hfad 1 p23 fun p38 =>
bif isRo H33 p38 then (ldL H33 p38 fun q39 l40 c41 =>
K (((l35 : Nat) : Int) == ((l40 : Nat) : Int)) H37)
 else none) (fun t42 =>
K t42 H9)) k p12 0 q14 l15 c16 ((l15 : Nat) : Int) 0 H9) (fun t43 =>
K t43 H9)
def colorspec_roles (k : Nat) : colorspec_roles_t R := colorspec_roles_b slices_Clone___int_int_ (slices_Sort___int_int_ k) (slices_Compact___int_int_ k) (colorspec_roles_p0 k) (colorspec_roles_l1 k) (colorspec_roles_p3 k) k
def x42C : Tab R := tcons 13 (x13a f0) <| tcons 32 (x32a f1) <| tcons 46 (x46a f2) <| tcons 49 (x49a f3) <| tcons 50 (x50a f4) <| fun _ _ _ _ => none
def x42s3 : PS := ⟨(.seq (.reg [1,57] []) (.cond (.seq (.reg [2] []) .leaf) .leaf)),[1,3],[.p,.n],⟨[1],[],[2]⟩⟩
def x42c3 (g : colorspec_roles_p3_u R) (H : Heap) (K : XK R) : Option R := g H (kN .normal [1] [.p] K H) (kN .ret [2] [.b] K H)
def x42a3 (f : colorspec_roles_p3_t R) : Nat → List Value → Heap → XK R → Option R := jp x42s3 x42c3 f
def x42s2 : PS := ⟨(.node (.seq (.reg [1,3,5,18,19,20] []) (.seq (.reg [1,3,18,19,20,25] []) (.cond (.reg [1,3,18,19,20] []) .leaf)))),[1,3,18,19,20],[.p,.n,.l,.n,.n],⟨[1,3,18,19,20],[],[]⟩⟩
def x42c2 (g : colorspec_roles_p2_u R) (H : Heap) (K : XK R) : Option R := g H (kN .normal [1,3,18,19,20] [.p,.n,.l,.n,.n] K H)
def x42a2 (f : colorspec_roles_p2_t R) : Nat → List Value → Heap → XK R → Option R := jp x42s2 x42c2 f
def x42s1 : PS := ⟨(.seq (.reg [1,3,18,19,20,21] []) (.seq (.cond .leaf .leaf) (.seq (.opq 2 x42s2.ls x42s2.out x42s2.t) (.reg [1,3,18,19,20] [])))),[1,3,18,19,20],[.p,.n,.l,.n,.n],⟨[],[(0,[1,3])],[]⟩⟩
def x42c1 {T : Type} (g : colorspec_roles_l1_q R T) (H : Heap) (K : XK R) : T := g (kN (.exit 0) [1,3] [.p,.n] K H)
def x42a1 (f : colorspec_roles_l1_t R) : Nat → List Value → Heap → XK R → Option R := jl x42s1 (L := colorspec_roles_l1_t R) x42c1 pH f
def x42s0 : PS := ⟨(.seq (.reg [1,16] []) (.cond (.seq (.reg [2] []) .leaf) .leaf)),[1],[.p],⟨[1],[],[2]⟩⟩
def x42c0 (g : colorspec_roles_p0_u R) (H : Heap) (K : XK R) : Option R := g H (kN .normal [1] [.p] K H) (kN .ret [2] [.b] K H)
def x42a0 (f : colorspec_roles_p0_t R) : Nat → List Value → Heap → XK R → Option R := jp x42s0 x42c0 f
def x42J (k : Nat) : JTab R := tcons 0 (x42a0 z0 k) <| tcons 1 (x42a1 z1 k) <| tcons 2 (x42a2 z2 k) <| tcons 3 (x42a3 z3 k) <| fun _ _ _ _ => none
def x42t : AT := (.seq (.reg [1] []) (.seq (.opq 0 x42s0.ls x42s0.out x42s0.t) (.seq (.reg [1,3] []) (.seq (.seq (.reg [1,3,18,19,20] []) (.node (.opq 1 x42s1.ls x42s1.out (.node x42s1.t)))) (.seq (.opq 3 x42s3.ls x42s3.out x42s3.t) (.seq (.reg [1,6] []) (.seq (.reg [1,6] []) (.seq (.frz 1 (.reg [2] (ms [0,1,3,0,8,24,63,127]))) .leaf))))))))
def x42c (g : colorspec_roles_u R) (H : Heap) (K : Value → Heap → Option R) : Option R := g H (rH [.b] K)
def x42a (f : colorspec_roles_t R) : List Value → Heap → (Value → Heap → Option R) → Option R := jf 1 [(.a 3),.n,.l,.l] x42c f
variable {f0 f1 f2 f3 f4 z0 z1 z2 z3}
theorem x42e3 (k : Nat) (H : Heap) (K : XK R) : jE Try.prog An 70 (x42C f0 f1 f2 f3 f4) (x42J z0 z1 z2 z3 k) x42s3 (sel [1,1,1,1,0] (bd Try.f42)) H K = mapT (fun g => x42c3 g H K) x42s3.ts (colorspec_roles_p3_b f0 f1 k) := by kernel_rfl
theorem x42e2 (k : Nat) (H : Heap) (K : XK R) : jE Try.prog An 70 (x42C f0 f1 f2 f3 f4) (x42J z0 z1 z2 z3 k) x42s2 (sel [1,1,1,0,1,0,0,1,1,0] (bd Try.f42)) H K = mapT (fun g => x42c2 g H K) x42s2.ts (colorspec_roles_p2_b k) := by kernel_rfl
theorem x42e1 (k n : Nat) (H : Heap) (K : XK R) : lE Try.prog An 70 (x42C f0 f1 f2 f3 f4) (x42J z0 z1 z2 z3 k) x42s1 (sel [1,1,1,0,1,0,0] (bd Try.f42)) (x42a1 z1) n H K = mapT (fun g => pH g H) x42s1.ts (x42c1 (colorspec_roles_l1_b z2 k) H K (x42c1 z1 H K n)) := by kernel_rfl
theorem x42e0 (k : Nat) (H : Heap) (K : XK R) : jE Try.prog An 70 (x42C f0 f1 f2 f3 f4) (x42J z0 z1 z2 z3 k) x42s0 (sel [1,0] (bd Try.f42)) H K = mapT (fun g => x42c0 g H K) x42s0.ts (colorspec_roles_p0_b k) := by kernel_rfl
theorem x42e (k : Nat) (H : Heap) (K : Value → Heap → Option R) : fE Try.prog An (x42C f0 f1 f2 f3 f4) (x42J z0 z1 z2 z3 k) x42t Try.f42 [(.a 3),.n,.l,.l] H K = mapT (fun g => x42c g H K) [(.a 3),.n,.l,.l] (colorspec_roles_b f2 f3 f4 z0 z1 z3 k) := by kernel_rfl
theorem x42S (R : Type) (k : Nat) : CSound Try.prog (x42C (R := R) colorspec_Channels (colorspec_within k) slices_Clone___int_int_ (slices_Sort___int_int_ k) (slices_Compact___int_int_ k)) := csound_cons (x13cs R k) <| csound_cons (x32cs R k) <| csound_cons (x46cs R k) <| csound_cons (x49cs R k) <| csound_cons (x50cs R k) <| csound_nil
theorem x42j3 (R : Type) (k : Nat) : JS Try.prog 70 (x42a3 (colorspec_roles_p3 (R := R) k) k) x42s3.ls x42s3.out (sel [1,1,1,1,0] (bd Try.f42)) := pj (x42S R k) (x42J (colorspec_roles_p0 k) (colorspec_roles_l1 k) (colorspec_roles_p2 k) (colorspec_roles_p3 k) k) (by kernel_rfl) (A := True) trivial (by kernel_rfl) (fun _ _ => .trans (x42e3 _ _ _) (by kernel_rfl))
theorem x42j2 (R : Type) (k : Nat) : JS Try.prog 70 (x42a2 (colorspec_roles_p2 (R := R) k) k) x42s2.ls x42s2.out (sel [1,1,1,0,1,0,0,1,1,0] (bd Try.f42)) := pj (x42S R k) (x42J (colorspec_roles_p0 k) (colorspec_roles_l1 k) (colorspec_roles_p2 k) (colorspec_roles_p3 k) k) (by kernel_rfl) (A := True) trivial (by kernel_rfl) (fun _ _ => .trans (x42e2 _ _ _) (by kernel_rfl))
theorem x42j1 (R : Type) (k : Nat) : JS Try.prog 70 (x42a1 (colorspec_roles_l1 (R := R) k) k) x42s1.ls x42s1.out (.loop (sel [1,1,1,0,1,0,0] (bd Try.f42))) := lj (x42S R k) (x42J (colorspec_roles_p0 k) (colorspec_roles_l1 k) (colorspec_roles_p2 k) (colorspec_roles_p3 k) k) (by kernel_rfl) (A := JS Try.prog 70 (x42a2 (colorspec_roles_p2 (R := R) k) k) x42s2.ls x42s2.out (sel [1,1,1,0,1,0,0,1,1,0] (bd Try.f42)) ∧ True) ⟨x42j2 R k,trivial⟩ (by kernel_rfl) (fun _ _ => by kernel_rfl) (fun _ _ _ => .trans (x42e1 _ _ _ _) (by kernel_rfl)) k
theorem x42j0 (R : Type) (k : Nat) : JS Try.prog 70 (x42a0 (colorspec_roles_p0 (R := R) k) k) x42s0.ls x42s0.out (sel [1,0] (bd Try.f42)) := pj (x42S R k) (x42J (colorspec_roles_p0 k) (colorspec_roles_l1 k) (colorspec_roles_p2 k) (colorspec_roles_p3 k) k) (by kernel_rfl) (A := True) trivial (by kernel_rfl) (fun _ _ => .trans (x42e0 _ _ _) (by kernel_rfl))
theorem x42cs (R : Type) (k : Nat) : ∀ args H K r,x42a (colorspec_roles k) args H K = some (r : R) → ∃ v H',Tri Try.prog 42 args H v H' ∧ K v H' = some r := fj (x42S R k) (x42J (colorspec_roles_p0 k) (colorspec_roles_l1 k) (colorspec_roles_p2 k) (colorspec_roles_p3 k) k) Try.func42 (by kernel_rfl) (A := JS Try.prog 70 (x42a0 (colorspec_roles_p0 (R := R) k) k) x42s0.ls x42s0.out (sel [1,0] (bd Try.f42)) ∧ JS Try.prog 70 (x42a1 (colorspec_roles_l1 (R := R) k) k) x42s1.ls x42s1.out (.loop (sel [1,1,1,0,1,0,0] (bd Try.f42))) ∧ JS Try.prog 70 (x42a3 (colorspec_roles_p3 (R := R) k) k) x42s3.ls x42s3.out (sel [1,1,1,1,0] (bd Try.f42)) ∧ True) ⟨x42j0 R k,⟨x42j1 R k,⟨x42j3 R k,trivial⟩⟩⟩ (by kernel_rfl) (fun _ _ => .trans (x42e _ _ _) (by kernel_rfl))
end
/-! ### colorspec_depth: function 27 -/
abbrev colorspec_depth_l0_r (R : Type) : Type := Oa → Nat → Nat → Int → Option R
abbrev colorspec_depth_l0_q (R T : Type) : Type := (Unit → Option R) → (Int → Option R) → T
abbrev colorspec_depth_l0_t (R : Type) : Type := colorspec_depth_l0_q R (Nat → colorspec_depth_l0_r R)
abbrev colorspec_depth_u (R : Type) : Type := (Int → Option R) → Option R
abbrev colorspec_depth_t (R : Type) : Type := Oa → Nat → Nat → colorspec_depth_u R
section
variable {R : Type} (z0 : colorspec_depth_l0_t R)
def colorspec_depth_l0_b (k : Nat) : colorspec_depth_l0_q R (colorspec_depth_l0_r R → colorspec_depth_l0_r R) := fun KE0 KR rec q1 l2 c3 n4 =>
bif decide (n4 ≤ 8) then (hbin .shl .i64 1 (IntKind.wrap .u64 n4) fun n5 =>
bif (((l2 : Nat) : Int) == n5) then (KR n4)
 else (rec q1 l2 c3 (IntKind.wrap .i64 (n4 + 1))))
 else (KE0 ())
def colorspec_depth_l0 (k : Nat) : colorspec_depth_l0_t R
  | KE0,KR,0 => fun _ _ _ _ => none
  | KE0,KR,n + 1 => colorspec_depth_l0_b k KE0 KR (colorspec_depth_l0 k KE0 KR n)
def colorspec_depth_b (k : Nat) : colorspec_depth_t R := fun q1 l2 c3 K =>
z0 (fun (_ : Unit) =>
K 0) (fun n5 =>
K n5) k q1 l2 c3 1
def colorspec_depth (k : Nat) : colorspec_depth_t R := colorspec_depth_b (colorspec_depth_l0 k) k
def x27C : Tab R := fun _ _ _ _ => none
def x27s0 : PS := ⟨(.seq (.seq (.reg [0,3,5] []) (.cond .leaf .leaf)) (.seq (.node (.seq (.reg [0,3,13] []) (.cond (.seq (.reg [2] []) .leaf) .leaf))) (.reg [0,3] []))),[0,3],[.l,.n],⟨[],[(0,[])],[2]⟩⟩
def x27c0 {T : Type} (g : colorspec_depth_l0_q R T) (H : Heap) (K : XK R) : T := g (kU (.exit 0) K H) (kN .ret [2] [.n] K H)
def x27a0 (f : colorspec_depth_l0_t R) : Nat → List Value → Heap → XK R → Option R := jl x27s0 (L := colorspec_depth_l0_t R) x27c0 pN f
def x27J (k : Nat) : JTab R := tcons 0 (x27a0 z0 k) <| fun _ _ _ _ => none
def x27t : AT := (.seq (.reg [0] []) (.seq (.seq (.reg [0,3] []) (.node (.opq 0 x27s0.ls x27s0.out (.node x27s0.t)))) (.seq (.reg [2] []) .leaf)))
def x27c (g : colorspec_depth_u R) (H : Heap) (K : Value → Heap → Option R) : Option R := g (rN [.n] K H)
def x27a (f : colorspec_depth_t R) : List Value → Heap → (Value → Heap → Option R) → Option R := jf 1 [.l] x27c f
variable {z0}
theorem x27e0 (k n : Nat) (H : Heap) (K : XK R) : lE Try.prog An 15 (x27C) (x27J z0 k) x27s0 (sel [1,0,1,0,0] (bd Try.f27)) (x27a0 z0) n H K = mapT (fun g => pN g H) x27s0.ts (x27c0 (colorspec_depth_l0_b k) H K (x27c0 z0 H K n)) := by kernel_rfl
theorem x27e (k : Nat) (H : Heap) (K : Value → Heap → Option R) : fE Try.prog An (x27C) (x27J z0 k) x27t Try.f27 [.l] H K = mapT (fun g => x27c g H K) [.l] (colorspec_depth_b z0 k) := by kernel_rfl
theorem x27S (R : Type) (k : Nat) : CSound Try.prog (x27C (R := R)) := csound_nil
theorem x27j0 (R : Type) (k : Nat) : JS Try.prog 15 (x27a0 (colorspec_depth_l0 (R := R) k) k) x27s0.ls x27s0.out (.loop (sel [1,0,1,0,0] (bd Try.f27))) := lj (x27S R k) (x27J (colorspec_depth_l0 k) k) (by kernel_rfl) (A := True) trivial (by kernel_rfl) (fun _ _ => by kernel_rfl) (fun _ _ _ => .trans (x27e0 _ _ _ _) (by kernel_rfl)) k
theorem x27cs (R : Type) (k : Nat) : ∀ args H K r,x27a (colorspec_depth k) args H K = some (r : R) → ∃ v H',Tri Try.prog 27 args H v H' ∧ K v H' = some r := fj (x27S R k) (x27J (colorspec_depth_l0 k) k) Try.func27 (by kernel_rfl) (A := JS Try.prog 15 (x27a0 (colorspec_depth_l0 (R := R) k) k) x27s0.ls x27s0.out (.loop (sel [1,0,1,0,0] (bd Try.f27))) ∧ True) ⟨x27j0 R k,trivial⟩ (by kernel_rfl) (fun _ _ => .trans (x27e _ _ _) (by kernel_rfl))
end
/-! ### colorspec_validate: function 26 -/
abbrev colorspec_validate_p0_u (R : Type) : Type := Heap → (Oa → Heap → Option R) → (Int → Heap → Option R) → Option R
abbrev colorspec_validate_p0_t (R : Type) : Type := Oa → colorspec_validate_p0_u R
abbrev colorspec_validate_p2_u (R : Type) : Type := Heap → (Oa → Oa → Nat → Nat → Int → Int → Option R) → (Int → Option R) → Option R
abbrev colorspec_validate_p2_t (R : Type) : Type := Oa → Oa → Nat → Nat → Int → Int → colorspec_validate_p2_u R
abbrev colorspec_validate_l1_r (R : Type) : Type := Oa → Oa → Nat → Nat → Int → Int → Heap → Option R
abbrev colorspec_validate_l1_q (R T : Type) : Type := (Unit → Option R) → (Int → Option R) → T
abbrev colorspec_validate_l1_t (R : Type) : Type := colorspec_validate_l1_q R (Nat → colorspec_validate_l1_r R)
abbrev colorspec_validate_u (R : Type) : Type := Heap → (Int → Heap → Option R) → Option R
abbrev colorspec_validate_t (R : Type) : Type := Int → Oa → Nat → Nat → Oa → Nat → Nat → colorspec_validate_u R
section
variable {R : Type} (f0 : colorspec_known_t R) (f1 : colorspec_roles_t R) (f2 : colorspec_depth_t R) (f3 : colorspec_within_t R) (z0 : colorspec_validate_p0_t R) (z1 : colorspec_validate_l1_t R) (z2 : colorspec_validate_p2_t R)
def colorspec_validate_p0_b (k : Nat) : colorspec_validate_p0_t R := fun p1 H KN KR =>
ldI .i64 H (pad p1 0) fun n2 =>
ldL H (pad p1 1) fun q3 l4 c5 =>
ldL H (pad p1 2) fun q6 l7 c8 =>
f1 n2 q3 l4 c5 q6 l7 c8 H fun t9 H10 =>
bif (!t9) then (KR 21 H10)
 else (hfad 2 p1 fun p11 =>
ldL H10 p11 fun q12 l13 c14 =>
bif decide (((l13 : Nat) : Int) > 0) then (hfad 2 p1 fun p15 =>
ldL H10 p15 fun q16 l17 c18 =>
f2 q16 l17 c18 fun n19 =>
bif (n19 == 0) then (KR 21 H10)
 else (KN p1 H10))
 else (KN p1 H10))
def colorspec_validate_p0 (k : Nat) : colorspec_validate_p0_t R := colorspec_validate_p0_b (colorspec_roles k) (colorspec_depth k) k
def colorspec_validate_p2_b (k : Nat) : colorspec_validate_p2_t R := fun p1 q2 l3 c4 n5 n6 H KN KR =>
hidx q2 l3 n6 1 fun p7 =>
ldL H p7 fun q8 l9 c10 =>
hfad 1 p1 fun p11 =>
ldL H p11 fun q12 l13 c14 =>
bif (((l9 : Nat) : Int) != ((l13 : Nat) : Int)) then (KR 21)
 else (f3 0 255 q8 l9 c10 H fun t15 =>
bif (!t15) then (KR 21)
 else (KN p1 q2 l3 c4 n5 n6))
def colorspec_validate_p2 (k : Nat) : colorspec_validate_p2_t R := colorspec_validate_p2_b (colorspec_within k) k
def colorspec_validate_l1_b (k : Nat) : colorspec_validate_l1_q R (colorspec_validate_l1_r R → colorspec_validate_l1_r R) := fun KE0 KR rec p1 q2 l3 c4 n5 n6 H =>
bif decide (n6 < n5) then (z2 p1 q2 l3 c4 n5 n6 H (fun p14 q15 l16 c17 n18 n19 =>
rec p14 q15 l16 c17 n18 (IntKind.wrap .i64 (n19 + 1)) H) (fun n20 =>
KR n20))
 else (KE0 ())
def colorspec_validate_l1 (k : Nat) : colorspec_validate_l1_t R
  | KE0,KR,0 => fun _ _ _ _ _ _ _ => none
  | KE0,KR,n + 1 => colorspec_validate_l1_b (colorspec_validate_p2 k) k KE0 KR (colorspec_validate_l1 k KE0 KR n)
def colorspec_validate_b (k : Nat) : colorspec_validate_t R := fun n1 q2 l3 c4 q5 l6 c7 H K =>
hal H [.int .i64 n1,.slice q2 l3 c4,.slice q5 l6 c7] fun p8 H9 =>
hfad 0 p8 fun p10 =>
ldI .i64 H9 p10 fun n11 =>
f0 n11 fun t12 =>
bif (!t12) then (K 3 H9)
 else (z0 p8 H9 (fun p15 H16 =>
hfad 2 p15 fun p17 =>
ldL H16 p17 fun q18 l19 c20 =>
z1 (fun (_ : Unit) =>
K 0 H16) (fun n22 =>
K n22 H16) k p15 q18 l19 c20 ((l19 : Nat) : Int) 0 H16) (fun n23 H24 =>
K n23 H24))
def colorspec_validate (k : Nat) : colorspec_validate_t R := colorspec_validate_b colorspec_known (colorspec_validate_p0 k) (colorspec_validate_l1 k) k
def x26C : Tab R := tcons 41 (x41a f0) <| tcons 42 (x42a f1) <| tcons 27 (x27a f2) <| tcons 32 (x32a f3) <| fun _ _ _ _ => none
def x26s2 : PS := ⟨(.node (.seq (.reg [1,4,25,26,27] []) (.seq (.reg [1,25,26,27,41] []) (.cond (.seq (.reg [2] []) .leaf) .leaf)))),[1,25,26,27],[.p,.l,.n,.n],⟨[1,25,26,27],[],[2]⟩⟩
def x26c2 (g : colorspec_validate_p2_u R) (H : Heap) (K : XK R) : Option R := g H (kN .normal [1,25,26,27] [.p,.l,.n,.n] K H) (kN .ret [2] [.n] K H)
def x26a2 (f : colorspec_validate_p2_t R) : Nat → List Value → Heap → XK R → Option R := jp x26s2 x26c2 f
def x26s1 : PS := ⟨(.seq (.reg [1,25,26,27,28] []) (.seq (.cond .leaf .leaf) (.seq (.opq 2 x26s2.ls x26s2.out x26s2.t) (.reg [1,25,26,27] [])))),[1,25,26,27],[.p,.l,.n,.n],⟨[],[(0,[])],[2]⟩⟩
def x26c1 {T : Type} (g : colorspec_validate_l1_q R T) (H : Heap) (K : XK R) : T := g (kU (.exit 0) K H) (kN .ret [2] [.n] K H)
def x26a1 (f : colorspec_validate_l1_t R) : Nat → List Value → Heap → XK R → Option R := jl x26s1 (L := colorspec_validate_l1_t R) x26c1 pH f
def x26s0 : PS := ⟨(.seq (.reg [1,23] []) (.cond (.seq (.reg [2] []) .leaf) .leaf)),[1],[.p],⟨[1],[],[2]⟩⟩
def x26c0 (g : colorspec_validate_p0_u R) (H : Heap) (K : XK R) : Option R := g H (kH .normal [1] [.p] K) (kH .ret [2] [.n] K)
def x26a0 (f : colorspec_validate_p0_t R) : Nat → List Value → Heap → XK R → Option R := jp x26s0 x26c0 f
def x26J (k : Nat) : JTab R := tcons 0 (x26a0 z0 k) <| tcons 1 (x26a1 z1 k) <| tcons 2 (x26a2 z2 k) <| fun _ _ _ _ => none
def x26t : AT := (.seq (.reg [1] []) (.seq (.seq (.reg [1,8] []) (.cond (.seq (.reg [2] []) .leaf) .leaf)) (.seq (.opq 0 x26s0.ls x26s0.out x26s0.t) (.seq (.seq (.reg [1,25,26,27] []) (.node (.opq 1 x26s1.ls x26s1.out (.node x26s1.t)))) (.seq (.reg [2] []) .leaf)))))
def x26c (g : colorspec_validate_u R) (H : Heap) (K : Value → Heap → Option R) : Option R := g H (rH [.n] K)
def x26a (f : colorspec_validate_t R) : List Value → Heap → (Value → Heap → Option R) → Option R := jf 1 [(.a 3),.n,.l,.l] x26c f
variable {f0 f1 f2 f3 z0 z1 z2}
theorem x26e2 (k : Nat) (H : Heap) (K : XK R) : jE Try.prog An 43 (x26C f0 f1 f2 f3) (x26J z0 z1 z2 k) x26s2 (sel [1,1,1,0,1,0,0,1,1,0] (bd Try.f26)) H K = mapT (fun g => x26c2 g H K) x26s2.ts (colorspec_validate_p2_b f3 k) := by kernel_rfl
theorem x26e1 (k n : Nat) (H : Heap) (K : XK R) : lE Try.prog An 43 (x26C f0 f1 f2 f3) (x26J z0 z1 z2 k) x26s1 (sel [1,1,1,0,1,0,0] (bd Try.f26)) (x26a1 z1) n H K = mapT (fun g => pH g H) x26s1.ts (x26c1 (colorspec_validate_l1_b z2 k) H K (x26c1 z1 H K n)) := by kernel_rfl
theorem x26e0 (k : Nat) (H : Heap) (K : XK R) : jE Try.prog An 43 (x26C f0 f1 f2 f3) (x26J z0 z1 z2 k) x26s0 (sel [1,1,0] (bd Try.f26)) H K = mapT (fun g => x26c0 g H K) x26s0.ts (colorspec_validate_p0_b f1 f2 k) := by kernel_rfl
theorem x26e (k : Nat) (H : Heap) (K : Value → Heap → Option R) : fE Try.prog An (x26C f0 f1 f2 f3) (x26J z0 z1 z2 k) x26t Try.f26 [(.a 3),.n,.l,.l] H K = mapT (fun g => x26c g H K) [(.a 3),.n,.l,.l] (colorspec_validate_b f0 z0 z1 k) := by kernel_rfl
theorem x26S (R : Type) (k : Nat) : CSound Try.prog (x26C (R := R) colorspec_known (colorspec_roles k) (colorspec_depth k) (colorspec_within k)) := csound_cons (x41cs R k) <| csound_cons (x42cs R k) <| csound_cons (x27cs R k) <| csound_cons (x32cs R k) <| csound_nil
theorem x26j2 (R : Type) (k : Nat) : JS Try.prog 43 (x26a2 (colorspec_validate_p2 (R := R) k) k) x26s2.ls x26s2.out (sel [1,1,1,0,1,0,0,1,1,0] (bd Try.f26)) := pj (x26S R k) (x26J (colorspec_validate_p0 k) (colorspec_validate_l1 k) (colorspec_validate_p2 k) k) (by kernel_rfl) (A := True) trivial (by kernel_rfl) (fun _ _ => .trans (x26e2 _ _ _) (by kernel_rfl))
theorem x26j1 (R : Type) (k : Nat) : JS Try.prog 43 (x26a1 (colorspec_validate_l1 (R := R) k) k) x26s1.ls x26s1.out (.loop (sel [1,1,1,0,1,0,0] (bd Try.f26))) := lj (x26S R k) (x26J (colorspec_validate_p0 k) (colorspec_validate_l1 k) (colorspec_validate_p2 k) k) (by kernel_rfl) (A := JS Try.prog 43 (x26a2 (colorspec_validate_p2 (R := R) k) k) x26s2.ls x26s2.out (sel [1,1,1,0,1,0,0,1,1,0] (bd Try.f26)) ∧ True) ⟨x26j2 R k,trivial⟩ (by kernel_rfl) (fun _ _ => by kernel_rfl) (fun _ _ _ => .trans (x26e1 _ _ _ _) (by kernel_rfl)) k
theorem x26j0 (R : Type) (k : Nat) : JS Try.prog 43 (x26a0 (colorspec_validate_p0 (R := R) k) k) x26s0.ls x26s0.out (sel [1,1,0] (bd Try.f26)) := pj (x26S R k) (x26J (colorspec_validate_p0 k) (colorspec_validate_l1 k) (colorspec_validate_p2 k) k) (by kernel_rfl) (A := True) trivial (by kernel_rfl) (fun _ _ => .trans (x26e0 _ _ _) (by kernel_rfl))
theorem x26cs (R : Type) (k : Nat) : ∀ args H K r,x26a (colorspec_validate k) args H K = some (r : R) → ∃ v H',Tri Try.prog 26 args H v H' ∧ K v H' = some r := fj (x26S R k) (x26J (colorspec_validate_p0 k) (colorspec_validate_l1 k) (colorspec_validate_p2 k) k) Try.func26 (by kernel_rfl) (A := JS Try.prog 43 (x26a0 (colorspec_validate_p0 (R := R) k) k) x26s0.ls x26s0.out (sel [1,1,0] (bd Try.f26)) ∧ JS Try.prog 43 (x26a1 (colorspec_validate_l1 (R := R) k) k) x26s1.ls x26s1.out (.loop (sel [1,1,1,0,1,0,0] (bd Try.f26))) ∧ True) ⟨x26j0 R k,⟨x26j1 R k,trivial⟩⟩ (by kernel_rfl) (fun _ _ => .trans (x26e _ _ _) (by kernel_rfl))
end
end Go.Proofs.Ytkjcjlembepdkaa.Sh
