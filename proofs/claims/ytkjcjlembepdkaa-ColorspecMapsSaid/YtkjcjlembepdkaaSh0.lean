/- Lean functions that stand for Go's,over an explicit heap,and the proofs that they do (written by this claim's program sh2.py). -/
import Derived.Test.YtkjcjlembepdkaaShA
set_option maxRecDepth 100000
set_option linter.unusedVariables false
set_option linter.unusedSimpArgs false
namespace Go.Proofs.Ytkjcjlembepdkaa.Sh
open Go.Proofs.Ytkjcjlembepdkaa.FW
/-! ### colorspec_known: function 41 -/
abbrev colorspec_known_u (R : Type) : Type := (Bool → Option R) → Option R
abbrev colorspec_known_t (R : Type) : Type := Int → colorspec_known_u R
section
variable {R : Type}
def colorspec_known_b (k : Nat) : colorspec_known_t R := fun n1 K =>
bif decide (n1 ≥ 1) then (K (decide (n1 ≤ 4)))
 else (K false)
def colorspec_known : colorspec_known_t R := colorspec_known_b 0
def x41C : Tab R := fun _ _ _ _ => none
def x41J (k : Nat) : JTab R := fun _ _ _ _ => none
def x41t : AT := (.seq (.reg [0] []) (.seq (.reg [2] []) .leaf))
def x41c (g : colorspec_known_u R) (H : Heap) (K : Value → Heap → Option R) : Option R := g (rN [.b] K H)
def x41a (f : colorspec_known_t R) : List Value → Heap → (Value → Heap → Option R) → Option R := jf 1 [.n] x41c f
theorem x41e (k : Nat) (H : Heap) (K : Value → Heap → Option R) : fE Try.prog An (x41C) (x41J k) x41t Try.f41 [.n] H K = mapT (fun g => x41c g H K) [.n] (colorspec_known_b k) := by kernel_rfl
theorem x41S (R : Type) (k : Nat) : CSound Try.prog (x41C (R := R)) := csound_nil
theorem x41cs (R : Type) (k : Nat) : ∀ args H K r,x41a (colorspec_known) args H K = some (r : R) → ∃ v H',Tri Try.prog 41 args H v H' ∧ K v H' = some r := fj (x41S R k) (x41J 0) Try.func41 (by kernel_rfl) (A := True) trivial (by kernel_rfl) (fun _ _ => .trans (x41e _ _ _) (by kernel_rfl))
end
/-! ### colorspec_Channels: function 13 -/
abbrev colorspec_Channels_u (R : Type) : Type := (Int → Option R) → Option R
abbrev colorspec_Channels_t (R : Type) : Type := Int → colorspec_Channels_u R
section
variable {R : Type}
def colorspec_Channels_b (k : Nat) : colorspec_Channels_t R := fun n1 K =>
bif (n1 == 1) then (K 1)
 else (bif (n1 == 2) then (bif (n1 == 2) then (K 3)
 else (K 0))
 else (bif (n1 == 3) then (K 3)
 else (K 0)))
def colorspec_Channels : colorspec_Channels_t R := colorspec_Channels_b 0
def x13C : Tab R := fun _ _ _ _ => none
def x13J (k : Nat) : JTab R := fun _ _ _ _ => none
def x13t : AT := (.seq (.reg [0] []) (.seq (.seq (.reg [3] []) (.node (.seq (.reg [3,4] []) (.cond (.seq (.reg [2] []) .leaf) (.seq (.seq (.reg [3,6] []) (.cond .leaf (.reg [6] []))) (.cond (.seq (.reg [2] []) .leaf) .leaf)))))) (.seq (.reg [2] []) .leaf)))
def x13c (g : colorspec_Channels_u R) (H : Heap) (K : Value → Heap → Option R) : Option R := g (rN [.n] K H)
def x13a (f : colorspec_Channels_t R) : List Value → Heap → (Value → Heap → Option R) → Option R := jf 1 [.n] x13c f
theorem x13e (k : Nat) (H : Heap) (K : Value → Heap → Option R) : fE Try.prog An (x13C) (x13J k) x13t Try.f13 [.n] H K = mapT (fun g => x13c g H K) [.n] (colorspec_Channels_b k) := by kernel_rfl
theorem x13S (R : Type) (k : Nat) : CSound Try.prog (x13C (R := R)) := csound_nil
theorem x13cs (R : Type) (k : Nat) : ∀ args H K r,x13a (colorspec_Channels) args H K = some (r : R) → ∃ v H',Tri Try.prog 13 args H v H' ∧ K v H' = some r := fj (x13S R k) (x13J 0) Try.func13 (by kernel_rfl) (A := True) trivial (by kernel_rfl) (fun _ _ => .trans (x13e _ _ _) (by kernel_rfl))
end
/-! ### colorspec_within: function 32 -/
abbrev colorspec_within_p1_u (R : Type) : Type := Heap → (Int → Int → Oa → Nat → Nat → Int → Int → Option R) → (Bool → Option R) → Option R
abbrev colorspec_within_p1_t (R : Type) : Type := Int → Int → Oa → Nat → Nat → Int → Int → colorspec_within_p1_u R
abbrev colorspec_within_l0_r (R : Type) : Type := Int → Int → Oa → Nat → Nat → Int → Int → Heap → Option R
abbrev colorspec_within_l0_q (R T : Type) : Type := (Unit → Option R) → (Bool → Option R) → T
abbrev colorspec_within_l0_t (R : Type) : Type := colorspec_within_l0_q R (Nat → colorspec_within_l0_r R)
abbrev colorspec_within_u (R : Type) : Type := Heap → (Bool → Option R) → Option R
abbrev colorspec_within_t (R : Type) : Type := Int → Int → Oa → Nat → Nat → colorspec_within_u R
section
variable {R : Type} (z0 : colorspec_within_l0_t R) (z1 : colorspec_within_p1_t R)
def colorspec_within_p1_b (k : Nat) : colorspec_within_p1_t R := fun n1 n2 q3 l4 c5 n6 n7 H KN KR =>
hidx q3 l4 n7 1 fun p8 =>
ldI .i64 H p8 fun n9 =>
bif decide (n9 < n1) then (KR false)
 else (bif decide (n9 > n2) then (KR false)
 else (KN n1 n2 q3 l4 c5 n6 n7))
def colorspec_within_p1 (k : Nat) : colorspec_within_p1_t R := colorspec_within_p1_b k
def colorspec_within_l0_b (k : Nat) : colorspec_within_l0_q R (colorspec_within_l0_r R → colorspec_within_l0_r R) := fun KE0 KR rec n1 n2 q3 l4 c5 n6 n7 H =>
bif decide (n7 < n6) then (z1 n1 n2 q3 l4 c5 n6 n7 H (fun n16 n17 q18 l19 c20 n21 n22 =>
rec n16 n17 q18 l19 c20 n21 (IntKind.wrap .i64 (n22 + 1)) H) (fun t23 =>
KR t23))
 else (KE0 ())
def colorspec_within_l0 (k : Nat) : colorspec_within_l0_t R
  | KE0,KR,0 => fun _ _ _ _ _ _ _ _ => none
  | KE0,KR,n + 1 => colorspec_within_l0_b (colorspec_within_p1 k) k KE0 KR (colorspec_within_l0 k KE0 KR n)
def colorspec_within_b (k : Nat) : colorspec_within_t R := fun n1 n2 q3 l4 c5 H K =>
z0 (fun (_ : Unit) =>
K true) (fun t7 =>
K t7) k n1 n2 q3 l4 c5 ((l4 : Nat) : Int) 0 H
def colorspec_within (k : Nat) : colorspec_within_t R := colorspec_within_b (colorspec_within_l0 k) k
def x32C : Tab R := fun _ _ _ _ => none
def x32s1 : PS := ⟨(.node (.seq (.reg [0,1,8,9,10,11] []) (.seq (.reg [0,1,9,10,11,22] []) (.cond (.seq (.reg [6] []) .leaf) .leaf)))),[0,1,9,10,11],[.n,.n,.l,.n,.n],⟨[0,1,9,10,11],[],[6]⟩⟩
def x32c1 (g : colorspec_within_p1_u R) (H : Heap) (K : XK R) : Option R := g H (kN .normal [0,1,9,10,11] [.n,.n,.l,.n,.n] K H) (kN .ret [6] [.b] K H)
def x32a1 (f : colorspec_within_p1_t R) : Nat → List Value → Heap → XK R → Option R := jp x32s1 x32c1 f
def x32s0 : PS := ⟨(.seq (.reg [0,1,9,10,11,12] []) (.seq (.cond .leaf .leaf) (.seq (.opq 1 x32s1.ls x32s1.out x32s1.t) (.reg [0,1,9,10,11] [])))),[0,1,9,10,11],[.n,.n,.l,.n,.n],⟨[],[(0,[])],[6]⟩⟩
def x32c0 {T : Type} (g : colorspec_within_l0_q R T) (H : Heap) (K : XK R) : T := g (kU (.exit 0) K H) (kN .ret [6] [.b] K H)
def x32a0 (f : colorspec_within_l0_t R) : Nat → List Value → Heap → XK R → Option R := jl x32s0 (L := colorspec_within_l0_t R) x32c0 pH f
def x32J (k : Nat) : JTab R := tcons 0 (x32a0 z0 k) <| tcons 1 (x32a1 z1 k) <| fun _ _ _ _ => none
def x32t : AT := (.seq (.reg [0,1,2] []) (.seq (.seq (.reg [0,1,9,10,11] []) (.node (.opq 0 x32s0.ls x32s0.out (.node x32s0.t)))) (.seq (.reg [6] []) .leaf)))
def x32c (g : colorspec_within_u R) (H : Heap) (K : Value → Heap → Option R) : Option R := g H (rN [.b] K H)
def x32a (f : colorspec_within_t R) : List Value → Heap → (Value → Heap → Option R) → Option R := jf 3 [.n,.n,.l] x32c f
variable {z0 z1}
theorem x32e1 (k : Nat) (H : Heap) (K : XK R) : jE Try.prog An 24 (x32C) (x32J z0 z1 k) x32s1 (sel [1,0,1,0,0,1,1,0] (bd Try.f32)) H K = mapT (fun g => x32c1 g H K) x32s1.ts (colorspec_within_p1_b k) := by kernel_rfl
theorem x32e0 (k n : Nat) (H : Heap) (K : XK R) : lE Try.prog An 24 (x32C) (x32J z0 z1 k) x32s0 (sel [1,0,1,0,0] (bd Try.f32)) (x32a0 z0) n H K = mapT (fun g => pH g H) x32s0.ts (x32c0 (colorspec_within_l0_b z1 k) H K (x32c0 z0 H K n)) := by kernel_rfl
theorem x32e (k : Nat) (H : Heap) (K : Value → Heap → Option R) : fE Try.prog An (x32C) (x32J z0 z1 k) x32t Try.f32 [.n,.n,.l] H K = mapT (fun g => x32c g H K) [.n,.n,.l] (colorspec_within_b z0 k) := by kernel_rfl
theorem x32S (R : Type) (k : Nat) : CSound Try.prog (x32C (R := R)) := csound_nil
theorem x32j1 (R : Type) (k : Nat) : JS Try.prog 24 (x32a1 (colorspec_within_p1 (R := R) k) k) x32s1.ls x32s1.out (sel [1,0,1,0,0,1,1,0] (bd Try.f32)) := pj (x32S R k) (x32J (colorspec_within_l0 k) (colorspec_within_p1 k) k) (by kernel_rfl) (A := True) trivial (by kernel_rfl) (fun _ _ => .trans (x32e1 _ _ _) (by kernel_rfl))
theorem x32j0 (R : Type) (k : Nat) : JS Try.prog 24 (x32a0 (colorspec_within_l0 (R := R) k) k) x32s0.ls x32s0.out (.loop (sel [1,0,1,0,0] (bd Try.f32))) := lj (x32S R k) (x32J (colorspec_within_l0 k) (colorspec_within_p1 k) k) (by kernel_rfl) (A := JS Try.prog 24 (x32a1 (colorspec_within_p1 (R := R) k) k) x32s1.ls x32s1.out (sel [1,0,1,0,0,1,1,0] (bd Try.f32)) ∧ True) ⟨x32j1 R k,trivial⟩ (by kernel_rfl) (fun _ _ => by kernel_rfl) (fun _ _ _ => .trans (x32e0 _ _ _ _) (by kernel_rfl)) k
theorem x32cs (R : Type) (k : Nat) : ∀ args H K r,x32a (colorspec_within k) args H K = some (r : R) → ∃ v H',Tri Try.prog 32 args H v H' ∧ K v H' = some r := fj (x32S R k) (x32J (colorspec_within_l0 k) (colorspec_within_p1 k) k) Try.func32 (by kernel_rfl) (A := JS Try.prog 24 (x32a0 (colorspec_within_l0 (R := R) k) k) x32s0.ls x32s0.out (.loop (sel [1,0,1,0,0] (bd Try.f32))) ∧ True) ⟨x32j0 R k,trivial⟩ (by kernel_rfl) (fun _ _ => .trans (x32e _ _ _) (by kernel_rfl))
end
/-! ### slices_Clone___int_int_: function 46 -/
abbrev slices_Clone___int_int__u (R : Type) : Type := Heap → (Oa → Nat → Nat → Heap → Option R) → Option R
abbrev slices_Clone___int_int__t (R : Type) : Type := Oa → Nat → Nat → slices_Clone___int_int__u R
section
variable {R : Type}
def slices_Clone___int_int__b (k : Nat) : slices_Clone___int_int__t R := fun q1 l2 c3 H K =>
bif q1.isNone then (K none 0 0 H)
 else (hal H [] fun p4 H5 =>
happS 1 8 H5 p4 0 0 q1 l2 fun q6 l7 c8 H9 =>
K q6 l7 c8 H9)
def slices_Clone___int_int_ : slices_Clone___int_int__t R := slices_Clone___int_int__b 0
def x46C : Tab R := fun _ _ _ _ => none
def x46J (k : Nat) : JTab R := fun _ _ _ _ => none
def x46t : AT := (.seq (.reg [0] []) (.seq (.seq (.reg [0,4] []) (.cond (.seq (.reg [2] []) .leaf) .leaf)) (.seq (.reg [2] []) .leaf)))
def x46c (g : slices_Clone___int_int__u R) (H : Heap) (K : Value → Heap → Option R) : Option R := g H (rH [.l] K)
def x46a (f : slices_Clone___int_int__t R) : List Value → Heap → (Value → Heap → Option R) → Option R := jf 1 [.l] x46c f
theorem x46e (k : Nat) (H : Heap) (K : Value → Heap → Option R) : fE Try.prog An (x46C) (x46J k) x46t Try.f46 [.l] H K = mapT (fun g => x46c g H K) [.l] (slices_Clone___int_int__b k) := by kernel_rfl
theorem x46S (R : Type) (k : Nat) : CSound Try.prog (x46C (R := R)) := csound_nil
theorem x46cs (R : Type) (k : Nat) : ∀ args H K r,x46a (slices_Clone___int_int_) args H K = some (r : R) → ∃ v H',Tri Try.prog 46 args H v H' ∧ K v H' = some r := fj (x46S R k) (x46J 0) Try.func46 (by kernel_rfl) (A := True) trivial (by kernel_rfl) (fun _ _ => .trans (x46e _ _ _) (by kernel_rfl))
end
/-! ### bits_Len64: function 63 -/
abbrev bits_Len64_p0_u (R : Type) : Type := (Int → Int → Option R) → Option R
abbrev bits_Len64_p0_t (R : Type) : Type := Int → Int → bits_Len64_p0_u R
abbrev bits_Len64_p1_u (R : Type) : Type := (Int → Int → Option R) → Option R
abbrev bits_Len64_p1_t (R : Type) : Type := Int → Int → bits_Len64_p1_u R
abbrev bits_Len64_p2_u (R : Type) : Type := (Int → Int → Option R) → Option R
abbrev bits_Len64_p2_t (R : Type) : Type := Int → Int → bits_Len64_p2_u R
abbrev bits_Len64_u (R : Type) : Type := (Int → Option R) → Option R
abbrev bits_Len64_t (R : Type) : Type := Int → bits_Len64_u R
section
variable {R : Type} (z0 : bits_Len64_p0_t R) (z1 : bits_Len64_p1_t R) (z2 : bits_Len64_p2_t R)
def bits_Len64_p0_b (k : Nat) : bits_Len64_p0_t R := fun n1 n2 KN =>
bif decide (n1 ≥ 4294967296) then (KN (Int.fdiv n1 4294967296) 32)
 else (KN n1 n2)
def bits_Len64_p0 (k : Nat) : bits_Len64_p0_t R := bits_Len64_p0_b k
def bits_Len64_p1_b (k : Nat) : bits_Len64_p1_t R := fun n1 n2 KN =>
bif decide (n1 ≥ 65536) then (KN (Int.fdiv n1 65536) (IntKind.wrap .i64 (n2 + 16)))
 else (KN n1 n2)
def bits_Len64_p1 (k : Nat) : bits_Len64_p1_t R := bits_Len64_p1_b k
def bits_Len64_p2_b (k : Nat) : bits_Len64_p2_t R := fun n1 n2 KN =>
bif decide (n1 ≥ 256) then (KN (Int.fdiv n1 256) (IntKind.wrap .i64 (n2 + 8)))
 else (KN n1 n2)
def bits_Len64_p2 (k : Nat) : bits_Len64_p2_t R := bits_Len64_p2_b k
def bits_Len64_b (k : Nat) : bits_Len64_t R := fun n1 K =>
z0 n1 0 (fun n4 n5 =>
z1 n4 n5 (fun n8 n9 =>
z2 n8 n9 (fun n12 n13 =>
hidt ((ByteArray.mk #[0,1,2,2,3,3,3,3,4,4,4,4,4,4,4,4,5,5,5,5,5,5,5,5,5,5,5,5,5,5,5,5,6,6,6,6,6,6,6,6,6,6,6,6,6,6,6,6,6,6,6,6,6,6,6,6,6,6,6,6,6,6,6,6,7,7,7,7,7,7,7,7,7,7,7,7,7,7,7,7,7,7,7,7,7,7,7,7,7,7,7,7,7,7,7,7,7,7,7,7,7,7,7,7,7,7,7,7,7,7,7,7,7,7,7,7,7,7,7,7,7,7,7,7,7,7,7,7,8,8,8,8,8,8,8,8,8,8,8,8,8,8,8,8,8,8,8,8,8,8,8,8,8,8,8,8,8,8,8,8,8,8,8,8,8,8,8,8,8,8,8,8,8,8,8,8,8,8,8,8,8,8,8,8,8,8,8,8,8,8,8,8,8,8,8,8,8,8,8,8,8,8,8,8,8,8,8,8,8,8,8,8,8,8,8,8,8,8,8,8,8,8,8,8,8,8,8,8,8,8,8,8,8,8,8,8,8,8,8,8,8,8,8,8,8,8,8,8,8,8,8,8,8,8,8,8])) (IntKind.wrap .u8 n12) fun n14 =>
K (IntKind.wrap .i64 (n13 + (IntKind.wrap .i64 n14))))))
def bits_Len64 (k : Nat) : bits_Len64_t R := bits_Len64_b (bits_Len64_p0 k) (bits_Len64_p1 k) (bits_Len64_p2 k) k
def x63C : Tab R := fun _ _ _ _ => none
def x63s2 : PS := ⟨(.seq (.reg [0,2,14] []) (.cond (.seq (.reg [0,2] []) (.reg [0,2] [])) .leaf)),[0,2],[(.i .u64),.n],⟨[0,2],[],[]⟩⟩
def x63c2 (g : bits_Len64_p2_u R) (H : Heap) (K : XK R) : Option R := g (kN .normal [0,2] [(.i .u64),.n] K H)
def x63a2 (f : bits_Len64_p2_t R) : Nat → List Value → Heap → XK R → Option R := jp x63s2 x63c2 f
def x63s1 : PS := ⟨(.seq (.reg [0,2,8] []) (.cond (.seq (.reg [0,2] []) (.reg [0,2] [])) .leaf)),[0,2],[(.i .u64),.n],⟨[0,2],[],[]⟩⟩
def x63c1 (g : bits_Len64_p1_u R) (H : Heap) (K : XK R) : Option R := g (kN .normal [0,2] [(.i .u64),.n] K H)
def x63a1 (f : bits_Len64_p1_t R) : Nat → List Value → Heap → XK R → Option R := jp x63s1 x63c1 f
def x63s0 : PS := ⟨(.seq (.reg [0,2,4] []) (.cond (.seq (.reg [0] []) (.reg [0,2] [])) .leaf)),[0,2],[(.i .u64),.n],⟨[0,2],[],[]⟩⟩
def x63c0 (g : bits_Len64_p0_u R) (H : Heap) (K : XK R) : Option R := g (kN .normal [0,2] [(.i .u64),.n] K H)
def x63a0 (f : bits_Len64_p0_t R) : Nat → List Value → Heap → XK R → Option R := jp x63s0 x63c0 f
def x63J (k : Nat) : JTab R := tcons 0 (x63a0 z0 k) <| tcons 1 (x63a1 z1 k) <| tcons 2 (x63a2 z2 k) <| fun _ _ _ _ => none
def x63t : AT := (.seq (.reg [0,2] []) (.seq (.opq 0 x63s0.ls x63s0.out x63s0.t) (.seq (.opq 1 x63s1.ls x63s1.out x63s1.t) (.seq (.opq 2 x63s2.ls x63s2.out x63s2.t) (.seq (.reg [2] []) .leaf)))))
def x63c (g : bits_Len64_u R) (H : Heap) (K : Value → Heap → Option R) : Option R := g (rN [.n] K H)
def x63a (f : bits_Len64_t R) : List Value → Heap → (Value → Heap → Option R) → Option R := jf 1 [(.i .u64)] x63c f
variable {z0 z1 z2}
theorem x63e2 (k : Nat) (H : Heap) (K : XK R) : jE Try.prog An 25 (x63C) (x63J z0 z1 z2 k) x63s2 (sel [1,1,1,0] (bd Try.f63)) H K = mapT (fun g => x63c2 g H K) x63s2.ts (bits_Len64_p2_b k) := by kernel_rfl
theorem x63e1 (k : Nat) (H : Heap) (K : XK R) : jE Try.prog An 25 (x63C) (x63J z0 z1 z2 k) x63s1 (sel [1,1,0] (bd Try.f63)) H K = mapT (fun g => x63c1 g H K) x63s1.ts (bits_Len64_p1_b k) := by kernel_rfl
theorem x63e0 (k : Nat) (H : Heap) (K : XK R) : jE Try.prog An 25 (x63C) (x63J z0 z1 z2 k) x63s0 (sel [1,0] (bd Try.f63)) H K = mapT (fun g => x63c0 g H K) x63s0.ts (bits_Len64_p0_b k) := by kernel_rfl
theorem x63e (k : Nat) (H : Heap) (K : Value → Heap → Option R) : fE Try.prog An (x63C) (x63J z0 z1 z2 k) x63t Try.f63 [(.i .u64)] H K = mapT (fun g => x63c g H K) [(.i .u64)] (bits_Len64_b z0 z1 z2 k) := by kernel_rfl
theorem x63S (R : Type) (k : Nat) : CSound Try.prog (x63C (R := R)) := csound_nil
theorem x63j2 (R : Type) (k : Nat) : JS Try.prog 25 (x63a2 (bits_Len64_p2 (R := R) k) k) x63s2.ls x63s2.out (sel [1,1,1,0] (bd Try.f63)) := pj (x63S R k) (x63J (bits_Len64_p0 k) (bits_Len64_p1 k) (bits_Len64_p2 k) k) (by kernel_rfl) (A := True) trivial (by kernel_rfl) (fun _ _ => .trans (x63e2 _ _ _) (by kernel_rfl))
theorem x63j1 (R : Type) (k : Nat) : JS Try.prog 25 (x63a1 (bits_Len64_p1 (R := R) k) k) x63s1.ls x63s1.out (sel [1,1,0] (bd Try.f63)) := pj (x63S R k) (x63J (bits_Len64_p0 k) (bits_Len64_p1 k) (bits_Len64_p2 k) k) (by kernel_rfl) (A := True) trivial (by kernel_rfl) (fun _ _ => .trans (x63e1 _ _ _) (by kernel_rfl))
theorem x63j0 (R : Type) (k : Nat) : JS Try.prog 25 (x63a0 (bits_Len64_p0 (R := R) k) k) x63s0.ls x63s0.out (sel [1,0] (bd Try.f63)) := pj (x63S R k) (x63J (bits_Len64_p0 k) (bits_Len64_p1 k) (bits_Len64_p2 k) k) (by kernel_rfl) (A := True) trivial (by kernel_rfl) (fun _ _ => .trans (x63e0 _ _ _) (by kernel_rfl))
theorem x63cs (R : Type) (k : Nat) : ∀ args H K r,x63a (bits_Len64 k) args H K = some (r : R) → ∃ v H',Tri Try.prog 63 args H v H' ∧ K v H' = some r := fj (x63S R k) (x63J (bits_Len64_p0 k) (bits_Len64_p1 k) (bits_Len64_p2 k) k) Try.func63 (by kernel_rfl) (A := JS Try.prog 25 (x63a0 (bits_Len64_p0 (R := R) k) k) x63s0.ls x63s0.out (sel [1,0] (bd Try.f63)) ∧ JS Try.prog 25 (x63a1 (bits_Len64_p1 (R := R) k) k) x63s1.ls x63s1.out (sel [1,1,0] (bd Try.f63)) ∧ JS Try.prog 25 (x63a2 (bits_Len64_p2 (R := R) k) k) x63s2.ls x63s2.out (sel [1,1,1,0] (bd Try.f63)) ∧ True) ⟨x63j0 R k,⟨x63j1 R k,⟨x63j2 R k,trivial⟩⟩⟩ (by kernel_rfl) (fun _ _ => .trans (x63e _ _ _) (by kernel_rfl))
end
/-! ### bits_Len: function 52 -/
abbrev bits_Len_u (R : Type) : Type := (Int → Option R) → Option R
abbrev bits_Len_t (R : Type) : Type := Int → bits_Len_u R
section
variable {R : Type} (f0 : bits_Len64_t R)
def bits_Len_b (k : Nat) : bits_Len_t R := fun n1 K =>
f0 n1 fun n2 =>
K n2
def bits_Len (k : Nat) : bits_Len_t R := bits_Len_b (bits_Len64 k) k
def x52C : Tab R := tcons 63 (x63a f0) <| fun _ _ _ _ => none
def x52J (k : Nat) : JTab R := fun _ _ _ _ => none
def x52t : AT := (.seq (.reg [0] []) (.seq (.cond (.seq (.reg [2] []) .leaf) .leaf) (.seq (.reg [2] []) .leaf)))
def x52c (g : bits_Len_u R) (H : Heap) (K : Value → Heap → Option R) : Option R := g (rN [.n] K H)
def x52a (f : bits_Len_t R) : List Value → Heap → (Value → Heap → Option R) → Option R := jf 1 [(.i .u64)] x52c f
variable {f0}
theorem x52e (k : Nat) (H : Heap) (K : Value → Heap → Option R) : fE Try.prog An (x52C f0) (x52J k) x52t Try.f52 [(.i .u64)] H K = mapT (fun g => x52c g H K) [(.i .u64)] (bits_Len_b f0 k) := by kernel_rfl
theorem x52S (R : Type) (k : Nat) : CSound Try.prog (x52C (R := R) (bits_Len64 k)) := csound_cons (x63cs R k) <| csound_nil
theorem x52cs (R : Type) (k : Nat) : ∀ args H K r,x52a (bits_Len k) args H K = some (r : R) → ∃ v H',Tri Try.prog 52 args H v H' ∧ K v H' = some r := fj (x52S R k) (x52J k) Try.func52 (by kernel_rfl) (A := True) trivial (by kernel_rfl) (fun _ _ => .trans (x52e _ _ _) (by kernel_rfl))
end
/-! ### cmp_isNaN_int_: function 69 -/
abbrev cmp_isNaN_int__u (R : Type) : Type := (Bool → Option R) → Option R
abbrev cmp_isNaN_int__t (R : Type) : Type := Int → cmp_isNaN_int__u R
section
variable {R : Type}
def cmp_isNaN_int__b (k : Nat) : cmp_isNaN_int__t R := fun n1 K =>
K (n1 != n1)
def cmp_isNaN_int_ : cmp_isNaN_int__t R := cmp_isNaN_int__b 0
def x69C : Tab R := fun _ _ _ _ => none
def x69J (k : Nat) : JTab R := fun _ _ _ _ => none
def x69t : AT := (.seq (.reg [0] []) (.seq (.reg [2] []) .leaf))
def x69c (g : cmp_isNaN_int__u R) (H : Heap) (K : Value → Heap → Option R) : Option R := g (rN [.b] K H)
def x69a (f : cmp_isNaN_int__t R) : List Value → Heap → (Value → Heap → Option R) → Option R := jf 1 [.n] x69c f
theorem x69e (k : Nat) (H : Heap) (K : Value → Heap → Option R) : fE Try.prog An (x69C) (x69J k) x69t Try.f69 [.n] H K = mapT (fun g => x69c g H K) [.n] (cmp_isNaN_int__b k) := by kernel_rfl
theorem x69S (R : Type) (k : Nat) : CSound Try.prog (x69C (R := R)) := csound_nil
theorem x69cs (R : Type) (k : Nat) : ∀ args H K r,x69a (cmp_isNaN_int_) args H K = some (r : R) → ∃ v H',Tri Try.prog 69 args H v H' ∧ K v H' = some r := fj (x69S R k) (x69J 0) Try.func69 (by kernel_rfl) (A := True) trivial (by kernel_rfl) (fun _ _ => .trans (x69e _ _ _) (by kernel_rfl))
end
/-! ### cmp_Less_int_: function 59 -/
abbrev cmp_Less_int__u (R : Type) : Type := (Bool → Option R) → Option R
abbrev cmp_Less_int__t (R : Type) : Type := Int → Int → cmp_Less_int__u R
section
variable {R : Type} (f0 : cmp_isNaN_int__t R)
def cmp_Less_int__b (k : Nat) : cmp_Less_int__t R := fun n1 n2 K =>
f0 n1 fun t3 =>
bif t3 then (f0 n2 fun t4 =>
bif (!t4) then (K true)
 else (K (decide (n1 < n2))))
 else (K (decide (n1 < n2)))
def cmp_Less_int_ : cmp_Less_int__t R := cmp_Less_int__b cmp_isNaN_int_ 0
def x59C : Tab R := tcons 69 (x69a f0) <| fun _ _ _ _ => none
def x59J (k : Nat) : JTab R := fun _ _ _ _ => none
def x59t : AT := (.seq (.reg [0,1] []) (.seq (.reg [4] []) .leaf))
def x59c (g : cmp_Less_int__u R) (H : Heap) (K : Value → Heap → Option R) : Option R := g (rN [.b] K H)
def x59a (f : cmp_Less_int__t R) : List Value → Heap → (Value → Heap → Option R) → Option R := jf 2 [.n,.n] x59c f
variable {f0}
theorem x59e (k : Nat) (H : Heap) (K : Value → Heap → Option R) : fE Try.prog An (x59C f0) (x59J k) x59t Try.f59 [.n,.n] H K = mapT (fun g => x59c g H K) [.n,.n] (cmp_Less_int__b f0 k) := by kernel_rfl
theorem x59S (R : Type) (k : Nat) : CSound Try.prog (x59C (R := R) cmp_isNaN_int_) := csound_cons (x69cs R 0) <| csound_nil
theorem x59cs (R : Type) (k : Nat) : ∀ args H K r,x59a (cmp_Less_int_) args H K = some (r : R) → ∃ v H',Tri Try.prog 59 args H v H' ∧ K v H' = some r := fj (x59S R k) (x59J 0) Try.func59 (by kernel_rfl) (A := True) trivial (by kernel_rfl) (fun _ _ => .trans (x59e _ _ _) (by kernel_rfl))
end
end Go.Proofs.Ytkjcjlembepdkaa.Sh
