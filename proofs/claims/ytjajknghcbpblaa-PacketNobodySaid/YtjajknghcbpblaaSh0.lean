/- Lean functions that stand for Go's,over an explicit heap,and the proofs that they do (written by this claim's program sh2.py). -/
import Derived.Test.YtjajknghcbpblaaShA
set_option maxRecDepth 100000
set_option linter.unusedVariables false
set_option linter.unusedSimpArgs false
namespace Go.Proofs.Ytjajknghcbpblaa.Sh
open Go.Proofs.Ytjajknghcbpblaa.FW
/-! ### packet_Checksum: function 11 -/
abbrev packet_Checksum_p2_u (R : Type) : Type := (Int → Oa → Nat → Nat → Int → Int → Int → Option R) → Option R
abbrev packet_Checksum_p2_t (R : Type) : Type := Int → Oa → Nat → Nat → Int → Int → Int → packet_Checksum_p2_u R
abbrev packet_Checksum_l1_r (R : Type) : Type := Int → Oa → Nat → Nat → Int → Int → Int → Option R
abbrev packet_Checksum_l1_q (R T : Type) : Type := (Int → Oa → Nat → Nat → Int → Int → Option R) → T
abbrev packet_Checksum_l1_t (R : Type) : Type := packet_Checksum_l1_q R (Nat → packet_Checksum_l1_r R)
abbrev packet_Checksum_l0_r (R : Type) : Type := Int → Oa → Nat → Nat → Int → Int → Heap → Option R
abbrev packet_Checksum_l0_q (R T : Type) : Type := (Int → Option R) → T
abbrev packet_Checksum_l0_t (R : Type) : Type := packet_Checksum_l0_q R (Nat → packet_Checksum_l0_r R)
abbrev packet_Checksum_u (R : Type) : Type := Heap → (Int → Option R) → Option R
abbrev packet_Checksum_t (R : Type) : Type := Oa → Nat → Nat → packet_Checksum_u R
section
variable {R : Type} (z0 : packet_Checksum_l0_t R) (z1 : packet_Checksum_l1_t R) (z2 : packet_Checksum_p2_t R)
def packet_Checksum_p2_b (k : Nat) : packet_Checksum_p2_t R := fun n1 q2 l3 c4 n5 n6 n7 KN =>
hbin .and .i64 (IntKind.wrap .i64 (n1 * 2)) 65536 fun n8 =>
bif (n8 != 0) then (hbin .xor .i64 (IntKind.wrap .i64 (n1 * 2)) 69665 fun n9 =>
KN n9 q2 l3 c4 n5 n6 n7)
 else (KN (IntKind.wrap .i64 (n1 * 2)) q2 l3 c4 n5 n6 n7)
def packet_Checksum_p2 (k : Nat) : packet_Checksum_p2_t R := packet_Checksum_p2_b k
def packet_Checksum_l1_b (k : Nat) : packet_Checksum_l1_q R (packet_Checksum_l1_r R → packet_Checksum_l1_r R) := fun KE2 rec n1 q2 l3 c4 n5 n6 n7 =>
bif decide (n7 < 8) then (z2 n1 q2 l3 c4 n5 n6 n7 (fun n15 q16 l17 c18 n19 n20 n21 =>
rec n15 q16 l17 c18 n19 n20 (IntKind.wrap .i64 (n21 + 1))))
 else (KE2 n1 q2 l3 c4 n5 n6)
def packet_Checksum_l1 (k : Nat) : packet_Checksum_l1_t R
  | KE2,0 => fun _ _ _ _ _ _ _ => none
  | KE2,n + 1 => packet_Checksum_l1_b (packet_Checksum_p2 k) k KE2 (packet_Checksum_l1 k KE2 n)
def packet_Checksum_l0_b (k : Nat) : packet_Checksum_l0_q R (packet_Checksum_l0_r R → packet_Checksum_l0_r R) := fun KE0 rec n1 q2 l3 c4 n5 n6 H =>
bif decide (n6 < n5) then (hidx q2 l3 n6 1 fun p7 =>
ldI .u8 H p7 fun n8 =>
hbin .xor .i64 n1 (IntKind.wrap .i64 ((IntKind.wrap .i64 n8) * 256)) fun n9 =>
z1 (fun n16 q17 l18 c19 n20 n21 =>
rec n16 q17 l18 c19 n20 (IntKind.wrap .i64 (n21 + 1)) H) k n9 q2 l3 c4 n5 n6 0)
 else (KE0 n1)
def packet_Checksum_l0 (k : Nat) : packet_Checksum_l0_t R
  | KE0,0 => fun _ _ _ _ _ _ _ => none
  | KE0,n + 1 => packet_Checksum_l0_b (packet_Checksum_l1 k) k KE0 (packet_Checksum_l0 k KE0 n)
def packet_Checksum_b (k : Nat) : packet_Checksum_t R := fun q1 l2 c3 H K =>
z0 (fun n5 =>
K n5) k 65535 q1 l2 c3 ((l2 : Nat) : Int) 0 H
def packet_Checksum (k : Nat) : packet_Checksum_t R := packet_Checksum_b (packet_Checksum_l0 k) k
def x11C : Tab R := fun _ _ _ _ => none
def x11s2 : PS := ⟨(.node (.seq (.reg [3,6,7,8,17] []) (.seq (.reg [3,6,7,8,17,23] []) (.cond (.reg [3,6,7,8,17] []) .leaf)))),[3,6,7,8,17],[.n,.l,.n,.n,.n],⟨[3,6,7,8,17],[],[]⟩⟩
def x11c2 (g : packet_Checksum_p2_u R) (H : Heap) (K : XK R) : Option R := g (kN .normal [3,6,7,8,17] [.n,.l,.n,.n,.n] K H)
def x11a2 (f : packet_Checksum_p2_t R) : Nat → List Value → Heap → XK R → Option R := jp x11s2 x11c2 f
def x11s1 : PS := ⟨(.seq (.reg [3,6,7,8,17,18] []) (.seq (.cond .leaf .leaf) (.seq (.opq 2 x11s2.ls x11s2.out x11s2.t) (.reg [3,6,7,8,17] [])))),[3,6,7,8,17],[.n,.l,.n,.n,.n],⟨[],[(2,[3,6,7,8])],[]⟩⟩
def x11c1 {T : Type} (g : packet_Checksum_l1_q R T) (H : Heap) (K : XK R) : T := g (kN (.exit 2) [3,6,7,8] [.n,.l,.n,.n] K H)
def x11a1 (f : packet_Checksum_l1_t R) : Nat → List Value → Heap → XK R → Option R := jl x11s1 (L := packet_Checksum_l1_t R) x11c1 pN f
def x11s0 : PS := ⟨(.seq (.reg [3,6,7,8,9] []) (.seq (.cond .leaf .leaf) (.seq (.node (.seq (.reg [3,5,6,7,8] []) (.seq (.reg [3,6,7,8] []) (.seq (.reg [3,6,7,8,17] []) (.node (.opq 1 x11s1.ls x11s1.out (.node x11s1.t))))))) (.reg [3,6,7,8] [])))),[3,6,7,8],[.n,.l,.n,.n],⟨[],[(0,[3])],[]⟩⟩
def x11c0 {T : Type} (g : packet_Checksum_l0_q R T) (H : Heap) (K : XK R) : T := g (kN (.exit 0) [3] [.n] K H)
def x11a0 (f : packet_Checksum_l0_t R) : Nat → List Value → Heap → XK R → Option R := jl x11s0 (L := packet_Checksum_l0_t R) x11c0 pH f
def x11J (k : Nat) : JTab R := tcons 0 (x11a0 z0 k) <| tcons 1 (x11a1 z1 k) <| tcons 2 (x11a2 z2 k) <| fun _ _ _ _ => none
def x11t : AT := (.seq (.reg [0] []) (.seq (.reg [0,3] []) (.seq (.seq (.reg [3,6,7,8] []) (.node (.opq 0 x11s0.ls x11s0.out (.node x11s0.t)))) (.seq (.reg [2] []) .leaf))))
def x11c (g : packet_Checksum_u R) (H : Heap) (K : Value → Heap → Option R) : Option R := g H (rN [.n] K H)
def x11a (f : packet_Checksum_t R) : List Value → Heap → (Value → Heap → Option R) → Option R := jf 1 [.l] x11c f
variable {z0 z1 z2}
theorem x11e2 (k : Nat) (H : Heap) (K : XK R) : jE Try.prog An 29 (x11C) (x11J z0 z1 z2 k) x11s2 (sel [1,1,0,1,0,0,1,1,0,0,1,1,1,0,0,1,1,0] (bd Try.f11)) H K = mapT (fun g => x11c2 g H K) x11s2.ts (packet_Checksum_p2_b k) := by kernel_rfl
theorem x11e1 (k n : Nat) (H : Heap) (K : XK R) : lE Try.prog An 29 (x11C) (x11J z0 z1 z2 k) x11s1 (sel [1,1,0,1,0,0,1,1,0,0,1,1,1,0,0] (bd Try.f11)) (x11a1 z1) n H K = mapT (fun g => pN g H) x11s1.ts (x11c1 (packet_Checksum_l1_b z2 k) H K (x11c1 z1 H K n)) := by kernel_rfl
theorem x11e0 (k n : Nat) (H : Heap) (K : XK R) : lE Try.prog An 29 (x11C) (x11J z0 z1 z2 k) x11s0 (sel [1,1,0,1,0,0] (bd Try.f11)) (x11a0 z0) n H K = mapT (fun g => pH g H) x11s0.ts (x11c0 (packet_Checksum_l0_b z1 k) H K (x11c0 z0 H K n)) := by kernel_rfl
theorem x11e (k : Nat) (H : Heap) (K : Value → Heap → Option R) : fE Try.prog An (x11C) (x11J z0 z1 z2 k) x11t Try.f11 [.l] H K = mapT (fun g => x11c g H K) [.l] (packet_Checksum_b z0 k) := by kernel_rfl
theorem x11S (R : Type) (k : Nat) : CSound Try.prog (x11C (R := R)) := csound_nil
theorem x11j2 (R : Type) (k : Nat) : JS Try.prog 29 (x11a2 (packet_Checksum_p2 (R := R) k) k) x11s2.ls x11s2.out (sel [1,1,0,1,0,0,1,1,0,0,1,1,1,0,0,1,1,0] (bd Try.f11)) := pj (x11S R k) (x11J (packet_Checksum_l0 k) (packet_Checksum_l1 k) (packet_Checksum_p2 k) k) (by kernel_rfl) (A := True) trivial (by kernel_rfl) (fun _ _ => .trans (x11e2 _ _ _) (by kernel_rfl))
theorem x11j1 (R : Type) (k : Nat) : JS Try.prog 29 (x11a1 (packet_Checksum_l1 (R := R) k) k) x11s1.ls x11s1.out (.loop (sel [1,1,0,1,0,0,1,1,0,0,1,1,1,0,0] (bd Try.f11))) := lj (x11S R k) (x11J (packet_Checksum_l0 k) (packet_Checksum_l1 k) (packet_Checksum_p2 k) k) (by kernel_rfl) (A := JS Try.prog 29 (x11a2 (packet_Checksum_p2 (R := R) k) k) x11s2.ls x11s2.out (sel [1,1,0,1,0,0,1,1,0,0,1,1,1,0,0,1,1,0] (bd Try.f11)) ∧ True) ⟨x11j2 R k,trivial⟩ (by kernel_rfl) (fun _ _ => by kernel_rfl) (fun _ _ _ => .trans (x11e1 _ _ _ _) (by kernel_rfl)) k
theorem x11j0 (R : Type) (k : Nat) : JS Try.prog 29 (x11a0 (packet_Checksum_l0 (R := R) k) k) x11s0.ls x11s0.out (.loop (sel [1,1,0,1,0,0] (bd Try.f11))) := lj (x11S R k) (x11J (packet_Checksum_l0 k) (packet_Checksum_l1 k) (packet_Checksum_p2 k) k) (by kernel_rfl) (A := JS Try.prog 29 (x11a1 (packet_Checksum_l1 (R := R) k) k) x11s1.ls x11s1.out (.loop (sel [1,1,0,1,0,0,1,1,0,0,1,1,1,0,0] (bd Try.f11))) ∧ True) ⟨x11j1 R k,trivial⟩ (by kernel_rfl) (fun _ _ => by kernel_rfl) (fun _ _ _ => .trans (x11e0 _ _ _ _) (by kernel_rfl)) k
theorem x11cs (R : Type) (k : Nat) : ∀ args H K r,x11a (packet_Checksum k) args H K = some (r : R) → ∃ v H',Tri Try.prog 11 args H v H' ∧ K v H' = some r := fj (x11S R k) (x11J (packet_Checksum_l0 k) (packet_Checksum_l1 k) (packet_Checksum_p2 k) k) Try.func11 (by kernel_rfl) (A := JS Try.prog 29 (x11a0 (packet_Checksum_l0 (R := R) k) k) x11s0.ls x11s0.out (.loop (sel [1,1,0,1,0,0] (bd Try.f11))) ∧ True) ⟨x11j0 R k,trivial⟩ (by kernel_rfl) (fun _ _ => .trans (x11e _ _ _) (by kernel_rfl))
end
end Go.Proofs.Ytjajknghcbpblaa.Sh
