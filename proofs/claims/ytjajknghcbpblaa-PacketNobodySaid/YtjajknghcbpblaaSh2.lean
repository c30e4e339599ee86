/- Lean functions that stand for Go's,over an explicit heap,and the proofs that they do (written by this claim's program sh2.py). -/
import Derived.Test.YtjajknghcbpblaaShA
import Derived.Test.YtjajknghcbpblaaSh0
import Derived.Test.YtjajknghcbpblaaSh1
set_option maxRecDepth 100000
set_option linter.unusedVariables false
set_option linter.unusedSimpArgs false
namespace Go.Proofs.Ytjajknghcbpblaa.Sh
open Go.Proofs.Ytjajknghcbpblaa.FW
/-! ### packet_get: function 40 -/
abbrev packet_get_l0_r (R : Type) : Type := Int → Oa → Nat → Nat → Int → Int → Heap → Option R
abbrev packet_get_l0_q (R T : Type) : Type := (Int → Option R) → T
abbrev packet_get_l0_t (R : Type) : Type := packet_get_l0_q R (Nat → packet_get_l0_r R)
abbrev packet_get_u (R : Type) : Type := Heap → (Int → Option R) → Option R
abbrev packet_get_t (R : Type) : Type := Oa → Nat → Nat → packet_get_u R
section
variable {R : Type} (z0 : packet_get_l0_t R)
def packet_get_l0_b (k : Nat) : packet_get_l0_q R (packet_get_l0_r R → packet_get_l0_r R) := fun KE0 rec n1 q2 l3 c4 n5 n6 H =>
bif decide (n6 < n5) then (hidx q2 l3 n6 1 fun p7 =>
ldI .u8 H p7 fun n8 =>
hbin .or .i64 (IntKind.wrap .i64 (n1 * 256)) (IntKind.wrap .i64 n8) fun n9 =>
rec n9 q2 l3 c4 n5 (IntKind.wrap .i64 (n6 + 1)) H)
 else (KE0 n1)
def packet_get_l0 (k : Nat) : packet_get_l0_t R
  | KE0,0 => fun _ _ _ _ _ _ _ => none
  | KE0,n + 1 => packet_get_l0_b k KE0 (packet_get_l0 k KE0 n)
def packet_get_b (k : Nat) : packet_get_t R := fun q1 l2 c3 H K =>
z0 (fun n5 =>
K n5) k 0 q1 l2 c3 ((l2 : Nat) : Int) 0 H
def packet_get (k : Nat) : packet_get_t R := packet_get_b (packet_get_l0 k) k
def x40C : Tab R := fun _ _ _ _ => none
def x40s0 : PS := ⟨(.seq (.reg [3,6,7,8,9] []) (.seq (.cond .leaf .leaf) (.seq (.node (.seq (.reg [3,5,6,7,8] []) (.reg [3,6,7,8] []))) (.reg [3,6,7,8] [])))),[3,6,7,8],[.n,.l,.n,.n],⟨[],[(0,[3])],[]⟩⟩
def x40c0 {T : Type} (g : packet_get_l0_q R T) (H : Heap) (K : XK R) : T := g (kN (.exit 0) [3] [.n] K H)
def x40a0 (f : packet_get_l0_t R) : Nat → List Value → Heap → XK R → Option R := jl x40s0 (L := packet_get_l0_t R) x40c0 pH f
def x40J (k : Nat) : JTab R := tcons 0 (x40a0 z0 k) <| fun _ _ _ _ => none
def x40t : AT := (.seq (.reg [0] []) (.seq (.reg [0,3] []) (.seq (.seq (.reg [3,6,7,8] []) (.node (.opq 0 x40s0.ls x40s0.out (.node x40s0.t)))) (.seq (.reg [2] []) .leaf))))
def x40c (g : packet_get_u R) (H : Heap) (K : Value → Heap → Option R) : Option R := g H (rN [.n] K H)
def x40a (f : packet_get_t R) : List Value → Heap → (Value → Heap → Option R) → Option R := jf 1 [.l] x40c f
variable {z0}
theorem x40e0 (k n : Nat) (H : Heap) (K : XK R) : lE Try.prog An 19 (x40C) (x40J z0 k) x40s0 (sel [1,1,0,1,0,0] (bd Try.f40)) (x40a0 z0) n H K = mapT (fun g => pH g H) x40s0.ts (x40c0 (packet_get_l0_b k) H K (x40c0 z0 H K n)) := by kernel_rfl
theorem x40e (k : Nat) (H : Heap) (K : Value → Heap → Option R) : fE Try.prog An (x40C) (x40J z0 k) x40t Try.f40 [.l] H K = mapT (fun g => x40c g H K) [.l] (packet_get_b z0 k) := by kernel_rfl
theorem x40S (R : Type) (k : Nat) : CSound Try.prog (x40C (R := R)) := csound_nil
theorem x40j0 (R : Type) (k : Nat) : JS Try.prog 19 (x40a0 (packet_get_l0 (R := R) k) k) x40s0.ls x40s0.out (.loop (sel [1,1,0,1,0,0] (bd Try.f40))) := lj (x40S R k) (x40J (packet_get_l0 k) k) (by kernel_rfl) (A := True) trivial (by kernel_rfl) (fun _ _ => by kernel_rfl) (fun _ _ _ => .trans (x40e0 _ _ _ _) (by kernel_rfl)) k
theorem x40cs (R : Type) (k : Nat) : ∀ args H K r,x40a (packet_get k) args H K = some (r : R) → ∃ v H',Tri Try.prog 40 args H v H' ∧ K v H' = some r := fj (x40S R k) (x40J (packet_get_l0 k) k) Try.func40 (by kernel_rfl) (A := JS Try.prog 19 (x40a0 (packet_get_l0 (R := R) k) k) x40s0.ls x40s0.out (.loop (sel [1,1,0,1,0,0] (bd Try.f40))) ∧ True) ⟨x40j0 R k,trivial⟩ (by kernel_rfl) (fun _ _ => .trans (x40e _ _ _) (by kernel_rfl))
end
/-! ### packet_mark: function 33 -/
abbrev packet_mark_p0_u (R : Type) : Type := (Oa → Nat → Nat → Int → Oa → Bool → Option R) → Option R
abbrev packet_mark_p0_t (R : Type) : Type := Oa → Nat → Nat → Int → Oa → packet_mark_p0_u R
abbrev packet_mark_u (R : Type) : Type := Heap → (Int → Int → Int → Int → Int → Heap → Option R) → Option R
abbrev packet_mark_t (R : Type) : Type := Oa → Nat → Nat → Int → packet_mark_u R
section
variable {R : Type} (f0 : packet_get_t R) (f1 : packet_check_t R) (z0 : packet_mark_p0_t R)
def packet_mark_p0_b (k : Nat) : packet_mark_p0_t R := fun q1 l2 c3 n4 p5 KN =>
bif decide (n4 < 0) then (KN q1 l2 c3 n4 p5 true)
 else (KN q1 l2 c3 n4 p5 (decide (n4 > ((l2 : Nat) : Int))))
def packet_mark_p0 (k : Nat) : packet_mark_p0_t R := packet_mark_p0_b k
def packet_mark_b (k : Nat) : packet_mark_t R := fun q1 l2 c3 n4 H K =>
hal H [.int .i64 0,.int .i64 0] fun p5 H6 =>
z0 q1 l2 c3 n4 p5 (fun q13 l14 c15 n16 p17 t18 =>
bif t18 then (ldI .i64 H6 (pad p17 0) fun n19 =>
ldI .i64 H6 (pad p17 1) fun n20 =>
hst H6 p17 [.int .i64 n19,.int .i64 n20] fun H21 =>
ldI .i64 H21 (pad p17 0) fun n22 =>
ldI .i64 H21 (pad p17 1) fun n23 =>
K 0 n22 n23 0 2 H21)
 else (bif decide ((IntKind.wrap .i64 (((l14 : Nat) : Int) - n16)) < 11) then (ldI .i64 H6 (pad p17 0) fun n24 =>
ldI .i64 H6 (pad p17 1) fun n25 =>
hst H6 p17 [.int .i64 n24,.int .i64 n25] fun H26 =>
ldI .i64 H26 (pad p17 0) fun n27 =>
ldI .i64 H26 (pad p17 1) fun n28 =>
K 0 n27 n28 0 7 H26)
 else (hslc 1 q13 l14 c15 (some n16) (some (IntKind.wrap .i64 (n16 + 11))) none fun q29 l30 c31 =>
hslc 1 q29 l30 c31 none (some 2) none fun q32 l33 c34 =>
f0 q32 l33 c34 H6 fun n35 =>
bif (n35 != 65459) then (ldI .i64 H6 (pad p17 0) fun n36 =>
ldI .i64 H6 (pad p17 1) fun n37 =>
hst H6 p17 [.int .i64 n36,.int .i64 n37] fun H38 =>
ldI .i64 H38 (pad p17 0) fun n39 =>
ldI .i64 H38 (pad p17 1) fun n40 =>
K 0 n39 n40 0 11 H38)
 else (hidx q29 l30 10 1 fun p41 =>
ldI .u8 H6 p41 fun n42 =>
f1 q29 l30 c31 (roH H6) fun n43 =>
bif (n42 != n43) then (ldI .i64 H6 (pad p17 0) fun n44 =>
ldI .i64 H6 (pad p17 1) fun n45 =>
hst H6 p17 [.int .i64 n44,.int .i64 n45] fun H46 =>
ldI .i64 H46 (pad p17 0) fun n47 =>
ldI .i64 H46 (pad p17 1) fun n48 =>
K 0 n47 n48 0 17 H46)
 else (hslc 1 q29 l30 c31 (some 2) (some 4) none fun q49 l50 c51 =>
f0 q49 l50 c51 H6 fun n52 =>
hslc 1 q29 l30 c31 (some 4) (some 8) none fun q53 l54 c55 =>
f0 q53 l54 c55 H6 fun n56 =>
hslc 1 q29 l30 c31 (some 8) (some 10) none fun q57 l58 c59 =>
f0 q57 l58 c59 H6 fun n60 =>
hst H6 p17 [.int .i64 (IntKind.wrap .i64 (n16 + 11)),.int .i64 (IntKind.wrap .i64 ((IntKind.wrap .i64 (n16 + 11)) + n56))] fun H61 =>
ldI .i64 H61 (pad p17 0) fun n62 =>
ldI .i64 H61 (pad p17 1) fun n63 =>
K n52 n62 n63 n60 0 H61)))))
def packet_mark (k : Nat) : packet_mark_t R := packet_mark_b (packet_get k) (packet_check k) (packet_mark_p0 k) k
def x33C : Tab R := tcons 40 (x40a f0) <| tcons 31 (x31a f1) <| fun _ _ _ _ => none
def x33s0 : PS := ⟨(.reg [0,1,5,17] []),[0,1,5],[.l,.n,.p],⟨[0,1,5,17],[],[]⟩⟩
def x33c0 (g : packet_mark_p0_u R) (H : Heap) (K : XK R) : Option R := g (kN .normal [0,1,5,17] [.l,.n,.p,.b] K H)
def x33a0 (f : packet_mark_p0_t R) : Nat → List Value → Heap → XK R → Option R := jp x33s0 x33c0 f
def x33J (k : Nat) : JTab R := tcons 0 (x33a0 z0 k) <| fun _ _ _ _ => none
def x33t : AT := (.seq (.reg [0,1,5] []) (.seq (.seq (.opq 0 x33s0.ls x33s0.out x33s0.t) (.cond (.seq (.reg [4,5,6,7] (ms [0,0,3,7,15])) .leaf) .leaf)) (.seq (.seq (.reg [0,1,5,23] []) (.cond (.seq (.reg [4,5,6,7] (ms [0,0,3,7,15])) .leaf) .leaf)) (.seq (.reg [1,5,8] []) (.seq (.seq (.reg [1,5,8,33] []) (.cond (.seq (.reg [4,5,6,7] (ms [0,0,3,7,15])) .leaf) .leaf)) (.seq (.seq (.reg [1,5,8,40] (ms [0,1,3,0,8,31])) (.cond (.seq (.reg [4,5,6,7] (ms [0,0,3,7,15])) .leaf) .leaf)) (.seq (.reg [5,8,9] []) (.seq (.reg [4,5,6,7] (ms [0,1,3,0,0,0,32,103,247,511,0,1024,3303,7399,16383,32767,65535])) .leaf))))))))
def x33c (g : packet_mark_u R) (H : Heap) (K : Value → Heap → Option R) : Option R := g H (rH [.n,(.a 2),.n,.n,.n,.n] K)
def x33a (f : packet_mark_t R) : List Value → Heap → (Value → Heap → Option R) → Option R := jf 2 [.l,.n] x33c f
variable {f0 f1 z0}
theorem x33e0 (k : Nat) (H : Heap) (K : XK R) : jE Try.prog An 57 (x33C f0 f1) (x33J z0 k) x33s0 (sel [1,0,0] (bd Try.f33)) H K = mapT (fun g => x33c0 g H K) x33s0.ts (packet_mark_p0_b k) := by kernel_rfl
theorem x33e (k : Nat) (H : Heap) (K : Value → Heap → Option R) : fE Try.prog An (x33C f0 f1) (x33J z0 k) x33t Try.f33 [.l,.n] H K = mapT (fun g => x33c g H K) [.l,.n] (packet_mark_b f0 f1 z0 k) := by kernel_rfl
theorem x33S (R : Type) (k : Nat) : CSound Try.prog (x33C (R := R) (packet_get k) (packet_check k)) := csound_cons (x40cs R k) <| csound_cons (x31cs R k) <| csound_nil
theorem x33j0 (R : Type) (k : Nat) : JS Try.prog 57 (x33a0 (packet_mark_p0 (R := R) k) k) x33s0.ls x33s0.out (sel [1,0,0] (bd Try.f33)) := pj (x33S R k) (x33J (packet_mark_p0 k) k) (by kernel_rfl) (A := True) trivial (by kernel_rfl) (fun _ _ => .trans (x33e0 _ _ _) (by kernel_rfl))
theorem x33cs (R : Type) (k : Nat) : ∀ args H K r,x33a (packet_mark k) args H K = some (r : R) → ∃ v H',Tri Try.prog 33 args H v H' ∧ K v H' = some r := fj (x33S R k) (x33J (packet_mark_p0 k) k) Try.func33 (by kernel_rfl) (A := JS Try.prog 57 (x33a0 (packet_mark_p0 (R := R) k) k) x33s0.ls x33s0.out (sel [1,0,0] (bd Try.f33)) ∧ True) ⟨x33j0 R k,trivial⟩ (by kernel_rfl) (fun _ _ => .trans (x33e _ _ _) (by kernel_rfl))
end
/-! ### packet_rest: function 34 -/
abbrev packet_rest_u (R : Type) : Type := Heap → (Int → Heap → Option R) → Option R
abbrev packet_rest_t (R : Type) : Type := Oa → Nat → Nat → Int → Int → Int → packet_rest_u R
section
variable {R : Type} (f0 : packet_Checksum_t R)
def packet_rest_b (k : Nat) : packet_rest_t R := fun q1 l2 c3 n4 n5 n6 H K =>
hal H [.int .i64 n4,.int .i64 n5] fun p7 H8 =>
hfad 1 p7 fun p9 =>
ldI .i64 H8 p9 fun n10 =>
bif decide (n10 > ((l2 : Nat) : Int)) then (K 7 H8)
 else (hfad 0 p7 fun p11 =>
ldI .i64 H8 p11 fun n12 =>
hfad 1 p7 fun p13 =>
ldI .i64 H8 p13 fun n14 =>
hslc 1 q1 l2 c3 (some n12) (some n14) none fun q15 l16 c17 =>
f0 q15 l16 c17 H8 fun n18 =>
bif (n18 != n6) then (K 17 H8)
 else (K 0 H8))
def packet_rest (k : Nat) : packet_rest_t R := packet_rest_b (packet_Checksum k) k
def x34C : Tab R := tcons 11 (x11a f0) <| fun _ _ _ _ => none
def x34J (k : Nat) : JTab R := fun _ _ _ _ => none
def x34t : AT := (.seq (.reg [0,2,4] []) (.seq (.seq (.reg [0,2,4,11] []) (.cond (.seq (.reg [6] []) .leaf) .leaf)) (.seq (.seq (.reg [20] []) (.cond (.seq (.reg [6] []) .leaf) .leaf)) (.seq (.reg [6] []) .leaf))))
def x34c (g : packet_rest_u R) (H : Heap) (K : Value → Heap → Option R) : Option R := g H (rH [.n] K)
def x34a (f : packet_rest_t R) : List Value → Heap → (Value → Heap → Option R) → Option R := jf 3 [.l,(.a 2),.n,.n,.n] x34c f
variable {f0}
theorem x34e (k : Nat) (H : Heap) (K : Value → Heap → Option R) : fE Try.prog An (x34C f0) (x34J k) x34t Try.f34 [.l,(.a 2),.n,.n,.n] H K = mapT (fun g => x34c g H K) [.l,(.a 2),.n,.n,.n] (packet_rest_b f0 k) := by kernel_rfl
theorem x34S (R : Type) (k : Nat) : CSound Try.prog (x34C (R := R) (packet_Checksum k)) := csound_cons (x11cs R k) <| csound_nil
theorem x34cs (R : Type) (k : Nat) : ∀ args H K r,x34a (packet_rest k) args H K = some (r : R) → ∃ v H',Tri Try.prog 34 args H v H' ∧ K v H' = some r := fj (x34S R k) (x34J k) Try.func34 (by kernel_rfl) (A := True) trivial (by kernel_rfl) (fun _ _ => .trans (x34e _ _ _) (by kernel_rfl))
end
end Go.Proofs.Ytjajknghcbpblaa.Sh
