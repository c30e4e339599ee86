/- Lean functions that stand for Go's,over an explicit heap,and the proofs that they do (written by this claim's program sh2.py). -/
import Derived.Test.YtkjcjlembepdkaaShA
set_option maxRecDepth 100000
set_option linter.unusedVariables false
set_option linter.unusedSimpArgs false
namespace Go.Proofs.Ytkjcjlembepdkaa.Sh
open Go.Proofs.Ytkjcjlembepdkaa.FW
/-! ### R46_sameInts: function 39 -/
abbrev R46_sameInts_l0_r (R : Type) : Type := Oa → Nat → Nat → Oa → Nat → Nat → Int → Heap → Option R
abbrev R46_sameInts_l0_q (R T : Type) : Type := (Unit → Option R) → (Bool → Option R) → T
abbrev R46_sameInts_l0_t (R : Type) : Type := R46_sameInts_l0_q R (Nat → R46_sameInts_l0_r R)
abbrev R46_sameInts_u (R : Type) : Type := Heap → (Bool → Option R) → Option R
abbrev R46_sameInts_t (R : Type) : Type := Oa → Nat → Nat → Oa → Nat → Nat → R46_sameInts_u R
section
variable {R : Type} (z0 : R46_sameInts_l0_t R)
def R46_sameInts_l0_b (k : Nat) : R46_sameInts_l0_q R (R46_sameInts_l0_r R → R46_sameInts_l0_r R) := fun KE0 KR rec q1 l2 c3 q4 l5 c6 n7 H =>
bif decide (n7 < ((l2 : Nat) : Int)) then (hidx q1 l2 n7 1 fun p8 =>
ldI .i64 H p8 fun n9 =>
hidx q4 l5 n7 1 fun p10 =>
ldI .i64 H p10 fun n11 =>
bif (n9 != n11) then (KR false)
 else (rec q1 l2 c3 q4 l5 c6 (IntKind.wrap .i64 (n7 + 1)) H))
 else (KE0 ())
def R46_sameInts_l0 (k : Nat) : R46_sameInts_l0_t R
  | KE0,KR,0 => fun _ _ _ _ _ _ _ _ => none
  | KE0,KR,n + 1 => R46_sameInts_l0_b k KE0 KR (R46_sameInts_l0 k KE0 KR n)
def R46_sameInts_b (k : Nat) : R46_sameInts_t R := fun q1 l2 c3 q4 l5 c6 H K =>
bif (((l2 : Nat) : Int) != ((l5 : Nat) : Int)) then (K false)
 else (z0 (fun (_ : Unit) =>
K true) (fun t8 =>
K t8) k q1 l2 c3 q4 l5 c6 0 H)
def R46_sameInts (k : Nat) : R46_sameInts_t R := R46_sameInts_b (R46_sameInts_l0 k) k
def x39C : Tab R := fun _ _ _ _ => none
def x39s0 : PS := ⟨(.seq (.seq (.reg [0,1,5,14] []) (.cond .leaf .leaf)) (.seq (.node (.seq (.reg [0,1,5,25] (ms [0,0,3,7,0,0,48,112,255])) (.cond (.seq (.reg [4] []) .leaf) .leaf))) (.reg [0,1,5] []))),[0,1,5],[.l,.l,.n],⟨[],[(0,[])],[4]⟩⟩
def x39c0 {T : Type} (g : R46_sameInts_l0_q R T) (H : Heap) (K : XK R) : T := g (kU (.exit 0) K H) (kN .ret [4] [.b] K H)
def x39a0 (f : R46_sameInts_l0_t R) : Nat → List Value → Heap → XK R → Option R := jl x39s0 (L := R46_sameInts_l0_t R) x39c0 pH f
def x39J (k : Nat) : JTab R := tcons 0 (x39a0 z0 k) <| fun _ _ _ _ => none
def x39t : AT := (.seq (.reg [0,1] []) (.seq (.seq (.reg [0,1,10] []) (.cond (.seq (.reg [4] []) .leaf) .leaf)) (.seq (.seq (.reg [0,1,5] []) (.node (.opq 0 x39s0.ls x39s0.out (.node x39s0.t)))) (.seq (.reg [4] []) .leaf))))
def x39c (g : R46_sameInts_u R) (H : Heap) (K : Value → Heap → Option R) : Option R := g H (rN [.b] K H)
def x39a (f : R46_sameInts_t R) : List Value → Heap → (Value → Heap → Option R) → Option R := jf 2 [.l,.l] x39c f
variable {z0}
theorem x39e0 (k n : Nat) (H : Heap) (K : XK R) : lE Try.prog An 26 (x39C) (x39J z0 k) x39s0 (sel [1,1,0,1,0,0] (bd Try.f39)) (x39a0 z0) n H K = mapT (fun g => pH g H) x39s0.ts (x39c0 (R46_sameInts_l0_b k) H K (x39c0 z0 H K n)) := by kernel_rfl
theorem x39e (k : Nat) (H : Heap) (K : Value → Heap → Option R) : fE Try.prog An (x39C) (x39J z0 k) x39t Try.f39 [.l,.l] H K = mapT (fun g => x39c g H K) [.l,.l] (R46_sameInts_b z0 k) := by kernel_rfl
theorem x39S (R : Type) (k : Nat) : CSound Try.prog (x39C (R := R)) := csound_nil
theorem x39j0 (R : Type) (k : Nat) : JS Try.prog 26 (x39a0 (R46_sameInts_l0 (R := R) k) k) x39s0.ls x39s0.out (.loop (sel [1,1,0,1,0,0] (bd Try.f39))) := lj (x39S R k) (x39J (R46_sameInts_l0 k) k) (by kernel_rfl) (A := True) trivial (by kernel_rfl) (fun _ _ => by kernel_rfl) (fun _ _ _ => .trans (x39e0 _ _ _ _) (by kernel_rfl)) k
theorem x39cs (R : Type) (k : Nat) : ∀ args H K r,x39a (R46_sameInts k) args H K = some (r : R) → ∃ v H',Tri Try.prog 39 args H v H' ∧ K v H' = some r := fj (x39S R k) (x39J (R46_sameInts_l0 k) k) Try.func39 (by kernel_rfl) (A := JS Try.prog 26 (x39a0 (R46_sameInts_l0 (R := R) k) k) x39s0.ls x39s0.out (.loop (sel [1,1,0,1,0,0] (bd Try.f39))) ∧ True) ⟨x39j0 R k,trivial⟩ (by kernel_rfl) (fun _ _ => .trans (x39e _ _ _) (by kernel_rfl))
end
/-! ### R46_Same: function 22 -/
abbrev R46_Same_p0_u (R : Type) : Type := Heap → (Oa → Oa → Option R) → (Bool → Option R) → Option R
abbrev R46_Same_p0_t (R : Type) : Type := Oa → Oa → R46_Same_p0_u R
abbrev R46_Same_l1_r (R : Type) : Type := Oa → Oa → Int → Heap → Option R
abbrev R46_Same_l1_q (R T : Type) : Type := (Unit → Option R) → (Bool → Option R) → T
abbrev R46_Same_l1_t (R : Type) : Type := R46_Same_l1_q R (Nat → R46_Same_l1_r R)
abbrev R46_Same_u (R : Type) : Type := Heap → (Bool → Heap → Option R) → Option R
abbrev R46_Same_t (R : Type) : Type := Int → Oa → Nat → Nat → Oa → Nat → Nat → Int → Oa → Nat → Nat → Oa → Nat → Nat → R46_Same_u R
section
variable {R : Type} (f0 : R46_sameInts_t R) (z0 : R46_Same_p0_t R) (z1 : R46_Same_l1_t R)
def R46_Same_p0_b (k : Nat) : R46_Same_p0_t R := fun p1 p2 H KN KR =>
hfad 0 p1 fun p3 =>
ldI .i64 H p3 fun n4 =>
hfad 0 p2 fun p5 =>
ldI .i64 H p5 fun n6 =>
bif (n4 != n6) then (KR false)
 else (hfad 1 p1 fun p7 =>
ldL H p7 fun q8 l9 c10 =>
hfad 1 p2 fun p11 =>
ldL H p11 fun q12 l13 c14 =>
f0 q8 l9 c10 q12 l13 c14 H fun t15 =>
bif (!t15) then (KR false)
 else (hfad 2 p1 fun p16 =>
ldL H p16 fun q17 l18 c19 =>
hfad 2 p2 fun p20 =>
ldL H p20 fun q21 l22 c23 =>
bif (((l18 : Nat) : Int) != ((l22 : Nat) : Int)) then (KR false)
 else (KN p1 p2)))
def R46_Same_p0 (k : Nat) : R46_Same_p0_t R := R46_Same_p0_b (R46_sameInts k) k
def R46_Same_l1_b (k : Nat) : R46_Same_l1_q R (R46_Same_l1_r R → R46_Same_l1_r R) := fun KE0 KR rec p1 p2 n3 H =>
hfad 2 p1 fun p4 =>
ldL H p4 fun q5 l6 c7 =>
bif decide (n3 < ((l6 : Nat) : Int)) then (hfad 2 p1 fun p8 =>
ldL H p8 fun q9 l10 c11 =>
hidx q9 l10 n3 1 fun p12 =>
ldL H p12 fun q13 l14 c15 =>
hfad 2 p2 fun p16 =>
ldL H p16 fun q17 l18 c19 =>
hidx q17 l18 n3 1 fun p20 =>
ldL H p20 fun q21 l22 c23 =>
f0 q13 l14 c15 q21 l22 c23 H fun t24 =>
bif (!t24) then (KR false)
 else (rec p1 p2 (IntKind.wrap .i64 (n3 + 1)) H))
 else (KE0 ())
def R46_Same_l1 (k : Nat) : R46_Same_l1_t R
  | KE0,KR,0 => fun _ _ _ _ => none
  | KE0,KR,n + 1 => R46_Same_l1_b (R46_sameInts k) k KE0 KR (R46_Same_l1 k KE0 KR n)
def R46_Same_b (k : Nat) : R46_Same_t R := fun n1 q2 l3 c4 q5 l6 c7 n8 q9 l10 c11 q12 l13 c14 H K =>
hal H [.int .i64 n1,.slice q2 l3 c4,.slice q5 l6 c7] fun p15 H16 =>
hal H16 [.int .i64 n8,.slice q9 l10 c11,.slice q12 l13 c14] fun p17 H18 =>
z0 p15 p17 H18 (fun p22 p23 =>
z1 (fun (_ : Unit) =>
K true H18) (fun t25 =>
K t25 H18) k p22 p23 0 H18) (fun t26 =>
K t26 H18)
def R46_Same (k : Nat) : R46_Same_t R := R46_Same_b (R46_Same_p0 k) (R46_Same_l1 k) k
def x22C : Tab R := tcons 39 (x39a f0) <| fun _ _ _ _ => none
def x22s1 : PS := ⟨(.seq (.seq (.reg [2,3,5,32] []) (.cond .leaf .leaf)) (.seq (.node (.seq (.reg [2,3,5,46] (ms [0,1,0,7,15,0,32,0,224,480,1023,2047])) (.cond (.seq (.reg [4] []) .leaf) .leaf))) (.reg [2,3,5] []))),[2,3,5],[.p,.p,.n],⟨[],[(0,[])],[4]⟩⟩
def x22c1 {T : Type} (g : R46_Same_l1_q R T) (H : Heap) (K : XK R) : T := g (kU (.exit 0) K H) (kN .ret [4] [.b] K H)
def x22a1 (f : R46_Same_l1_t R) : Nat → List Value → Heap → XK R → Option R := jl x22s1 (L := R46_Same_l1_t R) x22c1 pH f
def x22s0 : PS := ⟨(.seq (.reg [2,3,27] []) (.cond (.seq (.reg [4] []) .leaf) .leaf)),[2,3],[.p,.p],⟨[2,3],[],[4]⟩⟩
def x22c0 (g : R46_Same_p0_u R) (H : Heap) (K : XK R) : Option R := g H (kN .normal [2,3] [.p,.p] K H) (kN .ret [4] [.b] K H)
def x22a0 (f : R46_Same_p0_t R) : Nat → List Value → Heap → XK R → Option R := jp x22s0 x22c0 f
def x22J (k : Nat) : JTab R := tcons 0 (x22a0 z0 k) <| tcons 1 (x22a1 z1 k) <| fun _ _ _ _ => none
def x22t : AT := (.seq (.reg [2,3] []) (.seq (.opq 0 x22s0.ls x22s0.out x22s0.t) (.seq (.seq (.reg [2,3,5] []) (.node (.opq 1 x22s1.ls x22s1.out (.node x22s1.t)))) (.seq (.reg [4] []) .leaf))))
def x22c (g : R46_Same_u R) (H : Heap) (K : Value → Heap → Option R) : Option R := g H (rH [.b] K)
def x22a (f : R46_Same_t R) : List Value → Heap → (Value → Heap → Option R) → Option R := jf 2 [(.a 3),.n,.l,.l,(.a 3),.n,.l,.l] x22c f
variable {f0 z0 z1}
theorem x22e1 (k n : Nat) (H : Heap) (K : XK R) : lE Try.prog An 47 (x22C f0) (x22J z0 z1 k) x22s1 (sel [1,1,0,1,0,0] (bd Try.f22)) (x22a1 z1) n H K = mapT (fun g => pH g H) x22s1.ts (x22c1 (R46_Same_l1_b f0 k) H K (x22c1 z1 H K n)) := by kernel_rfl
theorem x22e0 (k : Nat) (H : Heap) (K : XK R) : jE Try.prog An 47 (x22C f0) (x22J z0 z1 k) x22s0 (sel [1,0] (bd Try.f22)) H K = mapT (fun g => x22c0 g H K) x22s0.ts (R46_Same_p0_b f0 k) := by kernel_rfl
theorem x22e (k : Nat) (H : Heap) (K : Value → Heap → Option R) : fE Try.prog An (x22C f0) (x22J z0 z1 k) x22t Try.f22 [(.a 3),.n,.l,.l,(.a 3),.n,.l,.l] H K = mapT (fun g => x22c g H K) [(.a 3),.n,.l,.l,(.a 3),.n,.l,.l] (R46_Same_b z0 z1 k) := by kernel_rfl
theorem x22S (R : Type) (k : Nat) : CSound Try.prog (x22C (R := R) (R46_sameInts k)) := csound_cons (x39cs R k) <| csound_nil
theorem x22j1 (R : Type) (k : Nat) : JS Try.prog 47 (x22a1 (R46_Same_l1 (R := R) k) k) x22s1.ls x22s1.out (.loop (sel [1,1,0,1,0,0] (bd Try.f22))) := lj (x22S R k) (x22J (R46_Same_p0 k) (R46_Same_l1 k) k) (by kernel_rfl) (A := True) trivial (by kernel_rfl) (fun _ _ => by kernel_rfl) (fun _ _ _ => .trans (x22e1 _ _ _ _) (by kernel_rfl)) k
theorem x22j0 (R : Type) (k : Nat) : JS Try.prog 47 (x22a0 (R46_Same_p0 (R := R) k) k) x22s0.ls x22s0.out (sel [1,0] (bd Try.f22)) := pj (x22S R k) (x22J (R46_Same_p0 k) (R46_Same_l1 k) k) (by kernel_rfl) (A := True) trivial (by kernel_rfl) (fun _ _ => .trans (x22e0 _ _ _) (by kernel_rfl))
theorem x22cs (R : Type) (k : Nat) : ∀ args H K r,x22a (R46_Same k) args H K = some (r : R) → ∃ v H',Tri Try.prog 22 args H v H' ∧ K v H' = some r := fj (x22S R k) (x22J (R46_Same_p0 k) (R46_Same_l1 k) k) Try.func22 (by kernel_rfl) (A := JS Try.prog 47 (x22a0 (R46_Same_p0 (R := R) k) k) x22s0.ls x22s0.out (sel [1,0] (bd Try.f22)) ∧ JS Try.prog 47 (x22a1 (R46_Same_l1 (R := R) k) k) x22s1.ls x22s1.out (.loop (sel [1,1,0,1,0,0] (bd Try.f22))) ∧ True) ⟨x22j0 R k,⟨x22j1 R k,trivial⟩⟩ (by kernel_rfl) (fun _ _ => .trans (x22e _ _ _) (by kernel_rfl))
end
end Go.Proofs.Ytkjcjlembepdkaa.Sh
