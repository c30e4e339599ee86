/- Lean functions that stand for Go's,over an explicit heap,and the proofs that they do (written by this claim's program sh2.py). -/
import Derived.Test.YtkjcjlembepdkaaShA
set_option maxRecDepth 100000
set_option linter.unusedVariables false
set_option linter.unusedSimpArgs false
namespace Go.Proofs.Ytkjcjlembepdkaa.Sh
open Go.Proofs.Ytkjcjlembepdkaa.FW
/-! ### R46_Few: function 9 -/
abbrev R46_Few_p0_u (R : Type) : Type := Heap → (Oa → Option R) → (Bool → Option R) → Option R
abbrev R46_Few_p0_t (R : Type) : Type := Oa → R46_Few_p0_u R
abbrev R46_Few_l1_r (R : Type) : Type := Oa → Int → Heap → Option R
abbrev R46_Few_l1_q (R T : Type) : Type := (Unit → Option R) → (Bool → Option R) → T
abbrev R46_Few_l1_t (R : Type) : Type := R46_Few_l1_q R (Nat → R46_Few_l1_r R)
abbrev R46_Few_u (R : Type) : Type := Heap → (Bool → Heap → Option R) → Option R
abbrev R46_Few_t (R : Type) : Type := Int → Oa → Nat → Nat → Oa → Nat → Nat → R46_Few_u R
section
variable {R : Type} (z0 : R46_Few_p0_t R) (z1 : R46_Few_l1_t R)
def R46_Few_p0_b (k : Nat) : R46_Few_p0_t R := fun p1 H KN KR =>
hfad 1 p1 fun p2 =>
ldL H p2 fun q3 l4 c5 =>
bif decide (((l4 : Nat) : Int) > 20) then (KR false)
 else (hfad 2 p1 fun p6 =>
ldL H p6 fun q7 l8 c9 =>
bif decide (((l8 : Nat) : Int) > 300) then (KR false)
 else (KN p1))
def R46_Few_p0 (k : Nat) : R46_Few_p0_t R := R46_Few_p0_b k
def R46_Few_l1_b (k : Nat) : R46_Few_l1_q R (R46_Few_l1_r R → R46_Few_l1_r R) := fun KE0 KR rec p1 n2 H =>
hfad 2 p1 fun p3 =>
ldL H p3 fun q4 l5 c6 =>
bif decide (n2 < ((l5 : Nat) : Int)) then (hfad 2 p1 fun p7 =>
ldL H p7 fun q8 l9 c10 =>
hidx q8 l9 n2 1 fun p11 =>
ldL H p11 fun q12 l13 c14 =>
bif decide (((l13 : Nat) : Int) > 20) then (KR false)
 else (rec p1 (IntKind.wrap .i64 (n2 + 1)) H))
 else (KE0 ())
def R46_Few_l1 (k : Nat) : R46_Few_l1_t R
  | KE0,KR,0 => fun _ _ _ => none
  | KE0,KR,n + 1 => R46_Few_l1_b k KE0 KR (R46_Few_l1 k KE0 KR n)
def R46_Few_b (k : Nat) : R46_Few_t R := fun n1 q2 l3 c4 q5 l6 c7 H K =>
hal H [.int .i64 n1,.slice q2 l3 c4,.slice q5 l6 c7] fun p8 H9 =>
z0 p8 H9 (fun p12 =>
z1 (fun (_ : Unit) =>
K true H9) (fun t14 =>
K t14 H9) k p12 0 H9) (fun t15 =>
K t15 H9)
def R46_Few (k : Nat) : R46_Few_t R := R46_Few_b (R46_Few_p0 k) (R46_Few_l1 k) k
def x9C : Tab R := fun _ _ _ _ => none
def x9s1 : PS := ⟨(.seq (.seq (.reg [1,3,18] []) (.cond .leaf .leaf)) (.seq (.node (.seq (.reg [1,3,27] []) (.cond (.seq (.reg [2] []) .leaf) .leaf))) (.reg [1,3] []))),[1,3],[.p,.n],⟨[],[(0,[])],[2]⟩⟩
def x9c1 {T : Type} (g : R46_Few_l1_q R T) (H : Heap) (K : XK R) : T := g (kU (.exit 0) K H) (kN .ret [2] [.b] K H)
def x9a1 (f : R46_Few_l1_t R) : Nat → List Value → Heap → XK R → Option R := jl x9s1 (L := R46_Few_l1_t R) x9c1 pH f
def x9s0 : PS := ⟨(.seq (.reg [1,13] []) (.cond (.seq (.reg [2] []) .leaf) .leaf)),[1],[.p],⟨[1],[],[2]⟩⟩
def x9c0 (g : R46_Few_p0_u R) (H : Heap) (K : XK R) : Option R := g H (kN .normal [1] [.p] K H) (kN .ret [2] [.b] K H)
def x9a0 (f : R46_Few_p0_t R) : Nat → List Value → Heap → XK R → Option R := jp x9s0 x9c0 f
def x9J (k : Nat) : JTab R := tcons 0 (x9a0 z0 k) <| tcons 1 (x9a1 z1 k) <| fun _ _ _ _ => none
def x9t : AT := (.seq (.reg [1] []) (.seq (.opq 0 x9s0.ls x9s0.out x9s0.t) (.seq (.seq (.reg [1,3] []) (.node (.opq 1 x9s1.ls x9s1.out (.node x9s1.t)))) (.seq (.reg [2] []) .leaf))))
def x9c (g : R46_Few_u R) (H : Heap) (K : Value → Heap → Option R) : Option R := g H (rH [.b] K)
def x9a (f : R46_Few_t R) : List Value → Heap → (Value → Heap → Option R) → Option R := jf 1 [(.a 3),.n,.l,.l] x9c f
variable {z0 z1}
theorem x9e1 (k n : Nat) (H : Heap) (K : XK R) : lE Try.prog An 28 (x9C) (x9J z0 z1 k) x9s1 (sel [1,1,0,1,0,0] (bd Try.f9)) (x9a1 z1) n H K = mapT (fun g => pH g H) x9s1.ts (x9c1 (R46_Few_l1_b k) H K (x9c1 z1 H K n)) := by kernel_rfl
theorem x9e0 (k : Nat) (H : Heap) (K : XK R) : jE Try.prog An 28 (x9C) (x9J z0 z1 k) x9s0 (sel [1,0] (bd Try.f9)) H K = mapT (fun g => x9c0 g H K) x9s0.ts (R46_Few_p0_b k) := by kernel_rfl
theorem x9e (k : Nat) (H : Heap) (K : Value → Heap → Option R) : fE Try.prog An (x9C) (x9J z0 z1 k) x9t Try.f9 [(.a 3),.n,.l,.l] H K = mapT (fun g => x9c g H K) [(.a 3),.n,.l,.l] (R46_Few_b z0 z1 k) := by kernel_rfl
theorem x9S (R : Type) (k : Nat) : CSound Try.prog (x9C (R := R)) := csound_nil
theorem x9j1 (R : Type) (k : Nat) : JS Try.prog 28 (x9a1 (R46_Few_l1 (R := R) k) k) x9s1.ls x9s1.out (.loop (sel [1,1,0,1,0,0] (bd Try.f9))) := lj (x9S R k) (x9J (R46_Few_p0 k) (R46_Few_l1 k) k) (by kernel_rfl) (A := True) trivial (by kernel_rfl) (fun _ _ => by kernel_rfl) (fun _ _ _ => .trans (x9e1 _ _ _ _) (by kernel_rfl)) k
theorem x9j0 (R : Type) (k : Nat) : JS Try.prog 28 (x9a0 (R46_Few_p0 (R := R) k) k) x9s0.ls x9s0.out (sel [1,0] (bd Try.f9)) := pj (x9S R k) (x9J (R46_Few_p0 k) (R46_Few_l1 k) k) (by kernel_rfl) (A := True) trivial (by kernel_rfl) (fun _ _ => .trans (x9e0 _ _ _) (by kernel_rfl))
theorem x9cs (R : Type) (k : Nat) : ∀ args H K r,x9a (R46_Few k) args H K = some (r : R) → ∃ v H',Tri Try.prog 9 args H v H' ∧ K v H' = some r := fj (x9S R k) (x9J (R46_Few_p0 k) (R46_Few_l1 k) k) Try.func9 (by kernel_rfl) (A := JS Try.prog 28 (x9a0 (R46_Few_p0 (R := R) k) k) x9s0.ls x9s0.out (sel [1,0] (bd Try.f9)) ∧ JS Try.prog 28 (x9a1 (R46_Few_l1 (R := R) k) k) x9s1.ls x9s1.out (.loop (sel [1,1,0,1,0,0] (bd Try.f9))) ∧ True) ⟨x9j0 R k,⟨x9j1 R k,trivial⟩⟩ (by kernel_rfl) (fun _ _ => .trans (x9e _ _ _) (by kernel_rfl))
end
end Go.Proofs.Ytkjcjlembepdkaa.Sh
