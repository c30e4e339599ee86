/- Lean functions that stand for Go's,over an explicit heap,and the proofs that they do (written by this claim's program sh2.py). -/
import Derived.Test.YtkjcjlembepdkaaShA
set_option maxRecDepth 100000
set_option linter.unusedVariables false
set_option linter.unusedSimpArgs false
namespace Go.Proofs.Ytkjcjlembepdkaa.Sh
open Go.Proofs.Ytkjcjlembepdkaa.FW
/-! ### R46_Channels: function 14 -/
abbrev R46_Channels_u (R : Type) : Type := (Int → Option R) → Option R
abbrev R46_Channels_t (R : Type) : Type := Int → R46_Channels_u R
section
variable {R : Type}
def R46_Channels_b (k : Nat) : R46_Channels_t R := fun n1 K =>
bif (n1 == 1) then (K 1)
 else (bif (n1 == 2) then (bif (n1 == 2) then (K 3)
 else (K 0))
 else (bif (n1 == 3) then (K 3)
 else (K 0)))
def R46_Channels : R46_Channels_t R := R46_Channels_b 0
def x14C : Tab R := fun _ _ _ _ => none
def x14J (k : Nat) : JTab R := fun _ _ _ _ => none
def x14t : AT := (.seq (.reg [0] []) (.seq (.seq (.reg [3] []) (.node (.seq (.reg [3,4] []) (.cond (.seq (.reg [2] []) .leaf) (.seq (.seq (.reg [3,6] []) (.cond .leaf (.reg [6] []))) (.cond (.seq (.reg [2] []) .leaf) .leaf)))))) (.seq (.reg [2] []) .leaf)))
def x14c (g : R46_Channels_u R) (H : Heap) (K : Value → Heap → Option R) : Option R := g (rN [.n] K H)
def x14a (f : R46_Channels_t R) : List Value → Heap → (Value → Heap → Option R) → Option R := jf 1 [.n] x14c f
theorem x14e (k : Nat) (H : Heap) (K : Value → Heap → Option R) : fE Try.prog An (x14C) (x14J k) x14t Try.f14 [.n] H K = mapT (fun g => x14c g H K) [.n] (R46_Channels_b k) := by kernel_rfl
theorem x14S (R : Type) (k : Nat) : CSound Try.prog (x14C (R := R)) := csound_nil
theorem x14cs (R : Type) (k : Nat) : ∀ args H K r,x14a (R46_Channels) args H K = some (r : R) → ∃ v H',Tri Try.prog 14 args H v H' ∧ K v H' = some r := fj (x14S R k) (x14J 0) Try.func14 (by kernel_rfl) (A := True) trivial (by kernel_rfl) (fun _ _ => .trans (x14e _ _ _) (by kernel_rfl))
end
/-! ### R46_roles: function 43 -/
abbrev R46_roles_p0_u (R : Type) : Type := (Oa → Int → Option R) → (Bool → Option R) → Option R
abbrev R46_roles_p0_t (R : Type) : Type := Oa → Int → R46_roles_p0_u R
abbrev R46_roles_p2_u (R : Type) : Type := Heap → (Oa → Int → Int → Int → Option R) → Option R
abbrev R46_roles_p2_t (R : Type) : Type := Oa → Int → Int → Int → R46_roles_p2_u R
abbrev R46_roles_l1_r (R : Type) : Type := Oa → Int → Int → Int → Heap → Option R
abbrev R46_roles_l1_q (R T : Type) : Type := (Oa → Int → Int → Option R) → T
abbrev R46_roles_l1_t (R : Type) : Type := R46_roles_l1_q R (Nat → R46_roles_l1_r R)
abbrev R46_roles_p3_u (R : Type) : Type := Heap → (Oa → Int → Int → Option R) → (Bool → Option R) → Option R
abbrev R46_roles_p3_t (R : Type) : Type := Oa → Int → Int → Int → R46_roles_p3_u R
abbrev R46_roles_p6_u (R : Type) : Type := Heap → (Oa → Int → Int → Int → Bool → Int → Option R) → Option R
abbrev R46_roles_p6_t (R : Type) : Type := Oa → Int → Int → Int → Bool → Int → R46_roles_p6_u R
abbrev R46_roles_l5_r (R : Type) : Type := Oa → Int → Int → Int → Bool → Int → Heap → Option R
abbrev R46_roles_l5_q (R T : Type) : Type := (Oa → Int → Int → Int → Bool → Option R) → T
abbrev R46_roles_l5_t (R : Type) : Type := R46_roles_l5_q R (Nat → R46_roles_l5_r R)
abbrev R46_roles_l4_r (R : Type) : Type := Oa → Int → Int → Int → Heap → Option R
abbrev R46_roles_l4_q (R T : Type) : Type := (Unit → Option R) → (Bool → Option R) → T
abbrev R46_roles_l4_t (R : Type) : Type := R46_roles_l4_q R (Nat → R46_roles_l4_r R)
abbrev R46_roles_u (R : Type) : Type := Heap → (Bool → Heap → Option R) → Option R
abbrev R46_roles_t (R : Type) : Type := Int → Oa → Nat → Nat → Oa → Nat → Nat → R46_roles_u R
section
variable {R : Type} (f0 : R46_Channels_t R) (z0 : R46_roles_p0_t R) (z1 : R46_roles_l1_t R) (z2 : R46_roles_p2_t R) (z3 : R46_roles_p3_t R) (z4 : R46_roles_l4_t R) (z5 : R46_roles_l5_t R) (z6 : R46_roles_p6_t R)
def R46_roles_p0_b (k : Nat) : R46_roles_p0_t R := fun p1 n2 KN KR =>
bif decide (n2 < 1) then (KR false)
 else (bif decide (n2 > 4) then (KR false)
 else (KN p1 n2))
def R46_roles_p0 (k : Nat) : R46_roles_p0_t R := R46_roles_p0_b k
def R46_roles_p2_b (k : Nat) : R46_roles_p2_t R := fun p1 n2 n3 n4 H KN =>
hfad 1 p1 fun p5 =>
ldL H p5 fun q6 l7 c8 =>
hidx q6 l7 n4 1 fun p9 =>
ldI .i64 H p9 fun n10 =>
bif (n10 == 0) then (KN p1 n2 (IntKind.wrap .i64 (n3 + 1)) n4)
 else (KN p1 n2 n3 n4)
def R46_roles_p2 (k : Nat) : R46_roles_p2_t R := R46_roles_p2_b k
def R46_roles_l1_b (k : Nat) : R46_roles_l1_q R (R46_roles_l1_r R → R46_roles_l1_r R) := fun KE0 rec p1 n2 n3 n4 H =>
bif decide (n4 < n2) then (z2 p1 n2 n3 n4 H (fun p9 n10 n11 n12 =>
rec p9 n10 n11 (IntKind.wrap .i64 (n12 + 1)) H))
 else (KE0 p1 n2 n3)
def R46_roles_l1 (k : Nat) : R46_roles_l1_t R
  | KE0,0 => fun _ _ _ _ _ => none
  | KE0,n + 1 => R46_roles_l1_b (R46_roles_p2 k) k KE0 (R46_roles_l1 k KE0 n)
def R46_roles_p3_b (k : Nat) : R46_roles_p3_t R := fun p1 n2 n3 n4 H KN KR =>
bif decide (n3 > 1) then (KR false)
 else (bif decide (n4 < 1) then (KR false)
 else (hfad 0 p1 fun p5 =>
ldI .i64 H p5 fun n6 =>
bif (n6 != 4) then (hfad 0 p1 fun p7 =>
ldI .i64 H p7 fun n8 =>
f0 n8 fun n9 =>
bif (n4 != n9) then (KR false)
 else (KN p1 n2 n4))
 else (KN p1 n2 n4)))
def R46_roles_p3 (k : Nat) : R46_roles_p3_t R := R46_roles_p3_b R46_Channels k
def R46_roles_p6_b (k : Nat) : R46_roles_p6_t R := fun p1 n2 n3 n4 t5 n6 H KN =>
bif t5 then (KN p1 n2 n3 n4 true n6)
 else (hfad 1 p1 fun p7 =>
ldL H p7 fun q8 l9 c10 =>
hidx q8 l9 n6 1 fun p11 =>
ldI .i64 H p11 fun n12 =>
KN p1 n2 n3 n4 (n12 == n4) n6)
def R46_roles_p6 (k : Nat) : R46_roles_p6_t R := R46_roles_p6_b k
def R46_roles_l5_b (k : Nat) : R46_roles_l5_q R (R46_roles_l5_r R → R46_roles_l5_r R) := fun KE4 rec p1 n2 n3 n4 t5 n6 H =>
bif decide (n6 < n2) then (z6 p1 n2 n3 n4 t5 n6 H (fun p13 n14 n15 n16 t17 n18 =>
rec p13 n14 n15 n16 t17 (IntKind.wrap .i64 (n18 + 1)) H))
 else (KE4 p1 n2 n3 n4 t5)
def R46_roles_l5 (k : Nat) : R46_roles_l5_t R
  | KE4,0 => fun _ _ _ _ _ _ _ => none
  | KE4,n + 1 => R46_roles_l5_b (R46_roles_p6 k) k KE4 (R46_roles_l5 k KE4 n)
def R46_roles_l4_b (k : Nat) : R46_roles_l4_q R (R46_roles_l4_r R → R46_roles_l4_r R) := fun KE2 KR rec p1 n2 n3 n4 H =>
bif decide (n4 ≤ n3) then (z5 (fun p10 n11 n12 n13 t14 =>
bif (!t14) then (KR false)
 else (rec p10 n11 n12 (IntKind.wrap .i64 (n13 + 1)) H)) k p1 n2 n3 n4 false 0 H)
 else (KE2 ())
def R46_roles_l4 (k : Nat) : R46_roles_l4_t R
  | KE2,KR,0 => fun _ _ _ _ _ => none
  | KE2,KR,n + 1 => R46_roles_l4_b (R46_roles_l5 k) k KE2 KR (R46_roles_l4 k KE2 KR n)
def R46_roles_b (k : Nat) : R46_roles_t R := fun n1 q2 l3 c4 q5 l6 c7 H K =>
hal H [.int .i64 n1,.slice q2 l3 c4,.slice q5 l6 c7] fun p8 H9 =>
hfad 1 p8 fun p10 =>
ldL H9 p10 fun q11 l12 c13 =>
z0 p8 ((l12 : Nat) : Int) (fun p17 n18 =>
z1 (fun p22 n23 n24 =>
z3 p22 n23 n24 (IntKind.wrap .i64 (n23 - n24)) H9 (fun p29 n30 n31 =>
z4 (fun (_ : Unit) =>
K true H9) (fun t33 =>
K t33 H9) k p29 n30 n31 1 H9) (fun t34 =>
K t34 H9)) k p17 n18 0 0 H9) (fun t35 =>
K t35 H9)
def R46_roles (k : Nat) : R46_roles_t R := R46_roles_b (R46_roles_p0 k) (R46_roles_l1 k) (R46_roles_p3 k) (R46_roles_l4 k) k
def x43C : Tab R := tcons 14 (x14a f0) <| fun _ _ _ _ => none
def x43s6 : PS := ⟨(.node (.reg [1,3,6,7,8,9] [])),[1,3,6,7,8,9],[.p,.n,.n,.n,.b,.n],⟨[1,3,6,7,8,9],[],[]⟩⟩
def x43c6 (g : R46_roles_p6_u R) (H : Heap) (K : XK R) : Option R := g H (kN .normal [1,3,6,7,8,9] [.p,.n,.n,.n,.b,.n] K H)
def x43a6 (f : R46_roles_p6_t R) : Nat → List Value → Heap → XK R → Option R := jp x43s6 x43c6 f
def x43s5 : PS := ⟨(.seq (.seq (.reg [1,3,6,7,8,9,60] []) (.cond .leaf .leaf)) (.seq (.opq 6 x43s6.ls x43s6.out x43s6.t) (.reg [1,3,6,7,8,9] []))),[1,3,6,7,8,9],[.p,.n,.n,.n,.b,.n],⟨[],[(4,[1,3,6,7,8])],[]⟩⟩
def x43c5 {T : Type} (g : R46_roles_l5_q R T) (H : Heap) (K : XK R) : T := g (kN (.exit 4) [1,3,6,7,8] [.p,.n,.n,.n,.b] K H)
def x43a5 (f : R46_roles_l5_t R) : Nat → List Value → Heap → XK R → Option R := jl x43s5 (L := R46_roles_l5_t R) x43c5 pH f
def x43s4 : PS := ⟨(.seq (.seq (.reg [1,3,6,7,55] []) (.cond .leaf .leaf)) (.seq (.node (.seq (.reg [1,3,6,7,8] []) (.seq (.seq (.reg [1,3,6,7,8,9] []) (.node (.opq 5 x43s5.ls x43s5.out (.node x43s5.t)))) (.seq (.reg [1,3,6,7,74] []) (.cond (.seq (.reg [2] []) .leaf) .leaf))))) (.reg [1,3,6,7] []))),[1,3,6,7],[.p,.n,.n,.n],⟨[],[(2,[])],[2]⟩⟩
def x43c4 {T : Type} (g : R46_roles_l4_q R T) (H : Heap) (K : XK R) : T := g (kU (.exit 2) K H) (kN .ret [2] [.b] K H)
def x43a4 (f : R46_roles_l4_t R) : Nat → List Value → Heap → XK R → Option R := jl x43s4 (L := R46_roles_l4_t R) x43c4 pH f
def x43s3 : PS := ⟨(.seq (.reg [1,3,6,52] []) (.cond (.seq (.reg [2] []) .leaf) .leaf)),[1,3,4,6],[.p,.n,.n,.n],⟨[1,3,6],[],[2]⟩⟩
def x43c3 (g : R46_roles_p3_u R) (H : Heap) (K : XK R) : Option R := g H (kN .normal [1,3,6] [.p,.n,.n] K H) (kN .ret [2] [.b] K H)
def x43a3 (f : R46_roles_p3_t R) : Nat → List Value → Heap → XK R → Option R := jp x43s3 x43c3 f
def x43s2 : PS := ⟨(.node (.seq (.reg [1,3,4,5,29] []) (.cond (.reg [1,3,4,5] []) .leaf))),[1,3,4,5],[.p,.n,.n,.n],⟨[1,3,4,5],[],[]⟩⟩
def x43c2 (g : R46_roles_p2_u R) (H : Heap) (K : XK R) : Option R := g H (kN .normal [1,3,4,5] [.p,.n,.n,.n] K H)
def x43a2 (f : R46_roles_p2_t R) : Nat → List Value → Heap → XK R → Option R := jp x43s2 x43c2 f
def x43s1 : PS := ⟨(.seq (.seq (.reg [1,3,4,5,21] []) (.cond .leaf .leaf)) (.seq (.opq 2 x43s2.ls x43s2.out x43s2.t) (.reg [1,3,4,5] []))),[1,3,4,5],[.p,.n,.n,.n],⟨[],[(0,[1,3,4])],[]⟩⟩
def x43c1 {T : Type} (g : R46_roles_l1_q R T) (H : Heap) (K : XK R) : T := g (kN (.exit 0) [1,3,4] [.p,.n,.n] K H)
def x43a1 (f : R46_roles_l1_t R) : Nat → List Value → Heap → XK R → Option R := jl x43s1 (L := R46_roles_l1_t R) x43c1 pH f
def x43s0 : PS := ⟨(.seq (.reg [1,3,18] []) (.cond (.seq (.reg [2] []) .leaf) .leaf)),[1,3],[.p,.n],⟨[1,3],[],[2]⟩⟩
def x43c0 (g : R46_roles_p0_u R) (H : Heap) (K : XK R) : Option R := g (kN .normal [1,3] [.p,.n] K H) (kN .ret [2] [.b] K H)
def x43a0 (f : R46_roles_p0_t R) : Nat → List Value → Heap → XK R → Option R := jp x43s0 x43c0 f
def x43J (k : Nat) : JTab R := tcons 0 (x43a0 z0 k) <| tcons 1 (x43a1 z1 k) <| tcons 2 (x43a2 z2 k) <| tcons 3 (x43a3 z3 k) <| tcons 4 (x43a4 z4 k) <| tcons 5 (x43a5 z5 k) <| tcons 6 (x43a6 z6 k) <| fun _ _ _ _ => none
def x43t : AT := (.seq (.reg [1] []) (.seq (.reg [1,3] []) (.seq (.opq 0 x43s0.ls x43s0.out x43s0.t) (.seq (.reg [1,3,4] []) (.seq (.seq (.reg [1,3,4,5] []) (.node (.opq 1 x43s1.ls x43s1.out (.node x43s1.t)))) (.seq (.reg [1,3,4,6] []) (.seq (.opq 3 x43s3.ls x43s3.out x43s3.t) (.seq (.seq (.reg [1,3,6,7] []) (.node (.opq 4 x43s4.ls x43s4.out (.node x43s4.t)))) (.seq (.reg [2] []) .leaf)))))))))
def x43c (g : R46_roles_u R) (H : Heap) (K : Value → Heap → Option R) : Option R := g H (rH [.b] K)
def x43a (f : R46_roles_t R) : List Value → Heap → (Value → Heap → Option R) → Option R := jf 1 [(.a 3),.n,.l,.l] x43c f
variable {f0 z0 z1 z2 z3 z4 z5 z6}
theorem x43e6 (k : Nat) (H : Heap) (K : XK R) : jE Try.prog An 75 (x43C f0) (x43J z0 z1 z2 z3 z4 z5 z6 k) x43s6 (sel [1,1,1,1,1,1,1,0,1,0,0,1,0,0,1,0,1,0,0,1,0] (bd Try.f43)) H K = mapT (fun g => x43c6 g H K) x43s6.ts (R46_roles_p6_b k) := by kernel_rfl
theorem x43e5 (k n : Nat) (H : Heap) (K : XK R) : lE Try.prog An 75 (x43C f0) (x43J z0 z1 z2 z3 z4 z5 z6 k) x43s5 (sel [1,1,1,1,1,1,1,0,1,0,0,1,0,0,1,0,1,0,0] (bd Try.f43)) (x43a5 z5) n H K = mapT (fun g => pH g H) x43s5.ts (x43c5 (R46_roles_l5_b z6 k) H K (x43c5 z5 H K n)) := by kernel_rfl
theorem x43e4 (k n : Nat) (H : Heap) (K : XK R) : lE Try.prog An 75 (x43C f0) (x43J z0 z1 z2 z3 z4 z5 z6 k) x43s4 (sel [1,1,1,1,1,1,1,0,1,0,0] (bd Try.f43)) (x43a4 z4) n H K = mapT (fun g => pH g H) x43s4.ts (x43c4 (R46_roles_l4_b z5 k) H K (x43c4 z4 H K n)) := by kernel_rfl
theorem x43e3 (k : Nat) (H : Heap) (K : XK R) : jE Try.prog An 75 (x43C f0) (x43J z0 z1 z2 z3 z4 z5 z6 k) x43s3 (sel [1,1,1,1,1,1,0] (bd Try.f43)) H K = mapT (fun g => x43c3 g H K) x43s3.ts (R46_roles_p3_b f0 k) := by kernel_rfl
theorem x43e2 (k : Nat) (H : Heap) (K : XK R) : jE Try.prog An 75 (x43C f0) (x43J z0 z1 z2 z3 z4 z5 z6 k) x43s2 (sel [1,1,1,1,0,1,0,0,1,0] (bd Try.f43)) H K = mapT (fun g => x43c2 g H K) x43s2.ts (R46_roles_p2_b k) := by kernel_rfl
theorem x43e1 (k n : Nat) (H : Heap) (K : XK R) : lE Try.prog An 75 (x43C f0) (x43J z0 z1 z2 z3 z4 z5 z6 k) x43s1 (sel [1,1,1,1,0,1,0,0] (bd Try.f43)) (x43a1 z1) n H K = mapT (fun g => pH g H) x43s1.ts (x43c1 (R46_roles_l1_b z2 k) H K (x43c1 z1 H K n)) := by kernel_rfl
theorem x43e0 (k : Nat) (H : Heap) (K : XK R) : jE Try.prog An 75 (x43C f0) (x43J z0 z1 z2 z3 z4 z5 z6 k) x43s0 (sel [1,1,0] (bd Try.f43)) H K = mapT (fun g => x43c0 g H K) x43s0.ts (R46_roles_p0_b k) := by kernel_rfl
theorem x43e (k : Nat) (H : Heap) (K : Value → Heap → Option R) : fE Try.prog An (x43C f0) (x43J z0 z1 z2 z3 z4 z5 z6 k) x43t Try.f43 [(.a 3),.n,.l,.l] H K = mapT (fun g => x43c g H K) [(.a 3),.n,.l,.l] (R46_roles_b z0 z1 z3 z4 k) := by kernel_rfl
theorem x43S (R : Type) (k : Nat) : CSound Try.prog (x43C (R := R) R46_Channels) := csound_cons (x14cs R k) <| csound_nil
theorem x43j6 (R : Type) (k : Nat) : JS Try.prog 75 (x43a6 (R46_roles_p6 (R := R) k) k) x43s6.ls x43s6.out (sel [1,1,1,1,1,1,1,0,1,0,0,1,0,0,1,0,1,0,0,1,0] (bd Try.f43)) := pj (x43S R k) (x43J (R46_roles_p0 k) (R46_roles_l1 k) (R46_roles_p2 k) (R46_roles_p3 k) (R46_roles_l4 k) (R46_roles_l5 k) (R46_roles_p6 k) k) (by kernel_rfl) (A := True) trivial (by kernel_rfl) (fun _ _ => .trans (x43e6 _ _ _) (by kernel_rfl))
theorem x43j5 (R : Type) (k : Nat) : JS Try.prog 75 (x43a5 (R46_roles_l5 (R := R) k) k) x43s5.ls x43s5.out (.loop (sel [1,1,1,1,1,1,1,0,1,0,0,1,0,0,1,0,1,0,0] (bd Try.f43))) := lj (x43S R k) (x43J (R46_roles_p0 k) (R46_roles_l1 k) (R46_roles_p2 k) (R46_roles_p3 k) (R46_roles_l4 k) (R46_roles_l5 k) (R46_roles_p6 k) k) (by kernel_rfl) (A := JS Try.prog 75 (x43a6 (R46_roles_p6 (R := R) k) k) x43s6.ls x43s6.out (sel [1,1,1,1,1,1,1,0,1,0,0,1,0,0,1,0,1,0,0,1,0] (bd Try.f43)) ∧ True) ⟨x43j6 R k,trivial⟩ (by kernel_rfl) (fun _ _ => by kernel_rfl) (fun _ _ _ => .trans (x43e5 _ _ _ _) (by kernel_rfl)) k
theorem x43j4 (R : Type) (k : Nat) : JS Try.prog 75 (x43a4 (R46_roles_l4 (R := R) k) k) x43s4.ls x43s4.out (.loop (sel [1,1,1,1,1,1,1,0,1,0,0] (bd Try.f43))) := lj (x43S R k) (x43J (R46_roles_p0 k) (R46_roles_l1 k) (R46_roles_p2 k) (R46_roles_p3 k) (R46_roles_l4 k) (R46_roles_l5 k) (R46_roles_p6 k) k) (by kernel_rfl) (A := JS Try.prog 75 (x43a5 (R46_roles_l5 (R := R) k) k) x43s5.ls x43s5.out (.loop (sel [1,1,1,1,1,1,1,0,1,0,0,1,0,0,1,0,1,0,0] (bd Try.f43))) ∧ True) ⟨x43j5 R k,trivial⟩ (by kernel_rfl) (fun _ _ => by kernel_rfl) (fun _ _ _ => .trans (x43e4 _ _ _ _) (by kernel_rfl)) k
theorem x43j3 (R : Type) (k : Nat) : JS Try.prog 75 (x43a3 (R46_roles_p3 (R := R) k) k) x43s3.ls x43s3.out (sel [1,1,1,1,1,1,0] (bd Try.f43)) := pj (x43S R k) (x43J (R46_roles_p0 k) (R46_roles_l1 k) (R46_roles_p2 k) (R46_roles_p3 k) (R46_roles_l4 k) (R46_roles_l5 k) (R46_roles_p6 k) k) (by kernel_rfl) (A := True) trivial (by kernel_rfl) (fun _ _ => .trans (x43e3 _ _ _) (by kernel_rfl))
theorem x43j2 (R : Type) (k : Nat) : JS Try.prog 75 (x43a2 (R46_roles_p2 (R := R) k) k) x43s2.ls x43s2.out (sel [1,1,1,1,0,1,0,0,1,0] (bd Try.f43)) := pj (x43S R k) (x43J (R46_roles_p0 k) (R46_roles_l1 k) (R46_roles_p2 k) (R46_roles_p3 k) (R46_roles_l4 k) (R46_roles_l5 k) (R46_roles_p6 k) k) (by kernel_rfl) (A := True) trivial (by kernel_rfl) (fun _ _ => .trans (x43e2 _ _ _) (by kernel_rfl))
theorem x43j1 (R : Type) (k : Nat) : JS Try.prog 75 (x43a1 (R46_roles_l1 (R := R) k) k) x43s1.ls x43s1.out (.loop (sel [1,1,1,1,0,1,0,0] (bd Try.f43))) := lj (x43S R k) (x43J (R46_roles_p0 k) (R46_roles_l1 k) (R46_roles_p2 k) (R46_roles_p3 k) (R46_roles_l4 k) (R46_roles_l5 k) (R46_roles_p6 k) k) (by kernel_rfl) (A := JS Try.prog 75 (x43a2 (R46_roles_p2 (R := R) k) k) x43s2.ls x43s2.out (sel [1,1,1,1,0,1,0,0,1,0] (bd Try.f43)) ∧ True) ⟨x43j2 R k,trivial⟩ (by kernel_rfl) (fun _ _ => by kernel_rfl) (fun _ _ _ => .trans (x43e1 _ _ _ _) (by kernel_rfl)) k
theorem x43j0 (R : Type) (k : Nat) : JS Try.prog 75 (x43a0 (R46_roles_p0 (R := R) k) k) x43s0.ls x43s0.out (sel [1,1,0] (bd Try.f43)) := pj (x43S R k) (x43J (R46_roles_p0 k) (R46_roles_l1 k) (R46_roles_p2 k) (R46_roles_p3 k) (R46_roles_l4 k) (R46_roles_l5 k) (R46_roles_p6 k) k) (by kernel_rfl) (A := True) trivial (by kernel_rfl) (fun _ _ => .trans (x43e0 _ _ _) (by kernel_rfl))
theorem x43cs (R : Type) (k : Nat) : ∀ args H K r,x43a (R46_roles k) args H K = some (r : R) → ∃ v H',Tri Try.prog 43 args H v H' ∧ K v H' = some r := fj (x43S R k) (x43J (R46_roles_p0 k) (R46_roles_l1 k) (R46_roles_p2 k) (R46_roles_p3 k) (R46_roles_l4 k) (R46_roles_l5 k) (R46_roles_p6 k) k) Try.func43 (by kernel_rfl) (A := JS Try.prog 75 (x43a0 (R46_roles_p0 (R := R) k) k) x43s0.ls x43s0.out (sel [1,1,0] (bd Try.f43)) ∧ JS Try.prog 75 (x43a1 (R46_roles_l1 (R := R) k) k) x43s1.ls x43s1.out (.loop (sel [1,1,1,1,0,1,0,0] (bd Try.f43))) ∧ JS Try.prog 75 (x43a3 (R46_roles_p3 (R := R) k) k) x43s3.ls x43s3.out (sel [1,1,1,1,1,1,0] (bd Try.f43)) ∧ JS Try.prog 75 (x43a4 (R46_roles_l4 (R := R) k) k) x43s4.ls x43s4.out (.loop (sel [1,1,1,1,1,1,1,0,1,0,0] (bd Try.f43))) ∧ True) ⟨x43j0 R k,⟨x43j1 R k,⟨x43j3 R k,⟨x43j4 R k,trivial⟩⟩⟩⟩ (by kernel_rfl) (fun _ _ => .trans (x43e _ _ _) (by kernel_rfl))
end
/-! ### R46_depth: function 29 -/
abbrev R46_depth_l0_r (R : Type) : Type := Int → Int → Option R
abbrev R46_depth_l0_q (R T : Type) : Type := (Unit → Option R) → (Int → Option R) → T
abbrev R46_depth_l0_t (R : Type) : Type := R46_depth_l0_q R (Nat → R46_depth_l0_r R)
abbrev R46_depth_u (R : Type) : Type := (Int → Option R) → Option R
abbrev R46_depth_t (R : Type) : Type := Int → R46_depth_u R
section
variable {R : Type} (z0 : R46_depth_l0_t R)
def R46_depth_l0_b (k : Nat) : R46_depth_l0_q R (R46_depth_l0_r R → R46_depth_l0_r R) := fun KE0 KR rec n1 n2 =>
bif decide (n2 ≤ 8) then (hbin .shl .i64 1 n2 fun n3 =>
bif (n1 == n3) then (KR n2)
 else (rec n1 (IntKind.wrap .i64 (n2 + 1))))
 else (KE0 ())
def R46_depth_l0 (k : Nat) : R46_depth_l0_t R
  | KE0,KR,0 => fun _ _ => none
  | KE0,KR,n + 1 => R46_depth_l0_b k KE0 KR (R46_depth_l0 k KE0 KR n)
def R46_depth_b (k : Nat) : R46_depth_t R := fun n1 K =>
z0 (fun (_ : Unit) =>
K 0) (fun n3 =>
K n3) k n1 1
def R46_depth (k : Nat) : R46_depth_t R := R46_depth_b (R46_depth_l0 k) k
def x29C : Tab R := fun _ _ _ _ => none
def x29s0 : PS := ⟨(.seq (.seq (.reg [0,3,5] []) (.cond .leaf .leaf)) (.seq (.node (.seq (.reg [0,3,11] []) (.cond (.seq (.reg [2] []) .leaf) .leaf))) (.reg [0,3] []))),[0,3],[.n,.n],⟨[],[(0,[])],[2]⟩⟩
def x29c0 {T : Type} (g : R46_depth_l0_q R T) (H : Heap) (K : XK R) : T := g (kU (.exit 0) K H) (kN .ret [2] [.n] K H)
def x29a0 (f : R46_depth_l0_t R) : Nat → List Value → Heap → XK R → Option R := jl x29s0 (L := R46_depth_l0_t R) x29c0 pN f
def x29J (k : Nat) : JTab R := tcons 0 (x29a0 z0 k) <| fun _ _ _ _ => none
def x29t : AT := (.seq (.reg [0] []) (.seq (.seq (.reg [0,3] []) (.node (.opq 0 x29s0.ls x29s0.out (.node x29s0.t)))) (.seq (.reg [2] []) .leaf)))
def x29c (g : R46_depth_u R) (H : Heap) (K : Value → Heap → Option R) : Option R := g (rN [.n] K H)
def x29a (f : R46_depth_t R) : List Value → Heap → (Value → Heap → Option R) → Option R := jf 1 [.n] x29c f
variable {z0}
theorem x29e0 (k n : Nat) (H : Heap) (K : XK R) : lE Try.prog An 13 (x29C) (x29J z0 k) x29s0 (sel [1,0,1,0,0] (bd Try.f29)) (x29a0 z0) n H K = mapT (fun g => pN g H) x29s0.ts (x29c0 (R46_depth_l0_b k) H K (x29c0 z0 H K n)) := by kernel_rfl
theorem x29e (k : Nat) (H : Heap) (K : Value → Heap → Option R) : fE Try.prog An (x29C) (x29J z0 k) x29t Try.f29 [.n] H K = mapT (fun g => x29c g H K) [.n] (R46_depth_b z0 k) := by kernel_rfl
theorem x29S (R : Type) (k : Nat) : CSound Try.prog (x29C (R := R)) := csound_nil
theorem x29j0 (R : Type) (k : Nat) : JS Try.prog 13 (x29a0 (R46_depth_l0 (R := R) k) k) x29s0.ls x29s0.out (.loop (sel [1,0,1,0,0] (bd Try.f29))) := lj (x29S R k) (x29J (R46_depth_l0 k) k) (by kernel_rfl) (A := True) trivial (by kernel_rfl) (fun _ _ => by kernel_rfl) (fun _ _ _ => .trans (x29e0 _ _ _ _) (by kernel_rfl)) k
theorem x29cs (R : Type) (k : Nat) : ∀ args H K r,x29a (R46_depth k) args H K = some (r : R) → ∃ v H',Tri Try.prog 29 args H v H' ∧ K v H' = some r := fj (x29S R k) (x29J (R46_depth_l0 k) k) Try.func29 (by kernel_rfl) (A := JS Try.prog 13 (x29a0 (R46_depth_l0 (R := R) k) k) x29s0.ls x29s0.out (.loop (sel [1,0,1,0,0] (bd Try.f29))) ∧ True) ⟨x29j0 R k,trivial⟩ (by kernel_rfl) (fun _ _ => .trans (x29e _ _ _) (by kernel_rfl))
end
/-! ### R46_palette: function 44 -/
abbrev R46_palette_p0_u (R : Type) : Type := Heap → (Oa → Option R) → (Bool → Option R) → Option R
abbrev R46_palette_p0_t (R : Type) : Type := Oa → R46_palette_p0_u R
abbrev R46_palette_p3_u (R : Type) : Type := Heap → (Oa → Int → Int → Option R) → (Bool → Option R) → Option R
abbrev R46_palette_p3_t (R : Type) : Type := Oa → Int → Int → R46_palette_p3_u R
abbrev R46_palette_l2_r (R : Type) : Type := Oa → Int → Int → Heap → Option R
abbrev R46_palette_l2_q (R T : Type) : Type := (Oa → Int → Option R) → (Bool → Option R) → T
abbrev R46_palette_l2_t (R : Type) : Type := R46_palette_l2_q R (Nat → R46_palette_l2_r R)
abbrev R46_palette_l1_r (R : Type) : Type := Oa → Int → Heap → Option R
abbrev R46_palette_l1_q (R T : Type) : Type := (Unit → Option R) → (Bool → Option R) → T
abbrev R46_palette_l1_t (R : Type) : Type := R46_palette_l1_q R (Nat → R46_palette_l1_r R)
abbrev R46_palette_u (R : Type) : Type := Heap → (Bool → Heap → Option R) → Option R
abbrev R46_palette_t (R : Type) : Type := Int → Oa → Nat → Nat → Oa → Nat → Nat → R46_palette_u R
section
variable {R : Type} (f0 : R46_depth_t R) (z0 : R46_palette_p0_t R) (z1 : R46_palette_l1_t R) (z2 : R46_palette_l2_t R) (z3 : R46_palette_p3_t R)
def R46_palette_p0_b (k : Nat) : R46_palette_p0_t R := fun p1 H KN KR =>
hfad 2 p1 fun p2 =>
ldL H p2 fun q3 l4 c5 =>
bif decide (((l4 : Nat) : Int) > 0) then (hfad 2 p1 fun p6 =>
ldL H p6 fun q7 l8 c9 =>
f0 ((l8 : Nat) : Int) fun n10 =>
bif (n10 == 0) then (KR false)
 else (KN p1))
 else (KN p1)
def R46_palette_p0 (k : Nat) : R46_palette_p0_t R := R46_palette_p0_b (R46_depth k) k
def R46_palette_p3_b (k : Nat) : R46_palette_p3_t R := fun p1 n2 n3 H KN KR =>
hfad 2 p1 fun p4 =>
ldL H p4 fun q5 l6 c7 =>
hidx q5 l6 n2 1 fun p8 =>
ldL H p8 fun q9 l10 c11 =>
hidx q9 l10 n3 1 fun p12 =>
ldI .i64 H p12 fun n13 =>
bif decide (n13 < 0) then (KR false)
 else (hfad 2 p1 fun p14 =>
ldL H p14 fun q15 l16 c17 =>
hidx q15 l16 n2 1 fun p18 =>
ldL H p18 fun q19 l20 c21 =>
hidx q19 l20 n3 1 fun p22 =>
ldI .i64 H p22 fun n23 =>
bif decide (n23 > 255) then (KR false)
 else (KN p1 n2 n3))
def R46_palette_p3 (k : Nat) : R46_palette_p3_t R := R46_palette_p3_b k
def R46_palette_l2_b (k : Nat) : R46_palette_l2_q R (R46_palette_l2_r R → R46_palette_l2_r R) := fun KE2 KR rec p1 n2 n3 H =>
hfad 2 p1 fun p4 =>
ldL H p4 fun q5 l6 c7 =>
hidx q5 l6 n2 1 fun p8 =>
ldL H p8 fun q9 l10 c11 =>
bif decide (n3 < ((l10 : Nat) : Int)) then (z3 p1 n2 n3 H (fun p16 n17 n18 =>
rec p16 n17 (IntKind.wrap .i64 (n18 + 1)) H) (fun t19 =>
KR t19))
 else (KE2 p1 n2)
def R46_palette_l2 (k : Nat) : R46_palette_l2_t R
  | KE2,KR,0 => fun _ _ _ _ => none
  | KE2,KR,n + 1 => R46_palette_l2_b (R46_palette_p3 k) k KE2 KR (R46_palette_l2 k KE2 KR n)
def R46_palette_l1_b (k : Nat) : R46_palette_l1_q R (R46_palette_l1_r R → R46_palette_l1_r R) := fun KE0 KR rec p1 n2 H =>
hfad 2 p1 fun p3 =>
ldL H p3 fun q4 l5 c6 =>
bif decide (n2 < ((l5 : Nat) : Int)) then (hfad 2 p1 fun p7 =>
ldL H p7 fun q8 l9 c10 =>
hidx q8 l9 n2 1 fun p11 =>
ldL H p11 fun q12 l13 c14 =>
hfad 1 p1 fun p15 =>
ldL H p15 fun q16 l17 c18 =>
bif (((l13 : Nat) : Int) != ((l17 : Nat) : Int)) then (KR false)
 else (z2 (fun p22 n23 =>
rec p22 (IntKind.wrap .i64 (n23 + 1)) H) (fun t24 =>
KR t24) k p1 n2 0 H))
 else (KE0 ())
def R46_palette_l1 (k : Nat) : R46_palette_l1_t R
  | KE0,KR,0 => fun _ _ _ => none
  | KE0,KR,n + 1 => R46_palette_l1_b (R46_palette_l2 k) k KE0 KR (R46_palette_l1 k KE0 KR n)
def R46_palette_b (k : Nat) : R46_palette_t R := fun n1 q2 l3 c4 q5 l6 c7 H K =>
hal H [.int .i64 n1,.slice q2 l3 c4,.slice q5 l6 c7] fun p8 H9 =>
z0 p8 H9 (fun p12 =>
z1 (fun (_ : Unit) =>
K true H9) (fun t14 =>
K t14 H9) k p12 0 H9) (fun t15 =>
K t15 H9)
def R46_palette (k : Nat) : R46_palette_t R := R46_palette_b (R46_palette_p0 k) (R46_palette_l1 k) k
def x44C : Tab R := tcons 29 (x29a f0) <| fun _ _ _ _ => none
def x44s3 : PS := ⟨(.node (.seq (.reg [1,3,4,62] []) (.cond (.seq (.reg [2] []) .leaf) .leaf))),[1,3,4],[.p,.n,.n],⟨[1,3,4],[],[2]⟩⟩
def x44c3 (g : R46_palette_p3_u R) (H : Heap) (K : XK R) : Option R := g H (kN .normal [1,3,4] [.p,.n,.n] K H) (kN .ret [2] [.b] K H)
def x44a3 (f : R46_palette_p3_t R) : Nat → List Value → Heap → XK R → Option R := jp x44s3 x44c3 f
def x44s2 : PS := ⟨(.seq (.seq (.reg [1,3,4,40] []) (.cond .leaf .leaf)) (.seq (.opq 3 x44s3.ls x44s3.out x44s3.t) (.reg [1,3,4] []))),[1,3,4],[.p,.n,.n],⟨[],[(2,[1,3])],[2]⟩⟩
def x44c2 {T : Type} (g : R46_palette_l2_q R T) (H : Heap) (K : XK R) : T := g (kN (.exit 2) [1,3] [.p,.n] K H) (kN .ret [2] [.b] K H)
def x44a2 (f : R46_palette_l2_t R) : Nat → List Value → Heap → XK R → Option R := jl x44s2 (L := R46_palette_l2_t R) x44c2 pH f
def x44s1 : PS := ⟨(.seq (.seq (.reg [1,3,20] []) (.cond .leaf .leaf)) (.seq (.node (.seq (.seq (.reg [1,3,32] (ms [0,1,0,7,15,31,0,64,192,511])) (.cond (.seq (.reg [2] []) .leaf) .leaf)) (.seq (.reg [1,3,4] []) (.node (.opq 2 x44s2.ls x44s2.out (.node x44s2.t)))))) (.reg [1,3] []))),[1,3],[.p,.n],⟨[],[(0,[])],[2]⟩⟩
def x44c1 {T : Type} (g : R46_palette_l1_q R T) (H : Heap) (K : XK R) : T := g (kU (.exit 0) K H) (kN .ret [2] [.b] K H)
def x44a1 (f : R46_palette_l1_t R) : Nat → List Value → Heap → XK R → Option R := jl x44s1 (L := R46_palette_l1_t R) x44c1 pH f
def x44s0 : PS := ⟨(.seq (.reg [1,15] []) (.cond (.seq (.reg [2] []) .leaf) .leaf)),[1],[.p],⟨[1],[],[2]⟩⟩
def x44c0 (g : R46_palette_p0_u R) (H : Heap) (K : XK R) : Option R := g H (kN .normal [1] [.p] K H) (kN .ret [2] [.b] K H)
def x44a0 (f : R46_palette_p0_t R) : Nat → List Value → Heap → XK R → Option R := jp x44s0 x44c0 f
def x44J (k : Nat) : JTab R := tcons 0 (x44a0 z0 k) <| tcons 1 (x44a1 z1 k) <| tcons 2 (x44a2 z2 k) <| tcons 3 (x44a3 z3 k) <| fun _ _ _ _ => none
def x44t : AT := (.seq (.reg [1] []) (.seq (.opq 0 x44s0.ls x44s0.out x44s0.t) (.seq (.seq (.reg [1,3] []) (.node (.opq 1 x44s1.ls x44s1.out (.node x44s1.t)))) (.seq (.reg [2] []) .leaf))))
def x44c (g : R46_palette_u R) (H : Heap) (K : Value → Heap → Option R) : Option R := g H (rH [.b] K)
def x44a (f : R46_palette_t R) : List Value → Heap → (Value → Heap → Option R) → Option R := jf 1 [(.a 3),.n,.l,.l] x44c f
variable {f0 z0 z1 z2 z3}
theorem x44e3 (k : Nat) (H : Heap) (K : XK R) : jE Try.prog An 63 (x44C f0) (x44J z0 z1 z2 z3 k) x44s3 (sel [1,1,0,1,0,0,1,0,0,1,1,0,0,1,0] (bd Try.f44)) H K = mapT (fun g => x44c3 g H K) x44s3.ts (R46_palette_p3_b k) := by kernel_rfl
theorem x44e2 (k n : Nat) (H : Heap) (K : XK R) : lE Try.prog An 63 (x44C f0) (x44J z0 z1 z2 z3 k) x44s2 (sel [1,1,0,1,0,0,1,0,0,1,1,0,0] (bd Try.f44)) (x44a2 z2) n H K = mapT (fun g => pH g H) x44s2.ts (x44c2 (R46_palette_l2_b z3 k) H K (x44c2 z2 H K n)) := by kernel_rfl
theorem x44e1 (k n : Nat) (H : Heap) (K : XK R) : lE Try.prog An 63 (x44C f0) (x44J z0 z1 z2 z3 k) x44s1 (sel [1,1,0,1,0,0] (bd Try.f44)) (x44a1 z1) n H K = mapT (fun g => pH g H) x44s1.ts (x44c1 (R46_palette_l1_b z2 k) H K (x44c1 z1 H K n)) := by kernel_rfl
theorem x44e0 (k : Nat) (H : Heap) (K : XK R) : jE Try.prog An 63 (x44C f0) (x44J z0 z1 z2 z3 k) x44s0 (sel [1,0] (bd Try.f44)) H K = mapT (fun g => x44c0 g H K) x44s0.ts (R46_palette_p0_b f0 k) := by kernel_rfl
theorem x44e (k : Nat) (H : Heap) (K : Value → Heap → Option R) : fE Try.prog An (x44C f0) (x44J z0 z1 z2 z3 k) x44t Try.f44 [(.a 3),.n,.l,.l] H K = mapT (fun g => x44c g H K) [(.a 3),.n,.l,.l] (R46_palette_b z0 z1 k) := by kernel_rfl
theorem x44S (R : Type) (k : Nat) : CSound Try.prog (x44C (R := R) (R46_depth k)) := csound_cons (x29cs R k) <| csound_nil
theorem x44j3 (R : Type) (k : Nat) : JS Try.prog 63 (x44a3 (R46_palette_p3 (R := R) k) k) x44s3.ls x44s3.out (sel [1,1,0,1,0,0,1,0,0,1,1,0,0,1,0] (bd Try.f44)) := pj (x44S R k) (x44J (R46_palette_p0 k) (R46_palette_l1 k) (R46_palette_l2 k) (R46_palette_p3 k) k) (by kernel_rfl) (A := True) trivial (by kernel_rfl) (fun _ _ => .trans (x44e3 _ _ _) (by kernel_rfl))
theorem x44j2 (R : Type) (k : Nat) : JS Try.prog 63 (x44a2 (R46_palette_l2 (R := R) k) k) x44s2.ls x44s2.out (.loop (sel [1,1,0,1,0,0,1,0,0,1,1,0,0] (bd Try.f44))) := lj (x44S R k) (x44J (R46_palette_p0 k) (R46_palette_l1 k) (R46_palette_l2 k) (R46_palette_p3 k) k) (by kernel_rfl) (A := JS Try.prog 63 (x44a3 (R46_palette_p3 (R := R) k) k) x44s3.ls x44s3.out (sel [1,1,0,1,0,0,1,0,0,1,1,0,0,1,0] (bd Try.f44)) ∧ True) ⟨x44j3 R k,trivial⟩ (by kernel_rfl) (fun _ _ => by kernel_rfl) (fun _ _ _ => .trans (x44e2 _ _ _ _) (by kernel_rfl)) k
theorem x44j1 (R : Type) (k : Nat) : JS Try.prog 63 (x44a1 (R46_palette_l1 (R := R) k) k) x44s1.ls x44s1.out (.loop (sel [1,1,0,1,0,0] (bd Try.f44))) := lj (x44S R k) (x44J (R46_palette_p0 k) (R46_palette_l1 k) (R46_palette_l2 k) (R46_palette_p3 k) k) (by kernel_rfl) (A := JS Try.prog 63 (x44a2 (R46_palette_l2 (R := R) k) k) x44s2.ls x44s2.out (.loop (sel [1,1,0,1,0,0,1,0,0,1,1,0,0] (bd Try.f44))) ∧ True) ⟨x44j2 R k,trivial⟩ (by kernel_rfl) (fun _ _ => by kernel_rfl) (fun _ _ _ => .trans (x44e1 _ _ _ _) (by kernel_rfl)) k
theorem x44j0 (R : Type) (k : Nat) : JS Try.prog 63 (x44a0 (R46_palette_p0 (R := R) k) k) x44s0.ls x44s0.out (sel [1,0] (bd Try.f44)) := pj (x44S R k) (x44J (R46_palette_p0 k) (R46_palette_l1 k) (R46_palette_l2 k) (R46_palette_p3 k) k) (by kernel_rfl) (A := True) trivial (by kernel_rfl) (fun _ _ => .trans (x44e0 _ _ _) (by kernel_rfl))
theorem x44cs (R : Type) (k : Nat) : ∀ args H K r,x44a (R46_palette k) args H K = some (r : R) → ∃ v H',Tri Try.prog 44 args H v H' ∧ K v H' = some r := fj (x44S R k) (x44J (R46_palette_p0 k) (R46_palette_l1 k) (R46_palette_l2 k) (R46_palette_p3 k) k) Try.func44 (by kernel_rfl) (A := JS Try.prog 63 (x44a0 (R46_palette_p0 (R := R) k) k) x44s0.ls x44s0.out (sel [1,0] (bd Try.f44)) ∧ JS Try.prog 63 (x44a1 (R46_palette_l1 (R := R) k) k) x44s1.ls x44s1.out (.loop (sel [1,1,0,1,0,0] (bd Try.f44))) ∧ True) ⟨x44j0 R k,⟨x44j1 R k,trivial⟩⟩ (by kernel_rfl) (fun _ _ => .trans (x44e _ _ _) (by kernel_rfl))
end
/-! ### R46_Valid: function 28 -/
abbrev R46_Valid_p0_u (R : Type) : Type := Heap → (Oa → Option R) → (Int → Option R) → Option R
abbrev R46_Valid_p0_t (R : Type) : Type := Oa → R46_Valid_p0_u R
abbrev R46_Valid_u (R : Type) : Type := Heap → (Int → Heap → Option R) → Option R
abbrev R46_Valid_t (R : Type) : Type := Int → Oa → Nat → Nat → Oa → Nat → Nat → R46_Valid_u R
section
variable {R : Type} (f0 : R46_roles_t R) (f1 : R46_palette_t R) (z0 : R46_Valid_p0_t R)
def R46_Valid_p0_b (k : Nat) : R46_Valid_p0_t R := fun p1 H KN KR =>
hfad 0 p1 fun p2 =>
ldI .i64 H p2 fun n3 =>
bif decide (n3 < 1) then (KR 3)
 else (hfad 0 p1 fun p4 =>
ldI .i64 H p4 fun n5 =>
bif decide (n5 > 4) then (KR 3)
 else (KN p1))
def R46_Valid_p0 (k : Nat) : R46_Valid_p0_t R := R46_Valid_p0_b k
def R46_Valid_b (k : Nat) : R46_Valid_t R := fun n1 q2 l3 c4 q5 l6 c7 H K =>
hal H [.int .i64 n1,.slice q2 l3 c4,.slice q5 l6 c7] fun p8 H9 =>
z0 p8 H9 (fun p12 =>
ldI .i64 H9 (pad p12 0) fun n13 =>
ldL H9 (pad p12 1) fun q14 l15 c16 =>
ldL H9 (pad p12 2) fun q17 l18 c19 =>
f0 n13 q14 l15 c16 q17 l18 c19 H9 fun t20 H21 =>
bif (!t20) then (K 21 H21)
 else (ldI .i64 H21 (pad p12 0) fun n22 =>
ldL H21 (pad p12 1) fun q23 l24 c25 =>
ldL H21 (pad p12 2) fun q26 l27 c28 =>
f1 n22 q23 l24 c25 q26 l27 c28 H21 fun t29 H30 =>
bif (!t29) then (K 21 H30)
 else (K 0 H30))) (fun n31 =>
K n31 H9)
def R46_Valid (k : Nat) : R46_Valid_t R := R46_Valid_b (R46_roles k) (R46_palette k) (R46_Valid_p0 k) k
def x28C : Tab R := tcons 43 (x43a f0) <| tcons 44 (x44a f1) <| fun _ _ _ _ => none
def x28s0 : PS := ⟨(.seq (.reg [1,10] []) (.cond (.seq (.reg [2] []) .leaf) .leaf)),[1],[.p],⟨[1],[],[2]⟩⟩
def x28c0 (g : R46_Valid_p0_u R) (H : Heap) (K : XK R) : Option R := g H (kN .normal [1] [.p] K H) (kN .ret [2] [.n] K H)
def x28a0 (f : R46_Valid_p0_t R) : Nat → List Value → Heap → XK R → Option R := jp x28s0 x28c0 f
def x28J (k : Nat) : JTab R := tcons 0 (x28a0 z0 k) <| fun _ _ _ _ => none
def x28t : AT := (.seq (.reg [1] []) (.seq (.opq 0 x28s0.ls x28s0.out x28s0.t) (.seq (.seq (.reg [18] []) (.cond (.seq (.reg [2] []) .leaf) .leaf)) (.seq (.reg [2] []) .leaf))))
def x28c (g : R46_Valid_u R) (H : Heap) (K : Value → Heap → Option R) : Option R := g H (rH [.n] K)
def x28a (f : R46_Valid_t R) : List Value → Heap → (Value → Heap → Option R) → Option R := jf 1 [(.a 3),.n,.l,.l] x28c f
variable {f0 f1 z0}
theorem x28e0 (k : Nat) (H : Heap) (K : XK R) : jE Try.prog An 19 (x28C f0 f1) (x28J z0 k) x28s0 (sel [1,0] (bd Try.f28)) H K = mapT (fun g => x28c0 g H K) x28s0.ts (R46_Valid_p0_b k) := by kernel_rfl
theorem x28e (k : Nat) (H : Heap) (K : Value → Heap → Option R) : fE Try.prog An (x28C f0 f1) (x28J z0 k) x28t Try.f28 [(.a 3),.n,.l,.l] H K = mapT (fun g => x28c g H K) [(.a 3),.n,.l,.l] (R46_Valid_b f0 f1 z0 k) := by kernel_rfl
theorem x28S (R : Type) (k : Nat) : CSound Try.prog (x28C (R := R) (R46_roles k) (R46_palette k)) := csound_cons (x43cs R k) <| csound_cons (x44cs R k) <| csound_nil
theorem x28j0 (R : Type) (k : Nat) : JS Try.prog 19 (x28a0 (R46_Valid_p0 (R := R) k) k) x28s0.ls x28s0.out (sel [1,0] (bd Try.f28)) := pj (x28S R k) (x28J (R46_Valid_p0 k) k) (by kernel_rfl) (A := True) trivial (by kernel_rfl) (fun _ _ => .trans (x28e0 _ _ _) (by kernel_rfl))
theorem x28cs (R : Type) (k : Nat) : ∀ args H K r,x28a (R46_Valid k) args H K = some (r : R) → ∃ v H',Tri Try.prog 28 args H v H' ∧ K v H' = some r := fj (x28S R k) (x28J (R46_Valid_p0 k) k) Try.func28 (by kernel_rfl) (A := JS Try.prog 19 (x28a0 (R46_Valid_p0 (R := R) k) k) x28s0.ls x28s0.out (sel [1,0] (bd Try.f28)) ∧ True) ⟨x28j0 R k,trivial⟩ (by kernel_rfl) (fun _ _ => .trans (x28e _ _ _) (by kernel_rfl))
end
end Go.Proofs.Ytkjcjlembepdkaa.Sh
