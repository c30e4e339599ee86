/- Lean functions that stand for Go's,over an explicit heap,and the proofs that they do (written by this claim's program sh2.py). -/
import Derived.Test.YtkjcjlembepdkaaShA
import Derived.Test.YtkjcjlembepdkaaSh7
set_option maxRecDepth 100000
set_option linter.unusedVariables false
set_option linter.unusedSimpArgs false
namespace Go.Proofs.Ytkjcjlembepdkaa.Sh
open Go.Proofs.Ytkjcjlembepdkaa.FW
/-! ### L_sameImage: function 18 -/
abbrev L_sameImage_p0_u (R : Type) : Type := Heap → (Oa → Oa → Heap → Option R) → (Bool → Heap → Option R) → Option R
abbrev L_sameImage_p0_t (R : Type) : Type := Oa → Oa → L_sameImage_p0_u R
abbrev L_sameImage_p2_u (R : Type) : Type := Heap → (Oa → Oa → Int → Int → Option R) → (Bool → Option R) → Option R
abbrev L_sameImage_p2_t (R : Type) : Type := Oa → Oa → Int → Int → L_sameImage_p2_u R
abbrev L_sameImage_l1_r (R : Type) : Type := Oa → Oa → Int → Int → Heap → Option R
abbrev L_sameImage_l1_q (R T : Type) : Type := (Unit → Option R) → (Bool → Option R) → T
abbrev L_sameImage_l1_t (R : Type) : Type := L_sameImage_l1_q R (Nat → L_sameImage_l1_r R)
abbrev L_sameImage_u (R : Type) : Type := Heap → (Bool → Heap → Option R) → Option R
abbrev L_sameImage_t (R : Type) : Type := Int → Int → Int → Int → Int → Int → Oa → Nat → Nat → Oa → Nat → Nat → Int → Int → Int → Int → Int → Int → Oa → Nat → Nat → Oa → Nat → Nat → L_sameImage_u R
section
variable {R : Type} (f0 : R23_SameHeader_t R) (f1 : L_same_t R) (z0 : L_sameImage_p0_t R) (z1 : L_sameImage_l1_t R) (z2 : L_sameImage_p2_t R)
def L_sameImage_p0_b (k : Nat) : L_sameImage_p0_t R := fun p1 p2 H KN KR =>
hfad 0 p1 fun p3 =>
ldI .i64 H (pad p3 0) fun n4 =>
ldI .i64 H (pad p3 1) fun n5 =>
ldI .i64 H (pad p3 2) fun n6 =>
ldI .i64 H (pad p3 3) fun n7 =>
ldI .i64 H (pad p3 4) fun n8 =>
ldI .i64 H (pad p3 5) fun n9 =>
ldL H (pad p3 6) fun q10 l11 c12 =>
hfad 0 p2 fun p13 =>
ldI .i64 H (pad p13 0) fun n14 =>
ldI .i64 H (pad p13 1) fun n15 =>
ldI .i64 H (pad p13 2) fun n16 =>
ldI .i64 H (pad p13 3) fun n17 =>
ldI .i64 H (pad p13 4) fun n18 =>
ldI .i64 H (pad p13 5) fun n19 =>
ldL H (pad p13 6) fun q20 l21 c22 =>
f0 n4 n5 n6 n7 n8 n9 q10 l11 c12 n14 n15 n16 n17 n18 n19 q20 l21 c22 H fun t23 H24 =>
bif (!t23) then (KR false H24)
 else (hfad 7 p1 fun p25 =>
ldL H24 p25 fun q26 l27 c28 =>
hfad 7 p2 fun p29 =>
ldL H24 p29 fun q30 l31 c32 =>
bif (((l27 : Nat) : Int) != ((l31 : Nat) : Int)) then (KR false H24)
 else (KN p1 p2 H24))
def L_sameImage_p0 (k : Nat) : L_sameImage_p0_t R := L_sameImage_p0_b (R23_SameHeader k) k
def L_sameImage_p2_b (k : Nat) : L_sameImage_p2_t R := fun p1 p2 n3 n4 H KN KR =>
hfad 7 p1 fun p5 =>
ldL H p5 fun q6 l7 c8 =>
hidx q6 l7 n4 5 fun p9 =>
hfad 0 p9 fun p10 =>
ldI .i64 H (pad p10 0) fun n11 =>
ldI .i64 H (pad p10 1) fun n12 =>
ldI .i64 H (pad p10 2) fun n13 =>
ldI .i64 H (pad p10 3) fun n14 =>
hfad 7 p2 fun p15 =>
ldL H p15 fun q16 l17 c18 =>
hidx q16 l17 n4 5 fun p19 =>
hfad 0 p19 fun p20 =>
ldI .i64 H (pad p20 0) fun n21 =>
ldI .i64 H (pad p20 1) fun n22 =>
ldI .i64 H (pad p20 2) fun n23 =>
ldI .i64 H (pad p20 3) fun n24 =>
bif (!((((true && (n11 == n21)) && (n12 == n22)) && (n13 == n23)) && (n14 == n24))) then (KR false)
 else (hfad 7 p1 fun p25 =>
ldL H p25 fun q26 l27 c28 =>
hidx q26 l27 n4 5 fun p29 =>
hfad 4 p29 fun p30 =>
ldL H p30 fun q31 l32 c33 =>
hfad 7 p2 fun p34 =>
ldL H p34 fun q35 l36 c37 =>
hidx q35 l36 n4 5 fun p38 =>
hfad 4 p38 fun p39 =>
ldL H p39 fun q40 l41 c42 =>
f1 q31 l32 c33 q40 l41 c42 H fun t43 =>
bif (!t43) then (KR false)
 else (KN p1 p2 n3 n4))
def L_sameImage_p2 (k : Nat) : L_sameImage_p2_t R := L_sameImage_p2_b (L_same k) k
def L_sameImage_l1_b (k : Nat) : L_sameImage_l1_q R (L_sameImage_l1_r R → L_sameImage_l1_r R) := fun KE0 KR rec p1 p2 n3 n4 H =>
bif decide (n4 < n3) then (z2 p1 p2 n3 n4 H (fun p10 p11 n12 n13 =>
rec p10 p11 n12 (IntKind.wrap .i64 (n13 + 1)) H) (fun t14 =>
KR t14))
 else (KE0 ())
def L_sameImage_l1 (k : Nat) : L_sameImage_l1_t R
  | KE0,KR,0 => fun _ _ _ _ _ => none
  | KE0,KR,n + 1 => L_sameImage_l1_b (L_sameImage_p2 k) k KE0 KR (L_sameImage_l1 k KE0 KR n)
def L_sameImage_b (k : Nat) : L_sameImage_t R := fun n1 n2 n3 n4 n5 n6 q7 l8 c9 q10 l11 c12 n13 n14 n15 n16 n17 n18 q19 l20 c21 q22 l23 c24 H K =>
hal H [.int .i64 n1,.int .i64 n2,.int .i64 n3,.int .i64 n4,.int .i64 n5,.int .i64 n6,.slice q7 l8 c9,.slice q10 l11 c12] fun p25 H26 =>
hal H26 [.int .i64 n13,.int .i64 n14,.int .i64 n15,.int .i64 n16,.int .i64 n17,.int .i64 n18,.slice q19 l20 c21,.slice q22 l23 c24] fun p27 H28 =>
z0 p25 p27 H28 (fun p32 p33 H34 =>
hfad 7 p32 fun p35 =>
ldL H34 p35 fun q36 l37 c38 =>
z1 (fun (_ : Unit) =>
K true H34) (fun t40 =>
K t40 H34) k p32 p33 ((l37 : Nat) : Int) 0 H34) (fun t41 H42 =>
K t41 H42)
def L_sameImage (k : Nat) : L_sameImage_t R := L_sameImage_b (L_sameImage_p0 k) (L_sameImage_l1 k) k
def x18C : Tab R := tcons 35 (x35a f0) <| tcons 25 (x25a f1) <| fun _ _ _ _ => none
def x18s2 : PS := ⟨(.node (.seq (.reg [2,3,5,23,24] []) (.seq (.reg [2,3,23,24,55] (ms [0,1,0,7,15,31,0,64,0,448,960,1984,4095,8191,16383,32767,16383,131071,262143,524287,16383,1064959,16383,7356415,15745023,32522239,67108863,134217727,268435455])) (.cond (.seq (.reg [4] []) .leaf) .leaf)))),[2,3,23,24],[.p,.p,.n,.n],⟨[2,3,23,24],[],[4]⟩⟩
def x18c2 (g : L_sameImage_p2_u R) (H : Heap) (K : XK R) : Option R := g H (kN .normal [2,3,23,24] [.p,.p,.n,.n] K H) (kN .ret [4] [.b] K H)
def x18a2 (f : L_sameImage_p2_t R) : Nat → List Value → Heap → XK R → Option R := jp x18s2 x18c2 f
def x18s1 : PS := ⟨(.seq (.reg [2,3,23,24,25] []) (.seq (.cond .leaf .leaf) (.seq (.opq 2 x18s2.ls x18s2.out x18s2.t) (.reg [2,3,23,24] [])))),[2,3,23,24],[.p,.p,.n,.n],⟨[],[(0,[])],[4]⟩⟩
def x18c1 {T : Type} (g : L_sameImage_l1_q R T) (H : Heap) (K : XK R) : T := g (kU (.exit 0) K H) (kN .ret [4] [.b] K H)
def x18a1 (f : L_sameImage_l1_t R) : Nat → List Value → Heap → XK R → Option R := jl x18s1 (L := L_sameImage_l1_t R) x18c1 pH f
def x18s0 : PS := ⟨(.seq (.reg [2,3,20] []) (.cond (.seq (.reg [4] []) .leaf) .leaf)),[2,3],[.p,.p],⟨[2,3],[],[4]⟩⟩
def x18c0 (g : L_sameImage_p0_u R) (H : Heap) (K : XK R) : Option R := g H (kH .normal [2,3] [.p,.p] K) (kH .ret [4] [.b] K)
def x18a0 (f : L_sameImage_p0_t R) : Nat → List Value → Heap → XK R → Option R := jp x18s0 x18c0 f
def x18J (k : Nat) : JTab R := tcons 0 (x18a0 z0 k) <| tcons 1 (x18a1 z1 k) <| tcons 2 (x18a2 z2 k) <| fun _ _ _ _ => none
def x18t : AT := (.seq (.reg [2,3] []) (.seq (.opq 0 x18s0.ls x18s0.out x18s0.t) (.seq (.seq (.reg [2,3,23,24] []) (.node (.opq 1 x18s1.ls x18s1.out (.node x18s1.t)))) (.seq (.reg [4] []) .leaf))))
def x18c (g : L_sameImage_u R) (H : Heap) (K : Value → Heap → Option R) : Option R := g H (rH [.b] K)
def x18a (f : L_sameImage_t R) : List Value → Heap → (Value → Heap → Option R) → Option R := jf 2 [(.a 8),.n,.n,.n,.n,.n,.n,.l,.l,(.a 8),.n,.n,.n,.n,.n,.n,.l,.l] x18c f
variable {f0 f1 z0 z1 z2}
theorem x18e2 (k : Nat) (H : Heap) (K : XK R) : jE Try.prog An 57 (x18C f0 f1) (x18J z0 z1 z2 k) x18s2 (sel [1,1,0,1,0,0,1,1,0] (bd Try.f18)) H K = mapT (fun g => x18c2 g H K) x18s2.ts (L_sameImage_p2_b f1 k) := by kernel_rfl
theorem x18e1 (k n : Nat) (H : Heap) (K : XK R) : lE Try.prog An 57 (x18C f0 f1) (x18J z0 z1 z2 k) x18s1 (sel [1,1,0,1,0,0] (bd Try.f18)) (x18a1 z1) n H K = mapT (fun g => pH g H) x18s1.ts (x18c1 (L_sameImage_l1_b z2 k) H K (x18c1 z1 H K n)) := by kernel_rfl
theorem x18e0 (k : Nat) (H : Heap) (K : XK R) : jE Try.prog An 57 (x18C f0 f1) (x18J z0 z1 z2 k) x18s0 (sel [1,0] (bd Try.f18)) H K = mapT (fun g => x18c0 g H K) x18s0.ts (L_sameImage_p0_b f0 k) := by kernel_rfl
theorem x18e (k : Nat) (H : Heap) (K : Value → Heap → Option R) : fE Try.prog An (x18C f0 f1) (x18J z0 z1 z2 k) x18t Try.f18 [(.a 8),.n,.n,.n,.n,.n,.n,.l,.l,(.a 8),.n,.n,.n,.n,.n,.n,.l,.l] H K = mapT (fun g => x18c g H K) [(.a 8),.n,.n,.n,.n,.n,.n,.l,.l,(.a 8),.n,.n,.n,.n,.n,.n,.l,.l] (L_sameImage_b z0 z1 k) := by kernel_rfl
theorem x18S (R : Type) (k : Nat) : CSound Try.prog (x18C (R := R) (R23_SameHeader k) (L_same k)) := csound_cons (x35cs R k) <| csound_cons (x25cs R k) <| csound_nil
theorem x18j2 (R : Type) (k : Nat) : JS Try.prog 57 (x18a2 (L_sameImage_p2 (R := R) k) k) x18s2.ls x18s2.out (sel [1,1,0,1,0,0,1,1,0] (bd Try.f18)) := pj (x18S R k) (x18J (L_sameImage_p0 k) (L_sameImage_l1 k) (L_sameImage_p2 k) k) (by kernel_rfl) (A := True) trivial (by kernel_rfl) (fun _ _ => .trans (x18e2 _ _ _) (by kernel_rfl))
theorem x18j1 (R : Type) (k : Nat) : JS Try.prog 57 (x18a1 (L_sameImage_l1 (R := R) k) k) x18s1.ls x18s1.out (.loop (sel [1,1,0,1,0,0] (bd Try.f18))) := lj (x18S R k) (x18J (L_sameImage_p0 k) (L_sameImage_l1 k) (L_sameImage_p2 k) k) (by kernel_rfl) (A := JS Try.prog 57 (x18a2 (L_sameImage_p2 (R := R) k) k) x18s2.ls x18s2.out (sel [1,1,0,1,0,0,1,1,0] (bd Try.f18)) ∧ True) ⟨x18j2 R k,trivial⟩ (by kernel_rfl) (fun _ _ => by kernel_rfl) (fun _ _ _ => .trans (x18e1 _ _ _ _) (by kernel_rfl)) k
theorem x18j0 (R : Type) (k : Nat) : JS Try.prog 57 (x18a0 (L_sameImage_p0 (R := R) k) k) x18s0.ls x18s0.out (sel [1,0] (bd Try.f18)) := pj (x18S R k) (x18J (L_sameImage_p0 k) (L_sameImage_l1 k) (L_sameImage_p2 k) k) (by kernel_rfl) (A := True) trivial (by kernel_rfl) (fun _ _ => .trans (x18e0 _ _ _) (by kernel_rfl))
theorem x18cs (R : Type) (k : Nat) : ∀ args H K r,x18a (L_sameImage k) args H K = some (r : R) → ∃ v H',Tri Try.prog 18 args H v H' ∧ K v H' = some r := fj (x18S R k) (x18J (L_sameImage_p0 k) (L_sameImage_l1 k) (L_sameImage_p2 k) k) Try.func18 (by kernel_rfl) (A := JS Try.prog 57 (x18a0 (L_sameImage_p0 (R := R) k) k) x18s0.ls x18s0.out (sel [1,0] (bd Try.f18)) ∧ JS Try.prog 57 (x18a1 (L_sameImage_l1 (R := R) k) k) x18s1.ls x18s1.out (.loop (sel [1,1,0,1,0,0] (bd Try.f18))) ∧ True) ⟨x18j0 R k,⟨x18j1 R k,trivial⟩⟩ (by kernel_rfl) (fun _ _ => .trans (x18e _ _ _) (by kernel_rfl))
end
end Go.Proofs.Ytkjcjlembepdkaa.Sh
