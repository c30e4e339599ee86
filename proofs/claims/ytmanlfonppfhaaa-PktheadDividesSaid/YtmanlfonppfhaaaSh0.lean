/- Lean functions that stand for Go's,over an explicit heap,and the proofs that they do (written by this claim's program sh2.py). -/
import Derived.Test.YtmanlfonppfhaaaShA
set_option maxRecDepth 100000
set_option linter.unusedVariables false
set_option linter.unusedSimpArgs false
namespace Go.Proofs.Ytmanlfonppfhaaa.Sh
open Go.Proofs.Ytmanlfonppfhaaa.FW
/-! ### cblk_Segments: function 35 -/
abbrev cblk_Segments_p0_u (R : Type) : Type := (Int → Oa → Option R) → (Oa → Nat → Nat → Option R) → Option R
abbrev cblk_Segments_p0_t (R : Type) : Type := Int → Oa → cblk_Segments_p0_u R
abbrev cblk_Segments_p1_u (R : Type) : Type := Heap → (Int → Oa → Oa → Nat → Nat → Int → Option R) → Option R
abbrev cblk_Segments_p1_t (R : Type) : Type := Int → Oa → Oa → Nat → Nat → Int → cblk_Segments_p1_u R
abbrev cblk_Segments_p2_u (R : Type) : Type := Heap → (Int → Oa → Oa → Nat → Nat → Int → Option R) → Option R
abbrev cblk_Segments_p2_t (R : Type) : Type := Int → Oa → Oa → Nat → Nat → Int → cblk_Segments_p2_u R
abbrev cblk_Segments_p4_u (R : Type) : Type := Heap → (Oa → Oa → Nat → Nat → Int → Int → Bool → Option R) → Option R
abbrev cblk_Segments_p4_t (R : Type) : Type := Oa → Oa → Nat → Nat → Int → Int → cblk_Segments_p4_u R
abbrev cblk_Segments_l3_r (R : Type) : Type := Oa → Oa → Nat → Nat → Int → Int → Heap → Option R
abbrev cblk_Segments_l3_q (R T : Type) : Type := (Oa → Nat → Nat → Heap → Option R) → T
abbrev cblk_Segments_l3_t (R : Type) : Type := cblk_Segments_l3_q R (Nat → cblk_Segments_l3_r R)
abbrev cblk_Segments_u (R : Type) : Type := Heap → (Oa → Nat → Nat → Heap → Option R) → Option R
abbrev cblk_Segments_t (R : Type) : Type := Int → Bool → Bool → Bool → Bool → Bool → cblk_Segments_u R
section
variable {R : Type} (z0 : cblk_Segments_p0_t R) (z1 : cblk_Segments_p1_t R) (z2 : cblk_Segments_p2_t R) (z3 : cblk_Segments_l3_t R) (z4 : cblk_Segments_p4_t R)
def cblk_Segments_p0_b (k : Nat) : cblk_Segments_p0_t R := fun n1 p2 KN KR =>
bif decide (n1 < 1) then (KR none 0 0)
 else (bif decide (n1 > 178) then (KR none 0 0)
 else (KN n1 p2))
def cblk_Segments_p0 (k : Nat) : cblk_Segments_p0_t R := cblk_Segments_p0_b k
def cblk_Segments_p1_b (k : Nat) : cblk_Segments_p1_t R := fun n1 p2 q3 l4 c5 n6 H KN =>
hfad 0 p2 fun p7 =>
ldB H p7 fun t8 =>
bif t8 then (KN n1 p2 q3 l4 c5 10)
 else (KN n1 p2 q3 l4 c5 n6)
def cblk_Segments_p1 (k : Nat) : cblk_Segments_p1_t R := cblk_Segments_p1_b k
def cblk_Segments_p2_b (k : Nat) : cblk_Segments_p2_t R := fun n1 p2 q3 l4 c5 n6 H KN =>
hfad 1 p2 fun p7 =>
ldB H p7 fun t8 =>
bif t8 then (KN n1 p2 q3 l4 c5 1)
 else (KN n1 p2 q3 l4 c5 n6)
def cblk_Segments_p2 (k : Nat) : cblk_Segments_p2_t R := cblk_Segments_p2_b k
def cblk_Segments_p4_b (k : Nat) : cblk_Segments_p4_t R := fun p1 q2 l3 c4 n5 n6 H KN =>
hfad 0 p1 fun p7 =>
ldB H p7 fun t8 =>
bif t8 then (hfad 1 p1 fun p9 =>
ldB H p9 fun t10 =>
KN p1 q2 l3 c4 n5 n6 (!t10))
 else (KN p1 q2 l3 c4 n5 n6 false)
def cblk_Segments_p4 (k : Nat) : cblk_Segments_p4_t R := cblk_Segments_p4_b k
def cblk_Segments_l3_b (k : Nat) : cblk_Segments_l3_q R (cblk_Segments_l3_r R → cblk_Segments_l3_r R) := fun KE0 rec p1 q2 l3 c4 n5 n6 H =>
bif decide (n6 > 0) then (hal H [.int .i64 (imn n5 n6)] fun p7 H8 =>
happS 1 8 H8 q2 l3 c4 p7 1 fun q9 l10 c11 H12 =>
z4 p1 q9 l10 c11 n5 (IntKind.wrap .i64 (n6 - (imn n5 n6))) H12 (fun p20 q21 l22 c23 n24 n25 t26 =>
bif t26 then (bif (n24 == 2) then (rec p20 q21 l22 c23 1 n25 H12)
 else (rec p20 q21 l22 c23 2 n25 H12))
 else (rec p20 q21 l22 c23 n24 n25 H12)))
 else (KE0 q2 l3 c4 H)
def cblk_Segments_l3 (k : Nat) : cblk_Segments_l3_t R
  | KE0,0 => fun _ _ _ _ _ _ _ => none
  | KE0,n + 1 => cblk_Segments_l3_b (cblk_Segments_p4 k) k KE0 (cblk_Segments_l3 k KE0 n)
def cblk_Segments_b (k : Nat) : cblk_Segments_t R := fun n1 t2 t3 t4 t5 t6 H K =>
hal H [.bool t2,.bool t3,.bool t4,.bool t5,.bool t6] fun p7 H8 =>
z0 n1 p7 (fun n14 p15 =>
z1 n14 p15 none 0 0 n14 H8 (fun n22 p23 q24 l25 c26 n27 =>
z2 n22 p23 q24 l25 c26 n27 H8 (fun n34 p35 q36 l37 c38 n39 =>
z3 (fun q43 l44 c45 H46 =>
K q43 l44 c45 H46) k p35 q36 l37 c38 n39 n34 H8))) (fun q47 l48 c49 =>
K q47 l48 c49 H8)
def cblk_Segments (k : Nat) : cblk_Segments_t R := cblk_Segments_b (cblk_Segments_p0 k) (cblk_Segments_p1 k) (cblk_Segments_p2 k) (cblk_Segments_l3 k) k
def x35C : Tab R := fun _ _ _ _ => none
def x35s4 : PS := ⟨(.reg [3,5,6,7,39] []),[3,5,6,7],[.p,.l,.n,.n],⟨[3,5,6,7,39],[],[]⟩⟩
def x35c4 (g : cblk_Segments_p4_u R) (H : Heap) (K : XK R) : Option R := g H (kN .normal [3,5,6,7,39] [.p,.l,.n,.n,.b] K H)
def x35a4 (f : cblk_Segments_p4_t R) : Nat → List Value → Heap → XK R → Option R := jp x35s4 x35c4 f
def x35s3 : PS := ⟨(.seq (.seq (.reg [3,5,6,7,22] []) (.cond .leaf .leaf)) (.node (.seq (.reg [3,5,6,7,8] []) (.seq (.reg [3,5,6,7,8] []) (.seq (.reg [3,5,6,7] []) (.seq (.opq 4 x35s4.ls x35s4.out x35s4.t) (.cond (.seq (.reg [3,5,7,41] []) (.cond (.reg [3,5,6,7] []) (.reg [3,5,6,7] []))) .leaf))))))),[3,5,6,7],[.p,.l,.n,.n],⟨[],[(0,[5])],[]⟩⟩
def x35c3 {T : Type} (g : cblk_Segments_l3_q R T) (H : Heap) (K : XK R) : T := g (kH (.exit 0) [5] [.l] K)
def x35a3 (f : cblk_Segments_l3_t R) : Nat → List Value → Heap → XK R → Option R := jl x35s3 (L := cblk_Segments_l3_t R) x35c3 pH f
def x35s2 : PS := ⟨(.seq (.reg [0,3,5,6,19] []) (.cond (.reg [0,3,5,6] []) .leaf)),[0,3,5,6],[.n,.p,.l,.n],⟨[0,3,5,6],[],[]⟩⟩
def x35c2 (g : cblk_Segments_p2_u R) (H : Heap) (K : XK R) : Option R := g H (kN .normal [0,3,5,6] [.n,.p,.l,.n] K H)
def x35a2 (f : cblk_Segments_p2_t R) : Nat → List Value → Heap → XK R → Option R := jp x35s2 x35c2 f
def x35s1 : PS := ⟨(.seq (.reg [0,3,5,6,17] []) (.cond (.reg [0,3,5,6] []) .leaf)),[0,3,5,6],[.n,.p,.l,.n],⟨[0,3,5,6],[],[]⟩⟩
def x35c1 (g : cblk_Segments_p1_u R) (H : Heap) (K : XK R) : Option R := g H (kN .normal [0,3,5,6] [.n,.p,.l,.n] K H)
def x35a1 (f : cblk_Segments_p1_t R) : Nat → List Value → Heap → XK R → Option R := jp x35s1 x35c1 f
def x35s0 : PS := ⟨(.seq (.reg [0,3,14] []) (.cond (.seq (.reg [4] []) .leaf) .leaf)),[0,3],[.n,.p],⟨[0,3],[],[4]⟩⟩
def x35c0 (g : cblk_Segments_p0_u R) (H : Heap) (K : XK R) : Option R := g (kN .normal [0,3] [.n,.p] K H) (kN .ret [4] [.l] K H)
def x35a0 (f : cblk_Segments_p0_t R) : Nat → List Value → Heap → XK R → Option R := jp x35s0 x35c0 f
def x35J (k : Nat) : JTab R := tcons 0 (x35a0 z0 k) <| tcons 1 (x35a1 z1 k) <| tcons 2 (x35a2 z2 k) <| tcons 3 (x35a3 z3 k) <| tcons 4 (x35a4 z4 k) <| fun _ _ _ _ => none
def x35t : AT := (.seq (.reg [0,3] []) (.seq (.opq 0 x35s0.ls x35s0.out x35s0.t) (.seq (.reg [0,3,5] []) (.seq (.reg [0,3,5,6] []) (.seq (.opq 1 x35s1.ls x35s1.out x35s1.t) (.seq (.opq 2 x35s2.ls x35s2.out x35s2.t) (.seq (.seq (.reg [3,5,6,7] []) (.node (.opq 3 x35s3.ls x35s3.out (.node x35s3.t)))) (.seq (.reg [4] []) .leaf))))))))
def x35c (g : cblk_Segments_u R) (H : Heap) (K : Value → Heap → Option R) : Option R := g H (rH [.l] K)
def x35a (f : cblk_Segments_t R) : List Value → Heap → (Value → Heap → Option R) → Option R := jf 2 [.n,(.a 5),.b,.b,.b,.b,.b] x35c f
variable {z0 z1 z2 z3 z4}
theorem x35e4 (k : Nat) (H : Heap) (K : XK R) : jE Try.prog An 43 (x35C) (x35J z0 z1 z2 z3 z4 k) x35s4 (sel [1,1,1,1,1,1,0,1,0,0,1,0,1,1,1,0] (bd Try.f35)) H K = mapT (fun g => x35c4 g H K) x35s4.ts (cblk_Segments_p4_b k) := by kernel_rfl
theorem x35e3 (k n : Nat) (H : Heap) (K : XK R) : lE Try.prog An 43 (x35C) (x35J z0 z1 z2 z3 z4 k) x35s3 (sel [1,1,1,1,1,1,0,1,0,0] (bd Try.f35)) (x35a3 z3) n H K = mapT (fun g => pH g H) x35s3.ts (x35c3 (cblk_Segments_l3_b z4 k) H K (x35c3 z3 H K n)) := by kernel_rfl
theorem x35e2 (k : Nat) (H : Heap) (K : XK R) : jE Try.prog An 43 (x35C) (x35J z0 z1 z2 z3 z4 k) x35s2 (sel [1,1,1,1,1,0] (bd Try.f35)) H K = mapT (fun g => x35c2 g H K) x35s2.ts (cblk_Segments_p2_b k) := by kernel_rfl
theorem x35e1 (k : Nat) (H : Heap) (K : XK R) : jE Try.prog An 43 (x35C) (x35J z0 z1 z2 z3 z4 k) x35s1 (sel [1,1,1,1,0] (bd Try.f35)) H K = mapT (fun g => x35c1 g H K) x35s1.ts (cblk_Segments_p1_b k) := by kernel_rfl
theorem x35e0 (k : Nat) (H : Heap) (K : XK R) : jE Try.prog An 43 (x35C) (x35J z0 z1 z2 z3 z4 k) x35s0 (sel [1,0] (bd Try.f35)) H K = mapT (fun g => x35c0 g H K) x35s0.ts (cblk_Segments_p0_b k) := by kernel_rfl
theorem x35e (k : Nat) (H : Heap) (K : Value → Heap → Option R) : fE Try.prog An (x35C) (x35J z0 z1 z2 z3 z4 k) x35t Try.f35 [.n,(.a 5),.b,.b,.b,.b,.b] H K = mapT (fun g => x35c g H K) [.n,(.a 5),.b,.b,.b,.b,.b] (cblk_Segments_b z0 z1 z2 z3 k) := by kernel_rfl
theorem x35S (R : Type) (k : Nat) : CSound Try.prog (x35C (R := R)) := csound_nil
theorem x35j4 (R : Type) (k : Nat) : JS Try.prog 43 (x35a4 (cblk_Segments_p4 (R := R) k) k) x35s4.ls x35s4.out (sel [1,1,1,1,1,1,0,1,0,0,1,0,1,1,1,0] (bd Try.f35)) := pj (x35S R k) (x35J (cblk_Segments_p0 k) (cblk_Segments_p1 k) (cblk_Segments_p2 k) (cblk_Segments_l3 k) (cblk_Segments_p4 k) k) (by kernel_rfl) (A := True) trivial (by kernel_rfl) (fun _ _ => .trans (x35e4 _ _ _) (by kernel_rfl))
theorem x35j3 (R : Type) (k : Nat) : JS Try.prog 43 (x35a3 (cblk_Segments_l3 (R := R) k) k) x35s3.ls x35s3.out (.loop (sel [1,1,1,1,1,1,0,1,0,0] (bd Try.f35))) := lj (x35S R k) (x35J (cblk_Segments_p0 k) (cblk_Segments_p1 k) (cblk_Segments_p2 k) (cblk_Segments_l3 k) (cblk_Segments_p4 k) k) (by kernel_rfl) (A := JS Try.prog 43 (x35a4 (cblk_Segments_p4 (R := R) k) k) x35s4.ls x35s4.out (sel [1,1,1,1,1,1,0,1,0,0,1,0,1,1,1,0] (bd Try.f35)) ∧ True) ⟨x35j4 R k,trivial⟩ (by kernel_rfl) (fun _ _ => by kernel_rfl) (fun _ _ _ => .trans (x35e3 _ _ _ _) (by kernel_rfl)) k
theorem x35j2 (R : Type) (k : Nat) : JS Try.prog 43 (x35a2 (cblk_Segments_p2 (R := R) k) k) x35s2.ls x35s2.out (sel [1,1,1,1,1,0] (bd Try.f35)) := pj (x35S R k) (x35J (cblk_Segments_p0 k) (cblk_Segments_p1 k) (cblk_Segments_p2 k) (cblk_Segments_l3 k) (cblk_Segments_p4 k) k) (by kernel_rfl) (A := True) trivial (by kernel_rfl) (fun _ _ => .trans (x35e2 _ _ _) (by kernel_rfl))
theorem x35j1 (R : Type) (k : Nat) : JS Try.prog 43 (x35a1 (cblk_Segments_p1 (R := R) k) k) x35s1.ls x35s1.out (sel [1,1,1,1,0] (bd Try.f35)) := pj (x35S R k) (x35J (cblk_Segments_p0 k) (cblk_Segments_p1 k) (cblk_Segments_p2 k) (cblk_Segments_l3 k) (cblk_Segments_p4 k) k) (by kernel_rfl) (A := True) trivial (by kernel_rfl) (fun _ _ => .trans (x35e1 _ _ _) (by kernel_rfl))
theorem x35j0 (R : Type) (k : Nat) : JS Try.prog 43 (x35a0 (cblk_Segments_p0 (R := R) k) k) x35s0.ls x35s0.out (sel [1,0] (bd Try.f35)) := pj (x35S R k) (x35J (cblk_Segments_p0 k) (cblk_Segments_p1 k) (cblk_Segments_p2 k) (cblk_Segments_l3 k) (cblk_Segments_p4 k) k) (by kernel_rfl) (A := True) trivial (by kernel_rfl) (fun _ _ => .trans (x35e0 _ _ _) (by kernel_rfl))
theorem x35cs (R : Type) (k : Nat) : ∀ args H K r,x35a (cblk_Segments k) args H K = some (r : R) → ∃ v H',Tri Try.prog 35 args H v H' ∧ K v H' = some r := fj (x35S R k) (x35J (cblk_Segments_p0 k) (cblk_Segments_p1 k) (cblk_Segments_p2 k) (cblk_Segments_l3 k) (cblk_Segments_p4 k) k) Try.func35 (by kernel_rfl) (A := JS Try.prog 43 (x35a0 (cblk_Segments_p0 (R := R) k) k) x35s0.ls x35s0.out (sel [1,0] (bd Try.f35)) ∧ JS Try.prog 43 (x35a1 (cblk_Segments_p1 (R := R) k) k) x35s1.ls x35s1.out (sel [1,1,1,1,0] (bd Try.f35)) ∧ JS Try.prog 43 (x35a2 (cblk_Segments_p2 (R := R) k) k) x35s2.ls x35s2.out (sel [1,1,1,1,1,0] (bd Try.f35)) ∧ JS Try.prog 43 (x35a3 (cblk_Segments_l3 (R := R) k) k) x35s3.ls x35s3.out (.loop (sel [1,1,1,1,1,1,0,1,0,0] (bd Try.f35))) ∧ True) ⟨x35j0 R k,⟨x35j1 R k,⟨x35j2 R k,⟨x35j3 R k,trivial⟩⟩⟩⟩ (by kernel_rfl) (fun _ _ => .trans (x35e _ _ _) (by kernel_rfl))
end
/-! ### pkthead_Parts: function 20 -/
abbrev pkthead_Parts_p0_u (R : Type) : Type := (Int → Int → Oa → Option R) → (Oa → Nat → Nat → Option R) → Option R
abbrev pkthead_Parts_p0_t (R : Type) : Type := Int → Int → Oa → pkthead_Parts_p0_u R
abbrev pkthead_Parts_p2_u (R : Type) : Type := Heap → (Int → Int → Oa → Nat → Nat → Int → Int → Oa → Nat → Nat → Int → Int → Heap → Option R) → Option R
abbrev pkthead_Parts_p2_t (R : Type) : Type := Int → Int → Oa → Nat → Nat → Int → Int → Int → Int → Oa → Nat → Nat → Int → Int → pkthead_Parts_p2_u R
abbrev pkthead_Parts_l1_r (R : Type) : Type := Int → Int → Oa → Nat → Nat → Int → Oa → Nat → Nat → Int → Int → Heap → Option R
abbrev pkthead_Parts_l1_q (R T : Type) : Type := (Oa → Nat → Nat → Heap → Option R) → T
abbrev pkthead_Parts_l1_t (R : Type) : Type := pkthead_Parts_l1_q R (Nat → pkthead_Parts_l1_r R)
abbrev pkthead_Parts_u (R : Type) : Type := Heap → (Oa → Nat → Nat → Heap → Option R) → Option R
abbrev pkthead_Parts_t (R : Type) : Type := Int → Int → Bool → Bool → Bool → Bool → Bool → pkthead_Parts_u R
section
variable {R : Type} (f0 : cblk_Segments_t R) (z0 : pkthead_Parts_p0_t R) (z1 : pkthead_Parts_l1_t R) (z2 : pkthead_Parts_p2_t R)
def pkthead_Parts_p0_b (k : Nat) : pkthead_Parts_p0_t R := fun n1 n2 p3 KN KR =>
bif decide (n1 < 0) then (KR none 0 0)
 else (bif decide (n2 < 1) then (KR none 0 0)
 else (bif decide (n2 > 178) then (KR none 0 0)
 else (bif decide (n1 > (IntKind.wrap .i64 (178 - n2))) then (KR none 0 0)
 else (KN n1 n2 p3))))
def pkthead_Parts_p0 (k : Nat) : pkthead_Parts_p0_t R := pkthead_Parts_p0_b k
def pkthead_Parts_p2_b (k : Nat) : pkthead_Parts_p2_t R := fun n1 n2 q3 l4 c5 n6 n7 n8 n9 q10 l11 c12 n13 n14 H KN =>
bif decide (n8 < n9) then (hal H [.int .i64 (IntKind.wrap .i64 (n9 - n8))] fun p15 H16 =>
happS 1 8 H16 q3 l4 c5 p15 1 fun q17 l18 c19 H20 =>
KN n1 n2 q17 l18 c19 n6 n7 q10 l11 c12 n13 n14 H20)
 else (KN n1 n2 q3 l4 c5 n6 n7 q10 l11 c12 n13 n14 H)
def pkthead_Parts_p2 (k : Nat) : pkthead_Parts_p2_t R := pkthead_Parts_p2_b k
def pkthead_Parts_l1_b (k : Nat) : pkthead_Parts_l1_q R (pkthead_Parts_l1_r R → pkthead_Parts_l1_r R) := fun KE0 rec n1 n2 q3 l4 c5 n6 q7 l8 c9 n10 n11 H =>
bif decide (n11 < n10) then (hidx q7 l8 n11 1 fun p12 =>
ldI .i64 H p12 fun n13 =>
z2 n1 n2 q3 l4 c5 n6 n13 (imx n6 n1) (imn (IntKind.wrap .i64 (n6 + n13)) (IntKind.wrap .i64 (n1 + n2))) q7 l8 c9 n10 n11 H (fun n26 n27 q28 l29 c30 n31 n32 q33 l34 c35 n36 n37 H38 =>
rec n26 n27 q28 l29 c30 (IntKind.wrap .i64 (n31 + n32)) q33 l34 c35 n36 (IntKind.wrap .i64 (n37 + 1)) H38))
 else (KE0 q3 l4 c5 H)
def pkthead_Parts_l1 (k : Nat) : pkthead_Parts_l1_t R
  | KE0,0 => fun _ _ _ _ _ _ _ _ _ _ _ _ => none
  | KE0,n + 1 => pkthead_Parts_l1_b (pkthead_Parts_p2 k) k KE0 (pkthead_Parts_l1 k KE0 n)
def pkthead_Parts_b (k : Nat) : pkthead_Parts_t R := fun n1 n2 t3 t4 t5 t6 t7 H K =>
hal H [.bool t3,.bool t4,.bool t5,.bool t6,.bool t7] fun p8 H9 =>
z0 n1 n2 p8 (fun n16 n17 p18 =>
ldB H9 (pad p18 0) fun t19 =>
ldB H9 (pad p18 1) fun t20 =>
ldB H9 (pad p18 2) fun t21 =>
ldB H9 (pad p18 3) fun t22 =>
ldB H9 (pad p18 4) fun t23 =>
f0 178 t19 t20 t21 t22 t23 H9 fun q24 l25 c26 H27 =>
z1 (fun q31 l32 c33 H34 =>
K q31 l32 c33 H34) k n16 n17 none 0 0 0 q24 l25 c26 ((l25 : Nat) : Int) 0 H27) (fun q35 l36 c37 =>
K q35 l36 c37 H9)
def pkthead_Parts (k : Nat) : pkthead_Parts_t R := pkthead_Parts_b (cblk_Segments k) (pkthead_Parts_p0 k) (pkthead_Parts_l1 k) k
def x20C : Tab R := tcons 35 (x35a f0) <| fun _ _ _ _ => none
def x20s2 : PS := ⟨(.seq (.reg [0,1,7,8,10,11,12,30,31,32,48] []) (.cond (.reg [0,1,7,8,10,30,31,32] []) .leaf)),[0,1,7,8,10,11,12,30,31,32],[.n,.n,.l,.n,.n,.n,.n,.l,.n,.n],⟨[0,1,7,8,10,30,31,32],[],[]⟩⟩
def x20c2 (g : pkthead_Parts_p2_u R) (H : Heap) (K : XK R) : Option R := g H (kH .normal [0,1,7,8,10,30,31,32] [.n,.n,.l,.n,.n,.l,.n,.n] K)
def x20a2 (f : pkthead_Parts_p2_t R) : Nat → List Value → Heap → XK R → Option R := jp x20s2 x20c2 f
def x20s1 : PS := ⟨(.seq (.reg [0,1,7,8,30,31,32,33] []) (.seq (.cond .leaf .leaf) (.seq (.node (.seq (.reg [0,1,7,8,10,30,31,32] []) (.seq (.reg [0,1,7,8,10,11,12,30,31,32] []) (.seq (.opq 2 x20s2.ls x20s2.out x20s2.t) (.reg [0,1,7,8,30,31,32] []))))) (.reg [0,1,7,8,30,31,32] [])))),[0,1,7,8,30,31,32],[.n,.n,.l,.n,.l,.n,.n],⟨[],[(0,[7])],[]⟩⟩
def x20c1 {T : Type} (g : pkthead_Parts_l1_q R T) (H : Heap) (K : XK R) : T := g (kH (.exit 0) [7] [.l] K)
def x20a1 (f : pkthead_Parts_l1_t R) : Nat → List Value → Heap → XK R → Option R := jl x20s1 (L := pkthead_Parts_l1_t R) x20c1 pH f
def x20s0 : PS := ⟨(.seq (.reg [0,1,5,28] []) (.cond (.seq (.reg [6] []) .leaf) .leaf)),[0,1,5],[.n,.n,.p],⟨[0,1,5],[],[6]⟩⟩
def x20c0 (g : pkthead_Parts_p0_u R) (H : Heap) (K : XK R) : Option R := g (kN .normal [0,1,5] [.n,.n,.p] K H) (kN .ret [6] [.l] K H)
def x20a0 (f : pkthead_Parts_p0_t R) : Nat → List Value → Heap → XK R → Option R := jp x20s0 x20c0 f
def x20J (k : Nat) : JTab R := tcons 0 (x20a0 z0 k) <| tcons 1 (x20a1 z1 k) <| tcons 2 (x20a2 z2 k) <| fun _ _ _ _ => none
def x20t : AT := (.seq (.reg [0,1,5] []) (.seq (.opq 0 x20s0.ls x20s0.out x20s0.t) (.seq (.reg [0,1,5,7] []) (.seq (.reg [0,1,5,7,8] []) (.seq (.seq (.reg [0,1,7,8,30,31,32] []) (.node (.opq 1 x20s1.ls x20s1.out (.node x20s1.t)))) (.seq (.reg [6] []) .leaf))))))
def x20c (g : pkthead_Parts_u R) (H : Heap) (K : Value → Heap → Option R) : Option R := g H (rH [.l] K)
def x20a (f : pkthead_Parts_t R) : List Value → Heap → (Value → Heap → Option R) → Option R := jf 3 [.n,.n,(.a 5),.b,.b,.b,.b,.b] x20c f
variable {f0 z0 z1 z2}
theorem x20e2 (k : Nat) (H : Heap) (K : XK R) : jE Try.prog An 60 (x20C f0) (x20J z0 z1 z2 k) x20s2 (sel [1,1,1,1,0,1,0,0,1,1,0,0,1,1,0] (bd Try.f20)) H K = mapT (fun g => x20c2 g H K) x20s2.ts (pkthead_Parts_p2_b k) := by kernel_rfl
theorem x20e1 (k n : Nat) (H : Heap) (K : XK R) : lE Try.prog An 60 (x20C f0) (x20J z0 z1 z2 k) x20s1 (sel [1,1,1,1,0,1,0,0] (bd Try.f20)) (x20a1 z1) n H K = mapT (fun g => pH g H) x20s1.ts (x20c1 (pkthead_Parts_l1_b z2 k) H K (x20c1 z1 H K n)) := by kernel_rfl
theorem x20e0 (k : Nat) (H : Heap) (K : XK R) : jE Try.prog An 60 (x20C f0) (x20J z0 z1 z2 k) x20s0 (sel [1,0] (bd Try.f20)) H K = mapT (fun g => x20c0 g H K) x20s0.ts (pkthead_Parts_p0_b k) := by kernel_rfl
theorem x20e (k : Nat) (H : Heap) (K : Value → Heap → Option R) : fE Try.prog An (x20C f0) (x20J z0 z1 z2 k) x20t Try.f20 [.n,.n,(.a 5),.b,.b,.b,.b,.b] H K = mapT (fun g => x20c g H K) [.n,.n,(.a 5),.b,.b,.b,.b,.b] (pkthead_Parts_b f0 z0 z1 k) := by kernel_rfl
theorem x20S (R : Type) (k : Nat) : CSound Try.prog (x20C (R := R) (cblk_Segments k)) := csound_cons (x35cs R k) <| csound_nil
theorem x20j2 (R : Type) (k : Nat) : JS Try.prog 60 (x20a2 (pkthead_Parts_p2 (R := R) k) k) x20s2.ls x20s2.out (sel [1,1,1,1,0,1,0,0,1,1,0,0,1,1,0] (bd Try.f20)) := pj (x20S R k) (x20J (pkthead_Parts_p0 k) (pkthead_Parts_l1 k) (pkthead_Parts_p2 k) k) (by kernel_rfl) (A := True) trivial (by kernel_rfl) (fun _ _ => .trans (x20e2 _ _ _) (by kernel_rfl))
theorem x20j1 (R : Type) (k : Nat) : JS Try.prog 60 (x20a1 (pkthead_Parts_l1 (R := R) k) k) x20s1.ls x20s1.out (.loop (sel [1,1,1,1,0,1,0,0] (bd Try.f20))) := lj (x20S R k) (x20J (pkthead_Parts_p0 k) (pkthead_Parts_l1 k) (pkthead_Parts_p2 k) k) (by kernel_rfl) (A := JS Try.prog 60 (x20a2 (pkthead_Parts_p2 (R := R) k) k) x20s2.ls x20s2.out (sel [1,1,1,1,0,1,0,0,1,1,0,0,1,1,0] (bd Try.f20)) ∧ True) ⟨x20j2 R k,trivial⟩ (by kernel_rfl) (fun _ _ => by kernel_rfl) (fun _ _ _ => .trans (x20e1 _ _ _ _) (by kernel_rfl)) k
theorem x20j0 (R : Type) (k : Nat) : JS Try.prog 60 (x20a0 (pkthead_Parts_p0 (R := R) k) k) x20s0.ls x20s0.out (sel [1,0] (bd Try.f20)) := pj (x20S R k) (x20J (pkthead_Parts_p0 k) (pkthead_Parts_l1 k) (pkthead_Parts_p2 k) k) (by kernel_rfl) (A := True) trivial (by kernel_rfl) (fun _ _ => .trans (x20e0 _ _ _) (by kernel_rfl))
theorem x20cs (R : Type) (k : Nat) : ∀ args H K r,x20a (pkthead_Parts k) args H K = some (r : R) → ∃ v H',Tri Try.prog 20 args H v H' ∧ K v H' = some r := fj (x20S R k) (x20J (pkthead_Parts_p0 k) (pkthead_Parts_l1 k) (pkthead_Parts_p2 k) k) Try.func20 (by kernel_rfl) (A := JS Try.prog 60 (x20a0 (pkthead_Parts_p0 (R := R) k) k) x20s0.ls x20s0.out (sel [1,0] (bd Try.f20)) ∧ JS Try.prog 60 (x20a1 (pkthead_Parts_l1 (R := R) k) k) x20s1.ls x20s1.out (.loop (sel [1,1,1,1,0,1,0,0] (bd Try.f20))) ∧ True) ⟨x20j0 R k,⟨x20j1 R k,trivial⟩⟩ (by kernel_rfl) (fun _ _ => .trans (x20e _ _ _) (by kernel_rfl))
end
end Go.Proofs.Ytmanlfonppfhaaa.Sh
