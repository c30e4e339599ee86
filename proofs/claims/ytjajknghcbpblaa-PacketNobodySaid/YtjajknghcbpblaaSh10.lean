/- Lean functions that stand for Go's,over an explicit heap,and the proofs that they do (written by this claim's program sh2.py). -/
import Derived.Test.YtjajknghcbpblaaShA
import Derived.Test.YtjajknghcbpblaaSh7
import Derived.Test.YtjajknghcbpblaaSh9
set_option maxRecDepth 100000
set_option linter.unusedVariables false
set_option linter.unusedSimpArgs false
namespace Go.Proofs.Ytjajknghcbpblaa.Sh
open Go.Proofs.Ytjajknghcbpblaa.FW
/-! ### bitio_Reader_whole_v108: function 104 -/
abbrev bitio_Reader_whole_v108_u (R : Type) : Type := Heap → (Int → Int → Heap → Option R) → Option R
abbrev bitio_Reader_whole_v108_t (R : Type) : Type := Oa → Oa → Oa → bitio_Reader_whole_v108_u R
section
variable {R : Type} (f0 : bitio_Reader_Unary_1_t R)
def bitio_Reader_whole_v108_b (k : Nat) : bitio_Reader_whole_v108_t R := fun p1 p2 p3 H K =>
hnil p1 fun p4 =>
hfad 2 p4 fun p5 =>
ldI .i64 H p5 fun n6 =>
hnil p1 fun p7 =>
hfad 3 p7 fun p8 =>
ldI .i64 H p8 fun n9 =>
f0 p2 p3 H fun n10 n11 H12 =>
bif (n11 != 0) then (hnil p1 fun p13 =>
hfad 2 p13 fun p14 =>
hst1 H12 p14 (.int .i64 n6) fun H15 =>
hnil p1 fun p16 =>
hfad 3 p16 fun p17 =>
hst1 H15 p17 (.int .i64 n9) fun H18 =>
K 0 n11 H18)
 else (K n10 0 H12)
def bitio_Reader_whole_v108 (k : Nat) : bitio_Reader_whole_v108_t R := bitio_Reader_whole_v108_b (bitio_Reader_Unary_1 k) k
def x104v108C : Tab R := tcons 108 (x108a f0) <| fun _ _ _ _ => none
def x104v108J (k : Nat) : JTab R := fun _ _ _ _ => none
def x104v108t : AT := (.seq (.reg [0,1] []) (.seq (.reg [0,1,6,7] (ms [0,1,3,7,0,16,48,112,15,511])) (.seq (.reg [0,6,7,8,9] []) (.seq (.seq (.reg [0,6,7,8,9,24] []) (.cond (.seq (.reg [9] []) (.seq (.reg [4,5] []) .leaf)) .leaf)) (.seq (.reg [4,5] []) .leaf)))))
def x104v108c (g : bitio_Reader_whole_v108_u R) (H : Heap) (K : Value → Heap → Option R) : Option R := g H (rH [.n,.n] K)
def x104v108a (f : bitio_Reader_whole_v108_t R) : List Value → Heap → (Value → Heap → Option R) → Option R := jf 2 [.p,(.f 108 2),.p,.p] x104v108c f
variable {f0}
theorem x104v108e (k : Nat) (H : Heap) (K : Value → Heap → Option R) : fE Try.prog An (x104v108C f0) (x104v108J k) x104v108t Try.f104 [.p,(.f 108 2),.p,.p] H K = mapT (fun g => x104v108c g H K) [.p,(.f 108 2),.p,.p] (bitio_Reader_whole_v108_b f0 k) := by kernel_rfl
theorem x104v108S (R : Type) (k : Nat) : CSound Try.prog (x104v108C (R := R) (bitio_Reader_Unary_1 k)) := csound_cons (x108cs R k) <| csound_nil
theorem x104v108cs (R : Type) (k : Nat) : ∀ args H K r,x104v108a (bitio_Reader_whole_v108 k) args H K = some (r : R) → ∃ v H',Tri Try.prog 104 args H v H' ∧ K v H' = some r := fj (x104v108S R k) (x104v108J k) Try.func104 (by kernel_rfl) (A := True) trivial (by kernel_rfl) (fun _ _ => .trans (x104v108e _ _ _) (by kernel_rfl))
end
/-! ### bitio_Reader_Unary: function 90 -/
abbrev bitio_Reader_Unary_p0_u (R : Type) : Type := Heap → (Oa → Oa → Option R) → (Int → Int → Option R) → Option R
abbrev bitio_Reader_Unary_p0_t (R : Type) : Type := Oa → Oa → bitio_Reader_Unary_p0_u R
abbrev bitio_Reader_Unary_u (R : Type) : Type := Heap → (Int → Int → Heap → Option R) → Option R
abbrev bitio_Reader_Unary_t (R : Type) : Type := Oa → Int → bitio_Reader_Unary_u R
section
variable {R : Type} (f0 : bitio_Reader_ok_t R) (f1 : bitio_Reader_whole_v108_t R) (z0 : bitio_Reader_Unary_p0_t R)
def bitio_Reader_Unary_p0_b (k : Nat) : bitio_Reader_Unary_p0_t R := fun p1 p2 H KN KR =>
ldI .i64 H p2 fun n3 =>
bif decide (n3 < 0) then (KR 0 1)
 else (ldI .i64 H p2 fun n4 =>
bif decide (n4 > 65535) then (KR 0 1)
 else (KN p1 p2))
def bitio_Reader_Unary_p0 (k : Nat) : bitio_Reader_Unary_p0_t R := bitio_Reader_Unary_p0_b k
def bitio_Reader_Unary_b (k : Nat) : bitio_Reader_Unary_t R := fun p1 n2 H K =>
hal H [.pointer p1] fun p3 H4 =>
hal H4 [.int .i64 n2] fun p5 H6 =>
ldP H6 p3 fun p7 =>
f0 p7 H6 fun t8 =>
bif (!t8) then (K 0 6 H6)
 else (z0 p3 p5 H6 (fun p13 p14 =>
ldP H6 p13 fun p15 =>
f1 p15 p13 p14 H6 fun n16 n17 H18 =>
K n16 n17 H18) (fun n19 n20 =>
K n19 n20 H6))
def bitio_Reader_Unary (k : Nat) : bitio_Reader_Unary_t R := bitio_Reader_Unary_b bitio_Reader_ok (bitio_Reader_whole_v108 k) (bitio_Reader_Unary_p0 k) k
def x90C : Tab R := tcons 85 (x85a f0) <| tcons 104 (x104v108a f1) <| fun _ _ _ _ => none
def x90s0 : PS := ⟨(.seq (.reg [2,3,14] []) (.cond (.seq (.reg [4,5] []) .leaf) .leaf)),[2,3],[.p,.p],⟨[2,3],[],[4,5]⟩⟩
def x90c0 (g : bitio_Reader_Unary_p0_u R) (H : Heap) (K : XK R) : Option R := g H (kN .normal [2,3] [.p,.p] K H) (kN .ret [4,5] [.n,.n] K H)
def x90a0 (f : bitio_Reader_Unary_p0_t R) : Nat → List Value → Heap → XK R → Option R := jp x90s0 x90c0 f
def x90J (k : Nat) : JTab R := tcons 0 (x90a0 z0 k) <| fun _ _ _ _ => none
def x90t : AT := (.seq (.reg [2,3] []) (.seq (.seq (.reg [2,3,8] []) (.cond (.seq (.reg [4,5] []) .leaf) .leaf)) (.seq (.opq 0 x90s0.ls x90s0.out x90s0.t) (.seq (.reg [4,5] []) .leaf))))
def x90c (g : bitio_Reader_Unary_u R) (H : Heap) (K : Value → Heap → Option R) : Option R := g H (rH [.n,.n] K)
def x90a (f : bitio_Reader_Unary_t R) : List Value → Heap → (Value → Heap → Option R) → Option R := jf 2 [.p,.n] x90c f
variable {f0 f1 z0}
theorem x90e0 (k : Nat) (H : Heap) (K : XK R) : jE Try.prog An 20 (x90C f0 f1) (x90J z0 k) x90s0 (sel [1,1,0] (bd Try.f90)) H K = mapT (fun g => x90c0 g H K) x90s0.ts (bitio_Reader_Unary_p0_b k) := by kernel_rfl
theorem x90e (k : Nat) (H : Heap) (K : Value → Heap → Option R) : fE Try.prog An (x90C f0 f1) (x90J z0 k) x90t Try.f90 [.p,.n] H K = mapT (fun g => x90c g H K) [.p,.n] (bitio_Reader_Unary_b f0 f1 z0 k) := by kernel_rfl
theorem x90S (R : Type) (k : Nat) : CSound Try.prog (x90C (R := R) bitio_Reader_ok (bitio_Reader_whole_v108 k)) := csound_cons (x85cs R k) <| csound_cons (x104v108cs R k) <| csound_nil
theorem x90j0 (R : Type) (k : Nat) : JS Try.prog 20 (x90a0 (bitio_Reader_Unary_p0 (R := R) k) k) x90s0.ls x90s0.out (sel [1,1,0] (bd Try.f90)) := pj (x90S R k) (x90J (bitio_Reader_Unary_p0 k) k) (by kernel_rfl) (A := True) trivial (by kernel_rfl) (fun _ _ => .trans (x90e0 _ _ _) (by kernel_rfl))
theorem x90cs (R : Type) (k : Nat) : ∀ args H K r,x90a (bitio_Reader_Unary k) args H K = some (r : R) → ∃ v H',Tri Try.prog 90 args H v H' ∧ K v H' = some r := fj (x90S R k) (x90J (bitio_Reader_Unary_p0 k) k) Try.func90 (by kernel_rfl) (A := JS Try.prog 20 (x90a0 (bitio_Reader_Unary_p0 (R := R) k) k) x90s0.ls x90s0.out (sel [1,1,0] (bd Try.f90)) ∧ True) ⟨x90j0 R k,trivial⟩ (by kernel_rfl) (fun _ _ => .trans (x90e _ _ _) (by kernel_rfl))
end
/-! ### cblk_Segments: function 80 -/
abbrev cblk_Segments_p0_u (R : Type) : Type := (Int → Oa → Option R) → (Oa → Nat → Nat → Option R) → Option R
abbrev cblk_Segments_p0_t (R : Type) : Type := Int → Oa → cblk_Segments_p0_u R
abbrev cblk_Segments_p1_u (R : Type) : Type := Heap → (Int → Oa → Oa → Nat → Nat → Int → Option R) → Option R
abbrev cblk_Segments_p1_t (R : Type) : Type := Int → Oa → Oa → Nat → Nat → Int → cblk_Segments_p1_u R
abbrev cblk_Segments_p2_u (R : Type) : Type := Heap → (Int → Oa → Oa → Nat → Nat → Int → Option R) → Option R
abbrev cblk_Segments_p2_t (R : Type) : Type := Int → Oa → Oa → Nat → Nat → Int → cblk_Segments_p2_u R
abbrev cblk_Segments_p4_u (R : Type) : Type := Heap → (Oa → Oa → Nat → Nat → Int → Int → Bool → Option R) → Option R
abbrev cblk_Segments_p4_t (R : Type) : Type := Oa → Oa → Nat → Nat → Int → Int → cblk_Segments_p4_u R
abbrev cblk_Segments_l3_r (R : Type) : Type := Oa → Oa → Nat → Nat → Int → Int → Heap → Option R
abbrev cblk_Segments_l3_q (R T : Type) : Type := (Oa → Nat → Nat → Heap → Option R) → T
abbrev cblk_Segments_l3_t (R : Type) : Type := cblk_Segments_l3_q R (Nat → cblk_Segments_l3_r R)
abbrev cblk_Segments_u (R : Type) : Type := Heap → (Oa → Nat → Nat → Heap → Option R) → Option R
abbrev cblk_Segments_t (R : Type) : Type := Int → Bool → Bool → Bool → Bool → Bool → cblk_Segments_u R
section
variable {R : Type} (z0 : cblk_Segments_p0_t R) (z1 : cblk_Segments_p1_t R) (z2 : cblk_Segments_p2_t R) (z3 : cblk_Segments_l3_t R) (z4 : cblk_Segments_p4_t R)
def cblk_Segments_p0_b (k : Nat) : cblk_Segments_p0_t R := fun n1 p2 KN KR =>
bif decide (n1 < 1) then (KR none 0 0)
 else (bif decide (n1 > 178) then (KR none 0 0)
 else (KN n1 p2))
def cblk_Segments_p0 (k : Nat) : cblk_Segments_p0_t R := cblk_Segments_p0_b k
def cblk_Segments_p1_b (k : Nat) : cblk_Segments_p1_t R := fun n1 p2 q3 l4 c5 n6 H KN =>
hfad 0 p2 fun p7 =>
ldB H p7 fun t8 =>
bif t8 then (KN n1 p2 q3 l4 c5 10)
 else (KN n1 p2 q3 l4 c5 n6)
def cblk_Segments_p1 (k : Nat) : cblk_Segments_p1_t R := cblk_Segments_p1_b k
def cblk_Segments_p2_b (k : Nat) : cblk_Segments_p2_t R := fun n1 p2 q3 l4 c5 n6 H KN =>
hfad 1 p2 fun p7 =>
ldB H p7 fun t8 =>
bif t8 then (KN n1 p2 q3 l4 c5 1)
 else (KN n1 p2 q3 l4 c5 n6)
def cblk_Segments_p2 (k : Nat) : cblk_Segments_p2_t R := cblk_Segments_p2_b k
def cblk_Segments_p4_b (k : Nat) : cblk_Segments_p4_t R := fun p1 q2 l3 c4 n5 n6 H KN =>
hfad 0 p1 fun p7 =>
ldB H p7 fun t8 =>
bif t8 then (hfad 1 p1 fun p9 =>
ldB H p9 fun t10 =>
KN p1 q2 l3 c4 n5 n6 (!t10))
 else (KN p1 q2 l3 c4 n5 n6 false)
def cblk_Segments_p4 (k : Nat) : cblk_Segments_p4_t R := cblk_Segments_p4_b k
def cblk_Segments_l3_b (k : Nat) : cblk_Segments_l3_q R (cblk_Segments_l3_r R → cblk_Segments_l3_r R) := fun KE0 rec p1 q2 l3 c4 n5 n6 H =>
bif decide (n6 > 0) then (hal H [.int .i64 (imn n5 n6)] fun p7 H8 =>
happS 1 8 H8 q2 l3 c4 p7 1 fun q9 l10 c11 H12 =>
z4 p1 q9 l10 c11 n5 (IntKind.wrap .i64 (n6 - (imn n5 n6))) H12 (fun p20 q21 l22 c23 n24 n25 t26 =>
bif t26 then (bif (n24 == 2) then (rec p20 q21 l22 c23 1 n25 H12)
 else (rec p20 q21 l22 c23 2 n25 H12))
 else (rec p20 q21 l22 c23 n24 n25 H12)))
 else (KE0 q2 l3 c4 H)
def cblk_Segments_l3 (k : Nat) : cblk_Segments_l3_t R
  | KE0,0 => fun _ _ _ _ _ _ _ => none
  | KE0,n + 1 => cblk_Segments_l3_b (cblk_Segments_p4 k) k KE0 (cblk_Segments_l3 k KE0 n)
def cblk_Segments_b (k : Nat) : cblk_Segments_t R := fun n1 t2 t3 t4 t5 t6 H K =>
hal H [.bool t2,.bool t3,.bool t4,.bool t5,.bool t6] fun p7 H8 =>
z0 n1 p7 (fun n14 p15 =>
z1 n14 p15 none 0 0 n14 H8 (fun n22 p23 q24 l25 c26 n27 =>
z2 n22 p23 q24 l25 c26 n27 H8 (fun n34 p35 q36 l37 c38 n39 =>
z3 (fun q43 l44 c45 H46 =>
K q43 l44 c45 H46) k p35 q36 l37 c38 n39 n34 H8))) (fun q47 l48 c49 =>
K q47 l48 c49 H8)
def cblk_Segments (k : Nat) : cblk_Segments_t R := cblk_Segments_b (cblk_Segments_p0 k) (cblk_Segments_p1 k) (cblk_Segments_p2 k) (cblk_Segments_l3 k) k
def x80C : Tab R := fun _ _ _ _ => none
def x80s4 : PS := ⟨(.reg [3,5,6,7,39] []),[3,5,6,7],[.p,.l,.n,.n],⟨[3,5,6,7,39],[],[]⟩⟩
def x80c4 (g : cblk_Segments_p4_u R) (H : Heap) (K : XK R) : Option R := g H (kN .normal [3,5,6,7,39] [.p,.l,.n,.n,.b] K H)
def x80a4 (f : cblk_Segments_p4_t R) : Nat → List Value → Heap → XK R → Option R := jp x80s4 x80c4 f
def x80s3 : PS := ⟨(.seq (.seq (.reg [3,5,6,7,22] []) (.cond .leaf .leaf)) (.node (.seq (.reg [3,5,6,7,8] []) (.seq (.reg [3,5,6,7,8] []) (.seq (.reg [3,5,6,7] []) (.seq (.opq 4 x80s4.ls x80s4.out x80s4.t) (.cond (.seq (.reg [3,5,7,41] []) (.cond (.reg [3,5,6,7] []) (.reg [3,5,6,7] []))) .leaf))))))),[3,5,6,7],[.p,.l,.n,.n],⟨[],[(0,[5])],[]⟩⟩
def x80c3 {T : Type} (g : cblk_Segments_l3_q R T) (H : Heap) (K : XK R) : T := g (kH (.exit 0) [5] [.l] K)
def x80a3 (f : cblk_Segments_l3_t R) : Nat → List Value → Heap → XK R → Option R := jl x80s3 (L := cblk_Segments_l3_t R) x80c3 pH f
def x80s2 : PS := ⟨(.seq (.reg [0,3,5,6,19] []) (.cond (.reg [0,3,5,6] []) .leaf)),[0,3,5,6],[.n,.p,.l,.n],⟨[0,3,5,6],[],[]⟩⟩
def x80c2 (g : cblk_Segments_p2_u R) (H : Heap) (K : XK R) : Option R := g H (kN .normal [0,3,5,6] [.n,.p,.l,.n] K H)
def x80a2 (f : cblk_Segments_p2_t R) : Nat → List Value → Heap → XK R → Option R := jp x80s2 x80c2 f
def x80s1 : PS := ⟨(.seq (.reg [0,3,5,6,17] []) (.cond (.reg [0,3,5,6] []) .leaf)),[0,3,5,6],[.n,.p,.l,.n],⟨[0,3,5,6],[],[]⟩⟩
def x80c1 (g : cblk_Segments_p1_u R) (H : Heap) (K : XK R) : Option R := g H (kN .normal [0,3,5,6] [.n,.p,.l,.n] K H)
def x80a1 (f : cblk_Segments_p1_t R) : Nat → List Value → Heap → XK R → Option R := jp x80s1 x80c1 f
def x80s0 : PS := ⟨(.seq (.reg [0,3,14] []) (.cond (.seq (.reg [4] []) .leaf) .leaf)),[0,3],[.n,.p],⟨[0,3],[],[4]⟩⟩
def x80c0 (g : cblk_Segments_p0_u R) (H : Heap) (K : XK R) : Option R := g (kN .normal [0,3] [.n,.p] K H) (kN .ret [4] [.l] K H)
def x80a0 (f : cblk_Segments_p0_t R) : Nat → List Value → Heap → XK R → Option R := jp x80s0 x80c0 f
def x80J (k : Nat) : JTab R := tcons 0 (x80a0 z0 k) <| tcons 1 (x80a1 z1 k) <| tcons 2 (x80a2 z2 k) <| tcons 3 (x80a3 z3 k) <| tcons 4 (x80a4 z4 k) <| fun _ _ _ _ => none
def x80t : AT := (.seq (.reg [0,3] []) (.seq (.opq 0 x80s0.ls x80s0.out x80s0.t) (.seq (.reg [0,3,5] []) (.seq (.reg [0,3,5,6] []) (.seq (.opq 1 x80s1.ls x80s1.out x80s1.t) (.seq (.opq 2 x80s2.ls x80s2.out x80s2.t) (.seq (.seq (.reg [3,5,6,7] []) (.node (.opq 3 x80s3.ls x80s3.out (.node x80s3.t)))) (.seq (.reg [4] []) .leaf))))))))
def x80c (g : cblk_Segments_u R) (H : Heap) (K : Value → Heap → Option R) : Option R := g H (rH [.l] K)
def x80a (f : cblk_Segments_t R) : List Value → Heap → (Value → Heap → Option R) → Option R := jf 2 [.n,(.a 5),.b,.b,.b,.b,.b] x80c f
variable {z0 z1 z2 z3 z4}
theorem x80e4 (k : Nat) (H : Heap) (K : XK R) : jE Try.prog An 43 (x80C) (x80J z0 z1 z2 z3 z4 k) x80s4 (sel [1,1,1,1,1,1,0,1,0,0,1,0,1,1,1,0] (bd Try.f80)) H K = mapT (fun g => x80c4 g H K) x80s4.ts (cblk_Segments_p4_b k) := by kernel_rfl
theorem x80e3 (k n : Nat) (H : Heap) (K : XK R) : lE Try.prog An 43 (x80C) (x80J z0 z1 z2 z3 z4 k) x80s3 (sel [1,1,1,1,1,1,0,1,0,0] (bd Try.f80)) (x80a3 z3) n H K = mapT (fun g => pH g H) x80s3.ts (x80c3 (cblk_Segments_l3_b z4 k) H K (x80c3 z3 H K n)) := by kernel_rfl
theorem x80e2 (k : Nat) (H : Heap) (K : XK R) : jE Try.prog An 43 (x80C) (x80J z0 z1 z2 z3 z4 k) x80s2 (sel [1,1,1,1,1,0] (bd Try.f80)) H K = mapT (fun g => x80c2 g H K) x80s2.ts (cblk_Segments_p2_b k) := by kernel_rfl
theorem x80e1 (k : Nat) (H : Heap) (K : XK R) : jE Try.prog An 43 (x80C) (x80J z0 z1 z2 z3 z4 k) x80s1 (sel [1,1,1,1,0] (bd Try.f80)) H K = mapT (fun g => x80c1 g H K) x80s1.ts (cblk_Segments_p1_b k) := by kernel_rfl
theorem x80e0 (k : Nat) (H : Heap) (K : XK R) : jE Try.prog An 43 (x80C) (x80J z0 z1 z2 z3 z4 k) x80s0 (sel [1,0] (bd Try.f80)) H K = mapT (fun g => x80c0 g H K) x80s0.ts (cblk_Segments_p0_b k) := by kernel_rfl
theorem x80e (k : Nat) (H : Heap) (K : Value → Heap → Option R) : fE Try.prog An (x80C) (x80J z0 z1 z2 z3 z4 k) x80t Try.f80 [.n,(.a 5),.b,.b,.b,.b,.b] H K = mapT (fun g => x80c g H K) [.n,(.a 5),.b,.b,.b,.b,.b] (cblk_Segments_b z0 z1 z2 z3 k) := by kernel_rfl
theorem x80S (R : Type) (k : Nat) : CSound Try.prog (x80C (R := R)) := csound_nil
theorem x80j4 (R : Type) (k : Nat) : JS Try.prog 43 (x80a4 (cblk_Segments_p4 (R := R) k) k) x80s4.ls x80s4.out (sel [1,1,1,1,1,1,0,1,0,0,1,0,1,1,1,0] (bd Try.f80)) := pj (x80S R k) (x80J (cblk_Segments_p0 k) (cblk_Segments_p1 k) (cblk_Segments_p2 k) (cblk_Segments_l3 k) (cblk_Segments_p4 k) k) (by kernel_rfl) (A := True) trivial (by kernel_rfl) (fun _ _ => .trans (x80e4 _ _ _) (by kernel_rfl))
theorem x80j3 (R : Type) (k : Nat) : JS Try.prog 43 (x80a3 (cblk_Segments_l3 (R := R) k) k) x80s3.ls x80s3.out (.loop (sel [1,1,1,1,1,1,0,1,0,0] (bd Try.f80))) := lj (x80S R k) (x80J (cblk_Segments_p0 k) (cblk_Segments_p1 k) (cblk_Segments_p2 k) (cblk_Segments_l3 k) (cblk_Segments_p4 k) k) (by kernel_rfl) (A := JS Try.prog 43 (x80a4 (cblk_Segments_p4 (R := R) k) k) x80s4.ls x80s4.out (sel [1,1,1,1,1,1,0,1,0,0,1,0,1,1,1,0] (bd Try.f80)) ∧ True) ⟨x80j4 R k,trivial⟩ (by kernel_rfl) (fun _ _ => by kernel_rfl) (fun _ _ _ => .trans (x80e3 _ _ _ _) (by kernel_rfl)) k
theorem x80j2 (R : Type) (k : Nat) : JS Try.prog 43 (x80a2 (cblk_Segments_p2 (R := R) k) k) x80s2.ls x80s2.out (sel [1,1,1,1,1,0] (bd Try.f80)) := pj (x80S R k) (x80J (cblk_Segments_p0 k) (cblk_Segments_p1 k) (cblk_Segments_p2 k) (cblk_Segments_l3 k) (cblk_Segments_p4 k) k) (by kernel_rfl) (A := True) trivial (by kernel_rfl) (fun _ _ => .trans (x80e2 _ _ _) (by kernel_rfl))
theorem x80j1 (R : Type) (k : Nat) : JS Try.prog 43 (x80a1 (cblk_Segments_p1 (R := R) k) k) x80s1.ls x80s1.out (sel [1,1,1,1,0] (bd Try.f80)) := pj (x80S R k) (x80J (cblk_Segments_p0 k) (cblk_Segments_p1 k) (cblk_Segments_p2 k) (cblk_Segments_l3 k) (cblk_Segments_p4 k) k) (by kernel_rfl) (A := True) trivial (by kernel_rfl) (fun _ _ => .trans (x80e1 _ _ _) (by kernel_rfl))
theorem x80j0 (R : Type) (k : Nat) : JS Try.prog 43 (x80a0 (cblk_Segments_p0 (R := R) k) k) x80s0.ls x80s0.out (sel [1,0] (bd Try.f80)) := pj (x80S R k) (x80J (cblk_Segments_p0 k) (cblk_Segments_p1 k) (cblk_Segments_p2 k) (cblk_Segments_l3 k) (cblk_Segments_p4 k) k) (by kernel_rfl) (A := True) trivial (by kernel_rfl) (fun _ _ => .trans (x80e0 _ _ _) (by kernel_rfl))
theorem x80cs (R : Type) (k : Nat) : ∀ args H K r,x80a (cblk_Segments k) args H K = some (r : R) → ∃ v H',Tri Try.prog 80 args H v H' ∧ K v H' = some r := fj (x80S R k) (x80J (cblk_Segments_p0 k) (cblk_Segments_p1 k) (cblk_Segments_p2 k) (cblk_Segments_l3 k) (cblk_Segments_p4 k) k) Try.func80 (by kernel_rfl) (A := JS Try.prog 43 (x80a0 (cblk_Segments_p0 (R := R) k) k) x80s0.ls x80s0.out (sel [1,0] (bd Try.f80)) ∧ JS Try.prog 43 (x80a1 (cblk_Segments_p1 (R := R) k) k) x80s1.ls x80s1.out (sel [1,1,1,1,0] (bd Try.f80)) ∧ JS Try.prog 43 (x80a2 (cblk_Segments_p2 (R := R) k) k) x80s2.ls x80s2.out (sel [1,1,1,1,1,0] (bd Try.f80)) ∧ JS Try.prog 43 (x80a3 (cblk_Segments_l3 (R := R) k) k) x80s3.ls x80s3.out (.loop (sel [1,1,1,1,1,1,0,1,0,0] (bd Try.f80))) ∧ True) ⟨x80j0 R k,⟨x80j1 R k,⟨x80j2 R k,⟨x80j3 R k,trivial⟩⟩⟩⟩ (by kernel_rfl) (fun _ _ => .trans (x80e _ _ _) (by kernel_rfl))
end
/-! ### pkthead_Parts: function 63 -/
abbrev pkthead_Parts_p0_u (R : Type) : Type := (Int → Int → Oa → Option R) → (Oa → Nat → Nat → Option R) → Option R
abbrev pkthead_Parts_p0_t (R : Type) : Type := Int → Int → Oa → pkthead_Parts_p0_u R
abbrev pkthead_Parts_p2_u (R : Type) : Type := Heap → (Int → Int → Oa → Nat → Nat → Int → Int → Oa → Nat → Nat → Int → Int → Heap → Option R) → Option R
abbrev pkthead_Parts_p2_t (R : Type) : Type := Int → Int → Oa → Nat → Nat → Int → Int → Int → Int → Oa → Nat → Nat → Int → Int → pkthead_Parts_p2_u R
abbrev pkthead_Parts_l1_r (R : Type) : Type := Int → Int → Oa → Nat → Nat → Int → Oa → Nat → Nat → Int → Int → Heap → Option R
abbrev pkthead_Parts_l1_q (R T : Type) : Type := (Oa → Nat → Nat → Heap → Option R) → T
abbrev pkthead_Parts_l1_t (R : Type) : Type := pkthead_Parts_l1_q R (Nat → pkthead_Parts_l1_r R)
abbrev pkthead_Parts_u (R : Type) : Type := Heap → (Oa → Nat → Nat → Heap → Option R) → Option R
abbrev pkthead_Parts_t (R : Type) : Type := Int → Int → Bool → Bool → Bool → Bool → Bool → pkthead_Parts_u R
section
variable {R : Type} (f0 : cblk_Segments_t R) (z0 : pkthead_Parts_p0_t R) (z1 : pkthead_Parts_l1_t R) (z2 : pkthead_Parts_p2_t R)
def pkthead_Parts_p0_b (k : Nat) : pkthead_Parts_p0_t R := fun n1 n2 p3 KN KR =>
bif decide (n1 < 0) then (KR none 0 0)
 else (bif decide (n2 < 1) then (KR none 0 0)
 else (bif decide (n2 > 178) then (KR none 0 0)
 else (bif decide (n1 > (IntKind.wrap .i64 (178 - n2))) then (KR none 0 0)
 else (KN n1 n2 p3))))
def pkthead_Parts_p0 (k : Nat) : pkthead_Parts_p0_t R := pkthead_Parts_p0_b k
def pkthead_Parts_p2_b (k : Nat) : pkthead_Parts_p2_t R := fun n1 n2 q3 l4 c5 n6 n7 n8 n9 q10 l11 c12 n13 n14 H KN =>
bif decide (n8 < n9) then (hal H [.int .i64 (IntKind.wrap .i64 (n9 - n8))] fun p15 H16 =>
happS 1 8 H16 q3 l4 c5 p15 1 fun q17 l18 c19 H20 =>
KN n1 n2 q17 l18 c19 n6 n7 q10 l11 c12 n13 n14 H20)
 else (KN n1 n2 q3 l4 c5 n6 n7 q10 l11 c12 n13 n14 H)
def pkthead_Parts_p2 (k : Nat) : pkthead_Parts_p2_t R := pkthead_Parts_p2_b k
def pkthead_Parts_l1_b (k : Nat) : pkthead_Parts_l1_q R (pkthead_Parts_l1_r R → pkthead_Parts_l1_r R) := fun KE0 rec n1 n2 q3 l4 c5 n6 q7 l8 c9 n10 n11 H =>
bif decide (n11 < n10) then (hidx q7 l8 n11 1 fun p12 =>
ldI .i64 H p12 fun n13 =>
z2 n1 n2 q3 l4 c5 n6 n13 (imx n6 n1) (imn (IntKind.wrap .i64 (n6 + n13)) (IntKind.wrap .i64 (n1 + n2))) q7 l8 c9 n10 n11 H (fun n26 n27 q28 l29 c30 n31 n32 q33 l34 c35 n36 n37 H38 =>
rec n26 n27 q28 l29 c30 (IntKind.wrap .i64 (n31 + n32)) q33 l34 c35 n36 (IntKind.wrap .i64 (n37 + 1)) H38))
 else (KE0 q3 l4 c5 H)
def pkthead_Parts_l1 (k : Nat) : pkthead_Parts_l1_t R
  | KE0,0 => fun _ _ _ _ _ _ _ _ _ _ _ _ => none
  | KE0,n + 1 => pkthead_Parts_l1_b (pkthead_Parts_p2 k) k KE0 (pkthead_Parts_l1 k KE0 n)
def pkthead_Parts_b (k : Nat) : pkthead_Parts_t R := fun n1 n2 t3 t4 t5 t6 t7 H K =>
hal H [.bool t3,.bool t4,.bool t5,.bool t6,.bool t7] fun p8 H9 =>
z0 n1 n2 p8 (fun n16 n17 p18 =>
ldB H9 (pad p18 0) fun t19 =>
ldB H9 (pad p18 1) fun t20 =>
ldB H9 (pad p18 2) fun t21 =>
ldB H9 (pad p18 3) fun t22 =>
ldB H9 (pad p18 4) fun t23 =>
f0 178 t19 t20 t21 t22 t23 H9 fun q24 l25 c26 H27 =>
z1 (fun q31 l32 c33 H34 =>
K q31 l32 c33 H34) k n16 n17 none 0 0 0 q24 l25 c26 ((l25 : Nat) : Int) 0 H27) (fun q35 l36 c37 =>
K q35 l36 c37 H9)
def pkthead_Parts (k : Nat) : pkthead_Parts_t R := pkthead_Parts_b (cblk_Segments k) (pkthead_Parts_p0 k) (pkthead_Parts_l1 k) k
def x63C : Tab R := tcons 80 (x80a f0) <| fun _ _ _ _ => none
def x63s2 : PS := ⟨(.seq (.reg [0,1,7,8,10,11,12,30,31,32,48] []) (.cond (.reg [0,1,7,8,10,30,31,32] []) .leaf)),[0,1,7,8,10,11,12,30,31,32],[.n,.n,.l,.n,.n,.n,.n,.l,.n,.n],⟨[0,1,7,8,10,30,31,32],[],[]⟩⟩
def x63c2 (g : pkthead_Parts_p2_u R) (H : Heap) (K : XK R) : Option R := g H (kH .normal [0,1,7,8,10,30,31,32] [.n,.n,.l,.n,.n,.l,.n,.n] K)
def x63a2 (f : pkthead_Parts_p2_t R) : Nat → List Value → Heap → XK R → Option R := jp x63s2 x63c2 f
def x63s1 : PS := ⟨(.seq (.reg [0,1,7,8,30,31,32,33] []) (.seq (.cond .leaf .leaf) (.seq (.node (.seq (.reg [0,1,7,8,10,30,31,32] []) (.seq (.reg [0,1,7,8,10,11,12,30,31,32] []) (.seq (.opq 2 x63s2.ls x63s2.out x63s2.t) (.reg [0,1,7,8,30,31,32] []))))) (.reg [0,1,7,8,30,31,32] [])))),[0,1,7,8,30,31,32],[.n,.n,.l,.n,.l,.n,.n],⟨[],[(0,[7])],[]⟩⟩
def x63c1 {T : Type} (g : pkthead_Parts_l1_q R T) (H : Heap) (K : XK R) : T := g (kH (.exit 0) [7] [.l] K)
def x63a1 (f : pkthead_Parts_l1_t R) : Nat → List Value → Heap → XK R → Option R := jl x63s1 (L := pkthead_Parts_l1_t R) x63c1 pH f
def x63s0 : PS := ⟨(.seq (.reg [0,1,5,28] []) (.cond (.seq (.reg [6] []) .leaf) .leaf)),[0,1,5],[.n,.n,.p],⟨[0,1,5],[],[6]⟩⟩
def x63c0 (g : pkthead_Parts_p0_u R) (H : Heap) (K : XK R) : Option R := g (kN .normal [0,1,5] [.n,.n,.p] K H) (kN .ret [6] [.l] K H)
def x63a0 (f : pkthead_Parts_p0_t R) : Nat → List Value → Heap → XK R → Option R := jp x63s0 x63c0 f
def x63J (k : Nat) : JTab R := tcons 0 (x63a0 z0 k) <| tcons 1 (x63a1 z1 k) <| tcons 2 (x63a2 z2 k) <| fun _ _ _ _ => none
def x63t : AT := (.seq (.reg [0,1,5] []) (.seq (.opq 0 x63s0.ls x63s0.out x63s0.t) (.seq (.reg [0,1,5,7] []) (.seq (.reg [0,1,5,7,8] []) (.seq (.seq (.reg [0,1,7,8,30,31,32] []) (.node (.opq 1 x63s1.ls x63s1.out (.node x63s1.t)))) (.seq (.reg [6] []) .leaf))))))
def x63c (g : pkthead_Parts_u R) (H : Heap) (K : Value → Heap → Option R) : Option R := g H (rH [.l] K)
def x63a (f : pkthead_Parts_t R) : List Value → Heap → (Value → Heap → Option R) → Option R := jf 3 [.n,.n,(.a 5),.b,.b,.b,.b,.b] x63c f
variable {f0 z0 z1 z2}
theorem x63e2 (k : Nat) (H : Heap) (K : XK R) : jE Try.prog An 60 (x63C f0) (x63J z0 z1 z2 k) x63s2 (sel [1,1,1,1,0,1,0,0,1,1,0,0,1,1,0] (bd Try.f63)) H K = mapT (fun g => x63c2 g H K) x63s2.ts (pkthead_Parts_p2_b k) := by kernel_rfl
theorem x63e1 (k n : Nat) (H : Heap) (K : XK R) : lE Try.prog An 60 (x63C f0) (x63J z0 z1 z2 k) x63s1 (sel [1,1,1,1,0,1,0,0] (bd Try.f63)) (x63a1 z1) n H K = mapT (fun g => pH g H) x63s1.ts (x63c1 (pkthead_Parts_l1_b z2 k) H K (x63c1 z1 H K n)) := by kernel_rfl
theorem x63e0 (k : Nat) (H : Heap) (K : XK R) : jE Try.prog An 60 (x63C f0) (x63J z0 z1 z2 k) x63s0 (sel [1,0] (bd Try.f63)) H K = mapT (fun g => x63c0 g H K) x63s0.ts (pkthead_Parts_p0_b k) := by kernel_rfl
theorem x63e (k : Nat) (H : Heap) (K : Value → Heap → Option R) : fE Try.prog An (x63C f0) (x63J z0 z1 z2 k) x63t Try.f63 [.n,.n,(.a 5),.b,.b,.b,.b,.b] H K = mapT (fun g => x63c g H K) [.n,.n,(.a 5),.b,.b,.b,.b,.b] (pkthead_Parts_b f0 z0 z1 k) := by kernel_rfl
theorem x63S (R : Type) (k : Nat) : CSound Try.prog (x63C (R := R) (cblk_Segments k)) := csound_cons (x80cs R k) <| csound_nil
theorem x63j2 (R : Type) (k : Nat) : JS Try.prog 60 (x63a2 (pkthead_Parts_p2 (R := R) k) k) x63s2.ls x63s2.out (sel [1,1,1,1,0,1,0,0,1,1,0,0,1,1,0] (bd Try.f63)) := pj (x63S R k) (x63J (pkthead_Parts_p0 k) (pkthead_Parts_l1 k) (pkthead_Parts_p2 k) k) (by kernel_rfl) (A := True) trivial (by kernel_rfl) (fun _ _ => .trans (x63e2 _ _ _) (by kernel_rfl))
theorem x63j1 (R : Type) (k : Nat) : JS Try.prog 60 (x63a1 (pkthead_Parts_l1 (R := R) k) k) x63s1.ls x63s1.out (.loop (sel [1,1,1,1,0,1,0,0] (bd Try.f63))) := lj (x63S R k) (x63J (pkthead_Parts_p0 k) (pkthead_Parts_l1 k) (pkthead_Parts_p2 k) k) (by kernel_rfl) (A := JS Try.prog 60 (x63a2 (pkthead_Parts_p2 (R := R) k) k) x63s2.ls x63s2.out (sel [1,1,1,1,0,1,0,0,1,1,0,0,1,1,0] (bd Try.f63)) ∧ True) ⟨x63j2 R k,trivial⟩ (by kernel_rfl) (fun _ _ => by kernel_rfl) (fun _ _ _ => .trans (x63e1 _ _ _ _) (by kernel_rfl)) k
theorem x63j0 (R : Type) (k : Nat) : JS Try.prog 60 (x63a0 (pkthead_Parts_p0 (R := R) k) k) x63s0.ls x63s0.out (sel [1,0] (bd Try.f63)) := pj (x63S R k) (x63J (pkthead_Parts_p0 k) (pkthead_Parts_l1 k) (pkthead_Parts_p2 k) k) (by kernel_rfl) (A := True) trivial (by kernel_rfl) (fun _ _ => .trans (x63e0 _ _ _) (by kernel_rfl))
theorem x63cs (R : Type) (k : Nat) : ∀ args H K r,x63a (pkthead_Parts k) args H K = some (r : R) → ∃ v H',Tri Try.prog 63 args H v H' ∧ K v H' = some r := fj (x63S R k) (x63J (pkthead_Parts_p0 k) (pkthead_Parts_l1 k) (pkthead_Parts_p2 k) k) Try.func63 (by kernel_rfl) (A := JS Try.prog 60 (x63a0 (pkthead_Parts_p0 (R := R) k) k) x63s0.ls x63s0.out (sel [1,0] (bd Try.f63)) ∧ JS Try.prog 60 (x63a1 (pkthead_Parts_l1 (R := R) k) k) x63s1.ls x63s1.out (.loop (sel [1,1,1,1,0,1,0,0] (bd Try.f63))) ∧ True) ⟨x63j0 R k,⟨x63j1 R k,trivial⟩⟩ (by kernel_rfl) (fun _ _ => .trans (x63e _ _ _) (by kernel_rfl))
end
/-! ### bits_Len64: function 102 -/
abbrev bits_Len64_p0_u (R : Type) : Type := (Int → Int → Option R) → Option R
abbrev bits_Len64_p0_t (R : Type) : Type := Int → Int → bits_Len64_p0_u R
abbrev bits_Len64_p1_u (R : Type) : Type := (Int → Int → Option R) → Option R
abbrev bits_Len64_p1_t (R : Type) : Type := Int → Int → bits_Len64_p1_u R
abbrev bits_Len64_p2_u (R : Type) : Type := (Int → Int → Option R) → Option R
abbrev bits_Len64_p2_t (R : Type) : Type := Int → Int → bits_Len64_p2_u R
abbrev bits_Len64_u (R : Type) : Type := (Int → Option R) → Option R
abbrev bits_Len64_t (R : Type) : Type := Int → bits_Len64_u R
section
variable {R : Type} (z0 : bits_Len64_p0_t R) (z1 : bits_Len64_p1_t R) (z2 : bits_Len64_p2_t R)
def bits_Len64_p0_b (k : Nat) : bits_Len64_p0_t R := fun n1 n2 KN =>
bif decide (n1 ≥ 4294967296) then (KN (Int.fdiv n1 4294967296) 32)
 else (KN n1 n2)
def bits_Len64_p0 (k : Nat) : bits_Len64_p0_t R := bits_Len64_p0_b k
def bits_Len64_p1_b (k : Nat) : bits_Len64_p1_t R := fun n1 n2 KN =>
bif decide (n1 ≥ 65536) then (KN (Int.fdiv n1 65536) (IntKind.wrap .i64 (n2 + 16)))
 else (KN n1 n2)
def bits_Len64_p1 (k : Nat) : bits_Len64_p1_t R := bits_Len64_p1_b k
def bits_Len64_p2_b (k : Nat) : bits_Len64_p2_t R := fun n1 n2 KN =>
bif decide (n1 ≥ 256) then (KN (Int.fdiv n1 256) (IntKind.wrap .i64 (n2 + 8)))
 else (KN n1 n2)
def bits_Len64_p2 (k : Nat) : bits_Len64_p2_t R := bits_Len64_p2_b k
def bits_Len64_b (k : Nat) : bits_Len64_t R := fun n1 K =>
z0 n1 0 (fun n4 n5 =>
z1 n4 n5 (fun n8 n9 =>
z2 n8 n9 (fun n12 n13 =>
hidt ((ByteArray.mk #[0,1,2,2,3,3,3,3,4,4,4,4,4,4,4,4,5,5,5,5,5,5,5,5,5,5,5,5,5,5,5,5,6,6,6,6,6,6,6,6,6,6,6,6,6,6,6,6,6,6,6,6,6,6,6,6,6,6,6,6,6,6,6,6,7,7,7,7,7,7,7,7,7,7,7,7,7,7,7,7,7,7,7,7,7,7,7,7,7,7,7,7,7,7,7,7,7,7,7,7,7,7,7,7,7,7,7,7,7,7,7,7,7,7,7,7,7,7,7,7,7,7,7,7,7,7,7,7,8,8,8,8,8,8,8,8,8,8,8,8,8,8,8,8,8,8,8,8,8,8,8,8,8,8,8,8,8,8,8,8,8,8,8,8,8,8,8,8,8,8,8,8,8,8,8,8,8,8,8,8,8,8,8,8,8,8,8,8,8,8,8,8,8,8,8,8,8,8,8,8,8,8,8,8,8,8,8,8,8,8,8,8,8,8,8,8,8,8,8,8,8,8,8,8,8,8,8,8,8,8,8,8,8,8,8,8,8,8,8,8,8,8,8,8,8,8,8,8,8,8,8,8,8,8,8,8])) (IntKind.wrap .u8 n12) fun n14 =>
K (IntKind.wrap .i64 (n13 + (IntKind.wrap .i64 n14))))))
def bits_Len64 (k : Nat) : bits_Len64_t R := bits_Len64_b (bits_Len64_p0 k) (bits_Len64_p1 k) (bits_Len64_p2 k) k
def x102C : Tab R := fun _ _ _ _ => none
def x102s2 : PS := ⟨(.seq (.reg [0,2,14] []) (.cond (.seq (.reg [0,2] []) (.reg [0,2] [])) .leaf)),[0,2],[(.i .u64),.n],⟨[0,2],[],[]⟩⟩
def x102c2 (g : bits_Len64_p2_u R) (H : Heap) (K : XK R) : Option R := g (kN .normal [0,2] [(.i .u64),.n] K H)
def x102a2 (f : bits_Len64_p2_t R) : Nat → List Value → Heap → XK R → Option R := jp x102s2 x102c2 f
def x102s1 : PS := ⟨(.seq (.reg [0,2,8] []) (.cond (.seq (.reg [0,2] []) (.reg [0,2] [])) .leaf)),[0,2],[(.i .u64),.n],⟨[0,2],[],[]⟩⟩
def x102c1 (g : bits_Len64_p1_u R) (H : Heap) (K : XK R) : Option R := g (kN .normal [0,2] [(.i .u64),.n] K H)
def x102a1 (f : bits_Len64_p1_t R) : Nat → List Value → Heap → XK R → Option R := jp x102s1 x102c1 f
def x102s0 : PS := ⟨(.seq (.reg [0,2,4] []) (.cond (.seq (.reg [0] []) (.reg [0,2] [])) .leaf)),[0,2],[(.i .u64),.n],⟨[0,2],[],[]⟩⟩
def x102c0 (g : bits_Len64_p0_u R) (H : Heap) (K : XK R) : Option R := g (kN .normal [0,2] [(.i .u64),.n] K H)
def x102a0 (f : bits_Len64_p0_t R) : Nat → List Value → Heap → XK R → Option R := jp x102s0 x102c0 f
def x102J (k : Nat) : JTab R := tcons 0 (x102a0 z0 k) <| tcons 1 (x102a1 z1 k) <| tcons 2 (x102a2 z2 k) <| fun _ _ _ _ => none
def x102t : AT := (.seq (.reg [0,2] []) (.seq (.opq 0 x102s0.ls x102s0.out x102s0.t) (.seq (.opq 1 x102s1.ls x102s1.out x102s1.t) (.seq (.opq 2 x102s2.ls x102s2.out x102s2.t) (.seq (.reg [2] []) .leaf)))))
def x102c (g : bits_Len64_u R) (H : Heap) (K : Value → Heap → Option R) : Option R := g (rN [.n] K H)
def x102a (f : bits_Len64_t R) : List Value → Heap → (Value → Heap → Option R) → Option R := jf 1 [(.i .u64)] x102c f
variable {z0 z1 z2}
theorem x102e2 (k : Nat) (H : Heap) (K : XK R) : jE Try.prog An 25 (x102C) (x102J z0 z1 z2 k) x102s2 (sel [1,1,1,0] (bd Try.f102)) H K = mapT (fun g => x102c2 g H K) x102s2.ts (bits_Len64_p2_b k) := by kernel_rfl
theorem x102e1 (k : Nat) (H : Heap) (K : XK R) : jE Try.prog An 25 (x102C) (x102J z0 z1 z2 k) x102s1 (sel [1,1,0] (bd Try.f102)) H K = mapT (fun g => x102c1 g H K) x102s1.ts (bits_Len64_p1_b k) := by kernel_rfl
theorem x102e0 (k : Nat) (H : Heap) (K : XK R) : jE Try.prog An 25 (x102C) (x102J z0 z1 z2 k) x102s0 (sel [1,0] (bd Try.f102)) H K = mapT (fun g => x102c0 g H K) x102s0.ts (bits_Len64_p0_b k) := by kernel_rfl
theorem x102e (k : Nat) (H : Heap) (K : Value → Heap → Option R) : fE Try.prog An (x102C) (x102J z0 z1 z2 k) x102t Try.f102 [(.i .u64)] H K = mapT (fun g => x102c g H K) [(.i .u64)] (bits_Len64_b z0 z1 z2 k) := by kernel_rfl
theorem x102S (R : Type) (k : Nat) : CSound Try.prog (x102C (R := R)) := csound_nil
theorem x102j2 (R : Type) (k : Nat) : JS Try.prog 25 (x102a2 (bits_Len64_p2 (R := R) k) k) x102s2.ls x102s2.out (sel [1,1,1,0] (bd Try.f102)) := pj (x102S R k) (x102J (bits_Len64_p0 k) (bits_Len64_p1 k) (bits_Len64_p2 k) k) (by kernel_rfl) (A := True) trivial (by kernel_rfl) (fun _ _ => .trans (x102e2 _ _ _) (by kernel_rfl))
theorem x102j1 (R : Type) (k : Nat) : JS Try.prog 25 (x102a1 (bits_Len64_p1 (R := R) k) k) x102s1.ls x102s1.out (sel [1,1,0] (bd Try.f102)) := pj (x102S R k) (x102J (bits_Len64_p0 k) (bits_Len64_p1 k) (bits_Len64_p2 k) k) (by kernel_rfl) (A := True) trivial (by kernel_rfl) (fun _ _ => .trans (x102e1 _ _ _) (by kernel_rfl))
theorem x102j0 (R : Type) (k : Nat) : JS Try.prog 25 (x102a0 (bits_Len64_p0 (R := R) k) k) x102s0.ls x102s0.out (sel [1,0] (bd Try.f102)) := pj (x102S R k) (x102J (bits_Len64_p0 k) (bits_Len64_p1 k) (bits_Len64_p2 k) k) (by kernel_rfl) (A := True) trivial (by kernel_rfl) (fun _ _ => .trans (x102e0 _ _ _) (by kernel_rfl))
theorem x102cs (R : Type) (k : Nat) : ∀ args H K r,x102a (bits_Len64 k) args H K = some (r : R) → ∃ v H',Tri Try.prog 102 args H v H' ∧ K v H' = some r := fj (x102S R k) (x102J (bits_Len64_p0 k) (bits_Len64_p1 k) (bits_Len64_p2 k) k) Try.func102 (by kernel_rfl) (A := JS Try.prog 25 (x102a0 (bits_Len64_p0 (R := R) k) k) x102s0.ls x102s0.out (sel [1,0] (bd Try.f102)) ∧ JS Try.prog 25 (x102a1 (bits_Len64_p1 (R := R) k) k) x102s1.ls x102s1.out (sel [1,1,0] (bd Try.f102)) ∧ JS Try.prog 25 (x102a2 (bits_Len64_p2 (R := R) k) k) x102s2.ls x102s2.out (sel [1,1,1,0] (bd Try.f102)) ∧ True) ⟨x102j0 R k,⟨x102j1 R k,⟨x102j2 R k,trivial⟩⟩⟩ (by kernel_rfl) (fun _ _ => .trans (x102e _ _ _) (by kernel_rfl))
end
/-! ### bits_Len: function 84 -/
abbrev bits_Len_u (R : Type) : Type := (Int → Option R) → Option R
abbrev bits_Len_t (R : Type) : Type := Int → bits_Len_u R
section
variable {R : Type} (f0 : bits_Len64_t R)
def bits_Len_b (k : Nat) : bits_Len_t R := fun n1 K =>
f0 n1 fun n2 =>
K n2
def bits_Len (k : Nat) : bits_Len_t R := bits_Len_b (bits_Len64 k) k
def x84C : Tab R := tcons 102 (x102a f0) <| fun _ _ _ _ => none
def x84J (k : Nat) : JTab R := fun _ _ _ _ => none
def x84t : AT := (.seq (.reg [0] []) (.seq (.cond (.seq (.reg [2] []) .leaf) .leaf) (.seq (.reg [2] []) .leaf)))
def x84c (g : bits_Len_u R) (H : Heap) (K : Value → Heap → Option R) : Option R := g (rN [.n] K H)
def x84a (f : bits_Len_t R) : List Value → Heap → (Value → Heap → Option R) → Option R := jf 1 [(.i .u64)] x84c f
variable {f0}
theorem x84e (k : Nat) (H : Heap) (K : Value → Heap → Option R) : fE Try.prog An (x84C f0) (x84J k) x84t Try.f84 [(.i .u64)] H K = mapT (fun g => x84c g H K) [(.i .u64)] (bits_Len_b f0 k) := by kernel_rfl
theorem x84S (R : Type) (k : Nat) : CSound Try.prog (x84C (R := R) (bits_Len64 k)) := csound_cons (x102cs R k) <| csound_nil
theorem x84cs (R : Type) (k : Nat) : ∀ args H K r,x84a (bits_Len k) args H K = some (r : R) → ∃ v H',Tri Try.prog 84 args H v H' ∧ K v H' = some r := fj (x84S R k) (x84J k) Try.func84 (by kernel_rfl) (A := True) trivial (by kernel_rfl) (fun _ _ => .trans (x84e _ _ _) (by kernel_rfl))
end
/-! ### pkthead_width: function 71 -/
abbrev pkthead_width_u (R : Type) : Type := (Int → Option R) → Option R
abbrev pkthead_width_t (R : Type) : Type := Int → pkthead_width_u R
section
variable {R : Type} (f0 : bits_Len_t R)
def pkthead_width_b (k : Nat) : pkthead_width_t R := fun n1 K =>
f0 (IntKind.wrap .u64 n1) fun n2 =>
K (IntKind.wrap .i64 (n2 - 1))
def pkthead_width (k : Nat) : pkthead_width_t R := pkthead_width_b (bits_Len k) k
def x71C : Tab R := tcons 84 (x84a f0) <| fun _ _ _ _ => none
def x71J (k : Nat) : JTab R := fun _ _ _ _ => none
def x71t : AT := (.seq (.reg [0] []) (.seq (.reg [2] []) .leaf))
def x71c (g : pkthead_width_u R) (H : Heap) (K : Value → Heap → Option R) : Option R := g (rN [.n] K H)
def x71a (f : pkthead_width_t R) : List Value → Heap → (Value → Heap → Option R) → Option R := jf 1 [.n] x71c f
variable {f0}
theorem x71e (k : Nat) (H : Heap) (K : Value → Heap → Option R) : fE Try.prog An (x71C f0) (x71J k) x71t Try.f71 [.n] H K = mapT (fun g => x71c g H K) [.n] (pkthead_width_b f0 k) := by kernel_rfl
theorem x71S (R : Type) (k : Nat) : CSound Try.prog (x71C (R := R) (bits_Len k)) := csound_cons (x84cs R k) <| csound_nil
theorem x71cs (R : Type) (k : Nat) : ∀ args H K r,x71a (pkthead_width k) args H K = some (r : R) → ∃ v H',Tri Try.prog 71 args H v H' ∧ K v H' = some r := fj (x71S R k) (x71J k) Try.func71 (by kernel_rfl) (A := True) trivial (by kernel_rfl) (fun _ _ => .trans (x71e _ _ _) (by kernel_rfl))
end
/-! ### pkthead_State_lengths_1: function 91 -/
abbrev pkthead_State_lengths_1_u (R : Type) : Type := Heap → (Heap → Option R) → Option R
abbrev pkthead_State_lengths_1_t (R : Type) : Type := Int → Oa → Oa → pkthead_State_lengths_1_u R
section
variable {R : Type}
def pkthead_State_lengths_1_b (k : Nat) : pkthead_State_lengths_1_t R := fun n1 p2 p3 H K =>
hfad 2 p2 fun p4 =>
ldL H p4 fun q5 l6 c7 =>
hal H [.int .i64 n1] fun p8 H9 =>
happS 1 8 H9 q5 l6 c7 p8 1 fun q10 l11 c12 H13 =>
hfad 2 p2 fun p14 =>
hst1 H13 p14 (.slice q10 l11 c12) fun H15 =>
ldP H15 p3 fun p16 =>
hnil p16 fun p17 =>
hfad 6 p17 fun p18 =>
ldI .i64 H15 p18 fun n19 =>
hnil p16 fun p20 =>
hfad 6 p20 fun p21 =>
hst1 H15 p21 (.int .i64 (IntKind.wrap .i64 (n19 + n1))) fun H22 =>
K H22
def pkthead_State_lengths_1 : pkthead_State_lengths_1_t R := pkthead_State_lengths_1_b 0
def x91C : Tab R := fun _ _ _ _ => none
def x91J (k : Nat) : JTab R := fun _ _ _ _ => none
def x91t : AT := (.seq (.reg [0,2] []) (.reg [] []))
def x91c (g : pkthead_State_lengths_1_u R) (H : Heap) (K : Value → Heap → Option R) : Option R := g H (rH [] K)
def x91a (f : pkthead_State_lengths_1_t R) : List Value → Heap → (Value → Heap → Option R) → Option R := jf 3 [.n,.p,.p] x91c f
theorem x91e (k : Nat) (H : Heap) (K : Value → Heap → Option R) : fE Try.prog An (x91C) (x91J k) x91t Try.f91 [.n,.p,.p] H K = mapT (fun g => x91c g H K) [.n,.p,.p] (pkthead_State_lengths_1_b k) := by kernel_rfl
theorem x91S (R : Type) (k : Nat) : CSound Try.prog (x91C (R := R)) := csound_nil
theorem x91cs (R : Type) (k : Nat) : ∀ args H K r,x91a (pkthead_State_lengths_1) args H K = some (r : R) → ∃ v H',Tri Try.prog 91 args H v H' ∧ K v H' = some r := fj (x91S R k) (x91J 0) Try.func91 (by kernel_rfl) (A := True) trivial (by kernel_rfl) (fun _ _ => .trans (x91e _ _ _) (by kernel_rfl))
end
end Go.Proofs.Ytjajknghcbpblaa.Sh
