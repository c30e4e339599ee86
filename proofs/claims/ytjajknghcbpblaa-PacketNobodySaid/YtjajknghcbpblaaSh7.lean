/- Lean functions that stand for Go's,over an explicit heap,and the proofs that they do (written by this claim's program sh2.py). -/
import Derived.Test.YtjajknghcbpblaaShA
import Derived.Test.YtjajknghcbpblaaSh2
set_option maxRecDepth 100000
set_option linter.unusedVariables false
set_option linter.unusedSimpArgs false
namespace Go.Proofs.Ytjajknghcbpblaa.Sh
open Go.Proofs.Ytjajknghcbpblaa.FW
/-! ### tagtree_Tree_ok: function 59 -/
abbrev tagtree_Tree_ok_u (R : Type) : Type := Heap → (Bool → Option R) → Option R
abbrev tagtree_Tree_ok_t (R : Type) : Type := Oa → tagtree_Tree_ok_u R
section
variable {R : Type}
def tagtree_Tree_ok_b (k : Nat) : tagtree_Tree_ok_t R := fun p1 H K =>
bif p1.isSome then (hnil p1 fun p2 =>
hfad 0 p2 fun p3 =>
ldL H p3 fun q4 l5 c6 =>
K (decide (((l5 : Nat) : Int) > 0)))
 else (K false)
def tagtree_Tree_ok : tagtree_Tree_ok_t R := tagtree_Tree_ok_b 0
def x59C : Tab R := fun _ _ _ _ => none
def x59J (k : Nat) : JTab R := fun _ _ _ _ => none
def x59t : AT := (.seq (.reg [0] []) (.seq (.reg [2] []) .leaf))
def x59c (g : tagtree_Tree_ok_u R) (H : Heap) (K : Value → Heap → Option R) : Option R := g H (rN [.b] K H)
def x59a (f : tagtree_Tree_ok_t R) : List Value → Heap → (Value → Heap → Option R) → Option R := jf 1 [.p] x59c f
theorem x59e (k : Nat) (H : Heap) (K : Value → Heap → Option R) : fE Try.prog An (x59C) (x59J k) x59t Try.f59 [.p] H K = mapT (fun g => x59c g H K) [.p] (tagtree_Tree_ok_b k) := by kernel_rfl
theorem x59S (R : Type) (k : Nat) : CSound Try.prog (x59C (R := R)) := csound_nil
theorem x59cs (R : Type) (k : Nat) : ∀ args H K r,x59a (tagtree_Tree_ok) args H K = some (r : R) → ∃ v H',Tri Try.prog 59 args H v H' ∧ K v H' = some r := fj (x59S R k) (x59J 0) Try.func59 (by kernel_rfl) (A := True) trivial (by kernel_rfl) (fun _ _ => .trans (x59e _ _ _) (by kernel_rfl))
end
/-! ### tagtree_Tree_Clone: function 52 -/
abbrev tagtree_Tree_Clone_l0_r (R : Type) : Type := Oa → Oa → Nat → Nat → Int → Int → Heap → Option R
abbrev tagtree_Tree_Clone_l0_q (R T : Type) : Type := (Oa → Heap → Option R) → T
abbrev tagtree_Tree_Clone_l0_t (R : Type) : Type := tagtree_Tree_Clone_l0_q R (Nat → tagtree_Tree_Clone_l0_r R)
abbrev tagtree_Tree_Clone_u (R : Type) : Type := Heap → (Oa → Heap → Option R) → Option R
abbrev tagtree_Tree_Clone_t (R : Type) : Type := Oa → tagtree_Tree_Clone_u R
section
variable {R : Type} (f0 : tagtree_Tree_ok_t R) (z0 : tagtree_Tree_Clone_l0_t R)
def tagtree_Tree_Clone_l0_b (k : Nat) : tagtree_Tree_Clone_l0_q R (tagtree_Tree_Clone_l0_r R → tagtree_Tree_Clone_l0_r R) := fun KE0 rec p1 q2 l3 c4 n5 n6 H =>
bif decide (n6 < n5) then (hidx q2 l3 n6 3 fun p7 =>
ldI .i64 H (pad p7 0) fun n8 =>
ldI .i64 H (pad p7 1) fun n9 =>
ldL H (pad p7 2) fun q10 l11 c12 =>
hal H [.int .i64 0,.int .i64 0,.slice none 0 0] fun p13 H14 =>
hst H14 p13 [.int .i64 n8,.int .i64 n9,.slice q10 l11 c12] fun H15 =>
hnil p1 fun p16 =>
hfad 0 p16 fun p17 =>
ldL H15 p17 fun q18 l19 c20 =>
hfad 0 p13 fun p21 =>
ldI .i64 H15 p21 fun n22 =>
hfad 1 p13 fun p23 =>
ldI .i64 H15 p23 fun n24 =>
hfad 2 p13 fun p25 =>
ldL H15 p25 fun q26 l27 c28 =>
hapnS 3 24 H15 none 0 0 q26 l27 fun q29 l30 c31 H32 =>
hal H32 [.int .i64 n22,.int .i64 n24,.slice q29 l30 c31] fun p33 H34 =>
happS 3 40 H34 q18 l19 c20 p33 1 fun q35 l36 c37 H38 =>
hnil p1 fun p39 =>
hfad 0 p39 fun p40 =>
hst1 H38 p40 (.slice q35 l36 c37) fun H41 =>
rec p1 q2 l3 c4 n5 (IntKind.wrap .i64 (n6 + 1)) H41)
 else (KE0 p1 H)
def tagtree_Tree_Clone_l0 (k : Nat) : tagtree_Tree_Clone_l0_t R
  | KE0,0 => fun _ _ _ _ _ _ _ => none
  | KE0,n + 1 => tagtree_Tree_Clone_l0_b k KE0 (tagtree_Tree_Clone_l0 k KE0 n)
def tagtree_Tree_Clone_b (k : Nat) : tagtree_Tree_Clone_t R := fun p1 H K =>
f0 p1 H fun t2 =>
bif (!t2) then (K none H)
 else (hnil p1 fun p3 =>
hfad 1 p3 fun p4 =>
ldB H p4 fun t5 =>
hnil p1 fun p6 =>
hfad 2 p6 fun p7 =>
ldB H p7 fun t8 =>
hal H [.slice none 0 0,.bool t5,.bool t8] fun p9 H10 =>
hnil p1 fun p11 =>
hfad 0 p11 fun p12 =>
ldL H10 p12 fun q13 l14 c15 =>
z0 (fun p17 H18 =>
K p17 H18) k p9 q13 l14 c15 ((l14 : Nat) : Int) 0 H10)
def tagtree_Tree_Clone (k : Nat) : tagtree_Tree_Clone_t R := tagtree_Tree_Clone_b tagtree_Tree_ok (tagtree_Tree_Clone_l0 k) k
def x52C : Tab R := tcons 59 (x59a f0) <| fun _ _ _ _ => none
def x52s0 : PS := ⟨(.seq (.reg [3,22,23,24,25] []) (.seq (.cond .leaf .leaf) (.seq (.node (.seq (.reg [3,5,22,23,24] []) (.reg [3,22,23,24] (ms [0,0,2,6,14,0,32,0,128,0,512,1536,4064,8160,16382,32767,65535,131071])))) (.reg [3,22,23,24] [])))),[3,22,23,24],[.p,.l,.n,.n],⟨[],[(0,[3])],[]⟩⟩
def x52c0 {T : Type} (g : tagtree_Tree_Clone_l0_q R T) (H : Heap) (K : XK R) : T := g (kH (.exit 0) [3] [.p] K)
def x52a0 (f : tagtree_Tree_Clone_l0_t R) : Nat → List Value → Heap → XK R → Option R := jl x52s0 (L := tagtree_Tree_Clone_l0_t R) x52c0 pH f
def x52J (k : Nat) : JTab R := tcons 0 (x52a0 z0 k) <| fun _ _ _ _ => none
def x52t : AT := (.seq (.reg [0] []) (.seq (.seq (.reg [0,8] []) (.cond (.seq (.reg [2] []) .leaf) .leaf)) (.seq (.reg [0,3] (ms [0,1,3,7,0,16,48,112,255,511,1023])) (.seq (.seq (.reg [3,22,23,24] []) (.node (.opq 0 x52s0.ls x52s0.out (.node x52s0.t)))) (.seq (.reg [2] []) .leaf)))))
def x52c (g : tagtree_Tree_Clone_u R) (H : Heap) (K : Value → Heap → Option R) : Option R := g H (rH [.p] K)
def x52a (f : tagtree_Tree_Clone_t R) : List Value → Heap → (Value → Heap → Option R) → Option R := jf 1 [.p] x52c f
variable {f0 z0}
theorem x52e0 (k n : Nat) (H : Heap) (K : XK R) : lE Try.prog An 47 (x52C f0) (x52J z0 k) x52s0 (sel [1,1,1,0,1,0,0] (bd Try.f52)) (x52a0 z0) n H K = mapT (fun g => pH g H) x52s0.ts (x52c0 (tagtree_Tree_Clone_l0_b k) H K (x52c0 z0 H K n)) := by kernel_rfl
theorem x52e (k : Nat) (H : Heap) (K : Value → Heap → Option R) : fE Try.prog An (x52C f0) (x52J z0 k) x52t Try.f52 [.p] H K = mapT (fun g => x52c g H K) [.p] (tagtree_Tree_Clone_b f0 z0 k) := by kernel_rfl
theorem x52S (R : Type) (k : Nat) : CSound Try.prog (x52C (R := R) tagtree_Tree_ok) := csound_cons (x59cs R k) <| csound_nil
theorem x52j0 (R : Type) (k : Nat) : JS Try.prog 47 (x52a0 (tagtree_Tree_Clone_l0 (R := R) k) k) x52s0.ls x52s0.out (.loop (sel [1,1,1,0,1,0,0] (bd Try.f52))) := lj (x52S R k) (x52J (tagtree_Tree_Clone_l0 k) k) (by kernel_rfl) (A := True) trivial (by kernel_rfl) (fun _ _ => by kernel_rfl) (fun _ _ _ => .trans (x52e0 _ _ _ _) (by kernel_rfl)) k
theorem x52cs (R : Type) (k : Nat) : ∀ args H K r,x52a (tagtree_Tree_Clone k) args H K = some (r : R) → ∃ v H',Tri Try.prog 52 args H v H' ∧ K v H' = some r := fj (x52S R k) (x52J (tagtree_Tree_Clone_l0 k) k) Try.func52 (by kernel_rfl) (A := JS Try.prog 47 (x52a0 (tagtree_Tree_Clone_l0 (R := R) k) k) x52s0.ls x52s0.out (.loop (sel [1,1,1,0,1,0,0] (bd Try.f52))) ∧ True) ⟨x52j0 R k,trivial⟩ (by kernel_rfl) (fun _ _ => .trans (x52e _ _ _) (by kernel_rfl))
end
/-! ### pkthead_State_Clone: function 37 -/
abbrev pkthead_State_Clone_p0_u (R : Type) : Type := Heap → (Oa → Option R) → (Oa → Option R) → Option R
abbrev pkthead_State_Clone_p0_t (R : Type) : Type := Oa → pkthead_State_Clone_p0_u R
abbrev pkthead_State_Clone_l1_r (R : Type) : Type := Oa → Oa → Nat → Nat → Int → Int → Heap → Option R
abbrev pkthead_State_Clone_l1_q (R T : Type) : Type := (Oa → Heap → Option R) → T
abbrev pkthead_State_Clone_l1_t (R : Type) : Type := pkthead_State_Clone_l1_q R (Nat → pkthead_State_Clone_l1_r R)
abbrev pkthead_State_Clone_u (R : Type) : Type := Heap → (Oa → Heap → Option R) → Option R
abbrev pkthead_State_Clone_t (R : Type) : Type := Oa → pkthead_State_Clone_u R
section
variable {R : Type} (f0 : tagtree_Tree_Clone_t R) (z0 : pkthead_State_Clone_p0_t R) (z1 : pkthead_State_Clone_l1_t R)
def pkthead_State_Clone_p0_b (k : Nat) : pkthead_State_Clone_p0_t R := fun p1 H KN KR =>
bif p1.isNone then (KR none)
 else (hnil p1 fun p2 =>
hfad 0 p2 fun p3 =>
ldB H p3 fun t4 =>
bif (!t4) then (KR none)
 else (KN p1))
def pkthead_State_Clone_p0 (k : Nat) : pkthead_State_Clone_p0_t R := pkthead_State_Clone_p0_b k
def pkthead_State_Clone_l1_b (k : Nat) : pkthead_State_Clone_l1_q R (pkthead_State_Clone_l1_r R → pkthead_State_Clone_l1_r R) := fun KE0 rec p1 q2 l3 c4 n5 n6 H =>
bif decide (n6 < n5) then (hidx q2 l3 n6 3 fun p7 =>
ldI .i64 H (pad p7 0) fun n8 =>
ldP H (pad p7 1) fun p9 =>
ldP H (pad p7 2) fun p10 =>
hal H [.int .i64 0,.pointer none,.pointer none] fun p11 H12 =>
hst H12 p11 [.int .i64 n8,.pointer p9,.pointer p10] fun H13 =>
hnil p1 fun p14 =>
hfad 8 p14 fun p15 =>
ldL H13 p15 fun q16 l17 c18 =>
hfad 0 p11 fun p19 =>
ldI .i64 H13 p19 fun n20 =>
hfad 1 p11 fun p21 =>
ldP H13 p21 fun p22 =>
f0 p22 (roH H13) fun p23 H24 =>
hfad 2 p11 fun p25 =>
ldP (H13 ++ H24.drop H13.length) p25 fun p26 =>
f0 p26 (roH (H13 ++ H24.drop H13.length)) fun p27 H28 =>
hal ((H13 ++ H24.drop H13.length) ++ H28.drop (H13 ++ H24.drop H13.length).length) [.int .i64 n20,.pointer p23,.pointer p27] fun p29 H30 =>
happS 3 24 H30 q16 l17 c18 p29 1 fun q31 l32 c33 H34 =>
hnil p1 fun p35 =>
hfad 8 p35 fun p36 =>
hst1 H34 p36 (.slice q31 l32 c33) fun H37 =>
rec p1 q2 l3 c4 n5 (IntKind.wrap .i64 (n6 + 1)) H37)
 else (KE0 p1 H)
def pkthead_State_Clone_l1 (k : Nat) : pkthead_State_Clone_l1_t R
  | KE0,0 => fun _ _ _ _ _ _ _ => none
  | KE0,n + 1 => pkthead_State_Clone_l1_b (tagtree_Tree_Clone k) k KE0 (pkthead_State_Clone_l1 k KE0 n)
def pkthead_State_Clone_b (k : Nat) : pkthead_State_Clone_t R := fun p1 H K =>
z0 p1 H (fun p4 =>
hnil p4 fun p5 =>
hfad 1 p5 fun p6 =>
ldB H p6 fun t7 =>
hnil p4 fun p8 =>
hfad 2 p8 fun p9 =>
ldB H p9 fun t10 =>
hnil p4 fun p11 =>
hfad 3 p11 fun p12 =>
ldB H (pad p12 0) fun t13 =>
ldB H (pad p12 1) fun t14 =>
ldB H (pad p12 2) fun t15 =>
ldB H (pad p12 3) fun t16 =>
ldB H (pad p12 4) fun t17 =>
hnil p4 fun p18 =>
hfad 10 p18 fun p19 =>
ldI .i64 H p19 fun n20 =>
hal H [.bool true,.bool t7,.bool t10,.bool t13,.bool t14,.bool t15,.bool t16,.bool t17,.slice none 0 0,.slice none 0 0,.int .i64 n20] fun p21 H22 =>
hal H22 [] fun p23 H24 =>
hnil p4 fun p25 =>
hfad 9 p25 fun p26 =>
ldL H24 p26 fun q27 l28 c29 =>
happS 10 80 H24 p23 0 0 q27 l28 fun q30 l31 c32 H33 =>
hnil p21 fun p34 =>
hfad 9 p34 fun p35 =>
hst1 H33 p35 (.slice q30 l31 c32) fun H36 =>
hnil p4 fun p37 =>
hfad 8 p37 fun p38 =>
ldL H36 p38 fun q39 l40 c41 =>
z1 (fun p43 H44 =>
K p43 H44) k p21 q39 l40 c41 ((l40 : Nat) : Int) 0 H36) (fun p45 =>
K p45 H)
def pkthead_State_Clone (k : Nat) : pkthead_State_Clone_t R := pkthead_State_Clone_b (pkthead_State_Clone_p0 k) (pkthead_State_Clone_l1 k) k
def x37C : Tab R := tcons 52 (x52a f0) <| fun _ _ _ _ => none
def x37s1 : PS := ⟨(.seq (.reg [3,45,46,47,48] []) (.seq (.cond .leaf .leaf) (.seq (.node (.seq (.reg [3,5,45,46,47] []) (.reg [3,45,46,47] (ms [0,0,2,6,14,0,32,0,128,384,0,1024,3968,8160,16352,32766,65535,131071,262143])))) (.reg [3,45,46,47] [])))),[3,45,46,47],[.p,.l,.n,.n],⟨[],[(0,[3])],[]⟩⟩
def x37c1 {T : Type} (g : pkthead_State_Clone_l1_q R T) (H : Heap) (K : XK R) : T := g (kH (.exit 0) [3] [.p] K)
def x37a1 (f : pkthead_State_Clone_l1_t R) : Nat → List Value → Heap → XK R → Option R := jl x37s1 (L := pkthead_State_Clone_l1_t R) x37c1 pH f
def x37s0 : PS := ⟨(.seq (.reg [0,14] []) (.cond (.seq (.reg [2] []) .leaf) .leaf)),[0],[.p],⟨[0],[],[2]⟩⟩
def x37c0 (g : pkthead_State_Clone_p0_u R) (H : Heap) (K : XK R) : Option R := g H (kN .normal [0] [.p] K H) (kN .ret [2] [.p] K H)
def x37a0 (f : pkthead_State_Clone_p0_t R) : Nat → List Value → Heap → XK R → Option R := jp x37s0 x37c0 f
def x37J (k : Nat) : JTab R := tcons 0 (x37a0 z0 k) <| tcons 1 (x37a1 z1 k) <| fun _ _ _ _ => none
def x37t : AT := (.seq (.reg [0] []) (.seq (.opq 0 x37s0.ls x37s0.out x37s0.t) (.seq (.reg [0,3] (ms [0,1,3,7,0,16,48,112,0,256,768,1792,0,4096,12288,28672,65535,131071,262143])) (.seq (.reg [0,3] []) (.seq (.seq (.reg [3,45,46,47] []) (.node (.opq 1 x37s1.ls x37s1.out (.node x37s1.t)))) (.seq (.reg [2] []) .leaf))))))
def x37c (g : pkthead_State_Clone_u R) (H : Heap) (K : Value → Heap → Option R) : Option R := g H (rH [.p] K)
def x37a (f : pkthead_State_Clone_t R) : List Value → Heap → (Value → Heap → Option R) → Option R := jf 1 [.p] x37c f
variable {f0 z0 z1}
theorem x37e1 (k n : Nat) (H : Heap) (K : XK R) : lE Try.prog An 71 (x37C f0) (x37J z0 z1 k) x37s1 (sel [1,1,1,1,0,1,0,0] (bd Try.f37)) (x37a1 z1) n H K = mapT (fun g => pH g H) x37s1.ts (x37c1 (pkthead_State_Clone_l1_b f0 k) H K (x37c1 z1 H K n)) := by kernel_rfl
theorem x37e0 (k : Nat) (H : Heap) (K : XK R) : jE Try.prog An 71 (x37C f0) (x37J z0 z1 k) x37s0 (sel [1,0] (bd Try.f37)) H K = mapT (fun g => x37c0 g H K) x37s0.ts (pkthead_State_Clone_p0_b k) := by kernel_rfl
theorem x37e (k : Nat) (H : Heap) (K : Value → Heap → Option R) : fE Try.prog An (x37C f0) (x37J z0 z1 k) x37t Try.f37 [.p] H K = mapT (fun g => x37c g H K) [.p] (pkthead_State_Clone_b z0 z1 k) := by kernel_rfl
theorem x37S (R : Type) (k : Nat) : CSound Try.prog (x37C (R := R) (tagtree_Tree_Clone k)) := csound_cons (x52cs R k) <| csound_nil
theorem x37j1 (R : Type) (k : Nat) : JS Try.prog 71 (x37a1 (pkthead_State_Clone_l1 (R := R) k) k) x37s1.ls x37s1.out (.loop (sel [1,1,1,1,0,1,0,0] (bd Try.f37))) := lj (x37S R k) (x37J (pkthead_State_Clone_p0 k) (pkthead_State_Clone_l1 k) k) (by kernel_rfl) (A := True) trivial (by kernel_rfl) (fun _ _ => by kernel_rfl) (fun _ _ _ => .trans (x37e1 _ _ _ _) (by kernel_rfl)) k
theorem x37j0 (R : Type) (k : Nat) : JS Try.prog 71 (x37a0 (pkthead_State_Clone_p0 (R := R) k) k) x37s0.ls x37s0.out (sel [1,0] (bd Try.f37)) := pj (x37S R k) (x37J (pkthead_State_Clone_p0 k) (pkthead_State_Clone_l1 k) k) (by kernel_rfl) (A := True) trivial (by kernel_rfl) (fun _ _ => .trans (x37e0 _ _ _) (by kernel_rfl))
theorem x37cs (R : Type) (k : Nat) : ∀ args H K r,x37a (pkthead_State_Clone k) args H K = some (r : R) → ∃ v H',Tri Try.prog 37 args H v H' ∧ K v H' = some r := fj (x37S R k) (x37J (pkthead_State_Clone_p0 k) (pkthead_State_Clone_l1 k) k) Try.func37 (by kernel_rfl) (A := JS Try.prog 71 (x37a0 (pkthead_State_Clone_p0 (R := R) k) k) x37s0.ls x37s0.out (sel [1,0] (bd Try.f37)) ∧ JS Try.prog 71 (x37a1 (pkthead_State_Clone_l1 (R := R) k) k) x37s1.ls x37s1.out (.loop (sel [1,1,1,1,0,1,0,0] (bd Try.f37))) ∧ True) ⟨x37j0 R k,⟨x37j1 R k,trivial⟩⟩ (by kernel_rfl) (fun _ _ => .trans (x37e _ _ _) (by kernel_rfl))
end
/-! ### packet_bounds: function 38 -/
abbrev packet_bounds_p0_u (R : Type) : Type := (Oa → Nat → Nat → Int → Bool → Int → Oa → Bool → Option R) → Option R
abbrev packet_bounds_p0_t (R : Type) : Type := Oa → Nat → Nat → Int → Bool → Int → Oa → packet_bounds_p0_u R
abbrev packet_bounds_u (R : Type) : Type := Heap → (Int → Int → Int → Heap → Option R) → Option R
abbrev packet_bounds_t (R : Type) : Type := Oa → Nat → Nat → Int → Bool → Int → packet_bounds_u R
section
variable {R : Type} (f0 : packet_mark_t R) (f1 : packet_rest_t R) (z0 : packet_bounds_p0_t R)
def packet_bounds_p0_b (k : Nat) : packet_bounds_p0_t R := fun q1 l2 c3 n4 t5 n6 p7 KN =>
bif decide (n4 < 0) then (KN q1 l2 c3 n4 t5 n6 p7 true)
 else (bif decide (n4 > ((l2 : Nat) : Int)) then (KN q1 l2 c3 n4 t5 n6 p7 true)
 else (bif decide (n6 < 0) then (KN q1 l2 c3 n4 t5 n6 p7 true)
 else (KN q1 l2 c3 n4 t5 n6 p7 (decide (n6 > 65535)))))
def packet_bounds_p0 (k : Nat) : packet_bounds_p0_t R := packet_bounds_p0_b k
def packet_bounds_b (k : Nat) : packet_bounds_t R := fun q1 l2 c3 n4 t5 n6 H K =>
hal H [.int .i64 0,.int .i64 0] fun p7 H8 =>
z0 q1 l2 c3 n4 t5 n6 p7 (fun q17 l18 c19 n20 t21 n22 p23 t24 =>
bif t24 then (hst H8 p23 [.int .i64 0,.int .i64 0] fun H25 =>
ldI .i64 H25 (pad p23 0) fun n26 =>
ldI .i64 H25 (pad p23 1) fun n27 =>
K n26 n27 2 H25)
 else (bif (!t21) then (hst H8 p23 [.int .i64 n20,.int .i64 ((l18 : Nat) : Int)] fun H28 =>
ldI .i64 H28 (pad p23 0) fun n29 =>
ldI .i64 H28 (pad p23 1) fun n30 =>
K n29 n30 0 H28)
 else (f0 q17 l18 c19 n20 H8 fun n31 n32 n33 n34 n35 H36 =>
hal H36 [.int .i64 0,.int .i64 0] fun p37 H38 =>
hst H38 p37 [.int .i64 n32,.int .i64 n33] fun H39 =>
bif (n35 != 0) then (hst H39 p23 [.int .i64 0,.int .i64 0] fun H40 =>
ldI .i64 H40 (pad p23 0) fun n41 =>
ldI .i64 H40 (pad p23 1) fun n42 =>
K n41 n42 n35 H40)
 else (bif (n31 != n22) then (hst H39 p23 [.int .i64 0,.int .i64 0] fun H43 =>
ldI .i64 H43 (pad p23 0) fun n44 =>
ldI .i64 H43 (pad p23 1) fun n45 =>
K n44 n45 15 H43)
 else (ldI .i64 H39 (pad p37 0) fun n46 =>
ldI .i64 H39 (pad p37 1) fun n47 =>
ldI .i64 H39 (pad p37 0) fun n48 =>
ldI .i64 H39 (pad p37 1) fun n49 =>
f1 q17 l18 c19 n48 n49 n34 (roH H39) fun n50 H51 =>
hst H39 p23 [.int .i64 n46,.int .i64 n47] fun H52 =>
ldI .i64 H52 (pad p23 0) fun n53 =>
ldI .i64 H52 (pad p23 1) fun n54 =>
K n53 n54 n50 H52)))))
def packet_bounds (k : Nat) : packet_bounds_t R := packet_bounds_b (packet_mark k) (packet_rest k) (packet_bounds_p0 k) k
def x38C : Tab R := tcons 33 (x33a f0) <| tcons 34 (x34a f1) <| fun _ _ _ _ => none
def x38s0 : PS := ⟨(.reg [0,1,2,3,8,29] []),[0,1,2,3,8],[.l,.n,.b,.n,.p],⟨[0,1,2,3,8,29],[],[]⟩⟩
def x38c0 (g : packet_bounds_p0_u R) (H : Heap) (K : XK R) : Option R := g (kN .normal [0,1,2,3,8,29] [.l,.n,.b,.n,.p,.b] K H)
def x38a0 (f : packet_bounds_p0_t R) : Nat → List Value → Heap → XK R → Option R := jp x38s0 x38c0 f
def x38J (k : Nat) : JTab R := tcons 0 (x38a0 z0 k) <| fun _ _ _ _ => none
def x38t : AT := (.seq (.reg [0,1,2,3,8] []) (.seq (.seq (.opq 0 x38s0.ls x38s0.out x38s0.t) (.cond (.seq (.reg [8,9] []) .leaf) .leaf)) (.seq (.seq (.reg [0,1,3,8,32] []) (.cond (.seq (.reg [8,9] []) .leaf) .leaf)) (.seq (.reg [0,3,8,10,11,12,13] []) (.seq (.seq (.reg [0,3,8,10,11,12,13,46] []) (.cond (.seq (.reg [8,9] []) .leaf) .leaf)) (.seq (.seq (.reg [0,8,11,12,51] []) (.cond (.seq (.reg [8,9] []) .leaf) .leaf)) (.seq (.reg [8,9] (ms [0,0,0,0,14,31,63])) .leaf)))))))
def x38c (g : packet_bounds_u R) (H : Heap) (K : Value → Heap → Option R) : Option R := g H (rH [(.a 2),.n,.n,.n] K)
def x38a (f : packet_bounds_t R) : List Value → Heap → (Value → Heap → Option R) → Option R := jf 4 [.l,.n,.b,.n] x38c f
variable {f0 f1 z0}
theorem x38e0 (k : Nat) (H : Heap) (K : XK R) : jE Try.prog An 58 (x38C f0 f1) (x38J z0 k) x38s0 (sel [1,0,0] (bd Try.f38)) H K = mapT (fun g => x38c0 g H K) x38s0.ts (packet_bounds_p0_b k) := by kernel_rfl
theorem x38e (k : Nat) (H : Heap) (K : Value → Heap → Option R) : fE Try.prog An (x38C f0 f1) (x38J z0 k) x38t Try.f38 [.l,.n,.b,.n] H K = mapT (fun g => x38c g H K) [.l,.n,.b,.n] (packet_bounds_b f0 f1 z0 k) := by kernel_rfl
theorem x38S (R : Type) (k : Nat) : CSound Try.prog (x38C (R := R) (packet_mark k) (packet_rest k)) := csound_cons (x33cs R k) <| csound_cons (x34cs R k) <| csound_nil
theorem x38j0 (R : Type) (k : Nat) : JS Try.prog 58 (x38a0 (packet_bounds_p0 (R := R) k) k) x38s0.ls x38s0.out (sel [1,0,0] (bd Try.f38)) := pj (x38S R k) (x38J (packet_bounds_p0 k) k) (by kernel_rfl) (A := True) trivial (by kernel_rfl) (fun _ _ => .trans (x38e0 _ _ _) (by kernel_rfl))
theorem x38cs (R : Type) (k : Nat) : ∀ args H K r,x38a (packet_bounds k) args H K = some (r : R) → ∃ v H',Tri Try.prog 38 args H v H' ∧ K v H' = some r := fj (x38S R k) (x38J (packet_bounds_p0 k) k) Try.func38 (by kernel_rfl) (A := JS Try.prog 58 (x38a0 (packet_bounds_p0 (R := R) k) k) x38s0.ls x38s0.out (sel [1,0,0] (bd Try.f38)) ∧ True) ⟨x38j0 R k,trivial⟩ (by kernel_rfl) (fun _ _ => .trans (x38e _ _ _) (by kernel_rfl))
end
/-! ### bitio_NewReader: function 54 -/
abbrev bitio_NewReader_u (R : Type) : Type := Heap → (Oa → Heap → Option R) → Option R
abbrev bitio_NewReader_t (R : Type) : Type := Oa → Nat → Nat → bitio_NewReader_u R
section
variable {R : Type}
def bitio_NewReader_b (k : Nat) : bitio_NewReader_t R := fun q1 l2 c3 H K =>
hapnS 1 1 H none 0 0 q1 l2 fun q4 l5 c6 H7 =>
hal H7 [.bool true,.slice q4 l5 c6,.int .i64 0,.int .i64 0] fun p8 H9 =>
K p8 H9
def bitio_NewReader : bitio_NewReader_t R := bitio_NewReader_b 0
def x54C : Tab R := fun _ _ _ _ => none
def x54J (k : Nat) : JTab R := fun _ _ _ _ => none
def x54t : AT := (.seq (.reg [0] []) (.seq (.reg [2] []) .leaf))
def x54c (g : bitio_NewReader_u R) (H : Heap) (K : Value → Heap → Option R) : Option R := g H (rH [.p] K)
def x54a (f : bitio_NewReader_t R) : List Value → Heap → (Value → Heap → Option R) → Option R := jf 1 [.l] x54c f
theorem x54e (k : Nat) (H : Heap) (K : Value → Heap → Option R) : fE Try.prog An (x54C) (x54J k) x54t Try.f54 [.l] H K = mapT (fun g => x54c g H K) [.l] (bitio_NewReader_b k) := by kernel_rfl
theorem x54S (R : Type) (k : Nat) : CSound Try.prog (x54C (R := R)) := csound_nil
theorem x54cs (R : Type) (k : Nat) : ∀ args H K r,x54a (bitio_NewReader) args H K = some (r : R) → ∃ v H',Tri Try.prog 54 args H v H' ∧ K v H' = some r := fj (x54S R k) (x54J 0) Try.func54 (by kernel_rfl) (A := True) trivial (by kernel_rfl) (fun _ _ => .trans (x54e _ _ _) (by kernel_rfl))
end
/-! ### bitio_Reader_ok: function 85 -/
abbrev bitio_Reader_ok_u (R : Type) : Type := Heap → (Bool → Option R) → Option R
abbrev bitio_Reader_ok_t (R : Type) : Type := Oa → bitio_Reader_ok_u R
section
variable {R : Type}
def bitio_Reader_ok_b (k : Nat) : bitio_Reader_ok_t R := fun p1 H K =>
bif p1.isSome then (hnil p1 fun p2 =>
hfad 0 p2 fun p3 =>
ldB H p3 fun t4 =>
K t4)
 else (K false)
def bitio_Reader_ok : bitio_Reader_ok_t R := bitio_Reader_ok_b 0
def x85C : Tab R := fun _ _ _ _ => none
def x85J (k : Nat) : JTab R := fun _ _ _ _ => none
def x85t : AT := (.seq (.reg [0] []) (.seq (.reg [2] []) .leaf))
def x85c (g : bitio_Reader_ok_u R) (H : Heap) (K : Value → Heap → Option R) : Option R := g H (rN [.b] K H)
def x85a (f : bitio_Reader_ok_t R) : List Value → Heap → (Value → Heap → Option R) → Option R := jf 1 [.p] x85c f
theorem x85e (k : Nat) (H : Heap) (K : Value → Heap → Option R) : fE Try.prog An (x85C) (x85J k) x85t Try.f85 [.p] H K = mapT (fun g => x85c g H K) [.p] (bitio_Reader_ok_b k) := by kernel_rfl
theorem x85S (R : Type) (k : Nat) : CSound Try.prog (x85C (R := R)) := csound_nil
theorem x85cs (R : Type) (k : Nat) : ∀ args H K r,x85a (bitio_Reader_ok) args H K = some (r : R) → ∃ v H',Tri Try.prog 85 args H v H' ∧ K v H' = some r := fj (x85S R k) (x85J 0) Try.func85 (by kernel_rfl) (A := True) trivial (by kernel_rfl) (fun _ _ => .trans (x85e _ _ _) (by kernel_rfl))
end
/-! ### bitio_Reader_get: function 86 -/
abbrev bitio_Reader_get_p2_u (R : Type) : Type := Heap → (Oa → Int → Bool → Option R) → Option R
abbrev bitio_Reader_get_p2_t (R : Type) : Type := Oa → Int → bitio_Reader_get_p2_u R
abbrev bitio_Reader_get_p1_u (R : Type) : Type := Heap → (Oa → Int → Option R) → (Int → Int → Option R) → Option R
abbrev bitio_Reader_get_p1_t (R : Type) : Type := Oa → Int → bitio_Reader_get_p1_u R
abbrev bitio_Reader_get_p0_u (R : Type) : Type := Heap → (Oa → Heap → Option R) → (Int → Int → Heap → Option R) → Option R
abbrev bitio_Reader_get_p0_t (R : Type) : Type := Oa → bitio_Reader_get_p0_u R
abbrev bitio_Reader_get_u (R : Type) : Type := Heap → (Int → Int → Heap → Option R) → Option R
abbrev bitio_Reader_get_t (R : Type) : Type := Oa → bitio_Reader_get_u R
section
variable {R : Type} (z0 : bitio_Reader_get_p0_t R) (z1 : bitio_Reader_get_p1_t R) (z2 : bitio_Reader_get_p2_t R)
def bitio_Reader_get_p2_b (k : Nat) : bitio_Reader_get_p2_t R := fun p1 n2 H KN =>
hnil p1 fun p3 =>
hfad 2 p3 fun p4 =>
ldI .i64 H p4 fun n5 =>
bif decide (n5 > 0) then (hnil p1 fun p6 =>
hfad 1 p6 fun p7 =>
ldL H p7 fun q8 l9 c10 =>
hnil p1 fun p11 =>
hfad 2 p11 fun p12 =>
ldI .i64 H p12 fun n13 =>
hidx q8 l9 (IntKind.wrap .i64 (n13 - 1)) 1 fun p14 =>
ldI .u8 H p14 fun n15 =>
KN p1 n2 (n15 == 255))
 else (KN p1 n2 false)
def bitio_Reader_get_p2 (k : Nat) : bitio_Reader_get_p2_t R := bitio_Reader_get_p2_b k
def bitio_Reader_get_p1_b (k : Nat) : bitio_Reader_get_p1_t R := fun p1 n2 H KN KR =>
z2 p1 n2 H (fun p6 n7 t8 =>
bif t8 then (hnil p6 fun p9 =>
hfad 1 p9 fun p10 =>
ldL H p10 fun q11 l12 c13 =>
hnil p6 fun p14 =>
hfad 2 p14 fun p15 =>
ldI .i64 H p15 fun n16 =>
hidx q11 l12 n16 1 fun p17 =>
ldI .u8 H p17 fun n18 =>
bif decide (n18 ≥ 128) then (KR 0 8)
 else (KN p6 7))
 else (KN p6 n7))
def bitio_Reader_get_p1 (k : Nat) : bitio_Reader_get_p1_t R := bitio_Reader_get_p1_b (bitio_Reader_get_p2 k) k
def bitio_Reader_get_p0_b (k : Nat) : bitio_Reader_get_p0_t R := fun p1 H KN KR =>
hnil p1 fun p2 =>
hfad 3 p2 fun p3 =>
ldI .i64 H p3 fun n4 =>
bif (n4 == 0) then (hnil p1 fun p5 =>
hfad 2 p5 fun p6 =>
ldI .i64 H p6 fun n7 =>
hnil p1 fun p8 =>
hfad 1 p8 fun p9 =>
ldL H p9 fun q10 l11 c12 =>
bif (n7 == ((l11 : Nat) : Int)) then (KR 0 7 H)
 else (z1 p1 8 H (fun p17 n18 =>
hnil p17 fun p19 =>
hfad 2 p19 fun p20 =>
ldI .i64 H p20 fun n21 =>
hnil p17 fun p22 =>
hfad 2 p22 fun p23 =>
hst1 H p23 (.int .i64 (IntKind.wrap .i64 (n21 + 1))) fun H24 =>
hnil p17 fun p25 =>
hfad 3 p25 fun p26 =>
hst1 H24 p26 (.int .i64 n18) fun H27 =>
KN p17 H27) (fun n28 n29 =>
KR n28 n29 H)))
 else (KN p1 H)
def bitio_Reader_get_p0 (k : Nat) : bitio_Reader_get_p0_t R := bitio_Reader_get_p0_b (bitio_Reader_get_p1 k) k
def bitio_Reader_get_b (k : Nat) : bitio_Reader_get_t R := fun p1 H K =>
z0 p1 H (fun p5 H6 =>
hnil p5 fun p7 =>
hfad 3 p7 fun p8 =>
ldI .i64 H6 p8 fun n9 =>
hnil p5 fun p10 =>
hfad 3 p10 fun p11 =>
hst1 H6 p11 (.int .i64 (IntKind.wrap .i64 (n9 - 1))) fun H12 =>
hnil p5 fun p13 =>
hfad 1 p13 fun p14 =>
ldL H12 p14 fun q15 l16 c17 =>
hnil p5 fun p18 =>
hfad 2 p18 fun p19 =>
ldI .i64 H12 p19 fun n20 =>
hidx q15 l16 (IntKind.wrap .i64 (n20 - 1)) 1 fun p21 =>
ldI .u8 H12 p21 fun n22 =>
hnil p5 fun p23 =>
hfad 3 p23 fun p24 =>
ldI .i64 H12 p24 fun n25 =>
hbin .shr .u8 n22 (IntKind.wrap .u64 n25) fun n26 =>
hbin .and .i64 (IntKind.wrap .i64 n26) 1 fun n27 =>
K n27 0 H12) (fun n28 n29 H30 =>
K n28 n29 H30)
def bitio_Reader_get (k : Nat) : bitio_Reader_get_t R := bitio_Reader_get_b (bitio_Reader_get_p0 k) k
def x86C : Tab R := fun _ _ _ _ => none
def x86s2 : PS := ⟨(.reg [0,4,38] (ms [0,1,3,7,15,31,63,127,255,511,63,1087,3135,7231,15423,32767,65535,131071,262143])),[0,4],[.p,.n],⟨[0,4,38],[],[]⟩⟩
def x86c2 (g : bitio_Reader_get_p2_u R) (H : Heap) (K : XK R) : Option R := g H (kN .normal [0,4,38] [.p,.n,.b] K H)
def x86a2 (f : bitio_Reader_get_p2_t R) : Nat → List Value → Heap → XK R → Option R := jp x86s2 x86c2 f
def x86s1 : PS := ⟨(.seq (.opq 2 x86s2.ls x86s2.out x86s2.t) (.cond (.seq (.seq (.reg [0,49] (ms [0,1,3,7,0,16,48,112,255,511,1023])) (.cond (.seq (.reg [2,3] []) .leaf) .leaf)) (.reg [0,4] [])) .leaf)),[0,4],[.p,.n],⟨[0,4],[],[2,3]⟩⟩
def x86c1 (g : bitio_Reader_get_p1_u R) (H : Heap) (K : XK R) : Option R := g H (kN .normal [0,4] [.p,.n] K H) (kN .ret [2,3] [.n,.n] K H)
def x86a1 (f : bitio_Reader_get_p1_t R) : Nat → List Value → Heap → XK R → Option R := jp x86s1 x86c1 f
def x86s0 : PS := ⟨(.seq (.reg [0,9] []) (.cond (.seq (.seq (.reg [0,19] (ms [0,1,3,7,0,16,48,112,240,511])) (.cond (.seq (.reg [2,3] []) .leaf) .leaf)) (.seq (.reg [0,4] []) (.seq (.opq 1 x86s1.ls x86s1.out x86s1.t) (.seq (.reg [0,4] []) (.reg [0] []))))) .leaf)),[0],[.p],⟨[0],[],[2,3]⟩⟩
def x86c0 (g : bitio_Reader_get_p0_u R) (H : Heap) (K : XK R) : Option R := g H (kH .normal [0] [.p] K) (kH .ret [2,3] [.n,.n] K)
def x86a0 (f : bitio_Reader_get_p0_t R) : Nat → List Value → Heap → XK R → Option R := jp x86s0 x86c0 f
def x86J (k : Nat) : JTab R := tcons 0 (x86a0 z0 k) <| tcons 1 (x86a1 z1 k) <| tcons 2 (x86a2 z2 k) <| fun _ _ _ _ => none
def x86t : AT := (.seq (.reg [0] []) (.seq (.opq 0 x86s0.ls x86s0.out x86s0.t) (.seq (.reg [0] []) (.seq (.reg [2,3] (ms [0,1,3,7,0,16,48,112,240,511,1023,0,2048,6144,14336,30720,65535,131071,262143,524287,1048575])) .leaf))))
def x86c (g : bitio_Reader_get_u R) (H : Heap) (K : Value → Heap → Option R) : Option R := g H (rH [.n,.n] K)
def x86a (f : bitio_Reader_get_t R) : List Value → Heap → (Value → Heap → Option R) → Option R := jf 1 [.p] x86c f
variable {z0 z1 z2}
theorem x86e2 (k : Nat) (H : Heap) (K : XK R) : jE Try.prog An 87 (x86C) (x86J z0 z1 z2 k) x86s2 (sel [1,0,1,0,1,1,0,0] (bd Try.f86)) H K = mapT (fun g => x86c2 g H K) x86s2.ts (bitio_Reader_get_p2_b k) := by kernel_rfl
theorem x86e1 (k : Nat) (H : Heap) (K : XK R) : jE Try.prog An 87 (x86C) (x86J z0 z1 z2 k) x86s1 (sel [1,0,1,0,1,1,0] (bd Try.f86)) H K = mapT (fun g => x86c1 g H K) x86s1.ts (bitio_Reader_get_p1_b z2 k) := by kernel_rfl
theorem x86e0 (k : Nat) (H : Heap) (K : XK R) : jE Try.prog An 87 (x86C) (x86J z0 z1 z2 k) x86s0 (sel [1,0] (bd Try.f86)) H K = mapT (fun g => x86c0 g H K) x86s0.ts (bitio_Reader_get_p0_b z1 k) := by kernel_rfl
theorem x86e (k : Nat) (H : Heap) (K : Value → Heap → Option R) : fE Try.prog An (x86C) (x86J z0 z1 z2 k) x86t Try.f86 [.p] H K = mapT (fun g => x86c g H K) [.p] (bitio_Reader_get_b z0 k) := by kernel_rfl
theorem x86S (R : Type) (k : Nat) : CSound Try.prog (x86C (R := R)) := csound_nil
theorem x86j2 (R : Type) (k : Nat) : JS Try.prog 87 (x86a2 (bitio_Reader_get_p2 (R := R) k) k) x86s2.ls x86s2.out (sel [1,0,1,0,1,1,0,0] (bd Try.f86)) := pj (x86S R k) (x86J (bitio_Reader_get_p0 k) (bitio_Reader_get_p1 k) (bitio_Reader_get_p2 k) k) (by kernel_rfl) (A := True) trivial (by kernel_rfl) (fun _ _ => .trans (x86e2 _ _ _) (by kernel_rfl))
theorem x86j1 (R : Type) (k : Nat) : JS Try.prog 87 (x86a1 (bitio_Reader_get_p1 (R := R) k) k) x86s1.ls x86s1.out (sel [1,0,1,0,1,1,0] (bd Try.f86)) := pj (x86S R k) (x86J (bitio_Reader_get_p0 k) (bitio_Reader_get_p1 k) (bitio_Reader_get_p2 k) k) (by kernel_rfl) (A := JS Try.prog 87 (x86a2 (bitio_Reader_get_p2 (R := R) k) k) x86s2.ls x86s2.out (sel [1,0,1,0,1,1,0,0] (bd Try.f86)) ∧ True) ⟨x86j2 R k,trivial⟩ (by kernel_rfl) (fun _ _ => .trans (x86e1 _ _ _) (by kernel_rfl))
theorem x86j0 (R : Type) (k : Nat) : JS Try.prog 87 (x86a0 (bitio_Reader_get_p0 (R := R) k) k) x86s0.ls x86s0.out (sel [1,0] (bd Try.f86)) := pj (x86S R k) (x86J (bitio_Reader_get_p0 k) (bitio_Reader_get_p1 k) (bitio_Reader_get_p2 k) k) (by kernel_rfl) (A := JS Try.prog 87 (x86a1 (bitio_Reader_get_p1 (R := R) k) k) x86s1.ls x86s1.out (sel [1,0,1,0,1,1,0] (bd Try.f86)) ∧ True) ⟨x86j1 R k,trivial⟩ (by kernel_rfl) (fun _ _ => .trans (x86e0 _ _ _) (by kernel_rfl))
theorem x86cs (R : Type) (k : Nat) : ∀ args H K r,x86a (bitio_Reader_get k) args H K = some (r : R) → ∃ v H',Tri Try.prog 86 args H v H' ∧ K v H' = some r := fj (x86S R k) (x86J (bitio_Reader_get_p0 k) (bitio_Reader_get_p1 k) (bitio_Reader_get_p2 k) k) Try.func86 (by kernel_rfl) (A := JS Try.prog 87 (x86a0 (bitio_Reader_get_p0 (R := R) k) k) x86s0.ls x86s0.out (sel [1,0] (bd Try.f86)) ∧ True) ⟨x86j0 R k,trivial⟩ (by kernel_rfl) (fun _ _ => .trans (x86e _ _ _) (by kernel_rfl))
end
/-! ### bitio_Reader_Get: function 72 -/
abbrev bitio_Reader_Get_u (R : Type) : Type := Heap → (Int → Int → Heap → Option R) → Option R
abbrev bitio_Reader_Get_t (R : Type) : Type := Oa → bitio_Reader_Get_u R
section
variable {R : Type} (f0 : bitio_Reader_ok_t R) (f1 : bitio_Reader_get_t R)
def bitio_Reader_Get_b (k : Nat) : bitio_Reader_Get_t R := fun p1 H K =>
f0 p1 H fun t2 =>
bif (!t2) then (K 0 6 H)
 else (f1 p1 H fun n3 n4 H5 =>
K n3 n4 H5)
def bitio_Reader_Get (k : Nat) : bitio_Reader_Get_t R := bitio_Reader_Get_b bitio_Reader_ok (bitio_Reader_get k) k
def x72C : Tab R := tcons 85 (x85a f0) <| tcons 86 (x86a f1) <| fun _ _ _ _ => none
def x72J (k : Nat) : JTab R := fun _ _ _ _ => none
def x72t : AT := (.seq (.reg [0] []) (.seq (.seq (.reg [0,6] []) (.cond (.seq (.reg [2,3] []) .leaf) .leaf)) (.seq (.reg [2,3] []) .leaf)))
def x72c (g : bitio_Reader_Get_u R) (H : Heap) (K : Value → Heap → Option R) : Option R := g H (rH [.n,.n] K)
def x72a (f : bitio_Reader_Get_t R) : List Value → Heap → (Value → Heap → Option R) → Option R := jf 1 [.p] x72c f
variable {f0 f1}
theorem x72e (k : Nat) (H : Heap) (K : Value → Heap → Option R) : fE Try.prog An (x72C f0 f1) (x72J k) x72t Try.f72 [.p] H K = mapT (fun g => x72c g H K) [.p] (bitio_Reader_Get_b f0 f1 k) := by kernel_rfl
theorem x72S (R : Type) (k : Nat) : CSound Try.prog (x72C (R := R) bitio_Reader_ok (bitio_Reader_get k)) := csound_cons (x85cs R k) <| csound_cons (x86cs R k) <| csound_nil
theorem x72cs (R : Type) (k : Nat) : ∀ args H K r,x72a (bitio_Reader_Get k) args H K = some (r : R) → ∃ v H',Tri Try.prog 72 args H v H' ∧ K v H' = some r := fj (x72S R k) (x72J k) Try.func72 (by kernel_rfl) (A := True) trivial (by kernel_rfl) (fun _ _ => .trans (x72e _ _ _) (by kernel_rfl))
end
end Go.Proofs.Ytjajknghcbpblaa.Sh
