/- Lean functions that stand for Go's,over an explicit heap,and the proofs that they do (written by this claim's program sh2.py). -/
import Derived.Test.YtjajknghcbpblaaShA
import Derived.Test.YtjajknghcbpblaaSh7
import Derived.Test.YtjajknghcbpblaaSh8
set_option maxRecDepth 100000
set_option linter.unusedVariables false
set_option linter.unusedSimpArgs false
namespace Go.Proofs.Ytjajknghcbpblaa.Sh
open Go.Proofs.Ytjajknghcbpblaa.FW
/-! ### tagtree_Tree_Decode: function 87 -/
abbrev tagtree_Tree_Decode_p0_u (R : Type) : Type := Heap → (Oa → Int → Int → Int → Oa → Option R) → (Bool → Int → Option R) → Option R
abbrev tagtree_Tree_Decode_p0_t (R : Type) : Type := Oa → Int → Int → Int → Oa → tagtree_Tree_Decode_p0_u R
abbrev tagtree_Tree_Decode_p1_u (R : Type) : Type := Heap → (Oa → Int → Int → Int → Oa → Heap → Option R) → (Bool → Int → Heap → Option R) → Option R
abbrev tagtree_Tree_Decode_p1_t (R : Type) : Type := Oa → Int → Int → Int → Oa → tagtree_Tree_Decode_p1_u R
abbrev tagtree_Tree_Decode_u (R : Type) : Type := Heap → (Bool → Int → Heap → Option R) → Option R
abbrev tagtree_Tree_Decode_t (R : Type) : Type := Oa → Oa → Int → Int → Int → tagtree_Tree_Decode_u R
section
variable {R : Type} (f0 : tagtree_Tree_ok_t R) (f1 : bitio_Reader_Bits_t R) (f2 : tagtree_Tree_has_t R) (f3 : tagtree_Tree_walk_v103_t R) (f4 : tagtree_Tree_at_t R) (z0 : tagtree_Tree_Decode_p0_t R) (z1 : tagtree_Tree_Decode_p1_t R)
def tagtree_Tree_Decode_p0_b (k : Nat) : tagtree_Tree_Decode_p0_t R := fun p1 n2 n3 n4 p5 H KN KR =>
f0 p1 H fun t6 =>
bif (!t6) then (KR false 6)
 else (hnil p1 fun p7 =>
hfad 1 p7 fun p8 =>
ldB H p8 fun t9 =>
bif t9 then (KR false 6)
 else (KN p1 n2 n3 n4 p5))
def tagtree_Tree_Decode_p0 (k : Nat) : tagtree_Tree_Decode_p0_t R := tagtree_Tree_Decode_p0_b tagtree_Tree_ok k
def tagtree_Tree_Decode_p1_b (k : Nat) : tagtree_Tree_Decode_p1_t R := fun p1 n2 n3 n4 p5 H KN KR =>
f2 p1 n2 n3 H fun t6 H7 =>
bif (!t6) then (KR false 2 H7)
 else (bif decide (n4 < 0) then (KR false 2 H7)
 else (bif decide (n4 > 65536) then (KR false 2 H7)
 else (KN p1 n2 n3 n4 p5 H7)))
def tagtree_Tree_Decode_p1 (k : Nat) : tagtree_Tree_Decode_p1_t R := tagtree_Tree_Decode_p1_b tagtree_Tree_has k
def tagtree_Tree_Decode_b (k : Nat) : tagtree_Tree_Decode_t R := fun p1 p2 n3 n4 n5 H K =>
hal H [.pointer p2] fun p6 H7 =>
z0 p1 n3 n4 n5 p6 H7 (fun p15 n16 n17 n18 p19 =>
ldP H7 p19 fun p20 =>
f1 p20 0 H7 fun n21 n22 H23 =>
bif (n22 != 0) then (K false 6 H23)
 else (z1 p15 n16 n17 n18 p19 H23 (fun p31 n32 n33 n34 p35 H36 =>
f3 p31 n32 n33 n34 p35 H36 fun n37 H38 =>
bif (n37 != 0) then (K false n37 H38)
 else (hnil p31 fun p39 =>
hfad 2 p39 fun p40 =>
hst1 H38 p40 (.bool true) fun H41 =>
f4 p31 0 n32 n33 H41 fun p42 =>
hnil p42 fun p43 =>
hfad 2 p43 fun p44 =>
ldB H41 p44 fun t45 =>
bif t45 then (hnil p42 fun p46 =>
hfad 1 p46 fun p47 =>
ldI .i64 H41 p47 fun n48 =>
K (decide (n48 < n34)) 0 H41)
 else (K false 0 H41))) (fun t49 n50 H51 =>
K t49 n50 H51))) (fun t52 n53 =>
K t52 n53 H7)
def tagtree_Tree_Decode (k : Nat) : tagtree_Tree_Decode_t R := tagtree_Tree_Decode_b (bitio_Reader_Bits k) (tagtree_Tree_walk_v103 k) tagtree_Tree_at (tagtree_Tree_Decode_p0 k) (tagtree_Tree_Decode_p1 k) k
def x87C : Tab R := tcons 59 (x59a f0) <| tcons 92 (x92a f1) <| tcons 60 (x60a f2) <| tcons 82 (x82v103a f3) <| tcons 61 (x61a f4) <| fun _ _ _ _ => none
def x87s1 : PS := ⟨(.seq (.reg [0,2,3,4,6,44] []) (.cond (.seq (.reg [10,11] []) .leaf) .leaf)),[0,2,3,4,6],[.p,.n,.n,.n,.p],⟨[0,2,3,4,6],[],[10,11]⟩⟩
def x87c1 (g : tagtree_Tree_Decode_p1_u R) (H : Heap) (K : XK R) : Option R := g H (kH .normal [0,2,3,4,6] [.p,.n,.n,.n,.p] K) (kH .ret [10,11] [.b,.n] K)
def x87a1 (f : tagtree_Tree_Decode_p1_t R) : Nat → List Value → Heap → XK R → Option R := jp x87s1 x87c1 f
def x87s0 : PS := ⟨(.seq (.reg [0,2,3,4,6,24] []) (.cond (.seq (.reg [10,11] []) .leaf) .leaf)),[0,2,3,4,6],[.p,.n,.n,.n,.p],⟨[0,2,3,4,6],[],[10,11]⟩⟩
def x87c0 (g : tagtree_Tree_Decode_p0_u R) (H : Heap) (K : XK R) : Option R := g H (kN .normal [0,2,3,4,6] [.p,.n,.n,.n,.p] K H) (kN .ret [10,11] [.b,.n] K H)
def x87a0 (f : tagtree_Tree_Decode_p0_t R) : Nat → List Value → Heap → XK R → Option R := jp x87s0 x87c0 f
def x87J (k : Nat) : JTab R := tcons 0 (x87a0 z0 k) <| tcons 1 (x87a1 z1 k) <| fun _ _ _ _ => none
def x87t : AT := (.seq (.reg [0,2,3,4,6] []) (.seq (.opq 0 x87s0.ls x87s0.out x87s0.t) (.seq (.seq (.reg [0,2,3,4,6,13] []) (.seq (.reg [0,2,3,4,6,31] []) (.cond (.seq (.reg [10,11] []) .leaf) .leaf))) (.seq (.opq 1 x87s1.ls x87s1.out x87s1.t) (.seq (.reg [0,2,3,4,14] []) (.seq (.seq (.reg [0,2,3,4,14,52] []) (.cond (.seq (.reg [10,11] []) .leaf) .leaf)) (.seq (.reg [0,2,3,4] []) (.seq (.reg [4,15] []) (.seq (.reg [10,11] []) .leaf)))))))))
def x87c (g : tagtree_Tree_Decode_u R) (H : Heap) (K : Value → Heap → Option R) : Option R := g H (rH [.b,.n] K)
def x87a (f : tagtree_Tree_Decode_t R) : List Value → Heap → (Value → Heap → Option R) → Option R := jf 5 [.p,.p,.n,.n,.n] x87c f
variable {f0 f1 f2 f3 f4 z0 z1}
theorem x87e1 (k : Nat) (H : Heap) (K : XK R) : jE Try.prog An 73 (x87C f0 f1 f2 f3 f4) (x87J z0 z1 k) x87s1 (sel [1,1,1,0] (bd Try.f87)) H K = mapT (fun g => x87c1 g H K) x87s1.ts (tagtree_Tree_Decode_p1_b f2 k) := by kernel_rfl
theorem x87e0 (k : Nat) (H : Heap) (K : XK R) : jE Try.prog An 73 (x87C f0 f1 f2 f3 f4) (x87J z0 z1 k) x87s0 (sel [1,0] (bd Try.f87)) H K = mapT (fun g => x87c0 g H K) x87s0.ts (tagtree_Tree_Decode_p0_b f0 k) := by kernel_rfl
theorem x87e (k : Nat) (H : Heap) (K : Value → Heap → Option R) : fE Try.prog An (x87C f0 f1 f2 f3 f4) (x87J z0 z1 k) x87t Try.f87 [.p,.p,.n,.n,.n] H K = mapT (fun g => x87c g H K) [.p,.p,.n,.n,.n] (tagtree_Tree_Decode_b f1 f3 f4 z0 z1 k) := by kernel_rfl
theorem x87S (R : Type) (k : Nat) : CSound Try.prog (x87C (R := R) tagtree_Tree_ok (bitio_Reader_Bits k) tagtree_Tree_has (tagtree_Tree_walk_v103 k) tagtree_Tree_at) := csound_cons (x59cs R k) <| csound_cons (x92cs R k) <| csound_cons (x60cs R k) <| csound_cons (x82v103cs R k) <| csound_cons (x61cs R k) <| csound_nil
theorem x87j1 (R : Type) (k : Nat) : JS Try.prog 73 (x87a1 (tagtree_Tree_Decode_p1 (R := R) k) k) x87s1.ls x87s1.out (sel [1,1,1,0] (bd Try.f87)) := pj (x87S R k) (x87J (tagtree_Tree_Decode_p0 k) (tagtree_Tree_Decode_p1 k) k) (by kernel_rfl) (A := True) trivial (by kernel_rfl) (fun _ _ => .trans (x87e1 _ _ _) (by kernel_rfl))
theorem x87j0 (R : Type) (k : Nat) : JS Try.prog 73 (x87a0 (tagtree_Tree_Decode_p0 (R := R) k) k) x87s0.ls x87s0.out (sel [1,0] (bd Try.f87)) := pj (x87S R k) (x87J (tagtree_Tree_Decode_p0 k) (tagtree_Tree_Decode_p1 k) k) (by kernel_rfl) (A := True) trivial (by kernel_rfl) (fun _ _ => .trans (x87e0 _ _ _) (by kernel_rfl))
theorem x87cs (R : Type) (k : Nat) : ∀ args H K r,x87a (tagtree_Tree_Decode k) args H K = some (r : R) → ∃ v H',Tri Try.prog 87 args H v H' ∧ K v H' = some r := fj (x87S R k) (x87J (tagtree_Tree_Decode_p0 k) (tagtree_Tree_Decode_p1 k) k) Try.func87 (by kernel_rfl) (A := JS Try.prog 73 (x87a0 (tagtree_Tree_Decode_p0 (R := R) k) k) x87s0.ls x87s0.out (sel [1,0] (bd Try.f87)) ∧ JS Try.prog 73 (x87a1 (tagtree_Tree_Decode_p1 (R := R) k) k) x87s1.ls x87s1.out (sel [1,1,1,0] (bd Try.f87)) ∧ True) ⟨x87j0 R k,⟨x87j1 R k,trivial⟩⟩ (by kernel_rfl) (fun _ _ => .trans (x87e _ _ _) (by kernel_rfl))
end
/-! ### tagtree_Tree_Value: function 88 -/
abbrev tagtree_Tree_Value_p0_u (R : Type) : Type := Heap → (Oa → Int → Int → Heap → Option R) → (Int → Bool → Heap → Option R) → Option R
abbrev tagtree_Tree_Value_p0_t (R : Type) : Type := Oa → Int → Int → tagtree_Tree_Value_p0_u R
abbrev tagtree_Tree_Value_u (R : Type) : Type := Heap → (Int → Bool → Heap → Option R) → Option R
abbrev tagtree_Tree_Value_t (R : Type) : Type := Oa → Int → Int → tagtree_Tree_Value_u R
section
variable {R : Type} (f0 : tagtree_Tree_ok_t R) (f1 : tagtree_Tree_has_t R) (f2 : tagtree_Tree_at_t R) (z0 : tagtree_Tree_Value_p0_t R)
def tagtree_Tree_Value_p0_b (k : Nat) : tagtree_Tree_Value_p0_t R := fun p1 n2 n3 H KN KR =>
f0 p1 H fun t4 =>
bif (!t4) then (KR 0 false H)
 else (f1 p1 n2 n3 H fun t5 H6 =>
bif (!t5) then (KR 0 false H6)
 else (f2 p1 0 n2 n3 H6 fun p7 =>
hnil p7 fun p8 =>
hfad 2 p8 fun p9 =>
ldB H6 p9 fun t10 =>
bif (!t10) then (KR 0 false H6)
 else (KN p1 n2 n3 H6)))
def tagtree_Tree_Value_p0 (k : Nat) : tagtree_Tree_Value_p0_t R := tagtree_Tree_Value_p0_b tagtree_Tree_ok tagtree_Tree_has tagtree_Tree_at k
def tagtree_Tree_Value_b (k : Nat) : tagtree_Tree_Value_t R := fun p1 n2 n3 H K =>
z0 p1 n2 n3 H (fun p9 n10 n11 H12 =>
f2 p9 0 n10 n11 H12 fun p13 =>
hnil p13 fun p14 =>
hfad 1 p14 fun p15 =>
ldI .i64 H12 p15 fun n16 =>
K n16 true H12) (fun n17 t18 H19 =>
K n17 t18 H19)
def tagtree_Tree_Value (k : Nat) : tagtree_Tree_Value_t R := tagtree_Tree_Value_b tagtree_Tree_at (tagtree_Tree_Value_p0 k) k
def x88C : Tab R := tcons 59 (x59a f0) <| tcons 60 (x60a f1) <| tcons 61 (x61a f2) <| fun _ _ _ _ => none
def x88s0 : PS := ⟨(.seq (.reg [0,1,2,27] []) (.cond (.seq (.reg [6,7] []) .leaf) .leaf)),[0,1,2],[.p,.n,.n],⟨[0,1,2],[],[6,7]⟩⟩
def x88c0 (g : tagtree_Tree_Value_p0_u R) (H : Heap) (K : XK R) : Option R := g H (kH .normal [0,1,2] [.p,.n,.n] K) (kH .ret [6,7] [.n,.b] K)
def x88a0 (f : tagtree_Tree_Value_p0_t R) : Nat → List Value → Heap → XK R → Option R := jp x88s0 x88c0 f
def x88J (k : Nat) : JTab R := tcons 0 (x88a0 z0 k) <| fun _ _ _ _ => none
def x88t : AT := (.seq (.reg [0,1,2] []) (.seq (.opq 0 x88s0.ls x88s0.out x88s0.t) (.seq (.reg [6,7] []) .leaf)))
def x88c (g : tagtree_Tree_Value_u R) (H : Heap) (K : Value → Heap → Option R) : Option R := g H (rH [.n,.b] K)
def x88a (f : tagtree_Tree_Value_t R) : List Value → Heap → (Value → Heap → Option R) → Option R := jf 3 [.p,.n,.n] x88c f
variable {f0 f1 f2 z0}
theorem x88e0 (k : Nat) (H : Heap) (K : XK R) : jE Try.prog An 35 (x88C f0 f1 f2) (x88J z0 k) x88s0 (sel [1,0] (bd Try.f88)) H K = mapT (fun g => x88c0 g H K) x88s0.ts (tagtree_Tree_Value_p0_b f0 f1 f2 k) := by kernel_rfl
theorem x88e (k : Nat) (H : Heap) (K : Value → Heap → Option R) : fE Try.prog An (x88C f0 f1 f2) (x88J z0 k) x88t Try.f88 [.p,.n,.n] H K = mapT (fun g => x88c g H K) [.p,.n,.n] (tagtree_Tree_Value_b f2 z0 k) := by kernel_rfl
theorem x88S (R : Type) (k : Nat) : CSound Try.prog (x88C (R := R) tagtree_Tree_ok tagtree_Tree_has tagtree_Tree_at) := csound_cons (x59cs R k) <| csound_cons (x60cs R k) <| csound_cons (x61cs R k) <| csound_nil
theorem x88j0 (R : Type) (k : Nat) : JS Try.prog 35 (x88a0 (tagtree_Tree_Value_p0 (R := R) k) k) x88s0.ls x88s0.out (sel [1,0] (bd Try.f88)) := pj (x88S R k) (x88J (tagtree_Tree_Value_p0 k) k) (by kernel_rfl) (A := True) trivial (by kernel_rfl) (fun _ _ => .trans (x88e0 _ _ _) (by kernel_rfl))
theorem x88cs (R : Type) (k : Nat) : ∀ args H K r,x88a (tagtree_Tree_Value k) args H K = some (r : R) → ∃ v H',Tri Try.prog 88 args H v H' ∧ K v H' = some r := fj (x88S R k) (x88J (tagtree_Tree_Value_p0 k) k) Try.func88 (by kernel_rfl) (A := JS Try.prog 35 (x88a0 (tagtree_Tree_Value_p0 (R := R) k) k) x88s0.ls x88s0.out (sel [1,0] (bd Try.f88)) ∧ True) ⟨x88j0 R k,trivial⟩ (by kernel_rfl) (fun _ _ => .trans (x88e _ _ _) (by kernel_rfl))
end
/-! ### pkthead_State_contributes: function 73 -/
abbrev pkthead_State_contributes_p0_u (R : Type) : Type := (Oa → Oa → Oa → Oa → Option R) → (Bool → Int → Option R) → Option R
abbrev pkthead_State_contributes_p0_t (R : Type) : Type := Oa → Oa → Oa → Oa → Bool → Int → pkthead_State_contributes_p0_u R
abbrev pkthead_State_contributes_p1_u (R : Type) : Type := Heap → (Oa → Oa → Oa → Heap → Option R) → (Bool → Int → Heap → Option R) → Option R
abbrev pkthead_State_contributes_p1_t (R : Type) : Type := Oa → Oa → Oa → Oa → pkthead_State_contributes_p1_u R
abbrev pkthead_State_contributes_l2_r (R : Type) : Type := Oa → Oa → Oa → Int → Heap → Option R
abbrev pkthead_State_contributes_l2_q (R T : Type) : Type := (Heap → Option R) → (Bool → Int → Heap → Option R) → T
abbrev pkthead_State_contributes_l2_t (R : Type) : Type := pkthead_State_contributes_l2_q R (Nat → pkthead_State_contributes_l2_r R)
abbrev pkthead_State_contributes_u (R : Type) : Type := Heap → (Bool → Int → Heap → Option R) → Option R
abbrev pkthead_State_contributes_t (R : Type) : Type := Oa → Oa → Oa → pkthead_State_contributes_u R
section
variable {R : Type} (f0 : bitio_Reader_Get_t R) (f1 : tagtree_Tree_Decode_t R) (f2 : tagtree_Tree_Value_t R) (z0 : pkthead_State_contributes_p0_t R) (z1 : pkthead_State_contributes_p1_t R) (z2 : pkthead_State_contributes_l2_t R)
def pkthead_State_contributes_p0_b (k : Nat) : pkthead_State_contributes_p0_t R := fun p1 p2 p3 p4 t5 n6 KN KR =>
bif (n6 != 0) then (KR false n6)
 else (bif (!t5) then (KR false n6)
 else (KN p1 p2 p3 p4))
def pkthead_State_contributes_p0 (k : Nat) : pkthead_State_contributes_p0_t R := pkthead_State_contributes_p0_b k
def pkthead_State_contributes_p1_b (k : Nat) : pkthead_State_contributes_p1_t R := fun p1 p2 p3 p4 H KN KR =>
hfad 1 p4 fun p5 =>
ldP H p5 fun p6 =>
hnil p3 fun p7 =>
hfad 1 p7 fun p8 =>
ldI .i64 H p8 fun n9 =>
hnil p3 fun p10 =>
hfad 2 p10 fun p11 =>
ldI .i64 H p11 fun n12 =>
f2 p6 n9 n12 H fun n13 t14 H15 =>
bif t14 then (hnil p1 fun p16 =>
hfad 10 p16 fun p17 =>
ldI .i64 H15 p17 fun n18 =>
bif decide (n13 < n18) then (KR false 15 H15)
 else (KN p2 p3 p4 H15))
 else (KN p2 p3 p4 H15)
def pkthead_State_contributes_p1 (k : Nat) : pkthead_State_contributes_p1_t R := pkthead_State_contributes_p1_b (tagtree_Tree_Value k) k
def pkthead_State_contributes_l2_b (k : Nat) : pkthead_State_contributes_l2_q R (pkthead_State_contributes_l2_r R → pkthead_State_contributes_l2_r R) := fun KE0 KR rec p1 p2 p3 n4 H =>
hfad 0 p3 fun p5 =>
ldI .i64 H p5 fun n6 =>
bif decide (n4 ≤ n6) then (hfad 2 p3 fun p7 =>
ldP H p7 fun p8 =>
hnil p2 fun p9 =>
hfad 1 p9 fun p10 =>
ldI .i64 H p10 fun n11 =>
hnil p2 fun p12 =>
hfad 2 p12 fun p13 =>
ldI .i64 H p13 fun n14 =>
f1 p8 p1 n11 n14 n4 H fun t15 n16 H17 =>
bif (n16 != 0) then (KR false n16 H17)
 else (bif t15 then (hfad 2 p3 fun p18 =>
ldP H17 p18 fun p19 =>
hnil p2 fun p20 =>
hfad 1 p20 fun p21 =>
ldI .i64 H17 p21 fun n22 =>
hnil p2 fun p23 =>
hfad 2 p23 fun p24 =>
ldI .i64 H17 p24 fun n25 =>
f2 p19 n22 n25 H17 fun n26 t27 H28 =>
hfrz H28 p3 fun H29 =>
hfad 0 p3 fun p30 =>
bif isRo H29 p30 then (ldI .i64 H29 p30 fun n31 =>
hnil p2 fun p32 =>
hfad 3 p32 fun p33 =>
hst1 H29 p33 (.bool true) fun H34 =>
hnil p2 fun p35 =>
hfad 4 p35 fun p36 =>
hst1 H34 p36 (.int .i64 (IntKind.wrap .i64 (n31 - n26))) fun H37 =>
KR true 0 H37)
 else none)
 else (rec p1 p2 p3 (IntKind.wrap .i64 (n4 + 1)) H17)))
 else (KE0 H)
def pkthead_State_contributes_l2 (k : Nat) : pkthead_State_contributes_l2_t R
  | KE0,KR,0 => fun _ _ _ _ _ => none
  | KE0,KR,n + 1 => pkthead_State_contributes_l2_b (tagtree_Tree_Decode k) (tagtree_Tree_Value k) k KE0 KR (pkthead_State_contributes_l2 k KE0 KR n)
def pkthead_State_contributes_b (k : Nat) : pkthead_State_contributes_t R := fun p1 p2 p3 H K =>
hnil p3 fun p4 =>
hfad 3 p4 fun p5 =>
ldB H p5 fun t6 =>
bif t6 then (f0 p2 H fun n7 n8 H9 =>
K (n7 == 1) n8 H9)
 else (hnil p1 fun p10 =>
hfad 8 p10 fun p11 =>
ldL H p11 fun q12 l13 c14 =>
hnil p3 fun p15 =>
hfad 0 p15 fun p16 =>
ldI .i64 H p16 fun n17 =>
hidx q12 l13 n17 3 fun p18 =>
ldI .i64 H (pad p18 0) fun n19 =>
ldP H (pad p18 1) fun p20 =>
ldP H (pad p18 2) fun p21 =>
hal H [.int .i64 0,.pointer none,.pointer none] fun p22 H23 =>
hst H23 p22 [.int .i64 n19,.pointer p20,.pointer p21] fun H24 =>
hfad 1 p22 fun p25 =>
ldP H24 p25 fun p26 =>
hnil p3 fun p27 =>
hfad 1 p27 fun p28 =>
ldI .i64 H24 p28 fun n29 =>
hnil p3 fun p30 =>
hfad 2 p30 fun p31 =>
ldI .i64 H24 p31 fun n32 =>
hnil p1 fun p33 =>
hfad 10 p33 fun p34 =>
ldI .i64 H24 p34 fun n35 =>
f1 p26 p2 n29 n32 (IntKind.wrap .i64 (n35 + 1)) H24 fun t36 n37 H38 =>
z0 p1 p2 p3 p22 t36 n37 (fun p45 p46 p47 p48 =>
z1 p45 p46 p47 p48 H38 (fun p54 p55 p56 H57 =>
z2 (fun H60 =>
K false 15 H60) (fun t61 n62 H63 =>
K t61 n62 H63) k p54 p55 p56 1 H57) (fun t64 n65 H66 =>
K t64 n65 H66)) (fun t67 n68 =>
K t67 n68 H38))
def pkthead_State_contributes (k : Nat) : pkthead_State_contributes_t R := pkthead_State_contributes_b (bitio_Reader_Get k) (tagtree_Tree_Decode k) (pkthead_State_contributes_p0 k) (pkthead_State_contributes_p1 k) (pkthead_State_contributes_l2 k) k
def x73C : Tab R := tcons 72 (x72a f0) <| tcons 87 (x87a f1) <| tcons 88 (x88a f2) <| fun _ _ _ _ => none
def x73s2 : PS := ⟨(.seq (.seq (.reg [1,2,10,15,95] []) (.cond .leaf .leaf)) (.seq (.node (.seq (.reg [1,2,10,15,16,17] (ms [0,1,0,0,8,24,56,0,128,384,896,0,4095,8191,16383,16383,32767,131071])) (.seq (.seq (.reg [1,2,10,15,16,17,115] []) (.cond (.seq (.reg [6,7] []) .leaf) .leaf)) (.seq (.reg [1,2,10,15,117] []) (.cond (.seq (.reg [2,10,18] (ms [0,1,0,4,12,28,0,64,192,448,1023,2047,4095,4095,8191,32767])) (.seq (.frz 10 (.reg [] (ms [0,0,0,4,0,28,1,65,193,511,1023,2047]))) (.seq (.reg [6,7] []) .leaf))) .leaf))))) (.reg [1,2,10,15] []))),[1,2,10,15],[.p,.p,.p,.n],⟨[],[(0,[])],[6,7]⟩⟩
def x73c2 {T : Type} (g : pkthead_State_contributes_l2_q R T) (H : Heap) (K : XK R) : T := g (kH (.exit 0) [] [] K) (kH .ret [6,7] [.b,.n] K)
def x73a2 (f : pkthead_State_contributes_l2_t R) : Nat → List Value → Heap → XK R → Option R := jl x73s2 (L := pkthead_State_contributes_l2_t R) x73c2 pH f
def x73s1 : PS := ⟨(.seq (.reg [0,1,2,10,13,14] (ms [0,1,0,4,12,28,0,64,192,448,1023,2047,4095,4095,8191,32767])) (.seq (.reg [1,2,10,91] []) (.cond (.seq (.reg [6,7] []) .leaf) .leaf))),[0,1,2,10],[.p,.p,.p,.p],⟨[1,2,10],[],[6,7]⟩⟩
def x73c1 (g : pkthead_State_contributes_p1_u R) (H : Heap) (K : XK R) : Option R := g H (kH .normal [1,2,10] [.p,.p,.p] K) (kH .ret [6,7] [.b,.n] K)
def x73a1 (f : pkthead_State_contributes_p1_t R) : Nat → List Value → Heap → XK R → Option R := jp x73s1 x73c1 f
def x73s0 : PS := ⟨(.seq (.reg [0,1,2,10,12,67] []) (.cond (.seq (.reg [6,7] []) .leaf) .leaf)),[0,1,2,10,11,12],[.p,.p,.p,.p,.b,.n],⟨[0,1,2,10],[],[6,7]⟩⟩
def x73c0 (g : pkthead_State_contributes_p0_u R) (H : Heap) (K : XK R) : Option R := g (kN .normal [0,1,2,10] [.p,.p,.p,.p] K H) (kN .ret [6,7] [.b,.n] K H)
def x73a0 (f : pkthead_State_contributes_p0_t R) : Nat → List Value → Heap → XK R → Option R := jp x73s0 x73c0 f
def x73J (k : Nat) : JTab R := tcons 0 (x73a0 z0 k) <| tcons 1 (x73a1 z1 k) <| tcons 2 (x73a2 z2 k) <| fun _ _ _ _ => none
def x73t : AT := (.seq (.reg [0,1,2] []) (.seq (.seq (.reg [0,1,2,23] []) (.cond (.seq (.reg [8,9] []) (.seq (.reg [6,7] []) .leaf)) .leaf)) (.seq (.reg [0,1,2,10] (ms [0,1,3,7,0,16,48,112,255,511,0,2047])) (.seq (.reg [0,1,2,10,11,12] (ms [0,1,0,0,8,24,56,0,128,384,896,0,2048,6144,14336,30720,65535,131071,262143,262143,524287,2097151])) (.seq (.opq 0 x73s0.ls x73s0.out x73s0.t) (.seq (.opq 1 x73s1.ls x73s1.out x73s1.t) (.seq (.seq (.reg [1,2,10,15] []) (.node (.opq 2 x73s2.ls x73s2.out (.node x73s2.t)))) (.seq (.reg [6,7] []) .leaf))))))))
def x73c (g : pkthead_State_contributes_u R) (H : Heap) (K : Value → Heap → Option R) : Option R := g H (rH [.b,.n] K)
def x73a (f : pkthead_State_contributes_t R) : List Value → Heap → (Value → Heap → Option R) → Option R := jf 3 [.p,.p,.p] x73c f
variable {f0 f1 f2 z0 z1 z2}
theorem x73e2 (k n : Nat) (H : Heap) (K : XK R) : lE Try.prog An 142 (x73C f0 f1 f2) (x73J z0 z1 z2 k) x73s2 (sel [1,1,1,1,1,1,0,1,0,0] (bd Try.f73)) (x73a2 z2) n H K = mapT (fun g => pH g H) x73s2.ts (x73c2 (pkthead_State_contributes_l2_b f1 f2 k) H K (x73c2 z2 H K n)) := by kernel_rfl
theorem x73e1 (k : Nat) (H : Heap) (K : XK R) : jE Try.prog An 142 (x73C f0 f1 f2) (x73J z0 z1 z2 k) x73s1 (sel [1,1,1,1,1,0] (bd Try.f73)) H K = mapT (fun g => x73c1 g H K) x73s1.ts (pkthead_State_contributes_p1_b f2 k) := by kernel_rfl
theorem x73e0 (k : Nat) (H : Heap) (K : XK R) : jE Try.prog An 142 (x73C f0 f1 f2) (x73J z0 z1 z2 k) x73s0 (sel [1,1,1,1,0] (bd Try.f73)) H K = mapT (fun g => x73c0 g H K) x73s0.ts (pkthead_State_contributes_p0_b k) := by kernel_rfl
theorem x73e (k : Nat) (H : Heap) (K : Value → Heap → Option R) : fE Try.prog An (x73C f0 f1 f2) (x73J z0 z1 z2 k) x73t Try.f73 [.p,.p,.p] H K = mapT (fun g => x73c g H K) [.p,.p,.p] (pkthead_State_contributes_b f0 f1 z0 z1 z2 k) := by kernel_rfl
theorem x73S (R : Type) (k : Nat) : CSound Try.prog (x73C (R := R) (bitio_Reader_Get k) (tagtree_Tree_Decode k) (tagtree_Tree_Value k)) := csound_cons (x72cs R k) <| csound_cons (x87cs R k) <| csound_cons (x88cs R k) <| csound_nil
theorem x73j2 (R : Type) (k : Nat) : JS Try.prog 142 (x73a2 (pkthead_State_contributes_l2 (R := R) k) k) x73s2.ls x73s2.out (.loop (sel [1,1,1,1,1,1,0,1,0,0] (bd Try.f73))) := lj (x73S R k) (x73J (pkthead_State_contributes_p0 k) (pkthead_State_contributes_p1 k) (pkthead_State_contributes_l2 k) k) (by kernel_rfl) (A := True) trivial (by kernel_rfl) (fun _ _ => by kernel_rfl) (fun _ _ _ => .trans (x73e2 _ _ _ _) (by kernel_rfl)) k
theorem x73j1 (R : Type) (k : Nat) : JS Try.prog 142 (x73a1 (pkthead_State_contributes_p1 (R := R) k) k) x73s1.ls x73s1.out (sel [1,1,1,1,1,0] (bd Try.f73)) := pj (x73S R k) (x73J (pkthead_State_contributes_p0 k) (pkthead_State_contributes_p1 k) (pkthead_State_contributes_l2 k) k) (by kernel_rfl) (A := True) trivial (by kernel_rfl) (fun _ _ => .trans (x73e1 _ _ _) (by kernel_rfl))
theorem x73j0 (R : Type) (k : Nat) : JS Try.prog 142 (x73a0 (pkthead_State_contributes_p0 (R := R) k) k) x73s0.ls x73s0.out (sel [1,1,1,1,0] (bd Try.f73)) := pj (x73S R k) (x73J (pkthead_State_contributes_p0 k) (pkthead_State_contributes_p1 k) (pkthead_State_contributes_l2 k) k) (by kernel_rfl) (A := True) trivial (by kernel_rfl) (fun _ _ => .trans (x73e0 _ _ _) (by kernel_rfl))
theorem x73cs (R : Type) (k : Nat) : ∀ args H K r,x73a (pkthead_State_contributes k) args H K = some (r : R) → ∃ v H',Tri Try.prog 73 args H v H' ∧ K v H' = some r := fj (x73S R k) (x73J (pkthead_State_contributes_p0 k) (pkthead_State_contributes_p1 k) (pkthead_State_contributes_l2 k) k) Try.func73 (by kernel_rfl) (A := JS Try.prog 142 (x73a0 (pkthead_State_contributes_p0 (R := R) k) k) x73s0.ls x73s0.out (sel [1,1,1,1,0] (bd Try.f73)) ∧ JS Try.prog 142 (x73a1 (pkthead_State_contributes_p1 (R := R) k) k) x73s1.ls x73s1.out (sel [1,1,1,1,1,0] (bd Try.f73)) ∧ JS Try.prog 142 (x73a2 (pkthead_State_contributes_l2 (R := R) k) k) x73s2.ls x73s2.out (.loop (sel [1,1,1,1,1,1,0,1,0,0] (bd Try.f73))) ∧ True) ⟨x73j0 R k,⟨x73j1 R k,⟨x73j2 R k,trivial⟩⟩⟩ (by kernel_rfl) (fun _ _ => .trans (x73e _ _ _) (by kernel_rfl))
end
/-! ### bitio_Reader_count: function 106 -/
abbrev bitio_Reader_count_l0_r (R : Type) : Type := Oa → Int → Int → Int → Heap → Option R
abbrev bitio_Reader_count_l0_q (R T : Type) : Type := (Int → Int → Heap → Option R) → T
abbrev bitio_Reader_count_l0_t (R : Type) : Type := bitio_Reader_count_l0_q R (Nat → bitio_Reader_count_l0_r R)
abbrev bitio_Reader_count_u (R : Type) : Type := Heap → (Int → Int → Heap → Option R) → Option R
abbrev bitio_Reader_count_t (R : Type) : Type := Oa → Int → Int → bitio_Reader_count_u R
section
variable {R : Type} (f0 : bitio_Reader_get_t R) (z0 : bitio_Reader_count_l0_t R)
def bitio_Reader_count_l0_b (k : Nat) : bitio_Reader_count_l0_q R (bitio_Reader_count_l0_r R → bitio_Reader_count_l0_r R) := fun KR rec p1 n2 n3 n4 H =>
f0 p1 H fun n5 n6 H7 =>
bif (n6 != 0) then (KR 0 n6 H7)
 else (bif (n5 != n2) then (KR n4 0 H7)
 else (bif ((IntKind.wrap .i64 (n4 + 1)) == n3) then (KR 0 8 H7)
 else (rec p1 n2 n3 (IntKind.wrap .i64 (n4 + 1)) H7)))
def bitio_Reader_count_l0 (k : Nat) : bitio_Reader_count_l0_t R
  | KR,0 => fun _ _ _ _ _ => none
  | KR,n + 1 => bitio_Reader_count_l0_b (bitio_Reader_get k) k KR (bitio_Reader_count_l0 k KR n)
def bitio_Reader_count_b (k : Nat) : bitio_Reader_count_t R := fun p1 n2 n3 H K =>
z0 (fun n6 n7 H8 =>
K n6 n7 H8) k p1 n2 n3 0 H
def bitio_Reader_count (k : Nat) : bitio_Reader_count_t R := bitio_Reader_count_b (bitio_Reader_count_l0 k) k
def x106C : Tab R := tcons 86 (x86a f0) <| fun _ _ _ _ => none
def x106s0 : PS := ⟨(.node (.seq (.reg [0,1,2,8,9,10] []) (.seq (.seq (.reg [0,1,2,8,9,10,17] []) (.cond (.seq (.reg [6,7] []) .leaf) .leaf)) (.seq (.seq (.reg [0,1,2,8,21] []) (.cond (.seq (.reg [6,7] []) .leaf) .leaf)) (.seq (.reg [0,1,2,8] []) (.seq (.reg [0,1,2,8,27] []) (.cond (.seq (.reg [6,7] []) .leaf) .leaf))))))),[0,1,2,8],[.p,.n,.n,.n],⟨[],[],[6,7]⟩⟩
def x106c0 {T : Type} (g : bitio_Reader_count_l0_q R T) (H : Heap) (K : XK R) : T := g (kH .ret [6,7] [.n,.n] K)
def x106a0 (f : bitio_Reader_count_l0_t R) : Nat → List Value → Heap → XK R → Option R := jl x106s0 (L := bitio_Reader_count_l0_t R) x106c0 pH f
def x106J (k : Nat) : JTab R := tcons 0 (x106a0 z0 k) <| fun _ _ _ _ => none
def x106t : AT := (.seq (.reg [0,1,2] []) (.seq (.reg [0,1,2,8] []) (.node (.opq 0 x106s0.ls x106s0.out (.node x106s0.t)))))
def x106c (g : bitio_Reader_count_u R) (H : Heap) (K : Value → Heap → Option R) : Option R := g H (rH [.n,.n] K)
def x106a (f : bitio_Reader_count_t R) : List Value → Heap → (Value → Heap → Option R) → Option R := jf 3 [.p,.n,.n] x106c f
variable {f0 z0}
theorem x106e0 (k n : Nat) (H : Heap) (K : XK R) : lE Try.prog An 28 (x106C f0) (x106J z0 k) x106s0 (sel [1,1,0,0] (bd Try.f106)) (x106a0 z0) n H K = mapT (fun g => pH g H) x106s0.ts (x106c0 (bitio_Reader_count_l0_b f0 k) H K (x106c0 z0 H K n)) := by kernel_rfl
theorem x106e (k : Nat) (H : Heap) (K : Value → Heap → Option R) : fE Try.prog An (x106C f0) (x106J z0 k) x106t Try.f106 [.p,.n,.n] H K = mapT (fun g => x106c g H K) [.p,.n,.n] (bitio_Reader_count_b z0 k) := by kernel_rfl
theorem x106S (R : Type) (k : Nat) : CSound Try.prog (x106C (R := R) (bitio_Reader_get k)) := csound_cons (x86cs R k) <| csound_nil
theorem x106j0 (R : Type) (k : Nat) : JS Try.prog 28 (x106a0 (bitio_Reader_count_l0 (R := R) k) k) x106s0.ls x106s0.out (.loop (sel [1,1,0,0] (bd Try.f106))) := lj (x106S R k) (x106J (bitio_Reader_count_l0 k) k) (by kernel_rfl) (A := True) trivial (by kernel_rfl) (fun _ _ => by kernel_rfl) (fun _ _ _ => .trans (x106e0 _ _ _ _) (by kernel_rfl)) k
theorem x106cs (R : Type) (k : Nat) : ∀ args H K r,x106a (bitio_Reader_count k) args H K = some (r : R) → ∃ v H',Tri Try.prog 106 args H v H' ∧ K v H' = some r := fj (x106S R k) (x106J (bitio_Reader_count_l0 k) k) Try.func106 (by kernel_rfl) (A := JS Try.prog 28 (x106a0 (bitio_Reader_count_l0 (R := R) k) k) x106s0.ls x106s0.out (.loop (sel [1,1,0,0] (bd Try.f106))) ∧ True) ⟨x106j0 R k,trivial⟩ (by kernel_rfl) (fun _ _ => .trans (x106e _ _ _) (by kernel_rfl))
end
/-! ### bitio_Reader_Gamma_1: function 105 -/
abbrev bitio_Reader_Gamma_1_u (R : Type) : Type := Heap → (Int → Int → Heap → Option R) → Option R
abbrev bitio_Reader_Gamma_1_t (R : Type) : Type := Oa → bitio_Reader_Gamma_1_u R
section
variable {R : Type} (f0 : bitio_Reader_count_t R) (f1 : bitio_Reader_bits_t R)
def bitio_Reader_Gamma_1_b (k : Nat) : bitio_Reader_Gamma_1_t R := fun p1 H K =>
ldP H p1 fun p2 =>
f0 p2 0 32 H fun n3 n4 H5 =>
bif (n4 != 0) then (K 0 n4 H5)
 else (ldP H5 p1 fun p6 =>
f1 p6 n3 H5 fun n7 n8 H9 =>
hbin .shl .i64 1 (IntKind.wrap .u64 n3) fun n10 =>
hbin .or .i64 n10 n7 fun n11 =>
K n11 n8 H9)
def bitio_Reader_Gamma_1 (k : Nat) : bitio_Reader_Gamma_1_t R := bitio_Reader_Gamma_1_b (bitio_Reader_count k) (bitio_Reader_bits k) k
def x105C : Tab R := tcons 106 (x106a f0) <| tcons 107 (x107a f1) <| fun _ _ _ _ => none
def x105J (k : Nat) : JTab R := fun _ _ _ _ => none
def x105t : AT := (.seq (.reg [0] []) (.seq (.reg [0,3,4] []) (.seq (.seq (.reg [0,3,4,12] []) (.cond (.seq (.reg [1,2] []) .leaf) .leaf)) (.seq (.reg [3,4,5] []) (.seq (.reg [1,2] []) .leaf)))))
def x105c (g : bitio_Reader_Gamma_1_u R) (H : Heap) (K : Value → Heap → Option R) : Option R := g H (rH [.n,.n] K)
def x105a (f : bitio_Reader_Gamma_1_t R) : List Value → Heap → (Value → Heap → Option R) → Option R := jf 1 [.p] x105c f
variable {f0 f1}
theorem x105e (k : Nat) (H : Heap) (K : Value → Heap → Option R) : fE Try.prog An (x105C f0 f1) (x105J k) x105t Try.f105 [.p] H K = mapT (fun g => x105c g H K) [.p] (bitio_Reader_Gamma_1_b f0 f1 k) := by kernel_rfl
theorem x105S (R : Type) (k : Nat) : CSound Try.prog (x105C (R := R) (bitio_Reader_count k) (bitio_Reader_bits k)) := csound_cons (x106cs R k) <| csound_cons (x107cs R k) <| csound_nil
theorem x105cs (R : Type) (k : Nat) : ∀ args H K r,x105a (bitio_Reader_Gamma_1 k) args H K = some (r : R) → ∃ v H',Tri Try.prog 105 args H v H' ∧ K v H' = some r := fj (x105S R k) (x105J k) Try.func105 (by kernel_rfl) (A := True) trivial (by kernel_rfl) (fun _ _ => .trans (x105e _ _ _) (by kernel_rfl))
end
/-! ### bitio_Reader_whole_v105: function 104 -/
abbrev bitio_Reader_whole_v105_u (R : Type) : Type := Heap → (Int → Int → Heap → Option R) → Option R
abbrev bitio_Reader_whole_v105_t (R : Type) : Type := Oa → Oa → bitio_Reader_whole_v105_u R
section
variable {R : Type} (f0 : bitio_Reader_Gamma_1_t R)
def bitio_Reader_whole_v105_b (k : Nat) : bitio_Reader_whole_v105_t R := fun p1 p2 H K =>
hnil p1 fun p3 =>
hfad 2 p3 fun p4 =>
ldI .i64 H p4 fun n5 =>
hnil p1 fun p6 =>
hfad 3 p6 fun p7 =>
ldI .i64 H p7 fun n8 =>
f0 p2 H fun n9 n10 H11 =>
bif (n10 != 0) then (hnil p1 fun p12 =>
hfad 2 p12 fun p13 =>
hst1 H11 p13 (.int .i64 n5) fun H14 =>
hnil p1 fun p15 =>
hfad 3 p15 fun p16 =>
hst1 H14 p16 (.int .i64 n8) fun H17 =>
K 0 n10 H17)
 else (K n9 0 H11)
def bitio_Reader_whole_v105 (k : Nat) : bitio_Reader_whole_v105_t R := bitio_Reader_whole_v105_b (bitio_Reader_Gamma_1 k) k
def x104v105C : Tab R := tcons 105 (x105a f0) <| fun _ _ _ _ => none
def x104v105J (k : Nat) : JTab R := fun _ _ _ _ => none
def x104v105t : AT := (.seq (.reg [0,1] []) (.seq (.reg [0,1,6,7] (ms [0,1,3,7,0,16,48,112,15,511])) (.seq (.reg [0,6,7,8,9] []) (.seq (.seq (.reg [0,6,7,8,9,24] []) (.cond (.seq (.reg [9] []) (.seq (.reg [4,5] []) .leaf)) .leaf)) (.seq (.reg [4,5] []) .leaf)))))
def x104v105c (g : bitio_Reader_whole_v105_u R) (H : Heap) (K : Value → Heap → Option R) : Option R := g H (rH [.n,.n] K)
def x104v105a (f : bitio_Reader_whole_v105_t R) : List Value → Heap → (Value → Heap → Option R) → Option R := jf 2 [.p,(.f 105 1),.p] x104v105c f
variable {f0}
theorem x104v105e (k : Nat) (H : Heap) (K : Value → Heap → Option R) : fE Try.prog An (x104v105C f0) (x104v105J k) x104v105t Try.f104 [.p,(.f 105 1),.p] H K = mapT (fun g => x104v105c g H K) [.p,(.f 105 1),.p] (bitio_Reader_whole_v105_b f0 k) := by kernel_rfl
theorem x104v105S (R : Type) (k : Nat) : CSound Try.prog (x104v105C (R := R) (bitio_Reader_Gamma_1 k)) := csound_cons (x105cs R k) <| csound_nil
theorem x104v105cs (R : Type) (k : Nat) : ∀ args H K r,x104v105a (bitio_Reader_whole_v105 k) args H K = some (r : R) → ∃ v H',Tri Try.prog 104 args H v H' ∧ K v H' = some r := fj (x104v105S R k) (x104v105J k) Try.func104 (by kernel_rfl) (A := True) trivial (by kernel_rfl) (fun _ _ => .trans (x104v105e _ _ _) (by kernel_rfl))
end
/-! ### bitio_Reader_Gamma: function 89 -/
abbrev bitio_Reader_Gamma_u (R : Type) : Type := Heap → (Int → Int → Heap → Option R) → Option R
abbrev bitio_Reader_Gamma_t (R : Type) : Type := Oa → bitio_Reader_Gamma_u R
section
variable {R : Type} (f0 : bitio_Reader_ok_t R) (f1 : bitio_Reader_whole_v105_t R)
def bitio_Reader_Gamma_b (k : Nat) : bitio_Reader_Gamma_t R := fun p1 H K =>
hal H [.pointer p1] fun p2 H3 =>
ldP H3 p2 fun p4 =>
f0 p4 H3 fun t5 =>
bif (!t5) then (K 0 6 H3)
 else (ldP H3 p2 fun p6 =>
f1 p6 p2 H3 fun n7 n8 H9 =>
K n7 n8 H9)
def bitio_Reader_Gamma (k : Nat) : bitio_Reader_Gamma_t R := bitio_Reader_Gamma_b bitio_Reader_ok (bitio_Reader_whole_v105 k) k
def x89C : Tab R := tcons 85 (x85a f0) <| tcons 104 (x104v105a f1) <| fun _ _ _ _ => none
def x89J (k : Nat) : JTab R := fun _ _ _ _ => none
def x89t : AT := (.seq (.reg [1] []) (.seq (.seq (.reg [1,6] []) (.cond (.seq (.reg [2,3] []) .leaf) .leaf)) (.seq (.reg [2,3] []) .leaf)))
def x89c (g : bitio_Reader_Gamma_u R) (H : Heap) (K : Value → Heap → Option R) : Option R := g H (rH [.n,.n] K)
def x89a (f : bitio_Reader_Gamma_t R) : List Value → Heap → (Value → Heap → Option R) → Option R := jf 1 [.p] x89c f
variable {f0 f1}
theorem x89e (k : Nat) (H : Heap) (K : Value → Heap → Option R) : fE Try.prog An (x89C f0 f1) (x89J k) x89t Try.f89 [.p] H K = mapT (fun g => x89c g H K) [.p] (bitio_Reader_Gamma_b f0 f1 k) := by kernel_rfl
theorem x89S (R : Type) (k : Nat) : CSound Try.prog (x89C (R := R) bitio_Reader_ok (bitio_Reader_whole_v105 k)) := csound_cons (x85cs R k) <| csound_cons (x104v105cs R k) <| csound_nil
theorem x89cs (R : Type) (k : Nat) : ∀ args H K r,x89a (bitio_Reader_Gamma k) args H K = some (r : R) → ∃ v H',Tri Try.prog 89 args H v H' ∧ K v H' = some r := fj (x89S R k) (x89J k) Try.func89 (by kernel_rfl) (A := True) trivial (by kernel_rfl) (fun _ _ => .trans (x89e _ _ _) (by kernel_rfl))
end
/-! ### bitio_Reader_Unary_1: function 108 -/
abbrev bitio_Reader_Unary_1_u (R : Type) : Type := Heap → (Int → Int → Heap → Option R) → Option R
abbrev bitio_Reader_Unary_1_t (R : Type) : Type := Oa → Oa → bitio_Reader_Unary_1_u R
section
variable {R : Type} (f0 : bitio_Reader_count_t R)
def bitio_Reader_Unary_1_b (k : Nat) : bitio_Reader_Unary_1_t R := fun p1 p2 H K =>
ldP H p1 fun p3 =>
ldI .i64 H p2 fun n4 =>
f0 p3 1 (IntKind.wrap .i64 (n4 + 1)) H fun n5 n6 H7 =>
K n5 n6 H7
def bitio_Reader_Unary_1 (k : Nat) : bitio_Reader_Unary_1_t R := bitio_Reader_Unary_1_b (bitio_Reader_count k) k
def x108C : Tab R := tcons 106 (x106a f0) <| fun _ _ _ _ => none
def x108J (k : Nat) : JTab R := fun _ _ _ _ => none
def x108t : AT := (.seq (.reg [0,1] []) (.seq (.reg [2,3] []) .leaf))
def x108c (g : bitio_Reader_Unary_1_u R) (H : Heap) (K : Value → Heap → Option R) : Option R := g H (rH [.n,.n] K)
def x108a (f : bitio_Reader_Unary_1_t R) : List Value → Heap → (Value → Heap → Option R) → Option R := jf 2 [.p,.p] x108c f
variable {f0}
theorem x108e (k : Nat) (H : Heap) (K : Value → Heap → Option R) : fE Try.prog An (x108C f0) (x108J k) x108t Try.f108 [.p,.p] H K = mapT (fun g => x108c g H K) [.p,.p] (bitio_Reader_Unary_1_b f0 k) := by kernel_rfl
theorem x108S (R : Type) (k : Nat) : CSound Try.prog (x108C (R := R) (bitio_Reader_count k)) := csound_cons (x106cs R k) <| csound_nil
theorem x108cs (R : Type) (k : Nat) : ∀ args H K r,x108a (bitio_Reader_Unary_1 k) args H K = some (r : R) → ∃ v H',Tri Try.prog 108 args H v H' ∧ K v H' = some r := fj (x108S R k) (x108J k) Try.func108 (by kernel_rfl) (A := True) trivial (by kernel_rfl) (fun _ _ => .trans (x108e _ _ _) (by kernel_rfl))
end
end Go.Proofs.Ytjajknghcbpblaa.Sh
