/- Lean functions that stand for Go's,over an explicit heap,and the proofs that they do (written by this claim's program shallow.py). -/
import Derived.Test.YtblkejnciinaeaaSh0
import Derived.Test.YtblkejnciinaeaaSh4
set_option maxRecDepth 100000
set_option linter.unusedVariables false
set_option linter.unusedSimpArgs false
namespace Go.Proofs.Ytblkejnciinaeaa.Sh
open Go.Proofs.Ytblkejnciinaeaa.FW
/-! ### tagtree_Tree_Decode_1: function 53 -/
abbrev tagtree_Tree_Decode_1_t (R : Type) : Type := Int → Int → Bool → Oa → Heap → (Int → Int → Heap → Option R) → Option R

def tagtree_Tree_Decode_1_b {R : Type} (bitio_Reader_Get : bitio_Reader_Get_t R) (k : Nat) (n675 : Int) (n676 : Int) (t677 : Bool) (p678 : Oa) (H : Heap) (K : Int → Int → Heap → Option R) : Option R :=
hal H [.int .i64 n675,.int .i64 n676,.bool t677] fun p679 H680 =>
ldP H680 p678 fun p681 =>
bitio_Reader_Get p681 H680 fun n682 n683 H684 =>
K n682 n683 H684

def tagtree_Tree_Decode_1 {R : Type} (k : Nat) (n675 : Int) (n676 : Int) (t677 : Bool) (p678 : Oa) (H : Heap) (K : Int → Int → Heap → Option R) : Option R := tagtree_Tree_Decode_1_b (bitio_Reader_Get k) k n675 n676 t677 p678 H K

def tagtree_Tree_Decode_1_Ct {R : Type} (bitio_Reader_Get : bitio_Reader_Get_t R) : Tab R := tcons 54 (bitio_Reader_Get_ca bitio_Reader_Get) <| fun _ _ _ _ => none
def tagtree_Tree_Decode_1_C (R : Type) (k : Nat) : Tab R := tagtree_Tree_Decode_1_Ct (bitio_Reader_Get k)
theorem tagtree_Tree_Decode_1_S (R : Type) (k : Nat) : CSound Try.prog (tagtree_Tree_Decode_1_C R k) := csound_cons (bitio_Reader_Get_cs R k) <| csound_nil
def tagtree_Tree_Decode_1_Jt {R : Type} (k : Nat) : JTab R := fun _ _ _ _ => none
def tagtree_Tree_Decode_1_J (R : Type) (k : Nat) : JTab R := tagtree_Tree_Decode_1_Jt k
def tagtree_Tree_Decode_1_at : AT := (.seq (.reg [1] []) (.seq (.reg [3,4] []) .leaf))
def tagtree_Tree_Decode_1_f : IFn := ⟨9,[.t 3,.t 4],(.seq (.reg [⟨some 2,.box (.t 0),none⟩,
⟨some 3,.mov (.c (Go.Value.int Go.IntKind.i64 0)),none⟩,
⟨some 4,.mov (.c (Go.Value.int Go.IntKind.i64 0)),none⟩] [1]) (.seq (.reg [⟨some 5,.ld (.sc .ptr) (.t 1),none⟩,
⟨some 6,.call 54 [(.t 5)] (.tup [(.sc (.int .i64)),(.sc (.int .i64))]),none⟩,
⟨some 7,.ext 0 (.t 6),none⟩,
⟨some 8,.ext 1 (.t 6),none⟩,
⟨some 3,.mov (.t 7),none⟩,
⟨some 4,.mov (.t 8),none⟩] [3,4]) .ret))⟩
def tagtree_Tree_Decode_1_ca {R : Type} (f : tagtree_Tree_Decode_1_t R) (args : List Value) (H : Heap) (K : Value → Heap → Option R) : Option R :=
  match args with
  | [.agg ⟨[.int .i64 n675,.int .i64 n676,.bool t677]⟩,.pointer p678] => f n675 n676 t677 p678 H (fun n1513 n1514 H => K (.tuple ⟨[.int .i64 n1513,.int .i64 n1514]⟩) H)
  | _ => none
def tagtree_Tree_Decode_1_c (R : Type) (k : Nat) (args : List Value) (H : Heap) (K : Value → Heap → Option R) : Option R := tagtree_Tree_Decode_1_ca (tagtree_Tree_Decode_1 k) args H K
theorem tagtree_Tree_Decode_1_e {R : Type} (bitio_Reader_Get : bitio_Reader_Get_t R) (k : Nat) (n675 : Int) (n676 : Int) (t677 : Bool) (p678 : Oa) (H : Heap) (K : Value → Heap → Option R) : evF (tagtree_Tree_Decode_1_Ct bitio_Reader_Get) (tagtree_Tree_Decode_1_Jt k) tagtree_Tree_Decode_1_f [.agg ⟨[.int .i64 n675,.int .i64 n676,.bool t677]⟩,.pointer p678] H K = tagtree_Tree_Decode_1_b bitio_Reader_Get k n675 n676 t677 p678 H (fun n1513 n1514 H => K (.tuple ⟨[.int .i64 n1513,.int .i64 n1514]⟩) H) := by kernel_rfl
theorem tagtree_Tree_Decode_1_cs (R : Type) (k : Nat) : ∀ args H K r,tagtree_Tree_Decode_1_c R k args H K = some r → ∃ v H',Tri Try.prog 53 args H v H' ∧ K v H' = some r := by
  intro args H K r h
  unfold tagtree_Tree_Decode_1_c tagtree_Tree_Decode_1_ca at h
  split at h
  · exact evF_ok (C := tagtree_Tree_Decode_1_C R k) (an := An) (t := tagtree_Tree_Decode_1_at) (fn := Try.f53) (c := (Try.f53.body.getD .skip)) (ifn := tagtree_Tree_Decode_1_f) (tagtree_Tree_Decode_1_S R k) (tagtree_Tree_Decode_1_J R k) Try.func53 (by kernel_rfl) (by kernel_rfl) (And.intro True.intro (And.intro True.intro True.intro)) rfl (Eq.trans (tagtree_Tree_Decode_1_e (bitio_Reader_Get k) k _ _ _ _ H K) h)
  · cases h
/-! ### tagtree_Tree_walk_v53: function 44 -/
abbrev tagtree_Tree_walk_v53_p2_t (R : Type) : Type := Oa → Int → Int → Int → Oa → Oa → Nat → Nat → Int → Oa → Heap → (Oa → Int → Int → Int → Oa → Oa → Nat → Nat → Int → Oa → Option R) → (Oa → Int → Int → Int → Oa → Oa → Nat → Nat → Int → Oa → Option R) → Option R
def tagtree_Tree_walk_v53_p2_b {R : Type} (k : Nat) (p618 : Oa) (n619 : Int) (n620 : Int) (n621 : Int) (p622 : Oa) (q623 : Oa) (l624 : Nat) (c625 : Nat) (n626 : Int) (p627 : Oa) (H : Heap) (KE2 : Oa → Int → Int → Int → Oa → Oa → Nat → Nat → Int → Oa → Option R) (KN : Oa → Int → Int → Int → Oa → Oa → Nat → Nat → Int → Oa → Option R) : Option R :=
hfad 1 p627 fun p628 =>
ldI .i64 H p628 fun n629 =>
bif decide (n629 < n621) then (hfad 2 p627 fun p630 =>
ldB H p630 fun t631 =>
bif (!t631) then (KN p618 n619 n620 n621 p622 q623 l624 c625 n626 p627)
 else (KE2 p618 n619 n620 n621 p622 q623 l624 c625 n626 p627))
 else (KE2 p618 n619 n620 n621 p622 q623 l624 c625 n626 p627)
def tagtree_Tree_walk_v53_p2 {R : Type} (k : Nat) (p618 : Oa) (n619 : Int) (n620 : Int) (n621 : Int) (p622 : Oa) (q623 : Oa) (l624 : Nat) (c625 : Nat) (n626 : Int) (p627 : Oa) (H : Heap) (KE2 : Oa → Int → Int → Int → Oa → Oa → Nat → Nat → Int → Oa → Option R) (KN : Oa → Int → Int → Int → Oa → Oa → Nat → Nat → Int → Oa → Option R) : Option R := tagtree_Tree_walk_v53_p2_b k p618 n619 n620 n621 p622 q623 l624 c625 n626 p627 H KE2 KN

abbrev tagtree_Tree_walk_v53_l1_t (R : Type) : Type := (Oa → Int → Int → Int → Oa → Oa → Nat → Nat → Int → Oa → Heap → Option R) → (Int → Heap → Option R) → Nat → Oa → Int → Int → Int → Oa → Oa → Nat → Nat → Int → Oa → Heap → Option R
def tagtree_Tree_walk_v53_l1_b {R : Type} (tagtree_Tree_walk_v53_p2 : tagtree_Tree_walk_v53_p2_t R) (tagtree_Tree_Decode_1 : tagtree_Tree_Decode_1_t R) (rec : Oa → Int → Int → Int → Oa → Oa → Nat → Nat → Int → Oa → Heap → Option R) (KE2 : Oa → Int → Int → Int → Oa → Oa → Nat → Nat → Int → Oa → Heap → Option R) (KR : Int → Heap → Option R) (k : Nat) (p608 : Oa) (n609 : Int) (n610 : Int) (n611 : Int) (p612 : Oa) (q613 : Oa) (l614 : Nat) (c615 : Nat) (n616 : Int) (p617 : Oa) (H : Heap) : Option R :=
tagtree_Tree_walk_v53_p2 p608 n609 n610 n611 p612 q613 l614 c615 n616 p617 H (fun p652 n653 n654 n655 p656 q657 l658 c659 n660 p661 =>
KE2 p652 n653 n654 n655 p656 q657 l658 c659 n660 p661 H) (fun p662 n663 n664 n665 p666 q667 l668 c669 n670 p671 =>
ldI .i64 H (pad p671 0) fun n672 =>
ldI .i64 H (pad p671 1) fun n673 =>
ldB H (pad p671 2) fun t674 =>
tagtree_Tree_Decode_1 n672 n673 t674 p666 H fun n675 n676 H677 =>
bif (n676 != 0) then (KR n676 H677)
 else (bif (n675 == 1) then (hfad 2 p671 fun p678 =>
hst1 H677 p678 (.bool true) fun H679 =>
rec p662 n663 n664 n665 p666 q667 l668 c669 n670 p671 H679)
 else (hfad 1 p671 fun p680 =>
ldI .i64 H677 p680 fun n681 =>
hfad 1 p671 fun p682 =>
hst1 H677 p682 (.int .i64 (IntKind.wrap .i64 (n681 + 1))) fun H683 =>
rec p662 n663 n664 n665 p666 q667 l668 c669 n670 p671 H683)))
def tagtree_Tree_walk_v53_l1 {R : Type} (k : Nat) (KE2 : Oa → Int → Int → Int → Oa → Oa → Nat → Nat → Int → Oa → Heap → Option R) (KR : Int → Heap → Option R) : Nat → Oa → Int → Int → Int → Oa → Oa → Nat → Nat → Int → Oa → Heap → Option R
  | 0,_,_,_,_,_,_,_,_,_,_,_ => none
  | n + 1,p608,n609,n610,n611,p612,q613,l614,c615,n616,p617,H => tagtree_Tree_walk_v53_l1_b (tagtree_Tree_walk_v53_p2 k) (tagtree_Tree_Decode_1 k) (tagtree_Tree_walk_v53_l1 k KE2 KR n) KE2 KR k p608 n609 n610 n611 p612 q613 l614 c615 n616 p617 H

abbrev tagtree_Tree_walk_v53_l0_t (R : Type) : Type := (Oa → Int → Int → Oa → Nat → Nat → Heap → Option R) → (Int → Heap → Option R) → Nat → Oa → Int → Int → Int → Oa → Oa → Nat → Nat → Int → Int → Heap → Option R
def tagtree_Tree_walk_v53_l0_b {R : Type} (tagtree_Tree_at : tagtree_Tree_at_t R) (tagtree_Tree_walk_v53_l1 : tagtree_Tree_walk_v53_l1_t R) (rec : Oa → Int → Int → Int → Oa → Oa → Nat → Nat → Int → Int → Heap → Option R) (KE0 : Oa → Int → Int → Oa → Nat → Nat → Heap → Option R) (KR : Int → Heap → Option R) (k : Nat) (p586 : Oa) (n587 : Int) (n588 : Int) (n589 : Int) (p590 : Oa) (q591 : Oa) (l592 : Nat) (c593 : Nat) (n594 : Int) (n595 : Int) (H : Heap) : Option R :=
bif decide (n595 ≥ 0) then (tagtree_Tree_at p586 n595 n587 n588 H fun p596 =>
hnil p596 fun p597 =>
ldI .i64 H (pad p597 0) fun n598 =>
ldI .i64 H (pad p597 1) fun n599 =>
ldB H (pad p597 2) fun t600 =>
hal H [.int .i64 0,.int .i64 0,.bool false] fun p601 H602 =>
hst H602 p601 [.int .i64 n598,.int .i64 n599,.bool t600] fun H603 =>
hfad 1 p601 fun p604 =>
ldI .i64 H603 p604 fun n605 =>
hfad 1 p601 fun p606 =>
hst1 H603 p606 (.int .i64 (imx n605 n594)) fun H607 =>
tagtree_Tree_walk_v53_l1 (fun p695 n696 n697 n698 p699 q700 l701 c702 n703 p704 H705 =>
hfad 1 p704 fun p706 =>
ldI .i64 H705 p706 fun n707 =>
ldI .i64 H705 (pad p704 0) fun n708 =>
ldI .i64 H705 (pad p704 1) fun n709 =>
ldB H705 (pad p704 2) fun t710 =>
hidx q700 l701 n703 3 fun p711 =>
hst H705 p711 [.int .i64 n708,.int .i64 n709,.bool t710] fun H712 =>
rec p695 n696 n697 n698 p699 q700 l701 c702 n707 (IntKind.wrap .i64 (n703 - 1)) H712) (fun n713 H714 =>
KR n713 H714) k p586 n587 n588 n589 p590 q591 l592 c593 n595 p601 H607)
 else (KE0 p586 n587 n588 q591 l592 c593 H)
def tagtree_Tree_walk_v53_l0 {R : Type} (k : Nat) (KE0 : Oa → Int → Int → Oa → Nat → Nat → Heap → Option R) (KR : Int → Heap → Option R) : Nat → Oa → Int → Int → Int → Oa → Oa → Nat → Nat → Int → Int → Heap → Option R
  | 0,_,_,_,_,_,_,_,_,_,_,_ => none
  | n + 1,p586,n587,n588,n589,p590,q591,l592,c593,n594,n595,H => tagtree_Tree_walk_v53_l0_b tagtree_Tree_at (tagtree_Tree_walk_v53_l1 k) (tagtree_Tree_walk_v53_l0 k KE0 KR n) KE0 KR k p586 n587 n588 n589 p590 q591 l592 c593 n594 n595 H

abbrev tagtree_Tree_walk_v53_l3_t (R : Type) : Type := (Heap → Option R) → Nat → Oa → Int → Int → Oa → Nat → Nat → Int → Int → Heap → Option R
def tagtree_Tree_walk_v53_l3_b {R : Type} (tagtree_Tree_at : tagtree_Tree_at_t R) (rec : Oa → Int → Int → Oa → Nat → Nat → Int → Int → Heap → Option R) (KE4 : Heap → Option R) (k : Nat) (p729 : Oa) (n730 : Int) (n731 : Int) (q732 : Oa) (l733 : Nat) (c734 : Nat) (n735 : Int) (n736 : Int) (H : Heap) : Option R :=
bif decide (n736 < n735) then (hidx q732 l733 n736 3 fun p737 =>
ldI .i64 H (pad p737 0) fun n738 =>
ldI .i64 H (pad p737 1) fun n739 =>
ldB H (pad p737 2) fun t740 =>
hal H [.int .i64 0,.int .i64 0,.bool false] fun p741 H742 =>
hst H742 p741 [.int .i64 n738,.int .i64 n739,.bool t740] fun H743 =>
tagtree_Tree_at p729 n736 n730 n731 (roH H743) fun p744 =>
ldI .i64 (H743 ++ (roH H743).drop H743.length) (pad p741 0) fun n745 =>
ldI .i64 (H743 ++ (roH H743).drop H743.length) (pad p741 1) fun n746 =>
ldB (H743 ++ (roH H743).drop H743.length) (pad p741 2) fun t747 =>
hnil p744 fun p748 =>
hst (H743 ++ (roH H743).drop H743.length) p748 [.int .i64 n745,.int .i64 n746,.bool t747] fun H749 =>
rec p729 n730 n731 q732 l733 c734 n735 (IntKind.wrap .i64 (n736 + 1)) H749)
 else (KE4 H)
def tagtree_Tree_walk_v53_l3 {R : Type} (k : Nat) (KE4 : Heap → Option R) : Nat → Oa → Int → Int → Oa → Nat → Nat → Int → Int → Heap → Option R
  | 0,_,_,_,_,_,_,_,_,_ => none
  | n + 1,p729,n730,n731,q732,l733,c734,n735,n736,H => tagtree_Tree_walk_v53_l3_b tagtree_Tree_at (tagtree_Tree_walk_v53_l3 k KE4 n) KE4 k p729 n730 n731 q732 l733 c734 n735 n736 H

abbrev tagtree_Tree_walk_v53_t (R : Type) : Type := Oa → Int → Int → Int → Oa → Heap → (Int → Heap → Option R) → Option R

def tagtree_Tree_walk_v53_b {R : Type} (tagtree_Tree_walk_v53_l0 : tagtree_Tree_walk_v53_l0_t R) (tagtree_Tree_walk_v53_l3 : tagtree_Tree_walk_v53_l3_t R) (k : Nat) (p567 : Oa) (n568 : Int) (n569 : Int) (n570 : Int) (p571 : Oa) (H : Heap) (K : Int → Heap → Option R) : Option R :=
hnil p567 fun p572 =>
hfad 0 p572 fun p573 =>
ldL H p573 fun q574 l575 c576 =>
hmk [.int .i64 0,.int .i64 0,.bool false] 24 H ((l575 : Nat) : Int) ((l575 : Nat) : Int) fun q577 l578 c579 H580 =>
hnil p567 fun p581 =>
hfad 0 p581 fun p582 =>
ldL H580 p582 fun q583 l584 c585 =>
tagtree_Tree_walk_v53_l0 (fun p722 n723 n724 q725 l726 c727 H728 =>
tagtree_Tree_walk_v53_l3 (fun H750 =>
K 0 H750) k p722 n723 n724 q725 l726 c727 ((l726 : Nat) : Int) 0 H728) (fun n751 H752 =>
K n751 H752) k p567 n568 n569 n570 p571 q577 l578 c579 0 (IntKind.wrap .i64 (((l584 : Nat) : Int) - 1)) H580

def tagtree_Tree_walk_v53 {R : Type} (k : Nat) (p567 : Oa) (n568 : Int) (n569 : Int) (n570 : Int) (p571 : Oa) (H : Heap) (K : Int → Heap → Option R) : Option R := tagtree_Tree_walk_v53_b (tagtree_Tree_walk_v53_l0 k) (tagtree_Tree_walk_v53_l3 k) k p567 n568 n569 n570 p571 H K

def tagtree_Tree_walk_v53_Ct {R : Type} (tagtree_Tree_at : tagtree_Tree_at_t R) (tagtree_Tree_Decode_1 : tagtree_Tree_Decode_1_t R) : Tab R := tcons 40 (tagtree_Tree_at_ca tagtree_Tree_at) <| tcons 53 (tagtree_Tree_Decode_1_ca tagtree_Tree_Decode_1) <| fun _ _ _ _ => none
def tagtree_Tree_walk_v53_C (R : Type) (k : Nat) : Tab R := tagtree_Tree_walk_v53_Ct tagtree_Tree_at (tagtree_Tree_Decode_1 k)
theorem tagtree_Tree_walk_v53_S (R : Type) (k : Nat) : CSound Try.prog (tagtree_Tree_walk_v53_C R k) := csound_cons (tagtree_Tree_at_cs R k) <| csound_cons (tagtree_Tree_Decode_1_cs R k) <| csound_nil
def tagtree_Tree_walk_v53_aa0 {R : Type} (f : tagtree_Tree_walk_v53_l0_t R) (n : Nat) (vals : List Value) (H : Heap) (K : Xit → Env → Heap → Option R) : Option R :=
  match vals with
  | [.pointer p586,.int .i64 n587,.int .i64 n588,.int .i64 n589,.func (.func 53) ⟨[]⟩ ⟨[.pointer p590]⟩,.slice q591 l592 c593,.int .i64 n594,.int .i64 n595] => f (fun p1515 n1516 n1517 q1518 l1519 c1520 H => K (.exit 0) [(0,.pointer p1515),(1,.int .i64 n1516),(2,.int .i64 n1517),(11,.slice q1518 l1519 c1520)] H) (fun n1521 H => K .ret [(10,.int .i64 n1521)] H) n p586 n587 n588 n589 p590 q591 l592 c593 n594 n595 H
  | _ => none
def tagtree_Tree_walk_v53_a0 (R : Type) (k n : Nat) (vals : List Value) (H : Heap) (K : Xit → Env → Heap → Option R) : Option R := tagtree_Tree_walk_v53_aa0 (tagtree_Tree_walk_v53_l0 k) n vals H K
def tagtree_Tree_walk_v53_aa1 {R : Type} (f : tagtree_Tree_walk_v53_l1_t R) (n : Nat) (vals : List Value) (H : Heap) (K : Xit → Env → Heap → Option R) : Option R :=
  match vals with
  | [.pointer p608,.int .i64 n609,.int .i64 n610,.int .i64 n611,.func (.func 53) ⟨[]⟩ ⟨[.pointer p612]⟩,.slice q613 l614 c615,.int .i64 n616,.pointer p617] => f (fun p1522 n1523 n1524 n1525 p1526 q1527 l1528 c1529 n1530 p1531 H => K (.exit 2) [(0,.pointer p1522),(1,.int .i64 n1523),(2,.int .i64 n1524),(3,.int .i64 n1525),(4,.func (.func 53) #[] ⟨[.pointer p1526]⟩),(11,.slice q1527 l1528 c1529),(13,.int .i64 n1530),(14,.pointer p1531)] H) (fun n1532 H => K .ret [(10,.int .i64 n1532)] H) n p608 n609 n610 n611 p612 q613 l614 c615 n616 p617 H
  | _ => none
def tagtree_Tree_walk_v53_a1 (R : Type) (k n : Nat) (vals : List Value) (H : Heap) (K : Xit → Env → Heap → Option R) : Option R := tagtree_Tree_walk_v53_aa1 (tagtree_Tree_walk_v53_l1 k) n vals H K
def tagtree_Tree_walk_v53_aa2 {R : Type} (f : tagtree_Tree_walk_v53_p2_t R) (n : Nat) (vals : List Value) (H : Heap) (K : Xit → Env → Heap → Option R) : Option R :=
  match vals with
  | [.pointer p618,.int .i64 n619,.int .i64 n620,.int .i64 n621,.func (.func 53) ⟨[]⟩ ⟨[.pointer p622]⟩,.slice q623 l624 c625,.int .i64 n626,.pointer p627] => f p618 n619 n620 n621 p622 q623 l624 c625 n626 p627 H (fun p1533 n1534 n1535 n1536 p1537 q1538 l1539 c1540 n1541 p1542 => K (.exit 2) [(0,.pointer p1533),(1,.int .i64 n1534),(2,.int .i64 n1535),(3,.int .i64 n1536),(4,.func (.func 53) #[] ⟨[.pointer p1537]⟩),(11,.slice q1538 l1539 c1540),(13,.int .i64 n1541),(14,.pointer p1542)] H) (fun p1543 n1544 n1545 n1546 p1547 q1548 l1549 c1550 n1551 p1552 => K .normal [(0,.pointer p1543),(1,.int .i64 n1544),(2,.int .i64 n1545),(3,.int .i64 n1546),(4,.func (.func 53) #[] ⟨[.pointer p1547]⟩),(11,.slice q1548 l1549 c1550),(13,.int .i64 n1551),(14,.pointer p1552)] H)
  | _ => none
def tagtree_Tree_walk_v53_a2 (R : Type) (k n : Nat) (vals : List Value) (H : Heap) (K : Xit → Env → Heap → Option R) : Option R := tagtree_Tree_walk_v53_aa2 (tagtree_Tree_walk_v53_p2 k) n vals H K
def tagtree_Tree_walk_v53_aa3 {R : Type} (f : tagtree_Tree_walk_v53_l3_t R) (n : Nat) (vals : List Value) (H : Heap) (K : Xit → Env → Heap → Option R) : Option R :=
  match vals with
  | [.pointer p729,.int .i64 n730,.int .i64 n731,.slice q732 l733 c734,.int .i64 n735,.int .i64 n736] => f (fun H => K (.exit 4) [] H) n p729 n730 n731 q732 l733 c734 n735 n736 H
  | _ => none
def tagtree_Tree_walk_v53_a3 (R : Type) (k n : Nat) (vals : List Value) (H : Heap) (K : Xit → Env → Heap → Option R) : Option R := tagtree_Tree_walk_v53_aa3 (tagtree_Tree_walk_v53_l3 k) n vals H K
def tagtree_Tree_walk_v53_Jt {R : Type} (k : Nat) (tagtree_Tree_walk_v53_l0 : tagtree_Tree_walk_v53_l0_t R) (tagtree_Tree_walk_v53_l1 : tagtree_Tree_walk_v53_l1_t R) (tagtree_Tree_walk_v53_p2 : tagtree_Tree_walk_v53_p2_t R) (tagtree_Tree_walk_v53_l3 : tagtree_Tree_walk_v53_l3_t R) : JTab R := tcons 0 (tagtree_Tree_walk_v53_aa0 tagtree_Tree_walk_v53_l0 k) <| tcons 1 (tagtree_Tree_walk_v53_aa1 tagtree_Tree_walk_v53_l1 k) <| tcons 2 (tagtree_Tree_walk_v53_aa2 tagtree_Tree_walk_v53_p2 k) <| tcons 3 (tagtree_Tree_walk_v53_aa3 tagtree_Tree_walk_v53_l3 k) <| fun _ _ _ _ => none
def tagtree_Tree_walk_v53_J (R : Type) (k : Nat) : JTab R := tagtree_Tree_walk_v53_Jt k (tagtree_Tree_walk_v53_l0 k) (tagtree_Tree_walk_v53_l1 k) (tagtree_Tree_walk_v53_p2 k) (tagtree_Tree_walk_v53_l3 k)
def tagtree_Tree_walk_v53_at : AT := (.seq (.reg [0,1,2,3,4] []) (.seq (.reg [0,1,2,3,4,11] []) (.seq (.reg [0,1,2,3,4,11,12] []) (.seq (.seq (.reg [0,1,2,3,4,11,12,13] []) (.node (.opq 0 [0,1,2,3,4,11,12,13] ⟨[],[(0,[0,1,2,11])],[10]⟩ (.node (.seq (.seq (.reg [0,1,2,3,4,11,12,13,32] []) (.cond .leaf .leaf)) (.seq (.node (.seq (.reg [0,1,2,3,4,11,12,13,14] []) (.seq (.reg [0,1,2,3,4,11,13,14] []) (.seq (.node (.opq 1 [0,1,2,3,4,11,13,14] ⟨[],[(2,[0,1,2,3,4,11,13,14])],[10]⟩ (.node (.seq (.opq 2 [0,1,2,3,4,11,13,14] ⟨[0,1,2,3,4,11,13,14],[(2,[0,1,2,3,4,11,13,14])],[]⟩ (.seq (.reg [0,1,2,3,4,11,13,14,55] []) (.cond .leaf .leaf))) (.node (.seq (.reg [0,1,2,3,4,11,13,14,15,16] []) (.seq (.seq (.reg [0,1,2,3,4,11,13,14,15,16,63] []) (.cond (.seq (.reg [10] []) .leaf) .leaf)) (.seq (.reg [0,1,2,3,4,11,13,14,66] []) (.cond (.reg [0,1,2,3,4,11,13,14] []) (.reg [0,1,2,3,4,11,13,14] [])))))))))) (.reg [0,1,2,3,4,11,12,13] [[],[],[],[2],[],[2,3],[0,1,2,3,4,5],[0,1,2,3,4,5,6]]))))) (.reg [0,1,2,3,4,11,12,13] []))))))) (.seq (.seq (.reg [0,1,2,78,79,80] []) (.node (.opq 3 [0,1,2,78,79,80] ⟨[],[(4,[])],[]⟩ (.node (.seq (.reg [0,1,2,78,79,80,81] []) (.seq (.cond .leaf .leaf) (.seq (.node (.seq (.reg [0,1,2,17,18,78,79,80] []) (.reg [0,1,2,78,79,80] [[],[],[],[],[0,1,2,3],[],[0,1,2,3,4,5],[0,1,2,3,4,5,6]]))) (.reg [0,1,2,78,79,80] [])))))))) (.seq (.reg [10] []) .leaf))))))
def tagtree_Tree_walk_v53_i3 : IC := (.seq (.reg [⟨some 81,.cmp .lss (.t 80) (.t 79),none⟩] [0,1,2,78,79,80,81]) (.seq (.cond (.t 81) .skip (.exit 4)) (.seq (.block 5 (.seq (.reg [⟨some 82,.mov (.t 80),none⟩,
⟨some 83,.ids 3 (.t 78) (.t 80),none⟩,
⟨some 84,.ld (.agg [(.int .i64),(.int .i64),.bool]) (.t 83),none⟩,
⟨some 18,.alc [.int .i64 0,.int .i64 0,.bool false],none⟩,
⟨some 17,.mov (.t 82),none⟩,
⟨none,.st 3 (.t 18) (.t 84),none⟩] [0,1,2,17,18,78,79,80]) (.reg [⟨some 85,.mov (.t 0),none⟩,
⟨some 86,.mov (.t 17),none⟩,
⟨some 87,.mov (.t 1),none⟩,
⟨some 88,.mov (.t 2),none⟩,
⟨some 89,.calf 40 [(.t 85),(.t 86),(.t 87),(.t 88)] [] (.one (.sc .ptr)),none⟩,
⟨some 90,.ld (.agg [(.int .i64),(.int .i64),.bool]) (.t 18),none⟩,
⟨some 91,.nilc (.t 89),none⟩,
⟨none,.st 3 (.t 91) (.t 90),none⟩] [0,1,2,78,79,80]))) (.reg [⟨some 92,.bin .add .i64 (.t 80) (.c (Go.Value.int Go.IntKind.i64 1)),none⟩,
⟨some 80,.mov (.t 92),none⟩] [0,1,2,78,79,80]))))
def tagtree_Tree_walk_v53_i2 : IC := (.seq (.reg [⟨some 47,.fad 1 (.t 14),none⟩,
⟨some 48,.ld (.sc (.int .i64)) (.t 47),none⟩,
⟨some 49,.mov (.t 3),none⟩,
⟨some 50,.cmp .lss (.t 48) (.t 49),none⟩,
⟨some 51,.mov (.t 50),none⟩,
⟨some 52,.fad 2 (.t 14),some (51,true)⟩,
⟨some 53,.ld (.sc .bool) (.t 52),some (51,true)⟩,
⟨some 54,.lnot (.t 53),some (51,true)⟩,
⟨some 55,.pick (.t 51) (.t 54) (.c (Go.Value.bool false)),none⟩] [0,1,2,3,4,11,13,14,55]) (.cond (.t 55) .skip (.exit 2)))
def tagtree_Tree_walk_v53_i1 : IC := (.seq (.opq 2 [0,1,2,3,4,11,13,14] tagtree_Tree_walk_v53_i2) (.block 3 (.seq (.reg [⟨some 57,.mov (.t 4),none⟩,
⟨some 58,.ld (.agg [(.int .i64),(.int .i64),.bool]) (.t 14),none⟩,
⟨some 59,.calv (.t 57) [(.t 58)] (.tup [(.sc (.int .i64)),(.sc (.int .i64))]),none⟩,
⟨some 56,.mov (.t 59),none⟩,
⟨some 60,.ext 0 (.t 56),none⟩,
⟨some 61,.ext 1 (.t 56),none⟩,
⟨some 15,.mov (.t 60),none⟩,
⟨some 16,.mov (.t 61),none⟩] [0,1,2,3,4,11,13,14,15,16]) (.seq (.seq (.reg [⟨some 62,.mov (.t 16),none⟩,
⟨some 63,.cmp .neq (.t 62) (.c (Go.Value.int Go.IntKind.i64 0)),none⟩] [0,1,2,3,4,11,13,14,15,16,63]) (.cond (.t 63) (.seq (.reg [⟨some 64,.mov (.t 16),none⟩,
⟨some 10,.mov (.t 64),none⟩] [10]) .ret) .skip)) (.seq (.reg [⟨some 65,.mov (.t 15),none⟩,
⟨some 66,.cmp .eql (.t 65) (.c (Go.Value.int Go.IntKind.i64 1)),none⟩] [0,1,2,3,4,11,13,14,66]) (.cond (.t 66) (.reg [⟨some 67,.fad 2 (.t 14),none⟩,
⟨none,.st 1 (.t 67) (.c (Go.Value.bool true)),none⟩] [0,1,2,3,4,11,13,14]) (.reg [⟨some 68,.fad 1 (.t 14),none⟩,
⟨some 69,.ld (.sc (.int .i64)) (.t 68),none⟩,
⟨some 70,.bin .add .i64 (.t 69) (.c (Go.Value.int Go.IntKind.i64 1)),none⟩,
⟨some 71,.fad 1 (.t 14),none⟩,
⟨none,.st 1 (.t 71) (.t 70),none⟩] [0,1,2,3,4,11,13,14])))))))
def tagtree_Tree_walk_v53_i0 : IC := (.seq (.seq (.reg [⟨some 31,.mov (.t 13),none⟩,
⟨some 32,.cmp .geq (.t 31) (.c (Go.Value.int Go.IntKind.i64 0)),none⟩] [0,1,2,3,4,11,12,13,32]) (.cond (.t 32) .skip (.exit 0))) (.seq (.block 1 (.seq (.reg [⟨some 35,.mov (.t 0),none⟩,
⟨some 36,.mov (.t 13),none⟩,
⟨some 37,.mov (.t 1),none⟩,
⟨some 38,.mov (.t 2),none⟩,
⟨some 39,.call 40 [(.t 35),(.t 36),(.t 37),(.t 38)] (.one (.sc .ptr)),none⟩,
⟨some 40,.nilc (.t 39),none⟩,
⟨some 41,.ld (.agg [(.int .i64),(.int .i64),.bool]) (.t 40),none⟩,
⟨some 14,.alc [.int .i64 0,.int .i64 0,.bool false],none⟩,
⟨none,.st 3 (.t 14) (.t 41),none⟩] [0,1,2,3,4,11,12,13,14]) (.seq (.reg [⟨some 42,.fad 1 (.t 14),none⟩,
⟨some 43,.ld (.sc (.int .i64)) (.t 42),none⟩,
⟨some 44,.mov (.t 12),none⟩,
⟨some 45,.mx (.t 43) (.t 44),none⟩,
⟨some 46,.fad 1 (.t 14),none⟩,
⟨none,.st 1 (.t 46) (.t 45),none⟩] [0,1,2,3,4,11,13,14]) (.seq (.block 2 (.opq 1 [0,1,2,3,4,11,13,14] (.loop tagtree_Tree_walk_v53_i1))) (.reg [⟨some 72,.mov (.t 11),none⟩,
⟨some 73,.mov (.t 13),none⟩,
⟨some 74,.fad 1 (.t 14),none⟩,
⟨some 75,.ld (.sc (.int .i64)) (.t 74),none⟩,
⟨some 76,.ld (.agg [(.int .i64),(.int .i64),.bool]) (.t 14),none⟩,
⟨some 12,.mov (.t 75),none⟩,
⟨some 77,.ids 3 (.t 72) (.t 73),none⟩,
⟨none,.st 3 (.t 77) (.t 76),none⟩] [0,1,2,3,4,11,12,13]))))) (.reg [⟨some 33,.mov (.t 13),none⟩,
⟨some 34,.bin .sub .i64 (.t 33) (.c (Go.Value.int Go.IntKind.i64 1)),none⟩,
⟨some 13,.mov (.t 34),none⟩] [0,1,2,3,4,11,12,13])))
def tagtree_Tree_walk_v53_f : IFn := ⟨93,[.t 10],(.seq (.reg [⟨some 10,.mov (.c (Go.Value.int Go.IntKind.i64 0)),none⟩] [0,1,2,3,4]) (.seq (.reg [⟨some 19,.mov (.t 0),none⟩,
⟨some 20,.nilc (.t 19),none⟩,
⟨some 21,.fad 0 (.t 20),none⟩,
⟨some 22,.ld (.sc .slc) (.t 21),none⟩,
⟨some 23,.len false (.t 22),none⟩,
⟨some 24,.mks [.int .i64 0,.int .i64 0,.bool false] 24 (.t 23) (.t 23),none⟩,
⟨some 11,.mov (.t 24),none⟩] [0,1,2,3,4,11]) (.seq (.reg [⟨some 12,.mov (.c (Go.Value.int Go.IntKind.i64 0)),none⟩] [0,1,2,3,4,11,12]) (.seq (.seq (.reg [⟨some 25,.mov (.t 0),none⟩,
⟨some 26,.nilc (.t 25),none⟩,
⟨some 27,.fad 0 (.t 26),none⟩,
⟨some 28,.ld (.sc .slc) (.t 27),none⟩,
⟨some 29,.len false (.t 28),none⟩,
⟨some 30,.bin .sub .i64 (.t 29) (.c (Go.Value.int Go.IntKind.i64 1)),none⟩,
⟨some 13,.mov (.t 30),none⟩] [0,1,2,3,4,11,12,13]) (.block 0 (.opq 0 [0,1,2,3,4,11,12,13] (.loop tagtree_Tree_walk_v53_i0)))) (.seq (.seq (.reg [⟨some 78,.mov (.t 11),none⟩,
⟨some 79,.len false (.t 78),none⟩,
⟨some 80,.mov (.c (Go.Value.int Go.IntKind.i64 0)),none⟩] [0,1,2,78,79,80]) (.block 4 (.opq 3 [0,1,2,78,79,80] (.loop tagtree_Tree_walk_v53_i3)))) (.seq (.reg [⟨some 10,.mov (.c (Go.Value.int Go.IntKind.i64 0)),none⟩] [10]) .ret))))))⟩
theorem tagtree_Tree_walk_v53_e3 {R : Type} (tagtree_Tree_at : tagtree_Tree_at_t R) (tagtree_Tree_Decode_1 : tagtree_Tree_Decode_1_t R) (tagtree_Tree_walk_v53_l0 : tagtree_Tree_walk_v53_l0_t R) (tagtree_Tree_walk_v53_l1 : tagtree_Tree_walk_v53_l1_t R) (tagtree_Tree_walk_v53_p2 : tagtree_Tree_walk_v53_p2_t R) (tagtree_Tree_walk_v53_l3 : tagtree_Tree_walk_v53_l3_t R) (k n : Nat) (p729 : Oa) (n730 : Int) (n731 : Int) (q732 : Oa) (l733 : Nat) (c734 : Nat) (n735 : Int) (n736 : Int) (H : Heap) (K : Xit → Env → Heap → Option R) : evJ (tagtree_Tree_walk_v53_Ct tagtree_Tree_at tagtree_Tree_Decode_1) (tagtree_Tree_walk_v53_Jt k tagtree_Tree_walk_v53_l0 tagtree_Tree_walk_v53_l1 tagtree_Tree_walk_v53_p2 tagtree_Tree_walk_v53_l3) tagtree_Tree_walk_v53_i3 (List.zip [0,1,2,78,79,80] [.pointer p729,.int .i64 n730,.int .i64 n731,.slice q732 l733 c734,.int .i64 n735,.int .i64 n736]) H (fun x e' H' => match x with | .normal => tagtree_Tree_walk_v53_aa3 tagtree_Tree_walk_v53_l3 n ((clean e' [0,1,2,78,79,80]).map (·.2)) H' K | x => K x (clean e' ((⟨[],[(4,[])],[]⟩ : Out).of x)) H') = tagtree_Tree_walk_v53_l3_b tagtree_Tree_at (tagtree_Tree_walk_v53_l3 (fun H => K (.exit 4) [] H) n) (fun H => K (.exit 4) [] H) k p729 n730 n731 q732 l733 c734 n735 n736 H := by kernel_rfl
theorem tagtree_Tree_walk_v53_j3 {R : Type} (k : Nat) : JS Try.prog 93 (tagtree_Tree_walk_v53_a3 R k k) [0,1,2,78,79,80] ⟨[],[(4,[])],[]⟩ (.loop (sel [1,1,1,1,0,1,0,0] (Try.f44.body.getD .skip))) :=
  loop_ok (nt := 93) (c := (sel [1,1,1,1,0,1,0,0] (Try.f44.body.getD .skip))) (C := tagtree_Tree_walk_v53_C R k) (an := An) (t := (.seq (.reg [0,1,2,78,79,80,81] []) (.seq (.cond .leaf .leaf) (.seq (.node (.seq (.reg [0,1,2,17,18,78,79,80] []) (.reg [0,1,2,78,79,80] [[],[],[],[],[0,1,2,3],[],[0,1,2,3,4,5],[0,1,2,3,4,5,6]]))) (.reg [0,1,2,78,79,80] []))))) (ic := tagtree_Tree_walk_v53_i3) (tagtree_Tree_walk_v53_S R k) (tagtree_Tree_walk_v53_J R k) (by kernel_rfl) (And.intro True.intro (And.intro (And.intro True.intro True.intro) (And.intro (And.intro True.intro True.intro) True.intro))) (tagtree_Tree_walk_v53_a3 R k) (fun vals H K => by unfold tagtree_Tree_walk_v53_a3 tagtree_Tree_walk_v53_aa3; split <;> rfl)
    (fun n vals H K r h => by
      unfold tagtree_Tree_walk_v53_a3 tagtree_Tree_walk_v53_aa3 at h
      split at h <;> first | (cases h; done) | exact Eq.trans (tagtree_Tree_walk_v53_e3 tagtree_Tree_at (tagtree_Tree_Decode_1 k) (tagtree_Tree_walk_v53_l0 k) (tagtree_Tree_walk_v53_l1 k) (tagtree_Tree_walk_v53_p2 k) (tagtree_Tree_walk_v53_l3 k) k n _ _ _ _ _ _ _ _ H K) h) k
theorem tagtree_Tree_walk_v53_e2 {R : Type} (tagtree_Tree_at : tagtree_Tree_at_t R) (tagtree_Tree_Decode_1 : tagtree_Tree_Decode_1_t R) (tagtree_Tree_walk_v53_l0 : tagtree_Tree_walk_v53_l0_t R) (tagtree_Tree_walk_v53_l1 : tagtree_Tree_walk_v53_l1_t R) (tagtree_Tree_walk_v53_p2 : tagtree_Tree_walk_v53_p2_t R) (tagtree_Tree_walk_v53_l3 : tagtree_Tree_walk_v53_l3_t R) (k : Nat) (p618 : Oa) (n619 : Int) (n620 : Int) (n621 : Int) (p622 : Oa) (q623 : Oa) (l624 : Nat) (c625 : Nat) (n626 : Int) (p627 : Oa) (H : Heap) (K : Xit → Env → Heap → Option R) : evJ (tagtree_Tree_walk_v53_Ct tagtree_Tree_at tagtree_Tree_Decode_1) (tagtree_Tree_walk_v53_Jt k tagtree_Tree_walk_v53_l0 tagtree_Tree_walk_v53_l1 tagtree_Tree_walk_v53_p2 tagtree_Tree_walk_v53_l3) tagtree_Tree_walk_v53_i2 (List.zip [0,1,2,3,4,11,13,14] [.pointer p618,.int .i64 n619,.int .i64 n620,.int .i64 n621,.func (.func 53) ⟨[]⟩ ⟨[.pointer p622]⟩,.slice q623 l624 c625,.int .i64 n626,.pointer p627]) H (fun x e' H' => K x (clean e' ((⟨[0,1,2,3,4,11,13,14],[(2,[0,1,2,3,4,11,13,14])],[]⟩ : Out).of x)) H') = tagtree_Tree_walk_v53_p2_b k p618 n619 n620 n621 p622 q623 l624 c625 n626 p627 H (fun p1533 n1534 n1535 n1536 p1537 q1538 l1539 c1540 n1541 p1542 => K (.exit 2) [(0,.pointer p1533),(1,.int .i64 n1534),(2,.int .i64 n1535),(3,.int .i64 n1536),(4,.func (.func 53) #[] ⟨[.pointer p1537]⟩),(11,.slice q1538 l1539 c1540),(13,.int .i64 n1541),(14,.pointer p1542)] H) (fun p1543 n1544 n1545 n1546 p1547 q1548 l1549 c1550 n1551 p1552 => K .normal [(0,.pointer p1543),(1,.int .i64 n1544),(2,.int .i64 n1545),(3,.int .i64 n1546),(4,.func (.func 53) #[] ⟨[.pointer p1547]⟩),(11,.slice q1548 l1549 c1550),(13,.int .i64 n1551),(14,.pointer p1552)] H) := by kernel_rfl
theorem tagtree_Tree_walk_v53_j2 {R : Type} (k : Nat) : JS Try.prog 93 (tagtree_Tree_walk_v53_a2 R k k) [0,1,2,3,4,11,13,14] ⟨[0,1,2,3,4,11,13,14],[(2,[0,1,2,3,4,11,13,14])],[]⟩ (sel [1,1,1,0,1,0,0,1,0,0,1,1,0,0,0,0] (Try.f44.body.getD .skip)) :=
  piece_ok (nt := 93) (c := (sel [1,1,1,0,1,0,0,1,0,0,1,1,0,0,0,0] (Try.f44.body.getD .skip))) (C := tagtree_Tree_walk_v53_C R k) (an := An) (t := (.seq (.reg [0,1,2,3,4,11,13,14,55] []) (.cond .leaf .leaf))) (ic := tagtree_Tree_walk_v53_i2) (tagtree_Tree_walk_v53_S R k) (tagtree_Tree_walk_v53_J R k) (by kernel_rfl) (And.intro True.intro (And.intro True.intro True.intro)) (tagtree_Tree_walk_v53_a2 R k k)
    (fun vals H K r h => by
      unfold tagtree_Tree_walk_v53_a2 tagtree_Tree_walk_v53_aa2 at h
      split at h <;> first | (cases h; done) | exact Eq.trans (tagtree_Tree_walk_v53_e2 tagtree_Tree_at (tagtree_Tree_Decode_1 k) (tagtree_Tree_walk_v53_l0 k) (tagtree_Tree_walk_v53_l1 k) (tagtree_Tree_walk_v53_p2 k) (tagtree_Tree_walk_v53_l3 k) k _ _ _ _ _ _ _ _ _ _ H K) h)
theorem tagtree_Tree_walk_v53_e1 {R : Type} (tagtree_Tree_at : tagtree_Tree_at_t R) (tagtree_Tree_Decode_1 : tagtree_Tree_Decode_1_t R) (tagtree_Tree_walk_v53_l0 : tagtree_Tree_walk_v53_l0_t R) (tagtree_Tree_walk_v53_l1 : tagtree_Tree_walk_v53_l1_t R) (tagtree_Tree_walk_v53_p2 : tagtree_Tree_walk_v53_p2_t R) (tagtree_Tree_walk_v53_l3 : tagtree_Tree_walk_v53_l3_t R) (k n : Nat) (p608 : Oa) (n609 : Int) (n610 : Int) (n611 : Int) (p612 : Oa) (q613 : Oa) (l614 : Nat) (c615 : Nat) (n616 : Int) (p617 : Oa) (H : Heap) (K : Xit → Env → Heap → Option R) : evJ (tagtree_Tree_walk_v53_Ct tagtree_Tree_at tagtree_Tree_Decode_1) (tagtree_Tree_walk_v53_Jt k tagtree_Tree_walk_v53_l0 tagtree_Tree_walk_v53_l1 tagtree_Tree_walk_v53_p2 tagtree_Tree_walk_v53_l3) tagtree_Tree_walk_v53_i1 (List.zip [0,1,2,3,4,11,13,14] [.pointer p608,.int .i64 n609,.int .i64 n610,.int .i64 n611,.func (.func 53) ⟨[]⟩ ⟨[.pointer p612]⟩,.slice q613 l614 c615,.int .i64 n616,.pointer p617]) H (fun x e' H' => match x with | .normal => tagtree_Tree_walk_v53_aa1 tagtree_Tree_walk_v53_l1 n ((clean e' [0,1,2,3,4,11,13,14]).map (·.2)) H' K | x => K x (clean e' ((⟨[],[(2,[0,1,2,3,4,11,13,14])],[10]⟩ : Out).of x)) H') = tagtree_Tree_walk_v53_l1_b tagtree_Tree_walk_v53_p2 tagtree_Tree_Decode_1 (tagtree_Tree_walk_v53_l1 (fun p1522 n1523 n1524 n1525 p1526 q1527 l1528 c1529 n1530 p1531 H => K (.exit 2) [(0,.pointer p1522),(1,.int .i64 n1523),(2,.int .i64 n1524),(3,.int .i64 n1525),(4,.func (.func 53) #[] ⟨[.pointer p1526]⟩),(11,.slice q1527 l1528 c1529),(13,.int .i64 n1530),(14,.pointer p1531)] H) (fun n1532 H => K .ret [(10,.int .i64 n1532)] H) n) (fun p1522 n1523 n1524 n1525 p1526 q1527 l1528 c1529 n1530 p1531 H => K (.exit 2) [(0,.pointer p1522),(1,.int .i64 n1523),(2,.int .i64 n1524),(3,.int .i64 n1525),(4,.func (.func 53) #[] ⟨[.pointer p1526]⟩),(11,.slice q1527 l1528 c1529),(13,.int .i64 n1530),(14,.pointer p1531)] H) (fun n1532 H => K .ret [(10,.int .i64 n1532)] H) k p608 n609 n610 n611 p612 q613 l614 c615 n616 p617 H := by kernel_rfl
theorem tagtree_Tree_walk_v53_j1 {R : Type} (k : Nat) : JS Try.prog 93 (tagtree_Tree_walk_v53_a1 R k k) [0,1,2,3,4,11,13,14] ⟨[],[(2,[0,1,2,3,4,11,13,14])],[10]⟩ (.loop (sel [1,1,1,0,1,0,0,1,0,0,1,1,0,0,0] (Try.f44.body.getD .skip))) :=
  loop_ok (nt := 93) (c := (sel [1,1,1,0,1,0,0,1,0,0,1,1,0,0,0] (Try.f44.body.getD .skip))) (C := tagtree_Tree_walk_v53_C R k) (an := An) (t := (.seq (.opq 2 [0,1,2,3,4,11,13,14] ⟨[0,1,2,3,4,11,13,14],[(2,[0,1,2,3,4,11,13,14])],[]⟩ (.seq (.reg [0,1,2,3,4,11,13,14,55] []) (.cond .leaf .leaf))) (.node (.seq (.reg [0,1,2,3,4,11,13,14,15,16] []) (.seq (.seq (.reg [0,1,2,3,4,11,13,14,15,16,63] []) (.cond (.seq (.reg [10] []) .leaf) .leaf)) (.seq (.reg [0,1,2,3,4,11,13,14,66] []) (.cond (.reg [0,1,2,3,4,11,13,14] []) (.reg [0,1,2,3,4,11,13,14] [])))))))) (ic := tagtree_Tree_walk_v53_i1) (tagtree_Tree_walk_v53_S R k) (tagtree_Tree_walk_v53_J R k) (by kernel_rfl) (And.intro (tagtree_Tree_walk_v53_j2 k) (And.intro True.intro (And.intro (And.intro True.intro (And.intro (And.intro True.intro True.intro) True.intro)) (And.intro True.intro (And.intro True.intro True.intro))))) (tagtree_Tree_walk_v53_a1 R k) (fun vals H K => by unfold tagtree_Tree_walk_v53_a1 tagtree_Tree_walk_v53_aa1; split <;> rfl)
    (fun n vals H K r h => by
      unfold tagtree_Tree_walk_v53_a1 tagtree_Tree_walk_v53_aa1 at h
      split at h <;> first | (cases h; done) | exact Eq.trans (tagtree_Tree_walk_v53_e1 tagtree_Tree_at (tagtree_Tree_Decode_1 k) (tagtree_Tree_walk_v53_l0 k) (tagtree_Tree_walk_v53_l1 k) (tagtree_Tree_walk_v53_p2 k) (tagtree_Tree_walk_v53_l3 k) k n _ _ _ _ _ _ _ _ _ _ H K) h) k
theorem tagtree_Tree_walk_v53_e0 {R : Type} (tagtree_Tree_at : tagtree_Tree_at_t R) (tagtree_Tree_Decode_1 : tagtree_Tree_Decode_1_t R) (tagtree_Tree_walk_v53_l0 : tagtree_Tree_walk_v53_l0_t R) (tagtree_Tree_walk_v53_l1 : tagtree_Tree_walk_v53_l1_t R) (tagtree_Tree_walk_v53_p2 : tagtree_Tree_walk_v53_p2_t R) (tagtree_Tree_walk_v53_l3 : tagtree_Tree_walk_v53_l3_t R) (k n : Nat) (p586 : Oa) (n587 : Int) (n588 : Int) (n589 : Int) (p590 : Oa) (q591 : Oa) (l592 : Nat) (c593 : Nat) (n594 : Int) (n595 : Int) (H : Heap) (K : Xit → Env → Heap → Option R) : evJ (tagtree_Tree_walk_v53_Ct tagtree_Tree_at tagtree_Tree_Decode_1) (tagtree_Tree_walk_v53_Jt k tagtree_Tree_walk_v53_l0 tagtree_Tree_walk_v53_l1 tagtree_Tree_walk_v53_p2 tagtree_Tree_walk_v53_l3) tagtree_Tree_walk_v53_i0 (List.zip [0,1,2,3,4,11,12,13] [.pointer p586,.int .i64 n587,.int .i64 n588,.int .i64 n589,.func (.func 53) ⟨[]⟩ ⟨[.pointer p590]⟩,.slice q591 l592 c593,.int .i64 n594,.int .i64 n595]) H (fun x e' H' => match x with | .normal => tagtree_Tree_walk_v53_aa0 tagtree_Tree_walk_v53_l0 n ((clean e' [0,1,2,3,4,11,12,13]).map (·.2)) H' K | x => K x (clean e' ((⟨[],[(0,[0,1,2,11])],[10]⟩ : Out).of x)) H') = tagtree_Tree_walk_v53_l0_b tagtree_Tree_at tagtree_Tree_walk_v53_l1 (tagtree_Tree_walk_v53_l0 (fun p1515 n1516 n1517 q1518 l1519 c1520 H => K (.exit 0) [(0,.pointer p1515),(1,.int .i64 n1516),(2,.int .i64 n1517),(11,.slice q1518 l1519 c1520)] H) (fun n1521 H => K .ret [(10,.int .i64 n1521)] H) n) (fun p1515 n1516 n1517 q1518 l1519 c1520 H => K (.exit 0) [(0,.pointer p1515),(1,.int .i64 n1516),(2,.int .i64 n1517),(11,.slice q1518 l1519 c1520)] H) (fun n1521 H => K .ret [(10,.int .i64 n1521)] H) k p586 n587 n588 n589 p590 q591 l592 c593 n594 n595 H := by kernel_rfl
theorem tagtree_Tree_walk_v53_j0 {R : Type} (k : Nat) : JS Try.prog 93 (tagtree_Tree_walk_v53_a0 R k k) [0,1,2,3,4,11,12,13] ⟨[],[(0,[0,1,2,11])],[10]⟩ (.loop (sel [1,1,1,0,1,0,0] (Try.f44.body.getD .skip))) :=
  loop_ok (nt := 93) (c := (sel [1,1,1,0,1,0,0] (Try.f44.body.getD .skip))) (C := tagtree_Tree_walk_v53_C R k) (an := An) (t := (.seq (.seq (.reg [0,1,2,3,4,11,12,13,32] []) (.cond .leaf .leaf)) (.seq (.node (.seq (.reg [0,1,2,3,4,11,12,13,14] []) (.seq (.reg [0,1,2,3,4,11,13,14] []) (.seq (.node (.opq 1 [0,1,2,3,4,11,13,14] ⟨[],[(2,[0,1,2,3,4,11,13,14])],[10]⟩ (.node (.seq (.opq 2 [0,1,2,3,4,11,13,14] ⟨[0,1,2,3,4,11,13,14],[(2,[0,1,2,3,4,11,13,14])],[]⟩ (.seq (.reg [0,1,2,3,4,11,13,14,55] []) (.cond .leaf .leaf))) (.node (.seq (.reg [0,1,2,3,4,11,13,14,15,16] []) (.seq (.seq (.reg [0,1,2,3,4,11,13,14,15,16,63] []) (.cond (.seq (.reg [10] []) .leaf) .leaf)) (.seq (.reg [0,1,2,3,4,11,13,14,66] []) (.cond (.reg [0,1,2,3,4,11,13,14] []) (.reg [0,1,2,3,4,11,13,14] [])))))))))) (.reg [0,1,2,3,4,11,12,13] [[],[],[],[2],[],[2,3],[0,1,2,3,4,5],[0,1,2,3,4,5,6]]))))) (.reg [0,1,2,3,4,11,12,13] [])))) (ic := tagtree_Tree_walk_v53_i0) (tagtree_Tree_walk_v53_S R k) (tagtree_Tree_walk_v53_J R k) (by kernel_rfl) (And.intro (And.intro True.intro (And.intro True.intro True.intro)) (And.intro (And.intro True.intro (And.intro True.intro (And.intro (tagtree_Tree_walk_v53_j1 k) True.intro))) True.intro)) (tagtree_Tree_walk_v53_a0 R k) (fun vals H K => by unfold tagtree_Tree_walk_v53_a0 tagtree_Tree_walk_v53_aa0; split <;> rfl)
    (fun n vals H K r h => by
      unfold tagtree_Tree_walk_v53_a0 tagtree_Tree_walk_v53_aa0 at h
      split at h <;> first | (cases h; done) | exact Eq.trans (tagtree_Tree_walk_v53_e0 tagtree_Tree_at (tagtree_Tree_Decode_1 k) (tagtree_Tree_walk_v53_l0 k) (tagtree_Tree_walk_v53_l1 k) (tagtree_Tree_walk_v53_p2 k) (tagtree_Tree_walk_v53_l3 k) k n _ _ _ _ _ _ _ _ _ _ H K) h) k
def tagtree_Tree_walk_v53_ca {R : Type} (f : tagtree_Tree_walk_v53_t R) (args : List Value) (H : Heap) (K : Value → Heap → Option R) : Option R :=
  match args with
  | [.pointer p567,.int .i64 n568,.int .i64 n569,.int .i64 n570,.func (.func 53) ⟨[]⟩ ⟨[.pointer p571]⟩] => f p567 n568 n569 n570 p571 H (fun n1553 H => K (.int .i64 n1553) H)
  | _ => none
def tagtree_Tree_walk_v53_c (R : Type) (k : Nat) (args : List Value) (H : Heap) (K : Value → Heap → Option R) : Option R := tagtree_Tree_walk_v53_ca (tagtree_Tree_walk_v53 k) args H K
theorem tagtree_Tree_walk_v53_e {R : Type} (tagtree_Tree_at : tagtree_Tree_at_t R) (tagtree_Tree_Decode_1 : tagtree_Tree_Decode_1_t R) (tagtree_Tree_walk_v53_l0 : tagtree_Tree_walk_v53_l0_t R) (tagtree_Tree_walk_v53_l1 : tagtree_Tree_walk_v53_l1_t R) (tagtree_Tree_walk_v53_p2 : tagtree_Tree_walk_v53_p2_t R) (tagtree_Tree_walk_v53_l3 : tagtree_Tree_walk_v53_l3_t R) (k : Nat) (p567 : Oa) (n568 : Int) (n569 : Int) (n570 : Int) (p571 : Oa) (H : Heap) (K : Value → Heap → Option R) : evF (tagtree_Tree_walk_v53_Ct tagtree_Tree_at tagtree_Tree_Decode_1) (tagtree_Tree_walk_v53_Jt k tagtree_Tree_walk_v53_l0 tagtree_Tree_walk_v53_l1 tagtree_Tree_walk_v53_p2 tagtree_Tree_walk_v53_l3) tagtree_Tree_walk_v53_f [.pointer p567,.int .i64 n568,.int .i64 n569,.int .i64 n570,.func (.func 53) ⟨[]⟩ ⟨[.pointer p571]⟩] H K = tagtree_Tree_walk_v53_b tagtree_Tree_walk_v53_l0 tagtree_Tree_walk_v53_l3 k p567 n568 n569 n570 p571 H (fun n1553 H => K (.int .i64 n1553) H) := by kernel_rfl
theorem tagtree_Tree_walk_v53_cs (R : Type) (k : Nat) : ∀ args H K r,tagtree_Tree_walk_v53_c R k args H K = some r → ∃ v H',Tri Try.prog 44 args H v H' ∧ K v H' = some r := by
  intro args H K r h
  unfold tagtree_Tree_walk_v53_c tagtree_Tree_walk_v53_ca at h
  split at h
  · exact evF_ok (C := tagtree_Tree_walk_v53_C R k) (an := An) (t := tagtree_Tree_walk_v53_at) (fn := Try.f44) (c := (Try.f44.body.getD .skip)) (ifn := tagtree_Tree_walk_v53_f) (tagtree_Tree_walk_v53_S R k) (tagtree_Tree_walk_v53_J R k) Try.func44 (by kernel_rfl) (by kernel_rfl) (And.intro True.intro (And.intro True.intro (And.intro True.intro (And.intro (And.intro True.intro (tagtree_Tree_walk_v53_j0 k)) (And.intro (And.intro True.intro (tagtree_Tree_walk_v53_j3 k)) (And.intro True.intro True.intro)))))) rfl (Eq.trans (tagtree_Tree_walk_v53_e tagtree_Tree_at (tagtree_Tree_Decode_1 k) (tagtree_Tree_walk_v53_l0 k) (tagtree_Tree_walk_v53_l1 k) (tagtree_Tree_walk_v53_p2 k) (tagtree_Tree_walk_v53_l3 k) k _ _ _ _ _ H K) h)
  · cases h
/-! ### tagtree_Tree_Decode: function 32 -/
abbrev tagtree_Tree_Decode_p0_t (R : Type) : Type := Oa → Int → Int → Int → Oa → Heap → (Oa → Int → Int → Int → Oa → Option R) → (Bool → Int → Option R) → Option R
def tagtree_Tree_Decode_p0_b {R : Type} (tagtree_Tree_ok : tagtree_Tree_ok_t R) (k : Nat) (p496 : Oa) (n497 : Int) (n498 : Int) (n499 : Int) (p500 : Oa) (H : Heap) (KN : Oa → Int → Int → Int → Oa → Option R) (KR : Bool → Int → Option R) : Option R :=
tagtree_Tree_ok p496 H fun t501 =>
bif (!t501) then (KR false 6)
 else (hnil p496 fun p502 =>
hfad 1 p502 fun p503 =>
ldB H p503 fun t504 =>
bif t504 then (KR false 6)
 else (KN p496 n497 n498 n499 p500))
def tagtree_Tree_Decode_p0 {R : Type} (k : Nat) (p496 : Oa) (n497 : Int) (n498 : Int) (n499 : Int) (p500 : Oa) (H : Heap) (KN : Oa → Int → Int → Int → Oa → Option R) (KR : Bool → Int → Option R) : Option R := tagtree_Tree_Decode_p0_b tagtree_Tree_ok k p496 n497 n498 n499 p500 H KN KR

abbrev tagtree_Tree_Decode_p1_t (R : Type) : Type := Oa → Int → Int → Int → Oa → Heap → (Oa → Int → Int → Int → Oa → Heap → Option R) → (Bool → Int → Heap → Option R) → Option R
def tagtree_Tree_Decode_p1_b {R : Type} (tagtree_Tree_has : tagtree_Tree_has_t R) (k : Nat) (p521 : Oa) (n522 : Int) (n523 : Int) (n524 : Int) (p525 : Oa) (H : Heap) (KN : Oa → Int → Int → Int → Oa → Heap → Option R) (KR : Bool → Int → Heap → Option R) : Option R :=
tagtree_Tree_has p521 n522 n523 H fun t526 H527 =>
bif (!t526) then (KR false 2 H527)
 else (bif decide (n524 < 0) then (KR false 2 H527)
 else (bif decide (n524 > 65536) then (KR false 2 H527)
 else (KN p521 n522 n523 n524 p525 H527)))
def tagtree_Tree_Decode_p1 {R : Type} (k : Nat) (p521 : Oa) (n522 : Int) (n523 : Int) (n524 : Int) (p525 : Oa) (H : Heap) (KN : Oa → Int → Int → Int → Oa → Heap → Option R) (KR : Bool → Int → Heap → Option R) : Option R := tagtree_Tree_Decode_p1_b tagtree_Tree_has k p521 n522 n523 n524 p525 H KN KR

abbrev tagtree_Tree_Decode_t (R : Type) : Type := Oa → Oa → Int → Int → Int → Heap → (Bool → Int → Heap → Option R) → Option R

def tagtree_Tree_Decode_b {R : Type} (tagtree_Tree_Decode_p0 : tagtree_Tree_Decode_p0_t R) (bitio_Reader_Bits : bitio_Reader_Bits_t R) (tagtree_Tree_Decode_p1 : tagtree_Tree_Decode_p1_t R) (tagtree_Tree_walk_v53 : tagtree_Tree_walk_v53_t R) (tagtree_Tree_at : tagtree_Tree_at_t R) (k : Nat) (p489 : Oa) (p490 : Oa) (n491 : Int) (n492 : Int) (n493 : Int) (H : Heap) (K : Bool → Int → Heap → Option R) : Option R :=
hal H [.pointer p490] fun p494 H495 =>
tagtree_Tree_Decode_p0 p489 n491 n492 n493 p494 H495 (fun p512 n513 n514 n515 p516 =>
ldP H495 p516 fun p517 =>
bitio_Reader_Bits p517 0 H495 fun n518 n519 H520 =>
bif (n519 != 0) then (K false 6 H520)
 else (tagtree_Tree_Decode_p1 p512 n513 n514 n515 p516 H520 (fun p535 n536 n537 n538 p539 H540 =>
tagtree_Tree_walk_v53 p535 n536 n537 n538 p539 H540 fun n541 H542 =>
bif (n541 != 0) then (K false n541 H542)
 else (hnil p535 fun p543 =>
hfad 2 p543 fun p544 =>
hst1 H542 p544 (.bool true) fun H545 =>
tagtree_Tree_at p535 0 n536 n537 H545 fun p546 =>
hnil p546 fun p547 =>
hfad 2 p547 fun p548 =>
ldB H545 p548 fun t549 =>
bif t549 then (hnil p546 fun p550 =>
hfad 1 p550 fun p551 =>
ldI .i64 H545 p551 fun n552 =>
K (decide (n552 < n538)) 0 H545)
 else (K false 0 H545))) (fun t553 n554 H555 =>
K t553 n554 H555))) (fun t556 n557 =>
K t556 n557 H495)

def tagtree_Tree_Decode {R : Type} (k : Nat) (p489 : Oa) (p490 : Oa) (n491 : Int) (n492 : Int) (n493 : Int) (H : Heap) (K : Bool → Int → Heap → Option R) : Option R := tagtree_Tree_Decode_b (tagtree_Tree_Decode_p0 k) (bitio_Reader_Bits k) (tagtree_Tree_Decode_p1 k) (tagtree_Tree_walk_v53 k) tagtree_Tree_at k p489 p490 n491 n492 n493 H K

def tagtree_Tree_Decode_Ct {R : Type} (tagtree_Tree_ok : tagtree_Tree_ok_t R) (bitio_Reader_Bits : bitio_Reader_Bits_t R) (tagtree_Tree_has : tagtree_Tree_has_t R) (tagtree_Tree_walk_v53 : tagtree_Tree_walk_v53_t R) (tagtree_Tree_at : tagtree_Tree_at_t R) : Tab R := tcons 38 (tagtree_Tree_ok_ca tagtree_Tree_ok) <| tcons 52 (bitio_Reader_Bits_ca bitio_Reader_Bits) <| tcons 39 (tagtree_Tree_has_ca tagtree_Tree_has) <| tcons 44 (tagtree_Tree_walk_v53_ca tagtree_Tree_walk_v53) <| tcons 40 (tagtree_Tree_at_ca tagtree_Tree_at) <| fun _ _ _ _ => none
def tagtree_Tree_Decode_C (R : Type) (k : Nat) : Tab R := tagtree_Tree_Decode_Ct tagtree_Tree_ok (bitio_Reader_Bits k) tagtree_Tree_has (tagtree_Tree_walk_v53 k) tagtree_Tree_at
theorem tagtree_Tree_Decode_S (R : Type) (k : Nat) : CSound Try.prog (tagtree_Tree_Decode_C R k) := csound_cons (tagtree_Tree_ok_cs R k) <| csound_cons (bitio_Reader_Bits_cs R k) <| csound_cons (tagtree_Tree_has_cs R k) <| csound_cons (tagtree_Tree_walk_v53_cs R k) <| csound_cons (tagtree_Tree_at_cs R k) <| csound_nil
def tagtree_Tree_Decode_aa0 {R : Type} (f : tagtree_Tree_Decode_p0_t R) (n : Nat) (vals : List Value) (H : Heap) (K : Xit → Env → Heap → Option R) : Option R :=
  match vals with
  | [.pointer p496,.int .i64 n497,.int .i64 n498,.int .i64 n499,.pointer p500] => f p496 n497 n498 n499 p500 H (fun p1554 n1555 n1556 n1557 p1558 => K .normal [(0,.pointer p1554),(2,.int .i64 n1555),(3,.int .i64 n1556),(4,.int .i64 n1557),(6,.pointer p1558)] H) (fun t1559 n1560 => K .ret [(10,.bool t1559),(11,.int .i64 n1560)] H)
  | _ => none
def tagtree_Tree_Decode_a0 (R : Type) (k n : Nat) (vals : List Value) (H : Heap) (K : Xit → Env → Heap → Option R) : Option R := tagtree_Tree_Decode_aa0 (tagtree_Tree_Decode_p0 k) n vals H K
def tagtree_Tree_Decode_aa1 {R : Type} (f : tagtree_Tree_Decode_p1_t R) (n : Nat) (vals : List Value) (H : Heap) (K : Xit → Env → Heap → Option R) : Option R :=
  match vals with
  | [.pointer p521,.int .i64 n522,.int .i64 n523,.int .i64 n524,.pointer p525] => f p521 n522 n523 n524 p525 H (fun p1561 n1562 n1563 n1564 p1565 H => K .normal [(0,.pointer p1561),(2,.int .i64 n1562),(3,.int .i64 n1563),(4,.int .i64 n1564),(6,.pointer p1565)] H) (fun t1566 n1567 H => K .ret [(10,.bool t1566),(11,.int .i64 n1567)] H)
  | _ => none
def tagtree_Tree_Decode_a1 (R : Type) (k n : Nat) (vals : List Value) (H : Heap) (K : Xit → Env → Heap → Option R) : Option R := tagtree_Tree_Decode_aa1 (tagtree_Tree_Decode_p1 k) n vals H K
def tagtree_Tree_Decode_Jt {R : Type} (k : Nat) (tagtree_Tree_Decode_p0 : tagtree_Tree_Decode_p0_t R) (tagtree_Tree_Decode_p1 : tagtree_Tree_Decode_p1_t R) : JTab R := tcons 0 (tagtree_Tree_Decode_aa0 tagtree_Tree_Decode_p0 k) <| tcons 1 (tagtree_Tree_Decode_aa1 tagtree_Tree_Decode_p1 k) <| fun _ _ _ _ => none
def tagtree_Tree_Decode_J (R : Type) (k : Nat) : JTab R := tagtree_Tree_Decode_Jt k (tagtree_Tree_Decode_p0 k) (tagtree_Tree_Decode_p1 k)
def tagtree_Tree_Decode_at : AT := (.seq (.reg [0,2,3,4,6] []) (.seq (.opq 0 [0,2,3,4,6] ⟨[0,2,3,4,6],[],[10,11]⟩ (.seq (.reg [0,2,3,4,6,24] []) (.cond (.seq (.reg [10,11] []) .leaf) .leaf))) (.seq (.seq (.reg [0,2,3,4,6,13] []) (.seq (.reg [0,2,3,4,6,31] []) (.cond (.seq (.reg [10,11] []) .leaf) .leaf))) (.seq (.opq 1 [0,2,3,4,6] ⟨[0,2,3,4,6],[],[10,11]⟩ (.seq (.reg [0,2,3,4,6,44] []) (.cond (.seq (.reg [10,11] []) .leaf) .leaf))) (.seq (.reg [0,2,3,4,14] []) (.seq (.seq (.reg [0,2,3,4,14,52] []) (.cond (.seq (.reg [10,11] []) .leaf) .leaf)) (.seq (.reg [0,2,3,4] []) (.seq (.reg [4,15] []) (.seq (.reg [10,11] []) .leaf)))))))))
def tagtree_Tree_Decode_i1 : IC := (.seq (.reg [⟨some 32,.mov (.t 0),none⟩,
⟨some 33,.mov (.t 2),none⟩,
⟨some 34,.mov (.t 3),none⟩,
⟨some 35,.call 39 [(.t 32),(.t 33),(.t 34)] (.one (.sc .bool)),none⟩,
⟨some 36,.lnot (.t 35),none⟩,
⟨some 37,.mov (.t 36),none⟩,
⟨some 38,.mov (.t 4),some (37,false)⟩,
⟨some 39,.cmp .lss (.t 38) (.c (Go.Value.int Go.IntKind.i64 0)),some (37,false)⟩,
⟨some 40,.pick (.t 37) (.c (Go.Value.bool true)) (.t 39),none⟩,
⟨some 41,.mov (.t 40),none⟩,
⟨some 42,.mov (.t 4),some (41,false)⟩,
⟨some 43,.cmp .gtr (.t 42) (.c (Go.Value.int Go.IntKind.i64 65536)),some (41,false)⟩,
⟨some 44,.pick (.t 41) (.c (Go.Value.bool true)) (.t 43),none⟩] [0,2,3,4,6,44]) (.cond (.t 44) (.seq (.reg [⟨some 10,.mov (.c (Go.Value.bool false)),none⟩,
⟨some 11,.mov (.c (Go.Value.int Go.IntKind.i64 2)),none⟩] [10,11]) .ret) .skip))
def tagtree_Tree_Decode_i0 : IC := (.seq (.reg [⟨some 16,.mov (.t 0),none⟩,
⟨some 17,.call 38 [(.t 16)] (.one (.sc .bool)),none⟩,
⟨some 18,.lnot (.t 17),none⟩,
⟨some 19,.mov (.t 18),none⟩,
⟨some 20,.mov (.t 0),some (19,false)⟩,
⟨some 21,.nilc (.t 20),some (19,false)⟩,
⟨some 22,.fad 1 (.t 21),some (19,false)⟩,
⟨some 23,.ld (.sc .bool) (.t 22),some (19,false)⟩,
⟨some 24,.pick (.t 19) (.c (Go.Value.bool true)) (.t 23),none⟩] [0,2,3,4,6,24]) (.cond (.t 24) (.seq (.reg [⟨some 10,.mov (.c (Go.Value.bool false)),none⟩,
⟨some 11,.mov (.c (Go.Value.int Go.IntKind.i64 6)),none⟩] [10,11]) .ret) .skip))
def tagtree_Tree_Decode_f : IFn := ⟨73,[.t 10,.t 11],(.seq (.reg [⟨some 6,.box (.t 1),none⟩,
⟨some 10,.mov (.c (Go.Value.bool false)),none⟩,
⟨some 11,.mov (.c (Go.Value.int Go.IntKind.i64 0)),none⟩] [0,2,3,4,6]) (.seq (.opq 0 [0,2,3,4,6] tagtree_Tree_Decode_i0) (.seq (.seq (.reg [⟨some 26,.ld (.sc .ptr) (.t 6),none⟩,
⟨some 27,.call 52 [(.t 26),(.c (Go.Value.int Go.IntKind.i64 0))] (.tup [(.sc (.int .i64)),(.sc (.int .i64))]),none⟩,
⟨some 25,.mov (.t 27),none⟩,
⟨some 28,.ext 0 (.t 25),none⟩,
⟨some 29,.ext 1 (.t 25),none⟩,
⟨some 12,.mov (.t 28),none⟩,
⟨some 13,.mov (.t 29),none⟩] [0,2,3,4,6,13]) (.seq (.reg [⟨some 30,.mov (.t 13),none⟩,
⟨some 31,.cmp .neq (.t 30) (.c (Go.Value.int Go.IntKind.i64 0)),none⟩] [0,2,3,4,6,31]) (.cond (.t 31) (.seq (.reg [⟨some 10,.mov (.c (Go.Value.bool false)),none⟩,
⟨some 11,.mov (.c (Go.Value.int Go.IntKind.i64 6)),none⟩] [10,11]) .ret) .skip))) (.seq (.opq 1 [0,2,3,4,6] tagtree_Tree_Decode_i1) (.seq (.reg [⟨some 45,.mov (.t 0),none⟩,
⟨some 46,.mov (.t 2),none⟩,
⟨some 47,.mov (.t 3),none⟩,
⟨some 48,.mov (.t 4),none⟩,
⟨some 49,.mkf 53 [(.t 6)],none⟩,
⟨some 50,.call 44 [(.t 45),(.t 46),(.t 47),(.t 48),(.t 49)] (.one (.sc (.int .i64))),none⟩,
⟨some 14,.mov (.t 50),none⟩] [0,2,3,4,14]) (.seq (.seq (.reg [⟨some 51,.mov (.t 14),none⟩,
⟨some 52,.cmp .neq (.t 51) (.c (Go.Value.int Go.IntKind.i64 0)),none⟩] [0,2,3,4,14,52]) (.cond (.t 52) (.seq (.reg [⟨some 53,.mov (.t 14),none⟩,
⟨some 10,.mov (.c (Go.Value.bool false)),none⟩,
⟨some 11,.mov (.t 53),none⟩] [10,11]) .ret) .skip)) (.seq (.reg [⟨some 54,.mov (.t 0),none⟩,
⟨some 55,.nilc (.t 54),none⟩,
⟨some 56,.fad 2 (.t 55),none⟩,
⟨none,.st 1 (.t 56) (.c (Go.Value.bool true)),none⟩] [0,2,3,4]) (.seq (.reg [⟨some 57,.mov (.t 0),none⟩,
⟨some 58,.mov (.t 2),none⟩,
⟨some 59,.mov (.t 3),none⟩,
⟨some 60,.call 40 [(.t 57),(.c (Go.Value.int Go.IntKind.i64 0)),(.t 58),(.t 59)] (.one (.sc .ptr)),none⟩,
⟨some 15,.mov (.t 60),none⟩] [4,15]) (.seq (.reg [⟨some 61,.mov (.t 15),none⟩,
⟨some 62,.nilc (.t 61),none⟩,
⟨some 63,.fad 2 (.t 62),none⟩,
⟨some 64,.ld (.sc .bool) (.t 63),none⟩,
⟨some 65,.mov (.t 64),none⟩,
⟨some 66,.mov (.t 15),some (65,true)⟩,
⟨some 67,.nilc (.t 66),some (65,true)⟩,
⟨some 68,.fad 1 (.t 67),some (65,true)⟩,
⟨some 69,.ld (.sc (.int .i64)) (.t 68),some (65,true)⟩,
⟨some 70,.mov (.t 4),some (65,true)⟩,
⟨some 71,.cmp .lss (.t 69) (.t 70),some (65,true)⟩,
⟨some 72,.pick (.t 65) (.t 71) (.c (Go.Value.bool false)),none⟩,
⟨some 10,.mov (.t 72),none⟩,
⟨some 11,.mov (.c (Go.Value.int Go.IntKind.i64 0)),none⟩] [10,11]) .ret)))))))))⟩
theorem tagtree_Tree_Decode_e1 {R : Type} (tagtree_Tree_ok : tagtree_Tree_ok_t R) (bitio_Reader_Bits : bitio_Reader_Bits_t R) (tagtree_Tree_has : tagtree_Tree_has_t R) (tagtree_Tree_walk_v53 : tagtree_Tree_walk_v53_t R) (tagtree_Tree_at : tagtree_Tree_at_t R) (tagtree_Tree_Decode_p0 : tagtree_Tree_Decode_p0_t R) (tagtree_Tree_Decode_p1 : tagtree_Tree_Decode_p1_t R) (k : Nat) (p521 : Oa) (n522 : Int) (n523 : Int) (n524 : Int) (p525 : Oa) (H : Heap) (K : Xit → Env → Heap → Option R) : evJ (tagtree_Tree_Decode_Ct tagtree_Tree_ok bitio_Reader_Bits tagtree_Tree_has tagtree_Tree_walk_v53 tagtree_Tree_at) (tagtree_Tree_Decode_Jt k tagtree_Tree_Decode_p0 tagtree_Tree_Decode_p1) tagtree_Tree_Decode_i1 (List.zip [0,2,3,4,6] [.pointer p521,.int .i64 n522,.int .i64 n523,.int .i64 n524,.pointer p525]) H (fun x e' H' => K x (clean e' ((⟨[0,2,3,4,6],[],[10,11]⟩ : Out).of x)) H') = tagtree_Tree_Decode_p1_b tagtree_Tree_has k p521 n522 n523 n524 p525 H (fun p1561 n1562 n1563 n1564 p1565 H => K .normal [(0,.pointer p1561),(2,.int .i64 n1562),(3,.int .i64 n1563),(4,.int .i64 n1564),(6,.pointer p1565)] H) (fun t1566 n1567 H => K .ret [(10,.bool t1566),(11,.int .i64 n1567)] H) := by kernel_rfl
theorem tagtree_Tree_Decode_j1 {R : Type} (k : Nat) : JS Try.prog 73 (tagtree_Tree_Decode_a1 R k k) [0,2,3,4,6] ⟨[0,2,3,4,6],[],[10,11]⟩ (sel [1,1,1,0] (Try.f32.body.getD .skip)) :=
  piece_ok (nt := 73) (c := (sel [1,1,1,0] (Try.f32.body.getD .skip))) (C := tagtree_Tree_Decode_C R k) (an := An) (t := (.seq (.reg [0,2,3,4,6,44] []) (.cond (.seq (.reg [10,11] []) .leaf) .leaf))) (ic := tagtree_Tree_Decode_i1) (tagtree_Tree_Decode_S R k) (tagtree_Tree_Decode_J R k) (by kernel_rfl) (And.intro True.intro (And.intro (And.intro True.intro True.intro) True.intro)) (tagtree_Tree_Decode_a1 R k k)
    (fun vals H K r h => by
      unfold tagtree_Tree_Decode_a1 tagtree_Tree_Decode_aa1 at h
      split at h <;> first | (cases h; done) | exact Eq.trans (tagtree_Tree_Decode_e1 tagtree_Tree_ok (bitio_Reader_Bits k) tagtree_Tree_has (tagtree_Tree_walk_v53 k) tagtree_Tree_at (tagtree_Tree_Decode_p0 k) (tagtree_Tree_Decode_p1 k) k _ _ _ _ _ H K) h)
theorem tagtree_Tree_Decode_e0 {R : Type} (tagtree_Tree_ok : tagtree_Tree_ok_t R) (bitio_Reader_Bits : bitio_Reader_Bits_t R) (tagtree_Tree_has : tagtree_Tree_has_t R) (tagtree_Tree_walk_v53 : tagtree_Tree_walk_v53_t R) (tagtree_Tree_at : tagtree_Tree_at_t R) (tagtree_Tree_Decode_p0 : tagtree_Tree_Decode_p0_t R) (tagtree_Tree_Decode_p1 : tagtree_Tree_Decode_p1_t R) (k : Nat) (p496 : Oa) (n497 : Int) (n498 : Int) (n499 : Int) (p500 : Oa) (H : Heap) (K : Xit → Env → Heap → Option R) : evJ (tagtree_Tree_Decode_Ct tagtree_Tree_ok bitio_Reader_Bits tagtree_Tree_has tagtree_Tree_walk_v53 tagtree_Tree_at) (tagtree_Tree_Decode_Jt k tagtree_Tree_Decode_p0 tagtree_Tree_Decode_p1) tagtree_Tree_Decode_i0 (List.zip [0,2,3,4,6] [.pointer p496,.int .i64 n497,.int .i64 n498,.int .i64 n499,.pointer p500]) H (fun x e' H' => K x (clean e' ((⟨[0,2,3,4,6],[],[10,11]⟩ : Out).of x)) H') = tagtree_Tree_Decode_p0_b tagtree_Tree_ok k p496 n497 n498 n499 p500 H (fun p1554 n1555 n1556 n1557 p1558 => K .normal [(0,.pointer p1554),(2,.int .i64 n1555),(3,.int .i64 n1556),(4,.int .i64 n1557),(6,.pointer p1558)] H) (fun t1559 n1560 => K .ret [(10,.bool t1559),(11,.int .i64 n1560)] H) := by kernel_rfl
theorem tagtree_Tree_Decode_j0 {R : Type} (k : Nat) : JS Try.prog 73 (tagtree_Tree_Decode_a0 R k k) [0,2,3,4,6] ⟨[0,2,3,4,6],[],[10,11]⟩ (sel [1,0] (Try.f32.body.getD .skip)) :=
  piece_ok (nt := 73) (c := (sel [1,0] (Try.f32.body.getD .skip))) (C := tagtree_Tree_Decode_C R k) (an := An) (t := (.seq (.reg [0,2,3,4,6,24] []) (.cond (.seq (.reg [10,11] []) .leaf) .leaf))) (ic := tagtree_Tree_Decode_i0) (tagtree_Tree_Decode_S R k) (tagtree_Tree_Decode_J R k) (by kernel_rfl) (And.intro True.intro (And.intro (And.intro True.intro True.intro) True.intro)) (tagtree_Tree_Decode_a0 R k k)
    (fun vals H K r h => by
      unfold tagtree_Tree_Decode_a0 tagtree_Tree_Decode_aa0 at h
      split at h <;> first | (cases h; done) | exact Eq.trans (tagtree_Tree_Decode_e0 tagtree_Tree_ok (bitio_Reader_Bits k) tagtree_Tree_has (tagtree_Tree_walk_v53 k) tagtree_Tree_at (tagtree_Tree_Decode_p0 k) (tagtree_Tree_Decode_p1 k) k _ _ _ _ _ H K) h)
def tagtree_Tree_Decode_ca {R : Type} (f : tagtree_Tree_Decode_t R) (args : List Value) (H : Heap) (K : Value → Heap → Option R) : Option R :=
  match args with
  | [.pointer p489,.pointer p490,.int .i64 n491,.int .i64 n492,.int .i64 n493] => f p489 p490 n491 n492 n493 H (fun t1568 n1569 H => K (.tuple ⟨[.bool t1568,.int .i64 n1569]⟩) H)
  | _ => none
def tagtree_Tree_Decode_c (R : Type) (k : Nat) (args : List Value) (H : Heap) (K : Value → Heap → Option R) : Option R := tagtree_Tree_Decode_ca (tagtree_Tree_Decode k) args H K
theorem tagtree_Tree_Decode_e {R : Type} (tagtree_Tree_ok : tagtree_Tree_ok_t R) (bitio_Reader_Bits : bitio_Reader_Bits_t R) (tagtree_Tree_has : tagtree_Tree_has_t R) (tagtree_Tree_walk_v53 : tagtree_Tree_walk_v53_t R) (tagtree_Tree_at : tagtree_Tree_at_t R) (tagtree_Tree_Decode_p0 : tagtree_Tree_Decode_p0_t R) (tagtree_Tree_Decode_p1 : tagtree_Tree_Decode_p1_t R) (k : Nat) (p489 : Oa) (p490 : Oa) (n491 : Int) (n492 : Int) (n493 : Int) (H : Heap) (K : Value → Heap → Option R) : evF (tagtree_Tree_Decode_Ct tagtree_Tree_ok bitio_Reader_Bits tagtree_Tree_has tagtree_Tree_walk_v53 tagtree_Tree_at) (tagtree_Tree_Decode_Jt k tagtree_Tree_Decode_p0 tagtree_Tree_Decode_p1) tagtree_Tree_Decode_f [.pointer p489,.pointer p490,.int .i64 n491,.int .i64 n492,.int .i64 n493] H K = tagtree_Tree_Decode_b tagtree_Tree_Decode_p0 bitio_Reader_Bits tagtree_Tree_Decode_p1 tagtree_Tree_walk_v53 tagtree_Tree_at k p489 p490 n491 n492 n493 H (fun t1568 n1569 H => K (.tuple ⟨[.bool t1568,.int .i64 n1569]⟩) H) := by kernel_rfl
theorem tagtree_Tree_Decode_cs (R : Type) (k : Nat) : ∀ args H K r,tagtree_Tree_Decode_c R k args H K = some r → ∃ v H',Tri Try.prog 32 args H v H' ∧ K v H' = some r := by
  intro args H K r h
  unfold tagtree_Tree_Decode_c tagtree_Tree_Decode_ca at h
  split at h
  · exact evF_ok (C := tagtree_Tree_Decode_C R k) (an := An) (t := tagtree_Tree_Decode_at) (fn := Try.f32) (c := (Try.f32.body.getD .skip)) (ifn := tagtree_Tree_Decode_f) (tagtree_Tree_Decode_S R k) (tagtree_Tree_Decode_J R k) Try.func32 (by kernel_rfl) (by kernel_rfl) (And.intro True.intro (And.intro (tagtree_Tree_Decode_j0 k) (And.intro (And.intro True.intro (And.intro True.intro (And.intro (And.intro True.intro True.intro) True.intro))) (And.intro (tagtree_Tree_Decode_j1 k) (And.intro True.intro (And.intro (And.intro True.intro (And.intro (And.intro True.intro True.intro) True.intro)) (And.intro True.intro (And.intro True.intro (And.intro True.intro True.intro))))))))) rfl (Eq.trans (tagtree_Tree_Decode_e tagtree_Tree_ok (bitio_Reader_Bits k) tagtree_Tree_has (tagtree_Tree_walk_v53 k) tagtree_Tree_at (tagtree_Tree_Decode_p0 k) (tagtree_Tree_Decode_p1 k) k _ _ _ _ _ H K) h)
  · cases h
end Go.Proofs.Ytblkejnciinaeaa.Sh
