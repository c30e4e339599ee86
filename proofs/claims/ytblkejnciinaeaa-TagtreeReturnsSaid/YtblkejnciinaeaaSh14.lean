/- Lean functions that stand for Go's, over an explicit heap, and the proofs that they do (written by this claim's program shallow.py). -/
import Derived.Test.YtblkejnciinaeaaSh0
import Derived.Test.YtblkejnciinaeaaSh1
import Derived.Test.YtblkejnciinaeaaSh2
import Derived.Test.YtblkejnciinaeaaSh3
import Derived.Test.YtblkejnciinaeaaSh4
import Derived.Test.YtblkejnciinaeaaSh5
set_option maxRecDepth 100000
set_option linter.unusedVariables false
set_option linter.unusedSimpArgs false
namespace Go.Proofs.Ytblkejnciinaeaa.Sh
open Go.Proofs.Ytblkejnciinaeaa.FW
/-! ### L_inside: function 34 -/
abbrev L_inside_t (R : Type) : Type := Int → Int → Int → Int → Int → Int → Heap → (Bool → Heap → Option R) → Option R

def L_inside_b {R : Type} (k : Nat) (n765 : Int) (n766 : Int) (n767 : Int) (n768 : Int) (n769 : Int) (n770 : Int) (H : Heap) (K : Bool → Heap → Option R) : Option R :=
hal H [.int .i64 n765, .int .i64 n766, .int .i64 n767, .int .i64 n768] fun p771 H772 =>
hfad 1 p771 fun p773 =>
ldI .i64 H772 p773 fun n774 =>
bif decide (n774 ≥ 0) then (hfad 1 p771 fun p775 =>
ldI .i64 H772 p775 fun n776 =>
bif decide (n776 < n769) then (hfad 2 p771 fun p777 =>
ldI .i64 H772 p777 fun n778 =>
bif decide (n778 ≥ 0) then (hfad 2 p771 fun p779 =>
ldI .i64 H772 p779 fun n780 =>
K (decide (n780 < n770)) H772)
 else (K false H772))
 else (K false H772))
 else (K false H772)

def L_inside {R : Type} (n765 : Int) (n766 : Int) (n767 : Int) (n768 : Int) (n769 : Int) (n770 : Int) (H : Heap) (K : Bool → Heap → Option R) : Option R := L_inside_b 0 n765 n766 n767 n768 n769 n770 H K

def L_inside_Ct {R : Type} : Tab R := fun _ _ _ _ => none
def L_inside_C (R : Type) (k : Nat) : Tab R := L_inside_Ct
theorem L_inside_S (R : Type) (k : Nat) : CSound Try.prog (L_inside_C R k) := csound_nil
def L_inside_Jt {R : Type} (k : Nat) : JTab R := fun _ _ _ _ => none
def L_inside_J (R : Type) (k : Nat) : JTab R := L_inside_Jt k
def L_inside_at : AT := (.seq (.reg [1, 2, 3] []) (.seq (.reg [6] []) .leaf))
def L_inside_f : IFn := ⟨27, [.t 6], (.seq (.reg [⟨some 3, .box (.t 0), none⟩,
 ⟨some 6, .mov (.c (Go.Value.bool false)), none⟩] [1, 2, 3]) (.seq (.reg [⟨some 7, .fad 1 (.t 3), none⟩,
 ⟨some 8, .ld (.sc (.int .i64)) (.t 7), none⟩,
 ⟨some 9, .cmp .geq (.t 8) (.c (Go.Value.int Go.IntKind.i64 0)), none⟩,
 ⟨some 10, .mov (.t 9), none⟩,
 ⟨some 11, .fad 1 (.t 3), some (10, true)⟩,
 ⟨some 12, .ld (.sc (.int .i64)) (.t 11), some (10, true)⟩,
 ⟨some 13, .mov (.t 1), some (10, true)⟩,
 ⟨some 14, .cmp .lss (.t 12) (.t 13), some (10, true)⟩,
 ⟨some 15, .pick (.t 10) (.t 14) (.c (Go.Value.bool false)), none⟩,
 ⟨some 16, .mov (.t 15), none⟩,
 ⟨some 17, .fad 2 (.t 3), some (16, true)⟩,
 ⟨some 18, .ld (.sc (.int .i64)) (.t 17), some (16, true)⟩,
 ⟨some 19, .cmp .geq (.t 18) (.c (Go.Value.int Go.IntKind.i64 0)), some (16, true)⟩,
 ⟨some 20, .pick (.t 16) (.t 19) (.c (Go.Value.bool false)), none⟩,
 ⟨some 21, .mov (.t 20), none⟩,
 ⟨some 22, .fad 2 (.t 3), some (21, true)⟩,
 ⟨some 23, .ld (.sc (.int .i64)) (.t 22), some (21, true)⟩,
 ⟨some 24, .mov (.t 2), some (21, true)⟩,
 ⟨some 25, .cmp .lss (.t 23) (.t 24), some (21, true)⟩,
 ⟨some 26, .pick (.t 21) (.t 25) (.c (Go.Value.bool false)), none⟩,
 ⟨some 6, .mov (.t 26), none⟩] [6]) .ret))⟩
def L_inside_ca {R : Type} (f : L_inside_t R) (args : List Value) (H : Heap) (K : Value → Heap → Option R) : Option R :=
  match args with
  | [.agg ⟨[.int .i64 n765, .int .i64 n766, .int .i64 n767, .int .i64 n768]⟩, .int .i64 n769, .int .i64 n770] => f n765 n766 n767 n768 n769 n770 H (fun t1922 H => K (.bool t1922) H)
  | _ => none
def L_inside_c (R : Type) (k : Nat) (args : List Value) (H : Heap) (K : Value → Heap → Option R) : Option R := L_inside_ca L_inside args H K
theorem L_inside_e {R : Type} (k : Nat) (n765 : Int) (n766 : Int) (n767 : Int) (n768 : Int) (n769 : Int) (n770 : Int) (H : Heap) (K : Value → Heap → Option R) : evF (L_inside_Ct) (L_inside_Jt k) L_inside_f [.agg ⟨[.int .i64 n765, .int .i64 n766, .int .i64 n767, .int .i64 n768]⟩, .int .i64 n769, .int .i64 n770] H K = L_inside_b k n765 n766 n767 n768 n769 n770 H (fun t1922 H => K (.bool t1922) H) := by kernel_rfl
theorem L_inside_cs (R : Type) (k : Nat) : ∀ args H K r, L_inside_c R k args H K = some r → ∃ v H', Tri Try.prog 34 args H v H' ∧ K v H' = some r := by
  intro args H K r h
  unfold L_inside_c L_inside_ca at h
  split at h
  · exact evF_ok (C := L_inside_C R 0) (an := An) (t := L_inside_at) (fn := Try.f34) (c := (Try.f34.body.getD .skip)) (ifn := L_inside_f) (L_inside_S R 0) (L_inside_J R 0) Try.func34 (by kernel_rfl) (by kernel_rfl) (And.intro True.intro (And.intro True.intro True.intro)) rfl (Eq.trans (L_inside_e 0 _ _ _ _ _ _ H K) h)
  · cases h
/-! ### L_TagtreeReturns: function 8 -/
abbrev L_TagtreeReturns_p2_t (R : Type) : Type := Int → Int → Oa → Nat → Nat → Oa → Oa → Oa → Nat → Nat → Oa → Oa → Nat → Nat → Int → Int → Heap → (Int → Int → Oa → Nat → Nat → Oa → Oa → Oa → Nat → Nat → Oa → Nat → Nat → Int → Int → Heap → Option R) → (Int → Int → Oa → Nat → Nat → Oa → Oa → Oa → Nat → Nat → Oa → Oa → Nat → Nat → Int → Int → Heap → Option R) → Option R
def L_TagtreeReturns_p2_b {R : Type} (tagtree_Tree_Set : tagtree_Tree_Set_t R) (k : Nat) (n671 : Int) (n672 : Int) (q673 : Oa) (l674 : Nat) (c675 : Nat) (p676 : Oa) (p677 : Oa) (q678 : Oa) (l679 : Nat) (c680 : Nat) (p681 : Oa) (q682 : Oa) (l683 : Nat) (c684 : Nat) (n685 : Int) (n686 : Int) (H : Heap) (KE1 : Int → Int → Oa → Nat → Nat → Oa → Oa → Oa → Nat → Nat → Oa → Nat → Nat → Int → Int → Heap → Option R) (KN : Int → Int → Oa → Nat → Nat → Oa → Oa → Oa → Nat → Nat → Oa → Oa → Nat → Nat → Int → Int → Heap → Option R) : Option R :=
hfad 0 p681 fun p687 =>
ldI .i64 H p687 fun n688 =>
bif (n688 != 0) then (KE1 n671 n672 q673 l674 c675 p676 p677 q678 l679 c680 q682 l683 c684 n685 n686 H)
 else (hfad 1 p681 fun p689 =>
ldI .i64 H p689 fun n690 =>
hfad 2 p681 fun p691 =>
ldI .i64 H p691 fun n692 =>
hfad 3 p681 fun p693 =>
ldI .i64 H p693 fun n694 =>
tagtree_Tree_Set p676 n690 n692 n694 H fun n695 H696 =>
bif (n695 != 0) then (KE1 n671 n672 q673 l674 c675 p676 p677 q678 l679 c680 q682 l683 c684 n685 n686 H696)
 else (KN n671 n672 q673 l674 c675 p676 p677 q678 l679 c680 p681 q682 l683 c684 n685 n686 H696))
def L_TagtreeReturns_p2 {R : Type} (k : Nat) (n671 : Int) (n672 : Int) (q673 : Oa) (l674 : Nat) (c675 : Nat) (p676 : Oa) (p677 : Oa) (q678 : Oa) (l679 : Nat) (c680 : Nat) (p681 : Oa) (q682 : Oa) (l683 : Nat) (c684 : Nat) (n685 : Int) (n686 : Int) (H : Heap) (KE1 : Int → Int → Oa → Nat → Nat → Oa → Oa → Oa → Nat → Nat → Oa → Nat → Nat → Int → Int → Heap → Option R) (KN : Int → Int → Oa → Nat → Nat → Oa → Oa → Oa → Nat → Nat → Oa → Oa → Nat → Nat → Int → Int → Heap → Option R) : Option R := L_TagtreeReturns_p2_b (tagtree_Tree_Set k) k n671 n672 q673 l674 c675 p676 p677 q678 l679 c680 p681 q682 l683 c684 n685 n686 H KE1 KN

abbrev L_TagtreeReturns_p1_t (R : Type) : Type := Int → Int → Oa → Nat → Nat → Oa → Oa → Oa → Nat → Nat → Oa → Nat → Nat → Int → Int → Heap → (Int → Int → Oa → Nat → Nat → Oa → Oa → Oa → Nat → Nat → Oa → Nat → Nat → Int → Int → Heap → Option R) → (Bool → Heap → Option R) → Option R
def L_TagtreeReturns_p1_b {R : Type} (L_TagtreeReturns_p2 : L_TagtreeReturns_p2_t R) (L_inside : L_inside_t R) (k : Nat) (n648 : Int) (n649 : Int) (q650 : Oa) (l651 : Nat) (c652 : Nat) (p653 : Oa) (p654 : Oa) (q655 : Oa) (l656 : Nat) (c657 : Nat) (q658 : Oa) (l659 : Nat) (c660 : Nat) (n661 : Int) (n662 : Int) (H : Heap) (KN : Int → Int → Oa → Nat → Nat → Oa → Oa → Oa → Nat → Nat → Oa → Nat → Nat → Int → Int → Heap → Option R) (KR : Bool → Heap → Option R) : Option R :=
hidx q658 l659 n662 4 fun p663 =>
ldI .i64 H (pad p663 0) fun n664 =>
ldI .i64 H (pad p663 1) fun n665 =>
ldI .i64 H (pad p663 2) fun n666 =>
ldI .i64 H (pad p663 3) fun n667 =>
hal H [.int .i64 0, .int .i64 0, .int .i64 0, .int .i64 0] fun p668 H669 =>
hst H669 p668 [.int .i64 n664, .int .i64 n665, .int .i64 n666, .int .i64 n667] fun H670 =>
L_TagtreeReturns_p2 n648 n649 q650 l651 c652 p653 p654 q655 l656 c657 p668 q658 l659 c660 n661 n662 H670 (fun n728 n729 q730 l731 c732 p733 p734 q735 l736 c737 q738 l739 c740 n741 n742 H743 =>
KN n728 n729 q730 l731 c732 p733 p734 q735 l736 c737 q738 l739 c740 n741 n742 H743) (fun n744 n745 q746 l747 c748 p749 p750 q751 l752 c753 p754 q755 l756 c757 n758 n759 H760 =>
ldI .i64 H760 (pad p754 0) fun n761 =>
ldI .i64 H760 (pad p754 1) fun n762 =>
ldI .i64 H760 (pad p754 2) fun n763 =>
ldI .i64 H760 (pad p754 3) fun n764 =>
L_inside n761 n762 n763 n764 n744 n745 H760 fun t765 H766 =>
bif (!t765) then (KR false H766)
 else (hfad 2 p754 fun p767 =>
ldI .i64 H766 p767 fun n768 =>
hfad 1 p754 fun p769 =>
ldI .i64 H766 p769 fun n770 =>
hfad 3 p754 fun p771 =>
ldI .i64 H766 p771 fun n772 =>
hidx q751 l752 (IntKind.wrap .i64 ((IntKind.wrap .i64 (n768 * n744)) + n770)) 1 fun p773 =>
hst1 H766 p773 (.int .i64 n772) fun H774 =>
KN n744 n745 q746 l747 c748 p749 p750 q751 l752 c753 q755 l756 c757 n758 n759 H774))
def L_TagtreeReturns_p1 {R : Type} (k : Nat) (n648 : Int) (n649 : Int) (q650 : Oa) (l651 : Nat) (c652 : Nat) (p653 : Oa) (p654 : Oa) (q655 : Oa) (l656 : Nat) (c657 : Nat) (q658 : Oa) (l659 : Nat) (c660 : Nat) (n661 : Int) (n662 : Int) (H : Heap) (KN : Int → Int → Oa → Nat → Nat → Oa → Oa → Oa → Nat → Nat → Oa → Nat → Nat → Int → Int → Heap → Option R) (KR : Bool → Heap → Option R) : Option R := L_TagtreeReturns_p1_b (L_TagtreeReturns_p2 k) L_inside k n648 n649 q650 l651 c652 p653 p654 q655 l656 c657 q658 l659 c660 n661 n662 H KN KR

abbrev L_TagtreeReturns_l0_t (R : Type) : Type := (Int → Int → Oa → Nat → Nat → Oa → Oa → Oa → Nat → Nat → Heap → Option R) → (Bool → Heap → Option R) → Nat → Int → Int → Oa → Nat → Nat → Oa → Oa → Oa → Nat → Nat → Oa → Nat → Nat → Int → Int → Heap → Option R
def L_TagtreeReturns_l0_b {R : Type} (L_TagtreeReturns_p1 : L_TagtreeReturns_p1_t R) (rec : Int → Int → Oa → Nat → Nat → Oa → Oa → Oa → Nat → Nat → Oa → Nat → Nat → Int → Int → Heap → Option R) (KE0 : Int → Int → Oa → Nat → Nat → Oa → Oa → Oa → Nat → Nat → Heap → Option R) (KR : Bool → Heap → Option R) (k : Nat) (n633 : Int) (n634 : Int) (q635 : Oa) (l636 : Nat) (c637 : Nat) (p638 : Oa) (p639 : Oa) (q640 : Oa) (l641 : Nat) (c642 : Nat) (q643 : Oa) (l644 : Nat) (c645 : Nat) (n646 : Int) (n647 : Int) (H : Heap) : Option R :=
bif decide (n647 < n646) then (L_TagtreeReturns_p1 n633 n634 q635 l636 c637 p638 p639 q640 l641 c642 q643 l644 c645 n646 n647 H (fun n791 n792 q793 l794 c795 p796 p797 q798 l799 c800 q801 l802 c803 n804 n805 H806 =>
rec n791 n792 q793 l794 c795 p796 p797 q798 l799 c800 q801 l802 c803 n804 (IntKind.wrap .i64 (n805 + 1)) H806) (fun t807 H808 =>
KR t807 H808))
 else (KE0 n633 n634 q635 l636 c637 p638 p639 q640 l641 c642 H)
def L_TagtreeReturns_l0 {R : Type} (k : Nat) (KE0 : Int → Int → Oa → Nat → Nat → Oa → Oa → Oa → Nat → Nat → Heap → Option R) (KR : Bool → Heap → Option R) : Nat → Int → Int → Oa → Nat → Nat → Oa → Oa → Oa → Nat → Nat → Oa → Nat → Nat → Int → Int → Heap → Option R
  | 0, _, _, _, _, _, _, _, _, _, _, _, _, _, _, _, _ => none
  | n + 1, n633, n634, q635, l636, c637, p638, p639, q640, l641, c642, q643, l644, c645, n646, n647, H => L_TagtreeReturns_l0_b (L_TagtreeReturns_p1 k) (L_TagtreeReturns_l0 k KE0 KR n) KE0 KR k n633 n634 q635 l636 c637 p638 p639 q640 l641 c642 q643 l644 c645 n646 n647 H

abbrev L_TagtreeReturns_p5_t (R : Type) : Type := Int → Int → Oa → Oa → Oa → Nat → Nat → Oa → Oa → Nat → Nat → Oa → Oa → Nat → Nat → Int → Int → Heap → (Int → Int → Oa → Oa → Oa → Nat → Nat → Oa → Oa → Nat → Nat → Oa → Nat → Nat → Int → Int → Heap → Option R) → (Int → Int → Oa → Oa → Oa → Nat → Nat → Oa → Oa → Nat → Nat → Oa → Oa → Nat → Nat → Int → Int → Heap → Option R) → Option R
def L_TagtreeReturns_p5_b {R : Type} (tagtree_Tree_Encode : tagtree_Tree_Encode_t R) (k : Nat) (n873 : Int) (n874 : Int) (p875 : Oa) (p876 : Oa) (q877 : Oa) (l878 : Nat) (c879 : Nat) (p880 : Oa) (q881 : Oa) (l882 : Nat) (c883 : Nat) (p884 : Oa) (q885 : Oa) (l886 : Nat) (c887 : Nat) (n888 : Int) (n889 : Int) (H : Heap) (KE3 : Int → Int → Oa → Oa → Oa → Nat → Nat → Oa → Oa → Nat → Nat → Oa → Nat → Nat → Int → Int → Heap → Option R) (KN : Int → Int → Oa → Oa → Oa → Nat → Nat → Oa → Oa → Nat → Nat → Oa → Oa → Nat → Nat → Int → Int → Heap → Option R) : Option R :=
hfad 0 p884 fun p890 =>
ldI .i64 H p890 fun n891 =>
bif (n891 != 1) then (KE3 n873 n874 p875 p876 q877 l878 c879 p880 q881 l882 c883 q885 l886 c887 n888 n889 H)
 else (hfad 1 p884 fun p892 =>
ldI .i64 H p892 fun n893 =>
hfad 2 p884 fun p894 =>
ldI .i64 H p894 fun n895 =>
hfad 3 p884 fun p896 =>
ldI .i64 H p896 fun n897 =>
tagtree_Tree_Encode p875 p880 n893 n895 n897 H fun n898 H899 =>
bif (n898 != 0) then (KE3 n873 n874 p875 p876 q877 l878 c879 p880 q881 l882 c883 q885 l886 c887 n888 n889 H899)
 else (KN n873 n874 p875 p876 q877 l878 c879 p880 q881 l882 c883 p884 q885 l886 c887 n888 n889 H899))
def L_TagtreeReturns_p5 {R : Type} (k : Nat) (n873 : Int) (n874 : Int) (p875 : Oa) (p876 : Oa) (q877 : Oa) (l878 : Nat) (c879 : Nat) (p880 : Oa) (q881 : Oa) (l882 : Nat) (c883 : Nat) (p884 : Oa) (q885 : Oa) (l886 : Nat) (c887 : Nat) (n888 : Int) (n889 : Int) (H : Heap) (KE3 : Int → Int → Oa → Oa → Oa → Nat → Nat → Oa → Oa → Nat → Nat → Oa → Nat → Nat → Int → Int → Heap → Option R) (KN : Int → Int → Oa → Oa → Oa → Nat → Nat → Oa → Oa → Nat → Nat → Oa → Oa → Nat → Nat → Int → Int → Heap → Option R) : Option R := L_TagtreeReturns_p5_b (tagtree_Tree_Encode k) k n873 n874 p875 p876 q877 l878 c879 p880 q881 l882 c883 p884 q885 l886 c887 n888 n889 H KE3 KN

abbrev L_TagtreeReturns_p4_t (R : Type) : Type := Int → Int → Oa → Oa → Oa → Nat → Nat → Oa → Oa → Nat → Nat → Oa → Nat → Nat → Int → Int → Heap → (Int → Int → Oa → Oa → Oa → Nat → Nat → Oa → Oa → Nat → Nat → Oa → Nat → Nat → Int → Int → Heap → Option R) → (Bool → Heap → Option R) → Option R
def L_TagtreeReturns_p4_b {R : Type} (L_TagtreeReturns_p5 : L_TagtreeReturns_p5_t R) (L_inside : L_inside_t R) (k : Nat) (n849 : Int) (n850 : Int) (p851 : Oa) (p852 : Oa) (q853 : Oa) (l854 : Nat) (c855 : Nat) (p856 : Oa) (q857 : Oa) (l858 : Nat) (c859 : Nat) (q860 : Oa) (l861 : Nat) (c862 : Nat) (n863 : Int) (n864 : Int) (H : Heap) (KN : Int → Int → Oa → Oa → Oa → Nat → Nat → Oa → Oa → Nat → Nat → Oa → Nat → Nat → Int → Int → Heap → Option R) (KR : Bool → Heap → Option R) : Option R :=
hidx q860 l861 n864 4 fun p865 =>
ldI .i64 H (pad p865 0) fun n866 =>
ldI .i64 H (pad p865 1) fun n867 =>
ldI .i64 H (pad p865 2) fun n868 =>
ldI .i64 H (pad p865 3) fun n869 =>
hal H [.int .i64 0, .int .i64 0, .int .i64 0, .int .i64 0] fun p870 H871 =>
hst H871 p870 [.int .i64 n866, .int .i64 n867, .int .i64 n868, .int .i64 n869] fun H872 =>
L_TagtreeReturns_p5 n849 n850 p851 p852 q853 l854 c855 p856 q857 l858 c859 p870 q860 l861 c862 n863 n864 H872 (fun n933 n934 p935 p936 q937 l938 c939 p940 q941 l942 c943 q944 l945 c946 n947 n948 H949 =>
KN n933 n934 p935 p936 q937 l938 c939 p940 q941 l942 c943 q944 l945 c946 n947 n948 H949) (fun n950 n951 p952 p953 q954 l955 c956 p957 q958 l959 c960 p961 q962 l963 c964 n965 n966 H967 =>
ldI .i64 H967 (pad p961 0) fun n968 =>
ldI .i64 H967 (pad p961 1) fun n969 =>
ldI .i64 H967 (pad p961 2) fun n970 =>
ldI .i64 H967 (pad p961 3) fun n971 =>
L_inside n968 n969 n970 n971 n950 n951 H967 fun t972 H973 =>
bif (!t972) then (KR false H973)
 else (ldI .i64 H973 (pad p961 0) fun n974 =>
ldI .i64 H973 (pad p961 1) fun n975 =>
ldI .i64 H973 (pad p961 2) fun n976 =>
ldI .i64 H973 (pad p961 3) fun n977 =>
hal H973 [.int .i64 n974, .int .i64 n975, .int .i64 n976, .int .i64 n977] fun p978 H979 =>
happS 4 32 H979 q958 l959 c960 p978 1 fun q980 l981 c982 H983 =>
KN n950 n951 p952 p953 q954 l955 c956 p957 q980 l981 c982 q962 l963 c964 n965 n966 H983))
def L_TagtreeReturns_p4 {R : Type} (k : Nat) (n849 : Int) (n850 : Int) (p851 : Oa) (p852 : Oa) (q853 : Oa) (l854 : Nat) (c855 : Nat) (p856 : Oa) (q857 : Oa) (l858 : Nat) (c859 : Nat) (q860 : Oa) (l861 : Nat) (c862 : Nat) (n863 : Int) (n864 : Int) (H : Heap) (KN : Int → Int → Oa → Oa → Oa → Nat → Nat → Oa → Oa → Nat → Nat → Oa → Nat → Nat → Int → Int → Heap → Option R) (KR : Bool → Heap → Option R) : Option R := L_TagtreeReturns_p4_b (L_TagtreeReturns_p5 k) L_inside k n849 n850 p851 p852 q853 l854 c855 p856 q857 l858 c859 q860 l861 c862 n863 n864 H KN KR

abbrev L_TagtreeReturns_l3_t (R : Type) : Type := (Int → Oa → Oa → Nat → Nat → Oa → Oa → Nat → Nat → Heap → Option R) → (Bool → Heap → Option R) → Nat → Int → Int → Oa → Oa → Oa → Nat → Nat → Oa → Oa → Nat → Nat → Oa → Nat → Nat → Int → Int → Heap → Option R
def L_TagtreeReturns_l3_b {R : Type} (L_TagtreeReturns_p4 : L_TagtreeReturns_p4_t R) (rec : Int → Int → Oa → Oa → Oa → Nat → Nat → Oa → Oa → Nat → Nat → Oa → Nat → Nat → Int → Int → Heap → Option R) (KE2 : Int → Oa → Oa → Nat → Nat → Oa → Oa → Nat → Nat → Heap → Option R) (KR : Bool → Heap → Option R) (k : Nat) (n833 : Int) (n834 : Int) (p835 : Oa) (p836 : Oa) (q837 : Oa) (l838 : Nat) (c839 : Nat) (p840 : Oa) (q841 : Oa) (l842 : Nat) (c843 : Nat) (q844 : Oa) (l845 : Nat) (c846 : Nat) (n847 : Int) (n848 : Int) (H : Heap) : Option R :=
bif decide (n848 < n847) then (L_TagtreeReturns_p4 n833 n834 p835 p836 q837 l838 c839 p840 q841 l842 c843 q844 l845 c846 n847 n848 H (fun n1001 n1002 p1003 p1004 q1005 l1006 c1007 p1008 q1009 l1010 c1011 q1012 l1013 c1014 n1015 n1016 H1017 =>
rec n1001 n1002 p1003 p1004 q1005 l1006 c1007 p1008 q1009 l1010 c1011 q1012 l1013 c1014 n1015 (IntKind.wrap .i64 (n1016 + 1)) H1017) (fun t1018 H1019 =>
KR t1018 H1019))
 else (KE2 n833 p836 q837 l838 c839 p840 q841 l842 c843 H)
def L_TagtreeReturns_l3 {R : Type} (k : Nat) (KE2 : Int → Oa → Oa → Nat → Nat → Oa → Oa → Nat → Nat → Heap → Option R) (KR : Bool → Heap → Option R) : Nat → Int → Int → Oa → Oa → Oa → Nat → Nat → Oa → Oa → Nat → Nat → Oa → Nat → Nat → Int → Int → Heap → Option R
  | 0, _, _, _, _, _, _, _, _, _, _, _, _, _, _, _, _, _ => none
  | n + 1, n833, n834, p835, p836, q837, l838, c839, p840, q841, l842, c843, q844, l845, c846, n847, n848, H => L_TagtreeReturns_l3_b (L_TagtreeReturns_p4 k) (L_TagtreeReturns_l3 k KE2 KR n) KE2 KR k n833 n834 p835 p836 q837 l838 c839 p840 q841 l842 c843 q844 l845 c846 n847 n848 H

abbrev L_TagtreeReturns_p8_t (R : Type) : Type := Int → Oa → Oa → Nat → Nat → Oa → Oa → Bool → Int → Int → Oa → Nat → Nat → Int → Int → Heap → (Int → Oa → Oa → Nat → Nat → Oa → Oa → Bool → Int → Oa → Nat → Nat → Int → Int → Option R) → (Bool → Option R) → Option R
def L_TagtreeReturns_p8_b {R : Type} (k : Nat) (n1091 : Int) (p1092 : Oa) (q1093 : Oa) (l1094 : Nat) (c1095 : Nat) (p1096 : Oa) (p1097 : Oa) (t1098 : Bool) (n1099 : Int) (n1100 : Int) (q1101 : Oa) (l1102 : Nat) (c1103 : Nat) (n1104 : Int) (n1105 : Int) (H : Heap) (KN : Int → Oa → Oa → Nat → Nat → Oa → Oa → Bool → Int → Oa → Nat → Nat → Int → Int → Option R) (KR : Bool → Option R) : Option R :=
bif (n1099 != 0) then (KR false)
 else (hfad 3 p1097 fun p1106 =>
ldI .i64 H p1106 fun n1107 =>
bif !(t1098 == (decide (n1100 < n1107))) then (KR false)
 else (KN n1091 p1092 q1093 l1094 c1095 p1096 p1097 t1098 n1100 q1101 l1102 c1103 n1104 n1105))
def L_TagtreeReturns_p8 {R : Type} (k : Nat) (n1091 : Int) (p1092 : Oa) (q1093 : Oa) (l1094 : Nat) (c1095 : Nat) (p1096 : Oa) (p1097 : Oa) (t1098 : Bool) (n1099 : Int) (n1100 : Int) (q1101 : Oa) (l1102 : Nat) (c1103 : Nat) (n1104 : Int) (n1105 : Int) (H : Heap) (KN : Int → Oa → Oa → Nat → Nat → Oa → Oa → Bool → Int → Oa → Nat → Nat → Int → Int → Option R) (KR : Bool → Option R) : Option R := L_TagtreeReturns_p8_b k n1091 p1092 q1093 l1094 c1095 p1096 p1097 t1098 n1099 n1100 q1101 l1102 c1103 n1104 n1105 H KN KR

abbrev L_TagtreeReturns_p7_t (R : Type) : Type := Int → Oa → Oa → Nat → Nat → Oa → Oa → Nat → Nat → Int → Int → Heap → (Int → Oa → Oa → Nat → Nat → Oa → Oa → Nat → Nat → Int → Int → Heap → Option R) → (Bool → Heap → Option R) → Option R
def L_TagtreeReturns_p7_b {R : Type} (tagtree_Tree_Decode : tagtree_Tree_Decode_t R) (L_TagtreeReturns_p8 : L_TagtreeReturns_p8_t R) (tagtree_Tree_Value : tagtree_Tree_Value_t R) (k : Nat) (n1057 : Int) (p1058 : Oa) (q1059 : Oa) (l1060 : Nat) (c1061 : Nat) (p1062 : Oa) (q1063 : Oa) (l1064 : Nat) (c1065 : Nat) (n1066 : Int) (n1067 : Int) (H : Heap) (KN : Int → Oa → Oa → Nat → Nat → Oa → Oa → Nat → Nat → Int → Int → Heap → Option R) (KR : Bool → Heap → Option R) : Option R :=
hidx q1063 l1064 n1067 4 fun p1068 =>
ldI .i64 H (pad p1068 0) fun n1069 =>
ldI .i64 H (pad p1068 1) fun n1070 =>
ldI .i64 H (pad p1068 2) fun n1071 =>
ldI .i64 H (pad p1068 3) fun n1072 =>
hal H [.int .i64 0, .int .i64 0, .int .i64 0, .int .i64 0] fun p1073 H1074 =>
hst H1074 p1073 [.int .i64 n1069, .int .i64 n1070, .int .i64 n1071, .int .i64 n1072] fun H1075 =>
hfad 1 p1073 fun p1076 =>
ldI .i64 H1075 p1076 fun n1077 =>
hfad 2 p1073 fun p1078 =>
ldI .i64 H1075 p1078 fun n1079 =>
hfad 3 p1073 fun p1080 =>
ldI .i64 H1075 p1080 fun n1081 =>
tagtree_Tree_Decode p1058 p1062 n1077 n1079 n1081 H1075 fun t1082 n1083 H1084 =>
hfad 2 p1073 fun p1085 =>
ldI .i64 H1084 p1085 fun n1086 =>
hfad 1 p1073 fun p1087 =>
ldI .i64 H1084 p1087 fun n1088 =>
hidx q1059 l1060 (IntKind.wrap .i64 ((IntKind.wrap .i64 (n1086 * n1057)) + n1088)) 1 fun p1089 =>
ldI .i64 H1084 p1089 fun n1090 =>
L_TagtreeReturns_p8 n1057 p1058 q1059 l1060 c1061 p1062 p1073 t1082 n1083 n1090 q1063 l1064 c1065 n1066 n1067 H1084 (fun n1123 p1124 q1125 l1126 c1127 p1128 p1129 t1130 n1131 q1132 l1133 c1134 n1135 n1136 =>
hfad 1 p1129 fun p1137 =>
ldI .i64 H1084 p1137 fun n1138 =>
hfad 2 p1129 fun p1139 =>
ldI .i64 H1084 p1139 fun n1140 =>
tagtree_Tree_Value p1124 n1138 n1140 H1084 fun n1141 t1142 H1143 =>
bif t1130 then (bif (!t1142) then (KR false H1143)
 else (bif (n1141 != n1131) then (KR false H1143)
 else (KN n1123 p1124 q1125 l1126 c1127 p1128 q1132 l1133 c1134 n1135 n1136 H1143)))
 else (KN n1123 p1124 q1125 l1126 c1127 p1128 q1132 l1133 c1134 n1135 n1136 H1143)) (fun t1144 =>
KR t1144 H1084)
def L_TagtreeReturns_p7 {R : Type} (k : Nat) (n1057 : Int) (p1058 : Oa) (q1059 : Oa) (l1060 : Nat) (c1061 : Nat) (p1062 : Oa) (q1063 : Oa) (l1064 : Nat) (c1065 : Nat) (n1066 : Int) (n1067 : Int) (H : Heap) (KN : Int → Oa → Oa → Nat → Nat → Oa → Oa → Nat → Nat → Int → Int → Heap → Option R) (KR : Bool → Heap → Option R) : Option R := L_TagtreeReturns_p7_b (tagtree_Tree_Decode k) (L_TagtreeReturns_p8 k) (tagtree_Tree_Value k) k n1057 p1058 q1059 l1060 c1061 p1062 q1063 l1064 c1065 n1066 n1067 H KN KR

abbrev L_TagtreeReturns_l6_t (R : Type) : Type := (Heap → Option R) → (Bool → Heap → Option R) → Nat → Int → Oa → Oa → Nat → Nat → Oa → Oa → Nat → Nat → Int → Int → Heap → Option R
def L_TagtreeReturns_l6_b {R : Type} (L_TagtreeReturns_p7 : L_TagtreeReturns_p7_t R) (rec : Int → Oa → Oa → Nat → Nat → Oa → Oa → Nat → Nat → Int → Int → Heap → Option R) (KE4 : Heap → Option R) (KR : Bool → Heap → Option R) (k : Nat) (n1046 : Int) (p1047 : Oa) (q1048 : Oa) (l1049 : Nat) (c1050 : Nat) (p1051 : Oa) (q1052 : Oa) (l1053 : Nat) (c1054 : Nat) (n1055 : Int) (n1056 : Int) (H : Heap) : Option R :=
bif decide (n1056 < n1055) then (L_TagtreeReturns_p7 n1046 p1047 q1048 l1049 c1050 p1051 q1052 l1053 c1054 n1055 n1056 H (fun n1157 p1158 q1159 l1160 c1161 p1162 q1163 l1164 c1165 n1166 n1167 H1168 =>
rec n1157 p1158 q1159 l1160 c1161 p1162 q1163 l1164 c1165 n1166 (IntKind.wrap .i64 (n1167 + 1)) H1168) (fun t1169 H1170 =>
KR t1169 H1170))
 else (KE4 H)
def L_TagtreeReturns_l6 {R : Type} (k : Nat) (KE4 : Heap → Option R) (KR : Bool → Heap → Option R) : Nat → Int → Oa → Oa → Nat → Nat → Oa → Oa → Nat → Nat → Int → Int → Heap → Option R
  | 0, _, _, _, _, _, _, _, _, _, _, _, _ => none
  | n + 1, n1046, p1047, q1048, l1049, c1050, p1051, q1052, l1053, c1054, n1055, n1056, H => L_TagtreeReturns_l6_b (L_TagtreeReturns_p7 k) (L_TagtreeReturns_l6 k KE4 KR n) KE4 KR k n1046 p1047 q1048 l1049 c1050 p1051 q1052 l1053 c1054 n1055 n1056 H

abbrev L_TagtreeReturns_t (R : Type) : Type := Int → Int → Oa → Nat → Nat → Heap → (Bool → Heap → Option R) → Option R

def L_TagtreeReturns_b {R : Type} (L_small : L_small_t R) (L_exampleHoldsq : L_exampleHoldsq_t R) (tagtree_New : tagtree_New_t R) (L_TagtreeReturns_l0 : L_TagtreeReturns_l0_t R) (bitio_NewWriter : bitio_NewWriter_t R) (L_TagtreeReturns_l3 : L_TagtreeReturns_l3_t R) (bitio_Writer_Bytes : bitio_Writer_Bytes_t R) (bitio_NewReader : bitio_NewReader_t R) (L_TagtreeReturns_l6 : L_TagtreeReturns_l6_t R) (k : Nat) (n614 : Int) (n615 : Int) (q616 : Oa) (l617 : Nat) (c618 : Nat) (H : Heap) (K : Bool → Heap → Option R) : Option R :=
L_small n614 n615 q616 l617 c618 H fun t619 H620 =>
bif (!t619) then (L_exampleHoldsq fun t621 =>
K t621 H620)
 else (tagtree_New n614 n615 H620 fun p622 n623 H624 =>
tagtree_New n614 n615 H624 fun p625 n626 H627 =>
bif (n623 != n626) then (K false H627)
 else (bif (n623 != 0) then (L_exampleHoldsq fun t628 =>
K t628 H627)
 else (hmk [.int .i64 0] 8 H627 (IntKind.wrap .i64 (n614 * n615)) (IntKind.wrap .i64 (n614 * n615)) fun q629 l630 c631 H632 =>
L_TagtreeReturns_l0 (fun n820 n821 q822 l823 c824 p825 p826 q827 l828 c829 H830 =>
bitio_NewWriter H830 fun p831 H832 =>
L_TagtreeReturns_l3 (fun n1030 p1031 q1032 l1033 c1034 p1035 q1036 l1037 c1038 H1039 =>
bitio_Writer_Bytes p1035 H1039 fun q1040 l1041 c1042 H1043 =>
bitio_NewReader q1040 l1041 c1042 H1043 fun p1044 H1045 =>
L_TagtreeReturns_l6 (fun H1172 =>
L_exampleHoldsq fun t1173 =>
K t1173 H1172) (fun t1174 H1175 =>
K t1174 H1175) k n1030 p1031 q1032 l1033 c1034 p1044 q1036 l1037 c1038 ((l1037 : Nat) : Int) 0 H1045) (fun t1176 H1177 =>
K t1176 H1177) k n820 n821 p825 p826 q827 l828 c829 p831 none 0 0 q822 l823 c824 ((l823 : Nat) : Int) 0 H832) (fun t1178 H1179 =>
K t1178 H1179) k n614 n615 q616 l617 c618 p622 p625 q629 l630 c631 q616 l617 c618 ((l617 : Nat) : Int) 0 H632)))

def L_TagtreeReturns {R : Type} (k : Nat) (n614 : Int) (n615 : Int) (q616 : Oa) (l617 : Nat) (c618 : Nat) (H : Heap) (K : Bool → Heap → Option R) : Option R := L_TagtreeReturns_b (L_small k) L_exampleHoldsq (tagtree_New k) (L_TagtreeReturns_l0 k) bitio_NewWriter (L_TagtreeReturns_l3 k) (bitio_Writer_Bytes k) bitio_NewReader (L_TagtreeReturns_l6 k) k n614 n615 q616 l617 c618 H K

def L_TagtreeReturns_Ct {R : Type} (L_small : L_small_t R) (L_exampleHoldsq : L_exampleHoldsq_t R) (tagtree_New : tagtree_New_t R) (tagtree_Tree_Set : tagtree_Tree_Set_t R) (L_inside : L_inside_t R) (bitio_NewWriter : bitio_NewWriter_t R) (tagtree_Tree_Encode : tagtree_Tree_Encode_t R) (bitio_Writer_Bytes : bitio_Writer_Bytes_t R) (bitio_NewReader : bitio_NewReader_t R) (tagtree_Tree_Decode : tagtree_Tree_Decode_t R) (tagtree_Tree_Value : tagtree_Tree_Value_t R) : Tab R := tcons 16 (L_small_ca L_small) <| tcons 15 (L_exampleHoldsq_ca L_exampleHoldsq) <| tcons 11 (tagtree_New_ca tagtree_New) <| tcons 19 (tagtree_Tree_Set_ca tagtree_Tree_Set) <| tcons 34 (L_inside_ca L_inside) <| tcons 17 (bitio_NewWriter_ca bitio_NewWriter) <| tcons 21 (tagtree_Tree_Encode_ca tagtree_Tree_Encode) <| tcons 28 (bitio_Writer_Bytes_ca bitio_Writer_Bytes) <| tcons 30 (bitio_NewReader_ca bitio_NewReader) <| tcons 32 (tagtree_Tree_Decode_ca tagtree_Tree_Decode) <| tcons 25 (tagtree_Tree_Value_ca tagtree_Tree_Value) <| fun _ _ _ _ => none
def L_TagtreeReturns_C (R : Type) (k : Nat) : Tab R := L_TagtreeReturns_Ct (L_small k) L_exampleHoldsq (tagtree_New k) (tagtree_Tree_Set k) L_inside bitio_NewWriter (tagtree_Tree_Encode k) (bitio_Writer_Bytes k) bitio_NewReader (tagtree_Tree_Decode k) (tagtree_Tree_Value k)
theorem L_TagtreeReturns_S (R : Type) (k : Nat) : CSound Try.prog (L_TagtreeReturns_C R k) := csound_cons (L_small_cs R k) <| csound_cons (L_exampleHoldsq_cs R k) <| csound_cons (tagtree_New_cs R k) <| csound_cons (tagtree_Tree_Set_cs R k) <| csound_cons (L_inside_cs R k) <| csound_cons (bitio_NewWriter_cs R k) <| csound_cons (tagtree_Tree_Encode_cs R k) <| csound_cons (bitio_Writer_Bytes_cs R k) <| csound_cons (bitio_NewReader_cs R k) <| csound_cons (tagtree_Tree_Decode_cs R k) <| csound_cons (tagtree_Tree_Value_cs R k) <| csound_nil
def L_TagtreeReturns_aa0 {R : Type} (f : L_TagtreeReturns_l0_t R) (n : Nat) (vals : List Value) (H : Heap) (K : Xit → Env → Heap → Option R) : Option R :=
  match vals with
  | [.int .i64 n633, .int .i64 n634, .slice q635 l636 c637, .pointer p638, .pointer p639, .slice q640 l641 c642, .slice q643 l644 c645, .int .i64 n646, .int .i64 n647] => f (fun n1923 n1924 q1925 l1926 c1927 p1928 p1929 q1930 l1931 c1932 H => K (.exit 0) [(0, .int .i64 n1923), (1, .int .i64 n1924), (2, .slice q1925 l1926 c1927), (7, .pointer p1928), (9, .pointer p1929), (11, .slice q1930 l1931 c1932)] H) (fun t1933 H => K .ret [(6, .bool t1933)] H) n n633 n634 q635 l636 c637 p638 p639 q640 l641 c642 q643 l644 c645 n646 n647 H
  | _ => none
def L_TagtreeReturns_a0 (R : Type) (k n : Nat) (vals : List Value) (H : Heap) (K : Xit → Env → Heap → Option R) : Option R := L_TagtreeReturns_aa0 (L_TagtreeReturns_l0 k) n vals H K
def L_TagtreeReturns_aa1 {R : Type} (f : L_TagtreeReturns_p1_t R) (n : Nat) (vals : List Value) (H : Heap) (K : Xit → Env → Heap → Option R) : Option R :=
  match vals with
  | [.int .i64 n648, .int .i64 n649, .slice q650 l651 c652, .pointer p653, .pointer p654, .slice q655 l656 c657, .slice q658 l659 c660, .int .i64 n661, .int .i64 n662] => f n648 n649 q650 l651 c652 p653 p654 q655 l656 c657 q658 l659 c660 n661 n662 H (fun n1934 n1935 q1936 l1937 c1938 p1939 p1940 q1941 l1942 c1943 q1944 l1945 c1946 n1947 n1948 H => K .normal [(0, .int .i64 n1934), (1, .int .i64 n1935), (2, .slice q1936 l1937 c1938), (7, .pointer p1939), (9, .pointer p1940), (11, .slice q1941 l1942 c1943), (54, .slice q1944 l1945 c1946), (55, .int .i64 n1947), (56, .int .i64 n1948)] H) (fun t1949 H => K .ret [(6, .bool t1949)] H)
  | _ => none
def L_TagtreeReturns_a1 (R : Type) (k n : Nat) (vals : List Value) (H : Heap) (K : Xit → Env → Heap → Option R) : Option R := L_TagtreeReturns_aa1 (L_TagtreeReturns_p1 k) n vals H K
def L_TagtreeReturns_aa2 {R : Type} (f : L_TagtreeReturns_p2_t R) (n : Nat) (vals : List Value) (H : Heap) (K : Xit → Env → Heap → Option R) : Option R :=
  match vals with
  | [.int .i64 n671, .int .i64 n672, .slice q673 l674 c675, .pointer p676, .pointer p677, .slice q678 l679 c680, .pointer p681, .slice q682 l683 c684, .int .i64 n685, .int .i64 n686] => f n671 n672 q673 l674 c675 p676 p677 q678 l679 c680 p681 q682 l683 c684 n685 n686 H (fun n1950 n1951 q1952 l1953 c1954 p1955 p1956 q1957 l1958 c1959 q1960 l1961 c1962 n1963 n1964 H => K (.exit 1) [(0, .int .i64 n1950), (1, .int .i64 n1951), (2, .slice q1952 l1953 c1954), (7, .pointer p1955), (9, .pointer p1956), (11, .slice q1957 l1958 c1959), (54, .slice q1960 l1961 c1962), (55, .int .i64 n1963), (56, .int .i64 n1964)] H) (fun n1965 n1966 q1967 l1968 c1969 p1970 p1971 q1972 l1973 c1974 p1975 q1976 l1977 c1978 n1979 n1980 H => K .normal [(0, .int .i64 n1965), (1, .int .i64 n1966), (2, .slice q1967 l1968 c1969), (7, .pointer p1970), (9, .pointer p1971), (11, .slice q1972 l1973 c1974), (13, .pointer p1975), (54, .slice q1976 l1977 c1978), (55, .int .i64 n1979), (56, .int .i64 n1980)] H)
  | _ => none
def L_TagtreeReturns_a2 (R : Type) (k n : Nat) (vals : List Value) (H : Heap) (K : Xit → Env → Heap → Option R) : Option R := L_TagtreeReturns_aa2 (L_TagtreeReturns_p2 k) n vals H K
def L_TagtreeReturns_aa3 {R : Type} (f : L_TagtreeReturns_l3_t R) (n : Nat) (vals : List Value) (H : Heap) (K : Xit → Env → Heap → Option R) : Option R :=
  match vals with
  | [.int .i64 n833, .int .i64 n834, .pointer p835, .pointer p836, .slice q837 l838 c839, .pointer p840, .slice q841 l842 c843, .slice q844 l845 c846, .int .i64 n847, .int .i64 n848] => f (fun n1981 p1982 q1983 l1984 c1985 p1986 q1987 l1988 c1989 H => K (.exit 2) [(0, .int .i64 n1981), (9, .pointer p1982), (11, .slice q1983 l1984 c1985), (14, .pointer p1986), (15, .slice q1987 l1988 c1989)] H) (fun t1990 H => K .ret [(6, .bool t1990)] H) n n833 n834 p835 p836 q837 l838 c839 p840 q841 l842 c843 q844 l845 c846 n847 n848 H
  | _ => none
def L_TagtreeReturns_a3 (R : Type) (k n : Nat) (vals : List Value) (H : Heap) (K : Xit → Env → Heap → Option R) : Option R := L_TagtreeReturns_aa3 (L_TagtreeReturns_l3 k) n vals H K
def L_TagtreeReturns_aa4 {R : Type} (f : L_TagtreeReturns_p4_t R) (n : Nat) (vals : List Value) (H : Heap) (K : Xit → Env → Heap → Option R) : Option R :=
  match vals with
  | [.int .i64 n849, .int .i64 n850, .pointer p851, .pointer p852, .slice q853 l854 c855, .pointer p856, .slice q857 l858 c859, .slice q860 l861 c862, .int .i64 n863, .int .i64 n864] => f n849 n850 p851 p852 q853 l854 c855 p856 q857 l858 c859 q860 l861 c862 n863 n864 H (fun n1991 n1992 p1993 p1994 q1995 l1996 c1997 p1998 q1999 l2000 c2001 q2002 l2003 c2004 n2005 n2006 H => K .normal [(0, .int .i64 n1991), (1, .int .i64 n1992), (7, .pointer p1993), (9, .pointer p1994), (11, .slice q1995 l1996 c1997), (14, .pointer p1998), (15, .slice q1999 l2000 c2001), (92, .slice q2002 l2003 c2004), (93, .int .i64 n2005), (94, .int .i64 n2006)] H) (fun t2007 H => K .ret [(6, .bool t2007)] H)
  | _ => none
def L_TagtreeReturns_a4 (R : Type) (k n : Nat) (vals : List Value) (H : Heap) (K : Xit → Env → Heap → Option R) : Option R := L_TagtreeReturns_aa4 (L_TagtreeReturns_p4 k) n vals H K
def L_TagtreeReturns_aa5 {R : Type} (f : L_TagtreeReturns_p5_t R) (n : Nat) (vals : List Value) (H : Heap) (K : Xit → Env → Heap → Option R) : Option R :=
  match vals with
  | [.int .i64 n873, .int .i64 n874, .pointer p875, .pointer p876, .slice q877 l878 c879, .pointer p880, .slice q881 l882 c883, .pointer p884, .slice q885 l886 c887, .int .i64 n888, .int .i64 n889] => f n873 n874 p875 p876 q877 l878 c879 p880 q881 l882 c883 p884 q885 l886 c887 n888 n889 H (fun n2008 n2009 p2010 p2011 q2012 l2013 c2014 p2015 q2016 l2017 c2018 q2019 l2020 c2021 n2022 n2023 H => K (.exit 3) [(0, .int .i64 n2008), (1, .int .i64 n2009), (7, .pointer p2010), (9, .pointer p2011), (11, .slice q2012 l2013 c2014), (14, .pointer p2015), (15, .slice q2016 l2017 c2018), (92, .slice q2019 l2020 c2021), (93, .int .i64 n2022), (94, .int .i64 n2023)] H) (fun n2024 n2025 p2026 p2027 q2028 l2029 c2030 p2031 q2032 l2033 c2034 p2035 q2036 l2037 c2038 n2039 n2040 H => K .normal [(0, .int .i64 n2024), (1, .int .i64 n2025), (7, .pointer p2026), (9, .pointer p2027), (11, .slice q2028 l2029 c2030), (14, .pointer p2031), (15, .slice q2032 l2033 c2034), (17, .pointer p2035), (92, .slice q2036 l2037 c2038), (93, .int .i64 n2039), (94, .int .i64 n2040)] H)
  | _ => none
def L_TagtreeReturns_a5 (R : Type) (k n : Nat) (vals : List Value) (H : Heap) (K : Xit → Env → Heap → Option R) : Option R := L_TagtreeReturns_aa5 (L_TagtreeReturns_p5 k) n vals H K
def L_TagtreeReturns_aa6 {R : Type} (f : L_TagtreeReturns_l6_t R) (n : Nat) (vals : List Value) (H : Heap) (K : Xit → Env → Heap → Option R) : Option R :=
  match vals with
  | [.int .i64 n1046, .pointer p1047, .slice q1048 l1049 c1050, .pointer p1051, .slice q1052 l1053 c1054, .int .i64 n1055, .int .i64 n1056] => f (fun H => K (.exit 4) [] H) (fun t2041 H => K .ret [(6, .bool t2041)] H) n n1046 p1047 q1048 l1049 c1050 p1051 q1052 l1053 c1054 n1055 n1056 H
  | _ => none
def L_TagtreeReturns_a6 (R : Type) (k n : Nat) (vals : List Value) (H : Heap) (K : Xit → Env → Heap → Option R) : Option R := L_TagtreeReturns_aa6 (L_TagtreeReturns_l6 k) n vals H K
def L_TagtreeReturns_aa7 {R : Type} (f : L_TagtreeReturns_p7_t R) (n : Nat) (vals : List Value) (H : Heap) (K : Xit → Env → Heap → Option R) : Option R :=
  match vals with
  | [.int .i64 n1057, .pointer p1058, .slice q1059 l1060 c1061, .pointer p1062, .slice q1063 l1064 c1065, .int .i64 n1066, .int .i64 n1067] => f n1057 p1058 q1059 l1060 c1061 p1062 q1063 l1064 c1065 n1066 n1067 H (fun n2042 p2043 q2044 l2045 c2046 p2047 q2048 l2049 c2050 n2051 n2052 H => K .normal [(0, .int .i64 n2042), (9, .pointer p2043), (11, .slice q2044 l2045 c2046), (18, .pointer p2047), (126, .slice q2048 l2049 c2050), (127, .int .i64 n2051), (128, .int .i64 n2052)] H) (fun t2053 H => K .ret [(6, .bool t2053)] H)
  | _ => none
def L_TagtreeReturns_a7 (R : Type) (k n : Nat) (vals : List Value) (H : Heap) (K : Xit → Env → Heap → Option R) : Option R := L_TagtreeReturns_aa7 (L_TagtreeReturns_p7 k) n vals H K
def L_TagtreeReturns_aa8 {R : Type} (f : L_TagtreeReturns_p8_t R) (n : Nat) (vals : List Value) (H : Heap) (K : Xit → Env → Heap → Option R) : Option R :=
  match vals with
  | [.int .i64 n1091, .pointer p1092, .slice q1093 l1094 c1095, .pointer p1096, .pointer p1097, .bool t1098, .int .i64 n1099, .int .i64 n1100, .slice q1101 l1102 c1103, .int .i64 n1104, .int .i64 n1105] => f n1091 p1092 q1093 l1094 c1095 p1096 p1097 t1098 n1099 n1100 q1101 l1102 c1103 n1104 n1105 H (fun n2054 p2055 q2056 l2057 c2058 p2059 p2060 t2061 n2062 q2063 l2064 c2065 n2066 n2067 => K .normal [(0, .int .i64 n2054), (9, .pointer p2055), (11, .slice q2056 l2057 c2058), (18, .pointer p2059), (20, .pointer p2060), (21, .bool t2061), (23, .int .i64 n2062), (126, .slice q2063 l2064 c2065), (127, .int .i64 n2066), (128, .int .i64 n2067)] H) (fun t2068 => K .ret [(6, .bool t2068)] H)
  | _ => none
def L_TagtreeReturns_a8 (R : Type) (k n : Nat) (vals : List Value) (H : Heap) (K : Xit → Env → Heap → Option R) : Option R := L_TagtreeReturns_aa8 (L_TagtreeReturns_p8 k) n vals H K
def L_TagtreeReturns_Jt {R : Type} (k : Nat) (L_TagtreeReturns_l0 : L_TagtreeReturns_l0_t R) (L_TagtreeReturns_p1 : L_TagtreeReturns_p1_t R) (L_TagtreeReturns_p2 : L_TagtreeReturns_p2_t R) (L_TagtreeReturns_l3 : L_TagtreeReturns_l3_t R) (L_TagtreeReturns_p4 : L_TagtreeReturns_p4_t R) (L_TagtreeReturns_p5 : L_TagtreeReturns_p5_t R) (L_TagtreeReturns_l6 : L_TagtreeReturns_l6_t R) (L_TagtreeReturns_p7 : L_TagtreeReturns_p7_t R) (L_TagtreeReturns_p8 : L_TagtreeReturns_p8_t R) : JTab R := tcons 0 (L_TagtreeReturns_aa0 L_TagtreeReturns_l0 k) <| tcons 1 (L_TagtreeReturns_aa1 L_TagtreeReturns_p1 k) <| tcons 2 (L_TagtreeReturns_aa2 L_TagtreeReturns_p2 k) <| tcons 3 (L_TagtreeReturns_aa3 L_TagtreeReturns_l3 k) <| tcons 4 (L_TagtreeReturns_aa4 L_TagtreeReturns_p4 k) <| tcons 5 (L_TagtreeReturns_aa5 L_TagtreeReturns_p5 k) <| tcons 6 (L_TagtreeReturns_aa6 L_TagtreeReturns_l6 k) <| tcons 7 (L_TagtreeReturns_aa7 L_TagtreeReturns_p7 k) <| tcons 8 (L_TagtreeReturns_aa8 L_TagtreeReturns_p8 k) <| fun _ _ _ _ => none
def L_TagtreeReturns_J (R : Type) (k : Nat) : JTab R := L_TagtreeReturns_Jt k (L_TagtreeReturns_l0 k) (L_TagtreeReturns_p1 k) (L_TagtreeReturns_p2 k) (L_TagtreeReturns_l3 k) (L_TagtreeReturns_p4 k) (L_TagtreeReturns_p5 k) (L_TagtreeReturns_l6 k) (L_TagtreeReturns_p7 k) (L_TagtreeReturns_p8 k)
def L_TagtreeReturns_at : AT := (.seq (.reg [0, 1, 2] []) (.seq (.seq (.reg [0, 1, 2, 30] []) (.cond (.seq (.reg [6] []) .leaf) .leaf)) (.seq (.reg [0, 1, 2, 7, 8] []) (.seq (.reg [0, 1, 2, 7, 8, 9, 10] []) (.seq (.seq (.reg [0, 1, 2, 7, 8, 9, 46] []) (.cond (.seq (.reg [6] []) .leaf) .leaf)) (.seq (.seq (.reg [0, 1, 2, 7, 9, 48] []) (.cond (.seq (.reg [6] []) .leaf) .leaf)) (.seq (.reg [0, 1, 2, 7, 9, 11] []) (.seq (.seq (.reg [0, 1, 2, 7, 9, 11, 54, 55, 56] []) (.node (.opq 0 [0, 1, 2, 7, 9, 11, 54, 55, 56] ⟨[], [(0, [0, 1, 2, 7, 9, 11])], [6]⟩ (.node (.seq (.reg [0, 1, 2, 7, 9, 11, 54, 55, 56, 57] []) (.seq (.cond .leaf .leaf) (.seq (.opq 1 [0, 1, 2, 7, 9, 11, 54, 55, 56] ⟨[0, 1, 2, 7, 9, 11, 54, 55, 56], [], [6]⟩ (.node (.seq (.reg [0, 1, 2, 7, 9, 11, 13, 54, 55, 56] []) (.seq (.opq 2 [0, 1, 2, 7, 9, 11, 13, 54, 55, 56] ⟨[0, 1, 2, 7, 9, 11, 13, 54, 55, 56], [(1, [0, 1, 2, 7, 9, 11, 54, 55, 56])], []⟩ (.seq (.reg [0, 1, 2, 7, 9, 11, 13, 54, 55, 56, 73] []) (.cond .leaf .leaf))) (.seq (.seq (.reg [0, 1, 2, 7, 9, 11, 13, 54, 55, 56, 78] []) (.cond (.seq (.reg [6] []) .leaf) .leaf)) (.reg [0, 1, 2, 7, 9, 11, 54, 55, 56] [])))))) (.reg [0, 1, 2, 7, 9, 11, 54, 55, 56] [])))))))) (.seq (.reg [0, 1, 2, 7, 9, 11, 14] []) (.seq (.reg [0, 1, 2, 7, 9, 11, 14, 15] []) (.seq (.seq (.reg [0, 1, 7, 9, 11, 14, 15, 92, 93, 94] []) (.node (.opq 3 [0, 1, 7, 9, 11, 14, 15, 92, 93, 94] ⟨[], [(2, [0, 9, 11, 14, 15])], [6]⟩ (.node (.seq (.reg [0, 1, 7, 9, 11, 14, 15, 92, 93, 94, 95] []) (.seq (.cond .leaf .leaf) (.seq (.opq 4 [0, 1, 7, 9, 11, 14, 15, 92, 93, 94] ⟨[0, 1, 7, 9, 11, 14, 15, 92, 93, 94], [], [6]⟩ (.node (.seq (.reg [0, 1, 7, 9, 11, 14, 15, 17, 92, 93, 94] []) (.seq (.opq 5 [0, 1, 7, 9, 11, 14, 15, 17, 92, 93, 94] ⟨[0, 1, 7, 9, 11, 14, 15, 17, 92, 93, 94], [(3, [0, 1, 7, 9, 11, 14, 15, 92, 93, 94])], []⟩ (.seq (.reg [0, 1, 7, 9, 11, 14, 15, 17, 92, 93, 94, 112] []) (.cond .leaf .leaf))) (.seq (.seq (.reg [0, 1, 7, 9, 11, 14, 15, 17, 92, 93, 94, 117] []) (.cond (.seq (.reg [6] []) .leaf) .leaf)) (.reg [0, 1, 7, 9, 11, 14, 15, 92, 93, 94] [])))))) (.reg [0, 1, 7, 9, 11, 14, 15, 92, 93, 94] [])))))))) (.seq (.reg [0, 9, 11, 15, 18] []) (.seq (.seq (.reg [0, 9, 11, 18, 126, 127, 128] []) (.node (.opq 6 [0, 9, 11, 18, 126, 127, 128] ⟨[], [(4, [])], [6]⟩ (.node (.seq (.reg [0, 9, 11, 18, 126, 127, 128, 129] []) (.seq (.cond .leaf .leaf) (.seq (.opq 7 [0, 9, 11, 18, 126, 127, 128] ⟨[0, 9, 11, 18, 126, 127, 128], [], [6]⟩ (.node (.seq (.reg [0, 9, 11, 18, 20, 126, 127, 128] []) (.seq (.reg [0, 9, 11, 18, 20, 21, 22, 126, 127, 128] []) (.seq (.reg [0, 9, 11, 18, 20, 21, 22, 23, 126, 127, 128] []) (.seq (.opq 8 [0, 9, 11, 18, 20, 21, 22, 23, 126, 127, 128] ⟨[0, 9, 11, 18, 20, 21, 23, 126, 127, 128], [], [6]⟩ (.seq (.reg [0, 9, 11, 18, 20, 21, 23, 126, 127, 128, 163] []) (.cond (.seq (.reg [6] []) .leaf) .leaf))) (.seq (.reg [0, 9, 11, 18, 21, 23, 24, 25, 126, 127, 128] []) (.seq (.reg [0, 9, 11, 18, 126, 127, 128, 182] []) (.cond (.seq (.reg [6] []) .leaf) .leaf))))))))) (.reg [0, 9, 11, 18, 126, 127, 128] [])))))))) (.seq (.reg [6] []) .leaf))))))))))))))
def L_TagtreeReturns_i8 : IC := (.seq (.reg [⟨some 154, .mov (.t 22), none⟩,
 ⟨some 155, .cmp .neq (.t 154) (.c (Go.Value.int Go.IntKind.i64 0)), none⟩,
 ⟨some 156, .mov (.t 155), none⟩,
 ⟨some 157, .mov (.t 21), some (156, false)⟩,
 ⟨some 158, .mov (.t 23), some (156, false)⟩,
 ⟨some 159, .fad 3 (.t 20), some (156, false)⟩,
 ⟨some 160, .ld (.sc (.int .i64)) (.t 159), some (156, false)⟩,
 ⟨some 161, .cmp .lss (.t 158) (.t 160), some (156, false)⟩,
 ⟨some 162, .eqb (.t 157) (.t 161) true, some (156, false)⟩,
 ⟨some 163, .pick (.t 156) (.c (Go.Value.bool true)) (.t 162), none⟩] [0, 9, 11, 18, 20, 21, 23, 126, 127, 128, 163]) (.cond (.t 163) (.seq (.reg [⟨some 6, .mov (.c (Go.Value.bool false)), none⟩] [6]) .ret) .skip))
def L_TagtreeReturns_i7 : IC := (.block 5 (.seq (.reg [⟨some 130, .ids 4 (.t 126) (.t 128), none⟩,
 ⟨some 131, .ld (.agg [(.int .i64), (.int .i64), (.int .i64), (.int .i64)]) (.t 130), none⟩,
 ⟨some 20, .alc [.int .i64 0, .int .i64 0, .int .i64 0, .int .i64 0], none⟩,
 ⟨none, .st 4 (.t 20) (.t 131), none⟩] [0, 9, 11, 18, 20, 126, 127, 128]) (.seq (.reg [⟨some 133, .mov (.t 9), none⟩,
 ⟨some 134, .mov (.t 18), none⟩,
 ⟨some 135, .fad 1 (.t 20), none⟩,
 ⟨some 136, .ld (.sc (.int .i64)) (.t 135), none⟩,
 ⟨some 137, .fad 2 (.t 20), none⟩,
 ⟨some 138, .ld (.sc (.int .i64)) (.t 137), none⟩,
 ⟨some 139, .fad 3 (.t 20), none⟩,
 ⟨some 140, .ld (.sc (.int .i64)) (.t 139), none⟩,
 ⟨some 141, .call 32 [(.t 133), (.t 134), (.t 136), (.t 138), (.t 140)] (.tup [(.sc .bool), (.sc (.int .i64))]), none⟩,
 ⟨some 132, .mov (.t 141), none⟩,
 ⟨some 142, .ext 0 (.t 132), none⟩,
 ⟨some 143, .ext 1 (.t 132), none⟩,
 ⟨some 21, .mov (.t 142), none⟩,
 ⟨some 22, .mov (.t 143), none⟩] [0, 9, 11, 18, 20, 21, 22, 126, 127, 128]) (.seq (.reg [⟨some 144, .mov (.t 11), none⟩,
 ⟨some 145, .fad 2 (.t 20), none⟩,
 ⟨some 146, .ld (.sc (.int .i64)) (.t 145), none⟩,
 ⟨some 147, .mov (.t 0), none⟩,
 ⟨some 148, .bin .mul .i64 (.t 146) (.t 147), none⟩,
 ⟨some 149, .fad 1 (.t 20), none⟩,
 ⟨some 150, .ld (.sc (.int .i64)) (.t 149), none⟩,
 ⟨some 151, .bin .add .i64 (.t 148) (.t 150), none⟩,
 ⟨some 152, .ids 1 (.t 144) (.t 151), none⟩,
 ⟨some 153, .ld (.sc (.int .i64)) (.t 152), none⟩,
 ⟨some 23, .mov (.t 153), none⟩] [0, 9, 11, 18, 20, 21, 22, 23, 126, 127, 128]) (.seq (.opq 8 [0, 9, 11, 18, 20, 21, 22, 23, 126, 127, 128] L_TagtreeReturns_i8) (.seq (.reg [⟨some 165, .mov (.t 9), none⟩,
 ⟨some 166, .fad 1 (.t 20), none⟩,
 ⟨some 167, .ld (.sc (.int .i64)) (.t 166), none⟩,
 ⟨some 168, .fad 2 (.t 20), none⟩,
 ⟨some 169, .ld (.sc (.int .i64)) (.t 168), none⟩,
 ⟨some 170, .call 25 [(.t 165), (.t 167), (.t 169)] (.tup [(.sc (.int .i64)), (.sc .bool)]), none⟩,
 ⟨some 164, .mov (.t 170), none⟩,
 ⟨some 171, .ext 0 (.t 164), none⟩,
 ⟨some 172, .ext 1 (.t 164), none⟩,
 ⟨some 24, .mov (.t 171), none⟩,
 ⟨some 25, .mov (.t 172), none⟩] [0, 9, 11, 18, 21, 23, 24, 25, 126, 127, 128]) (.seq (.reg [⟨some 173, .mov (.t 21), none⟩,
 ⟨some 174, .mov (.t 173), none⟩,
 ⟨some 175, .mov (.t 25), some (174, true)⟩,
 ⟨some 176, .lnot (.t 175), some (174, true)⟩,
 ⟨some 177, .mov (.t 176), some (174, true)⟩,
 ⟨some 178, .mov (.t 24), some (177, false)⟩,
 ⟨some 179, .mov (.t 23), some (177, false)⟩,
 ⟨some 180, .cmp .neq (.t 178) (.t 179), some (177, false)⟩,
 ⟨some 181, .pick (.t 177) (.c (Go.Value.bool true)) (.t 180), some (174, true)⟩,
 ⟨some 182, .pick (.t 174) (.t 181) (.c (Go.Value.bool false)), none⟩] [0, 9, 11, 18, 126, 127, 128, 182]) (.cond (.t 182) (.seq (.reg [⟨some 6, .mov (.c (Go.Value.bool false)), none⟩] [6]) .ret) .skip))))))))
def L_TagtreeReturns_i6 : IC := (.seq (.reg [⟨some 129, .cmp .lss (.t 128) (.t 127), none⟩] [0, 9, 11, 18, 126, 127, 128, 129]) (.seq (.cond (.t 129) .skip (.exit 4)) (.seq (.opq 7 [0, 9, 11, 18, 126, 127, 128] L_TagtreeReturns_i7) (.reg [⟨some 183, .bin .add .i64 (.t 128) (.c (Go.Value.int Go.IntKind.i64 1)), none⟩,
 ⟨some 128, .mov (.t 183), none⟩] [0, 9, 11, 18, 126, 127, 128]))))
def L_TagtreeReturns_i5 : IC := (.seq (.reg [⟨some 98, .fad 0 (.t 17), none⟩,
 ⟨some 99, .ld (.sc (.int .i64)) (.t 98), none⟩,
 ⟨some 100, .cmp .neq (.t 99) (.c (Go.Value.int Go.IntKind.i64 1)), none⟩,
 ⟨some 101, .mov (.t 100), none⟩,
 ⟨some 102, .mov (.t 7), some (101, false)⟩,
 ⟨some 103, .mov (.t 14), some (101, false)⟩,
 ⟨some 104, .fad 1 (.t 17), some (101, false)⟩,
 ⟨some 105, .ld (.sc (.int .i64)) (.t 104), some (101, false)⟩,
 ⟨some 106, .fad 2 (.t 17), some (101, false)⟩,
 ⟨some 107, .ld (.sc (.int .i64)) (.t 106), some (101, false)⟩,
 ⟨some 108, .fad 3 (.t 17), some (101, false)⟩,
 ⟨some 109, .ld (.sc (.int .i64)) (.t 108), some (101, false)⟩,
 ⟨some 110, .call 21 [(.t 102), (.t 103), (.t 105), (.t 107), (.t 109)] (.one (.sc (.int .i64))), some (101, false)⟩,
 ⟨some 111, .cmp .neq (.t 110) (.c (Go.Value.int Go.IntKind.i64 0)), some (101, false)⟩,
 ⟨some 112, .pick (.t 101) (.c (Go.Value.bool true)) (.t 111), none⟩] [0, 1, 7, 9, 11, 14, 15, 17, 92, 93, 94, 112]) (.cond (.t 112) (.exit 3) .skip))
def L_TagtreeReturns_i4 : IC := (.block 3 (.seq (.reg [⟨some 96, .ids 4 (.t 92) (.t 94), none⟩,
 ⟨some 97, .ld (.agg [(.int .i64), (.int .i64), (.int .i64), (.int .i64)]) (.t 96), none⟩,
 ⟨some 17, .alc [.int .i64 0, .int .i64 0, .int .i64 0, .int .i64 0], none⟩,
 ⟨none, .st 4 (.t 17) (.t 97), none⟩] [0, 1, 7, 9, 11, 14, 15, 17, 92, 93, 94]) (.seq (.opq 5 [0, 1, 7, 9, 11, 14, 15, 17, 92, 93, 94] L_TagtreeReturns_i5) (.seq (.seq (.reg [⟨some 113, .ld (.agg [(.int .i64), (.int .i64), (.int .i64), (.int .i64)]) (.t 17), none⟩,
 ⟨some 114, .mov (.t 0), none⟩,
 ⟨some 115, .mov (.t 1), none⟩,
 ⟨some 116, .call 34 [(.t 113), (.t 114), (.t 115)] (.one (.sc .bool)), none⟩,
 ⟨some 117, .lnot (.t 116), none⟩] [0, 1, 7, 9, 11, 14, 15, 17, 92, 93, 94, 117]) (.cond (.t 117) (.seq (.reg [⟨some 6, .mov (.c (Go.Value.bool false)), none⟩] [6]) .ret) .skip)) (.reg [⟨some 118, .mov (.t 15), none⟩,
 ⟨some 119, .ld (.agg [(.int .i64), (.int .i64), (.int .i64), (.int .i64)]) (.t 17), none⟩,
 ⟨some 120, .bls 1 [.int .i64 0, .int .i64 0, .int .i64 0, .int .i64 0] [(0, 4, (.t 119))], none⟩,
 ⟨some 121, .app [.int .i64 0, .int .i64 0, .int .i64 0, .int .i64 0] 32 (.t 118) (.t 120), none⟩,
 ⟨some 15, .mov (.t 121), none⟩] [0, 1, 7, 9, 11, 14, 15, 92, 93, 94])))))
def L_TagtreeReturns_i3 : IC := (.seq (.reg [⟨some 95, .cmp .lss (.t 94) (.t 93), none⟩] [0, 1, 7, 9, 11, 14, 15, 92, 93, 94, 95]) (.seq (.cond (.t 95) .skip (.exit 2)) (.seq (.opq 4 [0, 1, 7, 9, 11, 14, 15, 92, 93, 94] L_TagtreeReturns_i4) (.reg [⟨some 122, .bin .add .i64 (.t 94) (.c (Go.Value.int Go.IntKind.i64 1)), none⟩,
 ⟨some 94, .mov (.t 122), none⟩] [0, 1, 7, 9, 11, 14, 15, 92, 93, 94]))))
def L_TagtreeReturns_i2 : IC := (.seq (.reg [⟨some 60, .fad 0 (.t 13), none⟩,
 ⟨some 61, .ld (.sc (.int .i64)) (.t 60), none⟩,
 ⟨some 62, .cmp .neq (.t 61) (.c (Go.Value.int Go.IntKind.i64 0)), none⟩,
 ⟨some 63, .mov (.t 62), none⟩,
 ⟨some 64, .mov (.t 7), some (63, false)⟩,
 ⟨some 65, .fad 1 (.t 13), some (63, false)⟩,
 ⟨some 66, .ld (.sc (.int .i64)) (.t 65), some (63, false)⟩,
 ⟨some 67, .fad 2 (.t 13), some (63, false)⟩,
 ⟨some 68, .ld (.sc (.int .i64)) (.t 67), some (63, false)⟩,
 ⟨some 69, .fad 3 (.t 13), some (63, false)⟩,
 ⟨some 70, .ld (.sc (.int .i64)) (.t 69), some (63, false)⟩,
 ⟨some 71, .call 19 [(.t 64), (.t 66), (.t 68), (.t 70)] (.one (.sc (.int .i64))), some (63, false)⟩,
 ⟨some 72, .cmp .neq (.t 71) (.c (Go.Value.int Go.IntKind.i64 0)), some (63, false)⟩,
 ⟨some 73, .pick (.t 63) (.c (Go.Value.bool true)) (.t 72), none⟩] [0, 1, 2, 7, 9, 11, 13, 54, 55, 56, 73]) (.cond (.t 73) (.exit 1) .skip))
def L_TagtreeReturns_i1 : IC := (.block 1 (.seq (.reg [⟨some 58, .ids 4 (.t 54) (.t 56), none⟩,
 ⟨some 59, .ld (.agg [(.int .i64), (.int .i64), (.int .i64), (.int .i64)]) (.t 58), none⟩,
 ⟨some 13, .alc [.int .i64 0, .int .i64 0, .int .i64 0, .int .i64 0], none⟩,
 ⟨none, .st 4 (.t 13) (.t 59), none⟩] [0, 1, 2, 7, 9, 11, 13, 54, 55, 56]) (.seq (.opq 2 [0, 1, 2, 7, 9, 11, 13, 54, 55, 56] L_TagtreeReturns_i2) (.seq (.seq (.reg [⟨some 74, .ld (.agg [(.int .i64), (.int .i64), (.int .i64), (.int .i64)]) (.t 13), none⟩,
 ⟨some 75, .mov (.t 0), none⟩,
 ⟨some 76, .mov (.t 1), none⟩,
 ⟨some 77, .call 34 [(.t 74), (.t 75), (.t 76)] (.one (.sc .bool)), none⟩,
 ⟨some 78, .lnot (.t 77), none⟩] [0, 1, 2, 7, 9, 11, 13, 54, 55, 56, 78]) (.cond (.t 78) (.seq (.reg [⟨some 6, .mov (.c (Go.Value.bool false)), none⟩] [6]) .ret) .skip)) (.reg [⟨some 79, .mov (.t 11), none⟩,
 ⟨some 80, .fad 2 (.t 13), none⟩,
 ⟨some 81, .ld (.sc (.int .i64)) (.t 80), none⟩,
 ⟨some 82, .mov (.t 0), none⟩,
 ⟨some 83, .bin .mul .i64 (.t 81) (.t 82), none⟩,
 ⟨some 84, .fad 1 (.t 13), none⟩,
 ⟨some 85, .ld (.sc (.int .i64)) (.t 84), none⟩,
 ⟨some 86, .bin .add .i64 (.t 83) (.t 85), none⟩,
 ⟨some 87, .fad 3 (.t 13), none⟩,
 ⟨some 88, .ld (.sc (.int .i64)) (.t 87), none⟩,
 ⟨some 89, .ids 1 (.t 79) (.t 86), none⟩,
 ⟨none, .st 1 (.t 89) (.t 88), none⟩] [0, 1, 2, 7, 9, 11, 54, 55, 56])))))
def L_TagtreeReturns_i0 : IC := (.seq (.reg [⟨some 57, .cmp .lss (.t 56) (.t 55), none⟩] [0, 1, 2, 7, 9, 11, 54, 55, 56, 57]) (.seq (.cond (.t 57) .skip (.exit 0)) (.seq (.opq 1 [0, 1, 2, 7, 9, 11, 54, 55, 56] L_TagtreeReturns_i1) (.reg [⟨some 90, .bin .add .i64 (.t 56) (.c (Go.Value.int Go.IntKind.i64 1)), none⟩,
 ⟨some 56, .mov (.t 90), none⟩] [0, 1, 2, 7, 9, 11, 54, 55, 56]))))
def L_TagtreeReturns_f : IFn := ⟨185, [.t 6], (.seq (.reg [⟨some 6, .mov (.c (Go.Value.bool false)), none⟩] [0, 1, 2]) (.seq (.seq (.reg [⟨some 26, .mov (.t 0), none⟩,
 ⟨some 27, .mov (.t 1), none⟩,
 ⟨some 28, .mov (.t 2), none⟩,
 ⟨some 29, .call 16 [(.t 26), (.t 27), (.t 28)] (.one (.sc .bool)), none⟩,
 ⟨some 30, .lnot (.t 29), none⟩] [0, 1, 2, 30]) (.cond (.t 30) (.seq (.reg [⟨some 31, .call 15 [] (.one (.sc .bool)), none⟩,
 ⟨some 6, .mov (.t 31), none⟩] [6]) .ret) .skip)) (.seq (.reg [⟨some 33, .mov (.t 0), none⟩,
 ⟨some 34, .mov (.t 1), none⟩,
 ⟨some 35, .call 11 [(.t 33), (.t 34)] (.tup [(.sc .ptr), (.sc (.int .i64))]), none⟩,
 ⟨some 32, .mov (.t 35), none⟩,
 ⟨some 36, .ext 0 (.t 32), none⟩,
 ⟨some 37, .ext 1 (.t 32), none⟩,
 ⟨some 7, .mov (.t 36), none⟩,
 ⟨some 8, .mov (.t 37), none⟩] [0, 1, 2, 7, 8]) (.seq (.reg [⟨some 39, .mov (.t 0), none⟩,
 ⟨some 40, .mov (.t 1), none⟩,
 ⟨some 41, .call 11 [(.t 39), (.t 40)] (.tup [(.sc .ptr), (.sc (.int .i64))]), none⟩,
 ⟨some 38, .mov (.t 41), none⟩,
 ⟨some 42, .ext 0 (.t 38), none⟩,
 ⟨some 43, .ext 1 (.t 38), none⟩,
 ⟨some 9, .mov (.t 42), none⟩,
 ⟨some 10, .mov (.t 43), none⟩] [0, 1, 2, 7, 8, 9, 10]) (.seq (.seq (.reg [⟨some 44, .mov (.t 8), none⟩,
 ⟨some 45, .mov (.t 10), none⟩,
 ⟨some 46, .cmp .neq (.t 44) (.t 45), none⟩] [0, 1, 2, 7, 8, 9, 46]) (.cond (.t 46) (.seq (.reg [⟨some 6, .mov (.c (Go.Value.bool false)), none⟩] [6]) .ret) .skip)) (.seq (.seq (.reg [⟨some 47, .mov (.t 8), none⟩,
 ⟨some 48, .cmp .neq (.t 47) (.c (Go.Value.int Go.IntKind.i64 0)), none⟩] [0, 1, 2, 7, 9, 48]) (.cond (.t 48) (.seq (.reg [⟨some 49, .call 15 [] (.one (.sc .bool)), none⟩,
 ⟨some 6, .mov (.t 49), none⟩] [6]) .ret) .skip)) (.seq (.reg [⟨some 50, .mov (.t 0), none⟩,
 ⟨some 51, .mov (.t 1), none⟩,
 ⟨some 52, .bin .mul .i64 (.t 50) (.t 51), none⟩,
 ⟨some 53, .mks [.int .i64 0] 8 (.t 52) (.t 52), none⟩,
 ⟨some 11, .mov (.t 53), none⟩] [0, 1, 2, 7, 9, 11]) (.seq (.seq (.reg [⟨some 54, .mov (.t 2), none⟩,
 ⟨some 55, .len false (.t 54), none⟩,
 ⟨some 56, .mov (.c (Go.Value.int Go.IntKind.i64 0)), none⟩] [0, 1, 2, 7, 9, 11, 54, 55, 56]) (.block 0 (.opq 0 [0, 1, 2, 7, 9, 11, 54, 55, 56] (.loop L_TagtreeReturns_i0)))) (.seq (.reg [⟨some 91, .call 17 [] (.one (.sc .ptr)), none⟩,
 ⟨some 14, .mov (.t 91), none⟩] [0, 1, 2, 7, 9, 11, 14]) (.seq (.reg [⟨some 15, .mov (.c (Go.Value.slice none 0 0)), none⟩] [0, 1, 2, 7, 9, 11, 14, 15]) (.seq (.seq (.reg [⟨some 92, .mov (.t 2), none⟩,
 ⟨some 93, .len false (.t 92), none⟩,
 ⟨some 94, .mov (.c (Go.Value.int Go.IntKind.i64 0)), none⟩] [0, 1, 7, 9, 11, 14, 15, 92, 93, 94]) (.block 2 (.opq 3 [0, 1, 7, 9, 11, 14, 15, 92, 93, 94] (.loop L_TagtreeReturns_i3)))) (.seq (.reg [⟨some 123, .mov (.t 14), none⟩,
 ⟨some 124, .call 28 [(.t 123)] (.one (.sc .slc)), none⟩,
 ⟨some 125, .call 30 [(.t 124)] (.one (.sc .ptr)), none⟩,
 ⟨some 18, .mov (.t 125), none⟩] [0, 9, 11, 15, 18]) (.seq (.seq (.reg [⟨some 126, .mov (.t 15), none⟩,
 ⟨some 127, .len false (.t 126), none⟩,
 ⟨some 128, .mov (.c (Go.Value.int Go.IntKind.i64 0)), none⟩] [0, 9, 11, 18, 126, 127, 128]) (.block 4 (.opq 6 [0, 9, 11, 18, 126, 127, 128] (.loop L_TagtreeReturns_i6)))) (.seq (.reg [⟨some 184, .call 15 [] (.one (.sc .bool)), none⟩,
 ⟨some 6, .mov (.t 184), none⟩] [6]) .ret))))))))))))))⟩
theorem L_TagtreeReturns_e8 {R : Type} (L_small : L_small_t R) (L_exampleHoldsq : L_exampleHoldsq_t R) (tagtree_New : tagtree_New_t R) (tagtree_Tree_Set : tagtree_Tree_Set_t R) (L_inside : L_inside_t R) (bitio_NewWriter : bitio_NewWriter_t R) (tagtree_Tree_Encode : tagtree_Tree_Encode_t R) (bitio_Writer_Bytes : bitio_Writer_Bytes_t R) (bitio_NewReader : bitio_NewReader_t R) (tagtree_Tree_Decode : tagtree_Tree_Decode_t R) (tagtree_Tree_Value : tagtree_Tree_Value_t R) (L_TagtreeReturns_l0 : L_TagtreeReturns_l0_t R) (L_TagtreeReturns_p1 : L_TagtreeReturns_p1_t R) (L_TagtreeReturns_p2 : L_TagtreeReturns_p2_t R) (L_TagtreeReturns_l3 : L_TagtreeReturns_l3_t R) (L_TagtreeReturns_p4 : L_TagtreeReturns_p4_t R) (L_TagtreeReturns_p5 : L_TagtreeReturns_p5_t R) (L_TagtreeReturns_l6 : L_TagtreeReturns_l6_t R) (L_TagtreeReturns_p7 : L_TagtreeReturns_p7_t R) (L_TagtreeReturns_p8 : L_TagtreeReturns_p8_t R) (k : Nat) (n1091 : Int) (p1092 : Oa) (q1093 : Oa) (l1094 : Nat) (c1095 : Nat) (p1096 : Oa) (p1097 : Oa) (t1098 : Bool) (n1099 : Int) (n1100 : Int) (q1101 : Oa) (l1102 : Nat) (c1103 : Nat) (n1104 : Int) (n1105 : Int) (H : Heap) (K : Xit → Env → Heap → Option R) : evJ (L_TagtreeReturns_Ct L_small L_exampleHoldsq tagtree_New tagtree_Tree_Set L_inside bitio_NewWriter tagtree_Tree_Encode bitio_Writer_Bytes bitio_NewReader tagtree_Tree_Decode tagtree_Tree_Value) (L_TagtreeReturns_Jt k L_TagtreeReturns_l0 L_TagtreeReturns_p1 L_TagtreeReturns_p2 L_TagtreeReturns_l3 L_TagtreeReturns_p4 L_TagtreeReturns_p5 L_TagtreeReturns_l6 L_TagtreeReturns_p7 L_TagtreeReturns_p8) L_TagtreeReturns_i8 (List.zip [0, 9, 11, 18, 20, 21, 22, 23, 126, 127, 128] [.int .i64 n1091, .pointer p1092, .slice q1093 l1094 c1095, .pointer p1096, .pointer p1097, .bool t1098, .int .i64 n1099, .int .i64 n1100, .slice q1101 l1102 c1103, .int .i64 n1104, .int .i64 n1105]) H (fun x e' H' => K x (clean e' ((⟨[0, 9, 11, 18, 20, 21, 23, 126, 127, 128], [], [6]⟩ : Out).of x)) H') = L_TagtreeReturns_p8_b k n1091 p1092 q1093 l1094 c1095 p1096 p1097 t1098 n1099 n1100 q1101 l1102 c1103 n1104 n1105 H (fun n2054 p2055 q2056 l2057 c2058 p2059 p2060 t2061 n2062 q2063 l2064 c2065 n2066 n2067 => K .normal [(0, .int .i64 n2054), (9, .pointer p2055), (11, .slice q2056 l2057 c2058), (18, .pointer p2059), (20, .pointer p2060), (21, .bool t2061), (23, .int .i64 n2062), (126, .slice q2063 l2064 c2065), (127, .int .i64 n2066), (128, .int .i64 n2067)] H) (fun t2068 => K .ret [(6, .bool t2068)] H) := by kernel_rfl
theorem L_TagtreeReturns_j8 {R : Type} (k : Nat) : JS Try.prog 185 (L_TagtreeReturns_a8 R k k) [0, 9, 11, 18, 20, 21, 22, 23, 126, 127, 128] ⟨[0, 9, 11, 18, 20, 21, 23, 126, 127, 128], [], [6]⟩ (sel [1, 1, 1, 1, 1, 1, 1, 1, 1, 1, 1, 1, 0, 1, 0, 0, 1, 1, 0, 0, 1, 1, 1, 0] (Try.f8.body.getD .skip)) :=
  piece_ok (nt := 185) (c := (sel [1, 1, 1, 1, 1, 1, 1, 1, 1, 1, 1, 1, 0, 1, 0, 0, 1, 1, 0, 0, 1, 1, 1, 0] (Try.f8.body.getD .skip))) (C := L_TagtreeReturns_C R k) (an := An) (t := (.seq (.reg [0, 9, 11, 18, 20, 21, 23, 126, 127, 128, 163] []) (.cond (.seq (.reg [6] []) .leaf) .leaf))) (ic := L_TagtreeReturns_i8) (L_TagtreeReturns_S R k) (L_TagtreeReturns_J R k) (by kernel_rfl) (And.intro True.intro (And.intro (And.intro True.intro True.intro) True.intro)) (L_TagtreeReturns_a8 R k k)
    (fun vals H K r h => by
      unfold L_TagtreeReturns_a8 L_TagtreeReturns_aa8 at h
      split at h <;> first | (cases h; done) | exact Eq.trans (L_TagtreeReturns_e8 (L_small k) L_exampleHoldsq (tagtree_New k) (tagtree_Tree_Set k) L_inside bitio_NewWriter (tagtree_Tree_Encode k) (bitio_Writer_Bytes k) bitio_NewReader (tagtree_Tree_Decode k) (tagtree_Tree_Value k) (L_TagtreeReturns_l0 k) (L_TagtreeReturns_p1 k) (L_TagtreeReturns_p2 k) (L_TagtreeReturns_l3 k) (L_TagtreeReturns_p4 k) (L_TagtreeReturns_p5 k) (L_TagtreeReturns_l6 k) (L_TagtreeReturns_p7 k) (L_TagtreeReturns_p8 k) k _ _ _ _ _ _ _ _ _ _ _ _ _ _ _ H K) h)
theorem L_TagtreeReturns_e7 {R : Type} (L_small : L_small_t R) (L_exampleHoldsq : L_exampleHoldsq_t R) (tagtree_New : tagtree_New_t R) (tagtree_Tree_Set : tagtree_Tree_Set_t R) (L_inside : L_inside_t R) (bitio_NewWriter : bitio_NewWriter_t R) (tagtree_Tree_Encode : tagtree_Tree_Encode_t R) (bitio_Writer_Bytes : bitio_Writer_Bytes_t R) (bitio_NewReader : bitio_NewReader_t R) (tagtree_Tree_Decode : tagtree_Tree_Decode_t R) (tagtree_Tree_Value : tagtree_Tree_Value_t R) (L_TagtreeReturns_l0 : L_TagtreeReturns_l0_t R) (L_TagtreeReturns_p1 : L_TagtreeReturns_p1_t R) (L_TagtreeReturns_p2 : L_TagtreeReturns_p2_t R) (L_TagtreeReturns_l3 : L_TagtreeReturns_l3_t R) (L_TagtreeReturns_p4 : L_TagtreeReturns_p4_t R) (L_TagtreeReturns_p5 : L_TagtreeReturns_p5_t R) (L_TagtreeReturns_l6 : L_TagtreeReturns_l6_t R) (L_TagtreeReturns_p7 : L_TagtreeReturns_p7_t R) (L_TagtreeReturns_p8 : L_TagtreeReturns_p8_t R) (k : Nat) (n1057 : Int) (p1058 : Oa) (q1059 : Oa) (l1060 : Nat) (c1061 : Nat) (p1062 : Oa) (q1063 : Oa) (l1064 : Nat) (c1065 : Nat) (n1066 : Int) (n1067 : Int) (H : Heap) (K : Xit → Env → Heap → Option R) : evJ (L_TagtreeReturns_Ct L_small L_exampleHoldsq tagtree_New tagtree_Tree_Set L_inside bitio_NewWriter tagtree_Tree_Encode bitio_Writer_Bytes bitio_NewReader tagtree_Tree_Decode tagtree_Tree_Value) (L_TagtreeReturns_Jt k L_TagtreeReturns_l0 L_TagtreeReturns_p1 L_TagtreeReturns_p2 L_TagtreeReturns_l3 L_TagtreeReturns_p4 L_TagtreeReturns_p5 L_TagtreeReturns_l6 L_TagtreeReturns_p7 L_TagtreeReturns_p8) L_TagtreeReturns_i7 (List.zip [0, 9, 11, 18, 126, 127, 128] [.int .i64 n1057, .pointer p1058, .slice q1059 l1060 c1061, .pointer p1062, .slice q1063 l1064 c1065, .int .i64 n1066, .int .i64 n1067]) H (fun x e' H' => K x (clean e' ((⟨[0, 9, 11, 18, 126, 127, 128], [], [6]⟩ : Out).of x)) H') = L_TagtreeReturns_p7_b tagtree_Tree_Decode L_TagtreeReturns_p8 tagtree_Tree_Value k n1057 p1058 q1059 l1060 c1061 p1062 q1063 l1064 c1065 n1066 n1067 H (fun n2042 p2043 q2044 l2045 c2046 p2047 q2048 l2049 c2050 n2051 n2052 H => K .normal [(0, .int .i64 n2042), (9, .pointer p2043), (11, .slice q2044 l2045 c2046), (18, .pointer p2047), (126, .slice q2048 l2049 c2050), (127, .int .i64 n2051), (128, .int .i64 n2052)] H) (fun t2053 H => K .ret [(6, .bool t2053)] H) := by kernel_rfl
theorem L_TagtreeReturns_j7 {R : Type} (k : Nat) : JS Try.prog 185 (L_TagtreeReturns_a7 R k k) [0, 9, 11, 18, 126, 127, 128] ⟨[0, 9, 11, 18, 126, 127, 128], [], [6]⟩ (sel [1, 1, 1, 1, 1, 1, 1, 1, 1, 1, 1, 1, 0, 1, 0, 0, 1, 1, 0] (Try.f8.body.getD .skip)) :=
  piece_ok (nt := 185) (c := (sel [1, 1, 1, 1, 1, 1, 1, 1, 1, 1, 1, 1, 0, 1, 0, 0, 1, 1, 0] (Try.f8.body.getD .skip))) (C := L_TagtreeReturns_C R k) (an := An) (t := (.node (.seq (.reg [0, 9, 11, 18, 20, 126, 127, 128] []) (.seq (.reg [0, 9, 11, 18, 20, 21, 22, 126, 127, 128] []) (.seq (.reg [0, 9, 11, 18, 20, 21, 22, 23, 126, 127, 128] []) (.seq (.opq 8 [0, 9, 11, 18, 20, 21, 22, 23, 126, 127, 128] ⟨[0, 9, 11, 18, 20, 21, 23, 126, 127, 128], [], [6]⟩ (.seq (.reg [0, 9, 11, 18, 20, 21, 23, 126, 127, 128, 163] []) (.cond (.seq (.reg [6] []) .leaf) .leaf))) (.seq (.reg [0, 9, 11, 18, 21, 23, 24, 25, 126, 127, 128] []) (.seq (.reg [0, 9, 11, 18, 126, 127, 128, 182] []) (.cond (.seq (.reg [6] []) .leaf) .leaf))))))))) (ic := L_TagtreeReturns_i7) (L_TagtreeReturns_S R k) (L_TagtreeReturns_J R k) (by kernel_rfl) (And.intro True.intro (And.intro True.intro (And.intro True.intro (And.intro (L_TagtreeReturns_j8 k) (And.intro True.intro (And.intro True.intro (And.intro (And.intro True.intro True.intro) True.intro))))))) (L_TagtreeReturns_a7 R k k)
    (fun vals H K r h => by
      unfold L_TagtreeReturns_a7 L_TagtreeReturns_aa7 at h
      split at h <;> first | (cases h; done) | exact Eq.trans (L_TagtreeReturns_e7 (L_small k) L_exampleHoldsq (tagtree_New k) (tagtree_Tree_Set k) L_inside bitio_NewWriter (tagtree_Tree_Encode k) (bitio_Writer_Bytes k) bitio_NewReader (tagtree_Tree_Decode k) (tagtree_Tree_Value k) (L_TagtreeReturns_l0 k) (L_TagtreeReturns_p1 k) (L_TagtreeReturns_p2 k) (L_TagtreeReturns_l3 k) (L_TagtreeReturns_p4 k) (L_TagtreeReturns_p5 k) (L_TagtreeReturns_l6 k) (L_TagtreeReturns_p7 k) (L_TagtreeReturns_p8 k) k _ _ _ _ _ _ _ _ _ _ _ H K) h)
theorem L_TagtreeReturns_e6 {R : Type} (L_small : L_small_t R) (L_exampleHoldsq : L_exampleHoldsq_t R) (tagtree_New : tagtree_New_t R) (tagtree_Tree_Set : tagtree_Tree_Set_t R) (L_inside : L_inside_t R) (bitio_NewWriter : bitio_NewWriter_t R) (tagtree_Tree_Encode : tagtree_Tree_Encode_t R) (bitio_Writer_Bytes : bitio_Writer_Bytes_t R) (bitio_NewReader : bitio_NewReader_t R) (tagtree_Tree_Decode : tagtree_Tree_Decode_t R) (tagtree_Tree_Value : tagtree_Tree_Value_t R) (L_TagtreeReturns_l0 : L_TagtreeReturns_l0_t R) (L_TagtreeReturns_p1 : L_TagtreeReturns_p1_t R) (L_TagtreeReturns_p2 : L_TagtreeReturns_p2_t R) (L_TagtreeReturns_l3 : L_TagtreeReturns_l3_t R) (L_TagtreeReturns_p4 : L_TagtreeReturns_p4_t R) (L_TagtreeReturns_p5 : L_TagtreeReturns_p5_t R) (L_TagtreeReturns_l6 : L_TagtreeReturns_l6_t R) (L_TagtreeReturns_p7 : L_TagtreeReturns_p7_t R) (L_TagtreeReturns_p8 : L_TagtreeReturns_p8_t R) (k n : Nat) (n1046 : Int) (p1047 : Oa) (q1048 : Oa) (l1049 : Nat) (c1050 : Nat) (p1051 : Oa) (q1052 : Oa) (l1053 : Nat) (c1054 : Nat) (n1055 : Int) (n1056 : Int) (H : Heap) (K : Xit → Env → Heap → Option R) : evJ (L_TagtreeReturns_Ct L_small L_exampleHoldsq tagtree_New tagtree_Tree_Set L_inside bitio_NewWriter tagtree_Tree_Encode bitio_Writer_Bytes bitio_NewReader tagtree_Tree_Decode tagtree_Tree_Value) (L_TagtreeReturns_Jt k L_TagtreeReturns_l0 L_TagtreeReturns_p1 L_TagtreeReturns_p2 L_TagtreeReturns_l3 L_TagtreeReturns_p4 L_TagtreeReturns_p5 L_TagtreeReturns_l6 L_TagtreeReturns_p7 L_TagtreeReturns_p8) L_TagtreeReturns_i6 (List.zip [0, 9, 11, 18, 126, 127, 128] [.int .i64 n1046, .pointer p1047, .slice q1048 l1049 c1050, .pointer p1051, .slice q1052 l1053 c1054, .int .i64 n1055, .int .i64 n1056]) H (fun x e' H' => match x with | .normal => L_TagtreeReturns_aa6 L_TagtreeReturns_l6 n ((clean e' [0, 9, 11, 18, 126, 127, 128]).map (·.2)) H' K | x => K x (clean e' ((⟨[], [(4, [])], [6]⟩ : Out).of x)) H') = L_TagtreeReturns_l6_b L_TagtreeReturns_p7 (L_TagtreeReturns_l6 (fun H => K (.exit 4) [] H) (fun t2041 H => K .ret [(6, .bool t2041)] H) n) (fun H => K (.exit 4) [] H) (fun t2041 H => K .ret [(6, .bool t2041)] H) k n1046 p1047 q1048 l1049 c1050 p1051 q1052 l1053 c1054 n1055 n1056 H := by kernel_rfl
theorem L_TagtreeReturns_j6 {R : Type} (k : Nat) : JS Try.prog 185 (L_TagtreeReturns_a6 R k k) [0, 9, 11, 18, 126, 127, 128] ⟨[], [(4, [])], [6]⟩ (.loop (sel [1, 1, 1, 1, 1, 1, 1, 1, 1, 1, 1, 1, 0, 1, 0, 0] (Try.f8.body.getD .skip))) :=
  loop_ok (nt := 185) (c := (sel [1, 1, 1, 1, 1, 1, 1, 1, 1, 1, 1, 1, 0, 1, 0, 0] (Try.f8.body.getD .skip))) (C := L_TagtreeReturns_C R k) (an := An) (t := (.seq (.reg [0, 9, 11, 18, 126, 127, 128, 129] []) (.seq (.cond .leaf .leaf) (.seq (.opq 7 [0, 9, 11, 18, 126, 127, 128] ⟨[0, 9, 11, 18, 126, 127, 128], [], [6]⟩ (.node (.seq (.reg [0, 9, 11, 18, 20, 126, 127, 128] []) (.seq (.reg [0, 9, 11, 18, 20, 21, 22, 126, 127, 128] []) (.seq (.reg [0, 9, 11, 18, 20, 21, 22, 23, 126, 127, 128] []) (.seq (.opq 8 [0, 9, 11, 18, 20, 21, 22, 23, 126, 127, 128] ⟨[0, 9, 11, 18, 20, 21, 23, 126, 127, 128], [], [6]⟩ (.seq (.reg [0, 9, 11, 18, 20, 21, 23, 126, 127, 128, 163] []) (.cond (.seq (.reg [6] []) .leaf) .leaf))) (.seq (.reg [0, 9, 11, 18, 21, 23, 24, 25, 126, 127, 128] []) (.seq (.reg [0, 9, 11, 18, 126, 127, 128, 182] []) (.cond (.seq (.reg [6] []) .leaf) .leaf))))))))) (.reg [0, 9, 11, 18, 126, 127, 128] []))))) (ic := L_TagtreeReturns_i6) (L_TagtreeReturns_S R k) (L_TagtreeReturns_J R k) (by kernel_rfl) (And.intro True.intro (And.intro (And.intro True.intro True.intro) (And.intro (L_TagtreeReturns_j7 k) True.intro))) (L_TagtreeReturns_a6 R k) (fun vals H K => by unfold L_TagtreeReturns_a6 L_TagtreeReturns_aa6; split <;> rfl)
    (fun n vals H K r h => by
      unfold L_TagtreeReturns_a6 L_TagtreeReturns_aa6 at h
      split at h <;> first | (cases h; done) | exact Eq.trans (L_TagtreeReturns_e6 (L_small k) L_exampleHoldsq (tagtree_New k) (tagtree_Tree_Set k) L_inside bitio_NewWriter (tagtree_Tree_Encode k) (bitio_Writer_Bytes k) bitio_NewReader (tagtree_Tree_Decode k) (tagtree_Tree_Value k) (L_TagtreeReturns_l0 k) (L_TagtreeReturns_p1 k) (L_TagtreeReturns_p2 k) (L_TagtreeReturns_l3 k) (L_TagtreeReturns_p4 k) (L_TagtreeReturns_p5 k) (L_TagtreeReturns_l6 k) (L_TagtreeReturns_p7 k) (L_TagtreeReturns_p8 k) k n _ _ _ _ _ _ _ _ _ _ _ H K) h) k
theorem L_TagtreeReturns_e5 {R : Type} (L_small : L_small_t R) (L_exampleHoldsq : L_exampleHoldsq_t R) (tagtree_New : tagtree_New_t R) (tagtree_Tree_Set : tagtree_Tree_Set_t R) (L_inside : L_inside_t R) (bitio_NewWriter : bitio_NewWriter_t R) (tagtree_Tree_Encode : tagtree_Tree_Encode_t R) (bitio_Writer_Bytes : bitio_Writer_Bytes_t R) (bitio_NewReader : bitio_NewReader_t R) (tagtree_Tree_Decode : tagtree_Tree_Decode_t R) (tagtree_Tree_Value : tagtree_Tree_Value_t R) (L_TagtreeReturns_l0 : L_TagtreeReturns_l0_t R) (L_TagtreeReturns_p1 : L_TagtreeReturns_p1_t R) (L_TagtreeReturns_p2 : L_TagtreeReturns_p2_t R) (L_TagtreeReturns_l3 : L_TagtreeReturns_l3_t R) (L_TagtreeReturns_p4 : L_TagtreeReturns_p4_t R) (L_TagtreeReturns_p5 : L_TagtreeReturns_p5_t R) (L_TagtreeReturns_l6 : L_TagtreeReturns_l6_t R) (L_TagtreeReturns_p7 : L_TagtreeReturns_p7_t R) (L_TagtreeReturns_p8 : L_TagtreeReturns_p8_t R) (k : Nat) (n873 : Int) (n874 : Int) (p875 : Oa) (p876 : Oa) (q877 : Oa) (l878 : Nat) (c879 : Nat) (p880 : Oa) (q881 : Oa) (l882 : Nat) (c883 : Nat) (p884 : Oa) (q885 : Oa) (l886 : Nat) (c887 : Nat) (n888 : Int) (n889 : Int) (H : Heap) (K : Xit → Env → Heap → Option R) : evJ (L_TagtreeReturns_Ct L_small L_exampleHoldsq tagtree_New tagtree_Tree_Set L_inside bitio_NewWriter tagtree_Tree_Encode bitio_Writer_Bytes bitio_NewReader tagtree_Tree_Decode tagtree_Tree_Value) (L_TagtreeReturns_Jt k L_TagtreeReturns_l0 L_TagtreeReturns_p1 L_TagtreeReturns_p2 L_TagtreeReturns_l3 L_TagtreeReturns_p4 L_TagtreeReturns_p5 L_TagtreeReturns_l6 L_TagtreeReturns_p7 L_TagtreeReturns_p8) L_TagtreeReturns_i5 (List.zip [0, 1, 7, 9, 11, 14, 15, 17, 92, 93, 94] [.int .i64 n873, .int .i64 n874, .pointer p875, .pointer p876, .slice q877 l878 c879, .pointer p880, .slice q881 l882 c883, .pointer p884, .slice q885 l886 c887, .int .i64 n888, .int .i64 n889]) H (fun x e' H' => K x (clean e' ((⟨[0, 1, 7, 9, 11, 14, 15, 17, 92, 93, 94], [(3, [0, 1, 7, 9, 11, 14, 15, 92, 93, 94])], []⟩ : Out).of x)) H') = L_TagtreeReturns_p5_b tagtree_Tree_Encode k n873 n874 p875 p876 q877 l878 c879 p880 q881 l882 c883 p884 q885 l886 c887 n888 n889 H (fun n2008 n2009 p2010 p2011 q2012 l2013 c2014 p2015 q2016 l2017 c2018 q2019 l2020 c2021 n2022 n2023 H => K (.exit 3) [(0, .int .i64 n2008), (1, .int .i64 n2009), (7, .pointer p2010), (9, .pointer p2011), (11, .slice q2012 l2013 c2014), (14, .pointer p2015), (15, .slice q2016 l2017 c2018), (92, .slice q2019 l2020 c2021), (93, .int .i64 n2022), (94, .int .i64 n2023)] H) (fun n2024 n2025 p2026 p2027 q2028 l2029 c2030 p2031 q2032 l2033 c2034 p2035 q2036 l2037 c2038 n2039 n2040 H => K .normal [(0, .int .i64 n2024), (1, .int .i64 n2025), (7, .pointer p2026), (9, .pointer p2027), (11, .slice q2028 l2029 c2030), (14, .pointer p2031), (15, .slice q2032 l2033 c2034), (17, .pointer p2035), (92, .slice q2036 l2037 c2038), (93, .int .i64 n2039), (94, .int .i64 n2040)] H) := by kernel_rfl
theorem L_TagtreeReturns_j5 {R : Type} (k : Nat) : JS Try.prog 185 (L_TagtreeReturns_a5 R k k) [0, 1, 7, 9, 11, 14, 15, 17, 92, 93, 94] ⟨[0, 1, 7, 9, 11, 14, 15, 17, 92, 93, 94], [(3, [0, 1, 7, 9, 11, 14, 15, 92, 93, 94])], []⟩ (sel [1, 1, 1, 1, 1, 1, 1, 1, 1, 1, 0, 1, 0, 0, 1, 1, 0, 0, 1, 0] (Try.f8.body.getD .skip)) :=
  piece_ok (nt := 185) (c := (sel [1, 1, 1, 1, 1, 1, 1, 1, 1, 1, 0, 1, 0, 0, 1, 1, 0, 0, 1, 0] (Try.f8.body.getD .skip))) (C := L_TagtreeReturns_C R k) (an := An) (t := (.seq (.reg [0, 1, 7, 9, 11, 14, 15, 17, 92, 93, 94, 112] []) (.cond .leaf .leaf))) (ic := L_TagtreeReturns_i5) (L_TagtreeReturns_S R k) (L_TagtreeReturns_J R k) (by kernel_rfl) (And.intro True.intro (And.intro True.intro True.intro)) (L_TagtreeReturns_a5 R k k)
    (fun vals H K r h => by
      unfold L_TagtreeReturns_a5 L_TagtreeReturns_aa5 at h
      split at h <;> first | (cases h; done) | exact Eq.trans (L_TagtreeReturns_e5 (L_small k) L_exampleHoldsq (tagtree_New k) (tagtree_Tree_Set k) L_inside bitio_NewWriter (tagtree_Tree_Encode k) (bitio_Writer_Bytes k) bitio_NewReader (tagtree_Tree_Decode k) (tagtree_Tree_Value k) (L_TagtreeReturns_l0 k) (L_TagtreeReturns_p1 k) (L_TagtreeReturns_p2 k) (L_TagtreeReturns_l3 k) (L_TagtreeReturns_p4 k) (L_TagtreeReturns_p5 k) (L_TagtreeReturns_l6 k) (L_TagtreeReturns_p7 k) (L_TagtreeReturns_p8 k) k _ _ _ _ _ _ _ _ _ _ _ _ _ _ _ _ _ H K) h)
theorem L_TagtreeReturns_e4 {R : Type} (L_small : L_small_t R) (L_exampleHoldsq : L_exampleHoldsq_t R) (tagtree_New : tagtree_New_t R) (tagtree_Tree_Set : tagtree_Tree_Set_t R) (L_inside : L_inside_t R) (bitio_NewWriter : bitio_NewWriter_t R) (tagtree_Tree_Encode : tagtree_Tree_Encode_t R) (bitio_Writer_Bytes : bitio_Writer_Bytes_t R) (bitio_NewReader : bitio_NewReader_t R) (tagtree_Tree_Decode : tagtree_Tree_Decode_t R) (tagtree_Tree_Value : tagtree_Tree_Value_t R) (L_TagtreeReturns_l0 : L_TagtreeReturns_l0_t R) (L_TagtreeReturns_p1 : L_TagtreeReturns_p1_t R) (L_TagtreeReturns_p2 : L_TagtreeReturns_p2_t R) (L_TagtreeReturns_l3 : L_TagtreeReturns_l3_t R) (L_TagtreeReturns_p4 : L_TagtreeReturns_p4_t R) (L_TagtreeReturns_p5 : L_TagtreeReturns_p5_t R) (L_TagtreeReturns_l6 : L_TagtreeReturns_l6_t R) (L_TagtreeReturns_p7 : L_TagtreeReturns_p7_t R) (L_TagtreeReturns_p8 : L_TagtreeReturns_p8_t R) (k : Nat) (n849 : Int) (n850 : Int) (p851 : Oa) (p852 : Oa) (q853 : Oa) (l854 : Nat) (c855 : Nat) (p856 : Oa) (q857 : Oa) (l858 : Nat) (c859 : Nat) (q860 : Oa) (l861 : Nat) (c862 : Nat) (n863 : Int) (n864 : Int) (H : Heap) (K : Xit → Env → Heap → Option R) : evJ (L_TagtreeReturns_Ct L_small L_exampleHoldsq tagtree_New tagtree_Tree_Set L_inside bitio_NewWriter tagtree_Tree_Encode bitio_Writer_Bytes bitio_NewReader tagtree_Tree_Decode tagtree_Tree_Value) (L_TagtreeReturns_Jt k L_TagtreeReturns_l0 L_TagtreeReturns_p1 L_TagtreeReturns_p2 L_TagtreeReturns_l3 L_TagtreeReturns_p4 L_TagtreeReturns_p5 L_TagtreeReturns_l6 L_TagtreeReturns_p7 L_TagtreeReturns_p8) L_TagtreeReturns_i4 (List.zip [0, 1, 7, 9, 11, 14, 15, 92, 93, 94] [.int .i64 n849, .int .i64 n850, .pointer p851, .pointer p852, .slice q853 l854 c855, .pointer p856, .slice q857 l858 c859, .slice q860 l861 c862, .int .i64 n863, .int .i64 n864]) H (fun x e' H' => K x (clean e' ((⟨[0, 1, 7, 9, 11, 14, 15, 92, 93, 94], [], [6]⟩ : Out).of x)) H') = L_TagtreeReturns_p4_b L_TagtreeReturns_p5 L_inside k n849 n850 p851 p852 q853 l854 c855 p856 q857 l858 c859 q860 l861 c862 n863 n864 H (fun n1991 n1992 p1993 p1994 q1995 l1996 c1997 p1998 q1999 l2000 c2001 q2002 l2003 c2004 n2005 n2006 H => K .normal [(0, .int .i64 n1991), (1, .int .i64 n1992), (7, .pointer p1993), (9, .pointer p1994), (11, .slice q1995 l1996 c1997), (14, .pointer p1998), (15, .slice q1999 l2000 c2001), (92, .slice q2002 l2003 c2004), (93, .int .i64 n2005), (94, .int .i64 n2006)] H) (fun t2007 H => K .ret [(6, .bool t2007)] H) := by kernel_rfl
theorem L_TagtreeReturns_j4 {R : Type} (k : Nat) : JS Try.prog 185 (L_TagtreeReturns_a4 R k k) [0, 1, 7, 9, 11, 14, 15, 92, 93, 94] ⟨[0, 1, 7, 9, 11, 14, 15, 92, 93, 94], [], [6]⟩ (sel [1, 1, 1, 1, 1, 1, 1, 1, 1, 1, 0, 1, 0, 0, 1, 1, 0] (Try.f8.body.getD .skip)) :=
  piece_ok (nt := 185) (c := (sel [1, 1, 1, 1, 1, 1, 1, 1, 1, 1, 0, 1, 0, 0, 1, 1, 0] (Try.f8.body.getD .skip))) (C := L_TagtreeReturns_C R k) (an := An) (t := (.node (.seq (.reg [0, 1, 7, 9, 11, 14, 15, 17, 92, 93, 94] []) (.seq (.opq 5 [0, 1, 7, 9, 11, 14, 15, 17, 92, 93, 94] ⟨[0, 1, 7, 9, 11, 14, 15, 17, 92, 93, 94], [(3, [0, 1, 7, 9, 11, 14, 15, 92, 93, 94])], []⟩ (.seq (.reg [0, 1, 7, 9, 11, 14, 15, 17, 92, 93, 94, 112] []) (.cond .leaf .leaf))) (.seq (.seq (.reg [0, 1, 7, 9, 11, 14, 15, 17, 92, 93, 94, 117] []) (.cond (.seq (.reg [6] []) .leaf) .leaf)) (.reg [0, 1, 7, 9, 11, 14, 15, 92, 93, 94] [])))))) (ic := L_TagtreeReturns_i4) (L_TagtreeReturns_S R k) (L_TagtreeReturns_J R k) (by kernel_rfl) (And.intro True.intro (And.intro (L_TagtreeReturns_j5 k) (And.intro (And.intro True.intro (And.intro (And.intro True.intro True.intro) True.intro)) True.intro))) (L_TagtreeReturns_a4 R k k)
    (fun vals H K r h => by
      unfold L_TagtreeReturns_a4 L_TagtreeReturns_aa4 at h
      split at h <;> first | (cases h; done) | exact Eq.trans (L_TagtreeReturns_e4 (L_small k) L_exampleHoldsq (tagtree_New k) (tagtree_Tree_Set k) L_inside bitio_NewWriter (tagtree_Tree_Encode k) (bitio_Writer_Bytes k) bitio_NewReader (tagtree_Tree_Decode k) (tagtree_Tree_Value k) (L_TagtreeReturns_l0 k) (L_TagtreeReturns_p1 k) (L_TagtreeReturns_p2 k) (L_TagtreeReturns_l3 k) (L_TagtreeReturns_p4 k) (L_TagtreeReturns_p5 k) (L_TagtreeReturns_l6 k) (L_TagtreeReturns_p7 k) (L_TagtreeReturns_p8 k) k _ _ _ _ _ _ _ _ _ _ _ _ _ _ _ _ H K) h)
theorem L_TagtreeReturns_e3 {R : Type} (L_small : L_small_t R) (L_exampleHoldsq : L_exampleHoldsq_t R) (tagtree_New : tagtree_New_t R) (tagtree_Tree_Set : tagtree_Tree_Set_t R) (L_inside : L_inside_t R) (bitio_NewWriter : bitio_NewWriter_t R) (tagtree_Tree_Encode : tagtree_Tree_Encode_t R) (bitio_Writer_Bytes : bitio_Writer_Bytes_t R) (bitio_NewReader : bitio_NewReader_t R) (tagtree_Tree_Decode : tagtree_Tree_Decode_t R) (tagtree_Tree_Value : tagtree_Tree_Value_t R) (L_TagtreeReturns_l0 : L_TagtreeReturns_l0_t R) (L_TagtreeReturns_p1 : L_TagtreeReturns_p1_t R) (L_TagtreeReturns_p2 : L_TagtreeReturns_p2_t R) (L_TagtreeReturns_l3 : L_TagtreeReturns_l3_t R) (L_TagtreeReturns_p4 : L_TagtreeReturns_p4_t R) (L_TagtreeReturns_p5 : L_TagtreeReturns_p5_t R) (L_TagtreeReturns_l6 : L_TagtreeReturns_l6_t R) (L_TagtreeReturns_p7 : L_TagtreeReturns_p7_t R) (L_TagtreeReturns_p8 : L_TagtreeReturns_p8_t R) (k n : Nat) (n833 : Int) (n834 : Int) (p835 : Oa) (p836 : Oa) (q837 : Oa) (l838 : Nat) (c839 : Nat) (p840 : Oa) (q841 : Oa) (l842 : Nat) (c843 : Nat) (q844 : Oa) (l845 : Nat) (c846 : Nat) (n847 : Int) (n848 : Int) (H : Heap) (K : Xit → Env → Heap → Option R) : evJ (L_TagtreeReturns_Ct L_small L_exampleHoldsq tagtree_New tagtree_Tree_Set L_inside bitio_NewWriter tagtree_Tree_Encode bitio_Writer_Bytes bitio_NewReader tagtree_Tree_Decode tagtree_Tree_Value) (L_TagtreeReturns_Jt k L_TagtreeReturns_l0 L_TagtreeReturns_p1 L_TagtreeReturns_p2 L_TagtreeReturns_l3 L_TagtreeReturns_p4 L_TagtreeReturns_p5 L_TagtreeReturns_l6 L_TagtreeReturns_p7 L_TagtreeReturns_p8) L_TagtreeReturns_i3 (List.zip [0, 1, 7, 9, 11, 14, 15, 92, 93, 94] [.int .i64 n833, .int .i64 n834, .pointer p835, .pointer p836, .slice q837 l838 c839, .pointer p840, .slice q841 l842 c843, .slice q844 l845 c846, .int .i64 n847, .int .i64 n848]) H (fun x e' H' => match x with | .normal => L_TagtreeReturns_aa3 L_TagtreeReturns_l3 n ((clean e' [0, 1, 7, 9, 11, 14, 15, 92, 93, 94]).map (·.2)) H' K | x => K x (clean e' ((⟨[], [(2, [0, 9, 11, 14, 15])], [6]⟩ : Out).of x)) H') = L_TagtreeReturns_l3_b L_TagtreeReturns_p4 (L_TagtreeReturns_l3 (fun n1981 p1982 q1983 l1984 c1985 p1986 q1987 l1988 c1989 H => K (.exit 2) [(0, .int .i64 n1981), (9, .pointer p1982), (11, .slice q1983 l1984 c1985), (14, .pointer p1986), (15, .slice q1987 l1988 c1989)] H) (fun t1990 H => K .ret [(6, .bool t1990)] H) n) (fun n1981 p1982 q1983 l1984 c1985 p1986 q1987 l1988 c1989 H => K (.exit 2) [(0, .int .i64 n1981), (9, .pointer p1982), (11, .slice q1983 l1984 c1985), (14, .pointer p1986), (15, .slice q1987 l1988 c1989)] H) (fun t1990 H => K .ret [(6, .bool t1990)] H) k n833 n834 p835 p836 q837 l838 c839 p840 q841 l842 c843 q844 l845 c846 n847 n848 H := by kernel_rfl
theorem L_TagtreeReturns_j3 {R : Type} (k : Nat) : JS Try.prog 185 (L_TagtreeReturns_a3 R k k) [0, 1, 7, 9, 11, 14, 15, 92, 93, 94] ⟨[], [(2, [0, 9, 11, 14, 15])], [6]⟩ (.loop (sel [1, 1, 1, 1, 1, 1, 1, 1, 1, 1, 0, 1, 0, 0] (Try.f8.body.getD .skip))) :=
  loop_ok (nt := 185) (c := (sel [1, 1, 1, 1, 1, 1, 1, 1, 1, 1, 0, 1, 0, 0] (Try.f8.body.getD .skip))) (C := L_TagtreeReturns_C R k) (an := An) (t := (.seq (.reg [0, 1, 7, 9, 11, 14, 15, 92, 93, 94, 95] []) (.seq (.cond .leaf .leaf) (.seq (.opq 4 [0, 1, 7, 9, 11, 14, 15, 92, 93, 94] ⟨[0, 1, 7, 9, 11, 14, 15, 92, 93, 94], [], [6]⟩ (.node (.seq (.reg [0, 1, 7, 9, 11, 14, 15, 17, 92, 93, 94] []) (.seq (.opq 5 [0, 1, 7, 9, 11, 14, 15, 17, 92, 93, 94] ⟨[0, 1, 7, 9, 11, 14, 15, 17, 92, 93, 94], [(3, [0, 1, 7, 9, 11, 14, 15, 92, 93, 94])], []⟩ (.seq (.reg [0, 1, 7, 9, 11, 14, 15, 17, 92, 93, 94, 112] []) (.cond .leaf .leaf))) (.seq (.seq (.reg [0, 1, 7, 9, 11, 14, 15, 17, 92, 93, 94, 117] []) (.cond (.seq (.reg [6] []) .leaf) .leaf)) (.reg [0, 1, 7, 9, 11, 14, 15, 92, 93, 94] [])))))) (.reg [0, 1, 7, 9, 11, 14, 15, 92, 93, 94] []))))) (ic := L_TagtreeReturns_i3) (L_TagtreeReturns_S R k) (L_TagtreeReturns_J R k) (by kernel_rfl) (And.intro True.intro (And.intro (And.intro True.intro True.intro) (And.intro (L_TagtreeReturns_j4 k) True.intro))) (L_TagtreeReturns_a3 R k) (fun vals H K => by unfold L_TagtreeReturns_a3 L_TagtreeReturns_aa3; split <;> rfl)
    (fun n vals H K r h => by
      unfold L_TagtreeReturns_a3 L_TagtreeReturns_aa3 at h
      split at h <;> first | (cases h; done) | exact Eq.trans (L_TagtreeReturns_e3 (L_small k) L_exampleHoldsq (tagtree_New k) (tagtree_Tree_Set k) L_inside bitio_NewWriter (tagtree_Tree_Encode k) (bitio_Writer_Bytes k) bitio_NewReader (tagtree_Tree_Decode k) (tagtree_Tree_Value k) (L_TagtreeReturns_l0 k) (L_TagtreeReturns_p1 k) (L_TagtreeReturns_p2 k) (L_TagtreeReturns_l3 k) (L_TagtreeReturns_p4 k) (L_TagtreeReturns_p5 k) (L_TagtreeReturns_l6 k) (L_TagtreeReturns_p7 k) (L_TagtreeReturns_p8 k) k n _ _ _ _ _ _ _ _ _ _ _ _ _ _ _ _ H K) h) k
theorem L_TagtreeReturns_e2 {R : Type} (L_small : L_small_t R) (L_exampleHoldsq : L_exampleHoldsq_t R) (tagtree_New : tagtree_New_t R) (tagtree_Tree_Set : tagtree_Tree_Set_t R) (L_inside : L_inside_t R) (bitio_NewWriter : bitio_NewWriter_t R) (tagtree_Tree_Encode : tagtree_Tree_Encode_t R) (bitio_Writer_Bytes : bitio_Writer_Bytes_t R) (bitio_NewReader : bitio_NewReader_t R) (tagtree_Tree_Decode : tagtree_Tree_Decode_t R) (tagtree_Tree_Value : tagtree_Tree_Value_t R) (L_TagtreeReturns_l0 : L_TagtreeReturns_l0_t R) (L_TagtreeReturns_p1 : L_TagtreeReturns_p1_t R) (L_TagtreeReturns_p2 : L_TagtreeReturns_p2_t R) (L_TagtreeReturns_l3 : L_TagtreeReturns_l3_t R) (L_TagtreeReturns_p4 : L_TagtreeReturns_p4_t R) (L_TagtreeReturns_p5 : L_TagtreeReturns_p5_t R) (L_TagtreeReturns_l6 : L_TagtreeReturns_l6_t R) (L_TagtreeReturns_p7 : L_TagtreeReturns_p7_t R) (L_TagtreeReturns_p8 : L_TagtreeReturns_p8_t R) (k : Nat) (n671 : Int) (n672 : Int) (q673 : Oa) (l674 : Nat) (c675 : Nat) (p676 : Oa) (p677 : Oa) (q678 : Oa) (l679 : Nat) (c680 : Nat) (p681 : Oa) (q682 : Oa) (l683 : Nat) (c684 : Nat) (n685 : Int) (n686 : Int) (H : Heap) (K : Xit → Env → Heap → Option R) : evJ (L_TagtreeReturns_Ct L_small L_exampleHoldsq tagtree_New tagtree_Tree_Set L_inside bitio_NewWriter tagtree_Tree_Encode bitio_Writer_Bytes bitio_NewReader tagtree_Tree_Decode tagtree_Tree_Value) (L_TagtreeReturns_Jt k L_TagtreeReturns_l0 L_TagtreeReturns_p1 L_TagtreeReturns_p2 L_TagtreeReturns_l3 L_TagtreeReturns_p4 L_TagtreeReturns_p5 L_TagtreeReturns_l6 L_TagtreeReturns_p7 L_TagtreeReturns_p8) L_TagtreeReturns_i2 (List.zip [0, 1, 2, 7, 9, 11, 13, 54, 55, 56] [.int .i64 n671, .int .i64 n672, .slice q673 l674 c675, .pointer p676, .pointer p677, .slice q678 l679 c680, .pointer p681, .slice q682 l683 c684, .int .i64 n685, .int .i64 n686]) H (fun x e' H' => K x (clean e' ((⟨[0, 1, 2, 7, 9, 11, 13, 54, 55, 56], [(1, [0, 1, 2, 7, 9, 11, 54, 55, 56])], []⟩ : Out).of x)) H') = L_TagtreeReturns_p2_b tagtree_Tree_Set k n671 n672 q673 l674 c675 p676 p677 q678 l679 c680 p681 q682 l683 c684 n685 n686 H (fun n1950 n1951 q1952 l1953 c1954 p1955 p1956 q1957 l1958 c1959 q1960 l1961 c1962 n1963 n1964 H => K (.exit 1) [(0, .int .i64 n1950), (1, .int .i64 n1951), (2, .slice q1952 l1953 c1954), (7, .pointer p1955), (9, .pointer p1956), (11, .slice q1957 l1958 c1959), (54, .slice q1960 l1961 c1962), (55, .int .i64 n1963), (56, .int .i64 n1964)] H) (fun n1965 n1966 q1967 l1968 c1969 p1970 p1971 q1972 l1973 c1974 p1975 q1976 l1977 c1978 n1979 n1980 H => K .normal [(0, .int .i64 n1965), (1, .int .i64 n1966), (2, .slice q1967 l1968 c1969), (7, .pointer p1970), (9, .pointer p1971), (11, .slice q1972 l1973 c1974), (13, .pointer p1975), (54, .slice q1976 l1977 c1978), (55, .int .i64 n1979), (56, .int .i64 n1980)] H) := by kernel_rfl
theorem L_TagtreeReturns_j2 {R : Type} (k : Nat) : JS Try.prog 185 (L_TagtreeReturns_a2 R k k) [0, 1, 2, 7, 9, 11, 13, 54, 55, 56] ⟨[0, 1, 2, 7, 9, 11, 13, 54, 55, 56], [(1, [0, 1, 2, 7, 9, 11, 54, 55, 56])], []⟩ (sel [1, 1, 1, 1, 1, 1, 1, 0, 1, 0, 0, 1, 1, 0, 0, 1, 0] (Try.f8.body.getD .skip)) :=
  piece_ok (nt := 185) (c := (sel [1, 1, 1, 1, 1, 1, 1, 0, 1, 0, 0, 1, 1, 0, 0, 1, 0] (Try.f8.body.getD .skip))) (C := L_TagtreeReturns_C R k) (an := An) (t := (.seq (.reg [0, 1, 2, 7, 9, 11, 13, 54, 55, 56, 73] []) (.cond .leaf .leaf))) (ic := L_TagtreeReturns_i2) (L_TagtreeReturns_S R k) (L_TagtreeReturns_J R k) (by kernel_rfl) (And.intro True.intro (And.intro True.intro True.intro)) (L_TagtreeReturns_a2 R k k)
    (fun vals H K r h => by
      unfold L_TagtreeReturns_a2 L_TagtreeReturns_aa2 at h
      split at h <;> first | (cases h; done) | exact Eq.trans (L_TagtreeReturns_e2 (L_small k) L_exampleHoldsq (tagtree_New k) (tagtree_Tree_Set k) L_inside bitio_NewWriter (tagtree_Tree_Encode k) (bitio_Writer_Bytes k) bitio_NewReader (tagtree_Tree_Decode k) (tagtree_Tree_Value k) (L_TagtreeReturns_l0 k) (L_TagtreeReturns_p1 k) (L_TagtreeReturns_p2 k) (L_TagtreeReturns_l3 k) (L_TagtreeReturns_p4 k) (L_TagtreeReturns_p5 k) (L_TagtreeReturns_l6 k) (L_TagtreeReturns_p7 k) (L_TagtreeReturns_p8 k) k _ _ _ _ _ _ _ _ _ _ _ _ _ _ _ _ H K) h)
theorem L_TagtreeReturns_e1 {R : Type} (L_small : L_small_t R) (L_exampleHoldsq : L_exampleHoldsq_t R) (tagtree_New : tagtree_New_t R) (tagtree_Tree_Set : tagtree_Tree_Set_t R) (L_inside : L_inside_t R) (bitio_NewWriter : bitio_NewWriter_t R) (tagtree_Tree_Encode : tagtree_Tree_Encode_t R) (bitio_Writer_Bytes : bitio_Writer_Bytes_t R) (bitio_NewReader : bitio_NewReader_t R) (tagtree_Tree_Decode : tagtree_Tree_Decode_t R) (tagtree_Tree_Value : tagtree_Tree_Value_t R) (L_TagtreeReturns_l0 : L_TagtreeReturns_l0_t R) (L_TagtreeReturns_p1 : L_TagtreeReturns_p1_t R) (L_TagtreeReturns_p2 : L_TagtreeReturns_p2_t R) (L_TagtreeReturns_l3 : L_TagtreeReturns_l3_t R) (L_TagtreeReturns_p4 : L_TagtreeReturns_p4_t R) (L_TagtreeReturns_p5 : L_TagtreeReturns_p5_t R) (L_TagtreeReturns_l6 : L_TagtreeReturns_l6_t R) (L_TagtreeReturns_p7 : L_TagtreeReturns_p7_t R) (L_TagtreeReturns_p8 : L_TagtreeReturns_p8_t R) (k : Nat) (n648 : Int) (n649 : Int) (q650 : Oa) (l651 : Nat) (c652 : Nat) (p653 : Oa) (p654 : Oa) (q655 : Oa) (l656 : Nat) (c657 : Nat) (q658 : Oa) (l659 : Nat) (c660 : Nat) (n661 : Int) (n662 : Int) (H : Heap) (K : Xit → Env → Heap → Option R) : evJ (L_TagtreeReturns_Ct L_small L_exampleHoldsq tagtree_New tagtree_Tree_Set L_inside bitio_NewWriter tagtree_Tree_Encode bitio_Writer_Bytes bitio_NewReader tagtree_Tree_Decode tagtree_Tree_Value) (L_TagtreeReturns_Jt k L_TagtreeReturns_l0 L_TagtreeReturns_p1 L_TagtreeReturns_p2 L_TagtreeReturns_l3 L_TagtreeReturns_p4 L_TagtreeReturns_p5 L_TagtreeReturns_l6 L_TagtreeReturns_p7 L_TagtreeReturns_p8) L_TagtreeReturns_i1 (List.zip [0, 1, 2, 7, 9, 11, 54, 55, 56] [.int .i64 n648, .int .i64 n649, .slice q650 l651 c652, .pointer p653, .pointer p654, .slice q655 l656 c657, .slice q658 l659 c660, .int .i64 n661, .int .i64 n662]) H (fun x e' H' => K x (clean e' ((⟨[0, 1, 2, 7, 9, 11, 54, 55, 56], [], [6]⟩ : Out).of x)) H') = L_TagtreeReturns_p1_b L_TagtreeReturns_p2 L_inside k n648 n649 q650 l651 c652 p653 p654 q655 l656 c657 q658 l659 c660 n661 n662 H (fun n1934 n1935 q1936 l1937 c1938 p1939 p1940 q1941 l1942 c1943 q1944 l1945 c1946 n1947 n1948 H => K .normal [(0, .int .i64 n1934), (1, .int .i64 n1935), (2, .slice q1936 l1937 c1938), (7, .pointer p1939), (9, .pointer p1940), (11, .slice q1941 l1942 c1943), (54, .slice q1944 l1945 c1946), (55, .int .i64 n1947), (56, .int .i64 n1948)] H) (fun t1949 H => K .ret [(6, .bool t1949)] H) := by kernel_rfl
theorem L_TagtreeReturns_j1 {R : Type} (k : Nat) : JS Try.prog 185 (L_TagtreeReturns_a1 R k k) [0, 1, 2, 7, 9, 11, 54, 55, 56] ⟨[0, 1, 2, 7, 9, 11, 54, 55, 56], [], [6]⟩ (sel [1, 1, 1, 1, 1, 1, 1, 0, 1, 0, 0, 1, 1, 0] (Try.f8.body.getD .skip)) :=
  piece_ok (nt := 185) (c := (sel [1, 1, 1, 1, 1, 1, 1, 0, 1, 0, 0, 1, 1, 0] (Try.f8.body.getD .skip))) (C := L_TagtreeReturns_C R k) (an := An) (t := (.node (.seq (.reg [0, 1, 2, 7, 9, 11, 13, 54, 55, 56] []) (.seq (.opq 2 [0, 1, 2, 7, 9, 11, 13, 54, 55, 56] ⟨[0, 1, 2, 7, 9, 11, 13, 54, 55, 56], [(1, [0, 1, 2, 7, 9, 11, 54, 55, 56])], []⟩ (.seq (.reg [0, 1, 2, 7, 9, 11, 13, 54, 55, 56, 73] []) (.cond .leaf .leaf))) (.seq (.seq (.reg [0, 1, 2, 7, 9, 11, 13, 54, 55, 56, 78] []) (.cond (.seq (.reg [6] []) .leaf) .leaf)) (.reg [0, 1, 2, 7, 9, 11, 54, 55, 56] [])))))) (ic := L_TagtreeReturns_i1) (L_TagtreeReturns_S R k) (L_TagtreeReturns_J R k) (by kernel_rfl) (And.intro True.intro (And.intro (L_TagtreeReturns_j2 k) (And.intro (And.intro True.intro (And.intro (And.intro True.intro True.intro) True.intro)) True.intro))) (L_TagtreeReturns_a1 R k k)
    (fun vals H K r h => by
      unfold L_TagtreeReturns_a1 L_TagtreeReturns_aa1 at h
      split at h <;> first | (cases h; done) | exact Eq.trans (L_TagtreeReturns_e1 (L_small k) L_exampleHoldsq (tagtree_New k) (tagtree_Tree_Set k) L_inside bitio_NewWriter (tagtree_Tree_Encode k) (bitio_Writer_Bytes k) bitio_NewReader (tagtree_Tree_Decode k) (tagtree_Tree_Value k) (L_TagtreeReturns_l0 k) (L_TagtreeReturns_p1 k) (L_TagtreeReturns_p2 k) (L_TagtreeReturns_l3 k) (L_TagtreeReturns_p4 k) (L_TagtreeReturns_p5 k) (L_TagtreeReturns_l6 k) (L_TagtreeReturns_p7 k) (L_TagtreeReturns_p8 k) k _ _ _ _ _ _ _ _ _ _ _ _ _ _ _ H K) h)
theorem L_TagtreeReturns_e0 {R : Type} (L_small : L_small_t R) (L_exampleHoldsq : L_exampleHoldsq_t R) (tagtree_New : tagtree_New_t R) (tagtree_Tree_Set : tagtree_Tree_Set_t R) (L_inside : L_inside_t R) (bitio_NewWriter : bitio_NewWriter_t R) (tagtree_Tree_Encode : tagtree_Tree_Encode_t R) (bitio_Writer_Bytes : bitio_Writer_Bytes_t R) (bitio_NewReader : bitio_NewReader_t R) (tagtree_Tree_Decode : tagtree_Tree_Decode_t R) (tagtree_Tree_Value : tagtree_Tree_Value_t R) (L_TagtreeReturns_l0 : L_TagtreeReturns_l0_t R) (L_TagtreeReturns_p1 : L_TagtreeReturns_p1_t R) (L_TagtreeReturns_p2 : L_TagtreeReturns_p2_t R) (L_TagtreeReturns_l3 : L_TagtreeReturns_l3_t R) (L_TagtreeReturns_p4 : L_TagtreeReturns_p4_t R) (L_TagtreeReturns_p5 : L_TagtreeReturns_p5_t R) (L_TagtreeReturns_l6 : L_TagtreeReturns_l6_t R) (L_TagtreeReturns_p7 : L_TagtreeReturns_p7_t R) (L_TagtreeReturns_p8 : L_TagtreeReturns_p8_t R) (k n : Nat) (n633 : Int) (n634 : Int) (q635 : Oa) (l636 : Nat) (c637 : Nat) (p638 : Oa) (p639 : Oa) (q640 : Oa) (l641 : Nat) (c642 : Nat) (q643 : Oa) (l644 : Nat) (c645 : Nat) (n646 : Int) (n647 : Int) (H : Heap) (K : Xit → Env → Heap → Option R) : evJ (L_TagtreeReturns_Ct L_small L_exampleHoldsq tagtree_New tagtree_Tree_Set L_inside bitio_NewWriter tagtree_Tree_Encode bitio_Writer_Bytes bitio_NewReader tagtree_Tree_Decode tagtree_Tree_Value) (L_TagtreeReturns_Jt k L_TagtreeReturns_l0 L_TagtreeReturns_p1 L_TagtreeReturns_p2 L_TagtreeReturns_l3 L_TagtreeReturns_p4 L_TagtreeReturns_p5 L_TagtreeReturns_l6 L_TagtreeReturns_p7 L_TagtreeReturns_p8) L_TagtreeReturns_i0 (List.zip [0, 1, 2, 7, 9, 11, 54, 55, 56] [.int .i64 n633, .int .i64 n634, .slice q635 l636 c637, .pointer p638, .pointer p639, .slice q640 l641 c642, .slice q643 l644 c645, .int .i64 n646, .int .i64 n647]) H (fun x e' H' => match x with | .normal => L_TagtreeReturns_aa0 L_TagtreeReturns_l0 n ((clean e' [0, 1, 2, 7, 9, 11, 54, 55, 56]).map (·.2)) H' K | x => K x (clean e' ((⟨[], [(0, [0, 1, 2, 7, 9, 11])], [6]⟩ : Out).of x)) H') = L_TagtreeReturns_l0_b L_TagtreeReturns_p1 (L_TagtreeReturns_l0 (fun n1923 n1924 q1925 l1926 c1927 p1928 p1929 q1930 l1931 c1932 H => K (.exit 0) [(0, .int .i64 n1923), (1, .int .i64 n1924), (2, .slice q1925 l1926 c1927), (7, .pointer p1928), (9, .pointer p1929), (11, .slice q1930 l1931 c1932)] H) (fun t1933 H => K .ret [(6, .bool t1933)] H) n) (fun n1923 n1924 q1925 l1926 c1927 p1928 p1929 q1930 l1931 c1932 H => K (.exit 0) [(0, .int .i64 n1923), (1, .int .i64 n1924), (2, .slice q1925 l1926 c1927), (7, .pointer p1928), (9, .pointer p1929), (11, .slice q1930 l1931 c1932)] H) (fun t1933 H => K .ret [(6, .bool t1933)] H) k n633 n634 q635 l636 c637 p638 p639 q640 l641 c642 q643 l644 c645 n646 n647 H := by kernel_rfl
theorem L_TagtreeReturns_j0 {R : Type} (k : Nat) : JS Try.prog 185 (L_TagtreeReturns_a0 R k k) [0, 1, 2, 7, 9, 11, 54, 55, 56] ⟨[], [(0, [0, 1, 2, 7, 9, 11])], [6]⟩ (.loop (sel [1, 1, 1, 1, 1, 1, 1, 0, 1, 0, 0] (Try.f8.body.getD .skip))) :=
  loop_ok (nt := 185) (c := (sel [1, 1, 1, 1, 1, 1, 1, 0, 1, 0, 0] (Try.f8.body.getD .skip))) (C := L_TagtreeReturns_C R k) (an := An) (t := (.seq (.reg [0, 1, 2, 7, 9, 11, 54, 55, 56, 57] []) (.seq (.cond .leaf .leaf) (.seq (.opq 1 [0, 1, 2, 7, 9, 11, 54, 55, 56] ⟨[0, 1, 2, 7, 9, 11, 54, 55, 56], [], [6]⟩ (.node (.seq (.reg [0, 1, 2, 7, 9, 11, 13, 54, 55, 56] []) (.seq (.opq 2 [0, 1, 2, 7, 9, 11, 13, 54, 55, 56] ⟨[0, 1, 2, 7, 9, 11, 13, 54, 55, 56], [(1, [0, 1, 2, 7, 9, 11, 54, 55, 56])], []⟩ (.seq (.reg [0, 1, 2, 7, 9, 11, 13, 54, 55, 56, 73] []) (.cond .leaf .leaf))) (.seq (.seq (.reg [0, 1, 2, 7, 9, 11, 13, 54, 55, 56, 78] []) (.cond (.seq (.reg [6] []) .leaf) .leaf)) (.reg [0, 1, 2, 7, 9, 11, 54, 55, 56] [])))))) (.reg [0, 1, 2, 7, 9, 11, 54, 55, 56] []))))) (ic := L_TagtreeReturns_i0) (L_TagtreeReturns_S R k) (L_TagtreeReturns_J R k) (by kernel_rfl) (And.intro True.intro (And.intro (And.intro True.intro True.intro) (And.intro (L_TagtreeReturns_j1 k) True.intro))) (L_TagtreeReturns_a0 R k) (fun vals H K => by unfold L_TagtreeReturns_a0 L_TagtreeReturns_aa0; split <;> rfl)
    (fun n vals H K r h => by
      unfold L_TagtreeReturns_a0 L_TagtreeReturns_aa0 at h
      split at h <;> first | (cases h; done) | exact Eq.trans (L_TagtreeReturns_e0 (L_small k) L_exampleHoldsq (tagtree_New k) (tagtree_Tree_Set k) L_inside bitio_NewWriter (tagtree_Tree_Encode k) (bitio_Writer_Bytes k) bitio_NewReader (tagtree_Tree_Decode k) (tagtree_Tree_Value k) (L_TagtreeReturns_l0 k) (L_TagtreeReturns_p1 k) (L_TagtreeReturns_p2 k) (L_TagtreeReturns_l3 k) (L_TagtreeReturns_p4 k) (L_TagtreeReturns_p5 k) (L_TagtreeReturns_l6 k) (L_TagtreeReturns_p7 k) (L_TagtreeReturns_p8 k) k n _ _ _ _ _ _ _ _ _ _ _ _ _ _ _ H K) h) k
def L_TagtreeReturns_ca {R : Type} (f : L_TagtreeReturns_t R) (args : List Value) (H : Heap) (K : Value → Heap → Option R) : Option R :=
  match args with
  | [.int .i64 n614, .int .i64 n615, .slice q616 l617 c618] => f n614 n615 q616 l617 c618 H (fun t2069 H => K (.bool t2069) H)
  | _ => none
def L_TagtreeReturns_c (R : Type) (k : Nat) (args : List Value) (H : Heap) (K : Value → Heap → Option R) : Option R := L_TagtreeReturns_ca (L_TagtreeReturns k) args H K
theorem L_TagtreeReturns_e {R : Type} (L_small : L_small_t R) (L_exampleHoldsq : L_exampleHoldsq_t R) (tagtree_New : tagtree_New_t R) (tagtree_Tree_Set : tagtree_Tree_Set_t R) (L_inside : L_inside_t R) (bitio_NewWriter : bitio_NewWriter_t R) (tagtree_Tree_Encode : tagtree_Tree_Encode_t R) (bitio_Writer_Bytes : bitio_Writer_Bytes_t R) (bitio_NewReader : bitio_NewReader_t R) (tagtree_Tree_Decode : tagtree_Tree_Decode_t R) (tagtree_Tree_Value : tagtree_Tree_Value_t R) (L_TagtreeReturns_l0 : L_TagtreeReturns_l0_t R) (L_TagtreeReturns_p1 : L_TagtreeReturns_p1_t R) (L_TagtreeReturns_p2 : L_TagtreeReturns_p2_t R) (L_TagtreeReturns_l3 : L_TagtreeReturns_l3_t R) (L_TagtreeReturns_p4 : L_TagtreeReturns_p4_t R) (L_TagtreeReturns_p5 : L_TagtreeReturns_p5_t R) (L_TagtreeReturns_l6 : L_TagtreeReturns_l6_t R) (L_TagtreeReturns_p7 : L_TagtreeReturns_p7_t R) (L_TagtreeReturns_p8 : L_TagtreeReturns_p8_t R) (k : Nat) (n614 : Int) (n615 : Int) (q616 : Oa) (l617 : Nat) (c618 : Nat) (H : Heap) (K : Value → Heap → Option R) : evF (L_TagtreeReturns_Ct L_small L_exampleHoldsq tagtree_New tagtree_Tree_Set L_inside bitio_NewWriter tagtree_Tree_Encode bitio_Writer_Bytes bitio_NewReader tagtree_Tree_Decode tagtree_Tree_Value) (L_TagtreeReturns_Jt k L_TagtreeReturns_l0 L_TagtreeReturns_p1 L_TagtreeReturns_p2 L_TagtreeReturns_l3 L_TagtreeReturns_p4 L_TagtreeReturns_p5 L_TagtreeReturns_l6 L_TagtreeReturns_p7 L_TagtreeReturns_p8) L_TagtreeReturns_f [.int .i64 n614, .int .i64 n615, .slice q616 l617 c618] H K = L_TagtreeReturns_b L_small L_exampleHoldsq tagtree_New L_TagtreeReturns_l0 bitio_NewWriter L_TagtreeReturns_l3 bitio_Writer_Bytes bitio_NewReader L_TagtreeReturns_l6 k n614 n615 q616 l617 c618 H (fun t2069 H => K (.bool t2069) H) := by kernel_rfl
theorem L_TagtreeReturns_cs (R : Type) (k : Nat) : ∀ args H K r, L_TagtreeReturns_c R k args H K = some r → ∃ v H', Tri Try.prog 8 args H v H' ∧ K v H' = some r := by
  intro args H K r h
  unfold L_TagtreeReturns_c L_TagtreeReturns_ca at h
  split at h
  · exact evF_ok (C := L_TagtreeReturns_C R k) (an := An) (t := L_TagtreeReturns_at) (fn := Try.f8) (c := (Try.f8.body.getD .skip)) (ifn := L_TagtreeReturns_f) (L_TagtreeReturns_S R k) (L_TagtreeReturns_J R k) Try.func8 (by kernel_rfl) (by kernel_rfl) (And.intro True.intro (And.intro (And.intro True.intro (And.intro (And.intro True.intro True.intro) True.intro)) (And.intro True.intro (And.intro True.intro (And.intro (And.intro True.intro (And.intro (And.intro True.intro True.intro) True.intro)) (And.intro (And.intro True.intro (And.intro (And.intro True.intro True.intro) True.intro)) (And.intro True.intro (And.intro (And.intro True.intro (L_TagtreeReturns_j0 k)) (And.intro True.intro (And.intro True.intro (And.intro (And.intro True.intro (L_TagtreeReturns_j3 k)) (And.intro True.intro (And.intro (And.intro True.intro (L_TagtreeReturns_j6 k)) (And.intro True.intro True.intro)))))))))))))) rfl (Eq.trans (L_TagtreeReturns_e (L_small k) L_exampleHoldsq (tagtree_New k) (tagtree_Tree_Set k) L_inside bitio_NewWriter (tagtree_Tree_Encode k) (bitio_Writer_Bytes k) bitio_NewReader (tagtree_Tree_Decode k) (tagtree_Tree_Value k) (L_TagtreeReturns_l0 k) (L_TagtreeReturns_p1 k) (L_TagtreeReturns_p2 k) (L_TagtreeReturns_l3 k) (L_TagtreeReturns_p4 k) (L_TagtreeReturns_p5 k) (L_TagtreeReturns_l6 k) (L_TagtreeReturns_p7 k) (L_TagtreeReturns_p8 k) k _ _ _ _ _ H K) h)
  · cases h
end Go.Proofs.Ytblkejnciinaeaa.Sh
