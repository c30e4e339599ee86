/- Lean functions that stand for Go's,over an explicit heap,and the proofs that they do (written by this claim's program shallow.py). -/
import Derived.Test.YtblkejnciinaeaaSh0
import Derived.Test.YtblkejnciinaeaaSh2
import Derived.Test.YtblkejnciinaeaaSh3
import Derived.Test.YtblkejnciinaeaaSh4
import Derived.Test.YtblkejnciinaeaaSh5
import Derived.Test.YtblkejnciinaeaaSh6
import Derived.Test.YtblkejnciinaeaaSh7
set_option maxRecDepth 100000
set_option linter.unusedVariables false
set_option linter.unusedSimpArgs false
namespace Go.Proofs.Ytblkejnciinaeaa.Sh
open Go.Proofs.Ytblkejnciinaeaa.FW
/-! ### R09_NewReader: function 31 -/
abbrev R09_NewReader_t (R : Type) : Type := Oa → Nat → Nat → Heap → (Oa → Heap → Option R) → Option R

def R09_NewReader_b {R : Type} (k : Nat) (q407 : Oa) (l408 : Nat) (c409 : Nat) (H : Heap) (K : Oa → Heap → Option R) : Option R :=
hal H [] fun p410 H411 =>
happS 1 1 H411 p410 0 0 q407 l408 fun q412 l413 c414 H415 =>
hal H415 [.bool true,.slice q412 l413 c414,.int .i64 0,.int .i64 0] fun p416 H417 =>
K p416 H417

def R09_NewReader {R : Type} (q407 : Oa) (l408 : Nat) (c409 : Nat) (H : Heap) (K : Oa → Heap → Option R) : Option R := R09_NewReader_b 0 q407 l408 c409 H K

def R09_NewReader_Ct {R : Type} : Tab R := fun _ _ _ _ => none
def R09_NewReader_C (R : Type) (k : Nat) : Tab R := R09_NewReader_Ct
theorem R09_NewReader_S (R : Type) (k : Nat) : CSound Try.prog (R09_NewReader_C R k) := csound_nil
def R09_NewReader_Jt {R : Type} (k : Nat) : JTab R := fun _ _ _ _ => none
def R09_NewReader_J (R : Type) (k : Nat) : JTab R := R09_NewReader_Jt k
def R09_NewReader_at : AT := (.seq (.reg [0] []) (.seq (.reg [2] []) .leaf))
def R09_NewReader_f : IFn := ⟨8,[.t 2],(.seq (.reg [⟨some 2,.mov (.c (Go.Value.pointer none)),none⟩] [0]) (.seq (.reg [⟨some 3,.bls 0 [] [],none⟩,
⟨some 4,.mov (.t 0),none⟩,
⟨some 5,.app [.int .u8 0] 1 (.t 3) (.t 4),none⟩,
⟨some 6,.bld [.bool false,.slice none 0 0,.int .i64 0,.int .i64 0] [(0,1,(.c (Go.Value.bool true))),(1,1,(.t 5))],none⟩,
⟨some 7,.box (.t 6),none⟩,
⟨some 2,.mov (.t 7),none⟩] [2]) .ret))⟩
def R09_NewReader_ca {R : Type} (f : R09_NewReader_t R) (args : List Value) (H : Heap) (K : Value → Heap → Option R) : Option R :=
  match args with
  | [.slice q407 l408 c409] => f q407 l408 c409 H (fun p1786 H => K (.pointer p1786) H)
  | _ => none
def R09_NewReader_c (R : Type) (k : Nat) (args : List Value) (H : Heap) (K : Value → Heap → Option R) : Option R := R09_NewReader_ca R09_NewReader args H K
theorem R09_NewReader_e {R : Type} (k : Nat) (q407 : Oa) (l408 : Nat) (c409 : Nat) (H : Heap) (K : Value → Heap → Option R) : evF (R09_NewReader_Ct) (R09_NewReader_Jt k) R09_NewReader_f [.slice q407 l408 c409] H K = R09_NewReader_b k q407 l408 c409 H (fun p1786 H => K (.pointer p1786) H) := by kernel_rfl
theorem R09_NewReader_cs (R : Type) (k : Nat) : ∀ args H K r,R09_NewReader_c R k args H K = some r → ∃ v H',Tri Try.prog 31 args H v H' ∧ K v H' = some r := by
  intro args H K r h
  unfold R09_NewReader_c R09_NewReader_ca at h
  split at h
  · exact evF_ok (C := R09_NewReader_C R 0) (an := An) (t := R09_NewReader_at) (fn := Try.f31) (c := (Try.f31.body.getD .skip)) (ifn := R09_NewReader_f) (R09_NewReader_S R 0) (R09_NewReader_J R 0) Try.func31 (by kernel_rfl) (by kernel_rfl) (And.intro True.intro (And.intro True.intro True.intro)) rfl (Eq.trans (R09_NewReader_e 0 _ _ _ H K) h)
  · cases h
/-! ### R09_Reader_Get: function 56 -/
abbrev R09_Reader_Get_p0_t (R : Type) : Type := Oa → Heap → (Oa → Option R) → (Int → Int → Option R) → Option R
def R09_Reader_Get_p0_b {R : Type} (k : Nat) (p631 : Oa) (H : Heap) (KN : Oa → Option R) (KR : Int → Int → Option R) : Option R :=
bif p631.isNone then (KR 0 6)
 else (hnil p631 fun p632 =>
hfad 0 p632 fun p633 =>
ldB H p633 fun t634 =>
bif (!t634) then (KR 0 6)
 else (KN p631))
def R09_Reader_Get_p0 {R : Type} (k : Nat) (p631 : Oa) (H : Heap) (KN : Oa → Option R) (KR : Int → Int → Option R) : Option R := R09_Reader_Get_p0_b k p631 H KN KR

abbrev R09_Reader_Get_p3_t (R : Type) : Type := Oa → Int → Heap → (Oa → Int → Bool → Option R) → Option R
def R09_Reader_Get_p3_b {R : Type} (k : Nat) (p653 : Oa) (n654 : Int) (H : Heap) (KN : Oa → Int → Bool → Option R) : Option R :=
hnil p653 fun p655 =>
hfad 2 p655 fun p656 =>
ldI .i64 H p656 fun n657 =>
bif decide (n657 > 0) then (hnil p653 fun p658 =>
hfad 1 p658 fun p659 =>
ldL H p659 fun q660 l661 c662 =>
hnil p653 fun p663 =>
hfad 2 p663 fun p664 =>
ldI .i64 H p664 fun n665 =>
hidx q660 l661 (IntKind.wrap .i64 (n665 - 1)) 1 fun p666 =>
ldI .u8 H p666 fun n667 =>
KN p653 n654 (n667 == 255))
 else (KN p653 n654 false)
def R09_Reader_Get_p3 {R : Type} (k : Nat) (p653 : Oa) (n654 : Int) (H : Heap) (KN : Oa → Int → Bool → Option R) : Option R := R09_Reader_Get_p3_b k p653 n654 H KN

abbrev R09_Reader_Get_p2_t (R : Type) : Type := Oa → Int → Heap → (Oa → Int → Option R) → (Int → Int → Option R) → Option R
def R09_Reader_Get_p2_b {R : Type} (R09_Reader_Get_p3 : R09_Reader_Get_p3_t R) (k : Nat) (p651 : Oa) (n652 : Int) (H : Heap) (KN : Oa → Int → Option R) (KR : Int → Int → Option R) : Option R :=
R09_Reader_Get_p3 p651 n652 H (fun p671 n672 t673 =>
bif t673 then (hnil p671 fun p674 =>
hfad 1 p674 fun p675 =>
ldL H p675 fun q676 l677 c678 =>
hnil p671 fun p679 =>
hfad 2 p679 fun p680 =>
ldI .i64 H p680 fun n681 =>
hidx q676 l677 n681 1 fun p682 =>
ldI .u8 H p682 fun n683 =>
bif decide (n683 ≥ 128) then (KR 0 8)
 else (KN p671 7))
 else (KN p671 n672))
def R09_Reader_Get_p2 {R : Type} (k : Nat) (p651 : Oa) (n652 : Int) (H : Heap) (KN : Oa → Int → Option R) (KR : Int → Int → Option R) : Option R := R09_Reader_Get_p2_b (R09_Reader_Get_p3 k) k p651 n652 H KN KR

abbrev R09_Reader_Get_p1_t (R : Type) : Type := Oa → Heap → (Oa → Heap → Option R) → (Int → Int → Heap → Option R) → Option R
def R09_Reader_Get_p1_b {R : Type} (R09_Reader_Get_p2 : R09_Reader_Get_p2_t R) (k : Nat) (p639 : Oa) (H : Heap) (KN : Oa → Heap → Option R) (KR : Int → Int → Heap → Option R) : Option R :=
hnil p639 fun p640 =>
hfad 3 p640 fun p641 =>
ldI .i64 H p641 fun n642 =>
bif (n642 == 0) then (hnil p639 fun p643 =>
hfad 2 p643 fun p644 =>
ldI .i64 H p644 fun n645 =>
hnil p639 fun p646 =>
hfad 1 p646 fun p647 =>
ldL H p647 fun q648 l649 c650 =>
bif decide (n645 ≥ ((l649 : Nat) : Int)) then (KR 0 7 H)
 else (R09_Reader_Get_p2 p639 8 H (fun p688 n689 =>
hnil p688 fun p690 =>
hfad 2 p690 fun p691 =>
ldI .i64 H p691 fun n692 =>
hnil p688 fun p693 =>
hfad 2 p693 fun p694 =>
hst1 H p694 (.int .i64 (IntKind.wrap .i64 (n692 + 1))) fun H695 =>
hnil p688 fun p696 =>
hfad 3 p696 fun p697 =>
hst1 H695 p697 (.int .i64 n689) fun H698 =>
KN p688 H698) (fun n699 n700 =>
KR n699 n700 H)))
 else (KN p639 H)
def R09_Reader_Get_p1 {R : Type} (k : Nat) (p639 : Oa) (H : Heap) (KN : Oa → Heap → Option R) (KR : Int → Int → Heap → Option R) : Option R := R09_Reader_Get_p1_b (R09_Reader_Get_p2 k) k p639 H KN KR

abbrev R09_Reader_Get_t (R : Type) : Type := Oa → Heap → (Int → Int → Heap → Option R) → Option R

def R09_Reader_Get_b {R : Type} (R09_Reader_Get_p0 : R09_Reader_Get_p0_t R) (R09_Reader_Get_p1 : R09_Reader_Get_p1_t R) (k : Nat) (p630 : Oa) (H : Heap) (K : Int → Int → Heap → Option R) : Option R :=
R09_Reader_Get_p0 p630 H (fun p638 =>
R09_Reader_Get_p1 p638 H (fun p704 H705 =>
hnil p704 fun p706 =>
hfad 3 p706 fun p707 =>
ldI .i64 H705 p707 fun n708 =>
hnil p704 fun p709 =>
hfad 3 p709 fun p710 =>
hst1 H705 p710 (.int .i64 (IntKind.wrap .i64 (n708 - 1))) fun H711 =>
hnil p704 fun p712 =>
hfad 1 p712 fun p713 =>
ldL H711 p713 fun q714 l715 c716 =>
hnil p704 fun p717 =>
hfad 2 p717 fun p718 =>
ldI .i64 H711 p718 fun n719 =>
hidx q714 l715 (IntKind.wrap .i64 (n719 - 1)) 1 fun p720 =>
ldI .u8 H711 p720 fun n721 =>
hnil p704 fun p722 =>
hfad 3 p722 fun p723 =>
ldI .i64 H711 p723 fun n724 =>
hbin .shr .i64 (IntKind.wrap .i64 n721) (IntKind.wrap .u64 n724) fun n725 =>
hbin .and .i64 n725 1 fun n726 =>
K n726 0 H711) (fun n727 n728 H729 =>
K n727 n728 H729)) (fun n730 n731 =>
K n730 n731 H)

def R09_Reader_Get {R : Type} (k : Nat) (p630 : Oa) (H : Heap) (K : Int → Int → Heap → Option R) : Option R := R09_Reader_Get_b (R09_Reader_Get_p0 k) (R09_Reader_Get_p1 k) k p630 H K

def R09_Reader_Get_Ct {R : Type} : Tab R := fun _ _ _ _ => none
def R09_Reader_Get_C (R : Type) (k : Nat) : Tab R := R09_Reader_Get_Ct
theorem R09_Reader_Get_S (R : Type) (k : Nat) : CSound Try.prog (R09_Reader_Get_C R k) := csound_nil
def R09_Reader_Get_aa0 {R : Type} (f : R09_Reader_Get_p0_t R) (n : Nat) (vals : List Value) (H : Heap) (K : Xit → Env → Heap → Option R) : Option R :=
  match vals with
  | [.pointer p631] => f p631 H (fun p1787 => K .normal [(0,.pointer p1787)] H) (fun n1788 n1789 => K .ret [(2,.int .i64 n1788),(3,.int .i64 n1789)] H)
  | _ => none
def R09_Reader_Get_a0 (R : Type) (k n : Nat) (vals : List Value) (H : Heap) (K : Xit → Env → Heap → Option R) : Option R := R09_Reader_Get_aa0 (R09_Reader_Get_p0 k) n vals H K
def R09_Reader_Get_aa1 {R : Type} (f : R09_Reader_Get_p1_t R) (n : Nat) (vals : List Value) (H : Heap) (K : Xit → Env → Heap → Option R) : Option R :=
  match vals with
  | [.pointer p639] => f p639 H (fun p1790 H => K .normal [(0,.pointer p1790)] H) (fun n1791 n1792 H => K .ret [(2,.int .i64 n1791),(3,.int .i64 n1792)] H)
  | _ => none
def R09_Reader_Get_a1 (R : Type) (k n : Nat) (vals : List Value) (H : Heap) (K : Xit → Env → Heap → Option R) : Option R := R09_Reader_Get_aa1 (R09_Reader_Get_p1 k) n vals H K
def R09_Reader_Get_aa2 {R : Type} (f : R09_Reader_Get_p2_t R) (n : Nat) (vals : List Value) (H : Heap) (K : Xit → Env → Heap → Option R) : Option R :=
  match vals with
  | [.pointer p651,.int .i64 n652] => f p651 n652 H (fun p1793 n1794 => K .normal [(0,.pointer p1793),(4,.int .i64 n1794)] H) (fun n1795 n1796 => K .ret [(2,.int .i64 n1795),(3,.int .i64 n1796)] H)
  | _ => none
def R09_Reader_Get_a2 (R : Type) (k n : Nat) (vals : List Value) (H : Heap) (K : Xit → Env → Heap → Option R) : Option R := R09_Reader_Get_aa2 (R09_Reader_Get_p2 k) n vals H K
def R09_Reader_Get_aa3 {R : Type} (f : R09_Reader_Get_p3_t R) (n : Nat) (vals : List Value) (H : Heap) (K : Xit → Env → Heap → Option R) : Option R :=
  match vals with
  | [.pointer p653,.int .i64 n654] => f p653 n654 H (fun p1797 n1798 t1799 => K .normal [(0,.pointer p1797),(4,.int .i64 n1798),(47,.bool t1799)] H)
  | _ => none
def R09_Reader_Get_a3 (R : Type) (k n : Nat) (vals : List Value) (H : Heap) (K : Xit → Env → Heap → Option R) : Option R := R09_Reader_Get_aa3 (R09_Reader_Get_p3 k) n vals H K
def R09_Reader_Get_Jt {R : Type} (k : Nat) (R09_Reader_Get_p0 : R09_Reader_Get_p0_t R) (R09_Reader_Get_p1 : R09_Reader_Get_p1_t R) (R09_Reader_Get_p2 : R09_Reader_Get_p2_t R) (R09_Reader_Get_p3 : R09_Reader_Get_p3_t R) : JTab R := tcons 0 (R09_Reader_Get_aa0 R09_Reader_Get_p0 k) <| tcons 1 (R09_Reader_Get_aa1 R09_Reader_Get_p1 k) <| tcons 2 (R09_Reader_Get_aa2 R09_Reader_Get_p2 k) <| tcons 3 (R09_Reader_Get_aa3 R09_Reader_Get_p3 k) <| fun _ _ _ _ => none
def R09_Reader_Get_J (R : Type) (k : Nat) : JTab R := R09_Reader_Get_Jt k (R09_Reader_Get_p0 k) (R09_Reader_Get_p1 k) (R09_Reader_Get_p2 k) (R09_Reader_Get_p3 k)
def R09_Reader_Get_at : AT := (.seq (.reg [0] []) (.seq (.opq 0 [0] ⟨[0],[],[2,3]⟩ (.seq (.reg [0,13] []) (.cond (.seq (.reg [2,3] []) .leaf) .leaf))) (.seq (.opq 1 [0] ⟨[0],[],[2,3]⟩ (.seq (.reg [0,18] []) (.cond (.seq (.seq (.reg [0,28] [[],[0],[0,1],[0,1,2],[],[4],[4,5],[4,5,6],[4,5,6,7],[0,1,2,3,4,5,6,7,8]]) (.cond (.seq (.reg [2,3] []) .leaf) .leaf)) (.seq (.reg [0,4] []) (.seq (.opq 2 [0,4] ⟨[0,4],[],[2,3]⟩ (.seq (.opq 3 [0,4] ⟨[0,4,47],[],[]⟩ (.reg [0,4,47] [[],[0],[0,1],[0,1,2],[0,1,2,3],[0,1,2,3,4],[0,1,2,3,4,5],[0,1,2,3,4,5,6],[0,1,2,3,4,5,6,7],[0,1,2,3,4,5,6,7,8],[0,1,2,3,4,5],[0,1,2,3,4,5,10],[0,1,2,3,4,5,10,11],[0,1,2,3,4,5,10,11,12],[0,1,2,3,4,5,10,11,12,13],[0,1,2,3,4,5,6,7,8,9,10,11,12,13,14],[0,1,2,3,4,5,6,7,8,9,10,11,12,13,14,15],[0,1,2,3,4,5,6,7,8,9,10,11,12,13,14,15,16],[0,1,2,3,4,5,6,7,8,9,10,11,12,13,14,15,16,17]])) (.cond (.seq (.seq (.reg [0,58] [[],[0],[0,1],[0,1,2],[],[4],[4,5],[4,5,6],[0,1,2,3,4,5,6,7],[0,1,2,3,4,5,6,7,8],[0,1,2,3,4,5,6,7,8,9]]) (.cond (.seq (.reg [2,3] []) .leaf) .leaf)) (.reg [0,4] [])) .leaf))) (.seq (.reg [0,4] []) (.reg [0] []))))) .leaf))) (.seq (.reg [0] []) (.seq (.reg [2,3] [[],[0],[0,1],[0,1,2],[],[4],[4,5],[4,5,6],[4,5,6,7],[0,1,2,3,4,5,6,7,8],[0,1,2,3,4,5,6,7,8,9],[0,1,2,3,4,5,6,7,8,9,10],[],[12],[12,13],[12,13,14],[12,13,14,15],[0,1,2,3,4,5,6,7,8,9,10,11,12,13,14,15,16],[0,1,2,3,4,5,6,7,8,9,10,11,12,13,14,15,16,17],[0,1,2,3,4,5,6,7,8,9,10,11,12,13,14,15,16,17,18],[0,1,2,3,4,5,6,7,8,9,10,11,12,13,14,15,16,17,18,19]]) .leaf)))))
def R09_Reader_Get_i3 : IC := (.reg [⟨some 29,.mov (.t 0),none⟩,
⟨some 30,.nilc (.t 29),none⟩,
⟨some 31,.fad 2 (.t 30),none⟩,
⟨some 32,.ld (.sc (.int .i64)) (.t 31),none⟩,
⟨some 33,.cmp .gtr (.t 32) (.c (Go.Value.int Go.IntKind.i64 0)),none⟩,
⟨some 34,.mov (.t 33),none⟩,
⟨some 35,.mov (.t 0),some (34,true)⟩,
⟨some 36,.nilc (.t 35),some (34,true)⟩,
⟨some 37,.fad 1 (.t 36),some (34,true)⟩,
⟨some 38,.ld (.sc .slc) (.t 37),some (34,true)⟩,
⟨some 39,.mov (.t 0),some (34,true)⟩,
⟨some 40,.nilc (.t 39),some (34,true)⟩,
⟨some 41,.fad 2 (.t 40),some (34,true)⟩,
⟨some 42,.ld (.sc (.int .i64)) (.t 41),some (34,true)⟩,
⟨some 43,.bin .sub .i64 (.t 42) (.c (Go.Value.int Go.IntKind.i64 1)),some (34,true)⟩,
⟨some 44,.ids 1 (.t 38) (.t 43),some (34,true)⟩,
⟨some 45,.ld (.sc (.int .u8)) (.t 44),some (34,true)⟩,
⟨some 46,.cmp .eql (.t 45) (.c (Go.Value.int Go.IntKind.u8 255)),some (34,true)⟩,
⟨some 47,.pick (.t 34) (.t 46) (.c (Go.Value.bool false)),none⟩] [0,4,47])
def R09_Reader_Get_i2 : IC := (.seq (.opq 3 [0,4] R09_Reader_Get_i3) (.cond (.t 47) (.seq (.seq (.reg [⟨some 48,.mov (.t 0),none⟩,
⟨some 49,.nilc (.t 48),none⟩,
⟨some 50,.fad 1 (.t 49),none⟩,
⟨some 51,.ld (.sc .slc) (.t 50),none⟩,
⟨some 52,.mov (.t 0),none⟩,
⟨some 53,.nilc (.t 52),none⟩,
⟨some 54,.fad 2 (.t 53),none⟩,
⟨some 55,.ld (.sc (.int .i64)) (.t 54),none⟩,
⟨some 56,.ids 1 (.t 51) (.t 55),none⟩,
⟨some 57,.ld (.sc (.int .u8)) (.t 56),none⟩,
⟨some 58,.cmp .geq (.t 57) (.c (Go.Value.int Go.IntKind.u8 128)),none⟩] [0,58]) (.cond (.t 58) (.seq (.reg [⟨some 2,.mov (.c (Go.Value.int Go.IntKind.i64 0)),none⟩,
⟨some 3,.mov (.c (Go.Value.int Go.IntKind.i64 8)),none⟩] [2,3]) .ret) .skip)) (.reg [⟨some 4,.mov (.c (Go.Value.int Go.IntKind.i64 7)),none⟩] [0,4])) .skip))
def R09_Reader_Get_i1 : IC := (.seq (.reg [⟨some 14,.mov (.t 0),none⟩,
⟨some 15,.nilc (.t 14),none⟩,
⟨some 16,.fad 3 (.t 15),none⟩,
⟨some 17,.ld (.sc (.int .i64)) (.t 16),none⟩,
⟨some 18,.cmp .eql (.t 17) (.c (Go.Value.int Go.IntKind.i64 0)),none⟩] [0,18]) (.cond (.t 18) (.seq (.seq (.reg [⟨some 19,.mov (.t 0),none⟩,
⟨some 20,.nilc (.t 19),none⟩,
⟨some 21,.fad 2 (.t 20),none⟩,
⟨some 22,.ld (.sc (.int .i64)) (.t 21),none⟩,
⟨some 23,.mov (.t 0),none⟩,
⟨some 24,.nilc (.t 23),none⟩,
⟨some 25,.fad 1 (.t 24),none⟩,
⟨some 26,.ld (.sc .slc) (.t 25),none⟩,
⟨some 27,.len false (.t 26),none⟩,
⟨some 28,.cmp .geq (.t 22) (.t 27),none⟩] [0,28]) (.cond (.t 28) (.seq (.reg [⟨some 2,.mov (.c (Go.Value.int Go.IntKind.i64 0)),none⟩,
⟨some 3,.mov (.c (Go.Value.int Go.IntKind.i64 7)),none⟩] [2,3]) .ret) .skip)) (.seq (.reg [⟨some 4,.mov (.c (Go.Value.int Go.IntKind.i64 8)),none⟩] [0,4]) (.seq (.opq 2 [0,4] R09_Reader_Get_i2) (.seq (.reg [⟨some 59,.mov (.t 0),none⟩,
⟨some 60,.nilc (.t 59),none⟩,
⟨some 61,.fad 2 (.t 60),none⟩,
⟨some 62,.ld (.sc (.int .i64)) (.t 61),none⟩,
⟨some 63,.bin .add .i64 (.t 62) (.c (Go.Value.int Go.IntKind.i64 1)),none⟩,
⟨some 64,.nilc (.t 59),none⟩,
⟨some 65,.fad 2 (.t 64),none⟩,
⟨none,.st 1 (.t 65) (.t 63),none⟩] [0,4]) (.reg [⟨some 66,.mov (.t 0),none⟩,
⟨some 67,.mov (.t 4),none⟩,
⟨some 68,.nilc (.t 66),none⟩,
⟨some 69,.fad 3 (.t 68),none⟩,
⟨none,.st 1 (.t 69) (.t 67),none⟩] [0]))))) .skip))
def R09_Reader_Get_i0 : IC := (.seq (.reg [⟨some 5,.mov (.t 0),none⟩,
⟨some 6,.eqnil (.t 5) false 0,none⟩,
⟨some 7,.mov (.t 6),none⟩,
⟨some 8,.mov (.t 0),some (7,false)⟩,
⟨some 9,.nilc (.t 8),some (7,false)⟩,
⟨some 10,.fad 0 (.t 9),some (7,false)⟩,
⟨some 11,.ld (.sc .bool) (.t 10),some (7,false)⟩,
⟨some 12,.lnot (.t 11),some (7,false)⟩,
⟨some 13,.pick (.t 7) (.c (Go.Value.bool true)) (.t 12),none⟩] [0,13]) (.cond (.t 13) (.seq (.reg [⟨some 2,.mov (.c (Go.Value.int Go.IntKind.i64 0)),none⟩,
⟨some 3,.mov (.c (Go.Value.int Go.IntKind.i64 6)),none⟩] [2,3]) .ret) .skip))
def R09_Reader_Get_f : IFn := ⟨96,[.t 2,.t 3],(.seq (.reg [⟨some 2,.mov (.c (Go.Value.int Go.IntKind.i64 0)),none⟩,
⟨some 3,.mov (.c (Go.Value.int Go.IntKind.i64 0)),none⟩] [0]) (.seq (.opq 0 [0] R09_Reader_Get_i0) (.seq (.opq 1 [0] R09_Reader_Get_i1) (.seq (.reg [⟨some 70,.mov (.t 0),none⟩,
⟨some 71,.nilc (.t 70),none⟩,
⟨some 72,.fad 3 (.t 71),none⟩,
⟨some 73,.ld (.sc (.int .i64)) (.t 72),none⟩,
⟨some 74,.bin .sub .i64 (.t 73) (.c (Go.Value.int Go.IntKind.i64 1)),none⟩,
⟨some 75,.nilc (.t 70),none⟩,
⟨some 76,.fad 3 (.t 75),none⟩,
⟨none,.st 1 (.t 76) (.t 74),none⟩] [0]) (.seq (.reg [⟨some 77,.mov (.t 0),none⟩,
⟨some 78,.nilc (.t 77),none⟩,
⟨some 79,.fad 1 (.t 78),none⟩,
⟨some 80,.ld (.sc .slc) (.t 79),none⟩,
⟨some 81,.mov (.t 0),none⟩,
⟨some 82,.nilc (.t 81),none⟩,
⟨some 83,.fad 2 (.t 82),none⟩,
⟨some 84,.ld (.sc (.int .i64)) (.t 83),none⟩,
⟨some 85,.bin .sub .i64 (.t 84) (.c (Go.Value.int Go.IntKind.i64 1)),none⟩,
⟨some 86,.ids 1 (.t 80) (.t 85),none⟩,
⟨some 87,.ld (.sc (.int .u8)) (.t 86),none⟩,
⟨some 88,.cnv .i64 (.t 87),none⟩,
⟨some 89,.mov (.t 0),none⟩,
⟨some 90,.nilc (.t 89),none⟩,
⟨some 91,.fad 3 (.t 90),none⟩,
⟨some 92,.ld (.sc (.int .i64)) (.t 91),none⟩,
⟨some 93,.cnv .u64 (.t 92),none⟩,
⟨some 94,.bin .shr .i64 (.t 88) (.t 93),none⟩,
⟨some 95,.bin .and .i64 (.t 94) (.c (Go.Value.int Go.IntKind.i64 1)),none⟩,
⟨some 2,.mov (.t 95),none⟩,
⟨some 3,.mov (.c (Go.Value.int Go.IntKind.i64 0)),none⟩] [2,3]) .ret)))))⟩
theorem R09_Reader_Get_e3 {R : Type} (R09_Reader_Get_p0 : R09_Reader_Get_p0_t R) (R09_Reader_Get_p1 : R09_Reader_Get_p1_t R) (R09_Reader_Get_p2 : R09_Reader_Get_p2_t R) (R09_Reader_Get_p3 : R09_Reader_Get_p3_t R) (k : Nat) (p653 : Oa) (n654 : Int) (H : Heap) (K : Xit → Env → Heap → Option R) : evJ (R09_Reader_Get_Ct) (R09_Reader_Get_Jt k R09_Reader_Get_p0 R09_Reader_Get_p1 R09_Reader_Get_p2 R09_Reader_Get_p3) R09_Reader_Get_i3 (List.zip [0,4] [.pointer p653,.int .i64 n654]) H (fun x e' H' => K x (clean e' ((⟨[0,4,47],[],[]⟩ : Out).of x)) H') = R09_Reader_Get_p3_b k p653 n654 H (fun p1797 n1798 t1799 => K .normal [(0,.pointer p1797),(4,.int .i64 n1798),(47,.bool t1799)] H) := by kernel_rfl
theorem R09_Reader_Get_j3 {R : Type} (k : Nat) : JS Try.prog 96 (R09_Reader_Get_a3 R k k) [0,4] ⟨[0,4,47],[],[]⟩ (sel [1,1,0,1,0,1,1,0,0] (Try.f56.body.getD .skip)) :=
  piece_ok (nt := 96) (c := (sel [1,1,0,1,0,1,1,0,0] (Try.f56.body.getD .skip))) (C := R09_Reader_Get_C R k) (an := An) (t := (.reg [0,4,47] [[],[0],[0,1],[0,1,2],[0,1,2,3],[0,1,2,3,4],[0,1,2,3,4,5],[0,1,2,3,4,5,6],[0,1,2,3,4,5,6,7],[0,1,2,3,4,5,6,7,8],[0,1,2,3,4,5],[0,1,2,3,4,5,10],[0,1,2,3,4,5,10,11],[0,1,2,3,4,5,10,11,12],[0,1,2,3,4,5,10,11,12,13],[0,1,2,3,4,5,6,7,8,9,10,11,12,13,14],[0,1,2,3,4,5,6,7,8,9,10,11,12,13,14,15],[0,1,2,3,4,5,6,7,8,9,10,11,12,13,14,15,16],[0,1,2,3,4,5,6,7,8,9,10,11,12,13,14,15,16,17]])) (ic := R09_Reader_Get_i3) (R09_Reader_Get_S R k) (R09_Reader_Get_J R k) (by kernel_rfl) True.intro (R09_Reader_Get_a3 R k k)
    (fun vals H K r h => by
      unfold R09_Reader_Get_a3 R09_Reader_Get_aa3 at h
      split at h <;> first | (cases h; done) | exact Eq.trans (R09_Reader_Get_e3 (R09_Reader_Get_p0 k) (R09_Reader_Get_p1 k) (R09_Reader_Get_p2 k) (R09_Reader_Get_p3 k) k _ _ H K) h)
theorem R09_Reader_Get_e2 {R : Type} (R09_Reader_Get_p0 : R09_Reader_Get_p0_t R) (R09_Reader_Get_p1 : R09_Reader_Get_p1_t R) (R09_Reader_Get_p2 : R09_Reader_Get_p2_t R) (R09_Reader_Get_p3 : R09_Reader_Get_p3_t R) (k : Nat) (p651 : Oa) (n652 : Int) (H : Heap) (K : Xit → Env → Heap → Option R) : evJ (R09_Reader_Get_Ct) (R09_Reader_Get_Jt k R09_Reader_Get_p0 R09_Reader_Get_p1 R09_Reader_Get_p2 R09_Reader_Get_p3) R09_Reader_Get_i2 (List.zip [0,4] [.pointer p651,.int .i64 n652]) H (fun x e' H' => K x (clean e' ((⟨[0,4],[],[2,3]⟩ : Out).of x)) H') = R09_Reader_Get_p2_b R09_Reader_Get_p3 k p651 n652 H (fun p1793 n1794 => K .normal [(0,.pointer p1793),(4,.int .i64 n1794)] H) (fun n1795 n1796 => K .ret [(2,.int .i64 n1795),(3,.int .i64 n1796)] H) := by kernel_rfl
theorem R09_Reader_Get_j2 {R : Type} (k : Nat) : JS Try.prog 96 (R09_Reader_Get_a2 R k k) [0,4] ⟨[0,4],[],[2,3]⟩ (sel [1,1,0,1,0,1,1,0] (Try.f56.body.getD .skip)) :=
  piece_ok (nt := 96) (c := (sel [1,1,0,1,0,1,1,0] (Try.f56.body.getD .skip))) (C := R09_Reader_Get_C R k) (an := An) (t := (.seq (.opq 3 [0,4] ⟨[0,4,47],[],[]⟩ (.reg [0,4,47] [[],[0],[0,1],[0,1,2],[0,1,2,3],[0,1,2,3,4],[0,1,2,3,4,5],[0,1,2,3,4,5,6],[0,1,2,3,4,5,6,7],[0,1,2,3,4,5,6,7,8],[0,1,2,3,4,5],[0,1,2,3,4,5,10],[0,1,2,3,4,5,10,11],[0,1,2,3,4,5,10,11,12],[0,1,2,3,4,5,10,11,12,13],[0,1,2,3,4,5,6,7,8,9,10,11,12,13,14],[0,1,2,3,4,5,6,7,8,9,10,11,12,13,14,15],[0,1,2,3,4,5,6,7,8,9,10,11,12,13,14,15,16],[0,1,2,3,4,5,6,7,8,9,10,11,12,13,14,15,16,17]])) (.cond (.seq (.seq (.reg [0,58] [[],[0],[0,1],[0,1,2],[],[4],[4,5],[4,5,6],[0,1,2,3,4,5,6,7],[0,1,2,3,4,5,6,7,8],[0,1,2,3,4,5,6,7,8,9]]) (.cond (.seq (.reg [2,3] []) .leaf) .leaf)) (.reg [0,4] [])) .leaf))) (ic := R09_Reader_Get_i2) (R09_Reader_Get_S R k) (R09_Reader_Get_J R k) (by kernel_rfl) (And.intro (R09_Reader_Get_j3 k) (And.intro (And.intro (And.intro True.intro (And.intro (And.intro True.intro True.intro) True.intro)) True.intro) True.intro)) (R09_Reader_Get_a2 R k k)
    (fun vals H K r h => by
      unfold R09_Reader_Get_a2 R09_Reader_Get_aa2 at h
      split at h <;> first | (cases h; done) | exact Eq.trans (R09_Reader_Get_e2 (R09_Reader_Get_p0 k) (R09_Reader_Get_p1 k) (R09_Reader_Get_p2 k) (R09_Reader_Get_p3 k) k _ _ H K) h)
theorem R09_Reader_Get_e1 {R : Type} (R09_Reader_Get_p0 : R09_Reader_Get_p0_t R) (R09_Reader_Get_p1 : R09_Reader_Get_p1_t R) (R09_Reader_Get_p2 : R09_Reader_Get_p2_t R) (R09_Reader_Get_p3 : R09_Reader_Get_p3_t R) (k : Nat) (p639 : Oa) (H : Heap) (K : Xit → Env → Heap → Option R) : evJ (R09_Reader_Get_Ct) (R09_Reader_Get_Jt k R09_Reader_Get_p0 R09_Reader_Get_p1 R09_Reader_Get_p2 R09_Reader_Get_p3) R09_Reader_Get_i1 (List.zip [0] [.pointer p639]) H (fun x e' H' => K x (clean e' ((⟨[0],[],[2,3]⟩ : Out).of x)) H') = R09_Reader_Get_p1_b R09_Reader_Get_p2 k p639 H (fun p1790 H => K .normal [(0,.pointer p1790)] H) (fun n1791 n1792 H => K .ret [(2,.int .i64 n1791),(3,.int .i64 n1792)] H) := by kernel_rfl
theorem R09_Reader_Get_j1 {R : Type} (k : Nat) : JS Try.prog 96 (R09_Reader_Get_a1 R k k) [0] ⟨[0],[],[2,3]⟩ (sel [1,1,0] (Try.f56.body.getD .skip)) :=
  piece_ok (nt := 96) (c := (sel [1,1,0] (Try.f56.body.getD .skip))) (C := R09_Reader_Get_C R k) (an := An) (t := (.seq (.reg [0,18] []) (.cond (.seq (.seq (.reg [0,28] [[],[0],[0,1],[0,1,2],[],[4],[4,5],[4,5,6],[4,5,6,7],[0,1,2,3,4,5,6,7,8]]) (.cond (.seq (.reg [2,3] []) .leaf) .leaf)) (.seq (.reg [0,4] []) (.seq (.opq 2 [0,4] ⟨[0,4],[],[2,3]⟩ (.seq (.opq 3 [0,4] ⟨[0,4,47],[],[]⟩ (.reg [0,4,47] [[],[0],[0,1],[0,1,2],[0,1,2,3],[0,1,2,3,4],[0,1,2,3,4,5],[0,1,2,3,4,5,6],[0,1,2,3,4,5,6,7],[0,1,2,3,4,5,6,7,8],[0,1,2,3,4,5],[0,1,2,3,4,5,10],[0,1,2,3,4,5,10,11],[0,1,2,3,4,5,10,11,12],[0,1,2,3,4,5,10,11,12,13],[0,1,2,3,4,5,6,7,8,9,10,11,12,13,14],[0,1,2,3,4,5,6,7,8,9,10,11,12,13,14,15],[0,1,2,3,4,5,6,7,8,9,10,11,12,13,14,15,16],[0,1,2,3,4,5,6,7,8,9,10,11,12,13,14,15,16,17]])) (.cond (.seq (.seq (.reg [0,58] [[],[0],[0,1],[0,1,2],[],[4],[4,5],[4,5,6],[0,1,2,3,4,5,6,7],[0,1,2,3,4,5,6,7,8],[0,1,2,3,4,5,6,7,8,9]]) (.cond (.seq (.reg [2,3] []) .leaf) .leaf)) (.reg [0,4] [])) .leaf))) (.seq (.reg [0,4] []) (.reg [0] []))))) .leaf))) (ic := R09_Reader_Get_i1) (R09_Reader_Get_S R k) (R09_Reader_Get_J R k) (by kernel_rfl) (And.intro True.intro (And.intro (And.intro (And.intro True.intro (And.intro (And.intro True.intro True.intro) True.intro)) (And.intro True.intro (And.intro (R09_Reader_Get_j2 k) (And.intro True.intro True.intro)))) True.intro)) (R09_Reader_Get_a1 R k k)
    (fun vals H K r h => by
      unfold R09_Reader_Get_a1 R09_Reader_Get_aa1 at h
      split at h <;> first | (cases h; done) | exact Eq.trans (R09_Reader_Get_e1 (R09_Reader_Get_p0 k) (R09_Reader_Get_p1 k) (R09_Reader_Get_p2 k) (R09_Reader_Get_p3 k) k _ H K) h)
theorem R09_Reader_Get_e0 {R : Type} (R09_Reader_Get_p0 : R09_Reader_Get_p0_t R) (R09_Reader_Get_p1 : R09_Reader_Get_p1_t R) (R09_Reader_Get_p2 : R09_Reader_Get_p2_t R) (R09_Reader_Get_p3 : R09_Reader_Get_p3_t R) (k : Nat) (p631 : Oa) (H : Heap) (K : Xit → Env → Heap → Option R) : evJ (R09_Reader_Get_Ct) (R09_Reader_Get_Jt k R09_Reader_Get_p0 R09_Reader_Get_p1 R09_Reader_Get_p2 R09_Reader_Get_p3) R09_Reader_Get_i0 (List.zip [0] [.pointer p631]) H (fun x e' H' => K x (clean e' ((⟨[0],[],[2,3]⟩ : Out).of x)) H') = R09_Reader_Get_p0_b k p631 H (fun p1787 => K .normal [(0,.pointer p1787)] H) (fun n1788 n1789 => K .ret [(2,.int .i64 n1788),(3,.int .i64 n1789)] H) := by kernel_rfl
theorem R09_Reader_Get_j0 {R : Type} (k : Nat) : JS Try.prog 96 (R09_Reader_Get_a0 R k k) [0] ⟨[0],[],[2,3]⟩ (sel [1,0] (Try.f56.body.getD .skip)) :=
  piece_ok (nt := 96) (c := (sel [1,0] (Try.f56.body.getD .skip))) (C := R09_Reader_Get_C R k) (an := An) (t := (.seq (.reg [0,13] []) (.cond (.seq (.reg [2,3] []) .leaf) .leaf))) (ic := R09_Reader_Get_i0) (R09_Reader_Get_S R k) (R09_Reader_Get_J R k) (by kernel_rfl) (And.intro True.intro (And.intro (And.intro True.intro True.intro) True.intro)) (R09_Reader_Get_a0 R k k)
    (fun vals H K r h => by
      unfold R09_Reader_Get_a0 R09_Reader_Get_aa0 at h
      split at h <;> first | (cases h; done) | exact Eq.trans (R09_Reader_Get_e0 (R09_Reader_Get_p0 k) (R09_Reader_Get_p1 k) (R09_Reader_Get_p2 k) (R09_Reader_Get_p3 k) k _ H K) h)
def R09_Reader_Get_ca {R : Type} (f : R09_Reader_Get_t R) (args : List Value) (H : Heap) (K : Value → Heap → Option R) : Option R :=
  match args with
  | [.pointer p630] => f p630 H (fun n1800 n1801 H => K (.tuple ⟨[.int .i64 n1800,.int .i64 n1801]⟩) H)
  | _ => none
def R09_Reader_Get_c (R : Type) (k : Nat) (args : List Value) (H : Heap) (K : Value → Heap → Option R) : Option R := R09_Reader_Get_ca (R09_Reader_Get k) args H K
theorem R09_Reader_Get_e {R : Type} (R09_Reader_Get_p0 : R09_Reader_Get_p0_t R) (R09_Reader_Get_p1 : R09_Reader_Get_p1_t R) (R09_Reader_Get_p2 : R09_Reader_Get_p2_t R) (R09_Reader_Get_p3 : R09_Reader_Get_p3_t R) (k : Nat) (p630 : Oa) (H : Heap) (K : Value → Heap → Option R) : evF (R09_Reader_Get_Ct) (R09_Reader_Get_Jt k R09_Reader_Get_p0 R09_Reader_Get_p1 R09_Reader_Get_p2 R09_Reader_Get_p3) R09_Reader_Get_f [.pointer p630] H K = R09_Reader_Get_b R09_Reader_Get_p0 R09_Reader_Get_p1 k p630 H (fun n1800 n1801 H => K (.tuple ⟨[.int .i64 n1800,.int .i64 n1801]⟩) H) := by kernel_rfl
theorem R09_Reader_Get_cs (R : Type) (k : Nat) : ∀ args H K r,R09_Reader_Get_c R k args H K = some r → ∃ v H',Tri Try.prog 56 args H v H' ∧ K v H' = some r := by
  intro args H K r h
  unfold R09_Reader_Get_c R09_Reader_Get_ca at h
  split at h
  · exact evF_ok (C := R09_Reader_Get_C R k) (an := An) (t := R09_Reader_Get_at) (fn := Try.f56) (c := (Try.f56.body.getD .skip)) (ifn := R09_Reader_Get_f) (R09_Reader_Get_S R k) (R09_Reader_Get_J R k) Try.func56 (by kernel_rfl) (by kernel_rfl) (And.intro True.intro (And.intro (R09_Reader_Get_j0 k) (And.intro (R09_Reader_Get_j1 k) (And.intro True.intro (And.intro True.intro True.intro))))) rfl (Eq.trans (R09_Reader_Get_e (R09_Reader_Get_p0 k) (R09_Reader_Get_p1 k) (R09_Reader_Get_p2 k) (R09_Reader_Get_p3 k) k _ H K) h)
  · cases h
/-! ### R09_Reader_back: function 63 -/
abbrev R09_Reader_back_t (R : Type) : Type := Oa → Int → Int → Heap → (Heap → Option R) → Option R

def R09_Reader_back_b {R : Type} (k : Nat) (p737 : Oa) (n738 : Int) (n739 : Int) (H : Heap) (K : Heap → Option R) : Option R :=
hnil p737 fun p740 =>
hfad 2 p740 fun p741 =>
hst1 H p741 (.int .i64 n738) fun H742 =>
hnil p737 fun p743 =>
hfad 3 p743 fun p744 =>
hst1 H742 p744 (.int .i64 n739) fun H745 =>
K H745

def R09_Reader_back {R : Type} (p737 : Oa) (n738 : Int) (n739 : Int) (H : Heap) (K : Heap → Option R) : Option R := R09_Reader_back_b 0 p737 n738 n739 H K

def R09_Reader_back_Ct {R : Type} : Tab R := fun _ _ _ _ => none
def R09_Reader_back_C (R : Type) (k : Nat) : Tab R := R09_Reader_back_Ct
theorem R09_Reader_back_S (R : Type) (k : Nat) : CSound Try.prog (R09_Reader_back_C R k) := csound_nil
def R09_Reader_back_Jt {R : Type} (k : Nat) : JTab R := fun _ _ _ _ => none
def R09_Reader_back_J (R : Type) (k : Nat) : JTab R := R09_Reader_back_Jt k
def R09_Reader_back_at : AT := (.seq (.reg [0,2] []) (.reg [] []))
def R09_Reader_back_f : IFn := ⟨14,[],(.seq (.reg [⟨some 6,.mov (.t 0),none⟩,
⟨some 7,.mov (.t 1),none⟩,
⟨some 8,.nilc (.t 6),none⟩,
⟨some 9,.fad 2 (.t 8),none⟩,
⟨none,.st 1 (.t 9) (.t 7),none⟩] [0,2]) (.reg [⟨some 10,.mov (.t 0),none⟩,
⟨some 11,.mov (.t 2),none⟩,
⟨some 12,.nilc (.t 10),none⟩,
⟨some 13,.fad 3 (.t 12),none⟩,
⟨none,.st 1 (.t 13) (.t 11),none⟩] []))⟩
def R09_Reader_back_ca {R : Type} (f : R09_Reader_back_t R) (args : List Value) (H : Heap) (K : Value → Heap → Option R) : Option R :=
  match args with
  | [.pointer p737,.int .i64 n738,.int .i64 n739] => f p737 n738 n739 H (fun H => K (undef) H)
  | _ => none
def R09_Reader_back_c (R : Type) (k : Nat) (args : List Value) (H : Heap) (K : Value → Heap → Option R) : Option R := R09_Reader_back_ca R09_Reader_back args H K
theorem R09_Reader_back_e {R : Type} (k : Nat) (p737 : Oa) (n738 : Int) (n739 : Int) (H : Heap) (K : Value → Heap → Option R) : evF (R09_Reader_back_Ct) (R09_Reader_back_Jt k) R09_Reader_back_f [.pointer p737,.int .i64 n738,.int .i64 n739] H K = R09_Reader_back_b k p737 n738 n739 H (fun H => K (undef) H) := by kernel_rfl
theorem R09_Reader_back_cs (R : Type) (k : Nat) : ∀ args H K r,R09_Reader_back_c R k args H K = some r → ∃ v H',Tri Try.prog 63 args H v H' ∧ K v H' = some r := by
  intro args H K r h
  unfold R09_Reader_back_c R09_Reader_back_ca at h
  split at h
  · exact evF_ok (C := R09_Reader_back_C R 0) (an := An) (t := R09_Reader_back_at) (fn := Try.f63) (c := (Try.f63.body.getD .skip)) (ifn := R09_Reader_back_f) (R09_Reader_back_S R 0) (R09_Reader_back_J R 0) Try.func63 (by kernel_rfl) (by kernel_rfl) (And.intro True.intro True.intro) rfl (Eq.trans (R09_Reader_back_e 0 _ _ _ H K) h)
  · cases h
/-! ### R09_Reader_Bits: function 55 -/
abbrev R09_Reader_Bits_p0_t (R : Type) : Type := Oa → Int → Heap → (Oa → Int → Option R) → (Int → Int → Option R) → Option R
def R09_Reader_Bits_p0_b {R : Type} (k : Nat) (p599 : Oa) (n600 : Int) (H : Heap) (KN : Oa → Int → Option R) (KR : Int → Int → Option R) : Option R :=
bif p599.isNone then (KR 0 6)
 else (hnil p599 fun p601 =>
hfad 0 p601 fun p602 =>
ldB H p602 fun t603 =>
bif (!t603) then (KR 0 6)
 else (KN p599 n600))
def R09_Reader_Bits_p0 {R : Type} (k : Nat) (p599 : Oa) (n600 : Int) (H : Heap) (KN : Oa → Int → Option R) (KR : Int → Int → Option R) : Option R := R09_Reader_Bits_p0_b k p599 n600 H KN KR

abbrev R09_Reader_Bits_p1_t (R : Type) : Type := Oa → Int → (Oa → Int → Option R) → (Int → Int → Option R) → Option R
def R09_Reader_Bits_p1_b {R : Type} (k : Nat) (p610 : Oa) (n611 : Int) (KN : Oa → Int → Option R) (KR : Int → Int → Option R) : Option R :=
bif decide (n611 < 0) then (KR 0 1)
 else (bif decide (n611 > 32) then (KR 0 1)
 else (KN p610 n611))
def R09_Reader_Bits_p1 {R : Type} (k : Nat) (p610 : Oa) (n611 : Int) (KN : Oa → Int → Option R) (KR : Int → Int → Option R) : Option R := R09_Reader_Bits_p1_b k p610 n611 KN KR

abbrev R09_Reader_Bits_l2_t (R : Type) : Type := (Int → Heap → Option R) → (Int → Int → Heap → Option R) → Nat → Oa → Int → Int → Int → Int → Int → Heap → Option R
def R09_Reader_Bits_l2_b {R : Type} (R09_Reader_Get : R09_Reader_Get_t R) (R09_Reader_back : R09_Reader_back_t R) (rec : Oa → Int → Int → Int → Int → Int → Heap → Option R) (KE0 : Int → Heap → Option R) (KR : Int → Int → Heap → Option R) (k : Nat) (p624 : Oa) (n625 : Int) (n626 : Int) (n627 : Int) (n628 : Int) (n629 : Int) (H : Heap) : Option R :=
bif decide (n629 < n625) then (R09_Reader_Get p624 H fun n630 n631 H632 =>
bif (n631 != 0) then (R09_Reader_back p624 n626 n627 H632 fun H633 =>
KR 0 n631 H633)
 else (rec p624 n625 n626 n627 (IntKind.wrap .i64 ((IntKind.wrap .i64 (2 * n628)) + n630)) (IntKind.wrap .i64 (n629 + 1)) H632))
 else (KE0 n628 H)
def R09_Reader_Bits_l2 {R : Type} (k : Nat) (KE0 : Int → Heap → Option R) (KR : Int → Int → Heap → Option R) : Nat → Oa → Int → Int → Int → Int → Int → Heap → Option R
  | 0,_,_,_,_,_,_,_ => none
  | n + 1,p624,n625,n626,n627,n628,n629,H => R09_Reader_Bits_l2_b (R09_Reader_Get k) R09_Reader_back (R09_Reader_Bits_l2 k KE0 KR n) KE0 KR k p624 n625 n626 n627 n628 n629 H

abbrev R09_Reader_Bits_t (R : Type) : Type := Oa → Int → Heap → (Int → Int → Heap → Option R) → Option R

def R09_Reader_Bits_b {R : Type} (R09_Reader_Bits_p0 : R09_Reader_Bits_p0_t R) (R09_Reader_Bits_p1 : R09_Reader_Bits_p1_t R) (R09_Reader_Bits_l2 : R09_Reader_Bits_l2_t R) (k : Nat) (p597 : Oa) (n598 : Int) (H : Heap) (K : Int → Int → Heap → Option R) : Option R :=
R09_Reader_Bits_p0 p597 n598 H (fun p608 n609 =>
R09_Reader_Bits_p1 p608 n609 (fun p616 n617 =>
hnil p616 fun p618 =>
hfad 2 p618 fun p619 =>
ldI .i64 H p619 fun n620 =>
hnil p616 fun p621 =>
hfad 3 p621 fun p622 =>
ldI .i64 H p622 fun n623 =>
R09_Reader_Bits_l2 (fun n637 H638 =>
K n637 0 H638) (fun n639 n640 H641 =>
K n639 n640 H641) k p616 n617 n620 n623 0 0 H) (fun n642 n643 =>
K n642 n643 H)) (fun n644 n645 =>
K n644 n645 H)

def R09_Reader_Bits {R : Type} (k : Nat) (p597 : Oa) (n598 : Int) (H : Heap) (K : Int → Int → Heap → Option R) : Option R := R09_Reader_Bits_b (R09_Reader_Bits_p0 k) (R09_Reader_Bits_p1 k) (R09_Reader_Bits_l2 k) k p597 n598 H K

def R09_Reader_Bits_Ct {R : Type} (R09_Reader_Get : R09_Reader_Get_t R) (R09_Reader_back : R09_Reader_back_t R) : Tab R := tcons 56 (R09_Reader_Get_ca R09_Reader_Get) <| tcons 63 (R09_Reader_back_ca R09_Reader_back) <| fun _ _ _ _ => none
def R09_Reader_Bits_C (R : Type) (k : Nat) : Tab R := R09_Reader_Bits_Ct (R09_Reader_Get k) R09_Reader_back
theorem R09_Reader_Bits_S (R : Type) (k : Nat) : CSound Try.prog (R09_Reader_Bits_C R k) := csound_cons (R09_Reader_Get_cs R k) <| csound_cons (R09_Reader_back_cs R k) <| csound_nil
def R09_Reader_Bits_aa0 {R : Type} (f : R09_Reader_Bits_p0_t R) (n : Nat) (vals : List Value) (H : Heap) (K : Xit → Env → Heap → Option R) : Option R :=
  match vals with
  | [.pointer p599,.int .i64 n600] => f p599 n600 H (fun p1802 n1803 => K .normal [(0,.pointer p1802),(1,.int .i64 n1803)] H) (fun n1804 n1805 => K .ret [(4,.int .i64 n1804),(5,.int .i64 n1805)] H)
  | _ => none
def R09_Reader_Bits_a0 (R : Type) (k n : Nat) (vals : List Value) (H : Heap) (K : Xit → Env → Heap → Option R) : Option R := R09_Reader_Bits_aa0 (R09_Reader_Bits_p0 k) n vals H K
def R09_Reader_Bits_aa1 {R : Type} (f : R09_Reader_Bits_p1_t R) (n : Nat) (vals : List Value) (H : Heap) (K : Xit → Env → Heap → Option R) : Option R :=
  match vals with
  | [.pointer p610,.int .i64 n611] => f p610 n611 (fun p1806 n1807 => K .normal [(0,.pointer p1806),(1,.int .i64 n1807)] H) (fun n1808 n1809 => K .ret [(4,.int .i64 n1808),(5,.int .i64 n1809)] H)
  | _ => none
def R09_Reader_Bits_a1 (R : Type) (k n : Nat) (vals : List Value) (H : Heap) (K : Xit → Env → Heap → Option R) : Option R := R09_Reader_Bits_aa1 (R09_Reader_Bits_p1 k) n vals H K
def R09_Reader_Bits_aa2 {R : Type} (f : R09_Reader_Bits_l2_t R) (n : Nat) (vals : List Value) (H : Heap) (K : Xit → Env → Heap → Option R) : Option R :=
  match vals with
  | [.pointer p624,.int .i64 n625,.int .i64 n626,.int .i64 n627,.int .i64 n628,.int .i64 n629] => f (fun n1810 H => K (.exit 0) [(8,.int .i64 n1810)] H) (fun n1811 n1812 H => K .ret [(4,.int .i64 n1811),(5,.int .i64 n1812)] H) n p624 n625 n626 n627 n628 n629 H
  | _ => none
def R09_Reader_Bits_a2 (R : Type) (k n : Nat) (vals : List Value) (H : Heap) (K : Xit → Env → Heap → Option R) : Option R := R09_Reader_Bits_aa2 (R09_Reader_Bits_l2 k) n vals H K
def R09_Reader_Bits_Jt {R : Type} (k : Nat) (R09_Reader_Bits_p0 : R09_Reader_Bits_p0_t R) (R09_Reader_Bits_p1 : R09_Reader_Bits_p1_t R) (R09_Reader_Bits_l2 : R09_Reader_Bits_l2_t R) : JTab R := tcons 0 (R09_Reader_Bits_aa0 R09_Reader_Bits_p0 k) <| tcons 1 (R09_Reader_Bits_aa1 R09_Reader_Bits_p1 k) <| tcons 2 (R09_Reader_Bits_aa2 R09_Reader_Bits_l2 k) <| fun _ _ _ _ => none
def R09_Reader_Bits_J (R : Type) (k : Nat) : JTab R := R09_Reader_Bits_Jt k (R09_Reader_Bits_p0 k) (R09_Reader_Bits_p1 k) (R09_Reader_Bits_l2 k)
def R09_Reader_Bits_at : AT := (.seq (.reg [0,1] []) (.seq (.opq 0 [0,1] ⟨[0,1],[],[4,5]⟩ (.seq (.reg [0,1,20] []) (.cond (.seq (.reg [4,5] []) .leaf) .leaf))) (.seq (.opq 1 [0,1] ⟨[0,1],[],[4,5]⟩ (.seq (.reg [0,1,26] []) (.cond (.seq (.reg [4,5] []) .leaf) .leaf))) (.seq (.reg [0,1,6,7] [[],[0],[0,1],[0,1,2],[],[4],[4,5],[4,5,6],[0,1,2,3],[0,1,2,3,4,5,6,7,8]]) (.seq (.reg [0,1,6,7,8] []) (.seq (.seq (.reg [0,1,6,7,8,9] []) (.node (.opq 2 [0,1,6,7,8,9] ⟨[],[(0,[8])],[4,5]⟩ (.node (.seq (.seq (.reg [0,1,6,7,8,9,37] []) (.cond .leaf .leaf)) (.seq (.node (.seq (.reg [0,1,6,7,8,9,10,11] []) (.seq (.seq (.reg [0,1,6,7,8,9,10,11,46] []) (.cond (.seq (.reg [11] []) (.seq (.reg [4,5] []) .leaf)) .leaf)) (.reg [0,1,6,7,8,9] [])))) (.reg [0,1,6,7,8,9] []))))))) (.seq (.reg [4,5] []) .leaf)))))))
def R09_Reader_Bits_i2 : IC := (.seq (.seq (.reg [⟨some 35,.mov (.t 9),none⟩,
⟨some 36,.mov (.t 1),none⟩,
⟨some 37,.cmp .lss (.t 35) (.t 36),none⟩] [0,1,6,7,8,9,37]) (.cond (.t 37) .skip (.exit 0))) (.seq (.block 1 (.seq (.reg [⟨some 41,.mov (.t 0),none⟩,
⟨some 42,.call 56 [(.t 41)] (.tup [(.sc (.int .i64)),(.sc (.int .i64))]),none⟩,
⟨some 40,.mov (.t 42),none⟩,
⟨some 43,.ext 0 (.t 40),none⟩,
⟨some 44,.ext 1 (.t 40),none⟩,
⟨some 10,.mov (.t 43),none⟩,
⟨some 11,.mov (.t 44),none⟩] [0,1,6,7,8,9,10,11]) (.seq (.seq (.reg [⟨some 45,.mov (.t 11),none⟩,
⟨some 46,.cmp .neq (.t 45) (.c (Go.Value.int Go.IntKind.i64 0)),none⟩] [0,1,6,7,8,9,10,11,46]) (.cond (.t 46) (.seq (.reg [⟨some 47,.mov (.t 0),none⟩,
⟨some 48,.mov (.t 6),none⟩,
⟨some 49,.mov (.t 7),none⟩,
⟨some 50,.call 63 [(.t 47),(.t 48),(.t 49)] .none,none⟩] [11]) (.seq (.reg [⟨some 51,.mov (.t 11),none⟩,
⟨some 4,.mov (.c (Go.Value.int Go.IntKind.i64 0)),none⟩,
⟨some 5,.mov (.t 51),none⟩] [4,5]) .ret)) .skip)) (.reg [⟨some 52,.mov (.t 8),none⟩,
⟨some 53,.bin .mul .i64 (.c (Go.Value.int Go.IntKind.i64 2)) (.t 52),none⟩,
⟨some 54,.mov (.t 10),none⟩,
⟨some 55,.bin .add .i64 (.t 53) (.t 54),none⟩,
⟨some 8,.mov (.t 55),none⟩] [0,1,6,7,8,9])))) (.reg [⟨some 38,.mov (.t 9),none⟩,
⟨some 39,.bin .add .i64 (.t 38) (.c (Go.Value.int Go.IntKind.i64 1)),none⟩,
⟨some 9,.mov (.t 39),none⟩] [0,1,6,7,8,9])))
def R09_Reader_Bits_i1 : IC := (.seq (.reg [⟨some 21,.mov (.t 1),none⟩,
⟨some 22,.cmp .lss (.t 21) (.c (Go.Value.int Go.IntKind.i64 0)),none⟩,
⟨some 23,.mov (.t 22),none⟩,
⟨some 24,.mov (.t 1),some (23,false)⟩,
⟨some 25,.cmp .gtr (.t 24) (.c (Go.Value.int Go.IntKind.i64 32)),some (23,false)⟩,
⟨some 26,.pick (.t 23) (.c (Go.Value.bool true)) (.t 25),none⟩] [0,1,26]) (.cond (.t 26) (.seq (.reg [⟨some 4,.mov (.c (Go.Value.int Go.IntKind.i64 0)),none⟩,
⟨some 5,.mov (.c (Go.Value.int Go.IntKind.i64 1)),none⟩] [4,5]) .ret) .skip))
def R09_Reader_Bits_i0 : IC := (.seq (.reg [⟨some 12,.mov (.t 0),none⟩,
⟨some 13,.eqnil (.t 12) false 0,none⟩,
⟨some 14,.mov (.t 13),none⟩,
⟨some 15,.mov (.t 0),some (14,false)⟩,
⟨some 16,.nilc (.t 15),some (14,false)⟩,
⟨some 17,.fad 0 (.t 16),some (14,false)⟩,
⟨some 18,.ld (.sc .bool) (.t 17),some (14,false)⟩,
⟨some 19,.lnot (.t 18),some (14,false)⟩,
⟨some 20,.pick (.t 14) (.c (Go.Value.bool true)) (.t 19),none⟩] [0,1,20]) (.cond (.t 20) (.seq (.reg [⟨some 4,.mov (.c (Go.Value.int Go.IntKind.i64 0)),none⟩,
⟨some 5,.mov (.c (Go.Value.int Go.IntKind.i64 6)),none⟩] [4,5]) .ret) .skip))
def R09_Reader_Bits_f : IFn := ⟨57,[.t 4,.t 5],(.seq (.reg [⟨some 4,.mov (.c (Go.Value.int Go.IntKind.i64 0)),none⟩,
⟨some 5,.mov (.c (Go.Value.int Go.IntKind.i64 0)),none⟩] [0,1]) (.seq (.opq 0 [0,1] R09_Reader_Bits_i0) (.seq (.opq 1 [0,1] R09_Reader_Bits_i1) (.seq (.reg [⟨some 27,.mov (.t 0),none⟩,
⟨some 28,.nilc (.t 27),none⟩,
⟨some 29,.fad 2 (.t 28),none⟩,
⟨some 30,.ld (.sc (.int .i64)) (.t 29),none⟩,
⟨some 31,.mov (.t 0),none⟩,
⟨some 32,.nilc (.t 31),none⟩,
⟨some 33,.fad 3 (.t 32),none⟩,
⟨some 34,.ld (.sc (.int .i64)) (.t 33),none⟩,
⟨some 6,.mov (.t 30),none⟩,
⟨some 7,.mov (.t 34),none⟩] [0,1,6,7]) (.seq (.reg [⟨some 8,.mov (.c (Go.Value.int Go.IntKind.i64 0)),none⟩] [0,1,6,7,8]) (.seq (.seq (.reg [⟨some 9,.mov (.c (Go.Value.int Go.IntKind.i64 0)),none⟩] [0,1,6,7,8,9]) (.block 0 (.opq 2 [0,1,6,7,8,9] (.loop R09_Reader_Bits_i2)))) (.seq (.reg [⟨some 56,.mov (.t 8),none⟩,
⟨some 4,.mov (.t 56),none⟩,
⟨some 5,.mov (.c (Go.Value.int Go.IntKind.i64 0)),none⟩] [4,5]) .ret)))))))⟩
theorem R09_Reader_Bits_e2 {R : Type} (R09_Reader_Get : R09_Reader_Get_t R) (R09_Reader_back : R09_Reader_back_t R) (R09_Reader_Bits_p0 : R09_Reader_Bits_p0_t R) (R09_Reader_Bits_p1 : R09_Reader_Bits_p1_t R) (R09_Reader_Bits_l2 : R09_Reader_Bits_l2_t R) (k n : Nat) (p624 : Oa) (n625 : Int) (n626 : Int) (n627 : Int) (n628 : Int) (n629 : Int) (H : Heap) (K : Xit → Env → Heap → Option R) : evJ (R09_Reader_Bits_Ct R09_Reader_Get R09_Reader_back) (R09_Reader_Bits_Jt k R09_Reader_Bits_p0 R09_Reader_Bits_p1 R09_Reader_Bits_l2) R09_Reader_Bits_i2 (List.zip [0,1,6,7,8,9] [.pointer p624,.int .i64 n625,.int .i64 n626,.int .i64 n627,.int .i64 n628,.int .i64 n629]) H (fun x e' H' => match x with | .normal => R09_Reader_Bits_aa2 R09_Reader_Bits_l2 n ((clean e' [0,1,6,7,8,9]).map (·.2)) H' K | x => K x (clean e' ((⟨[],[(0,[8])],[4,5]⟩ : Out).of x)) H') = R09_Reader_Bits_l2_b R09_Reader_Get R09_Reader_back (R09_Reader_Bits_l2 (fun n1810 H => K (.exit 0) [(8,.int .i64 n1810)] H) (fun n1811 n1812 H => K .ret [(4,.int .i64 n1811),(5,.int .i64 n1812)] H) n) (fun n1810 H => K (.exit 0) [(8,.int .i64 n1810)] H) (fun n1811 n1812 H => K .ret [(4,.int .i64 n1811),(5,.int .i64 n1812)] H) k p624 n625 n626 n627 n628 n629 H := by kernel_rfl
theorem R09_Reader_Bits_j2 {R : Type} (k : Nat) : JS Try.prog 57 (R09_Reader_Bits_a2 R k k) [0,1,6,7,8,9] ⟨[],[(0,[8])],[4,5]⟩ (.loop (sel [1,1,1,1,1,0,1,0,0] (Try.f55.body.getD .skip))) :=
  loop_ok (nt := 57) (c := (sel [1,1,1,1,1,0,1,0,0] (Try.f55.body.getD .skip))) (C := R09_Reader_Bits_C R k) (an := An) (t := (.seq (.seq (.reg [0,1,6,7,8,9,37] []) (.cond .leaf .leaf)) (.seq (.node (.seq (.reg [0,1,6,7,8,9,10,11] []) (.seq (.seq (.reg [0,1,6,7,8,9,10,11,46] []) (.cond (.seq (.reg [11] []) (.seq (.reg [4,5] []) .leaf)) .leaf)) (.reg [0,1,6,7,8,9] [])))) (.reg [0,1,6,7,8,9] [])))) (ic := R09_Reader_Bits_i2) (R09_Reader_Bits_S R k) (R09_Reader_Bits_J R k) (by kernel_rfl) (And.intro (And.intro True.intro (And.intro True.intro True.intro)) (And.intro (And.intro True.intro (And.intro (And.intro True.intro (And.intro (And.intro True.intro (And.intro True.intro True.intro)) True.intro)) True.intro)) True.intro)) (R09_Reader_Bits_a2 R k) (fun vals H K => by unfold R09_Reader_Bits_a2 R09_Reader_Bits_aa2; split <;> rfl)
    (fun n vals H K r h => by
      unfold R09_Reader_Bits_a2 R09_Reader_Bits_aa2 at h
      split at h <;> first | (cases h; done) | exact Eq.trans (R09_Reader_Bits_e2 (R09_Reader_Get k) R09_Reader_back (R09_Reader_Bits_p0 k) (R09_Reader_Bits_p1 k) (R09_Reader_Bits_l2 k) k n _ _ _ _ _ _ H K) h) k
theorem R09_Reader_Bits_e1 {R : Type} (R09_Reader_Get : R09_Reader_Get_t R) (R09_Reader_back : R09_Reader_back_t R) (R09_Reader_Bits_p0 : R09_Reader_Bits_p0_t R) (R09_Reader_Bits_p1 : R09_Reader_Bits_p1_t R) (R09_Reader_Bits_l2 : R09_Reader_Bits_l2_t R) (k : Nat) (p610 : Oa) (n611 : Int) (H : Heap) (K : Xit → Env → Heap → Option R) : evJ (R09_Reader_Bits_Ct R09_Reader_Get R09_Reader_back) (R09_Reader_Bits_Jt k R09_Reader_Bits_p0 R09_Reader_Bits_p1 R09_Reader_Bits_l2) R09_Reader_Bits_i1 (List.zip [0,1] [.pointer p610,.int .i64 n611]) H (fun x e' H' => K x (clean e' ((⟨[0,1],[],[4,5]⟩ : Out).of x)) H') = R09_Reader_Bits_p1_b k p610 n611 (fun p1806 n1807 => K .normal [(0,.pointer p1806),(1,.int .i64 n1807)] H) (fun n1808 n1809 => K .ret [(4,.int .i64 n1808),(5,.int .i64 n1809)] H) := by kernel_rfl
theorem R09_Reader_Bits_j1 {R : Type} (k : Nat) : JS Try.prog 57 (R09_Reader_Bits_a1 R k k) [0,1] ⟨[0,1],[],[4,5]⟩ (sel [1,1,0] (Try.f55.body.getD .skip)) :=
  piece_ok (nt := 57) (c := (sel [1,1,0] (Try.f55.body.getD .skip))) (C := R09_Reader_Bits_C R k) (an := An) (t := (.seq (.reg [0,1,26] []) (.cond (.seq (.reg [4,5] []) .leaf) .leaf))) (ic := R09_Reader_Bits_i1) (R09_Reader_Bits_S R k) (R09_Reader_Bits_J R k) (by kernel_rfl) (And.intro True.intro (And.intro (And.intro True.intro True.intro) True.intro)) (R09_Reader_Bits_a1 R k k)
    (fun vals H K r h => by
      unfold R09_Reader_Bits_a1 R09_Reader_Bits_aa1 at h
      split at h <;> first | (cases h; done) | exact Eq.trans (R09_Reader_Bits_e1 (R09_Reader_Get k) R09_Reader_back (R09_Reader_Bits_p0 k) (R09_Reader_Bits_p1 k) (R09_Reader_Bits_l2 k) k _ _ H K) h)
theorem R09_Reader_Bits_e0 {R : Type} (R09_Reader_Get : R09_Reader_Get_t R) (R09_Reader_back : R09_Reader_back_t R) (R09_Reader_Bits_p0 : R09_Reader_Bits_p0_t R) (R09_Reader_Bits_p1 : R09_Reader_Bits_p1_t R) (R09_Reader_Bits_l2 : R09_Reader_Bits_l2_t R) (k : Nat) (p599 : Oa) (n600 : Int) (H : Heap) (K : Xit → Env → Heap → Option R) : evJ (R09_Reader_Bits_Ct R09_Reader_Get R09_Reader_back) (R09_Reader_Bits_Jt k R09_Reader_Bits_p0 R09_Reader_Bits_p1 R09_Reader_Bits_l2) R09_Reader_Bits_i0 (List.zip [0,1] [.pointer p599,.int .i64 n600]) H (fun x e' H' => K x (clean e' ((⟨[0,1],[],[4,5]⟩ : Out).of x)) H') = R09_Reader_Bits_p0_b k p599 n600 H (fun p1802 n1803 => K .normal [(0,.pointer p1802),(1,.int .i64 n1803)] H) (fun n1804 n1805 => K .ret [(4,.int .i64 n1804),(5,.int .i64 n1805)] H) := by kernel_rfl
theorem R09_Reader_Bits_j0 {R : Type} (k : Nat) : JS Try.prog 57 (R09_Reader_Bits_a0 R k k) [0,1] ⟨[0,1],[],[4,5]⟩ (sel [1,0] (Try.f55.body.getD .skip)) :=
  piece_ok (nt := 57) (c := (sel [1,0] (Try.f55.body.getD .skip))) (C := R09_Reader_Bits_C R k) (an := An) (t := (.seq (.reg [0,1,20] []) (.cond (.seq (.reg [4,5] []) .leaf) .leaf))) (ic := R09_Reader_Bits_i0) (R09_Reader_Bits_S R k) (R09_Reader_Bits_J R k) (by kernel_rfl) (And.intro True.intro (And.intro (And.intro True.intro True.intro) True.intro)) (R09_Reader_Bits_a0 R k k)
    (fun vals H K r h => by
      unfold R09_Reader_Bits_a0 R09_Reader_Bits_aa0 at h
      split at h <;> first | (cases h; done) | exact Eq.trans (R09_Reader_Bits_e0 (R09_Reader_Get k) R09_Reader_back (R09_Reader_Bits_p0 k) (R09_Reader_Bits_p1 k) (R09_Reader_Bits_l2 k) k _ _ H K) h)
def R09_Reader_Bits_ca {R : Type} (f : R09_Reader_Bits_t R) (args : List Value) (H : Heap) (K : Value → Heap → Option R) : Option R :=
  match args with
  | [.pointer p597,.int .i64 n598] => f p597 n598 H (fun n1813 n1814 H => K (.tuple ⟨[.int .i64 n1813,.int .i64 n1814]⟩) H)
  | _ => none
def R09_Reader_Bits_c (R : Type) (k : Nat) (args : List Value) (H : Heap) (K : Value → Heap → Option R) : Option R := R09_Reader_Bits_ca (R09_Reader_Bits k) args H K
theorem R09_Reader_Bits_e {R : Type} (R09_Reader_Get : R09_Reader_Get_t R) (R09_Reader_back : R09_Reader_back_t R) (R09_Reader_Bits_p0 : R09_Reader_Bits_p0_t R) (R09_Reader_Bits_p1 : R09_Reader_Bits_p1_t R) (R09_Reader_Bits_l2 : R09_Reader_Bits_l2_t R) (k : Nat) (p597 : Oa) (n598 : Int) (H : Heap) (K : Value → Heap → Option R) : evF (R09_Reader_Bits_Ct R09_Reader_Get R09_Reader_back) (R09_Reader_Bits_Jt k R09_Reader_Bits_p0 R09_Reader_Bits_p1 R09_Reader_Bits_l2) R09_Reader_Bits_f [.pointer p597,.int .i64 n598] H K = R09_Reader_Bits_b R09_Reader_Bits_p0 R09_Reader_Bits_p1 R09_Reader_Bits_l2 k p597 n598 H (fun n1813 n1814 H => K (.tuple ⟨[.int .i64 n1813,.int .i64 n1814]⟩) H) := by kernel_rfl
theorem R09_Reader_Bits_cs (R : Type) (k : Nat) : ∀ args H K r,R09_Reader_Bits_c R k args H K = some r → ∃ v H',Tri Try.prog 55 args H v H' ∧ K v H' = some r := by
  intro args H K r h
  unfold R09_Reader_Bits_c R09_Reader_Bits_ca at h
  split at h
  · exact evF_ok (C := R09_Reader_Bits_C R k) (an := An) (t := R09_Reader_Bits_at) (fn := Try.f55) (c := (Try.f55.body.getD .skip)) (ifn := R09_Reader_Bits_f) (R09_Reader_Bits_S R k) (R09_Reader_Bits_J R k) Try.func55 (by kernel_rfl) (by kernel_rfl) (And.intro True.intro (And.intro (R09_Reader_Bits_j0 k) (And.intro (R09_Reader_Bits_j1 k) (And.intro True.intro (And.intro True.intro (And.intro (And.intro True.intro (R09_Reader_Bits_j2 k)) (And.intro True.intro True.intro))))))) rfl (Eq.trans (R09_Reader_Bits_e (R09_Reader_Get k) R09_Reader_back (R09_Reader_Bits_p0 k) (R09_Reader_Bits_p1 k) (R09_Reader_Bits_l2 k) k _ _ H K) h)
  · cases h
/-! ### R10_Tree_Decode: function 33 -/
abbrev R10_Tree_Decode_p0_t (R : Type) : Type := Oa → Oa → Int → Int → Int → Heap → (Oa → Oa → Int → Int → Int → Option R) → (Bool → Int → Option R) → Option R
def R10_Tree_Decode_p0_b {R : Type} (k : Nat) (p574 : Oa) (p575 : Oa) (n576 : Int) (n577 : Int) (n578 : Int) (H : Heap) (KN : Oa → Oa → Int → Int → Int → Option R) (KR : Bool → Int → Option R) : Option R :=
bif p574.isNone then (KR false 6)
 else (hnil p574 fun p579 =>
hfad 0 p579 fun p580 =>
ldB H p580 fun t581 =>
bif (!t581) then (KR false 6)
 else (hnil p574 fun p582 =>
hfad 4 p582 fun p583 =>
ldB H p583 fun t584 =>
bif t584 then (KR false 6)
 else (KN p574 p575 n576 n577 n578)))
def R10_Tree_Decode_p0 {R : Type} (k : Nat) (p574 : Oa) (p575 : Oa) (n576 : Int) (n577 : Int) (n578 : Int) (H : Heap) (KN : Oa → Oa → Int → Int → Int → Option R) (KR : Bool → Int → Option R) : Option R := R10_Tree_Decode_p0_b k p574 p575 n576 n577 n578 H KN KR

abbrev R10_Tree_Decode_p1_t (R : Type) : Type := Oa → Oa → Int → Int → Int → Heap → (Oa → Oa → Int → Int → Int → Option R) → (Bool → Int → Option R) → Option R
def R10_Tree_Decode_p1_b {R : Type} (R10_Tree_leaf : R10_Tree_leaf_t R) (k : Nat) (p600 : Oa) (p601 : Oa) (n602 : Int) (n603 : Int) (n604 : Int) (H : Heap) (KN : Oa → Oa → Int → Int → Int → Option R) (KR : Bool → Int → Option R) : Option R :=
R10_Tree_leaf p600 n602 n603 H fun t605 =>
bif (!t605) then (KR false 2)
 else (bif decide (n604 < 0) then (KR false 2)
 else (bif decide (n604 > 65536) then (KR false 2)
 else (KN p600 p601 n602 n603 n604)))
def R10_Tree_Decode_p1 {R : Type} (k : Nat) (p600 : Oa) (p601 : Oa) (n602 : Int) (n603 : Int) (n604 : Int) (H : Heap) (KN : Oa → Oa → Int → Int → Int → Option R) (KR : Bool → Int → Option R) : Option R := R10_Tree_Decode_p1_b R10_Tree_leaf k p600 p601 n602 n603 n604 H KN KR

abbrev R10_Tree_Decode_p4_t (R : Type) : Type := Oa → Oa → Int → Int → Int → Oa → Nat → Nat → Int → Oa → Oa → Nat → Nat → Int → Int → Heap → (Oa → Oa → Int → Int → Int → Oa → Nat → Nat → Int → Oa → Oa → Nat → Nat → Int → Int → Option R) → (Oa → Oa → Int → Int → Int → Oa → Nat → Nat → Int → Oa → Oa → Nat → Nat → Int → Int → Option R) → Option R
def R10_Tree_Decode_p4_b {R : Type} (k : Nat) (p675 : Oa) (p676 : Oa) (n677 : Int) (n678 : Int) (n679 : Int) (q680 : Oa) (l681 : Nat) (c682 : Nat) (n683 : Int) (p684 : Oa) (q685 : Oa) (l686 : Nat) (c687 : Nat) (n688 : Int) (n689 : Int) (H : Heap) (KE2 : Oa → Oa → Int → Int → Int → Oa → Nat → Nat → Int → Oa → Oa → Nat → Nat → Int → Int → Option R) (KN : Oa → Oa → Int → Int → Int → Oa → Nat → Nat → Int → Oa → Oa → Nat → Nat → Int → Int → Option R) : Option R :=
hfad 1 p684 fun p690 =>
ldI .i64 H p690 fun n691 =>
bif decide (n691 < n679) then (hfad 2 p684 fun p692 =>
ldB H p692 fun t693 =>
bif (!t693) then (KN p675 p676 n677 n678 n679 q680 l681 c682 n683 p684 q685 l686 c687 n688 n689)
 else (KE2 p675 p676 n677 n678 n679 q680 l681 c682 n683 p684 q685 l686 c687 n688 n689))
 else (KE2 p675 p676 n677 n678 n679 q680 l681 c682 n683 p684 q685 l686 c687 n688 n689)
def R10_Tree_Decode_p4 {R : Type} (k : Nat) (p675 : Oa) (p676 : Oa) (n677 : Int) (n678 : Int) (n679 : Int) (q680 : Oa) (l681 : Nat) (c682 : Nat) (n683 : Int) (p684 : Oa) (q685 : Oa) (l686 : Nat) (c687 : Nat) (n688 : Int) (n689 : Int) (H : Heap) (KE2 : Oa → Oa → Int → Int → Int → Oa → Nat → Nat → Int → Oa → Oa → Nat → Nat → Int → Int → Option R) (KN : Oa → Oa → Int → Int → Int → Oa → Nat → Nat → Int → Oa → Oa → Nat → Nat → Int → Int → Option R) : Option R := R10_Tree_Decode_p4_b k p675 p676 n677 n678 n679 q680 l681 c682 n683 p684 q685 l686 c687 n688 n689 H KE2 KN

abbrev R10_Tree_Decode_l3_t (R : Type) : Type := (Oa → Oa → Int → Int → Int → Oa → Nat → Nat → Int → Oa → Oa → Nat → Nat → Int → Int → Heap → Option R) → (Bool → Int → Heap → Option R) → Nat → Oa → Oa → Int → Int → Int → Oa → Nat → Nat → Int → Oa → Oa → Nat → Nat → Int → Int → Heap → Option R
def R10_Tree_Decode_l3_b {R : Type} (R10_Tree_Decode_p4 : R10_Tree_Decode_p4_t R) (R09_Reader_Get : R09_Reader_Get_t R) (rec : Oa → Oa → Int → Int → Int → Oa → Nat → Nat → Int → Oa → Oa → Nat → Nat → Int → Int → Heap → Option R) (KE2 : Oa → Oa → Int → Int → Int → Oa → Nat → Nat → Int → Oa → Oa → Nat → Nat → Int → Int → Heap → Option R) (KR : Bool → Int → Heap → Option R) (k : Nat) (p660 : Oa) (p661 : Oa) (n662 : Int) (n663 : Int) (n664 : Int) (q665 : Oa) (l666 : Nat) (c667 : Nat) (n668 : Int) (p669 : Oa) (q670 : Oa) (l671 : Nat) (c672 : Nat) (n673 : Int) (n674 : Int) (H : Heap) : Option R :=
R10_Tree_Decode_p4 p660 p661 n662 n663 n664 q665 l666 c667 n668 p669 q670 l671 c672 n673 n674 H (fun p724 p725 n726 n727 n728 q729 l730 c731 n732 p733 q734 l735 c736 n737 n738 =>
KE2 p724 p725 n726 n727 n728 q729 l730 c731 n732 p733 q734 l735 c736 n737 n738 H) (fun p739 p740 n741 n742 n743 q744 l745 c746 n747 p748 q749 l750 c751 n752 n753 =>
R09_Reader_Get p740 H fun n754 n755 H756 =>
bif (n755 != 0) then (KR false n755 H756)
 else (bif (n754 == 1) then (hfad 2 p748 fun p757 =>
hst1 H756 p757 (.bool true) fun H758 =>
rec p739 p740 n741 n742 n743 q744 l745 c746 n747 p748 q749 l750 c751 n752 n753 H758)
 else (hfad 1 p748 fun p759 =>
ldI .i64 H756 p759 fun n760 =>
hfad 1 p748 fun p761 =>
hst1 H756 p761 (.int .i64 (IntKind.wrap .i64 (n760 + 1))) fun H762 =>
rec p739 p740 n741 n742 n743 q744 l745 c746 n747 p748 q749 l750 c751 n752 n753 H762)))
def R10_Tree_Decode_l3 {R : Type} (k : Nat) (KE2 : Oa → Oa → Int → Int → Int → Oa → Nat → Nat → Int → Oa → Oa → Nat → Nat → Int → Int → Heap → Option R) (KR : Bool → Int → Heap → Option R) : Nat → Oa → Oa → Int → Int → Int → Oa → Nat → Nat → Int → Oa → Oa → Nat → Nat → Int → Int → Heap → Option R
  | 0,_,_,_,_,_,_,_,_,_,_,_,_,_,_,_,_ => none
  | n + 1,p660,p661,n662,n663,n664,q665,l666,c667,n668,p669,q670,l671,c672,n673,n674,H => R10_Tree_Decode_l3_b (R10_Tree_Decode_p4 k) (R09_Reader_Get k) (R10_Tree_Decode_l3 k KE2 KR n) KE2 KR k p660 p661 n662 n663 n664 q665 l666 c667 n668 p669 q670 l671 c672 n673 n674 H

abbrev R10_Tree_Decode_l2_t (R : Type) : Type := (Oa → Int → Int → Int → Oa → Nat → Nat → Heap → Option R) → (Bool → Int → Heap → Option R) → Nat → Oa → Oa → Int → Int → Int → Oa → Nat → Nat → Int → Oa → Nat → Nat → Int → Int → Heap → Option R
def R10_Tree_Decode_l2_b {R : Type} (R10_Tree_Decode_l3 : R10_Tree_Decode_l3_t R) (rec : Oa → Oa → Int → Int → Int → Oa → Nat → Nat → Int → Oa → Nat → Nat → Int → Int → Heap → Option R) (KE0 : Oa → Int → Int → Int → Oa → Nat → Nat → Heap → Option R) (KR : Bool → Int → Heap → Option R) (k : Nat) (p633 : Oa) (p634 : Oa) (n635 : Int) (n636 : Int) (n637 : Int) (q638 : Oa) (l639 : Nat) (c640 : Nat) (n641 : Int) (q642 : Oa) (l643 : Nat) (c644 : Nat) (n645 : Int) (n646 : Int) (H : Heap) : Option R :=
bif decide (n646 < n645) then (hidx q642 l643 n646 1 fun p647 =>
ldI .i64 H p647 fun n648 =>
hidx q638 l639 n648 3 fun p649 =>
ldI .i64 H (pad p649 0) fun n650 =>
ldI .i64 H (pad p649 1) fun n651 =>
ldB H (pad p649 2) fun t652 =>
hal H [.int .i64 0,.int .i64 0,.bool false] fun p653 H654 =>
hst H654 p653 [.int .i64 n650,.int .i64 n651,.bool t652] fun H655 =>
hfad 1 p653 fun p656 =>
ldI .i64 H655 p656 fun n657 =>
hfad 1 p653 fun p658 =>
hst1 H655 p658 (.int .i64 (imx n657 n641)) fun H659 =>
R10_Tree_Decode_l3 (fun p780 p781 n782 n783 n784 q785 l786 c787 n788 p789 q790 l791 c792 n793 n794 H795 =>
ldI .i64 H795 (pad p789 0) fun n796 =>
ldI .i64 H795 (pad p789 1) fun n797 =>
ldB H795 (pad p789 2) fun t798 =>
hidx q785 l786 n788 3 fun p799 =>
hst H795 p799 [.int .i64 n796,.int .i64 n797,.bool t798] fun H800 =>
hfad 1 p789 fun p801 =>
ldI .i64 H800 p801 fun n802 =>
rec p780 p781 n782 n783 n784 q785 l786 c787 n802 q790 l791 c792 n793 (IntKind.wrap .i64 (n794 + 1)) H800) (fun t803 n804 H805 =>
KR t803 n804 H805) k p633 p634 n635 n636 n637 q638 l639 c640 n648 p653 q642 l643 c644 n645 n646 H659)
 else (KE0 p633 n635 n636 n637 q638 l639 c640 H)
def R10_Tree_Decode_l2 {R : Type} (k : Nat) (KE0 : Oa → Int → Int → Int → Oa → Nat → Nat → Heap → Option R) (KR : Bool → Int → Heap → Option R) : Nat → Oa → Oa → Int → Int → Int → Oa → Nat → Nat → Int → Oa → Nat → Nat → Int → Int → Heap → Option R
  | 0,_,_,_,_,_,_,_,_,_,_,_,_,_,_,_ => none
  | n + 1,p633,p634,n635,n636,n637,q638,l639,c640,n641,q642,l643,c644,n645,n646,H => R10_Tree_Decode_l2_b (R10_Tree_Decode_l3 k) (R10_Tree_Decode_l2 k KE0 KR n) KE0 KR k p633 p634 n635 n636 n637 q638 l639 c640 n641 q642 l643 c644 n645 n646 H

abbrev R10_Tree_Decode_t (R : Type) : Type := Oa → Oa → Int → Int → Int → Heap → (Bool → Int → Heap → Option R) → Option R

def R10_Tree_Decode_b {R : Type} (R10_Tree_Decode_p0 : R10_Tree_Decode_p0_t R) (R09_Reader_Bits : R09_Reader_Bits_t R) (R10_Tree_Decode_p1 : R10_Tree_Decode_p1_t R) (R10_Tree_path : R10_Tree_path_t R) (R10_Tree_Decode_l2 : R10_Tree_Decode_l2_t R) (k : Nat) (p569 : Oa) (p570 : Oa) (n571 : Int) (n572 : Int) (n573 : Int) (H : Heap) (K : Bool → Int → Heap → Option R) : Option R :=
R10_Tree_Decode_p0 p569 p570 n571 n572 n573 H (fun p592 p593 n594 n595 n596 =>
R09_Reader_Bits p593 0 H fun n597 n598 H599 =>
bif (n598 != 0) then (K false 6 H599)
 else (R10_Tree_Decode_p1 p592 p593 n594 n595 n596 H599 (fun p613 p614 n615 n616 n617 =>
hal H599 [] fun p618 H619 =>
hnil p613 fun p620 =>
hfad 3 p620 fun p621 =>
ldL H619 p621 fun q622 l623 c624 =>
happS 3 24 H619 p618 0 0 q622 l623 fun q625 l626 c627 H628 =>
R10_Tree_path p613 n615 n616 H628 fun q629 l630 c631 H632 =>
R10_Tree_Decode_l2 (fun p815 n816 n817 n818 q819 l820 c821 H822 =>
hnil p815 fun p823 =>
hfad 3 p823 fun p824 =>
hst1 H822 p824 (.slice q819 l820 c821) fun H825 =>
hnil p815 fun p826 =>
hfad 5 p826 fun p827 =>
hst1 H825 p827 (.bool true) fun H828 =>
hnil p815 fun p829 =>
hfad 1 p829 fun p830 =>
ldI .i64 H828 p830 fun n831 =>
hidx q819 l820 (IntKind.wrap .i64 ((IntKind.wrap .i64 (n817 * n831)) + n816)) 3 fun p832 =>
ldI .i64 H828 (pad p832 0) fun n833 =>
ldI .i64 H828 (pad p832 1) fun n834 =>
ldB H828 (pad p832 2) fun t835 =>
hal H828 [.int .i64 0,.int .i64 0,.bool false] fun p836 H837 =>
hst H837 p836 [.int .i64 n833,.int .i64 n834,.bool t835] fun H838 =>
hfad 2 p836 fun p839 =>
ldB H838 p839 fun t840 =>
bif t840 then (hfad 1 p836 fun p841 =>
ldI .i64 H838 p841 fun n842 =>
K (decide (n842 < n818)) 0 H838)
 else (K false 0 H838)) (fun t843 n844 H845 =>
K t843 n844 H845) k p613 p614 n615 n616 n617 q625 l626 c627 0 q629 l630 c631 ((l630 : Nat) : Int) 0 H632) (fun t846 n847 =>
K t846 n847 H599))) (fun t848 n849 =>
K t848 n849 H)

def R10_Tree_Decode {R : Type} (k : Nat) (p569 : Oa) (p570 : Oa) (n571 : Int) (n572 : Int) (n573 : Int) (H : Heap) (K : Bool → Int → Heap → Option R) : Option R := R10_Tree_Decode_b (R10_Tree_Decode_p0 k) (R09_Reader_Bits k) (R10_Tree_Decode_p1 k) (R10_Tree_path k) (R10_Tree_Decode_l2 k) k p569 p570 n571 n572 n573 H K

def R10_Tree_Decode_Ct {R : Type} (R09_Reader_Bits : R09_Reader_Bits_t R) (R10_Tree_leaf : R10_Tree_leaf_t R) (R10_Tree_path : R10_Tree_path_t R) (R09_Reader_Get : R09_Reader_Get_t R) : Tab R := tcons 55 (R09_Reader_Bits_ca R09_Reader_Bits) <| tcons 41 (R10_Tree_leaf_ca R10_Tree_leaf) <| tcons 49 (R10_Tree_path_ca R10_Tree_path) <| tcons 56 (R09_Reader_Get_ca R09_Reader_Get) <| fun _ _ _ _ => none
def R10_Tree_Decode_C (R : Type) (k : Nat) : Tab R := R10_Tree_Decode_Ct (R09_Reader_Bits k) R10_Tree_leaf (R10_Tree_path k) (R09_Reader_Get k)
theorem R10_Tree_Decode_S (R : Type) (k : Nat) : CSound Try.prog (R10_Tree_Decode_C R k) := csound_cons (R09_Reader_Bits_cs R k) <| csound_cons (R10_Tree_leaf_cs R k) <| csound_cons (R10_Tree_path_cs R k) <| csound_cons (R09_Reader_Get_cs R k) <| csound_nil
def R10_Tree_Decode_aa0 {R : Type} (f : R10_Tree_Decode_p0_t R) (n : Nat) (vals : List Value) (H : Heap) (K : Xit → Env → Heap → Option R) : Option R :=
  match vals with
  | [.pointer p574,.pointer p575,.int .i64 n576,.int .i64 n577,.int .i64 n578] => f p574 p575 n576 n577 n578 H (fun p1815 p1816 n1817 n1818 n1819 => K .normal [(0,.pointer p1815),(1,.pointer p1816),(2,.int .i64 n1817),(3,.int .i64 n1818),(4,.int .i64 n1819)] H) (fun t1820 n1821 => K .ret [(10,.bool t1820),(11,.int .i64 n1821)] H)
  | _ => none
def R10_Tree_Decode_a0 (R : Type) (k n : Nat) (vals : List Value) (H : Heap) (K : Xit → Env → Heap → Option R) : Option R := R10_Tree_Decode_aa0 (R10_Tree_Decode_p0 k) n vals H K
def R10_Tree_Decode_aa1 {R : Type} (f : R10_Tree_Decode_p1_t R) (n : Nat) (vals : List Value) (H : Heap) (K : Xit → Env → Heap → Option R) : Option R :=
  match vals with
  | [.pointer p600,.pointer p601,.int .i64 n602,.int .i64 n603,.int .i64 n604] => f p600 p601 n602 n603 n604 H (fun p1822 p1823 n1824 n1825 n1826 => K .normal [(0,.pointer p1822),(1,.pointer p1823),(2,.int .i64 n1824),(3,.int .i64 n1825),(4,.int .i64 n1826)] H) (fun t1827 n1828 => K .ret [(10,.bool t1827),(11,.int .i64 n1828)] H)
  | _ => none
def R10_Tree_Decode_a1 (R : Type) (k n : Nat) (vals : List Value) (H : Heap) (K : Xit → Env → Heap → Option R) : Option R := R10_Tree_Decode_aa1 (R10_Tree_Decode_p1 k) n vals H K
def R10_Tree_Decode_aa2 {R : Type} (f : R10_Tree_Decode_l2_t R) (n : Nat) (vals : List Value) (H : Heap) (K : Xit → Env → Heap → Option R) : Option R :=
  match vals with
  | [.pointer p633,.pointer p634,.int .i64 n635,.int .i64 n636,.int .i64 n637,.slice q638 l639 c640,.int .i64 n641,.slice q642 l643 c644,.int .i64 n645,.int .i64 n646] => f (fun p1829 n1830 n1831 n1832 q1833 l1834 c1835 H => K (.exit 0) [(0,.pointer p1829),(2,.int .i64 n1830),(3,.int .i64 n1831),(4,.int .i64 n1832),(14,.slice q1833 l1834 c1835)] H) (fun t1836 n1837 H => K .ret [(10,.bool t1836),(11,.int .i64 n1837)] H) n p633 p634 n635 n636 n637 q638 l639 c640 n641 q642 l643 c644 n645 n646 H
  | _ => none
def R10_Tree_Decode_a2 (R : Type) (k n : Nat) (vals : List Value) (H : Heap) (K : Xit → Env → Heap → Option R) : Option R := R10_Tree_Decode_aa2 (R10_Tree_Decode_l2 k) n vals H K
def R10_Tree_Decode_aa3 {R : Type} (f : R10_Tree_Decode_l3_t R) (n : Nat) (vals : List Value) (H : Heap) (K : Xit → Env → Heap → Option R) : Option R :=
  match vals with
  | [.pointer p660,.pointer p661,.int .i64 n662,.int .i64 n663,.int .i64 n664,.slice q665 l666 c667,.int .i64 n668,.pointer p669,.slice q670 l671 c672,.int .i64 n673,.int .i64 n674] => f (fun p1838 p1839 n1840 n1841 n1842 q1843 l1844 c1845 n1846 p1847 q1848 l1849 c1850 n1851 n1852 H => K (.exit 2) [(0,.pointer p1838),(1,.pointer p1839),(2,.int .i64 n1840),(3,.int .i64 n1841),(4,.int .i64 n1842),(14,.slice q1843 l1844 c1845),(17,.int .i64 n1846),(18,.pointer p1847),(66,.slice q1848 l1849 c1850),(67,.int .i64 n1851),(68,.int .i64 n1852)] H) (fun t1853 n1854 H => K .ret [(10,.bool t1853),(11,.int .i64 n1854)] H) n p660 p661 n662 n663 n664 q665 l666 c667 n668 p669 q670 l671 c672 n673 n674 H
  | _ => none
def R10_Tree_Decode_a3 (R : Type) (k n : Nat) (vals : List Value) (H : Heap) (K : Xit → Env → Heap → Option R) : Option R := R10_Tree_Decode_aa3 (R10_Tree_Decode_l3 k) n vals H K
def R10_Tree_Decode_aa4 {R : Type} (f : R10_Tree_Decode_p4_t R) (n : Nat) (vals : List Value) (H : Heap) (K : Xit → Env → Heap → Option R) : Option R :=
  match vals with
  | [.pointer p675,.pointer p676,.int .i64 n677,.int .i64 n678,.int .i64 n679,.slice q680 l681 c682,.int .i64 n683,.pointer p684,.slice q685 l686 c687,.int .i64 n688,.int .i64 n689] => f p675 p676 n677 n678 n679 q680 l681 c682 n683 p684 q685 l686 c687 n688 n689 H (fun p1855 p1856 n1857 n1858 n1859 q1860 l1861 c1862 n1863 p1864 q1865 l1866 c1867 n1868 n1869 => K (.exit 2) [(0,.pointer p1855),(1,.pointer p1856),(2,.int .i64 n1857),(3,.int .i64 n1858),(4,.int .i64 n1859),(14,.slice q1860 l1861 c1862),(17,.int .i64 n1863),(18,.pointer p1864),(66,.slice q1865 l1866 c1867),(67,.int .i64 n1868),(68,.int .i64 n1869)] H) (fun p1870 p1871 n1872 n1873 n1874 q1875 l1876 c1877 n1878 p1879 q1880 l1881 c1882 n1883 n1884 => K .normal [(0,.pointer p1870),(1,.pointer p1871),(2,.int .i64 n1872),(3,.int .i64 n1873),(4,.int .i64 n1874),(14,.slice q1875 l1876 c1877),(17,.int .i64 n1878),(18,.pointer p1879),(66,.slice q1880 l1881 c1882),(67,.int .i64 n1883),(68,.int .i64 n1884)] H)
  | _ => none
def R10_Tree_Decode_a4 (R : Type) (k n : Nat) (vals : List Value) (H : Heap) (K : Xit → Env → Heap → Option R) : Option R := R10_Tree_Decode_aa4 (R10_Tree_Decode_p4 k) n vals H K
def R10_Tree_Decode_Jt {R : Type} (k : Nat) (R10_Tree_Decode_p0 : R10_Tree_Decode_p0_t R) (R10_Tree_Decode_p1 : R10_Tree_Decode_p1_t R) (R10_Tree_Decode_l2 : R10_Tree_Decode_l2_t R) (R10_Tree_Decode_l3 : R10_Tree_Decode_l3_t R) (R10_Tree_Decode_p4 : R10_Tree_Decode_p4_t R) : JTab R := tcons 0 (R10_Tree_Decode_aa0 R10_Tree_Decode_p0 k) <| tcons 1 (R10_Tree_Decode_aa1 R10_Tree_Decode_p1 k) <| tcons 2 (R10_Tree_Decode_aa2 R10_Tree_Decode_l2 k) <| tcons 3 (R10_Tree_Decode_aa3 R10_Tree_Decode_l3 k) <| tcons 4 (R10_Tree_Decode_aa4 R10_Tree_Decode_p4 k) <| fun _ _ _ _ => none
def R10_Tree_Decode_J (R : Type) (k : Nat) : JTab R := R10_Tree_Decode_Jt k (R10_Tree_Decode_p0 k) (R10_Tree_Decode_p1 k) (R10_Tree_Decode_l2 k) (R10_Tree_Decode_l3 k) (R10_Tree_Decode_p4 k)
def R10_Tree_Decode_at : AT := (.seq (.reg [0,1,2,3,4] []) (.seq (.opq 0 [0,1,2,3,4] ⟨[0,1,2,3,4],[],[10,11]⟩ (.seq (.reg [0,1,2,3,4,36] []) (.cond (.seq (.reg [10,11] []) .leaf) .leaf))) (.seq (.seq (.reg [0,1,2,3,4,13] []) (.seq (.reg [0,1,2,3,4,43] []) (.cond (.seq (.reg [10,11] []) .leaf) .leaf))) (.seq (.opq 1 [0,1,2,3,4] ⟨[0,1,2,3,4],[],[10,11]⟩ (.seq (.reg [0,1,2,3,4,56] []) (.cond (.seq (.reg [10,11] []) .leaf) .leaf))) (.seq (.reg [0,1,2,3,4,14] []) (.seq (.reg [0,1,2,3,4,14,15] []) (.seq (.seq (.reg [0,1,2,3,4,14,15,66,67,68] []) (.node (.opq 2 [0,1,2,3,4,14,15,66,67,68] ⟨[],[(0,[0,2,3,4,14])],[10,11]⟩ (.node (.seq (.reg [0,1,2,3,4,14,15,66,67,68,69] []) (.seq (.cond .leaf .leaf) (.seq (.node (.seq (.reg [0,1,2,3,4,14,15,17,66,67,68] []) (.seq (.reg [0,1,2,3,4,14,15,17,18,66,67,68] []) (.seq (.reg [0,1,2,3,4,14,17,18,66,67,68] []) (.seq (.node (.opq 3 [0,1,2,3,4,14,17,18,66,67,68] ⟨[],[(2,[0,1,2,3,4,14,17,18,66,67,68])],[10,11]⟩ (.node (.seq (.opq 4 [0,1,2,3,4,14,17,18,66,67,68] ⟨[0,1,2,3,4,14,17,18,66,67,68],[(2,[0,1,2,3,4,14,17,18,66,67,68])],[]⟩ (.seq (.reg [0,1,2,3,4,14,17,18,66,67,68,89] []) (.cond .leaf .leaf))) (.node (.seq (.reg [0,1,2,3,4,14,17,18,19,20,66,67,68] []) (.seq (.seq (.reg [0,1,2,3,4,14,17,18,19,20,66,67,68,96] []) (.cond (.seq (.reg [10,11] []) .leaf) .leaf)) (.seq (.reg [0,1,2,3,4,14,17,18,66,67,68,99] []) (.cond (.reg [0,1,2,3,4,14,17,18,66,67,68] []) (.reg [0,1,2,3,4,14,17,18,66,67,68] [])))))))))) (.seq (.reg [0,1,2,3,4,14,18,66,67,68] []) (.reg [0,1,2,3,4,14,15,66,67,68] []))))))) (.reg [0,1,2,3,4,14,15,66,67,68] [])))))))) (.seq (.reg [0,2,3,4,14] []) (.seq (.reg [0,2,3,4,14] []) (.seq (.reg [4,21] []) (.seq (.reg [10,11] []) .leaf)))))))))))
def R10_Tree_Decode_i4 : IC := (.seq (.reg [⟨some 81,.fad 1 (.t 18),none⟩,
⟨some 82,.ld (.sc (.int .i64)) (.t 81),none⟩,
⟨some 83,.mov (.t 4),none⟩,
⟨some 84,.cmp .lss (.t 82) (.t 83),none⟩,
⟨some 85,.mov (.t 84),none⟩,
⟨some 86,.fad 2 (.t 18),some (85,true)⟩,
⟨some 87,.ld (.sc .bool) (.t 86),some (85,true)⟩,
⟨some 88,.lnot (.t 87),some (85,true)⟩,
⟨some 89,.pick (.t 85) (.t 88) (.c (Go.Value.bool false)),none⟩] [0,1,2,3,4,14,17,18,66,67,68,89]) (.cond (.t 89) .skip (.exit 2)))
def R10_Tree_Decode_i3 : IC := (.seq (.opq 4 [0,1,2,3,4,14,17,18,66,67,68] R10_Tree_Decode_i4) (.block 3 (.seq (.reg [⟨some 91,.mov (.t 1),none⟩,
⟨some 92,.call 56 [(.t 91)] (.tup [(.sc (.int .i64)),(.sc (.int .i64))]),none⟩,
⟨some 90,.mov (.t 92),none⟩,
⟨some 93,.ext 0 (.t 90),none⟩,
⟨some 94,.ext 1 (.t 90),none⟩,
⟨some 19,.mov (.t 93),none⟩,
⟨some 20,.mov (.t 94),none⟩] [0,1,2,3,4,14,17,18,19,20,66,67,68]) (.seq (.seq (.reg [⟨some 95,.mov (.t 20),none⟩,
⟨some 96,.cmp .neq (.t 95) (.c (Go.Value.int Go.IntKind.i64 0)),none⟩] [0,1,2,3,4,14,17,18,19,20,66,67,68,96]) (.cond (.t 96) (.seq (.reg [⟨some 97,.mov (.t 20),none⟩,
⟨some 10,.mov (.c (Go.Value.bool false)),none⟩,
⟨some 11,.mov (.t 97),none⟩] [10,11]) .ret) .skip)) (.seq (.reg [⟨some 98,.mov (.t 19),none⟩,
⟨some 99,.cmp .eql (.t 98) (.c (Go.Value.int Go.IntKind.i64 1)),none⟩] [0,1,2,3,4,14,17,18,66,67,68,99]) (.cond (.t 99) (.reg [⟨some 100,.fad 2 (.t 18),none⟩,
⟨none,.st 1 (.t 100) (.c (Go.Value.bool true)),none⟩] [0,1,2,3,4,14,17,18,66,67,68]) (.reg [⟨some 101,.fad 1 (.t 18),none⟩,
⟨some 102,.ld (.sc (.int .i64)) (.t 101),none⟩,
⟨some 103,.bin .add .i64 (.t 102) (.c (Go.Value.int Go.IntKind.i64 1)),none⟩,
⟨some 104,.fad 1 (.t 18),none⟩,
⟨none,.st 1 (.t 104) (.t 103),none⟩] [0,1,2,3,4,14,17,18,66,67,68])))))))
def R10_Tree_Decode_i2 : IC := (.seq (.reg [⟨some 69,.cmp .lss (.t 68) (.t 67),none⟩] [0,1,2,3,4,14,15,66,67,68,69]) (.seq (.cond (.t 69) .skip (.exit 0)) (.seq (.block 1 (.seq (.reg [⟨some 70,.ids 1 (.t 66) (.t 68),none⟩,
⟨some 71,.ld (.sc (.int .i64)) (.t 70),none⟩,
⟨some 17,.mov (.t 71),none⟩] [0,1,2,3,4,14,15,17,66,67,68]) (.seq (.reg [⟨some 72,.mov (.t 14),none⟩,
⟨some 73,.mov (.t 17),none⟩,
⟨some 74,.ids 3 (.t 72) (.t 73),none⟩,
⟨some 75,.ld (.agg [(.int .i64),(.int .i64),.bool]) (.t 74),none⟩,
⟨some 18,.alc [.int .i64 0,.int .i64 0,.bool false],none⟩,
⟨none,.st 3 (.t 18) (.t 75),none⟩] [0,1,2,3,4,14,15,17,18,66,67,68]) (.seq (.reg [⟨some 76,.fad 1 (.t 18),none⟩,
⟨some 77,.ld (.sc (.int .i64)) (.t 76),none⟩,
⟨some 78,.mov (.t 15),none⟩,
⟨some 79,.mx (.t 77) (.t 78),none⟩,
⟨some 80,.fad 1 (.t 18),none⟩,
⟨none,.st 1 (.t 80) (.t 79),none⟩] [0,1,2,3,4,14,17,18,66,67,68]) (.seq (.block 2 (.opq 3 [0,1,2,3,4,14,17,18,66,67,68] (.loop R10_Tree_Decode_i3))) (.seq (.reg [⟨some 105,.mov (.t 14),none⟩,
⟨some 106,.mov (.t 17),none⟩,
⟨some 107,.ld (.agg [(.int .i64),(.int .i64),.bool]) (.t 18),none⟩,
⟨some 108,.ids 3 (.t 105) (.t 106),none⟩,
⟨none,.st 3 (.t 108) (.t 107),none⟩] [0,1,2,3,4,14,18,66,67,68]) (.reg [⟨some 109,.fad 1 (.t 18),none⟩,
⟨some 110,.ld (.sc (.int .i64)) (.t 109),none⟩,
⟨some 15,.mov (.t 110),none⟩] [0,1,2,3,4,14,15,66,67,68]))))))) (.reg [⟨some 111,.bin .add .i64 (.t 68) (.c (Go.Value.int Go.IntKind.i64 1)),none⟩,
⟨some 68,.mov (.t 111),none⟩] [0,1,2,3,4,14,15,66,67,68]))))
def R10_Tree_Decode_i1 : IC := (.seq (.reg [⟨some 44,.mov (.t 0),none⟩,
⟨some 45,.mov (.t 2),none⟩,
⟨some 46,.mov (.t 3),none⟩,
⟨some 47,.call 41 [(.t 44),(.t 45),(.t 46)] (.one (.sc .bool)),none⟩,
⟨some 48,.lnot (.t 47),none⟩,
⟨some 49,.mov (.t 48),none⟩,
⟨some 50,.mov (.t 4),some (49,false)⟩,
⟨some 51,.cmp .lss (.t 50) (.c (Go.Value.int Go.IntKind.i64 0)),some (49,false)⟩,
⟨some 52,.pick (.t 49) (.c (Go.Value.bool true)) (.t 51),none⟩,
⟨some 53,.mov (.t 52),none⟩,
⟨some 54,.mov (.t 4),some (53,false)⟩,
⟨some 55,.cmp .gtr (.t 54) (.c (Go.Value.int Go.IntKind.i64 65536)),some (53,false)⟩,
⟨some 56,.pick (.t 53) (.c (Go.Value.bool true)) (.t 55),none⟩] [0,1,2,3,4,56]) (.cond (.t 56) (.seq (.reg [⟨some 10,.mov (.c (Go.Value.bool false)),none⟩,
⟨some 11,.mov (.c (Go.Value.int Go.IntKind.i64 2)),none⟩] [10,11]) .ret) .skip))
def R10_Tree_Decode_i0 : IC := (.seq (.reg [⟨some 22,.mov (.t 0),none⟩,
⟨some 23,.eqnil (.t 22) false 0,none⟩,
⟨some 24,.mov (.t 23),none⟩,
⟨some 25,.mov (.t 0),some (24,false)⟩,
⟨some 26,.nilc (.t 25),some (24,false)⟩,
⟨some 27,.fad 0 (.t 26),some (24,false)⟩,
⟨some 28,.ld (.sc .bool) (.t 27),some (24,false)⟩,
⟨some 29,.lnot (.t 28),some (24,false)⟩,
⟨some 30,.pick (.t 24) (.c (Go.Value.bool true)) (.t 29),none⟩,
⟨some 31,.mov (.t 30),none⟩,
⟨some 32,.mov (.t 0),some (31,false)⟩,
⟨some 33,.nilc (.t 32),some (31,false)⟩,
⟨some 34,.fad 4 (.t 33),some (31,false)⟩,
⟨some 35,.ld (.sc .bool) (.t 34),some (31,false)⟩,
⟨some 36,.pick (.t 31) (.c (Go.Value.bool true)) (.t 35),none⟩] [0,1,2,3,4,36]) (.cond (.t 36) (.seq (.reg [⟨some 10,.mov (.c (Go.Value.bool false)),none⟩,
⟨some 11,.mov (.c (Go.Value.int Go.IntKind.i64 6)),none⟩] [10,11]) .ret) .skip))
def R10_Tree_Decode_f : IFn := ⟨138,[.t 10,.t 11],(.seq (.reg [⟨some 10,.mov (.c (Go.Value.bool false)),none⟩,
⟨some 11,.mov (.c (Go.Value.int Go.IntKind.i64 0)),none⟩] [0,1,2,3,4]) (.seq (.opq 0 [0,1,2,3,4] R10_Tree_Decode_i0) (.seq (.seq (.reg [⟨some 38,.mov (.t 1),none⟩,
⟨some 39,.call 55 [(.t 38),(.c (Go.Value.int Go.IntKind.i64 0))] (.tup [(.sc (.int .i64)),(.sc (.int .i64))]),none⟩,
⟨some 37,.mov (.t 39),none⟩,
⟨some 40,.ext 0 (.t 37),none⟩,
⟨some 41,.ext 1 (.t 37),none⟩,
⟨some 12,.mov (.t 40),none⟩,
⟨some 13,.mov (.t 41),none⟩] [0,1,2,3,4,13]) (.seq (.reg [⟨some 42,.mov (.t 13),none⟩,
⟨some 43,.cmp .neq (.t 42) (.c (Go.Value.int Go.IntKind.i64 0)),none⟩] [0,1,2,3,4,43]) (.cond (.t 43) (.seq (.reg [⟨some 10,.mov (.c (Go.Value.bool false)),none⟩,
⟨some 11,.mov (.c (Go.Value.int Go.IntKind.i64 6)),none⟩] [10,11]) .ret) .skip))) (.seq (.opq 1 [0,1,2,3,4] R10_Tree_Decode_i1) (.seq (.reg [⟨some 57,.bls 0 [] [],none⟩,
⟨some 58,.mov (.t 0),none⟩,
⟨some 59,.nilc (.t 58),none⟩,
⟨some 60,.fad 3 (.t 59),none⟩,
⟨some 61,.ld (.sc .slc) (.t 60),none⟩,
⟨some 62,.app [.int .i64 0,.int .i64 0,.bool false] 24 (.t 57) (.t 61),none⟩,
⟨some 14,.mov (.t 62),none⟩] [0,1,2,3,4,14]) (.seq (.reg [⟨some 15,.mov (.c (Go.Value.int Go.IntKind.i64 0)),none⟩] [0,1,2,3,4,14,15]) (.seq (.seq (.reg [⟨some 63,.mov (.t 0),none⟩,
⟨some 64,.mov (.t 2),none⟩,
⟨some 65,.mov (.t 3),none⟩,
⟨some 66,.call 49 [(.t 63),(.t 64),(.t 65)] (.one (.sc .slc)),none⟩,
⟨some 67,.len false (.t 66),none⟩,
⟨some 68,.mov (.c (Go.Value.int Go.IntKind.i64 0)),none⟩] [0,1,2,3,4,14,15,66,67,68]) (.block 0 (.opq 2 [0,1,2,3,4,14,15,66,67,68] (.loop R10_Tree_Decode_i2)))) (.seq (.reg [⟨some 112,.mov (.t 0),none⟩,
⟨some 113,.mov (.t 14),none⟩,
⟨some 114,.nilc (.t 112),none⟩,
⟨some 115,.fad 3 (.t 114),none⟩,
⟨none,.st 1 (.t 115) (.t 113),none⟩] [0,2,3,4,14]) (.seq (.reg [⟨some 116,.mov (.t 0),none⟩,
⟨some 117,.nilc (.t 116),none⟩,
⟨some 118,.fad 5 (.t 117),none⟩,
⟨none,.st 1 (.t 118) (.c (Go.Value.bool true)),none⟩] [0,2,3,4,14]) (.seq (.reg [⟨some 119,.mov (.t 14),none⟩,
⟨some 120,.mov (.t 3),none⟩,
⟨some 121,.mov (.t 0),none⟩,
⟨some 122,.nilc (.t 121),none⟩,
⟨some 123,.fad 1 (.t 122),none⟩,
⟨some 124,.ld (.sc (.int .i64)) (.t 123),none⟩,
⟨some 125,.bin .mul .i64 (.t 120) (.t 124),none⟩,
⟨some 126,.mov (.t 2),none⟩,
⟨some 127,.bin .add .i64 (.t 125) (.t 126),none⟩,
⟨some 128,.ids 3 (.t 119) (.t 127),none⟩,
⟨some 129,.ld (.agg [(.int .i64),(.int .i64),.bool]) (.t 128),none⟩,
⟨some 21,.alc [.int .i64 0,.int .i64 0,.bool false],none⟩,
⟨none,.st 3 (.t 21) (.t 129),none⟩] [4,21]) (.seq (.reg [⟨some 130,.fad 2 (.t 21),none⟩,
⟨some 131,.ld (.sc .bool) (.t 130),none⟩,
⟨some 132,.mov (.t 131),none⟩,
⟨some 133,.fad 1 (.t 21),some (132,true)⟩,
⟨some 134,.ld (.sc (.int .i64)) (.t 133),some (132,true)⟩,
⟨some 135,.mov (.t 4),some (132,true)⟩,
⟨some 136,.cmp .lss (.t 134) (.t 135),some (132,true)⟩,
⟨some 137,.pick (.t 132) (.t 136) (.c (Go.Value.bool false)),none⟩,
⟨some 10,.mov (.t 137),none⟩,
⟨some 11,.mov (.c (Go.Value.int Go.IntKind.i64 0)),none⟩] [10,11]) .ret)))))))))))⟩
theorem R10_Tree_Decode_e4 {R : Type} (R09_Reader_Bits : R09_Reader_Bits_t R) (R10_Tree_leaf : R10_Tree_leaf_t R) (R10_Tree_path : R10_Tree_path_t R) (R09_Reader_Get : R09_Reader_Get_t R) (R10_Tree_Decode_p0 : R10_Tree_Decode_p0_t R) (R10_Tree_Decode_p1 : R10_Tree_Decode_p1_t R) (R10_Tree_Decode_l2 : R10_Tree_Decode_l2_t R) (R10_Tree_Decode_l3 : R10_Tree_Decode_l3_t R) (R10_Tree_Decode_p4 : R10_Tree_Decode_p4_t R) (k : Nat) (p675 : Oa) (p676 : Oa) (n677 : Int) (n678 : Int) (n679 : Int) (q680 : Oa) (l681 : Nat) (c682 : Nat) (n683 : Int) (p684 : Oa) (q685 : Oa) (l686 : Nat) (c687 : Nat) (n688 : Int) (n689 : Int) (H : Heap) (K : Xit → Env → Heap → Option R) : evJ (R10_Tree_Decode_Ct R09_Reader_Bits R10_Tree_leaf R10_Tree_path R09_Reader_Get) (R10_Tree_Decode_Jt k R10_Tree_Decode_p0 R10_Tree_Decode_p1 R10_Tree_Decode_l2 R10_Tree_Decode_l3 R10_Tree_Decode_p4) R10_Tree_Decode_i4 (List.zip [0,1,2,3,4,14,17,18,66,67,68] [.pointer p675,.pointer p676,.int .i64 n677,.int .i64 n678,.int .i64 n679,.slice q680 l681 c682,.int .i64 n683,.pointer p684,.slice q685 l686 c687,.int .i64 n688,.int .i64 n689]) H (fun x e' H' => K x (clean e' ((⟨[0,1,2,3,4,14,17,18,66,67,68],[(2,[0,1,2,3,4,14,17,18,66,67,68])],[]⟩ : Out).of x)) H') = R10_Tree_Decode_p4_b k p675 p676 n677 n678 n679 q680 l681 c682 n683 p684 q685 l686 c687 n688 n689 H (fun p1855 p1856 n1857 n1858 n1859 q1860 l1861 c1862 n1863 p1864 q1865 l1866 c1867 n1868 n1869 => K (.exit 2) [(0,.pointer p1855),(1,.pointer p1856),(2,.int .i64 n1857),(3,.int .i64 n1858),(4,.int .i64 n1859),(14,.slice q1860 l1861 c1862),(17,.int .i64 n1863),(18,.pointer p1864),(66,.slice q1865 l1866 c1867),(67,.int .i64 n1868),(68,.int .i64 n1869)] H) (fun p1870 p1871 n1872 n1873 n1874 q1875 l1876 c1877 n1878 p1879 q1880 l1881 c1882 n1883 n1884 => K .normal [(0,.pointer p1870),(1,.pointer p1871),(2,.int .i64 n1872),(3,.int .i64 n1873),(4,.int .i64 n1874),(14,.slice q1875 l1876 c1877),(17,.int .i64 n1878),(18,.pointer p1879),(66,.slice q1880 l1881 c1882),(67,.int .i64 n1883),(68,.int .i64 n1884)] H) := by kernel_rfl
theorem R10_Tree_Decode_j4 {R : Type} (k : Nat) : JS Try.prog 138 (R10_Tree_Decode_a4 R k k) [0,1,2,3,4,14,17,18,66,67,68] ⟨[0,1,2,3,4,14,17,18,66,67,68],[(2,[0,1,2,3,4,14,17,18,66,67,68])],[]⟩ (sel [1,1,1,1,1,1,0,1,0,0,1,1,0,0,1,1,1,0,0,0,0] (Try.f33.body.getD .skip)) :=
  piece_ok (nt := 138) (c := (sel [1,1,1,1,1,1,0,1,0,0,1,1,0,0,1,1,1,0,0,0,0] (Try.f33.body.getD .skip))) (C := R10_Tree_Decode_C R k) (an := An) (t := (.seq (.reg [0,1,2,3,4,14,17,18,66,67,68,89] []) (.cond .leaf .leaf))) (ic := R10_Tree_Decode_i4) (R10_Tree_Decode_S R k) (R10_Tree_Decode_J R k) (by kernel_rfl) (And.intro True.intro (And.intro True.intro True.intro)) (R10_Tree_Decode_a4 R k k)
    (fun vals H K r h => by
      unfold R10_Tree_Decode_a4 R10_Tree_Decode_aa4 at h
      split at h <;> first | (cases h; done) | exact Eq.trans (R10_Tree_Decode_e4 (R09_Reader_Bits k) R10_Tree_leaf (R10_Tree_path k) (R09_Reader_Get k) (R10_Tree_Decode_p0 k) (R10_Tree_Decode_p1 k) (R10_Tree_Decode_l2 k) (R10_Tree_Decode_l3 k) (R10_Tree_Decode_p4 k) k _ _ _ _ _ _ _ _ _ _ _ _ _ _ _ H K) h)
theorem R10_Tree_Decode_e3 {R : Type} (R09_Reader_Bits : R09_Reader_Bits_t R) (R10_Tree_leaf : R10_Tree_leaf_t R) (R10_Tree_path : R10_Tree_path_t R) (R09_Reader_Get : R09_Reader_Get_t R) (R10_Tree_Decode_p0 : R10_Tree_Decode_p0_t R) (R10_Tree_Decode_p1 : R10_Tree_Decode_p1_t R) (R10_Tree_Decode_l2 : R10_Tree_Decode_l2_t R) (R10_Tree_Decode_l3 : R10_Tree_Decode_l3_t R) (R10_Tree_Decode_p4 : R10_Tree_Decode_p4_t R) (k n : Nat) (p660 : Oa) (p661 : Oa) (n662 : Int) (n663 : Int) (n664 : Int) (q665 : Oa) (l666 : Nat) (c667 : Nat) (n668 : Int) (p669 : Oa) (q670 : Oa) (l671 : Nat) (c672 : Nat) (n673 : Int) (n674 : Int) (H : Heap) (K : Xit → Env → Heap → Option R) : evJ (R10_Tree_Decode_Ct R09_Reader_Bits R10_Tree_leaf R10_Tree_path R09_Reader_Get) (R10_Tree_Decode_Jt k R10_Tree_Decode_p0 R10_Tree_Decode_p1 R10_Tree_Decode_l2 R10_Tree_Decode_l3 R10_Tree_Decode_p4) R10_Tree_Decode_i3 (List.zip [0,1,2,3,4,14,17,18,66,67,68] [.pointer p660,.pointer p661,.int .i64 n662,.int .i64 n663,.int .i64 n664,.slice q665 l666 c667,.int .i64 n668,.pointer p669,.slice q670 l671 c672,.int .i64 n673,.int .i64 n674]) H (fun x e' H' => match x with | .normal => R10_Tree_Decode_aa3 R10_Tree_Decode_l3 n ((clean e' [0,1,2,3,4,14,17,18,66,67,68]).map (·.2)) H' K | x => K x (clean e' ((⟨[],[(2,[0,1,2,3,4,14,17,18,66,67,68])],[10,11]⟩ : Out).of x)) H') = R10_Tree_Decode_l3_b R10_Tree_Decode_p4 R09_Reader_Get (R10_Tree_Decode_l3 (fun p1838 p1839 n1840 n1841 n1842 q1843 l1844 c1845 n1846 p1847 q1848 l1849 c1850 n1851 n1852 H => K (.exit 2) [(0,.pointer p1838),(1,.pointer p1839),(2,.int .i64 n1840),(3,.int .i64 n1841),(4,.int .i64 n1842),(14,.slice q1843 l1844 c1845),(17,.int .i64 n1846),(18,.pointer p1847),(66,.slice q1848 l1849 c1850),(67,.int .i64 n1851),(68,.int .i64 n1852)] H) (fun t1853 n1854 H => K .ret [(10,.bool t1853),(11,.int .i64 n1854)] H) n) (fun p1838 p1839 n1840 n1841 n1842 q1843 l1844 c1845 n1846 p1847 q1848 l1849 c1850 n1851 n1852 H => K (.exit 2) [(0,.pointer p1838),(1,.pointer p1839),(2,.int .i64 n1840),(3,.int .i64 n1841),(4,.int .i64 n1842),(14,.slice q1843 l1844 c1845),(17,.int .i64 n1846),(18,.pointer p1847),(66,.slice q1848 l1849 c1850),(67,.int .i64 n1851),(68,.int .i64 n1852)] H) (fun t1853 n1854 H => K .ret [(10,.bool t1853),(11,.int .i64 n1854)] H) k p660 p661 n662 n663 n664 q665 l666 c667 n668 p669 q670 l671 c672 n673 n674 H := by kernel_rfl
theorem R10_Tree_Decode_j3 {R : Type} (k : Nat) : JS Try.prog 138 (R10_Tree_Decode_a3 R k k) [0,1,2,3,4,14,17,18,66,67,68] ⟨[],[(2,[0,1,2,3,4,14,17,18,66,67,68])],[10,11]⟩ (.loop (sel [1,1,1,1,1,1,0,1,0,0,1,1,0,0,1,1,1,0,0,0] (Try.f33.body.getD .skip))) :=
  loop_ok (nt := 138) (c := (sel [1,1,1,1,1,1,0,1,0,0,1,1,0,0,1,1,1,0,0,0] (Try.f33.body.getD .skip))) (C := R10_Tree_Decode_C R k) (an := An) (t := (.seq (.opq 4 [0,1,2,3,4,14,17,18,66,67,68] ⟨[0,1,2,3,4,14,17,18,66,67,68],[(2,[0,1,2,3,4,14,17,18,66,67,68])],[]⟩ (.seq (.reg [0,1,2,3,4,14,17,18,66,67,68,89] []) (.cond .leaf .leaf))) (.node (.seq (.reg [0,1,2,3,4,14,17,18,19,20,66,67,68] []) (.seq (.seq (.reg [0,1,2,3,4,14,17,18,19,20,66,67,68,96] []) (.cond (.seq (.reg [10,11] []) .leaf) .leaf)) (.seq (.reg [0,1,2,3,4,14,17,18,66,67,68,99] []) (.cond (.reg [0,1,2,3,4,14,17,18,66,67,68] []) (.reg [0,1,2,3,4,14,17,18,66,67,68] [])))))))) (ic := R10_Tree_Decode_i3) (R10_Tree_Decode_S R k) (R10_Tree_Decode_J R k) (by kernel_rfl) (And.intro (R10_Tree_Decode_j4 k) (And.intro True.intro (And.intro (And.intro True.intro (And.intro (And.intro True.intro True.intro) True.intro)) (And.intro True.intro (And.intro True.intro True.intro))))) (R10_Tree_Decode_a3 R k) (fun vals H K => by unfold R10_Tree_Decode_a3 R10_Tree_Decode_aa3; split <;> rfl)
    (fun n vals H K r h => by
      unfold R10_Tree_Decode_a3 R10_Tree_Decode_aa3 at h
      split at h <;> first | (cases h; done) | exact Eq.trans (R10_Tree_Decode_e3 (R09_Reader_Bits k) R10_Tree_leaf (R10_Tree_path k) (R09_Reader_Get k) (R10_Tree_Decode_p0 k) (R10_Tree_Decode_p1 k) (R10_Tree_Decode_l2 k) (R10_Tree_Decode_l3 k) (R10_Tree_Decode_p4 k) k n _ _ _ _ _ _ _ _ _ _ _ _ _ _ _ H K) h) k
theorem R10_Tree_Decode_e2 {R : Type} (R09_Reader_Bits : R09_Reader_Bits_t R) (R10_Tree_leaf : R10_Tree_leaf_t R) (R10_Tree_path : R10_Tree_path_t R) (R09_Reader_Get : R09_Reader_Get_t R) (R10_Tree_Decode_p0 : R10_Tree_Decode_p0_t R) (R10_Tree_Decode_p1 : R10_Tree_Decode_p1_t R) (R10_Tree_Decode_l2 : R10_Tree_Decode_l2_t R) (R10_Tree_Decode_l3 : R10_Tree_Decode_l3_t R) (R10_Tree_Decode_p4 : R10_Tree_Decode_p4_t R) (k n : Nat) (p633 : Oa) (p634 : Oa) (n635 : Int) (n636 : Int) (n637 : Int) (q638 : Oa) (l639 : Nat) (c640 : Nat) (n641 : Int) (q642 : Oa) (l643 : Nat) (c644 : Nat) (n645 : Int) (n646 : Int) (H : Heap) (K : Xit → Env → Heap → Option R) : evJ (R10_Tree_Decode_Ct R09_Reader_Bits R10_Tree_leaf R10_Tree_path R09_Reader_Get) (R10_Tree_Decode_Jt k R10_Tree_Decode_p0 R10_Tree_Decode_p1 R10_Tree_Decode_l2 R10_Tree_Decode_l3 R10_Tree_Decode_p4) R10_Tree_Decode_i2 (List.zip [0,1,2,3,4,14,15,66,67,68] [.pointer p633,.pointer p634,.int .i64 n635,.int .i64 n636,.int .i64 n637,.slice q638 l639 c640,.int .i64 n641,.slice q642 l643 c644,.int .i64 n645,.int .i64 n646]) H (fun x e' H' => match x with | .normal => R10_Tree_Decode_aa2 R10_Tree_Decode_l2 n ((clean e' [0,1,2,3,4,14,15,66,67,68]).map (·.2)) H' K | x => K x (clean e' ((⟨[],[(0,[0,2,3,4,14])],[10,11]⟩ : Out).of x)) H') = R10_Tree_Decode_l2_b R10_Tree_Decode_l3 (R10_Tree_Decode_l2 (fun p1829 n1830 n1831 n1832 q1833 l1834 c1835 H => K (.exit 0) [(0,.pointer p1829),(2,.int .i64 n1830),(3,.int .i64 n1831),(4,.int .i64 n1832),(14,.slice q1833 l1834 c1835)] H) (fun t1836 n1837 H => K .ret [(10,.bool t1836),(11,.int .i64 n1837)] H) n) (fun p1829 n1830 n1831 n1832 q1833 l1834 c1835 H => K (.exit 0) [(0,.pointer p1829),(2,.int .i64 n1830),(3,.int .i64 n1831),(4,.int .i64 n1832),(14,.slice q1833 l1834 c1835)] H) (fun t1836 n1837 H => K .ret [(10,.bool t1836),(11,.int .i64 n1837)] H) k p633 p634 n635 n636 n637 q638 l639 c640 n641 q642 l643 c644 n645 n646 H := by kernel_rfl
theorem R10_Tree_Decode_j2 {R : Type} (k : Nat) : JS Try.prog 138 (R10_Tree_Decode_a2 R k k) [0,1,2,3,4,14,15,66,67,68] ⟨[],[(0,[0,2,3,4,14])],[10,11]⟩ (.loop (sel [1,1,1,1,1,1,0,1,0,0] (Try.f33.body.getD .skip))) :=
  loop_ok (nt := 138) (c := (sel [1,1,1,1,1,1,0,1,0,0] (Try.f33.body.getD .skip))) (C := R10_Tree_Decode_C R k) (an := An) (t := (.seq (.reg [0,1,2,3,4,14,15,66,67,68,69] []) (.seq (.cond .leaf .leaf) (.seq (.node (.seq (.reg [0,1,2,3,4,14,15,17,66,67,68] []) (.seq (.reg [0,1,2,3,4,14,15,17,18,66,67,68] []) (.seq (.reg [0,1,2,3,4,14,17,18,66,67,68] []) (.seq (.node (.opq 3 [0,1,2,3,4,14,17,18,66,67,68] ⟨[],[(2,[0,1,2,3,4,14,17,18,66,67,68])],[10,11]⟩ (.node (.seq (.opq 4 [0,1,2,3,4,14,17,18,66,67,68] ⟨[0,1,2,3,4,14,17,18,66,67,68],[(2,[0,1,2,3,4,14,17,18,66,67,68])],[]⟩ (.seq (.reg [0,1,2,3,4,14,17,18,66,67,68,89] []) (.cond .leaf .leaf))) (.node (.seq (.reg [0,1,2,3,4,14,17,18,19,20,66,67,68] []) (.seq (.seq (.reg [0,1,2,3,4,14,17,18,19,20,66,67,68,96] []) (.cond (.seq (.reg [10,11] []) .leaf) .leaf)) (.seq (.reg [0,1,2,3,4,14,17,18,66,67,68,99] []) (.cond (.reg [0,1,2,3,4,14,17,18,66,67,68] []) (.reg [0,1,2,3,4,14,17,18,66,67,68] [])))))))))) (.seq (.reg [0,1,2,3,4,14,18,66,67,68] []) (.reg [0,1,2,3,4,14,15,66,67,68] []))))))) (.reg [0,1,2,3,4,14,15,66,67,68] []))))) (ic := R10_Tree_Decode_i2) (R10_Tree_Decode_S R k) (R10_Tree_Decode_J R k) (by kernel_rfl) (And.intro True.intro (And.intro (And.intro True.intro True.intro) (And.intro (And.intro True.intro (And.intro True.intro (And.intro True.intro (And.intro (R10_Tree_Decode_j3 k) (And.intro True.intro True.intro))))) True.intro))) (R10_Tree_Decode_a2 R k) (fun vals H K => by unfold R10_Tree_Decode_a2 R10_Tree_Decode_aa2; split <;> rfl)
    (fun n vals H K r h => by
      unfold R10_Tree_Decode_a2 R10_Tree_Decode_aa2 at h
      split at h <;> first | (cases h; done) | exact Eq.trans (R10_Tree_Decode_e2 (R09_Reader_Bits k) R10_Tree_leaf (R10_Tree_path k) (R09_Reader_Get k) (R10_Tree_Decode_p0 k) (R10_Tree_Decode_p1 k) (R10_Tree_Decode_l2 k) (R10_Tree_Decode_l3 k) (R10_Tree_Decode_p4 k) k n _ _ _ _ _ _ _ _ _ _ _ _ _ _ H K) h) k
theorem R10_Tree_Decode_e1 {R : Type} (R09_Reader_Bits : R09_Reader_Bits_t R) (R10_Tree_leaf : R10_Tree_leaf_t R) (R10_Tree_path : R10_Tree_path_t R) (R09_Reader_Get : R09_Reader_Get_t R) (R10_Tree_Decode_p0 : R10_Tree_Decode_p0_t R) (R10_Tree_Decode_p1 : R10_Tree_Decode_p1_t R) (R10_Tree_Decode_l2 : R10_Tree_Decode_l2_t R) (R10_Tree_Decode_l3 : R10_Tree_Decode_l3_t R) (R10_Tree_Decode_p4 : R10_Tree_Decode_p4_t R) (k : Nat) (p600 : Oa) (p601 : Oa) (n602 : Int) (n603 : Int) (n604 : Int) (H : Heap) (K : Xit → Env → Heap → Option R) : evJ (R10_Tree_Decode_Ct R09_Reader_Bits R10_Tree_leaf R10_Tree_path R09_Reader_Get) (R10_Tree_Decode_Jt k R10_Tree_Decode_p0 R10_Tree_Decode_p1 R10_Tree_Decode_l2 R10_Tree_Decode_l3 R10_Tree_Decode_p4) R10_Tree_Decode_i1 (List.zip [0,1,2,3,4] [.pointer p600,.pointer p601,.int .i64 n602,.int .i64 n603,.int .i64 n604]) H (fun x e' H' => K x (clean e' ((⟨[0,1,2,3,4],[],[10,11]⟩ : Out).of x)) H') = R10_Tree_Decode_p1_b R10_Tree_leaf k p600 p601 n602 n603 n604 H (fun p1822 p1823 n1824 n1825 n1826 => K .normal [(0,.pointer p1822),(1,.pointer p1823),(2,.int .i64 n1824),(3,.int .i64 n1825),(4,.int .i64 n1826)] H) (fun t1827 n1828 => K .ret [(10,.bool t1827),(11,.int .i64 n1828)] H) := by kernel_rfl
theorem R10_Tree_Decode_j1 {R : Type} (k : Nat) : JS Try.prog 138 (R10_Tree_Decode_a1 R k k) [0,1,2,3,4] ⟨[0,1,2,3,4],[],[10,11]⟩ (sel [1,1,1,0] (Try.f33.body.getD .skip)) :=
  piece_ok (nt := 138) (c := (sel [1,1,1,0] (Try.f33.body.getD .skip))) (C := R10_Tree_Decode_C R k) (an := An) (t := (.seq (.reg [0,1,2,3,4,56] []) (.cond (.seq (.reg [10,11] []) .leaf) .leaf))) (ic := R10_Tree_Decode_i1) (R10_Tree_Decode_S R k) (R10_Tree_Decode_J R k) (by kernel_rfl) (And.intro True.intro (And.intro (And.intro True.intro True.intro) True.intro)) (R10_Tree_Decode_a1 R k k)
    (fun vals H K r h => by
      unfold R10_Tree_Decode_a1 R10_Tree_Decode_aa1 at h
      split at h <;> first | (cases h; done) | exact Eq.trans (R10_Tree_Decode_e1 (R09_Reader_Bits k) R10_Tree_leaf (R10_Tree_path k) (R09_Reader_Get k) (R10_Tree_Decode_p0 k) (R10_Tree_Decode_p1 k) (R10_Tree_Decode_l2 k) (R10_Tree_Decode_l3 k) (R10_Tree_Decode_p4 k) k _ _ _ _ _ H K) h)
theorem R10_Tree_Decode_e0 {R : Type} (R09_Reader_Bits : R09_Reader_Bits_t R) (R10_Tree_leaf : R10_Tree_leaf_t R) (R10_Tree_path : R10_Tree_path_t R) (R09_Reader_Get : R09_Reader_Get_t R) (R10_Tree_Decode_p0 : R10_Tree_Decode_p0_t R) (R10_Tree_Decode_p1 : R10_Tree_Decode_p1_t R) (R10_Tree_Decode_l2 : R10_Tree_Decode_l2_t R) (R10_Tree_Decode_l3 : R10_Tree_Decode_l3_t R) (R10_Tree_Decode_p4 : R10_Tree_Decode_p4_t R) (k : Nat) (p574 : Oa) (p575 : Oa) (n576 : Int) (n577 : Int) (n578 : Int) (H : Heap) (K : Xit → Env → Heap → Option R) : evJ (R10_Tree_Decode_Ct R09_Reader_Bits R10_Tree_leaf R10_Tree_path R09_Reader_Get) (R10_Tree_Decode_Jt k R10_Tree_Decode_p0 R10_Tree_Decode_p1 R10_Tree_Decode_l2 R10_Tree_Decode_l3 R10_Tree_Decode_p4) R10_Tree_Decode_i0 (List.zip [0,1,2,3,4] [.pointer p574,.pointer p575,.int .i64 n576,.int .i64 n577,.int .i64 n578]) H (fun x e' H' => K x (clean e' ((⟨[0,1,2,3,4],[],[10,11]⟩ : Out).of x)) H') = R10_Tree_Decode_p0_b k p574 p575 n576 n577 n578 H (fun p1815 p1816 n1817 n1818 n1819 => K .normal [(0,.pointer p1815),(1,.pointer p1816),(2,.int .i64 n1817),(3,.int .i64 n1818),(4,.int .i64 n1819)] H) (fun t1820 n1821 => K .ret [(10,.bool t1820),(11,.int .i64 n1821)] H) := by kernel_rfl
theorem R10_Tree_Decode_j0 {R : Type} (k : Nat) : JS Try.prog 138 (R10_Tree_Decode_a0 R k k) [0,1,2,3,4] ⟨[0,1,2,3,4],[],[10,11]⟩ (sel [1,0] (Try.f33.body.getD .skip)) :=
  piece_ok (nt := 138) (c := (sel [1,0] (Try.f33.body.getD .skip))) (C := R10_Tree_Decode_C R k) (an := An) (t := (.seq (.reg [0,1,2,3,4,36] []) (.cond (.seq (.reg [10,11] []) .leaf) .leaf))) (ic := R10_Tree_Decode_i0) (R10_Tree_Decode_S R k) (R10_Tree_Decode_J R k) (by kernel_rfl) (And.intro True.intro (And.intro (And.intro True.intro True.intro) True.intro)) (R10_Tree_Decode_a0 R k k)
    (fun vals H K r h => by
      unfold R10_Tree_Decode_a0 R10_Tree_Decode_aa0 at h
      split at h <;> first | (cases h; done) | exact Eq.trans (R10_Tree_Decode_e0 (R09_Reader_Bits k) R10_Tree_leaf (R10_Tree_path k) (R09_Reader_Get k) (R10_Tree_Decode_p0 k) (R10_Tree_Decode_p1 k) (R10_Tree_Decode_l2 k) (R10_Tree_Decode_l3 k) (R10_Tree_Decode_p4 k) k _ _ _ _ _ H K) h)
def R10_Tree_Decode_ca {R : Type} (f : R10_Tree_Decode_t R) (args : List Value) (H : Heap) (K : Value → Heap → Option R) : Option R :=
  match args with
  | [.pointer p569,.pointer p570,.int .i64 n571,.int .i64 n572,.int .i64 n573] => f p569 p570 n571 n572 n573 H (fun t1885 n1886 H => K (.tuple ⟨[.bool t1885,.int .i64 n1886]⟩) H)
  | _ => none
def R10_Tree_Decode_c (R : Type) (k : Nat) (args : List Value) (H : Heap) (K : Value → Heap → Option R) : Option R := R10_Tree_Decode_ca (R10_Tree_Decode k) args H K
theorem R10_Tree_Decode_e {R : Type} (R09_Reader_Bits : R09_Reader_Bits_t R) (R10_Tree_leaf : R10_Tree_leaf_t R) (R10_Tree_path : R10_Tree_path_t R) (R09_Reader_Get : R09_Reader_Get_t R) (R10_Tree_Decode_p0 : R10_Tree_Decode_p0_t R) (R10_Tree_Decode_p1 : R10_Tree_Decode_p1_t R) (R10_Tree_Decode_l2 : R10_Tree_Decode_l2_t R) (R10_Tree_Decode_l3 : R10_Tree_Decode_l3_t R) (R10_Tree_Decode_p4 : R10_Tree_Decode_p4_t R) (k : Nat) (p569 : Oa) (p570 : Oa) (n571 : Int) (n572 : Int) (n573 : Int) (H : Heap) (K : Value → Heap → Option R) : evF (R10_Tree_Decode_Ct R09_Reader_Bits R10_Tree_leaf R10_Tree_path R09_Reader_Get) (R10_Tree_Decode_Jt k R10_Tree_Decode_p0 R10_Tree_Decode_p1 R10_Tree_Decode_l2 R10_Tree_Decode_l3 R10_Tree_Decode_p4) R10_Tree_Decode_f [.pointer p569,.pointer p570,.int .i64 n571,.int .i64 n572,.int .i64 n573] H K = R10_Tree_Decode_b R10_Tree_Decode_p0 R09_Reader_Bits R10_Tree_Decode_p1 R10_Tree_path R10_Tree_Decode_l2 k p569 p570 n571 n572 n573 H (fun t1885 n1886 H => K (.tuple ⟨[.bool t1885,.int .i64 n1886]⟩) H) := by kernel_rfl
theorem R10_Tree_Decode_cs (R : Type) (k : Nat) : ∀ args H K r,R10_Tree_Decode_c R k args H K = some r → ∃ v H',Tri Try.prog 33 args H v H' ∧ K v H' = some r := by
  intro args H K r h
  unfold R10_Tree_Decode_c R10_Tree_Decode_ca at h
  split at h
  · exact evF_ok (C := R10_Tree_Decode_C R k) (an := An) (t := R10_Tree_Decode_at) (fn := Try.f33) (c := (Try.f33.body.getD .skip)) (ifn := R10_Tree_Decode_f) (R10_Tree_Decode_S R k) (R10_Tree_Decode_J R k) Try.func33 (by kernel_rfl) (by kernel_rfl) (And.intro True.intro (And.intro (R10_Tree_Decode_j0 k) (And.intro (And.intro True.intro (And.intro True.intro (And.intro (And.intro True.intro True.intro) True.intro))) (And.intro (R10_Tree_Decode_j1 k) (And.intro True.intro (And.intro True.intro (And.intro (And.intro True.intro (R10_Tree_Decode_j2 k)) (And.intro True.intro (And.intro True.intro (And.intro True.intro (And.intro True.intro True.intro))))))))))) rfl (Eq.trans (R10_Tree_Decode_e (R09_Reader_Bits k) R10_Tree_leaf (R10_Tree_path k) (R09_Reader_Get k) (R10_Tree_Decode_p0 k) (R10_Tree_Decode_p1 k) (R10_Tree_Decode_l2 k) (R10_Tree_Decode_l3 k) (R10_Tree_Decode_p4 k) k _ _ _ _ _ H K) h)
  · cases h
/-! ### L_TagtreeReads: function 6 -/
abbrev L_TagtreeReads_p0_t (R : Type) : Type := Oa → Heap → (Oa → Bool → Heap → Option R) → Option R
def L_TagtreeReads_p0_b {R : Type} (L_small : L_small_t R) (k : Nat) (p352 : Oa) (H : Heap) (KN : Oa → Bool → Heap → Option R) : Option R :=
hfad 0 p352 fun p353 =>
ldI .i64 H p353 fun n354 =>
hfad 1 p352 fun p355 =>
ldI .i64 H p355 fun n356 =>
hfad 3 p352 fun p357 =>
ldL H p357 fun q358 l359 c360 =>
L_small n354 n356 q358 l359 c360 H fun t361 H362 =>
bif (!t361) then (KN p352 true H362)
 else (hfad 2 p352 fun p363 =>
ldL H362 p363 fun q364 l365 c366 =>
KN p352 (decide (((l365 : Nat) : Int) > 300)) H362)
def L_TagtreeReads_p0 {R : Type} (k : Nat) (p352 : Oa) (H : Heap) (KN : Oa → Bool → Heap → Option R) : Option R := L_TagtreeReads_p0_b (L_small k) k p352 H KN

abbrev L_TagtreeReads_p2_t (R : Type) : Type := Oa → Oa → Oa → Oa → Oa → Nat → Nat → Int → Int → Heap → (Oa → Oa → Oa → Oa → Oa → Nat → Nat → Int → Int → Heap → Option R) → (Bool → Heap → Option R) → Option R
def L_TagtreeReads_p2_b {R : Type} (tagtree_Tree_Set : tagtree_Tree_Set_t R) (R10_Tree_Set : R10_Tree_Set_t R) (tagtree_Tree_Value : tagtree_Tree_Value_t R) (R10_Tree_Value : R10_Tree_Value_t R) (tagtree_Tree_Decode : tagtree_Tree_Decode_t R) (R10_Tree_Decode : R10_Tree_Decode_t R) (k : Nat) (p412 : Oa) (p413 : Oa) (p414 : Oa) (p415 : Oa) (q416 : Oa) (l417 : Nat) (c418 : Nat) (n419 : Int) (n420 : Int) (H : Heap) (KN : Oa → Oa → Oa → Oa → Oa → Nat → Nat → Int → Int → Heap → Option R) (KR : Bool → Heap → Option R) : Option R :=
hidx q416 l417 n420 4 fun p421 =>
ldI .i64 H (pad p421 0) fun n422 =>
ldI .i64 H (pad p421 1) fun n423 =>
ldI .i64 H (pad p421 2) fun n424 =>
ldI .i64 H (pad p421 3) fun n425 =>
hal H [.int .i64 0,.int .i64 0,.int .i64 0,.int .i64 0] fun p426 H427 =>
hst H427 p426 [.int .i64 n422,.int .i64 n423,.int .i64 n424,.int .i64 n425] fun H428 =>
hfad 0 p426 fun p429 =>
ldI .i64 H428 p429 fun n430 =>
bif (n430 == 0) then (hfrz H428 p426 fun H431 =>
hfad 1 p426 fun p432 =>
ldI .i64 H431 p432 fun n433 =>
hfad 2 p426 fun p434 =>
ldI .i64 H431 p434 fun n435 =>
hfad 3 p426 fun p436 =>
ldI .i64 H431 p436 fun n437 =>
tagtree_Tree_Set p412 n433 n435 n437 H431 fun n438 H439 =>
hfad 1 p426 fun p440 =>
bif isRo H431 p440 then (ldI .i64 H431 p440 fun n441 =>
hfad 2 p426 fun p442 =>
bif isRo H431 p442 then (ldI .i64 H431 p442 fun n443 =>
hfad 3 p426 fun p444 =>
bif isRo H431 p444 then (ldI .i64 H431 p444 fun n445 =>
R10_Tree_Set p413 n441 n443 n445 H439 fun n446 H447 =>
bif (n438 != n446) then (KR false H447)
 else (KN p412 p413 p414 p415 q416 l417 c418 n419 n420 H447))
 else none)
 else none)
 else none)
 else (bif (n430 == 2) then (hfad 1 p426 fun p448 =>
ldI .i64 H428 p448 fun n449 =>
hfad 2 p426 fun p450 =>
ldI .i64 H428 p450 fun n451 =>
tagtree_Tree_Value p412 n449 n451 H428 fun n452 t453 H454 =>
hfad 1 p426 fun p455 =>
ldI .i64 H454 p455 fun n456 =>
hfad 2 p426 fun p457 =>
ldI .i64 H454 p457 fun n458 =>
R10_Tree_Value p413 n456 n458 H454 fun n459 t460 =>
bif (n452 != n459) then (KR false H454)
 else (bif !(t453 == t460) then (KR false H454)
 else (KN p412 p413 p414 p415 q416 l417 c418 n419 n420 H454)))
 else (bif (n430 == 3) then (hfad 1 p426 fun p461 =>
ldI .i64 H428 p461 fun n462 =>
hfad 2 p426 fun p463 =>
ldI .i64 H428 p463 fun n464 =>
hfad 3 p426 fun p465 =>
ldI .i64 H428 p465 fun n466 =>
tagtree_Tree_Decode p412 p414 n462 n464 n466 H428 fun t467 n468 H469 =>
hfad 1 p426 fun p470 =>
ldI .i64 H469 p470 fun n471 =>
hfad 2 p426 fun p472 =>
ldI .i64 H469 p472 fun n473 =>
hfad 3 p426 fun p474 =>
ldI .i64 H469 p474 fun n475 =>
R10_Tree_Decode p413 p415 n471 n473 n475 H469 fun t476 n477 H478 =>
bif !(t467 == t476) then (KR false H478)
 else (bif (n468 != n477) then (KR false H478)
 else (KN p412 p413 p414 p415 q416 l417 c418 n419 n420 H478)))
 else (KN p412 p413 p414 p415 q416 l417 c418 n419 n420 H428)))
def L_TagtreeReads_p2 {R : Type} (k : Nat) (p412 : Oa) (p413 : Oa) (p414 : Oa) (p415 : Oa) (q416 : Oa) (l417 : Nat) (c418 : Nat) (n419 : Int) (n420 : Int) (H : Heap) (KN : Oa → Oa → Oa → Oa → Oa → Nat → Nat → Int → Int → Heap → Option R) (KR : Bool → Heap → Option R) : Option R := L_TagtreeReads_p2_b (tagtree_Tree_Set k) (R10_Tree_Set k) (tagtree_Tree_Value k) (R10_Tree_Value k) (tagtree_Tree_Decode k) (R10_Tree_Decode k) k p412 p413 p414 p415 q416 l417 c418 n419 n420 H KN KR

abbrev L_TagtreeReads_l1_t (R : Type) : Type := (Heap → Option R) → (Bool → Heap → Option R) → Nat → Oa → Oa → Oa → Oa → Oa → Nat → Nat → Int → Int → Heap → Option R
def L_TagtreeReads_l1_b {R : Type} (L_TagtreeReads_p2 : L_TagtreeReads_p2_t R) (rec : Oa → Oa → Oa → Oa → Oa → Nat → Nat → Int → Int → Heap → Option R) (KE0 : Heap → Option R) (KR : Bool → Heap → Option R) (k : Nat) (p403 : Oa) (p404 : Oa) (p405 : Oa) (p406 : Oa) (q407 : Oa) (l408 : Nat) (c409 : Nat) (n410 : Int) (n411 : Int) (H : Heap) : Option R :=
bif decide (n411 < n410) then (L_TagtreeReads_p2 p403 p404 p405 p406 q407 l408 c409 n410 n411 H (fun p489 p490 p491 p492 q493 l494 c495 n496 n497 H498 =>
rec p489 p490 p491 p492 q493 l494 c495 n496 (IntKind.wrap .i64 (n497 + 1)) H498) (fun t499 H500 =>
KR t499 H500))
 else (KE0 H)
def L_TagtreeReads_l1 {R : Type} (k : Nat) (KE0 : Heap → Option R) (KR : Bool → Heap → Option R) : Nat → Oa → Oa → Oa → Oa → Oa → Nat → Nat → Int → Int → Heap → Option R
  | 0,_,_,_,_,_,_,_,_,_,_ => none
  | n + 1,p403,p404,p405,p406,q407,l408,c409,n410,n411,H => L_TagtreeReads_l1_b (L_TagtreeReads_p2 k) (L_TagtreeReads_l1 k KE0 KR n) KE0 KR k p403 p404 p405 p406 q407 l408 c409 n410 n411 H

abbrev L_TagtreeReads_t (R : Type) : Type := Int → Int → Oa → Nat → Nat → Oa → Nat → Nat → Heap → (Bool → Heap → Option R) → Option R

def L_TagtreeReads_b {R : Type} (L_TagtreeReads_p0 : L_TagtreeReads_p0_t R) (L_exampleHoldsq : L_exampleHoldsq_t R) (tagtree_New : tagtree_New_t R) (R10_New : R10_New_t R) (bitio_NewReader : bitio_NewReader_t R) (R09_NewReader : R09_NewReader_t R) (L_TagtreeReads_l1 : L_TagtreeReads_l1_t R) (k : Nat) (n342 : Int) (n343 : Int) (q344 : Oa) (l345 : Nat) (c346 : Nat) (q347 : Oa) (l348 : Nat) (c349 : Nat) (H : Heap) (K : Bool → Heap → Option R) : Option R :=
hal H [.int .i64 n342,.int .i64 n343,.slice q344 l345 c346,.slice q347 l348 c349] fun p350 H351 =>
L_TagtreeReads_p0 p350 H351 (fun p369 t370 H371 =>
bif t370 then (L_exampleHoldsq fun t372 =>
K t372 H371)
 else (hfad 0 p369 fun p373 =>
ldI .i64 H371 p373 fun n374 =>
hfad 1 p369 fun p375 =>
ldI .i64 H371 p375 fun n376 =>
tagtree_New n374 n376 H371 fun p377 n378 H379 =>
hfad 0 p369 fun p380 =>
ldI .i64 H379 p380 fun n381 =>
hfad 1 p369 fun p382 =>
ldI .i64 H379 p382 fun n383 =>
R10_New n381 n383 H379 fun p384 n385 H386 =>
bif (n378 != n385) then (K false H386)
 else (hfad 2 p369 fun p387 =>
ldL H386 p387 fun q388 l389 c390 =>
bitio_NewReader q388 l389 c390 (roH H386) fun p391 H392 =>
hfad 2 p369 fun p393 =>
ldL (H386 ++ H392.drop H386.length) p393 fun q394 l395 c396 =>
R09_NewReader q394 l395 c396 (H386 ++ H392.drop H386.length) fun p397 H398 =>
hfad 3 p369 fun p399 =>
ldL H398 p399 fun q400 l401 c402 =>
L_TagtreeReads_l1 (fun H502 =>
L_exampleHoldsq fun t503 =>
K t503 H502) (fun t504 H505 =>
K t504 H505) k p377 p384 p391 p397 q400 l401 c402 ((l401 : Nat) : Int) 0 H398)))

def L_TagtreeReads {R : Type} (k : Nat) (n342 : Int) (n343 : Int) (q344 : Oa) (l345 : Nat) (c346 : Nat) (q347 : Oa) (l348 : Nat) (c349 : Nat) (H : Heap) (K : Bool → Heap → Option R) : Option R := L_TagtreeReads_b (L_TagtreeReads_p0 k) L_exampleHoldsq (tagtree_New k) (R10_New k) bitio_NewReader R09_NewReader (L_TagtreeReads_l1 k) k n342 n343 q344 l345 c346 q347 l348 c349 H K

def L_TagtreeReads_Ct {R : Type} (L_small : L_small_t R) (L_exampleHoldsq : L_exampleHoldsq_t R) (tagtree_New : tagtree_New_t R) (R10_New : R10_New_t R) (bitio_NewReader : bitio_NewReader_t R) (R09_NewReader : R09_NewReader_t R) (tagtree_Tree_Set : tagtree_Tree_Set_t R) (R10_Tree_Set : R10_Tree_Set_t R) (tagtree_Tree_Value : tagtree_Tree_Value_t R) (R10_Tree_Value : R10_Tree_Value_t R) (tagtree_Tree_Decode : tagtree_Tree_Decode_t R) (R10_Tree_Decode : R10_Tree_Decode_t R) : Tab R := tcons 16 (L_small_ca L_small) <| tcons 15 (L_exampleHoldsq_ca L_exampleHoldsq) <| tcons 11 (tagtree_New_ca tagtree_New) <| tcons 12 (R10_New_ca R10_New) <| tcons 30 (bitio_NewReader_ca bitio_NewReader) <| tcons 31 (R09_NewReader_ca R09_NewReader) <| tcons 19 (tagtree_Tree_Set_ca tagtree_Tree_Set) <| tcons 20 (R10_Tree_Set_ca R10_Tree_Set) <| tcons 25 (tagtree_Tree_Value_ca tagtree_Tree_Value) <| tcons 26 (R10_Tree_Value_ca R10_Tree_Value) <| tcons 32 (tagtree_Tree_Decode_ca tagtree_Tree_Decode) <| tcons 33 (R10_Tree_Decode_ca R10_Tree_Decode) <| fun _ _ _ _ => none
def L_TagtreeReads_C (R : Type) (k : Nat) : Tab R := L_TagtreeReads_Ct (L_small k) L_exampleHoldsq (tagtree_New k) (R10_New k) bitio_NewReader R09_NewReader (tagtree_Tree_Set k) (R10_Tree_Set k) (tagtree_Tree_Value k) (R10_Tree_Value k) (tagtree_Tree_Decode k) (R10_Tree_Decode k)
theorem L_TagtreeReads_S (R : Type) (k : Nat) : CSound Try.prog (L_TagtreeReads_C R k) := csound_cons (L_small_cs R k) <| csound_cons (L_exampleHoldsq_cs R k) <| csound_cons (tagtree_New_cs R k) <| csound_cons (R10_New_cs R k) <| csound_cons (bitio_NewReader_cs R k) <| csound_cons (R09_NewReader_cs R k) <| csound_cons (tagtree_Tree_Set_cs R k) <| csound_cons (R10_Tree_Set_cs R k) <| csound_cons (tagtree_Tree_Value_cs R k) <| csound_cons (R10_Tree_Value_cs R k) <| csound_cons (tagtree_Tree_Decode_cs R k) <| csound_cons (R10_Tree_Decode_cs R k) <| csound_nil
def L_TagtreeReads_aa0 {R : Type} (f : L_TagtreeReads_p0_t R) (n : Nat) (vals : List Value) (H : Heap) (K : Xit → Env → Heap → Option R) : Option R :=
  match vals with
  | [.pointer p352] => f p352 H (fun p1887 t1888 H => K .normal [(1,.pointer p1887),(32,.bool t1888)] H)
  | _ => none
def L_TagtreeReads_a0 (R : Type) (k n : Nat) (vals : List Value) (H : Heap) (K : Xit → Env → Heap → Option R) : Option R := L_TagtreeReads_aa0 (L_TagtreeReads_p0 k) n vals H K
def L_TagtreeReads_aa1 {R : Type} (f : L_TagtreeReads_l1_t R) (n : Nat) (vals : List Value) (H : Heap) (K : Xit → Env → Heap → Option R) : Option R :=
  match vals with
  | [.pointer p403,.pointer p404,.pointer p405,.pointer p406,.slice q407 l408 c409,.int .i64 n410,.int .i64 n411] => f (fun H => K (.exit 0) [] H) (fun t1889 H => K .ret [(2,.bool t1889)] H) n p403 p404 p405 p406 q407 l408 c409 n410 n411 H
  | _ => none
def L_TagtreeReads_a1 (R : Type) (k n : Nat) (vals : List Value) (H : Heap) (K : Xit → Env → Heap → Option R) : Option R := L_TagtreeReads_aa1 (L_TagtreeReads_l1 k) n vals H K
def L_TagtreeReads_aa2 {R : Type} (f : L_TagtreeReads_p2_t R) (n : Nat) (vals : List Value) (H : Heap) (K : Xit → Env → Heap → Option R) : Option R :=
  match vals with
  | [.pointer p412,.pointer p413,.pointer p414,.pointer p415,.slice q416 l417 c418,.int .i64 n419,.int .i64 n420] => f p412 p413 p414 p415 q416 l417 c418 n419 n420 H (fun p1890 p1891 p1892 p1893 q1894 l1895 c1896 n1897 n1898 H => K .normal [(3,.pointer p1890),(5,.pointer p1891),(7,.pointer p1892),(8,.pointer p1893),(60,.slice q1894 l1895 c1896),(61,.int .i64 n1897),(62,.int .i64 n1898)] H) (fun t1899 H => K .ret [(2,.bool t1899)] H)
  | _ => none
def L_TagtreeReads_a2 (R : Type) (k n : Nat) (vals : List Value) (H : Heap) (K : Xit → Env → Heap → Option R) : Option R := L_TagtreeReads_aa2 (L_TagtreeReads_p2 k) n vals H K
def L_TagtreeReads_Jt {R : Type} (k : Nat) (L_TagtreeReads_p0 : L_TagtreeReads_p0_t R) (L_TagtreeReads_l1 : L_TagtreeReads_l1_t R) (L_TagtreeReads_p2 : L_TagtreeReads_p2_t R) : JTab R := tcons 0 (L_TagtreeReads_aa0 L_TagtreeReads_p0 k) <| tcons 1 (L_TagtreeReads_aa1 L_TagtreeReads_l1 k) <| tcons 2 (L_TagtreeReads_aa2 L_TagtreeReads_p2 k) <| fun _ _ _ _ => none
def L_TagtreeReads_J (R : Type) (k : Nat) : JTab R := L_TagtreeReads_Jt k (L_TagtreeReads_p0 k) (L_TagtreeReads_l1 k) (L_TagtreeReads_p2 k)
def L_TagtreeReads_at : AT := (.seq (.reg [1] []) (.seq (.seq (.opq 0 [1] ⟨[1,32],[],[]⟩ (.reg [1,32] [])) (.cond (.seq (.reg [2] []) .leaf) .leaf)) (.seq (.reg [1,3,4] []) (.seq (.reg [1,3,4,5,6] []) (.seq (.seq (.reg [1,3,5,52] []) (.cond (.seq (.reg [2] []) .leaf) .leaf)) (.seq (.reg [1,3,5,7,8] [[],[0],[0,1],[],[3],[0,1,2,3,4],[0,1,2,3,4,5],[0,1,2,3,4,5,6]]) (.seq (.seq (.reg [3,5,7,8,60,61,62] []) (.node (.opq 1 [3,5,7,8,60,61,62] ⟨[],[(0,[])],[2]⟩ (.node (.seq (.reg [3,5,7,8,60,61,62,63] []) (.seq (.cond .leaf .leaf) (.seq (.opq 2 [3,5,7,8,60,61,62] ⟨[3,5,7,8,60,61,62],[],[2]⟩ (.node (.seq (.reg [3,5,7,8,10,60,61,62] []) (.seq (.reg [3,5,7,8,10,60,61,62,67] []) (.node (.seq (.reg [3,5,7,8,10,60,61,62,67,68] []) (.cond (.seq (.frz 10 (.reg [3,5,7,8,60,61,62,86] [[],[],[1],[],[3],[],[5],[0,1,2,3,4,5,6],[],[],[9],[],[11],[],[13],[0,1,2,3,4,5,6,7,8,9,10,11,12,13,14],[0,1,2,3,4,5,6,7,8,9,10,11,12,13,14,15]])) (.cond (.seq (.reg [2] []) .leaf) .leaf)) (.seq (.reg [3,5,7,8,10,60,61,62,67,87] []) (.cond (.seq (.reg [3,5,7,8,10,11,12,60,61,62] []) (.seq (.reg [3,5,7,8,11,12,13,14,60,61,62] []) (.seq (.reg [3,5,7,8,60,61,62,114] []) (.cond (.seq (.reg [2] []) .leaf) .leaf)))) (.seq (.reg [3,5,7,8,10,60,61,62,115] []) (.cond (.seq (.reg [3,5,7,8,10,15,16,60,61,62] []) (.seq (.reg [3,5,7,8,15,16,17,18,60,61,62] []) (.seq (.reg [3,5,7,8,60,61,62,148] []) (.cond (.seq (.reg [2] []) .leaf) .leaf)))) .leaf))))))))))) (.reg [3,5,7,8,60,61,62] [])))))))) (.seq (.reg [2] []) .leaf))))))))
def L_TagtreeReads_i2 : IC := (.block 1 (.seq (.reg [⟨some 64,.ids 4 (.t 60) (.t 62),none⟩,
⟨some 65,.ld (.agg [(.int .i64),(.int .i64),(.int .i64),(.int .i64)]) (.t 64),none⟩,
⟨some 10,.alc [.int .i64 0,.int .i64 0,.int .i64 0,.int .i64 0],none⟩,
⟨none,.st 4 (.t 10) (.t 65),none⟩] [3,5,7,8,10,60,61,62]) (.seq (.reg [⟨some 66,.fad 0 (.t 10),none⟩,
⟨some 67,.ld (.sc (.int .i64)) (.t 66),none⟩] [3,5,7,8,10,60,61,62,67]) (.block 2 (.seq (.reg [⟨some 69,.cmp .eql (.t 67) (.c (Go.Value.int Go.IntKind.i64 0)),none⟩,
⟨some 68,.mov (.t 69),none⟩] [3,5,7,8,10,60,61,62,67,68]) (.cond (.t 68) (.seq (.frz 10 (.reg [⟨some 70,.mov (.t 3),none⟩,
⟨some 71,.fad 1 (.t 10),none⟩,
⟨some 72,.ld (.sc (.int .i64)) (.t 71),none⟩,
⟨some 73,.fad 2 (.t 10),none⟩,
⟨some 74,.ld (.sc (.int .i64)) (.t 73),none⟩,
⟨some 75,.fad 3 (.t 10),none⟩,
⟨some 76,.ld (.sc (.int .i64)) (.t 75),none⟩,
⟨some 77,.call 19 [(.t 70),(.t 72),(.t 74),(.t 76)] (.one (.sc (.int .i64))),none⟩,
⟨some 78,.mov (.t 5),none⟩,
⟨some 79,.fad 1 (.t 10),none⟩,
⟨some 80,.ldr (.sc (.int .i64)) (.t 79),none⟩,
⟨some 81,.fad 2 (.t 10),none⟩,
⟨some 82,.ldr (.sc (.int .i64)) (.t 81),none⟩,
⟨some 83,.fad 3 (.t 10),none⟩,
⟨some 84,.ldr (.sc (.int .i64)) (.t 83),none⟩,
⟨some 85,.call 20 [(.t 78),(.t 80),(.t 82),(.t 84)] (.one (.sc (.int .i64))),none⟩,
⟨some 86,.cmp .neq (.t 77) (.t 85),none⟩] [3,5,7,8,60,61,62,86])) (.cond (.t 86) (.seq (.reg [⟨some 2,.mov (.c (Go.Value.bool false)),none⟩] [2]) .ret) .skip)) (.seq (.reg [⟨some 88,.cmp .eql (.t 67) (.c (Go.Value.int Go.IntKind.i64 2)),none⟩,
⟨some 87,.mov (.t 88),none⟩] [3,5,7,8,10,60,61,62,67,87]) (.cond (.t 87) (.seq (.reg [⟨some 90,.mov (.t 3),none⟩,
⟨some 91,.fad 1 (.t 10),none⟩,
⟨some 92,.ld (.sc (.int .i64)) (.t 91),none⟩,
⟨some 93,.fad 2 (.t 10),none⟩,
⟨some 94,.ld (.sc (.int .i64)) (.t 93),none⟩,
⟨some 95,.call 25 [(.t 90),(.t 92),(.t 94)] (.tup [(.sc (.int .i64)),(.sc .bool)]),none⟩,
⟨some 89,.mov (.t 95),none⟩,
⟨some 96,.ext 0 (.t 89),none⟩,
⟨some 97,.ext 1 (.t 89),none⟩,
⟨some 11,.mov (.t 96),none⟩,
⟨some 12,.mov (.t 97),none⟩] [3,5,7,8,10,11,12,60,61,62]) (.seq (.reg [⟨some 99,.mov (.t 5),none⟩,
⟨some 100,.fad 1 (.t 10),none⟩,
⟨some 101,.ld (.sc (.int .i64)) (.t 100),none⟩,
⟨some 102,.fad 2 (.t 10),none⟩,
⟨some 103,.ld (.sc (.int .i64)) (.t 102),none⟩,
⟨some 104,.call 26 [(.t 99),(.t 101),(.t 103)] (.tup [(.sc (.int .i64)),(.sc .bool)]),none⟩,
⟨some 98,.mov (.t 104),none⟩,
⟨some 105,.ext 0 (.t 98),none⟩,
⟨some 106,.ext 1 (.t 98),none⟩,
⟨some 13,.mov (.t 105),none⟩,
⟨some 14,.mov (.t 106),none⟩] [3,5,7,8,11,12,13,14,60,61,62]) (.seq (.reg [⟨some 107,.mov (.t 11),none⟩,
⟨some 108,.mov (.t 13),none⟩,
⟨some 109,.cmp .neq (.t 107) (.t 108),none⟩,
⟨some 110,.mov (.t 109),none⟩,
⟨some 111,.mov (.t 12),some (110,false)⟩,
⟨some 112,.mov (.t 14),some (110,false)⟩,
⟨some 113,.eqb (.t 111) (.t 112) true,some (110,false)⟩,
⟨some 114,.pick (.t 110) (.c (Go.Value.bool true)) (.t 113),none⟩] [3,5,7,8,60,61,62,114]) (.cond (.t 114) (.seq (.reg [⟨some 2,.mov (.c (Go.Value.bool false)),none⟩] [2]) .ret) .skip)))) (.seq (.reg [⟨some 116,.cmp .eql (.t 67) (.c (Go.Value.int Go.IntKind.i64 3)),none⟩,
⟨some 115,.mov (.t 116),none⟩] [3,5,7,8,10,60,61,62,115]) (.cond (.t 115) (.seq (.reg [⟨some 118,.mov (.t 3),none⟩,
⟨some 119,.mov (.t 7),none⟩,
⟨some 120,.fad 1 (.t 10),none⟩,
⟨some 121,.ld (.sc (.int .i64)) (.t 120),none⟩,
⟨some 122,.fad 2 (.t 10),none⟩,
⟨some 123,.ld (.sc (.int .i64)) (.t 122),none⟩,
⟨some 124,.fad 3 (.t 10),none⟩,
⟨some 125,.ld (.sc (.int .i64)) (.t 124),none⟩,
⟨some 126,.call 32 [(.t 118),(.t 119),(.t 121),(.t 123),(.t 125)] (.tup [(.sc .bool),(.sc (.int .i64))]),none⟩,
⟨some 117,.mov (.t 126),none⟩,
⟨some 127,.ext 0 (.t 117),none⟩,
⟨some 128,.ext 1 (.t 117),none⟩,
⟨some 15,.mov (.t 127),none⟩,
⟨some 16,.mov (.t 128),none⟩] [3,5,7,8,10,15,16,60,61,62]) (.seq (.reg [⟨some 130,.mov (.t 5),none⟩,
⟨some 131,.mov (.t 8),none⟩,
⟨some 132,.fad 1 (.t 10),none⟩,
⟨some 133,.ld (.sc (.int .i64)) (.t 132),none⟩,
⟨some 134,.fad 2 (.t 10),none⟩,
⟨some 135,.ld (.sc (.int .i64)) (.t 134),none⟩,
⟨some 136,.fad 3 (.t 10),none⟩,
⟨some 137,.ld (.sc (.int .i64)) (.t 136),none⟩,
⟨some 138,.call 33 [(.t 130),(.t 131),(.t 133),(.t 135),(.t 137)] (.tup [(.sc .bool),(.sc (.int .i64))]),none⟩,
⟨some 129,.mov (.t 138),none⟩,
⟨some 139,.ext 0 (.t 129),none⟩,
⟨some 140,.ext 1 (.t 129),none⟩,
⟨some 17,.mov (.t 139),none⟩,
⟨some 18,.mov (.t 140),none⟩] [3,5,7,8,15,16,17,18,60,61,62]) (.seq (.reg [⟨some 141,.mov (.t 15),none⟩,
⟨some 142,.mov (.t 17),none⟩,
⟨some 143,.eqb (.t 141) (.t 142) true,none⟩,
⟨some 144,.mov (.t 143),none⟩,
⟨some 145,.mov (.t 16),some (144,false)⟩,
⟨some 146,.mov (.t 18),some (144,false)⟩,
⟨some 147,.cmp .neq (.t 145) (.t 146),some (144,false)⟩,
⟨some 148,.pick (.t 144) (.c (Go.Value.bool true)) (.t 147),none⟩] [3,5,7,8,60,61,62,148]) (.cond (.t 148) (.seq (.reg [⟨some 2,.mov (.c (Go.Value.bool false)),none⟩] [2]) .ret) .skip)))) .skip))))))))))
def L_TagtreeReads_i1 : IC := (.seq (.reg [⟨some 63,.cmp .lss (.t 62) (.t 61),none⟩] [3,5,7,8,60,61,62,63]) (.seq (.cond (.t 63) .skip (.exit 0)) (.seq (.opq 2 [3,5,7,8,60,61,62] L_TagtreeReads_i2) (.reg [⟨some 149,.bin .add .i64 (.t 62) (.c (Go.Value.int Go.IntKind.i64 1)),none⟩,
⟨some 62,.mov (.t 149),none⟩] [3,5,7,8,60,61,62]))))
def L_TagtreeReads_i0 : IC := (.reg [⟨some 19,.fad 0 (.t 1),none⟩,
⟨some 20,.ld (.sc (.int .i64)) (.t 19),none⟩,
⟨some 21,.fad 1 (.t 1),none⟩,
⟨some 22,.ld (.sc (.int .i64)) (.t 21),none⟩,
⟨some 23,.fad 3 (.t 1),none⟩,
⟨some 24,.ld (.sc .slc) (.t 23),none⟩,
⟨some 25,.call 16 [(.t 20),(.t 22),(.t 24)] (.one (.sc .bool)),none⟩,
⟨some 26,.lnot (.t 25),none⟩,
⟨some 27,.mov (.t 26),none⟩,
⟨some 28,.fad 2 (.t 1),some (27,false)⟩,
⟨some 29,.ld (.sc .slc) (.t 28),some (27,false)⟩,
⟨some 30,.len false (.t 29),some (27,false)⟩,
⟨some 31,.cmp .gtr (.t 30) (.c (Go.Value.int Go.IntKind.i64 300)),some (27,false)⟩,
⟨some 32,.pick (.t 27) (.c (Go.Value.bool true)) (.t 31),none⟩] [1,32])
def L_TagtreeReads_f : IFn := ⟨151,[.t 2],(.seq (.reg [⟨some 1,.box (.t 0),none⟩,
⟨some 2,.mov (.c (Go.Value.bool false)),none⟩] [1]) (.seq (.seq (.opq 0 [1] L_TagtreeReads_i0) (.cond (.t 32) (.seq (.reg [⟨some 33,.call 15 [] (.one (.sc .bool)),none⟩,
⟨some 2,.mov (.t 33),none⟩] [2]) .ret) .skip)) (.seq (.reg [⟨some 35,.fad 0 (.t 1),none⟩,
⟨some 36,.ld (.sc (.int .i64)) (.t 35),none⟩,
⟨some 37,.fad 1 (.t 1),none⟩,
⟨some 38,.ld (.sc (.int .i64)) (.t 37),none⟩,
⟨some 39,.call 11 [(.t 36),(.t 38)] (.tup [(.sc .ptr),(.sc (.int .i64))]),none⟩,
⟨some 34,.mov (.t 39),none⟩,
⟨some 40,.ext 0 (.t 34),none⟩,
⟨some 41,.ext 1 (.t 34),none⟩,
⟨some 3,.mov (.t 40),none⟩,
⟨some 4,.mov (.t 41),none⟩] [1,3,4]) (.seq (.reg [⟨some 43,.fad 0 (.t 1),none⟩,
⟨some 44,.ld (.sc (.int .i64)) (.t 43),none⟩,
⟨some 45,.fad 1 (.t 1),none⟩,
⟨some 46,.ld (.sc (.int .i64)) (.t 45),none⟩,
⟨some 47,.call 12 [(.t 44),(.t 46)] (.tup [(.sc .ptr),(.sc (.int .i64))]),none⟩,
⟨some 42,.mov (.t 47),none⟩,
⟨some 48,.ext 0 (.t 42),none⟩,
⟨some 49,.ext 1 (.t 42),none⟩,
⟨some 5,.mov (.t 48),none⟩,
⟨some 6,.mov (.t 49),none⟩] [1,3,4,5,6]) (.seq (.seq (.reg [⟨some 50,.mov (.t 4),none⟩,
⟨some 51,.mov (.t 6),none⟩,
⟨some 52,.cmp .neq (.t 50) (.t 51),none⟩] [1,3,5,52]) (.cond (.t 52) (.seq (.reg [⟨some 2,.mov (.c (Go.Value.bool false)),none⟩] [2]) .ret) .skip)) (.seq (.reg [⟨some 53,.fad 2 (.t 1),none⟩,
⟨some 54,.ld (.sc .slc) (.t 53),none⟩,
⟨some 55,.calf 30 [(.t 54)] [] (.one (.sc .ptr)),none⟩,
⟨some 56,.fad 2 (.t 1),none⟩,
⟨some 57,.ld (.sc .slc) (.t 56),none⟩,
⟨some 58,.call 31 [(.t 57)] (.one (.sc .ptr)),none⟩,
⟨some 7,.mov (.t 55),none⟩,
⟨some 8,.mov (.t 58),none⟩] [1,3,5,7,8]) (.seq (.seq (.reg [⟨some 59,.fad 3 (.t 1),none⟩,
⟨some 60,.ld (.sc .slc) (.t 59),none⟩,
⟨some 61,.len false (.t 60),none⟩,
⟨some 62,.mov (.c (Go.Value.int Go.IntKind.i64 0)),none⟩] [3,5,7,8,60,61,62]) (.block 0 (.opq 1 [3,5,7,8,60,61,62] (.loop L_TagtreeReads_i1)))) (.seq (.reg [⟨some 150,.call 15 [] (.one (.sc .bool)),none⟩,
⟨some 2,.mov (.t 150),none⟩] [2]) .ret))))))))⟩
theorem L_TagtreeReads_e2 {R : Type} (L_small : L_small_t R) (L_exampleHoldsq : L_exampleHoldsq_t R) (tagtree_New : tagtree_New_t R) (R10_New : R10_New_t R) (bitio_NewReader : bitio_NewReader_t R) (R09_NewReader : R09_NewReader_t R) (tagtree_Tree_Set : tagtree_Tree_Set_t R) (R10_Tree_Set : R10_Tree_Set_t R) (tagtree_Tree_Value : tagtree_Tree_Value_t R) (R10_Tree_Value : R10_Tree_Value_t R) (tagtree_Tree_Decode : tagtree_Tree_Decode_t R) (R10_Tree_Decode : R10_Tree_Decode_t R) (L_TagtreeReads_p0 : L_TagtreeReads_p0_t R) (L_TagtreeReads_l1 : L_TagtreeReads_l1_t R) (L_TagtreeReads_p2 : L_TagtreeReads_p2_t R) (k : Nat) (p412 : Oa) (p413 : Oa) (p414 : Oa) (p415 : Oa) (q416 : Oa) (l417 : Nat) (c418 : Nat) (n419 : Int) (n420 : Int) (H : Heap) (K : Xit → Env → Heap → Option R) : evJ (L_TagtreeReads_Ct L_small L_exampleHoldsq tagtree_New R10_New bitio_NewReader R09_NewReader tagtree_Tree_Set R10_Tree_Set tagtree_Tree_Value R10_Tree_Value tagtree_Tree_Decode R10_Tree_Decode) (L_TagtreeReads_Jt k L_TagtreeReads_p0 L_TagtreeReads_l1 L_TagtreeReads_p2) L_TagtreeReads_i2 (List.zip [3,5,7,8,60,61,62] [.pointer p412,.pointer p413,.pointer p414,.pointer p415,.slice q416 l417 c418,.int .i64 n419,.int .i64 n420]) H (fun x e' H' => K x (clean e' ((⟨[3,5,7,8,60,61,62],[],[2]⟩ : Out).of x)) H') = L_TagtreeReads_p2_b tagtree_Tree_Set R10_Tree_Set tagtree_Tree_Value R10_Tree_Value tagtree_Tree_Decode R10_Tree_Decode k p412 p413 p414 p415 q416 l417 c418 n419 n420 H (fun p1890 p1891 p1892 p1893 q1894 l1895 c1896 n1897 n1898 H => K .normal [(3,.pointer p1890),(5,.pointer p1891),(7,.pointer p1892),(8,.pointer p1893),(60,.slice q1894 l1895 c1896),(61,.int .i64 n1897),(62,.int .i64 n1898)] H) (fun t1899 H => K .ret [(2,.bool t1899)] H) := by kernel_rfl
theorem L_TagtreeReads_j2 {R : Type} (k : Nat) : JS Try.prog 151 (L_TagtreeReads_a2 R k k) [3,5,7,8,60,61,62] ⟨[3,5,7,8,60,61,62],[],[2]⟩ (sel [1,1,1,1,1,1,0,1,0,0,1,1,0] (Try.f6.body.getD .skip)) :=
  piece_ok (nt := 151) (c := (sel [1,1,1,1,1,1,0,1,0,0,1,1,0] (Try.f6.body.getD .skip))) (C := L_TagtreeReads_C R k) (an := An) (t := (.node (.seq (.reg [3,5,7,8,10,60,61,62] []) (.seq (.reg [3,5,7,8,10,60,61,62,67] []) (.node (.seq (.reg [3,5,7,8,10,60,61,62,67,68] []) (.cond (.seq (.frz 10 (.reg [3,5,7,8,60,61,62,86] [[],[],[1],[],[3],[],[5],[0,1,2,3,4,5,6],[],[],[9],[],[11],[],[13],[0,1,2,3,4,5,6,7,8,9,10,11,12,13,14],[0,1,2,3,4,5,6,7,8,9,10,11,12,13,14,15]])) (.cond (.seq (.reg [2] []) .leaf) .leaf)) (.seq (.reg [3,5,7,8,10,60,61,62,67,87] []) (.cond (.seq (.reg [3,5,7,8,10,11,12,60,61,62] []) (.seq (.reg [3,5,7,8,11,12,13,14,60,61,62] []) (.seq (.reg [3,5,7,8,60,61,62,114] []) (.cond (.seq (.reg [2] []) .leaf) .leaf)))) (.seq (.reg [3,5,7,8,10,60,61,62,115] []) (.cond (.seq (.reg [3,5,7,8,10,15,16,60,61,62] []) (.seq (.reg [3,5,7,8,15,16,17,18,60,61,62] []) (.seq (.reg [3,5,7,8,60,61,62,148] []) (.cond (.seq (.reg [2] []) .leaf) .leaf)))) .leaf))))))))))) (ic := L_TagtreeReads_i2) (L_TagtreeReads_S R k) (L_TagtreeReads_J R k) (by kernel_rfl) (And.intro True.intro (And.intro True.intro (And.intro True.intro (And.intro (And.intro True.intro (And.intro (And.intro True.intro True.intro) True.intro)) (And.intro True.intro (And.intro (And.intro True.intro (And.intro True.intro (And.intro True.intro (And.intro (And.intro True.intro True.intro) True.intro)))) (And.intro True.intro (And.intro (And.intro True.intro (And.intro True.intro (And.intro True.intro (And.intro (And.intro True.intro True.intro) True.intro)))) True.intro)))))))) (L_TagtreeReads_a2 R k k)
    (fun vals H K r h => by
      unfold L_TagtreeReads_a2 L_TagtreeReads_aa2 at h
      split at h <;> first | (cases h; done) | exact Eq.trans (L_TagtreeReads_e2 (L_small k) L_exampleHoldsq (tagtree_New k) (R10_New k) bitio_NewReader R09_NewReader (tagtree_Tree_Set k) (R10_Tree_Set k) (tagtree_Tree_Value k) (R10_Tree_Value k) (tagtree_Tree_Decode k) (R10_Tree_Decode k) (L_TagtreeReads_p0 k) (L_TagtreeReads_l1 k) (L_TagtreeReads_p2 k) k _ _ _ _ _ _ _ _ _ H K) h)
theorem L_TagtreeReads_e1 {R : Type} (L_small : L_small_t R) (L_exampleHoldsq : L_exampleHoldsq_t R) (tagtree_New : tagtree_New_t R) (R10_New : R10_New_t R) (bitio_NewReader : bitio_NewReader_t R) (R09_NewReader : R09_NewReader_t R) (tagtree_Tree_Set : tagtree_Tree_Set_t R) (R10_Tree_Set : R10_Tree_Set_t R) (tagtree_Tree_Value : tagtree_Tree_Value_t R) (R10_Tree_Value : R10_Tree_Value_t R) (tagtree_Tree_Decode : tagtree_Tree_Decode_t R) (R10_Tree_Decode : R10_Tree_Decode_t R) (L_TagtreeReads_p0 : L_TagtreeReads_p0_t R) (L_TagtreeReads_l1 : L_TagtreeReads_l1_t R) (L_TagtreeReads_p2 : L_TagtreeReads_p2_t R) (k n : Nat) (p403 : Oa) (p404 : Oa) (p405 : Oa) (p406 : Oa) (q407 : Oa) (l408 : Nat) (c409 : Nat) (n410 : Int) (n411 : Int) (H : Heap) (K : Xit → Env → Heap → Option R) : evJ (L_TagtreeReads_Ct L_small L_exampleHoldsq tagtree_New R10_New bitio_NewReader R09_NewReader tagtree_Tree_Set R10_Tree_Set tagtree_Tree_Value R10_Tree_Value tagtree_Tree_Decode R10_Tree_Decode) (L_TagtreeReads_Jt k L_TagtreeReads_p0 L_TagtreeReads_l1 L_TagtreeReads_p2) L_TagtreeReads_i1 (List.zip [3,5,7,8,60,61,62] [.pointer p403,.pointer p404,.pointer p405,.pointer p406,.slice q407 l408 c409,.int .i64 n410,.int .i64 n411]) H (fun x e' H' => match x with | .normal => L_TagtreeReads_aa1 L_TagtreeReads_l1 n ((clean e' [3,5,7,8,60,61,62]).map (·.2)) H' K | x => K x (clean e' ((⟨[],[(0,[])],[2]⟩ : Out).of x)) H') = L_TagtreeReads_l1_b L_TagtreeReads_p2 (L_TagtreeReads_l1 (fun H => K (.exit 0) [] H) (fun t1889 H => K .ret [(2,.bool t1889)] H) n) (fun H => K (.exit 0) [] H) (fun t1889 H => K .ret [(2,.bool t1889)] H) k p403 p404 p405 p406 q407 l408 c409 n410 n411 H := by kernel_rfl
theorem L_TagtreeReads_j1 {R : Type} (k : Nat) : JS Try.prog 151 (L_TagtreeReads_a1 R k k) [3,5,7,8,60,61,62] ⟨[],[(0,[])],[2]⟩ (.loop (sel [1,1,1,1,1,1,0,1,0,0] (Try.f6.body.getD .skip))) :=
  loop_ok (nt := 151) (c := (sel [1,1,1,1,1,1,0,1,0,0] (Try.f6.body.getD .skip))) (C := L_TagtreeReads_C R k) (an := An) (t := (.seq (.reg [3,5,7,8,60,61,62,63] []) (.seq (.cond .leaf .leaf) (.seq (.opq 2 [3,5,7,8,60,61,62] ⟨[3,5,7,8,60,61,62],[],[2]⟩ (.node (.seq (.reg [3,5,7,8,10,60,61,62] []) (.seq (.reg [3,5,7,8,10,60,61,62,67] []) (.node (.seq (.reg [3,5,7,8,10,60,61,62,67,68] []) (.cond (.seq (.frz 10 (.reg [3,5,7,8,60,61,62,86] [[],[],[1],[],[3],[],[5],[0,1,2,3,4,5,6],[],[],[9],[],[11],[],[13],[0,1,2,3,4,5,6,7,8,9,10,11,12,13,14],[0,1,2,3,4,5,6,7,8,9,10,11,12,13,14,15]])) (.cond (.seq (.reg [2] []) .leaf) .leaf)) (.seq (.reg [3,5,7,8,10,60,61,62,67,87] []) (.cond (.seq (.reg [3,5,7,8,10,11,12,60,61,62] []) (.seq (.reg [3,5,7,8,11,12,13,14,60,61,62] []) (.seq (.reg [3,5,7,8,60,61,62,114] []) (.cond (.seq (.reg [2] []) .leaf) .leaf)))) (.seq (.reg [3,5,7,8,10,60,61,62,115] []) (.cond (.seq (.reg [3,5,7,8,10,15,16,60,61,62] []) (.seq (.reg [3,5,7,8,15,16,17,18,60,61,62] []) (.seq (.reg [3,5,7,8,60,61,62,148] []) (.cond (.seq (.reg [2] []) .leaf) .leaf)))) .leaf))))))))))) (.reg [3,5,7,8,60,61,62] []))))) (ic := L_TagtreeReads_i1) (L_TagtreeReads_S R k) (L_TagtreeReads_J R k) (by kernel_rfl) (And.intro True.intro (And.intro (And.intro True.intro True.intro) (And.intro (L_TagtreeReads_j2 k) True.intro))) (L_TagtreeReads_a1 R k) (fun vals H K => by unfold L_TagtreeReads_a1 L_TagtreeReads_aa1; split <;> rfl)
    (fun n vals H K r h => by
      unfold L_TagtreeReads_a1 L_TagtreeReads_aa1 at h
      split at h <;> first | (cases h; done) | exact Eq.trans (L_TagtreeReads_e1 (L_small k) L_exampleHoldsq (tagtree_New k) (R10_New k) bitio_NewReader R09_NewReader (tagtree_Tree_Set k) (R10_Tree_Set k) (tagtree_Tree_Value k) (R10_Tree_Value k) (tagtree_Tree_Decode k) (R10_Tree_Decode k) (L_TagtreeReads_p0 k) (L_TagtreeReads_l1 k) (L_TagtreeReads_p2 k) k n _ _ _ _ _ _ _ _ _ H K) h) k
theorem L_TagtreeReads_e0 {R : Type} (L_small : L_small_t R) (L_exampleHoldsq : L_exampleHoldsq_t R) (tagtree_New : tagtree_New_t R) (R10_New : R10_New_t R) (bitio_NewReader : bitio_NewReader_t R) (R09_NewReader : R09_NewReader_t R) (tagtree_Tree_Set : tagtree_Tree_Set_t R) (R10_Tree_Set : R10_Tree_Set_t R) (tagtree_Tree_Value : tagtree_Tree_Value_t R) (R10_Tree_Value : R10_Tree_Value_t R) (tagtree_Tree_Decode : tagtree_Tree_Decode_t R) (R10_Tree_Decode : R10_Tree_Decode_t R) (L_TagtreeReads_p0 : L_TagtreeReads_p0_t R) (L_TagtreeReads_l1 : L_TagtreeReads_l1_t R) (L_TagtreeReads_p2 : L_TagtreeReads_p2_t R) (k : Nat) (p352 : Oa) (H : Heap) (K : Xit → Env → Heap → Option R) : evJ (L_TagtreeReads_Ct L_small L_exampleHoldsq tagtree_New R10_New bitio_NewReader R09_NewReader tagtree_Tree_Set R10_Tree_Set tagtree_Tree_Value R10_Tree_Value tagtree_Tree_Decode R10_Tree_Decode) (L_TagtreeReads_Jt k L_TagtreeReads_p0 L_TagtreeReads_l1 L_TagtreeReads_p2) L_TagtreeReads_i0 (List.zip [1] [.pointer p352]) H (fun x e' H' => K x (clean e' ((⟨[1,32],[],[]⟩ : Out).of x)) H') = L_TagtreeReads_p0_b L_small k p352 H (fun p1887 t1888 H => K .normal [(1,.pointer p1887),(32,.bool t1888)] H) := by kernel_rfl
theorem L_TagtreeReads_j0 {R : Type} (k : Nat) : JS Try.prog 151 (L_TagtreeReads_a0 R k k) [1] ⟨[1,32],[],[]⟩ (sel [1,0,0] (Try.f6.body.getD .skip)) :=
  piece_ok (nt := 151) (c := (sel [1,0,0] (Try.f6.body.getD .skip))) (C := L_TagtreeReads_C R k) (an := An) (t := (.reg [1,32] [])) (ic := L_TagtreeReads_i0) (L_TagtreeReads_S R k) (L_TagtreeReads_J R k) (by kernel_rfl) True.intro (L_TagtreeReads_a0 R k k)
    (fun vals H K r h => by
      unfold L_TagtreeReads_a0 L_TagtreeReads_aa0 at h
      split at h <;> first | (cases h; done) | exact Eq.trans (L_TagtreeReads_e0 (L_small k) L_exampleHoldsq (tagtree_New k) (R10_New k) bitio_NewReader R09_NewReader (tagtree_Tree_Set k) (R10_Tree_Set k) (tagtree_Tree_Value k) (R10_Tree_Value k) (tagtree_Tree_Decode k) (R10_Tree_Decode k) (L_TagtreeReads_p0 k) (L_TagtreeReads_l1 k) (L_TagtreeReads_p2 k) k _ H K) h)
def L_TagtreeReads_ca {R : Type} (f : L_TagtreeReads_t R) (args : List Value) (H : Heap) (K : Value → Heap → Option R) : Option R :=
  match args with
  | [.agg ⟨[.int .i64 n342,.int .i64 n343,.slice q344 l345 c346,.slice q347 l348 c349]⟩] => f n342 n343 q344 l345 c346 q347 l348 c349 H (fun t1900 H => K (.bool t1900) H)
  | _ => none
def L_TagtreeReads_c (R : Type) (k : Nat) (args : List Value) (H : Heap) (K : Value → Heap → Option R) : Option R := L_TagtreeReads_ca (L_TagtreeReads k) args H K
theorem L_TagtreeReads_e {R : Type} (L_small : L_small_t R) (L_exampleHoldsq : L_exampleHoldsq_t R) (tagtree_New : tagtree_New_t R) (R10_New : R10_New_t R) (bitio_NewReader : bitio_NewReader_t R) (R09_NewReader : R09_NewReader_t R) (tagtree_Tree_Set : tagtree_Tree_Set_t R) (R10_Tree_Set : R10_Tree_Set_t R) (tagtree_Tree_Value : tagtree_Tree_Value_t R) (R10_Tree_Value : R10_Tree_Value_t R) (tagtree_Tree_Decode : tagtree_Tree_Decode_t R) (R10_Tree_Decode : R10_Tree_Decode_t R) (L_TagtreeReads_p0 : L_TagtreeReads_p0_t R) (L_TagtreeReads_l1 : L_TagtreeReads_l1_t R) (L_TagtreeReads_p2 : L_TagtreeReads_p2_t R) (k : Nat) (n342 : Int) (n343 : Int) (q344 : Oa) (l345 : Nat) (c346 : Nat) (q347 : Oa) (l348 : Nat) (c349 : Nat) (H : Heap) (K : Value → Heap → Option R) : evF (L_TagtreeReads_Ct L_small L_exampleHoldsq tagtree_New R10_New bitio_NewReader R09_NewReader tagtree_Tree_Set R10_Tree_Set tagtree_Tree_Value R10_Tree_Value tagtree_Tree_Decode R10_Tree_Decode) (L_TagtreeReads_Jt k L_TagtreeReads_p0 L_TagtreeReads_l1 L_TagtreeReads_p2) L_TagtreeReads_f [.agg ⟨[.int .i64 n342,.int .i64 n343,.slice q344 l345 c346,.slice q347 l348 c349]⟩] H K = L_TagtreeReads_b L_TagtreeReads_p0 L_exampleHoldsq tagtree_New R10_New bitio_NewReader R09_NewReader L_TagtreeReads_l1 k n342 n343 q344 l345 c346 q347 l348 c349 H (fun t1900 H => K (.bool t1900) H) := by kernel_rfl
theorem L_TagtreeReads_cs (R : Type) (k : Nat) : ∀ args H K r,L_TagtreeReads_c R k args H K = some r → ∃ v H',Tri Try.prog 6 args H v H' ∧ K v H' = some r := by
  intro args H K r h
  unfold L_TagtreeReads_c L_TagtreeReads_ca at h
  split at h
  · exact evF_ok (C := L_TagtreeReads_C R k) (an := An) (t := L_TagtreeReads_at) (fn := Try.f6) (c := (Try.f6.body.getD .skip)) (ifn := L_TagtreeReads_f) (L_TagtreeReads_S R k) (L_TagtreeReads_J R k) Try.func6 (by kernel_rfl) (by kernel_rfl) (And.intro True.intro (And.intro (And.intro (L_TagtreeReads_j0 k) (And.intro (And.intro True.intro True.intro) True.intro)) (And.intro True.intro (And.intro True.intro (And.intro (And.intro True.intro (And.intro (And.intro True.intro True.intro) True.intro)) (And.intro True.intro (And.intro (And.intro True.intro (L_TagtreeReads_j1 k)) (And.intro True.intro True.intro)))))))) rfl (Eq.trans (L_TagtreeReads_e (L_small k) L_exampleHoldsq (tagtree_New k) (R10_New k) bitio_NewReader R09_NewReader (tagtree_Tree_Set k) (R10_Tree_Set k) (tagtree_Tree_Value k) (R10_Tree_Value k) (tagtree_Tree_Decode k) (R10_Tree_Decode k) (L_TagtreeReads_p0 k) (L_TagtreeReads_l1 k) (L_TagtreeReads_p2 k) k _ _ _ _ _ _ _ _ H K) h)
  · cases h
end Go.Proofs.Ytblkejnciinaeaa.Sh
