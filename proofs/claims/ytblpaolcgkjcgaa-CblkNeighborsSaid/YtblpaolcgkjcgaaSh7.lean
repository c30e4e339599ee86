/- Lean functions that stand for Go's, over an explicit heap, and the proofs that they do (written by this claim's program shallow.py). -/
import Derived.Test.YtblpaolcgkjcgaaSh6
set_option maxRecDepth 100000
set_option linter.unusedVariables false
set_option linter.unusedSimpArgs false
namespace Go.Proofs.Ytblpaolcgkjcgaa.Sh
open Go.Proofs.Ytblpaolcgkjcgaa.FW
/-! ### cblk_Block_Touched: function 34 -/
def cblk_Block_Touched_b {R : Type} (cblk_Block_at : Option Addr → Int → Int → Heap → (Option Addr → Option R) → Option R) (k : Nat) (p767 : Option Addr) (n768 : Int) (n769 : Int) (H : Heap) (K : Bool → Option R) : Option R :=
cblk_Block_at p767 n768 n769 H fun p770 =>
bif p770.isSome then (hnil p770 fun p771 =>
hfad 2 p771 fun p772 =>
ldB H p772 fun t773 =>
K t773)
 else (K false)

def cblk_Block_Touched {R : Type} (k : Nat) (p767 : Option Addr) (n768 : Int) (n769 : Int) (H : Heap) (K : Bool → Option R) : Option R := cblk_Block_Touched_b (cblk_Block_at k) k p767 n768 n769 H K

def cblk_Block_Touched_Ct {R : Type} (cblk_Block_at : Option Addr → Int → Int → Heap → (Option Addr → Option R) → Option R) : Tab R := tcons 46 (cblk_Block_at_ca cblk_Block_at) <| fun _ _ _ _ => none
def cblk_Block_Touched_C (R : Type) (k : Nat) : Tab R := cblk_Block_Touched_Ct (cblk_Block_at k)
theorem cblk_Block_Touched_S (R : Type) (k : Nat) : CSound Try.prog (cblk_Block_Touched_C R k) := csound_cons (cblk_Block_at_cs R k) <| csound_nil
def cblk_Block_Touched_Jt {R : Type} (k : Nat) : JTab R := fun _ _ _ _ => none
def cblk_Block_Touched_J (R : Type) (k : Nat) : JTab R := cblk_Block_Touched_Jt k
def cblk_Block_Touched_at : AT := (.seq (.reg [0, 1, 2] []) (.seq (.reg [7] []) (.seq (.reg [6] []) .leaf)))
def cblk_Block_Touched_f : IFn := ⟨20, [.t 6], (.seq (.reg [⟨some 6, .mov (.c (Go.Value.bool false)), none⟩] [0, 1, 2]) (.seq (.reg [⟨some 8, .mov (.t 0), none⟩,
 ⟨some 9, .mov (.t 1), none⟩,
 ⟨some 10, .mov (.t 2), none⟩,
 ⟨some 11, .call 46 [(.t 8), (.t 9), (.t 10)] (.one (.sc .ptr)), none⟩,
 ⟨some 7, .mov (.t 11), none⟩] [7]) (.seq (.reg [⟨some 12, .mov (.t 7), none⟩,
 ⟨some 13, .eqnil (.t 12) true 0, none⟩,
 ⟨some 14, .mov (.t 13), none⟩,
 ⟨some 15, .mov (.t 7), some (14, true)⟩,
 ⟨some 16, .nilc (.t 15), some (14, true)⟩,
 ⟨some 17, .fad 2 (.t 16), some (14, true)⟩,
 ⟨some 18, .ld (.sc .bool) (.t 17), some (14, true)⟩,
 ⟨some 19, .pick (.t 14) (.t 18) (.c (Go.Value.bool false)), none⟩,
 ⟨some 6, .mov (.t 19), none⟩] [6]) .ret)))⟩
def cblk_Block_Touched_ca {R : Type} (f : Option Addr → Int → Int → Heap → (Bool → Option R) → Option R) (args : List Value) (H : Heap) (K : Value → Heap → Option R) : Option R :=
  match args with
  | [.pointer p767, .int .i64 n768, .int .i64 n769] => f p767 n768 n769 H (fun t1480 => K (.bool t1480) H)
  | _ => none
def cblk_Block_Touched_c (R : Type) (k : Nat) (args : List Value) (H : Heap) (K : Value → Heap → Option R) : Option R := cblk_Block_Touched_ca (cblk_Block_Touched k) args H K
theorem cblk_Block_Touched_e {R : Type} (cblk_Block_at : Option Addr → Int → Int → Heap → (Option Addr → Option R) → Option R) (k : Nat) (p767 : Option Addr) (n768 : Int) (n769 : Int) (H : Heap) (K : Value → Heap → Option R) : evF (cblk_Block_Touched_Ct cblk_Block_at) (cblk_Block_Touched_Jt k) cblk_Block_Touched_f [.pointer p767, .int .i64 n768, .int .i64 n769] H K = cblk_Block_Touched_b cblk_Block_at k p767 n768 n769 H (fun t1480 => K (.bool t1480) H) := by kernel_rfl
theorem cblk_Block_Touched_cs (R : Type) (k : Nat) : ∀ args H K r, cblk_Block_Touched_c R k args H K = some r → ∃ v H', Tri Try.prog 34 args H v H' ∧ K v H' = some r := by
  intro args H K r h
  unfold cblk_Block_Touched_c cblk_Block_Touched_ca at h
  split at h
  · exact evF_ok (C := cblk_Block_Touched_C R k) (an := An) (t := cblk_Block_Touched_at) (fn := Try.f34) (c := (Try.f34.body.getD .skip)) (ifn := cblk_Block_Touched_f) (cblk_Block_Touched_S R k) (cblk_Block_Touched_J R k) Try.func34 (by kernel_rfl) (by kernel_rfl) (And.intro True.intro (And.intro True.intro (And.intro True.intro True.intro))) rfl (Eq.trans (cblk_Block_Touched_e (cblk_Block_at k) k _ _ _ H K) h)
  · cases h
/-! ### cblk_Block_Refined: function 35 -/
def cblk_Block_Refined_b {R : Type} (cblk_Block_at : Option Addr → Int → Int → Heap → (Option Addr → Option R) → Option R) (k : Nat) (p777 : Option Addr) (n778 : Int) (n779 : Int) (H : Heap) (K : Bool → Option R) : Option R :=
cblk_Block_at p777 n778 n779 H fun p780 =>
bif p780.isSome then (hnil p780 fun p781 =>
hfad 3 p781 fun p782 =>
ldB H p782 fun t783 =>
K t783)
 else (K false)

def cblk_Block_Refined {R : Type} (k : Nat) (p777 : Option Addr) (n778 : Int) (n779 : Int) (H : Heap) (K : Bool → Option R) : Option R := cblk_Block_Refined_b (cblk_Block_at k) k p777 n778 n779 H K

def cblk_Block_Refined_Ct {R : Type} (cblk_Block_at : Option Addr → Int → Int → Heap → (Option Addr → Option R) → Option R) : Tab R := tcons 46 (cblk_Block_at_ca cblk_Block_at) <| fun _ _ _ _ => none
def cblk_Block_Refined_C (R : Type) (k : Nat) : Tab R := cblk_Block_Refined_Ct (cblk_Block_at k)
theorem cblk_Block_Refined_S (R : Type) (k : Nat) : CSound Try.prog (cblk_Block_Refined_C R k) := csound_cons (cblk_Block_at_cs R k) <| csound_nil
def cblk_Block_Refined_Jt {R : Type} (k : Nat) : JTab R := fun _ _ _ _ => none
def cblk_Block_Refined_J (R : Type) (k : Nat) : JTab R := cblk_Block_Refined_Jt k
def cblk_Block_Refined_at : AT := (.seq (.reg [0, 1, 2] []) (.seq (.reg [7] []) (.seq (.reg [6] []) .leaf)))
def cblk_Block_Refined_f : IFn := ⟨20, [.t 6], (.seq (.reg [⟨some 6, .mov (.c (Go.Value.bool false)), none⟩] [0, 1, 2]) (.seq (.reg [⟨some 8, .mov (.t 0), none⟩,
 ⟨some 9, .mov (.t 1), none⟩,
 ⟨some 10, .mov (.t 2), none⟩,
 ⟨some 11, .call 46 [(.t 8), (.t 9), (.t 10)] (.one (.sc .ptr)), none⟩,
 ⟨some 7, .mov (.t 11), none⟩] [7]) (.seq (.reg [⟨some 12, .mov (.t 7), none⟩,
 ⟨some 13, .eqnil (.t 12) true 0, none⟩,
 ⟨some 14, .mov (.t 13), none⟩,
 ⟨some 15, .mov (.t 7), some (14, true)⟩,
 ⟨some 16, .nilc (.t 15), some (14, true)⟩,
 ⟨some 17, .fad 3 (.t 16), some (14, true)⟩,
 ⟨some 18, .ld (.sc .bool) (.t 17), some (14, true)⟩,
 ⟨some 19, .pick (.t 14) (.t 18) (.c (Go.Value.bool false)), none⟩,
 ⟨some 6, .mov (.t 19), none⟩] [6]) .ret)))⟩
def cblk_Block_Refined_ca {R : Type} (f : Option Addr → Int → Int → Heap → (Bool → Option R) → Option R) (args : List Value) (H : Heap) (K : Value → Heap → Option R) : Option R :=
  match args with
  | [.pointer p777, .int .i64 n778, .int .i64 n779] => f p777 n778 n779 H (fun t1481 => K (.bool t1481) H)
  | _ => none
def cblk_Block_Refined_c (R : Type) (k : Nat) (args : List Value) (H : Heap) (K : Value → Heap → Option R) : Option R := cblk_Block_Refined_ca (cblk_Block_Refined k) args H K
theorem cblk_Block_Refined_e {R : Type} (cblk_Block_at : Option Addr → Int → Int → Heap → (Option Addr → Option R) → Option R) (k : Nat) (p777 : Option Addr) (n778 : Int) (n779 : Int) (H : Heap) (K : Value → Heap → Option R) : evF (cblk_Block_Refined_Ct cblk_Block_at) (cblk_Block_Refined_Jt k) cblk_Block_Refined_f [.pointer p777, .int .i64 n778, .int .i64 n779] H K = cblk_Block_Refined_b cblk_Block_at k p777 n778 n779 H (fun t1481 => K (.bool t1481) H) := by kernel_rfl
theorem cblk_Block_Refined_cs (R : Type) (k : Nat) : ∀ args H K r, cblk_Block_Refined_c R k args H K = some r → ∃ v H', Tri Try.prog 35 args H v H' ∧ K v H' = some r := by
  intro args H K r h
  unfold cblk_Block_Refined_c cblk_Block_Refined_ca at h
  split at h
  · exact evF_ok (C := cblk_Block_Refined_C R k) (an := An) (t := cblk_Block_Refined_at) (fn := Try.f35) (c := (Try.f35.body.getD .skip)) (ifn := cblk_Block_Refined_f) (cblk_Block_Refined_S R k) (cblk_Block_Refined_J R k) Try.func35 (by kernel_rfl) (by kernel_rfl) (And.intro True.intro (And.intro True.intro (And.intro True.intro True.intro))) rfl (Eq.trans (cblk_Block_Refined_e (cblk_Block_at k) k _ _ _ H K) h)
  · cases h
/-! ### L_CblkKeeps: function 8 -/
def L_CblkKeeps_p2_b {R : Type} (k : Nat) (n576 : Int) (n577 : Int) (q578 : Option Addr) (l579 : Nat) (c580 : Nat) (p581 : Option Addr) (q582 : Option Addr) (l583 : Nat) (c584 : Nat) (q585 : Option Addr) (l586 : Nat) (c587 : Nat) (n588 : Int) (p589 : Option Addr) (H : Heap) (KN : Int → Int → Option Addr → Nat → Nat → Option Addr → Option Addr → Nat → Nat → Option Addr → Nat → Nat → Int → Option Addr → Bool → Option R) : Option R :=
hfad 1 p589 fun p590 =>
ldI .i64 H p590 fun n591 =>
bif decide (0 ≤ n591) then (hfad 1 p589 fun p592 =>
ldI .i64 H p592 fun n593 =>
bif decide (n593 < n576) then (hfad 2 p589 fun p594 =>
ldI .i64 H p594 fun n595 =>
bif decide (0 ≤ n595) then (hfad 2 p589 fun p596 =>
ldI .i64 H p596 fun n597 =>
bif decide (n597 < n577) then (hfad 0 p589 fun p598 =>
ldI .i64 H p598 fun n599 =>
bif (n599 != 0) then (KN n576 n577 q578 l579 c580 p581 q582 l583 c584 q585 l586 c587 n588 p589 true)
 else (hfad 3 p589 fun p600 =>
ldI .i64 H p600 fun n601 =>
bif decide ((-1152921504606846976) < n601) then (hfad 3 p589 fun p602 =>
ldI .i64 H p602 fun n603 =>
KN n576 n577 q578 l579 c580 p581 q582 l583 c584 q585 l586 c587 n588 p589 (decide (n603 < 1152921504606846976)))
 else (KN n576 n577 q578 l579 c580 p581 q582 l583 c584 q585 l586 c587 n588 p589 false)))
 else (KN n576 n577 q578 l579 c580 p581 q582 l583 c584 q585 l586 c587 n588 p589 false))
 else (KN n576 n577 q578 l579 c580 p581 q582 l583 c584 q585 l586 c587 n588 p589 false))
 else (KN n576 n577 q578 l579 c580 p581 q582 l583 c584 q585 l586 c587 n588 p589 false))
 else (KN n576 n577 q578 l579 c580 p581 q582 l583 c584 q585 l586 c587 n588 p589 false)
def L_CblkKeeps_p2 {R : Type} (k : Nat) (n576 : Int) (n577 : Int) (q578 : Option Addr) (l579 : Nat) (c580 : Nat) (p581 : Option Addr) (q582 : Option Addr) (l583 : Nat) (c584 : Nat) (q585 : Option Addr) (l586 : Nat) (c587 : Nat) (n588 : Int) (p589 : Option Addr) (H : Heap) (KN : Int → Int → Option Addr → Nat → Nat → Option Addr → Option Addr → Nat → Nat → Option Addr → Nat → Nat → Int → Option Addr → Bool → Option R) : Option R := L_CblkKeeps_p2_b k n576 n577 q578 l579 c580 p581 q582 l583 c584 q585 l586 c587 n588 p589 H KN

def L_CblkKeeps_p1_b {R : Type} (L_CblkKeeps_p2 : Int → Int → Option Addr → Nat → Nat → Option Addr → Option Addr → Nat → Nat → Option Addr → Nat → Nat → Int → Option Addr → Heap → (Int → Int → Option Addr → Nat → Nat → Option Addr → Option Addr → Nat → Nat → Option Addr → Nat → Nat → Int → Option Addr → Bool → Option R) → Option R) (L_do : Option Addr → Int → Int → Int → Int → Heap → (Int → Heap → Option R) → Option R) (k : Nat) (n555 : Int) (n556 : Int) (q557 : Option Addr) (l558 : Nat) (c559 : Nat) (p560 : Option Addr) (q561 : Option Addr) (l562 : Nat) (c563 : Nat) (q564 : Option Addr) (l565 : Nat) (c566 : Nat) (n567 : Int) (H : Heap) (KN : Int → Int → Option Addr → Nat → Nat → Option Addr → Option Addr → Nat → Nat → Option Addr → Nat → Nat → Int → Heap → Option R) (KR : Bool → Heap → Option R) : Option R :=
hidx q557 l558 n567 4 fun p568 =>
ldI .i64 H (pad p568 0) fun n569 =>
ldI .i64 H (pad p568 1) fun n570 =>
ldI .i64 H (pad p568 2) fun n571 =>
ldI .i64 H (pad p568 3) fun n572 =>
hal H [.int .i64 0, .int .i64 0, .int .i64 0, .int .i64 0] fun p573 H574 =>
hst H574 p573 [.int .i64 n569, .int .i64 n570, .int .i64 n571, .int .i64 n572] fun H575 =>
L_CblkKeeps_p2 n555 n556 q557 l558 c559 p560 q561 l562 c563 q564 l565 c566 n567 p573 H575 (fun n619 n620 q621 l622 c623 p624 q625 l626 c627 q628 l629 c630 n631 p632 t633 =>
ldI .i64 H575 (pad p632 0) fun n634 =>
ldI .i64 H575 (pad p632 1) fun n635 =>
ldI .i64 H575 (pad p632 2) fun n636 =>
ldI .i64 H575 (pad p632 3) fun n637 =>
L_do p624 n634 n635 n636 n637 H575 fun n638 H639 =>
bif !((n638 == 0) == t633) then (KR false H639)
 else (bif (!t633) then (KN n619 n620 q621 l622 c623 p624 q625 l626 c627 q628 l629 c630 n631 H639)
 else (hfad 2 p632 fun p640 =>
ldI .i64 H639 p640 fun n641 =>
hfad 1 p632 fun p642 =>
ldI .i64 H639 p642 fun n643 =>
hfad 0 p632 fun p644 =>
ldI .i64 H639 p644 fun n645 =>
bif (n645 == 0) then (hfad 3 p632 fun p646 =>
ldI .i64 H639 p646 fun n647 =>
hidx q625 l626 (IntKind.wrap .i64 ((IntKind.wrap .i64 (n641 * n619)) + n643)) 1 fun p648 =>
hst1 H639 p648 (.int .i64 n647) fun H649 =>
KN n619 n620 q621 l622 c623 p624 q625 l626 c627 q628 l629 c630 n631 H649)
 else (bif (n645 == 1) then (hidx q628 l629 (IntKind.wrap .i64 ((IntKind.wrap .i64 (n641 * n619)) + n643)) 1 fun p650 =>
ldI .i64 H639 p650 fun n651 =>
hbin .or .i64 n651 1 fun n652 =>
hidx q628 l629 (IntKind.wrap .i64 ((IntKind.wrap .i64 (n641 * n619)) + n643)) 1 fun p653 =>
hst1 H639 p653 (.int .i64 n652) fun H654 =>
KN n619 n620 q621 l622 c623 p624 q625 l626 c627 q628 l629 c630 n631 H654)
 else (bif (n645 == 2) then (hidx q628 l629 (IntKind.wrap .i64 ((IntKind.wrap .i64 (n641 * n619)) + n643)) 1 fun p655 =>
ldI .i64 H639 p655 fun n656 =>
hbin .or .i64 n656 2 fun n657 =>
hidx q628 l629 (IntKind.wrap .i64 ((IntKind.wrap .i64 (n641 * n619)) + n643)) 1 fun p658 =>
hst1 H639 p658 (.int .i64 n657) fun H659 =>
KN n619 n620 q621 l622 c623 p624 q625 l626 c627 q628 l629 c630 n631 H659)
 else (bif (n645 == 3) then (hidx q628 l629 (IntKind.wrap .i64 ((IntKind.wrap .i64 (n641 * n619)) + n643)) 1 fun p660 =>
ldI .i64 H639 p660 fun n661 =>
hbin .andNot .i64 n661 2 fun n662 =>
hidx q628 l629 (IntKind.wrap .i64 ((IntKind.wrap .i64 (n641 * n619)) + n643)) 1 fun p663 =>
hst1 H639 p663 (.int .i64 n662) fun H664 =>
KN n619 n620 q621 l622 c623 p624 q625 l626 c627 q628 l629 c630 n631 H664)
 else (hidx q628 l629 (IntKind.wrap .i64 ((IntKind.wrap .i64 (n641 * n619)) + n643)) 1 fun p665 =>
ldI .i64 H639 p665 fun n666 =>
hbin .or .i64 n666 4 fun n667 =>
hidx q628 l629 (IntKind.wrap .i64 ((IntKind.wrap .i64 (n641 * n619)) + n643)) 1 fun p668 =>
hst1 H639 p668 (.int .i64 n667) fun H669 =>
KN n619 n620 q621 l622 c623 p624 q625 l626 c627 q628 l629 c630 n631 H669)))))))
def L_CblkKeeps_p1 {R : Type} (k : Nat) (n555 : Int) (n556 : Int) (q557 : Option Addr) (l558 : Nat) (c559 : Nat) (p560 : Option Addr) (q561 : Option Addr) (l562 : Nat) (c563 : Nat) (q564 : Option Addr) (l565 : Nat) (c566 : Nat) (n567 : Int) (H : Heap) (KN : Int → Int → Option Addr → Nat → Nat → Option Addr → Option Addr → Nat → Nat → Option Addr → Nat → Nat → Int → Heap → Option R) (KR : Bool → Heap → Option R) : Option R := L_CblkKeeps_p1_b (L_CblkKeeps_p2 k) (L_do k) k n555 n556 q557 l558 c559 p560 q561 l562 c563 q564 l565 c566 n567 H KN KR

def L_CblkKeeps_l0_b {R : Type} (L_CblkKeeps_p1 : Int → Int → Option Addr → Nat → Nat → Option Addr → Option Addr → Nat → Nat → Option Addr → Nat → Nat → Int → Heap → (Int → Int → Option Addr → Nat → Nat → Option Addr → Option Addr → Nat → Nat → Option Addr → Nat → Nat → Int → Heap → Option R) → (Bool → Heap → Option R) → Option R) (rec : Int → Int → Option Addr → Nat → Nat → Option Addr → Option Addr → Nat → Nat → Option Addr → Nat → Nat → Int → Heap → Option R) (KE0 : Int → Int → Option Addr → Option Addr → Nat → Nat → Option Addr → Nat → Nat → Heap → Option R) (KR : Bool → Heap → Option R) (k : Nat) (n542 : Int) (n543 : Int) (q544 : Option Addr) (l545 : Nat) (c546 : Nat) (p547 : Option Addr) (q548 : Option Addr) (l549 : Nat) (c550 : Nat) (q551 : Option Addr) (l552 : Nat) (c553 : Nat) (n554 : Int) (H : Heap) : Option R :=
bif decide (n554 < ((l545 : Nat) : Int)) then (L_CblkKeeps_p1 n542 n543 q544 l545 c546 p547 q548 l549 c550 q551 l552 c553 n554 H (fun n684 n685 q686 l687 c688 p689 q690 l691 c692 q693 l694 c695 n696 H697 =>
rec n684 n685 q686 l687 c688 p689 q690 l691 c692 q693 l694 c695 (IntKind.wrap .i64 (n696 + 1)) H697) (fun t698 H699 =>
KR t698 H699))
 else (KE0 n542 n543 p547 q548 l549 c550 q551 l552 c553 H)
def L_CblkKeeps_l0 {R : Type} (k : Nat) (KE0 : Int → Int → Option Addr → Option Addr → Nat → Nat → Option Addr → Nat → Nat → Heap → Option R) (KR : Bool → Heap → Option R) : Nat → Int → Int → Option Addr → Nat → Nat → Option Addr → Option Addr → Nat → Nat → Option Addr → Nat → Nat → Int → Heap → Option R
  | 0, _, _, _, _, _, _, _, _, _, _, _, _, _, _ => none
  | n + 1, n542, n543, q544, l545, c546, p547, q548, l549, c550, q551, l552, c553, n554, H => L_CblkKeeps_l0_b (L_CblkKeeps_p1 k) (L_CblkKeeps_l0 k KE0 KR n) KE0 KR k n542 n543 q544 l545 c546 p547 q548 l549 c550 q551 l552 c553 n554 H

def L_CblkKeeps_p5_b {R : Type} (cblk_Block_Value : Option Addr → Int → Int → Heap → (Int → Option R) → Option R) (cblk_Block_Significant : Option Addr → Int → Int → Heap → (Bool → Option R) → Option R) (cblk_Block_Touched : Option Addr → Int → Int → Heap → (Bool → Option R) → Option R) (cblk_Block_Refined : Option Addr → Int → Int → Heap → (Bool → Option R) → Option R) (k : Nat) (n741 : Int) (n742 : Int) (p743 : Option Addr) (q744 : Option Addr) (l745 : Nat) (c746 : Nat) (q747 : Option Addr) (l748 : Nat) (c749 : Nat) (n750 : Int) (n751 : Int) (H : Heap) (KN : Int → Int → Option Addr → Option Addr → Nat → Nat → Option Addr → Nat → Nat → Int → Int → Option R) (KR : Bool → Option R) : Option R :=
hidx q747 l748 (IntKind.wrap .i64 ((IntKind.wrap .i64 (n750 * n741)) + n751)) 1 fun p752 =>
ldI .i64 H p752 fun n753 =>
cblk_Block_Value p743 n751 n750 (roH H) fun n754 =>
hidx q744 l745 (IntKind.wrap .i64 ((IntKind.wrap .i64 (n750 * n741)) + n751)) 1 fun p755 =>
ldI .i64 H p755 fun n756 =>
bif (n754 != n756) then (KR false)
 else (cblk_Block_Significant p743 n751 n750 H fun t757 =>
hbin .and .i64 n753 1 fun n758 =>
bif !(t757 == (n758 != 0)) then (KR false)
 else (cblk_Block_Touched p743 n751 n750 H fun t759 =>
hbin .and .i64 n753 2 fun n760 =>
bif !(t759 == (n760 != 0)) then (KR false)
 else (cblk_Block_Refined p743 n751 n750 H fun t761 =>
hbin .and .i64 n753 4 fun n762 =>
bif !(t761 == (n762 != 0)) then (KR false)
 else (KN n741 n742 p743 q744 l745 c746 q747 l748 c749 n750 n751))))
def L_CblkKeeps_p5 {R : Type} (k : Nat) (n741 : Int) (n742 : Int) (p743 : Option Addr) (q744 : Option Addr) (l745 : Nat) (c746 : Nat) (q747 : Option Addr) (l748 : Nat) (c749 : Nat) (n750 : Int) (n751 : Int) (H : Heap) (KN : Int → Int → Option Addr → Option Addr → Nat → Nat → Option Addr → Nat → Nat → Int → Int → Option R) (KR : Bool → Option R) : Option R := L_CblkKeeps_p5_b (cblk_Block_Value k) (cblk_Block_Significant k) (cblk_Block_Touched k) (cblk_Block_Refined k) k n741 n742 p743 q744 l745 c746 q747 l748 c749 n750 n751 H KN KR

def L_CblkKeeps_l4_b {R : Type} (L_CblkKeeps_p5 : Int → Int → Option Addr → Option Addr → Nat → Nat → Option Addr → Nat → Nat → Int → Int → Heap → (Int → Int → Option Addr → Option Addr → Nat → Nat → Option Addr → Nat → Nat → Int → Int → Option R) → (Bool → Option R) → Option R) (rec : Int → Int → Option Addr → Option Addr → Nat → Nat → Option Addr → Nat → Nat → Int → Int → Heap → Option R) (KE5 : Int → Int → Option Addr → Option Addr → Nat → Nat → Option Addr → Nat → Nat → Int → Option R) (KR : Bool → Option R) (k : Nat) (n730 : Int) (n731 : Int) (p732 : Option Addr) (q733 : Option Addr) (l734 : Nat) (c735 : Nat) (q736 : Option Addr) (l737 : Nat) (c738 : Nat) (n739 : Int) (n740 : Int) (H : Heap) : Option R :=
bif decide (n740 < n730) then (L_CblkKeeps_p5 n730 n731 p732 q733 l734 c735 q736 l737 c738 n739 n740 H (fun n775 n776 p777 q778 l779 c780 q781 l782 c783 n784 n785 =>
rec n775 n776 p777 q778 l779 c780 q781 l782 c783 n784 (IntKind.wrap .i64 (n785 + 1)) H) (fun t786 =>
KR t786))
 else (KE5 n730 n731 p732 q733 l734 c735 q736 l737 c738 n739)
def L_CblkKeeps_l4 {R : Type} (k : Nat) (KE5 : Int → Int → Option Addr → Option Addr → Nat → Nat → Option Addr → Nat → Nat → Int → Option R) (KR : Bool → Option R) : Nat → Int → Int → Option Addr → Option Addr → Nat → Nat → Option Addr → Nat → Nat → Int → Int → Heap → Option R
  | 0, _, _, _, _, _, _, _, _, _, _, _, _ => none
  | n + 1, n730, n731, p732, q733, l734, c735, q736, l737, c738, n739, n740, H => L_CblkKeeps_l4_b (L_CblkKeeps_p5 k) (L_CblkKeeps_l4 k KE5 KR n) KE5 KR k n730 n731 p732 q733 l734 c735 q736 l737 c738 n739 n740 H

def L_CblkKeeps_l3_b {R : Type} (L_CblkKeeps_l4 : (Int → Int → Option Addr → Option Addr → Nat → Nat → Option Addr → Nat → Nat → Int → Option R) → (Bool → Option R) → Nat → Int → Int → Option Addr → Option Addr → Nat → Nat → Option Addr → Nat → Nat → Int → Int → Heap → Option R) (rec : Int → Int → Option Addr → Option Addr → Nat → Nat → Option Addr → Nat → Nat → Int → Heap → Option R) (KE3 : Unit → Option R) (KR : Bool → Option R) (k : Nat) (n720 : Int) (n721 : Int) (p722 : Option Addr) (q723 : Option Addr) (l724 : Nat) (c725 : Nat) (q726 : Option Addr) (l727 : Nat) (c728 : Nat) (n729 : Int) (H : Heap) : Option R :=
bif decide (n729 < n721) then (L_CblkKeeps_l4 (fun n798 n799 p800 q801 l802 c803 q804 l805 c806 n807 =>
rec n798 n799 p800 q801 l802 c803 q804 l805 c806 (IntKind.wrap .i64 (n807 + 1)) H) (fun t808 =>
KR t808) k n720 n721 p722 q723 l724 c725 q726 l727 c728 n729 0 H)
 else (KE3 ())
def L_CblkKeeps_l3 {R : Type} (k : Nat) (KE3 : Unit → Option R) (KR : Bool → Option R) : Nat → Int → Int → Option Addr → Option Addr → Nat → Nat → Option Addr → Nat → Nat → Int → Heap → Option R
  | 0, _, _, _, _, _, _, _, _, _, _, _ => none
  | n + 1, n720, n721, p722, q723, l724, c725, q726, l727, c728, n729, H => L_CblkKeeps_l3_b (L_CblkKeeps_l4 k) (L_CblkKeeps_l3 k KE3 KR n) KE3 KR k n720 n721 p722 q723 l724 c725 q726 l727 c728 n729 H

def L_CblkKeeps_b {R : Type} (L_small : Int → Int → Option Addr → Nat → Nat → (Bool → Option R) → Option R) (L_exampleHoldsq : (Bool → Option R) → Option R) (cblk_New : Int → Int → Heap → (Option Addr → Int → Heap → Option R) → Option R) (L_CblkKeeps_l0 : (Int → Int → Option Addr → Option Addr → Nat → Nat → Option Addr → Nat → Nat → Heap → Option R) → (Bool → Heap → Option R) → Nat → Int → Int → Option Addr → Nat → Nat → Option Addr → Option Addr → Nat → Nat → Option Addr → Nat → Nat → Int → Heap → Option R) (L_CblkKeeps_l3 : (Unit → Option R) → (Bool → Option R) → Nat → Int → Int → Option Addr → Option Addr → Nat → Nat → Option Addr → Nat → Nat → Int → Heap → Option R) (k : Nat) (n524 : Int) (n525 : Int) (q526 : Option Addr) (l527 : Nat) (c528 : Nat) (H : Heap) (K : Bool → Heap → Option R) : Option R :=
L_small n524 n525 q526 l527 c528 fun t529 =>
bif (!t529) then (L_exampleHoldsq fun t530 =>
K t530 H)
 else (cblk_New n524 n525 H fun p531 n532 H533 =>
bif (n532 != 0) then (K false H533)
 else (hmk [.int .i64 0] 8 H533 (IntKind.wrap .i64 (n524 * n525)) (IntKind.wrap .i64 (n524 * n525)) fun q534 l535 c536 H537 =>
hmk [.int .i64 0] 8 H537 (IntKind.wrap .i64 (n524 * n525)) (IntKind.wrap .i64 (n524 * n525)) fun q538 l539 c540 H541 =>
L_CblkKeeps_l0 (fun n710 n711 p712 q713 l714 c715 q716 l717 c718 H719 =>
L_CblkKeeps_l3 (fun (_ : Unit) =>
L_exampleHoldsq fun t810 =>
K t810 H719) (fun t811 =>
K t811 H719) k n710 n711 p712 q713 l714 c715 q716 l717 c718 0 H719) (fun t812 H813 =>
K t812 H813) k n524 n525 q526 l527 c528 p531 q534 l535 c536 q538 l539 c540 0 H541))

def L_CblkKeeps {R : Type} (k : Nat) (n524 : Int) (n525 : Int) (q526 : Option Addr) (l527 : Nat) (c528 : Nat) (H : Heap) (K : Bool → Heap → Option R) : Option R := L_CblkKeeps_b L_small L_exampleHoldsq cblk_New (L_CblkKeeps_l0 k) (L_CblkKeeps_l3 k) k n524 n525 q526 l527 c528 H K

def L_CblkKeeps_Ct {R : Type} (L_small : Int → Int → Option Addr → Nat → Nat → (Bool → Option R) → Option R) (L_exampleHoldsq : (Bool → Option R) → Option R) (cblk_New : Int → Int → Heap → (Option Addr → Int → Heap → Option R) → Option R) (L_do : Option Addr → Int → Int → Int → Int → Heap → (Int → Heap → Option R) → Option R) (cblk_Block_Value : Option Addr → Int → Int → Heap → (Int → Option R) → Option R) (cblk_Block_Significant : Option Addr → Int → Int → Heap → (Bool → Option R) → Option R) (cblk_Block_Touched : Option Addr → Int → Int → Heap → (Bool → Option R) → Option R) (cblk_Block_Refined : Option Addr → Int → Int → Heap → (Bool → Option R) → Option R) : Tab R := tcons 22 (L_small_ca L_small) <| tcons 14 (L_exampleHoldsq_ca L_exampleHoldsq) <| tcons 31 (cblk_New_ca cblk_New) <| tcons 32 (L_do_ca L_do) <| tcons 33 (cblk_Block_Value_ca cblk_Block_Value) <| tcons 25 (cblk_Block_Significant_ca cblk_Block_Significant) <| tcons 34 (cblk_Block_Touched_ca cblk_Block_Touched) <| tcons 35 (cblk_Block_Refined_ca cblk_Block_Refined) <| fun _ _ _ _ => none
def L_CblkKeeps_C (R : Type) (k : Nat) : Tab R := L_CblkKeeps_Ct L_small L_exampleHoldsq cblk_New (L_do k) (cblk_Block_Value k) (cblk_Block_Significant k) (cblk_Block_Touched k) (cblk_Block_Refined k)
theorem L_CblkKeeps_S (R : Type) (k : Nat) : CSound Try.prog (L_CblkKeeps_C R k) := csound_cons (L_small_cs R k) <| csound_cons (L_exampleHoldsq_cs R k) <| csound_cons (cblk_New_cs R k) <| csound_cons (L_do_cs R k) <| csound_cons (cblk_Block_Value_cs R k) <| csound_cons (cblk_Block_Significant_cs R k) <| csound_cons (cblk_Block_Touched_cs R k) <| csound_cons (cblk_Block_Refined_cs R k) <| csound_nil
def L_CblkKeeps_aa0 {R : Type} (f : (Int → Int → Option Addr → Option Addr → Nat → Nat → Option Addr → Nat → Nat → Heap → Option R) → (Bool → Heap → Option R) → Nat → Int → Int → Option Addr → Nat → Nat → Option Addr → Option Addr → Nat → Nat → Option Addr → Nat → Nat → Int → Heap → Option R) (n : Nat) (vals : List Value) (H : Heap) (K : Xit → Env → Heap → Option R) : Option R :=
  match vals with
  | [.int .i64 n542, .int .i64 n543, .slice q544 l545 c546, .pointer p547, .slice q548 l549 c550, .slice q551 l552 c553, .int .i64 n554] => f (fun n1482 n1483 p1484 q1485 l1486 c1487 q1488 l1489 c1490 H => K (.exit 0) [(0, .int .i64 n1482), (1, .int .i64 n1483), (7, .pointer p1484), (9, .slice q1485 l1486 c1487), (10, .slice q1488 l1489 c1490)] H) (fun t1491 H => K .ret [(6, .bool t1491)] H) n n542 n543 q544 l545 c546 p547 q548 l549 c550 q551 l552 c553 n554 H
  | _ => none
def L_CblkKeeps_a0 (R : Type) (k n : Nat) (vals : List Value) (H : Heap) (K : Xit → Env → Heap → Option R) : Option R := L_CblkKeeps_aa0 (L_CblkKeeps_l0 k) n vals H K
def L_CblkKeeps_aa1 {R : Type} (f : Int → Int → Option Addr → Nat → Nat → Option Addr → Option Addr → Nat → Nat → Option Addr → Nat → Nat → Int → Heap → (Int → Int → Option Addr → Nat → Nat → Option Addr → Option Addr → Nat → Nat → Option Addr → Nat → Nat → Int → Heap → Option R) → (Bool → Heap → Option R) → Option R) (n : Nat) (vals : List Value) (H : Heap) (K : Xit → Env → Heap → Option R) : Option R :=
  match vals with
  | [.int .i64 n555, .int .i64 n556, .slice q557 l558 c559, .pointer p560, .slice q561 l562 c563, .slice q564 l565 c566, .int .i64 n567] => f n555 n556 q557 l558 c559 p560 q561 l562 c563 q564 l565 c566 n567 H (fun n1492 n1493 q1494 l1495 c1496 p1497 q1498 l1499 c1500 q1501 l1502 c1503 n1504 H => K .normal [(0, .int .i64 n1492), (1, .int .i64 n1493), (2, .slice q1494 l1495 c1496), (7, .pointer p1497), (9, .slice q1498 l1499 c1500), (10, .slice q1501 l1502 c1503), (11, .int .i64 n1504)] H) (fun t1505 H => K .ret [(6, .bool t1505)] H)
  | _ => none
def L_CblkKeeps_a1 (R : Type) (k n : Nat) (vals : List Value) (H : Heap) (K : Xit → Env → Heap → Option R) : Option R := L_CblkKeeps_aa1 (L_CblkKeeps_p1 k) n vals H K
def L_CblkKeeps_aa2 {R : Type} (f : Int → Int → Option Addr → Nat → Nat → Option Addr → Option Addr → Nat → Nat → Option Addr → Nat → Nat → Int → Option Addr → Heap → (Int → Int → Option Addr → Nat → Nat → Option Addr → Option Addr → Nat → Nat → Option Addr → Nat → Nat → Int → Option Addr → Bool → Option R) → Option R) (n : Nat) (vals : List Value) (H : Heap) (K : Xit → Env → Heap → Option R) : Option R :=
  match vals with
  | [.int .i64 n576, .int .i64 n577, .slice q578 l579 c580, .pointer p581, .slice q582 l583 c584, .slice q585 l586 c587, .int .i64 n588, .pointer p589] => f n576 n577 q578 l579 c580 p581 q582 l583 c584 q585 l586 c587 n588 p589 H (fun n1506 n1507 q1508 l1509 c1510 p1511 q1512 l1513 c1514 q1515 l1516 c1517 n1518 p1519 t1520 => K .normal [(0, .int .i64 n1506), (1, .int .i64 n1507), (2, .slice q1508 l1509 c1510), (7, .pointer p1511), (9, .slice q1512 l1513 c1514), (10, .slice q1515 l1516 c1517), (11, .int .i64 n1518), (12, .pointer p1519), (13, .bool t1520)] H)
  | _ => none
def L_CblkKeeps_a2 (R : Type) (k n : Nat) (vals : List Value) (H : Heap) (K : Xit → Env → Heap → Option R) : Option R := L_CblkKeeps_aa2 (L_CblkKeeps_p2 k) n vals H K
def L_CblkKeeps_aa3 {R : Type} (f : (Unit → Option R) → (Bool → Option R) → Nat → Int → Int → Option Addr → Option Addr → Nat → Nat → Option Addr → Nat → Nat → Int → Heap → Option R) (n : Nat) (vals : List Value) (H : Heap) (K : Xit → Env → Heap → Option R) : Option R :=
  match vals with
  | [.int .i64 n720, .int .i64 n721, .pointer p722, .slice q723 l724 c725, .slice q726 l727 c728, .int .i64 n729] => f (fun _ => K (.exit 3) [] H) (fun t1521 => K .ret [(6, .bool t1521)] H) n n720 n721 p722 q723 l724 c725 q726 l727 c728 n729 H
  | _ => none
def L_CblkKeeps_a3 (R : Type) (k n : Nat) (vals : List Value) (H : Heap) (K : Xit → Env → Heap → Option R) : Option R := L_CblkKeeps_aa3 (L_CblkKeeps_l3 k) n vals H K
def L_CblkKeeps_aa4 {R : Type} (f : (Int → Int → Option Addr → Option Addr → Nat → Nat → Option Addr → Nat → Nat → Int → Option R) → (Bool → Option R) → Nat → Int → Int → Option Addr → Option Addr → Nat → Nat → Option Addr → Nat → Nat → Int → Int → Heap → Option R) (n : Nat) (vals : List Value) (H : Heap) (K : Xit → Env → Heap → Option R) : Option R :=
  match vals with
  | [.int .i64 n730, .int .i64 n731, .pointer p732, .slice q733 l734 c735, .slice q736 l737 c738, .int .i64 n739, .int .i64 n740] => f (fun n1522 n1523 p1524 q1525 l1526 c1527 q1528 l1529 c1530 n1531 => K (.exit 5) [(0, .int .i64 n1522), (1, .int .i64 n1523), (7, .pointer p1524), (9, .slice q1525 l1526 c1527), (10, .slice q1528 l1529 c1530), (15, .int .i64 n1531)] H) (fun t1532 => K .ret [(6, .bool t1532)] H) n n730 n731 p732 q733 l734 c735 q736 l737 c738 n739 n740 H
  | _ => none
def L_CblkKeeps_a4 (R : Type) (k n : Nat) (vals : List Value) (H : Heap) (K : Xit → Env → Heap → Option R) : Option R := L_CblkKeeps_aa4 (L_CblkKeeps_l4 k) n vals H K
def L_CblkKeeps_aa5 {R : Type} (f : Int → Int → Option Addr → Option Addr → Nat → Nat → Option Addr → Nat → Nat → Int → Int → Heap → (Int → Int → Option Addr → Option Addr → Nat → Nat → Option Addr → Nat → Nat → Int → Int → Option R) → (Bool → Option R) → Option R) (n : Nat) (vals : List Value) (H : Heap) (K : Xit → Env → Heap → Option R) : Option R :=
  match vals with
  | [.int .i64 n741, .int .i64 n742, .pointer p743, .slice q744 l745 c746, .slice q747 l748 c749, .int .i64 n750, .int .i64 n751] => f n741 n742 p743 q744 l745 c746 q747 l748 c749 n750 n751 H (fun n1533 n1534 p1535 q1536 l1537 c1538 q1539 l1540 c1541 n1542 n1543 => K .normal [(0, .int .i64 n1533), (1, .int .i64 n1534), (7, .pointer p1535), (9, .slice q1536 l1537 c1538), (10, .slice q1539 l1540 c1541), (15, .int .i64 n1542), (16, .int .i64 n1543)] H) (fun t1544 => K .ret [(6, .bool t1544)] H)
  | _ => none
def L_CblkKeeps_a5 (R : Type) (k n : Nat) (vals : List Value) (H : Heap) (K : Xit → Env → Heap → Option R) : Option R := L_CblkKeeps_aa5 (L_CblkKeeps_p5 k) n vals H K
def L_CblkKeeps_Jt {R : Type} (k : Nat) (L_CblkKeeps_l0 : (Int → Int → Option Addr → Option Addr → Nat → Nat → Option Addr → Nat → Nat → Heap → Option R) → (Bool → Heap → Option R) → Nat → Int → Int → Option Addr → Nat → Nat → Option Addr → Option Addr → Nat → Nat → Option Addr → Nat → Nat → Int → Heap → Option R) (L_CblkKeeps_p1 : Int → Int → Option Addr → Nat → Nat → Option Addr → Option Addr → Nat → Nat → Option Addr → Nat → Nat → Int → Heap → (Int → Int → Option Addr → Nat → Nat → Option Addr → Option Addr → Nat → Nat → Option Addr → Nat → Nat → Int → Heap → Option R) → (Bool → Heap → Option R) → Option R) (L_CblkKeeps_p2 : Int → Int → Option Addr → Nat → Nat → Option Addr → Option Addr → Nat → Nat → Option Addr → Nat → Nat → Int → Option Addr → Heap → (Int → Int → Option Addr → Nat → Nat → Option Addr → Option Addr → Nat → Nat → Option Addr → Nat → Nat → Int → Option Addr → Bool → Option R) → Option R) (L_CblkKeeps_l3 : (Unit → Option R) → (Bool → Option R) → Nat → Int → Int → Option Addr → Option Addr → Nat → Nat → Option Addr → Nat → Nat → Int → Heap → Option R) (L_CblkKeeps_l4 : (Int → Int → Option Addr → Option Addr → Nat → Nat → Option Addr → Nat → Nat → Int → Option R) → (Bool → Option R) → Nat → Int → Int → Option Addr → Option Addr → Nat → Nat → Option Addr → Nat → Nat → Int → Int → Heap → Option R) (L_CblkKeeps_p5 : Int → Int → Option Addr → Option Addr → Nat → Nat → Option Addr → Nat → Nat → Int → Int → Heap → (Int → Int → Option Addr → Option Addr → Nat → Nat → Option Addr → Nat → Nat → Int → Int → Option R) → (Bool → Option R) → Option R) : JTab R := tcons 0 (L_CblkKeeps_aa0 L_CblkKeeps_l0 k) <| tcons 1 (L_CblkKeeps_aa1 L_CblkKeeps_p1 k) <| tcons 2 (L_CblkKeeps_aa2 L_CblkKeeps_p2 k) <| tcons 3 (L_CblkKeeps_aa3 L_CblkKeeps_l3 k) <| tcons 4 (L_CblkKeeps_aa4 L_CblkKeeps_l4 k) <| tcons 5 (L_CblkKeeps_aa5 L_CblkKeeps_p5 k) <| fun _ _ _ _ => none
def L_CblkKeeps_J (R : Type) (k : Nat) : JTab R := L_CblkKeeps_Jt k (L_CblkKeeps_l0 k) (L_CblkKeeps_p1 k) (L_CblkKeeps_p2 k) (L_CblkKeeps_l3 k) (L_CblkKeeps_l4 k) (L_CblkKeeps_p5 k)
def L_CblkKeeps_at : AT := (.seq (.reg [0, 1, 2] []) (.seq (.seq (.reg [0, 1, 2, 22] []) (.cond (.seq (.reg [6] []) .leaf) .leaf)) (.seq (.reg [0, 1, 2, 7, 8] []) (.seq (.seq (.reg [0, 1, 2, 7, 31] []) (.cond (.seq (.reg [6] []) .leaf) .leaf)) (.seq (.reg [0, 1, 2, 7, 9] []) (.seq (.reg [0, 1, 2, 7, 9, 10] []) (.seq (.seq (.reg [0, 1, 2, 7, 9, 10, 11] []) (.node (.opq 0 [0, 1, 2, 7, 9, 10, 11] ⟨[], [(0, [0, 1, 7, 9, 10])], [6]⟩ (.node (.seq (.seq (.reg [0, 1, 2, 7, 9, 10, 11, 43] []) (.cond .leaf .leaf)) (.seq (.opq 1 [0, 1, 2, 7, 9, 10, 11] ⟨[0, 1, 2, 7, 9, 10, 11], [], [6]⟩ (.node (.seq (.reg [0, 1, 2, 7, 9, 10, 11, 12] []) (.seq (.opq 2 [0, 1, 2, 7, 9, 10, 11, 12] ⟨[0, 1, 2, 7, 9, 10, 11, 12, 13], [], []⟩ (.reg [0, 1, 2, 7, 9, 10, 11, 12, 13] [])) (.seq (.seq (.reg [0, 1, 2, 7, 9, 10, 11, 12, 13, 90] []) (.cond (.seq (.reg [6] []) .leaf) .leaf)) (.seq (.seq (.reg [0, 1, 2, 7, 9, 10, 11, 12, 92] []) (.cond .leaf .leaf)) (.seq (.reg [0, 1, 2, 7, 9, 10, 11, 12, 14] []) (.seq (.reg [0, 1, 2, 7, 9, 10, 11, 12, 14, 101] []) (.node (.seq (.reg [0, 1, 2, 7, 9, 10, 11, 12, 14, 101, 110] []) (.cond (.reg [0, 1, 2, 7, 9, 10, 11] []) (.seq (.reg [0, 1, 2, 7, 9, 10, 11, 14, 101, 117] []) (.cond (.reg [0, 1, 2, 7, 9, 10, 11] []) (.seq (.reg [0, 1, 2, 7, 9, 10, 11, 14, 101, 127] []) (.cond (.reg [0, 1, 2, 7, 9, 10, 11] []) (.seq (.reg [0, 1, 2, 7, 9, 10, 11, 14, 137] []) (.cond (.reg [0, 1, 2, 7, 9, 10, 11] []) (.reg [0, 1, 2, 7, 9, 10, 11] [])))))))))))))))))) (.reg [0, 1, 2, 7, 9, 10, 11] []))))))) (.seq (.seq (.reg [0, 1, 7, 9, 10, 15] []) (.node (.opq 3 [0, 1, 7, 9, 10, 15] ⟨[], [(3, [])], [6]⟩ (.node (.seq (.seq (.reg [0, 1, 7, 9, 10, 15, 149] []) (.cond .leaf .leaf)) (.seq (.node (.seq (.reg [0, 1, 7, 9, 10, 15, 16] []) (.node (.opq 4 [0, 1, 7, 9, 10, 15, 16] ⟨[], [(5, [0, 1, 7, 9, 10, 15])], [6]⟩ (.node (.seq (.seq (.reg [0, 1, 7, 9, 10, 15, 16, 154] []) (.cond .leaf .leaf)) (.seq (.opq 5 [0, 1, 7, 9, 10, 15, 16] ⟨[0, 1, 7, 9, 10, 15, 16], [], [6]⟩ (.node (.seq (.reg [0, 1, 7, 9, 10, 15, 16, 17] []) (.seq (.reg [0, 1, 7, 9, 10, 15, 16, 207] [[], [], [], [0, 1, 2], [], [], [], [5, 6], [], [5, 6, 7, 8], [4, 5, 6, 7, 8, 9], [4, 5, 6, 7, 8, 9, 10], [0, 1, 2, 3, 4, 5, 6, 7, 8, 9, 10, 11], [0, 1, 2, 3, 4, 5, 6, 7, 8, 9, 10, 11, 12], [0, 1, 2, 3, 4, 5, 6, 7, 8, 9, 10, 11, 12, 13], [0, 1, 2, 3, 4, 5, 6, 7, 8, 9, 10, 11, 12, 13], [0, 1, 2, 3, 4, 5, 6, 7, 8, 9, 10, 11, 12, 13], [0, 1, 2, 3, 4, 5, 6, 7, 8, 9, 10, 11, 12, 13, 14, 15, 16], [0, 1, 2, 3, 4, 5, 6, 7, 8, 9, 10, 11, 12, 13], [0, 1, 2, 3, 4, 5, 6, 7, 8, 9, 10, 11, 12, 13, 18], [0, 1, 2, 3, 4, 5, 6, 7, 8, 9, 10, 11, 12, 13, 18, 19], [0, 1, 2, 3, 4, 5, 6, 7, 8, 9, 10, 11, 12, 13, 14, 15, 16, 17, 18, 19, 20], [0, 1, 2, 3, 4, 5, 6, 7, 8, 9, 10, 11, 12, 13, 14, 15, 16, 17, 18, 19, 20, 21], [0, 1, 2, 3, 4, 5, 6, 7, 8, 9, 10, 11, 12, 13, 14, 15, 16, 17, 18, 19, 20, 21, 22], [0, 1, 2, 3, 4, 5, 6, 7, 8, 9, 10, 11, 12, 13, 14, 15, 16, 17, 18, 19, 20, 21, 22, 23], [0, 1, 2, 3, 4, 5, 6, 7, 8, 9, 10, 11, 12, 13, 14, 15, 16, 17, 18, 19, 20, 21, 22, 23], [0, 1, 2, 3, 4, 5, 6, 7, 8, 9, 10, 11, 12, 13, 14, 15, 16, 17, 18, 19, 20, 21, 22, 23], [0, 1, 2, 3, 4, 5, 6, 7, 8, 9, 10, 11, 12, 13, 14, 15, 16, 17, 18, 19, 20, 21, 22, 23, 24, 25, 26], [0, 1, 2, 3, 4, 5, 6, 7, 8, 9, 10, 11, 12, 13, 14, 15, 16, 17, 18, 19, 20, 21, 22, 23], [0, 1, 2, 3, 4, 5, 6, 7, 8, 9, 10, 11, 12, 13, 14, 15, 16, 17, 18, 19, 20, 21, 22, 23, 28], [0, 1, 2, 3, 4, 5, 6, 7, 8, 9, 10, 11, 12, 13, 14, 15, 16, 17, 18, 19, 20, 21, 22, 23, 28, 29], [0, 1, 2, 3, 4, 5, 6, 7, 8, 9, 10, 11, 12, 13, 14, 15, 16, 17, 18, 19, 20, 21, 22, 23, 24, 25, 26, 27, 28, 29, 30], [0, 1, 2, 3, 4, 5, 6, 7, 8, 9, 10, 11, 12, 13, 14, 15, 16, 17, 18, 19, 20, 21, 22, 23, 24, 25, 26, 27, 28, 29, 30, 31], [0, 1, 2, 3, 4, 5, 6, 7, 8, 9, 10, 11, 12, 13, 14, 15, 16, 17, 18, 19, 20, 21, 22, 23, 24, 25, 26, 27, 28, 29, 30, 31, 32], [0, 1, 2, 3, 4, 5, 6, 7, 8, 9, 10, 11, 12, 13, 14, 15, 16, 17, 18, 19, 20, 21, 22, 23, 24, 25, 26, 27, 28, 29, 30, 31, 32, 33], [0, 1, 2, 3, 4, 5, 6, 7, 8, 9, 10, 11, 12, 13, 14, 15, 16, 17, 18, 19, 20, 21, 22, 23, 24, 25, 26, 27, 28, 29, 30, 31, 32, 33], [0, 1, 2, 3, 4, 5, 6, 7, 8, 9, 10, 11, 12, 13, 14, 15, 16, 17, 18, 19, 20, 21, 22, 23, 24, 25, 26, 27, 28, 29, 30, 31, 32, 33], [0, 1, 2, 3, 4, 5, 6, 7, 8, 9, 10, 11, 12, 13, 14, 15, 16, 17, 18, 19, 20, 21, 22, 23, 24, 25, 26, 27, 28, 29, 30, 31, 32, 33, 34, 35, 36], [0, 1, 2, 3, 4, 5, 6, 7, 8, 9, 10, 11, 12, 13, 14, 15, 16, 17, 18, 19, 20, 21, 22, 23, 24, 25, 26, 27, 28, 29, 30, 31, 32, 33], [0, 1, 2, 3, 4, 5, 6, 7, 8, 9, 10, 11, 12, 13, 14, 15, 16, 17, 18, 19, 20, 21, 22, 23, 24, 25, 26, 27, 28, 29, 30, 31, 32, 33, 38], [0, 1, 2, 3, 4, 5, 6, 7, 8, 9, 10, 11, 12, 13, 14, 15, 16, 17, 18, 19, 20, 21, 22, 23, 24, 25, 26, 27, 28, 29, 30, 31, 32, 33, 38, 39], [0, 1, 2, 3, 4, 5, 6, 7, 8, 9, 10, 11, 12, 13, 14, 15, 16, 17, 18, 19, 20, 21, 22, 23, 24, 25, 26, 27, 28, 29, 30, 31, 32, 33, 34, 35, 36, 37, 38, 39, 40], [0, 1, 2, 3, 4, 5, 6, 7, 8, 9, 10, 11, 12, 13, 14, 15, 16, 17, 18, 19, 20, 21, 22, 23, 24, 25, 26, 27, 28, 29, 30, 31, 32, 33, 34, 35, 36, 37, 38, 39, 40, 41]]) (.cond (.seq (.reg [6] []) .leaf) .leaf))))) (.reg [0, 1, 7, 9, 10, 15, 16] [])))))))) (.reg [0, 1, 7, 9, 10, 15] []))))))) (.seq (.reg [6] []) .leaf)))))))))
def L_CblkKeeps_i5 : IC := (.block 6 (.seq (.reg [⟨some 157, .mov (.t 10), none⟩,
 ⟨some 158, .mov (.t 15), none⟩,
 ⟨some 159, .mov (.t 0), none⟩,
 ⟨some 160, .bin .mul .i64 (.t 158) (.t 159), none⟩,
 ⟨some 161, .mov (.t 16), none⟩,
 ⟨some 162, .bin .add .i64 (.t 160) (.t 161), none⟩,
 ⟨some 163, .ids 1 (.t 157) (.t 162), none⟩,
 ⟨some 164, .ld (.sc (.int .i64)) (.t 163), none⟩,
 ⟨some 17, .mov (.t 164), none⟩] [0, 1, 7, 9, 10, 15, 16, 17]) (.seq (.reg [⟨some 165, .mov (.t 7), none⟩,
 ⟨some 166, .mov (.t 16), none⟩,
 ⟨some 167, .mov (.t 15), none⟩,
 ⟨some 168, .calp 33 [(.t 165), (.t 166), (.t 167)] (.one (.sc (.int .i64))), none⟩,
 ⟨some 169, .mov (.t 9), none⟩,
 ⟨some 170, .mov (.t 15), none⟩,
 ⟨some 171, .mov (.t 0), none⟩,
 ⟨some 172, .bin .mul .i64 (.t 170) (.t 171), none⟩,
 ⟨some 173, .mov (.t 16), none⟩,
 ⟨some 174, .bin .add .i64 (.t 172) (.t 173), none⟩,
 ⟨some 175, .ids 1 (.t 169) (.t 174), none⟩,
 ⟨some 176, .ld (.sc (.int .i64)) (.t 175), none⟩,
 ⟨some 177, .cmp .neq (.t 168) (.t 176), none⟩,
 ⟨some 178, .mov (.t 177), none⟩,
 ⟨some 179, .mov (.t 7), some (178, false)⟩,
 ⟨some 180, .mov (.t 16), some (178, false)⟩,
 ⟨some 181, .mov (.t 15), some (178, false)⟩,
 ⟨some 182, .call 25 [(.t 179), (.t 180), (.t 181)] (.one (.sc .bool)), some (178, false)⟩,
 ⟨some 183, .mov (.t 17), some (178, false)⟩,
 ⟨some 184, .bin .and .i64 (.t 183) (.c (Go.Value.int Go.IntKind.i64 1)), some (178, false)⟩,
 ⟨some 185, .cmp .neq (.t 184) (.c (Go.Value.int Go.IntKind.i64 0)), some (178, false)⟩,
 ⟨some 186, .eqb (.t 182) (.t 185) true, some (178, false)⟩,
 ⟨some 187, .pick (.t 178) (.c (Go.Value.bool true)) (.t 186), none⟩,
 ⟨some 188, .mov (.t 187), none⟩,
 ⟨some 189, .mov (.t 7), some (188, false)⟩,
 ⟨some 190, .mov (.t 16), some (188, false)⟩,
 ⟨some 191, .mov (.t 15), some (188, false)⟩,
 ⟨some 192, .call 34 [(.t 189), (.t 190), (.t 191)] (.one (.sc .bool)), some (188, false)⟩,
 ⟨some 193, .mov (.t 17), some (188, false)⟩,
 ⟨some 194, .bin .and .i64 (.t 193) (.c (Go.Value.int Go.IntKind.i64 2)), some (188, false)⟩,
 ⟨some 195, .cmp .neq (.t 194) (.c (Go.Value.int Go.IntKind.i64 0)), some (188, false)⟩,
 ⟨some 196, .eqb (.t 192) (.t 195) true, some (188, false)⟩,
 ⟨some 197, .pick (.t 188) (.c (Go.Value.bool true)) (.t 196), none⟩,
 ⟨some 198, .mov (.t 197), none⟩,
 ⟨some 199, .mov (.t 7), some (198, false)⟩,
 ⟨some 200, .mov (.t 16), some (198, false)⟩,
 ⟨some 201, .mov (.t 15), some (198, false)⟩,
 ⟨some 202, .call 35 [(.t 199), (.t 200), (.t 201)] (.one (.sc .bool)), some (198, false)⟩,
 ⟨some 203, .mov (.t 17), some (198, false)⟩,
 ⟨some 204, .bin .and .i64 (.t 203) (.c (Go.Value.int Go.IntKind.i64 4)), some (198, false)⟩,
 ⟨some 205, .cmp .neq (.t 204) (.c (Go.Value.int Go.IntKind.i64 0)), some (198, false)⟩,
 ⟨some 206, .eqb (.t 202) (.t 205) true, some (198, false)⟩,
 ⟨some 207, .pick (.t 198) (.c (Go.Value.bool true)) (.t 206), none⟩] [0, 1, 7, 9, 10, 15, 16, 207]) (.cond (.t 207) (.seq (.reg [⟨some 6, .mov (.c (Go.Value.bool false)), none⟩] [6]) .ret) .skip))))
def L_CblkKeeps_i4 : IC := (.seq (.seq (.reg [⟨some 152, .mov (.t 16), none⟩,
 ⟨some 153, .mov (.t 0), none⟩,
 ⟨some 154, .cmp .lss (.t 152) (.t 153), none⟩] [0, 1, 7, 9, 10, 15, 16, 154]) (.cond (.t 154) .skip (.exit 5))) (.seq (.opq 5 [0, 1, 7, 9, 10, 15, 16] L_CblkKeeps_i5) (.reg [⟨some 155, .mov (.t 16), none⟩,
 ⟨some 156, .bin .add .i64 (.t 155) (.c (Go.Value.int Go.IntKind.i64 1)), none⟩,
 ⟨some 16, .mov (.t 156), none⟩] [0, 1, 7, 9, 10, 15, 16])))
def L_CblkKeeps_i3 : IC := (.seq (.seq (.reg [⟨some 147, .mov (.t 15), none⟩,
 ⟨some 148, .mov (.t 1), none⟩,
 ⟨some 149, .cmp .lss (.t 147) (.t 148), none⟩] [0, 1, 7, 9, 10, 15, 149]) (.cond (.t 149) .skip (.exit 3))) (.seq (.block 4 (.seq (.reg [⟨some 16, .mov (.c (Go.Value.int Go.IntKind.i64 0)), none⟩] [0, 1, 7, 9, 10, 15, 16]) (.block 5 (.opq 4 [0, 1, 7, 9, 10, 15, 16] (.loop L_CblkKeeps_i4))))) (.reg [⟨some 150, .mov (.t 15), none⟩,
 ⟨some 151, .bin .add .i64 (.t 150) (.c (Go.Value.int Go.IntKind.i64 1)), none⟩,
 ⟨some 15, .mov (.t 151), none⟩] [0, 1, 7, 9, 10, 15])))
def L_CblkKeeps_i2 : IC := (.reg [⟨some 50, .fad 1 (.t 12), none⟩,
 ⟨some 51, .ld (.sc (.int .i64)) (.t 50), none⟩,
 ⟨some 52, .cmp .leq (.c (Go.Value.int Go.IntKind.i64 0)) (.t 51), none⟩,
 ⟨some 53, .mov (.t 52), none⟩,
 ⟨some 54, .fad 1 (.t 12), some (53, true)⟩,
 ⟨some 55, .ld (.sc (.int .i64)) (.t 54), some (53, true)⟩,
 ⟨some 56, .mov (.t 0), some (53, true)⟩,
 ⟨some 57, .cmp .lss (.t 55) (.t 56), some (53, true)⟩,
 ⟨some 58, .pick (.t 53) (.t 57) (.c (Go.Value.bool false)), none⟩,
 ⟨some 59, .mov (.t 58), none⟩,
 ⟨some 60, .fad 2 (.t 12), some (59, true)⟩,
 ⟨some 61, .ld (.sc (.int .i64)) (.t 60), some (59, true)⟩,
 ⟨some 62, .cmp .leq (.c (Go.Value.int Go.IntKind.i64 0)) (.t 61), some (59, true)⟩,
 ⟨some 63, .pick (.t 59) (.t 62) (.c (Go.Value.bool false)), none⟩,
 ⟨some 64, .mov (.t 63), none⟩,
 ⟨some 65, .fad 2 (.t 12), some (64, true)⟩,
 ⟨some 66, .ld (.sc (.int .i64)) (.t 65), some (64, true)⟩,
 ⟨some 67, .mov (.t 1), some (64, true)⟩,
 ⟨some 68, .cmp .lss (.t 66) (.t 67), some (64, true)⟩,
 ⟨some 69, .pick (.t 64) (.t 68) (.c (Go.Value.bool false)), none⟩,
 ⟨some 70, .mov (.t 69), none⟩,
 ⟨some 71, .fad 0 (.t 12), some (70, true)⟩,
 ⟨some 72, .ld (.sc (.int .i64)) (.t 71), some (70, true)⟩,
 ⟨some 73, .cmp .neq (.t 72) (.c (Go.Value.int Go.IntKind.i64 0)), some (70, true)⟩,
 ⟨some 74, .mov (.t 73), some (70, true)⟩,
 ⟨some 75, .fad 3 (.t 12), some (74, false)⟩,
 ⟨some 76, .ld (.sc (.int .i64)) (.t 75), some (74, false)⟩,
 ⟨some 77, .cmp .lss (.c (Go.Value.int Go.IntKind.i64 (-1152921504606846976))) (.t 76), some (74, false)⟩,
 ⟨some 78, .mov (.t 77), some (74, false)⟩,
 ⟨some 79, .fad 3 (.t 12), some (78, true)⟩,
 ⟨some 80, .ld (.sc (.int .i64)) (.t 79), some (78, true)⟩,
 ⟨some 81, .cmp .lss (.t 80) (.c (Go.Value.int Go.IntKind.i64 1152921504606846976)), some (78, true)⟩,
 ⟨some 82, .pick (.t 78) (.t 81) (.c (Go.Value.bool false)), some (74, false)⟩,
 ⟨some 83, .pick (.t 74) (.c (Go.Value.bool true)) (.t 82), some (70, true)⟩,
 ⟨some 84, .pick (.t 70) (.t 83) (.c (Go.Value.bool false)), none⟩,
 ⟨some 13, .mov (.t 84), none⟩] [0, 1, 2, 7, 9, 10, 11, 12, 13])
def L_CblkKeeps_i1 : IC := (.block 1 (.seq (.reg [⟨some 46, .mov (.t 2), none⟩,
 ⟨some 47, .mov (.t 11), none⟩,
 ⟨some 48, .ids 4 (.t 46) (.t 47), none⟩,
 ⟨some 49, .ld (.agg [(.int .i64), (.int .i64), (.int .i64), (.int .i64)]) (.t 48), none⟩,
 ⟨some 12, .alc [.int .i64 0, .int .i64 0, .int .i64 0, .int .i64 0], none⟩,
 ⟨none, .st 4 (.t 12) (.t 49), none⟩] [0, 1, 2, 7, 9, 10, 11, 12]) (.seq (.opq 2 [0, 1, 2, 7, 9, 10, 11, 12] L_CblkKeeps_i2) (.seq (.seq (.reg [⟨some 85, .mov (.t 7), none⟩,
 ⟨some 86, .ld (.agg [(.int .i64), (.int .i64), (.int .i64), (.int .i64)]) (.t 12), none⟩,
 ⟨some 87, .call 32 [(.t 85), (.t 86)] (.one (.sc (.int .i64))), none⟩,
 ⟨some 88, .cmp .eql (.t 87) (.c (Go.Value.int Go.IntKind.i64 0)), none⟩,
 ⟨some 89, .mov (.t 13), none⟩,
 ⟨some 90, .eqb (.t 88) (.t 89) true, none⟩] [0, 1, 2, 7, 9, 10, 11, 12, 13, 90]) (.cond (.t 90) (.seq (.reg [⟨some 6, .mov (.c (Go.Value.bool false)), none⟩] [6]) .ret) .skip)) (.seq (.seq (.reg [⟨some 91, .mov (.t 13), none⟩,
 ⟨some 92, .lnot (.t 91), none⟩] [0, 1, 2, 7, 9, 10, 11, 12, 92]) (.cond (.t 92) (.exit 1) .skip)) (.seq (.reg [⟨some 93, .fad 2 (.t 12), none⟩,
 ⟨some 94, .ld (.sc (.int .i64)) (.t 93), none⟩,
 ⟨some 95, .mov (.t 0), none⟩,
 ⟨some 96, .bin .mul .i64 (.t 94) (.t 95), none⟩,
 ⟨some 97, .fad 1 (.t 12), none⟩,
 ⟨some 98, .ld (.sc (.int .i64)) (.t 97), none⟩,
 ⟨some 99, .bin .add .i64 (.t 96) (.t 98), none⟩,
 ⟨some 14, .mov (.t 99), none⟩] [0, 1, 2, 7, 9, 10, 11, 12, 14]) (.seq (.reg [⟨some 100, .fad 0 (.t 12), none⟩,
 ⟨some 101, .ld (.sc (.int .i64)) (.t 100), none⟩] [0, 1, 2, 7, 9, 10, 11, 12, 14, 101]) (.block 2 (.seq (.reg [⟨some 111, .cmp .eql (.t 101) (.c (Go.Value.int Go.IntKind.i64 0)), none⟩,
 ⟨some 110, .mov (.t 111), none⟩] [0, 1, 2, 7, 9, 10, 11, 12, 14, 101, 110]) (.cond (.t 110) (.reg [⟨some 112, .mov (.t 9), none⟩,
 ⟨some 113, .mov (.t 14), none⟩,
 ⟨some 114, .fad 3 (.t 12), none⟩,
 ⟨some 115, .ld (.sc (.int .i64)) (.t 114), none⟩,
 ⟨some 116, .ids 1 (.t 112) (.t 113), none⟩,
 ⟨none, .st 1 (.t 116) (.t 115), none⟩] [0, 1, 2, 7, 9, 10, 11]) (.seq (.reg [⟨some 118, .cmp .eql (.t 101) (.c (Go.Value.int Go.IntKind.i64 1)), none⟩,
 ⟨some 117, .mov (.t 118), none⟩] [0, 1, 2, 7, 9, 10, 11, 14, 101, 117]) (.cond (.t 117) (.reg [⟨some 119, .mov (.t 10), none⟩,
 ⟨some 120, .mov (.t 14), none⟩,
 ⟨some 121, .mov (.t 10), none⟩,
 ⟨some 122, .mov (.t 14), none⟩,
 ⟨some 123, .ids 1 (.t 121) (.t 122), none⟩,
 ⟨some 124, .ld (.sc (.int .i64)) (.t 123), none⟩,
 ⟨some 125, .bin .or .i64 (.t 124) (.c (Go.Value.int Go.IntKind.i64 1)), none⟩,
 ⟨some 126, .ids 1 (.t 119) (.t 120), none⟩,
 ⟨none, .st 1 (.t 126) (.t 125), none⟩] [0, 1, 2, 7, 9, 10, 11]) (.seq (.reg [⟨some 128, .cmp .eql (.t 101) (.c (Go.Value.int Go.IntKind.i64 2)), none⟩,
 ⟨some 127, .mov (.t 128), none⟩] [0, 1, 2, 7, 9, 10, 11, 14, 101, 127]) (.cond (.t 127) (.reg [⟨some 129, .mov (.t 10), none⟩,
 ⟨some 130, .mov (.t 14), none⟩,
 ⟨some 131, .mov (.t 10), none⟩,
 ⟨some 132, .mov (.t 14), none⟩,
 ⟨some 133, .ids 1 (.t 131) (.t 132), none⟩,
 ⟨some 134, .ld (.sc (.int .i64)) (.t 133), none⟩,
 ⟨some 135, .bin .or .i64 (.t 134) (.c (Go.Value.int Go.IntKind.i64 2)), none⟩,
 ⟨some 136, .ids 1 (.t 129) (.t 130), none⟩,
 ⟨none, .st 1 (.t 136) (.t 135), none⟩] [0, 1, 2, 7, 9, 10, 11]) (.seq (.reg [⟨some 138, .cmp .eql (.t 101) (.c (Go.Value.int Go.IntKind.i64 3)), none⟩,
 ⟨some 137, .mov (.t 138), none⟩] [0, 1, 2, 7, 9, 10, 11, 14, 137]) (.cond (.t 137) (.reg [⟨some 139, .mov (.t 10), none⟩,
 ⟨some 140, .mov (.t 14), none⟩,
 ⟨some 141, .mov (.t 10), none⟩,
 ⟨some 142, .mov (.t 14), none⟩,
 ⟨some 143, .ids 1 (.t 141) (.t 142), none⟩,
 ⟨some 144, .ld (.sc (.int .i64)) (.t 143), none⟩,
 ⟨some 145, .bin .andNot .i64 (.t 144) (.c (Go.Value.int Go.IntKind.i64 2)), none⟩,
 ⟨some 146, .ids 1 (.t 139) (.t 140), none⟩,
 ⟨none, .st 1 (.t 146) (.t 145), none⟩] [0, 1, 2, 7, 9, 10, 11]) (.reg [⟨some 102, .mov (.t 10), none⟩,
 ⟨some 103, .mov (.t 14), none⟩,
 ⟨some 104, .mov (.t 10), none⟩,
 ⟨some 105, .mov (.t 14), none⟩,
 ⟨some 106, .ids 1 (.t 104) (.t 105), none⟩,
 ⟨some 107, .ld (.sc (.int .i64)) (.t 106), none⟩,
 ⟨some 108, .bin .or .i64 (.t 107) (.c (Go.Value.int Go.IntKind.i64 4)), none⟩,
 ⟨some 109, .ids 1 (.t 102) (.t 103), none⟩,
 ⟨none, .st 1 (.t 109) (.t 108), none⟩] [0, 1, 2, 7, 9, 10, 11])))))))))))))))))
def L_CblkKeeps_i0 : IC := (.seq (.seq (.reg [⟨some 40, .mov (.t 11), none⟩,
 ⟨some 41, .mov (.t 2), none⟩,
 ⟨some 42, .len false (.t 41), none⟩,
 ⟨some 43, .cmp .lss (.t 40) (.t 42), none⟩] [0, 1, 2, 7, 9, 10, 11, 43]) (.cond (.t 43) .skip (.exit 0))) (.seq (.opq 1 [0, 1, 2, 7, 9, 10, 11] L_CblkKeeps_i1) (.reg [⟨some 44, .mov (.t 11), none⟩,
 ⟨some 45, .bin .add .i64 (.t 44) (.c (Go.Value.int Go.IntKind.i64 1)), none⟩,
 ⟨some 11, .mov (.t 45), none⟩] [0, 1, 2, 7, 9, 10, 11])))
def L_CblkKeeps_f : IFn := ⟨209, [.t 6], (.seq (.reg [⟨some 6, .mov (.c (Go.Value.bool false)), none⟩] [0, 1, 2]) (.seq (.seq (.reg [⟨some 18, .mov (.t 0), none⟩,
 ⟨some 19, .mov (.t 1), none⟩,
 ⟨some 20, .mov (.t 2), none⟩,
 ⟨some 21, .call 22 [(.t 18), (.t 19), (.t 20)] (.one (.sc .bool)), none⟩,
 ⟨some 22, .lnot (.t 21), none⟩] [0, 1, 2, 22]) (.cond (.t 22) (.seq (.reg [⟨some 23, .call 14 [] (.one (.sc .bool)), none⟩,
 ⟨some 6, .mov (.t 23), none⟩] [6]) .ret) .skip)) (.seq (.reg [⟨some 25, .mov (.t 0), none⟩,
 ⟨some 26, .mov (.t 1), none⟩,
 ⟨some 27, .call 31 [(.t 25), (.t 26)] (.tup [(.sc .ptr), (.sc (.int .i64))]), none⟩,
 ⟨some 24, .mov (.t 27), none⟩,
 ⟨some 28, .ext 0 (.t 24), none⟩,
 ⟨some 29, .ext 1 (.t 24), none⟩,
 ⟨some 7, .mov (.t 28), none⟩,
 ⟨some 8, .mov (.t 29), none⟩] [0, 1, 2, 7, 8]) (.seq (.seq (.reg [⟨some 30, .mov (.t 8), none⟩,
 ⟨some 31, .cmp .neq (.t 30) (.c (Go.Value.int Go.IntKind.i64 0)), none⟩] [0, 1, 2, 7, 31]) (.cond (.t 31) (.seq (.reg [⟨some 6, .mov (.c (Go.Value.bool false)), none⟩] [6]) .ret) .skip)) (.seq (.reg [⟨some 32, .mov (.t 0), none⟩,
 ⟨some 33, .mov (.t 1), none⟩,
 ⟨some 34, .bin .mul .i64 (.t 32) (.t 33), none⟩,
 ⟨some 35, .mks [.int .i64 0] 8 (.t 34) (.t 34), none⟩,
 ⟨some 9, .mov (.t 35), none⟩] [0, 1, 2, 7, 9]) (.seq (.reg [⟨some 36, .mov (.t 0), none⟩,
 ⟨some 37, .mov (.t 1), none⟩,
 ⟨some 38, .bin .mul .i64 (.t 36) (.t 37), none⟩,
 ⟨some 39, .mks [.int .i64 0] 8 (.t 38) (.t 38), none⟩,
 ⟨some 10, .mov (.t 39), none⟩] [0, 1, 2, 7, 9, 10]) (.seq (.seq (.reg [⟨some 11, .mov (.c (Go.Value.int Go.IntKind.i64 0)), none⟩] [0, 1, 2, 7, 9, 10, 11]) (.block 0 (.opq 0 [0, 1, 2, 7, 9, 10, 11] (.loop L_CblkKeeps_i0)))) (.seq (.seq (.reg [⟨some 15, .mov (.c (Go.Value.int Go.IntKind.i64 0)), none⟩] [0, 1, 7, 9, 10, 15]) (.block 3 (.opq 3 [0, 1, 7, 9, 10, 15] (.loop L_CblkKeeps_i3)))) (.seq (.reg [⟨some 208, .call 14 [] (.one (.sc .bool)), none⟩,
 ⟨some 6, .mov (.t 208), none⟩] [6]) .ret)))))))))⟩
theorem L_CblkKeeps_e5 {R : Type} (L_small : Int → Int → Option Addr → Nat → Nat → (Bool → Option R) → Option R) (L_exampleHoldsq : (Bool → Option R) → Option R) (cblk_New : Int → Int → Heap → (Option Addr → Int → Heap → Option R) → Option R) (L_do : Option Addr → Int → Int → Int → Int → Heap → (Int → Heap → Option R) → Option R) (cblk_Block_Value : Option Addr → Int → Int → Heap → (Int → Option R) → Option R) (cblk_Block_Significant : Option Addr → Int → Int → Heap → (Bool → Option R) → Option R) (cblk_Block_Touched : Option Addr → Int → Int → Heap → (Bool → Option R) → Option R) (cblk_Block_Refined : Option Addr → Int → Int → Heap → (Bool → Option R) → Option R) (L_CblkKeeps_l0 : (Int → Int → Option Addr → Option Addr → Nat → Nat → Option Addr → Nat → Nat → Heap → Option R) → (Bool → Heap → Option R) → Nat → Int → Int → Option Addr → Nat → Nat → Option Addr → Option Addr → Nat → Nat → Option Addr → Nat → Nat → Int → Heap → Option R) (L_CblkKeeps_p1 : Int → Int → Option Addr → Nat → Nat → Option Addr → Option Addr → Nat → Nat → Option Addr → Nat → Nat → Int → Heap → (Int → Int → Option Addr → Nat → Nat → Option Addr → Option Addr → Nat → Nat → Option Addr → Nat → Nat → Int → Heap → Option R) → (Bool → Heap → Option R) → Option R) (L_CblkKeeps_p2 : Int → Int → Option Addr → Nat → Nat → Option Addr → Option Addr → Nat → Nat → Option Addr → Nat → Nat → Int → Option Addr → Heap → (Int → Int → Option Addr → Nat → Nat → Option Addr → Option Addr → Nat → Nat → Option Addr → Nat → Nat → Int → Option Addr → Bool → Option R) → Option R) (L_CblkKeeps_l3 : (Unit → Option R) → (Bool → Option R) → Nat → Int → Int → Option Addr → Option Addr → Nat → Nat → Option Addr → Nat → Nat → Int → Heap → Option R) (L_CblkKeeps_l4 : (Int → Int → Option Addr → Option Addr → Nat → Nat → Option Addr → Nat → Nat → Int → Option R) → (Bool → Option R) → Nat → Int → Int → Option Addr → Option Addr → Nat → Nat → Option Addr → Nat → Nat → Int → Int → Heap → Option R) (L_CblkKeeps_p5 : Int → Int → Option Addr → Option Addr → Nat → Nat → Option Addr → Nat → Nat → Int → Int → Heap → (Int → Int → Option Addr → Option Addr → Nat → Nat → Option Addr → Nat → Nat → Int → Int → Option R) → (Bool → Option R) → Option R) (k : Nat) (n741 : Int) (n742 : Int) (p743 : Option Addr) (q744 : Option Addr) (l745 : Nat) (c746 : Nat) (q747 : Option Addr) (l748 : Nat) (c749 : Nat) (n750 : Int) (n751 : Int) (H : Heap) (K : Xit → Env → Heap → Option R) : evJ (L_CblkKeeps_Ct L_small L_exampleHoldsq cblk_New L_do cblk_Block_Value cblk_Block_Significant cblk_Block_Touched cblk_Block_Refined) (L_CblkKeeps_Jt k L_CblkKeeps_l0 L_CblkKeeps_p1 L_CblkKeeps_p2 L_CblkKeeps_l3 L_CblkKeeps_l4 L_CblkKeeps_p5) L_CblkKeeps_i5 (List.zip [0, 1, 7, 9, 10, 15, 16] [.int .i64 n741, .int .i64 n742, .pointer p743, .slice q744 l745 c746, .slice q747 l748 c749, .int .i64 n750, .int .i64 n751]) H (fun x e' H' => K x (clean e' ((⟨[0, 1, 7, 9, 10, 15, 16], [], [6]⟩ : Out).of x)) H') = L_CblkKeeps_p5_b cblk_Block_Value cblk_Block_Significant cblk_Block_Touched cblk_Block_Refined k n741 n742 p743 q744 l745 c746 q747 l748 c749 n750 n751 H (fun n1533 n1534 p1535 q1536 l1537 c1538 q1539 l1540 c1541 n1542 n1543 => K .normal [(0, .int .i64 n1533), (1, .int .i64 n1534), (7, .pointer p1535), (9, .slice q1536 l1537 c1538), (10, .slice q1539 l1540 c1541), (15, .int .i64 n1542), (16, .int .i64 n1543)] H) (fun t1544 => K .ret [(6, .bool t1544)] H) := by kernel_rfl
theorem L_CblkKeeps_j5 {R : Type} (k : Nat) : JS Try.prog 209 (L_CblkKeeps_a5 R k k) [0, 1, 7, 9, 10, 15, 16] ⟨[0, 1, 7, 9, 10, 15, 16], [], [6]⟩ (sel [1, 1, 1, 1, 1, 1, 1, 0, 1, 0, 0, 1, 0, 0, 1, 0, 0, 1, 0] (Try.f8.body.getD .skip)) :=
  piece_ok (nt := 209) (c := (sel [1, 1, 1, 1, 1, 1, 1, 0, 1, 0, 0, 1, 0, 0, 1, 0, 0, 1, 0] (Try.f8.body.getD .skip))) (C := L_CblkKeeps_C R k) (an := An) (t := (.node (.seq (.reg [0, 1, 7, 9, 10, 15, 16, 17] []) (.seq (.reg [0, 1, 7, 9, 10, 15, 16, 207] [[], [], [], [0, 1, 2], [], [], [], [5, 6], [], [5, 6, 7, 8], [4, 5, 6, 7, 8, 9], [4, 5, 6, 7, 8, 9, 10], [0, 1, 2, 3, 4, 5, 6, 7, 8, 9, 10, 11], [0, 1, 2, 3, 4, 5, 6, 7, 8, 9, 10, 11, 12], [0, 1, 2, 3, 4, 5, 6, 7, 8, 9, 10, 11, 12, 13], [0, 1, 2, 3, 4, 5, 6, 7, 8, 9, 10, 11, 12, 13], [0, 1, 2, 3, 4, 5, 6, 7, 8, 9, 10, 11, 12, 13], [0, 1, 2, 3, 4, 5, 6, 7, 8, 9, 10, 11, 12, 13, 14, 15, 16], [0, 1, 2, 3, 4, 5, 6, 7, 8, 9, 10, 11, 12, 13], [0, 1, 2, 3, 4, 5, 6, 7, 8, 9, 10, 11, 12, 13, 18], [0, 1, 2, 3, 4, 5, 6, 7, 8, 9, 10, 11, 12, 13, 18, 19], [0, 1, 2, 3, 4, 5, 6, 7, 8, 9, 10, 11, 12, 13, 14, 15, 16, 17, 18, 19, 20], [0, 1, 2, 3, 4, 5, 6, 7, 8, 9, 10, 11, 12, 13, 14, 15, 16, 17, 18, 19, 20, 21], [0, 1, 2, 3, 4, 5, 6, 7, 8, 9, 10, 11, 12, 13, 14, 15, 16, 17, 18, 19, 20, 21, 22], [0, 1, 2, 3, 4, 5, 6, 7, 8, 9, 10, 11, 12, 13, 14, 15, 16, 17, 18, 19, 20, 21, 22, 23], [0, 1, 2, 3, 4, 5, 6, 7, 8, 9, 10, 11, 12, 13, 14, 15, 16, 17, 18, 19, 20, 21, 22, 23], [0, 1, 2, 3, 4, 5, 6, 7, 8, 9, 10, 11, 12, 13, 14, 15, 16, 17, 18, 19, 20, 21, 22, 23], [0, 1, 2, 3, 4, 5, 6, 7, 8, 9, 10, 11, 12, 13, 14, 15, 16, 17, 18, 19, 20, 21, 22, 23, 24, 25, 26], [0, 1, 2, 3, 4, 5, 6, 7, 8, 9, 10, 11, 12, 13, 14, 15, 16, 17, 18, 19, 20, 21, 22, 23], [0, 1, 2, 3, 4, 5, 6, 7, 8, 9, 10, 11, 12, 13, 14, 15, 16, 17, 18, 19, 20, 21, 22, 23, 28], [0, 1, 2, 3, 4, 5, 6, 7, 8, 9, 10, 11, 12, 13, 14, 15, 16, 17, 18, 19, 20, 21, 22, 23, 28, 29], [0, 1, 2, 3, 4, 5, 6, 7, 8, 9, 10, 11, 12, 13, 14, 15, 16, 17, 18, 19, 20, 21, 22, 23, 24, 25, 26, 27, 28, 29, 30], [0, 1, 2, 3, 4, 5, 6, 7, 8, 9, 10, 11, 12, 13, 14, 15, 16, 17, 18, 19, 20, 21, 22, 23, 24, 25, 26, 27, 28, 29, 30, 31], [0, 1, 2, 3, 4, 5, 6, 7, 8, 9, 10, 11, 12, 13, 14, 15, 16, 17, 18, 19, 20, 21, 22, 23, 24, 25, 26, 27, 28, 29, 30, 31, 32], [0, 1, 2, 3, 4, 5, 6, 7, 8, 9, 10, 11, 12, 13, 14, 15, 16, 17, 18, 19, 20, 21, 22, 23, 24, 25, 26, 27, 28, 29, 30, 31, 32, 33], [0, 1, 2, 3, 4, 5, 6, 7, 8, 9, 10, 11, 12, 13, 14, 15, 16, 17, 18, 19, 20, 21, 22, 23, 24, 25, 26, 27, 28, 29, 30, 31, 32, 33], [0, 1, 2, 3, 4, 5, 6, 7, 8, 9, 10, 11, 12, 13, 14, 15, 16, 17, 18, 19, 20, 21, 22, 23, 24, 25, 26, 27, 28, 29, 30, 31, 32, 33], [0, 1, 2, 3, 4, 5, 6, 7, 8, 9, 10, 11, 12, 13, 14, 15, 16, 17, 18, 19, 20, 21, 22, 23, 24, 25, 26, 27, 28, 29, 30, 31, 32, 33, 34, 35, 36], [0, 1, 2, 3, 4, 5, 6, 7, 8, 9, 10, 11, 12, 13, 14, 15, 16, 17, 18, 19, 20, 21, 22, 23, 24, 25, 26, 27, 28, 29, 30, 31, 32, 33], [0, 1, 2, 3, 4, 5, 6, 7, 8, 9, 10, 11, 12, 13, 14, 15, 16, 17, 18, 19, 20, 21, 22, 23, 24, 25, 26, 27, 28, 29, 30, 31, 32, 33, 38], [0, 1, 2, 3, 4, 5, 6, 7, 8, 9, 10, 11, 12, 13, 14, 15, 16, 17, 18, 19, 20, 21, 22, 23, 24, 25, 26, 27, 28, 29, 30, 31, 32, 33, 38, 39], [0, 1, 2, 3, 4, 5, 6, 7, 8, 9, 10, 11, 12, 13, 14, 15, 16, 17, 18, 19, 20, 21, 22, 23, 24, 25, 26, 27, 28, 29, 30, 31, 32, 33, 34, 35, 36, 37, 38, 39, 40], [0, 1, 2, 3, 4, 5, 6, 7, 8, 9, 10, 11, 12, 13, 14, 15, 16, 17, 18, 19, 20, 21, 22, 23, 24, 25, 26, 27, 28, 29, 30, 31, 32, 33, 34, 35, 36, 37, 38, 39, 40, 41]]) (.cond (.seq (.reg [6] []) .leaf) .leaf))))) (ic := L_CblkKeeps_i5) (L_CblkKeeps_S R k) (L_CblkKeeps_J R k) (by kernel_rfl) (And.intro True.intro (And.intro True.intro (And.intro (And.intro True.intro True.intro) True.intro))) (L_CblkKeeps_a5 R k k)
    (fun vals H K r h => by
      unfold L_CblkKeeps_a5 L_CblkKeeps_aa5 at h
      split at h <;> first | (cases h; done) | exact Eq.trans (L_CblkKeeps_e5 L_small L_exampleHoldsq cblk_New (L_do k) (cblk_Block_Value k) (cblk_Block_Significant k) (cblk_Block_Touched k) (cblk_Block_Refined k) (L_CblkKeeps_l0 k) (L_CblkKeeps_p1 k) (L_CblkKeeps_p2 k) (L_CblkKeeps_l3 k) (L_CblkKeeps_l4 k) (L_CblkKeeps_p5 k) k _ _ _ _ _ _ _ _ _ _ _ H K) h)
theorem L_CblkKeeps_e4 {R : Type} (L_small : Int → Int → Option Addr → Nat → Nat → (Bool → Option R) → Option R) (L_exampleHoldsq : (Bool → Option R) → Option R) (cblk_New : Int → Int → Heap → (Option Addr → Int → Heap → Option R) → Option R) (L_do : Option Addr → Int → Int → Int → Int → Heap → (Int → Heap → Option R) → Option R) (cblk_Block_Value : Option Addr → Int → Int → Heap → (Int → Option R) → Option R) (cblk_Block_Significant : Option Addr → Int → Int → Heap → (Bool → Option R) → Option R) (cblk_Block_Touched : Option Addr → Int → Int → Heap → (Bool → Option R) → Option R) (cblk_Block_Refined : Option Addr → Int → Int → Heap → (Bool → Option R) → Option R) (L_CblkKeeps_l0 : (Int → Int → Option Addr → Option Addr → Nat → Nat → Option Addr → Nat → Nat → Heap → Option R) → (Bool → Heap → Option R) → Nat → Int → Int → Option Addr → Nat → Nat → Option Addr → Option Addr → Nat → Nat → Option Addr → Nat → Nat → Int → Heap → Option R) (L_CblkKeeps_p1 : Int → Int → Option Addr → Nat → Nat → Option Addr → Option Addr → Nat → Nat → Option Addr → Nat → Nat → Int → Heap → (Int → Int → Option Addr → Nat → Nat → Option Addr → Option Addr → Nat → Nat → Option Addr → Nat → Nat → Int → Heap → Option R) → (Bool → Heap → Option R) → Option R) (L_CblkKeeps_p2 : Int → Int → Option Addr → Nat → Nat → Option Addr → Option Addr → Nat → Nat → Option Addr → Nat → Nat → Int → Option Addr → Heap → (Int → Int → Option Addr → Nat → Nat → Option Addr → Option Addr → Nat → Nat → Option Addr → Nat → Nat → Int → Option Addr → Bool → Option R) → Option R) (L_CblkKeeps_l3 : (Unit → Option R) → (Bool → Option R) → Nat → Int → Int → Option Addr → Option Addr → Nat → Nat → Option Addr → Nat → Nat → Int → Heap → Option R) (L_CblkKeeps_l4 : (Int → Int → Option Addr → Option Addr → Nat → Nat → Option Addr → Nat → Nat → Int → Option R) → (Bool → Option R) → Nat → Int → Int → Option Addr → Option Addr → Nat → Nat → Option Addr → Nat → Nat → Int → Int → Heap → Option R) (L_CblkKeeps_p5 : Int → Int → Option Addr → Option Addr → Nat → Nat → Option Addr → Nat → Nat → Int → Int → Heap → (Int → Int → Option Addr → Option Addr → Nat → Nat → Option Addr → Nat → Nat → Int → Int → Option R) → (Bool → Option R) → Option R) (k n : Nat) (n730 : Int) (n731 : Int) (p732 : Option Addr) (q733 : Option Addr) (l734 : Nat) (c735 : Nat) (q736 : Option Addr) (l737 : Nat) (c738 : Nat) (n739 : Int) (n740 : Int) (H : Heap) (K : Xit → Env → Heap → Option R) : evJ (L_CblkKeeps_Ct L_small L_exampleHoldsq cblk_New L_do cblk_Block_Value cblk_Block_Significant cblk_Block_Touched cblk_Block_Refined) (L_CblkKeeps_Jt k L_CblkKeeps_l0 L_CblkKeeps_p1 L_CblkKeeps_p2 L_CblkKeeps_l3 L_CblkKeeps_l4 L_CblkKeeps_p5) L_CblkKeeps_i4 (List.zip [0, 1, 7, 9, 10, 15, 16] [.int .i64 n730, .int .i64 n731, .pointer p732, .slice q733 l734 c735, .slice q736 l737 c738, .int .i64 n739, .int .i64 n740]) H (fun x e' H' => match x with | .normal => L_CblkKeeps_aa4 L_CblkKeeps_l4 n ((clean e' [0, 1, 7, 9, 10, 15, 16]).map (·.2)) H' K | x => K x (clean e' ((⟨[], [(5, [0, 1, 7, 9, 10, 15])], [6]⟩ : Out).of x)) H') = L_CblkKeeps_l4_b L_CblkKeeps_p5 (L_CblkKeeps_l4 (fun n1522 n1523 p1524 q1525 l1526 c1527 q1528 l1529 c1530 n1531 => K (.exit 5) [(0, .int .i64 n1522), (1, .int .i64 n1523), (7, .pointer p1524), (9, .slice q1525 l1526 c1527), (10, .slice q1528 l1529 c1530), (15, .int .i64 n1531)] H) (fun t1532 => K .ret [(6, .bool t1532)] H) n) (fun n1522 n1523 p1524 q1525 l1526 c1527 q1528 l1529 c1530 n1531 => K (.exit 5) [(0, .int .i64 n1522), (1, .int .i64 n1523), (7, .pointer p1524), (9, .slice q1525 l1526 c1527), (10, .slice q1528 l1529 c1530), (15, .int .i64 n1531)] H) (fun t1532 => K .ret [(6, .bool t1532)] H) k n730 n731 p732 q733 l734 c735 q736 l737 c738 n739 n740 H := by kernel_rfl
theorem L_CblkKeeps_j4 {R : Type} (k : Nat) : JS Try.prog 209 (L_CblkKeeps_a4 R k k) [0, 1, 7, 9, 10, 15, 16] ⟨[], [(5, [0, 1, 7, 9, 10, 15])], [6]⟩ (.loop (sel [1, 1, 1, 1, 1, 1, 1, 0, 1, 0, 0, 1, 0, 0, 1, 0, 0] (Try.f8.body.getD .skip))) :=
  loop_ok (nt := 209) (c := (sel [1, 1, 1, 1, 1, 1, 1, 0, 1, 0, 0, 1, 0, 0, 1, 0, 0] (Try.f8.body.getD .skip))) (C := L_CblkKeeps_C R k) (an := An) (t := (.seq (.seq (.reg [0, 1, 7, 9, 10, 15, 16, 154] []) (.cond .leaf .leaf)) (.seq (.opq 5 [0, 1, 7, 9, 10, 15, 16] ⟨[0, 1, 7, 9, 10, 15, 16], [], [6]⟩ (.node (.seq (.reg [0, 1, 7, 9, 10, 15, 16, 17] []) (.seq (.reg [0, 1, 7, 9, 10, 15, 16, 207] [[], [], [], [0, 1, 2], [], [], [], [5, 6], [], [5, 6, 7, 8], [4, 5, 6, 7, 8, 9], [4, 5, 6, 7, 8, 9, 10], [0, 1, 2, 3, 4, 5, 6, 7, 8, 9, 10, 11], [0, 1, 2, 3, 4, 5, 6, 7, 8, 9, 10, 11, 12], [0, 1, 2, 3, 4, 5, 6, 7, 8, 9, 10, 11, 12, 13], [0, 1, 2, 3, 4, 5, 6, 7, 8, 9, 10, 11, 12, 13], [0, 1, 2, 3, 4, 5, 6, 7, 8, 9, 10, 11, 12, 13], [0, 1, 2, 3, 4, 5, 6, 7, 8, 9, 10, 11, 12, 13, 14, 15, 16], [0, 1, 2, 3, 4, 5, 6, 7, 8, 9, 10, 11, 12, 13], [0, 1, 2, 3, 4, 5, 6, 7, 8, 9, 10, 11, 12, 13, 18], [0, 1, 2, 3, 4, 5, 6, 7, 8, 9, 10, 11, 12, 13, 18, 19], [0, 1, 2, 3, 4, 5, 6, 7, 8, 9, 10, 11, 12, 13, 14, 15, 16, 17, 18, 19, 20], [0, 1, 2, 3, 4, 5, 6, 7, 8, 9, 10, 11, 12, 13, 14, 15, 16, 17, 18, 19, 20, 21], [0, 1, 2, 3, 4, 5, 6, 7, 8, 9, 10, 11, 12, 13, 14, 15, 16, 17, 18, 19, 20, 21, 22], [0, 1, 2, 3, 4, 5, 6, 7, 8, 9, 10, 11, 12, 13, 14, 15, 16, 17, 18, 19, 20, 21, 22, 23], [0, 1, 2, 3, 4, 5, 6, 7, 8, 9, 10, 11, 12, 13, 14, 15, 16, 17, 18, 19, 20, 21, 22, 23], [0, 1, 2, 3, 4, 5, 6, 7, 8, 9, 10, 11, 12, 13, 14, 15, 16, 17, 18, 19, 20, 21, 22, 23], [0, 1, 2, 3, 4, 5, 6, 7, 8, 9, 10, 11, 12, 13, 14, 15, 16, 17, 18, 19, 20, 21, 22, 23, 24, 25, 26], [0, 1, 2, 3, 4, 5, 6, 7, 8, 9, 10, 11, 12, 13, 14, 15, 16, 17, 18, 19, 20, 21, 22, 23], [0, 1, 2, 3, 4, 5, 6, 7, 8, 9, 10, 11, 12, 13, 14, 15, 16, 17, 18, 19, 20, 21, 22, 23, 28], [0, 1, 2, 3, 4, 5, 6, 7, 8, 9, 10, 11, 12, 13, 14, 15, 16, 17, 18, 19, 20, 21, 22, 23, 28, 29], [0, 1, 2, 3, 4, 5, 6, 7, 8, 9, 10, 11, 12, 13, 14, 15, 16, 17, 18, 19, 20, 21, 22, 23, 24, 25, 26, 27, 28, 29, 30], [0, 1, 2, 3, 4, 5, 6, 7, 8, 9, 10, 11, 12, 13, 14, 15, 16, 17, 18, 19, 20, 21, 22, 23, 24, 25, 26, 27, 28, 29, 30, 31], [0, 1, 2, 3, 4, 5, 6, 7, 8, 9, 10, 11, 12, 13, 14, 15, 16, 17, 18, 19, 20, 21, 22, 23, 24, 25, 26, 27, 28, 29, 30, 31, 32], [0, 1, 2, 3, 4, 5, 6, 7, 8, 9, 10, 11, 12, 13, 14, 15, 16, 17, 18, 19, 20, 21, 22, 23, 24, 25, 26, 27, 28, 29, 30, 31, 32, 33], [0, 1, 2, 3, 4, 5, 6, 7, 8, 9, 10, 11, 12, 13, 14, 15, 16, 17, 18, 19, 20, 21, 22, 23, 24, 25, 26, 27, 28, 29, 30, 31, 32, 33], [0, 1, 2, 3, 4, 5, 6, 7, 8, 9, 10, 11, 12, 13, 14, 15, 16, 17, 18, 19, 20, 21, 22, 23, 24, 25, 26, 27, 28, 29, 30, 31, 32, 33], [0, 1, 2, 3, 4, 5, 6, 7, 8, 9, 10, 11, 12, 13, 14, 15, 16, 17, 18, 19, 20, 21, 22, 23, 24, 25, 26, 27, 28, 29, 30, 31, 32, 33, 34, 35, 36], [0, 1, 2, 3, 4, 5, 6, 7, 8, 9, 10, 11, 12, 13, 14, 15, 16, 17, 18, 19, 20, 21, 22, 23, 24, 25, 26, 27, 28, 29, 30, 31, 32, 33], [0, 1, 2, 3, 4, 5, 6, 7, 8, 9, 10, 11, 12, 13, 14, 15, 16, 17, 18, 19, 20, 21, 22, 23, 24, 25, 26, 27, 28, 29, 30, 31, 32, 33, 38], [0, 1, 2, 3, 4, 5, 6, 7, 8, 9, 10, 11, 12, 13, 14, 15, 16, 17, 18, 19, 20, 21, 22, 23, 24, 25, 26, 27, 28, 29, 30, 31, 32, 33, 38, 39], [0, 1, 2, 3, 4, 5, 6, 7, 8, 9, 10, 11, 12, 13, 14, 15, 16, 17, 18, 19, 20, 21, 22, 23, 24, 25, 26, 27, 28, 29, 30, 31, 32, 33, 34, 35, 36, 37, 38, 39, 40], [0, 1, 2, 3, 4, 5, 6, 7, 8, 9, 10, 11, 12, 13, 14, 15, 16, 17, 18, 19, 20, 21, 22, 23, 24, 25, 26, 27, 28, 29, 30, 31, 32, 33, 34, 35, 36, 37, 38, 39, 40, 41]]) (.cond (.seq (.reg [6] []) .leaf) .leaf))))) (.reg [0, 1, 7, 9, 10, 15, 16] [])))) (ic := L_CblkKeeps_i4) (L_CblkKeeps_S R k) (L_CblkKeeps_J R k) (by kernel_rfl) (And.intro (And.intro True.intro (And.intro True.intro True.intro)) (And.intro (L_CblkKeeps_j5 k) True.intro)) (L_CblkKeeps_a4 R k) (fun vals H K => by unfold L_CblkKeeps_a4 L_CblkKeeps_aa4; split <;> rfl)
    (fun n vals H K r h => by
      unfold L_CblkKeeps_a4 L_CblkKeeps_aa4 at h
      split at h <;> first | (cases h; done) | exact Eq.trans (L_CblkKeeps_e4 L_small L_exampleHoldsq cblk_New (L_do k) (cblk_Block_Value k) (cblk_Block_Significant k) (cblk_Block_Touched k) (cblk_Block_Refined k) (L_CblkKeeps_l0 k) (L_CblkKeeps_p1 k) (L_CblkKeeps_p2 k) (L_CblkKeeps_l3 k) (L_CblkKeeps_l4 k) (L_CblkKeeps_p5 k) k n _ _ _ _ _ _ _ _ _ _ _ H K) h) k
theorem L_CblkKeeps_e3 {R : Type} (L_small : Int → Int → Option Addr → Nat → Nat → (Bool → Option R) → Option R) (L_exampleHoldsq : (Bool → Option R) → Option R) (cblk_New : Int → Int → Heap → (Option Addr → Int → Heap → Option R) → Option R) (L_do : Option Addr → Int → Int → Int → Int → Heap → (Int → Heap → Option R) → Option R) (cblk_Block_Value : Option Addr → Int → Int → Heap → (Int → Option R) → Option R) (cblk_Block_Significant : Option Addr → Int → Int → Heap → (Bool → Option R) → Option R) (cblk_Block_Touched : Option Addr → Int → Int → Heap → (Bool → Option R) → Option R) (cblk_Block_Refined : Option Addr → Int → Int → Heap → (Bool → Option R) → Option R) (L_CblkKeeps_l0 : (Int → Int → Option Addr → Option Addr → Nat → Nat → Option Addr → Nat → Nat → Heap → Option R) → (Bool → Heap → Option R) → Nat → Int → Int → Option Addr → Nat → Nat → Option Addr → Option Addr → Nat → Nat → Option Addr → Nat → Nat → Int → Heap → Option R) (L_CblkKeeps_p1 : Int → Int → Option Addr → Nat → Nat → Option Addr → Option Addr → Nat → Nat → Option Addr → Nat → Nat → Int → Heap → (Int → Int → Option Addr → Nat → Nat → Option Addr → Option Addr → Nat → Nat → Option Addr → Nat → Nat → Int → Heap → Option R) → (Bool → Heap → Option R) → Option R) (L_CblkKeeps_p2 : Int → Int → Option Addr → Nat → Nat → Option Addr → Option Addr → Nat → Nat → Option Addr → Nat → Nat → Int → Option Addr → Heap → (Int → Int → Option Addr → Nat → Nat → Option Addr → Option Addr → Nat → Nat → Option Addr → Nat → Nat → Int → Option Addr → Bool → Option R) → Option R) (L_CblkKeeps_l3 : (Unit → Option R) → (Bool → Option R) → Nat → Int → Int → Option Addr → Option Addr → Nat → Nat → Option Addr → Nat → Nat → Int → Heap → Option R) (L_CblkKeeps_l4 : (Int → Int → Option Addr → Option Addr → Nat → Nat → Option Addr → Nat → Nat → Int → Option R) → (Bool → Option R) → Nat → Int → Int → Option Addr → Option Addr → Nat → Nat → Option Addr → Nat → Nat → Int → Int → Heap → Option R) (L_CblkKeeps_p5 : Int → Int → Option Addr → Option Addr → Nat → Nat → Option Addr → Nat → Nat → Int → Int → Heap → (Int → Int → Option Addr → Option Addr → Nat → Nat → Option Addr → Nat → Nat → Int → Int → Option R) → (Bool → Option R) → Option R) (k n : Nat) (n720 : Int) (n721 : Int) (p722 : Option Addr) (q723 : Option Addr) (l724 : Nat) (c725 : Nat) (q726 : Option Addr) (l727 : Nat) (c728 : Nat) (n729 : Int) (H : Heap) (K : Xit → Env → Heap → Option R) : evJ (L_CblkKeeps_Ct L_small L_exampleHoldsq cblk_New L_do cblk_Block_Value cblk_Block_Significant cblk_Block_Touched cblk_Block_Refined) (L_CblkKeeps_Jt k L_CblkKeeps_l0 L_CblkKeeps_p1 L_CblkKeeps_p2 L_CblkKeeps_l3 L_CblkKeeps_l4 L_CblkKeeps_p5) L_CblkKeeps_i3 (List.zip [0, 1, 7, 9, 10, 15] [.int .i64 n720, .int .i64 n721, .pointer p722, .slice q723 l724 c725, .slice q726 l727 c728, .int .i64 n729]) H (fun x e' H' => match x with | .normal => L_CblkKeeps_aa3 L_CblkKeeps_l3 n ((clean e' [0, 1, 7, 9, 10, 15]).map (·.2)) H' K | x => K x (clean e' ((⟨[], [(3, [])], [6]⟩ : Out).of x)) H') = L_CblkKeeps_l3_b L_CblkKeeps_l4 (L_CblkKeeps_l3 (fun _ => K (.exit 3) [] H) (fun t1521 => K .ret [(6, .bool t1521)] H) n) (fun _ => K (.exit 3) [] H) (fun t1521 => K .ret [(6, .bool t1521)] H) k n720 n721 p722 q723 l724 c725 q726 l727 c728 n729 H := by kernel_rfl
theorem L_CblkKeeps_j3 {R : Type} (k : Nat) : JS Try.prog 209 (L_CblkKeeps_a3 R k k) [0, 1, 7, 9, 10, 15] ⟨[], [(3, [])], [6]⟩ (.loop (sel [1, 1, 1, 1, 1, 1, 1, 0, 1, 0, 0] (Try.f8.body.getD .skip))) :=
  loop_ok (nt := 209) (c := (sel [1, 1, 1, 1, 1, 1, 1, 0, 1, 0, 0] (Try.f8.body.getD .skip))) (C := L_CblkKeeps_C R k) (an := An) (t := (.seq (.seq (.reg [0, 1, 7, 9, 10, 15, 149] []) (.cond .leaf .leaf)) (.seq (.node (.seq (.reg [0, 1, 7, 9, 10, 15, 16] []) (.node (.opq 4 [0, 1, 7, 9, 10, 15, 16] ⟨[], [(5, [0, 1, 7, 9, 10, 15])], [6]⟩ (.node (.seq (.seq (.reg [0, 1, 7, 9, 10, 15, 16, 154] []) (.cond .leaf .leaf)) (.seq (.opq 5 [0, 1, 7, 9, 10, 15, 16] ⟨[0, 1, 7, 9, 10, 15, 16], [], [6]⟩ (.node (.seq (.reg [0, 1, 7, 9, 10, 15, 16, 17] []) (.seq (.reg [0, 1, 7, 9, 10, 15, 16, 207] [[], [], [], [0, 1, 2], [], [], [], [5, 6], [], [5, 6, 7, 8], [4, 5, 6, 7, 8, 9], [4, 5, 6, 7, 8, 9, 10], [0, 1, 2, 3, 4, 5, 6, 7, 8, 9, 10, 11], [0, 1, 2, 3, 4, 5, 6, 7, 8, 9, 10, 11, 12], [0, 1, 2, 3, 4, 5, 6, 7, 8, 9, 10, 11, 12, 13], [0, 1, 2, 3, 4, 5, 6, 7, 8, 9, 10, 11, 12, 13], [0, 1, 2, 3, 4, 5, 6, 7, 8, 9, 10, 11, 12, 13], [0, 1, 2, 3, 4, 5, 6, 7, 8, 9, 10, 11, 12, 13, 14, 15, 16], [0, 1, 2, 3, 4, 5, 6, 7, 8, 9, 10, 11, 12, 13], [0, 1, 2, 3, 4, 5, 6, 7, 8, 9, 10, 11, 12, 13, 18], [0, 1, 2, 3, 4, 5, 6, 7, 8, 9, 10, 11, 12, 13, 18, 19], [0, 1, 2, 3, 4, 5, 6, 7, 8, 9, 10, 11, 12, 13, 14, 15, 16, 17, 18, 19, 20], [0, 1, 2, 3, 4, 5, 6, 7, 8, 9, 10, 11, 12, 13, 14, 15, 16, 17, 18, 19, 20, 21], [0, 1, 2, 3, 4, 5, 6, 7, 8, 9, 10, 11, 12, 13, 14, 15, 16, 17, 18, 19, 20, 21, 22], [0, 1, 2, 3, 4, 5, 6, 7, 8, 9, 10, 11, 12, 13, 14, 15, 16, 17, 18, 19, 20, 21, 22, 23], [0, 1, 2, 3, 4, 5, 6, 7, 8, 9, 10, 11, 12, 13, 14, 15, 16, 17, 18, 19, 20, 21, 22, 23], [0, 1, 2, 3, 4, 5, 6, 7, 8, 9, 10, 11, 12, 13, 14, 15, 16, 17, 18, 19, 20, 21, 22, 23], [0, 1, 2, 3, 4, 5, 6, 7, 8, 9, 10, 11, 12, 13, 14, 15, 16, 17, 18, 19, 20, 21, 22, 23, 24, 25, 26], [0, 1, 2, 3, 4, 5, 6, 7, 8, 9, 10, 11, 12, 13, 14, 15, 16, 17, 18, 19, 20, 21, 22, 23], [0, 1, 2, 3, 4, 5, 6, 7, 8, 9, 10, 11, 12, 13, 14, 15, 16, 17, 18, 19, 20, 21, 22, 23, 28], [0, 1, 2, 3, 4, 5, 6, 7, 8, 9, 10, 11, 12, 13, 14, 15, 16, 17, 18, 19, 20, 21, 22, 23, 28, 29], [0, 1, 2, 3, 4, 5, 6, 7, 8, 9, 10, 11, 12, 13, 14, 15, 16, 17, 18, 19, 20, 21, 22, 23, 24, 25, 26, 27, 28, 29, 30], [0, 1, 2, 3, 4, 5, 6, 7, 8, 9, 10, 11, 12, 13, 14, 15, 16, 17, 18, 19, 20, 21, 22, 23, 24, 25, 26, 27, 28, 29, 30, 31], [0, 1, 2, 3, 4, 5, 6, 7, 8, 9, 10, 11, 12, 13, 14, 15, 16, 17, 18, 19, 20, 21, 22, 23, 24, 25, 26, 27, 28, 29, 30, 31, 32], [0, 1, 2, 3, 4, 5, 6, 7, 8, 9, 10, 11, 12, 13, 14, 15, 16, 17, 18, 19, 20, 21, 22, 23, 24, 25, 26, 27, 28, 29, 30, 31, 32, 33], [0, 1, 2, 3, 4, 5, 6, 7, 8, 9, 10, 11, 12, 13, 14, 15, 16, 17, 18, 19, 20, 21, 22, 23, 24, 25, 26, 27, 28, 29, 30, 31, 32, 33], [0, 1, 2, 3, 4, 5, 6, 7, 8, 9, 10, 11, 12, 13, 14, 15, 16, 17, 18, 19, 20, 21, 22, 23, 24, 25, 26, 27, 28, 29, 30, 31, 32, 33], [0, 1, 2, 3, 4, 5, 6, 7, 8, 9, 10, 11, 12, 13, 14, 15, 16, 17, 18, 19, 20, 21, 22, 23, 24, 25, 26, 27, 28, 29, 30, 31, 32, 33, 34, 35, 36], [0, 1, 2, 3, 4, 5, 6, 7, 8, 9, 10, 11, 12, 13, 14, 15, 16, 17, 18, 19, 20, 21, 22, 23, 24, 25, 26, 27, 28, 29, 30, 31, 32, 33], [0, 1, 2, 3, 4, 5, 6, 7, 8, 9, 10, 11, 12, 13, 14, 15, 16, 17, 18, 19, 20, 21, 22, 23, 24, 25, 26, 27, 28, 29, 30, 31, 32, 33, 38], [0, 1, 2, 3, 4, 5, 6, 7, 8, 9, 10, 11, 12, 13, 14, 15, 16, 17, 18, 19, 20, 21, 22, 23, 24, 25, 26, 27, 28, 29, 30, 31, 32, 33, 38, 39], [0, 1, 2, 3, 4, 5, 6, 7, 8, 9, 10, 11, 12, 13, 14, 15, 16, 17, 18, 19, 20, 21, 22, 23, 24, 25, 26, 27, 28, 29, 30, 31, 32, 33, 34, 35, 36, 37, 38, 39, 40], [0, 1, 2, 3, 4, 5, 6, 7, 8, 9, 10, 11, 12, 13, 14, 15, 16, 17, 18, 19, 20, 21, 22, 23, 24, 25, 26, 27, 28, 29, 30, 31, 32, 33, 34, 35, 36, 37, 38, 39, 40, 41]]) (.cond (.seq (.reg [6] []) .leaf) .leaf))))) (.reg [0, 1, 7, 9, 10, 15, 16] [])))))))) (.reg [0, 1, 7, 9, 10, 15] [])))) (ic := L_CblkKeeps_i3) (L_CblkKeeps_S R k) (L_CblkKeeps_J R k) (by kernel_rfl) (And.intro (And.intro True.intro (And.intro True.intro True.intro)) (And.intro (And.intro True.intro (L_CblkKeeps_j4 k)) True.intro)) (L_CblkKeeps_a3 R k) (fun vals H K => by unfold L_CblkKeeps_a3 L_CblkKeeps_aa3; split <;> rfl)
    (fun n vals H K r h => by
      unfold L_CblkKeeps_a3 L_CblkKeeps_aa3 at h
      split at h <;> first | (cases h; done) | exact Eq.trans (L_CblkKeeps_e3 L_small L_exampleHoldsq cblk_New (L_do k) (cblk_Block_Value k) (cblk_Block_Significant k) (cblk_Block_Touched k) (cblk_Block_Refined k) (L_CblkKeeps_l0 k) (L_CblkKeeps_p1 k) (L_CblkKeeps_p2 k) (L_CblkKeeps_l3 k) (L_CblkKeeps_l4 k) (L_CblkKeeps_p5 k) k n _ _ _ _ _ _ _ _ _ _ H K) h) k
theorem L_CblkKeeps_e2 {R : Type} (L_small : Int → Int → Option Addr → Nat → Nat → (Bool → Option R) → Option R) (L_exampleHoldsq : (Bool → Option R) → Option R) (cblk_New : Int → Int → Heap → (Option Addr → Int → Heap → Option R) → Option R) (L_do : Option Addr → Int → Int → Int → Int → Heap → (Int → Heap → Option R) → Option R) (cblk_Block_Value : Option Addr → Int → Int → Heap → (Int → Option R) → Option R) (cblk_Block_Significant : Option Addr → Int → Int → Heap → (Bool → Option R) → Option R) (cblk_Block_Touched : Option Addr → Int → Int → Heap → (Bool → Option R) → Option R) (cblk_Block_Refined : Option Addr → Int → Int → Heap → (Bool → Option R) → Option R) (L_CblkKeeps_l0 : (Int → Int → Option Addr → Option Addr → Nat → Nat → Option Addr → Nat → Nat → Heap → Option R) → (Bool → Heap → Option R) → Nat → Int → Int → Option Addr → Nat → Nat → Option Addr → Option Addr → Nat → Nat → Option Addr → Nat → Nat → Int → Heap → Option R) (L_CblkKeeps_p1 : Int → Int → Option Addr → Nat → Nat → Option Addr → Option Addr → Nat → Nat → Option Addr → Nat → Nat → Int → Heap → (Int → Int → Option Addr → Nat → Nat → Option Addr → Option Addr → Nat → Nat → Option Addr → Nat → Nat → Int → Heap → Option R) → (Bool → Heap → Option R) → Option R) (L_CblkKeeps_p2 : Int → Int → Option Addr → Nat → Nat → Option Addr → Option Addr → Nat → Nat → Option Addr → Nat → Nat → Int → Option Addr → Heap → (Int → Int → Option Addr → Nat → Nat → Option Addr → Option Addr → Nat → Nat → Option Addr → Nat → Nat → Int → Option Addr → Bool → Option R) → Option R) (L_CblkKeeps_l3 : (Unit → Option R) → (Bool → Option R) → Nat → Int → Int → Option Addr → Option Addr → Nat → Nat → Option Addr → Nat → Nat → Int → Heap → Option R) (L_CblkKeeps_l4 : (Int → Int → Option Addr → Option Addr → Nat → Nat → Option Addr → Nat → Nat → Int → Option R) → (Bool → Option R) → Nat → Int → Int → Option Addr → Option Addr → Nat → Nat → Option Addr → Nat → Nat → Int → Int → Heap → Option R) (L_CblkKeeps_p5 : Int → Int → Option Addr → Option Addr → Nat → Nat → Option Addr → Nat → Nat → Int → Int → Heap → (Int → Int → Option Addr → Option Addr → Nat → Nat → Option Addr → Nat → Nat → Int → Int → Option R) → (Bool → Option R) → Option R) (k : Nat) (n576 : Int) (n577 : Int) (q578 : Option Addr) (l579 : Nat) (c580 : Nat) (p581 : Option Addr) (q582 : Option Addr) (l583 : Nat) (c584 : Nat) (q585 : Option Addr) (l586 : Nat) (c587 : Nat) (n588 : Int) (p589 : Option Addr) (H : Heap) (K : Xit → Env → Heap → Option R) : evJ (L_CblkKeeps_Ct L_small L_exampleHoldsq cblk_New L_do cblk_Block_Value cblk_Block_Significant cblk_Block_Touched cblk_Block_Refined) (L_CblkKeeps_Jt k L_CblkKeeps_l0 L_CblkKeeps_p1 L_CblkKeeps_p2 L_CblkKeeps_l3 L_CblkKeeps_l4 L_CblkKeeps_p5) L_CblkKeeps_i2 (List.zip [0, 1, 2, 7, 9, 10, 11, 12] [.int .i64 n576, .int .i64 n577, .slice q578 l579 c580, .pointer p581, .slice q582 l583 c584, .slice q585 l586 c587, .int .i64 n588, .pointer p589]) H (fun x e' H' => K x (clean e' ((⟨[0, 1, 2, 7, 9, 10, 11, 12, 13], [], []⟩ : Out).of x)) H') = L_CblkKeeps_p2_b k n576 n577 q578 l579 c580 p581 q582 l583 c584 q585 l586 c587 n588 p589 H (fun n1506 n1507 q1508 l1509 c1510 p1511 q1512 l1513 c1514 q1515 l1516 c1517 n1518 p1519 t1520 => K .normal [(0, .int .i64 n1506), (1, .int .i64 n1507), (2, .slice q1508 l1509 c1510), (7, .pointer p1511), (9, .slice q1512 l1513 c1514), (10, .slice q1515 l1516 c1517), (11, .int .i64 n1518), (12, .pointer p1519), (13, .bool t1520)] H) := by kernel_rfl
theorem L_CblkKeeps_j2 {R : Type} (k : Nat) : JS Try.prog 209 (L_CblkKeeps_a2 R k k) [0, 1, 2, 7, 9, 10, 11, 12] ⟨[0, 1, 2, 7, 9, 10, 11, 12, 13], [], []⟩ (sel [1, 1, 1, 1, 1, 1, 0, 1, 0, 0, 1, 0, 0, 1, 0] (Try.f8.body.getD .skip)) :=
  piece_ok (nt := 209) (c := (sel [1, 1, 1, 1, 1, 1, 0, 1, 0, 0, 1, 0, 0, 1, 0] (Try.f8.body.getD .skip))) (C := L_CblkKeeps_C R k) (an := An) (t := (.reg [0, 1, 2, 7, 9, 10, 11, 12, 13] [])) (ic := L_CblkKeeps_i2) (L_CblkKeeps_S R k) (L_CblkKeeps_J R k) (by kernel_rfl) True.intro (L_CblkKeeps_a2 R k k)
    (fun vals H K r h => by
      unfold L_CblkKeeps_a2 L_CblkKeeps_aa2 at h
      split at h <;> first | (cases h; done) | exact Eq.trans (L_CblkKeeps_e2 L_small L_exampleHoldsq cblk_New (L_do k) (cblk_Block_Value k) (cblk_Block_Significant k) (cblk_Block_Touched k) (cblk_Block_Refined k) (L_CblkKeeps_l0 k) (L_CblkKeeps_p1 k) (L_CblkKeeps_p2 k) (L_CblkKeeps_l3 k) (L_CblkKeeps_l4 k) (L_CblkKeeps_p5 k) k _ _ _ _ _ _ _ _ _ _ _ _ _ _ H K) h)
theorem L_CblkKeeps_e1 {R : Type} (L_small : Int → Int → Option Addr → Nat → Nat → (Bool → Option R) → Option R) (L_exampleHoldsq : (Bool → Option R) → Option R) (cblk_New : Int → Int → Heap → (Option Addr → Int → Heap → Option R) → Option R) (L_do : Option Addr → Int → Int → Int → Int → Heap → (Int → Heap → Option R) → Option R) (cblk_Block_Value : Option Addr → Int → Int → Heap → (Int → Option R) → Option R) (cblk_Block_Significant : Option Addr → Int → Int → Heap → (Bool → Option R) → Option R) (cblk_Block_Touched : Option Addr → Int → Int → Heap → (Bool → Option R) → Option R) (cblk_Block_Refined : Option Addr → Int → Int → Heap → (Bool → Option R) → Option R) (L_CblkKeeps_l0 : (Int → Int → Option Addr → Option Addr → Nat → Nat → Option Addr → Nat → Nat → Heap → Option R) → (Bool → Heap → Option R) → Nat → Int → Int → Option Addr → Nat → Nat → Option Addr → Option Addr → Nat → Nat → Option Addr → Nat → Nat → Int → Heap → Option R) (L_CblkKeeps_p1 : Int → Int → Option Addr → Nat → Nat → Option Addr → Option Addr → Nat → Nat → Option Addr → Nat → Nat → Int → Heap → (Int → Int → Option Addr → Nat → Nat → Option Addr → Option Addr → Nat → Nat → Option Addr → Nat → Nat → Int → Heap → Option R) → (Bool → Heap → Option R) → Option R) (L_CblkKeeps_p2 : Int → Int → Option Addr → Nat → Nat → Option Addr → Option Addr → Nat → Nat → Option Addr → Nat → Nat → Int → Option Addr → Heap → (Int → Int → Option Addr → Nat → Nat → Option Addr → Option Addr → Nat → Nat → Option Addr → Nat → Nat → Int → Option Addr → Bool → Option R) → Option R) (L_CblkKeeps_l3 : (Unit → Option R) → (Bool → Option R) → Nat → Int → Int → Option Addr → Option Addr → Nat → Nat → Option Addr → Nat → Nat → Int → Heap → Option R) (L_CblkKeeps_l4 : (Int → Int → Option Addr → Option Addr → Nat → Nat → Option Addr → Nat → Nat → Int → Option R) → (Bool → Option R) → Nat → Int → Int → Option Addr → Option Addr → Nat → Nat → Option Addr → Nat → Nat → Int → Int → Heap → Option R) (L_CblkKeeps_p5 : Int → Int → Option Addr → Option Addr → Nat → Nat → Option Addr → Nat → Nat → Int → Int → Heap → (Int → Int → Option Addr → Option Addr → Nat → Nat → Option Addr → Nat → Nat → Int → Int → Option R) → (Bool → Option R) → Option R) (k : Nat) (n555 : Int) (n556 : Int) (q557 : Option Addr) (l558 : Nat) (c559 : Nat) (p560 : Option Addr) (q561 : Option Addr) (l562 : Nat) (c563 : Nat) (q564 : Option Addr) (l565 : Nat) (c566 : Nat) (n567 : Int) (H : Heap) (K : Xit → Env → Heap → Option R) : evJ (L_CblkKeeps_Ct L_small L_exampleHoldsq cblk_New L_do cblk_Block_Value cblk_Block_Significant cblk_Block_Touched cblk_Block_Refined) (L_CblkKeeps_Jt k L_CblkKeeps_l0 L_CblkKeeps_p1 L_CblkKeeps_p2 L_CblkKeeps_l3 L_CblkKeeps_l4 L_CblkKeeps_p5) L_CblkKeeps_i1 (List.zip [0, 1, 2, 7, 9, 10, 11] [.int .i64 n555, .int .i64 n556, .slice q557 l558 c559, .pointer p560, .slice q561 l562 c563, .slice q564 l565 c566, .int .i64 n567]) H (fun x e' H' => K x (clean e' ((⟨[0, 1, 2, 7, 9, 10, 11], [], [6]⟩ : Out).of x)) H') = L_CblkKeeps_p1_b L_CblkKeeps_p2 L_do k n555 n556 q557 l558 c559 p560 q561 l562 c563 q564 l565 c566 n567 H (fun n1492 n1493 q1494 l1495 c1496 p1497 q1498 l1499 c1500 q1501 l1502 c1503 n1504 H => K .normal [(0, .int .i64 n1492), (1, .int .i64 n1493), (2, .slice q1494 l1495 c1496), (7, .pointer p1497), (9, .slice q1498 l1499 c1500), (10, .slice q1501 l1502 c1503), (11, .int .i64 n1504)] H) (fun t1505 H => K .ret [(6, .bool t1505)] H) := by kernel_rfl
theorem L_CblkKeeps_j1 {R : Type} (k : Nat) : JS Try.prog 209 (L_CblkKeeps_a1 R k k) [0, 1, 2, 7, 9, 10, 11] ⟨[0, 1, 2, 7, 9, 10, 11], [], [6]⟩ (sel [1, 1, 1, 1, 1, 1, 0, 1, 0, 0, 1, 0] (Try.f8.body.getD .skip)) :=
  piece_ok (nt := 209) (c := (sel [1, 1, 1, 1, 1, 1, 0, 1, 0, 0, 1, 0] (Try.f8.body.getD .skip))) (C := L_CblkKeeps_C R k) (an := An) (t := (.node (.seq (.reg [0, 1, 2, 7, 9, 10, 11, 12] []) (.seq (.opq 2 [0, 1, 2, 7, 9, 10, 11, 12] ⟨[0, 1, 2, 7, 9, 10, 11, 12, 13], [], []⟩ (.reg [0, 1, 2, 7, 9, 10, 11, 12, 13] [])) (.seq (.seq (.reg [0, 1, 2, 7, 9, 10, 11, 12, 13, 90] []) (.cond (.seq (.reg [6] []) .leaf) .leaf)) (.seq (.seq (.reg [0, 1, 2, 7, 9, 10, 11, 12, 92] []) (.cond .leaf .leaf)) (.seq (.reg [0, 1, 2, 7, 9, 10, 11, 12, 14] []) (.seq (.reg [0, 1, 2, 7, 9, 10, 11, 12, 14, 101] []) (.node (.seq (.reg [0, 1, 2, 7, 9, 10, 11, 12, 14, 101, 110] []) (.cond (.reg [0, 1, 2, 7, 9, 10, 11] []) (.seq (.reg [0, 1, 2, 7, 9, 10, 11, 14, 101, 117] []) (.cond (.reg [0, 1, 2, 7, 9, 10, 11] []) (.seq (.reg [0, 1, 2, 7, 9, 10, 11, 14, 101, 127] []) (.cond (.reg [0, 1, 2, 7, 9, 10, 11] []) (.seq (.reg [0, 1, 2, 7, 9, 10, 11, 14, 137] []) (.cond (.reg [0, 1, 2, 7, 9, 10, 11] []) (.reg [0, 1, 2, 7, 9, 10, 11] [])))))))))))))))))) (ic := L_CblkKeeps_i1) (L_CblkKeeps_S R k) (L_CblkKeeps_J R k) (by kernel_rfl) (And.intro True.intro (And.intro (L_CblkKeeps_j2 k) (And.intro (And.intro True.intro (And.intro (And.intro True.intro True.intro) True.intro)) (And.intro (And.intro True.intro (And.intro True.intro True.intro)) (And.intro True.intro (And.intro True.intro (And.intro True.intro (And.intro True.intro (And.intro True.intro (And.intro True.intro (And.intro True.intro (And.intro True.intro (And.intro True.intro (And.intro True.intro True.intro)))))))))))))) (L_CblkKeeps_a1 R k k)
    (fun vals H K r h => by
      unfold L_CblkKeeps_a1 L_CblkKeeps_aa1 at h
      split at h <;> first | (cases h; done) | exact Eq.trans (L_CblkKeeps_e1 L_small L_exampleHoldsq cblk_New (L_do k) (cblk_Block_Value k) (cblk_Block_Significant k) (cblk_Block_Touched k) (cblk_Block_Refined k) (L_CblkKeeps_l0 k) (L_CblkKeeps_p1 k) (L_CblkKeeps_p2 k) (L_CblkKeeps_l3 k) (L_CblkKeeps_l4 k) (L_CblkKeeps_p5 k) k _ _ _ _ _ _ _ _ _ _ _ _ _ H K) h)
theorem L_CblkKeeps_e0 {R : Type} (L_small : Int → Int → Option Addr → Nat → Nat → (Bool → Option R) → Option R) (L_exampleHoldsq : (Bool → Option R) → Option R) (cblk_New : Int → Int → Heap → (Option Addr → Int → Heap → Option R) → Option R) (L_do : Option Addr → Int → Int → Int → Int → Heap → (Int → Heap → Option R) → Option R) (cblk_Block_Value : Option Addr → Int → Int → Heap → (Int → Option R) → Option R) (cblk_Block_Significant : Option Addr → Int → Int → Heap → (Bool → Option R) → Option R) (cblk_Block_Touched : Option Addr → Int → Int → Heap → (Bool → Option R) → Option R) (cblk_Block_Refined : Option Addr → Int → Int → Heap → (Bool → Option R) → Option R) (L_CblkKeeps_l0 : (Int → Int → Option Addr → Option Addr → Nat → Nat → Option Addr → Nat → Nat → Heap → Option R) → (Bool → Heap → Option R) → Nat → Int → Int → Option Addr → Nat → Nat → Option Addr → Option Addr → Nat → Nat → Option Addr → Nat → Nat → Int → Heap → Option R) (L_CblkKeeps_p1 : Int → Int → Option Addr → Nat → Nat → Option Addr → Option Addr → Nat → Nat → Option Addr → Nat → Nat → Int → Heap → (Int → Int → Option Addr → Nat → Nat → Option Addr → Option Addr → Nat → Nat → Option Addr → Nat → Nat → Int → Heap → Option R) → (Bool → Heap → Option R) → Option R) (L_CblkKeeps_p2 : Int → Int → Option Addr → Nat → Nat → Option Addr → Option Addr → Nat → Nat → Option Addr → Nat → Nat → Int → Option Addr → Heap → (Int → Int → Option Addr → Nat → Nat → Option Addr → Option Addr → Nat → Nat → Option Addr → Nat → Nat → Int → Option Addr → Bool → Option R) → Option R) (L_CblkKeeps_l3 : (Unit → Option R) → (Bool → Option R) → Nat → Int → Int → Option Addr → Option Addr → Nat → Nat → Option Addr → Nat → Nat → Int → Heap → Option R) (L_CblkKeeps_l4 : (Int → Int → Option Addr → Option Addr → Nat → Nat → Option Addr → Nat → Nat → Int → Option R) → (Bool → Option R) → Nat → Int → Int → Option Addr → Option Addr → Nat → Nat → Option Addr → Nat → Nat → Int → Int → Heap → Option R) (L_CblkKeeps_p5 : Int → Int → Option Addr → Option Addr → Nat → Nat → Option Addr → Nat → Nat → Int → Int → Heap → (Int → Int → Option Addr → Option Addr → Nat → Nat → Option Addr → Nat → Nat → Int → Int → Option R) → (Bool → Option R) → Option R) (k n : Nat) (n542 : Int) (n543 : Int) (q544 : Option Addr) (l545 : Nat) (c546 : Nat) (p547 : Option Addr) (q548 : Option Addr) (l549 : Nat) (c550 : Nat) (q551 : Option Addr) (l552 : Nat) (c553 : Nat) (n554 : Int) (H : Heap) (K : Xit → Env → Heap → Option R) : evJ (L_CblkKeeps_Ct L_small L_exampleHoldsq cblk_New L_do cblk_Block_Value cblk_Block_Significant cblk_Block_Touched cblk_Block_Refined) (L_CblkKeeps_Jt k L_CblkKeeps_l0 L_CblkKeeps_p1 L_CblkKeeps_p2 L_CblkKeeps_l3 L_CblkKeeps_l4 L_CblkKeeps_p5) L_CblkKeeps_i0 (List.zip [0, 1, 2, 7, 9, 10, 11] [.int .i64 n542, .int .i64 n543, .slice q544 l545 c546, .pointer p547, .slice q548 l549 c550, .slice q551 l552 c553, .int .i64 n554]) H (fun x e' H' => match x with | .normal => L_CblkKeeps_aa0 L_CblkKeeps_l0 n ((clean e' [0, 1, 2, 7, 9, 10, 11]).map (·.2)) H' K | x => K x (clean e' ((⟨[], [(0, [0, 1, 7, 9, 10])], [6]⟩ : Out).of x)) H') = L_CblkKeeps_l0_b L_CblkKeeps_p1 (L_CblkKeeps_l0 (fun n1482 n1483 p1484 q1485 l1486 c1487 q1488 l1489 c1490 H => K (.exit 0) [(0, .int .i64 n1482), (1, .int .i64 n1483), (7, .pointer p1484), (9, .slice q1485 l1486 c1487), (10, .slice q1488 l1489 c1490)] H) (fun t1491 H => K .ret [(6, .bool t1491)] H) n) (fun n1482 n1483 p1484 q1485 l1486 c1487 q1488 l1489 c1490 H => K (.exit 0) [(0, .int .i64 n1482), (1, .int .i64 n1483), (7, .pointer p1484), (9, .slice q1485 l1486 c1487), (10, .slice q1488 l1489 c1490)] H) (fun t1491 H => K .ret [(6, .bool t1491)] H) k n542 n543 q544 l545 c546 p547 q548 l549 c550 q551 l552 c553 n554 H := by kernel_rfl
theorem L_CblkKeeps_j0 {R : Type} (k : Nat) : JS Try.prog 209 (L_CblkKeeps_a0 R k k) [0, 1, 2, 7, 9, 10, 11] ⟨[], [(0, [0, 1, 7, 9, 10])], [6]⟩ (.loop (sel [1, 1, 1, 1, 1, 1, 0, 1, 0, 0] (Try.f8.body.getD .skip))) :=
  loop_ok (nt := 209) (c := (sel [1, 1, 1, 1, 1, 1, 0, 1, 0, 0] (Try.f8.body.getD .skip))) (C := L_CblkKeeps_C R k) (an := An) (t := (.seq (.seq (.reg [0, 1, 2, 7, 9, 10, 11, 43] []) (.cond .leaf .leaf)) (.seq (.opq 1 [0, 1, 2, 7, 9, 10, 11] ⟨[0, 1, 2, 7, 9, 10, 11], [], [6]⟩ (.node (.seq (.reg [0, 1, 2, 7, 9, 10, 11, 12] []) (.seq (.opq 2 [0, 1, 2, 7, 9, 10, 11, 12] ⟨[0, 1, 2, 7, 9, 10, 11, 12, 13], [], []⟩ (.reg [0, 1, 2, 7, 9, 10, 11, 12, 13] [])) (.seq (.seq (.reg [0, 1, 2, 7, 9, 10, 11, 12, 13, 90] []) (.cond (.seq (.reg [6] []) .leaf) .leaf)) (.seq (.seq (.reg [0, 1, 2, 7, 9, 10, 11, 12, 92] []) (.cond .leaf .leaf)) (.seq (.reg [0, 1, 2, 7, 9, 10, 11, 12, 14] []) (.seq (.reg [0, 1, 2, 7, 9, 10, 11, 12, 14, 101] []) (.node (.seq (.reg [0, 1, 2, 7, 9, 10, 11, 12, 14, 101, 110] []) (.cond (.reg [0, 1, 2, 7, 9, 10, 11] []) (.seq (.reg [0, 1, 2, 7, 9, 10, 11, 14, 101, 117] []) (.cond (.reg [0, 1, 2, 7, 9, 10, 11] []) (.seq (.reg [0, 1, 2, 7, 9, 10, 11, 14, 101, 127] []) (.cond (.reg [0, 1, 2, 7, 9, 10, 11] []) (.seq (.reg [0, 1, 2, 7, 9, 10, 11, 14, 137] []) (.cond (.reg [0, 1, 2, 7, 9, 10, 11] []) (.reg [0, 1, 2, 7, 9, 10, 11] [])))))))))))))))))) (.reg [0, 1, 2, 7, 9, 10, 11] [])))) (ic := L_CblkKeeps_i0) (L_CblkKeeps_S R k) (L_CblkKeeps_J R k) (by kernel_rfl) (And.intro (And.intro True.intro (And.intro True.intro True.intro)) (And.intro (L_CblkKeeps_j1 k) True.intro)) (L_CblkKeeps_a0 R k) (fun vals H K => by unfold L_CblkKeeps_a0 L_CblkKeeps_aa0; split <;> rfl)
    (fun n vals H K r h => by
      unfold L_CblkKeeps_a0 L_CblkKeeps_aa0 at h
      split at h <;> first | (cases h; done) | exact Eq.trans (L_CblkKeeps_e0 L_small L_exampleHoldsq cblk_New (L_do k) (cblk_Block_Value k) (cblk_Block_Significant k) (cblk_Block_Touched k) (cblk_Block_Refined k) (L_CblkKeeps_l0 k) (L_CblkKeeps_p1 k) (L_CblkKeeps_p2 k) (L_CblkKeeps_l3 k) (L_CblkKeeps_l4 k) (L_CblkKeeps_p5 k) k n _ _ _ _ _ _ _ _ _ _ _ _ _ H K) h) k
def L_CblkKeeps_ca {R : Type} (f : Int → Int → Option Addr → Nat → Nat → Heap → (Bool → Heap → Option R) → Option R) (args : List Value) (H : Heap) (K : Value → Heap → Option R) : Option R :=
  match args with
  | [.int .i64 n524, .int .i64 n525, .slice q526 l527 c528] => f n524 n525 q526 l527 c528 H (fun t1545 H => K (.bool t1545) H)
  | _ => none
def L_CblkKeeps_c (R : Type) (k : Nat) (args : List Value) (H : Heap) (K : Value → Heap → Option R) : Option R := L_CblkKeeps_ca (L_CblkKeeps k) args H K
theorem L_CblkKeeps_e {R : Type} (L_small : Int → Int → Option Addr → Nat → Nat → (Bool → Option R) → Option R) (L_exampleHoldsq : (Bool → Option R) → Option R) (cblk_New : Int → Int → Heap → (Option Addr → Int → Heap → Option R) → Option R) (L_do : Option Addr → Int → Int → Int → Int → Heap → (Int → Heap → Option R) → Option R) (cblk_Block_Value : Option Addr → Int → Int → Heap → (Int → Option R) → Option R) (cblk_Block_Significant : Option Addr → Int → Int → Heap → (Bool → Option R) → Option R) (cblk_Block_Touched : Option Addr → Int → Int → Heap → (Bool → Option R) → Option R) (cblk_Block_Refined : Option Addr → Int → Int → Heap → (Bool → Option R) → Option R) (L_CblkKeeps_l0 : (Int → Int → Option Addr → Option Addr → Nat → Nat → Option Addr → Nat → Nat → Heap → Option R) → (Bool → Heap → Option R) → Nat → Int → Int → Option Addr → Nat → Nat → Option Addr → Option Addr → Nat → Nat → Option Addr → Nat → Nat → Int → Heap → Option R) (L_CblkKeeps_p1 : Int → Int → Option Addr → Nat → Nat → Option Addr → Option Addr → Nat → Nat → Option Addr → Nat → Nat → Int → Heap → (Int → Int → Option Addr → Nat → Nat → Option Addr → Option Addr → Nat → Nat → Option Addr → Nat → Nat → Int → Heap → Option R) → (Bool → Heap → Option R) → Option R) (L_CblkKeeps_p2 : Int → Int → Option Addr → Nat → Nat → Option Addr → Option Addr → Nat → Nat → Option Addr → Nat → Nat → Int → Option Addr → Heap → (Int → Int → Option Addr → Nat → Nat → Option Addr → Option Addr → Nat → Nat → Option Addr → Nat → Nat → Int → Option Addr → Bool → Option R) → Option R) (L_CblkKeeps_l3 : (Unit → Option R) → (Bool → Option R) → Nat → Int → Int → Option Addr → Option Addr → Nat → Nat → Option Addr → Nat → Nat → Int → Heap → Option R) (L_CblkKeeps_l4 : (Int → Int → Option Addr → Option Addr → Nat → Nat → Option Addr → Nat → Nat → Int → Option R) → (Bool → Option R) → Nat → Int → Int → Option Addr → Option Addr → Nat → Nat → Option Addr → Nat → Nat → Int → Int → Heap → Option R) (L_CblkKeeps_p5 : Int → Int → Option Addr → Option Addr → Nat → Nat → Option Addr → Nat → Nat → Int → Int → Heap → (Int → Int → Option Addr → Option Addr → Nat → Nat → Option Addr → Nat → Nat → Int → Int → Option R) → (Bool → Option R) → Option R) (k : Nat) (n524 : Int) (n525 : Int) (q526 : Option Addr) (l527 : Nat) (c528 : Nat) (H : Heap) (K : Value → Heap → Option R) : evF (L_CblkKeeps_Ct L_small L_exampleHoldsq cblk_New L_do cblk_Block_Value cblk_Block_Significant cblk_Block_Touched cblk_Block_Refined) (L_CblkKeeps_Jt k L_CblkKeeps_l0 L_CblkKeeps_p1 L_CblkKeeps_p2 L_CblkKeeps_l3 L_CblkKeeps_l4 L_CblkKeeps_p5) L_CblkKeeps_f [.int .i64 n524, .int .i64 n525, .slice q526 l527 c528] H K = L_CblkKeeps_b L_small L_exampleHoldsq cblk_New L_CblkKeeps_l0 L_CblkKeeps_l3 k n524 n525 q526 l527 c528 H (fun t1545 H => K (.bool t1545) H) := by kernel_rfl
theorem L_CblkKeeps_cs (R : Type) (k : Nat) : ∀ args H K r, L_CblkKeeps_c R k args H K = some r → ∃ v H', Tri Try.prog 8 args H v H' ∧ K v H' = some r := by
  intro args H K r h
  unfold L_CblkKeeps_c L_CblkKeeps_ca at h
  split at h
  · exact evF_ok (C := L_CblkKeeps_C R k) (an := An) (t := L_CblkKeeps_at) (fn := Try.f8) (c := (Try.f8.body.getD .skip)) (ifn := L_CblkKeeps_f) (L_CblkKeeps_S R k) (L_CblkKeeps_J R k) Try.func8 (by kernel_rfl) (by kernel_rfl) (And.intro True.intro (And.intro (And.intro True.intro (And.intro (And.intro True.intro True.intro) True.intro)) (And.intro True.intro (And.intro (And.intro True.intro (And.intro (And.intro True.intro True.intro) True.intro)) (And.intro True.intro (And.intro True.intro (And.intro (And.intro True.intro (L_CblkKeeps_j0 k)) (And.intro (And.intro True.intro (L_CblkKeeps_j3 k)) (And.intro True.intro True.intro))))))))) rfl (Eq.trans (L_CblkKeeps_e L_small L_exampleHoldsq cblk_New (L_do k) (cblk_Block_Value k) (cblk_Block_Significant k) (cblk_Block_Touched k) (cblk_Block_Refined k) (L_CblkKeeps_l0 k) (L_CblkKeeps_p1 k) (L_CblkKeeps_p2 k) (L_CblkKeeps_l3 k) (L_CblkKeeps_l4 k) (L_CblkKeeps_p5 k) k _ _ _ _ _ H K) h)
  · cases h
/-! ### cblk_Block_Size: function 37 -/
def cblk_Block_Size_b {R : Type} (k : Nat) (p852 : Option Addr) (H : Heap) (K : Int → Int → Option R) : Option R :=
bif p852.isNone then (K 0 0)
 else (hnil p852 fun p853 =>
hfad 0 p853 fun p854 =>
ldI .i64 H p854 fun n855 =>
hnil p852 fun p856 =>
hfad 1 p856 fun p857 =>
ldI .i64 H p857 fun n858 =>
K n855 n858)

def cblk_Block_Size {R : Type} (p852 : Option Addr) (H : Heap) (K : Int → Int → Option R) : Option R := cblk_Block_Size_b 0 p852 H K

def cblk_Block_Size_Ct {R : Type} : Tab R := fun _ _ _ _ => none
def cblk_Block_Size_C (R : Type) (k : Nat) : Tab R := cblk_Block_Size_Ct
theorem cblk_Block_Size_S (R : Type) (k : Nat) : CSound Try.prog (cblk_Block_Size_C R k) := csound_nil
def cblk_Block_Size_Jt {R : Type} (k : Nat) : JTab R := fun _ _ _ _ => none
def cblk_Block_Size_J (R : Type) (k : Nat) : JTab R := cblk_Block_Size_Jt k
def cblk_Block_Size_at : AT := (.seq (.reg [0] []) (.seq (.seq (.reg [0, 5] []) (.cond (.seq (.reg [2, 3] []) .leaf) .leaf)) (.seq (.reg [2, 3] [[], [0], [0, 1], [0, 1, 2], [], [4], [4, 5], [4, 5, 6], [0, 1, 2, 3], [0, 1, 2, 3, 4, 5, 6, 7, 8]]) .leaf)))
def cblk_Block_Size_f : IFn := ⟨14, [.t 2, .t 3], (.seq (.reg [⟨some 2, .mov (.c (Go.Value.int Go.IntKind.i64 0)), none⟩,
 ⟨some 3, .mov (.c (Go.Value.int Go.IntKind.i64 0)), none⟩] [0]) (.seq (.seq (.reg [⟨some 4, .mov (.t 0), none⟩,
 ⟨some 5, .eqnil (.t 4) false 0, none⟩] [0, 5]) (.cond (.t 5) (.seq (.reg [⟨some 2, .mov (.c (Go.Value.int Go.IntKind.i64 0)), none⟩,
 ⟨some 3, .mov (.c (Go.Value.int Go.IntKind.i64 0)), none⟩] [2, 3]) .ret) .skip)) (.seq (.reg [⟨some 6, .mov (.t 0), none⟩,
 ⟨some 7, .nilc (.t 6), none⟩,
 ⟨some 8, .fad 0 (.t 7), none⟩,
 ⟨some 9, .ld (.sc (.int .i64)) (.t 8), none⟩,
 ⟨some 10, .mov (.t 0), none⟩,
 ⟨some 11, .nilc (.t 10), none⟩,
 ⟨some 12, .fad 1 (.t 11), none⟩,
 ⟨some 13, .ld (.sc (.int .i64)) (.t 12), none⟩,
 ⟨some 2, .mov (.t 9), none⟩,
 ⟨some 3, .mov (.t 13), none⟩] [2, 3]) .ret)))⟩
def cblk_Block_Size_ca {R : Type} (f : Option Addr → Heap → (Int → Int → Option R) → Option R) (args : List Value) (H : Heap) (K : Value → Heap → Option R) : Option R :=
  match args with
  | [.pointer p852] => f p852 H (fun n1546 n1547 => K (.tuple ⟨[.int .i64 n1546, .int .i64 n1547]⟩) H)
  | _ => none
def cblk_Block_Size_c (R : Type) (k : Nat) (args : List Value) (H : Heap) (K : Value → Heap → Option R) : Option R := cblk_Block_Size_ca cblk_Block_Size args H K
theorem cblk_Block_Size_e {R : Type} (k : Nat) (p852 : Option Addr) (H : Heap) (K : Value → Heap → Option R) : evF (cblk_Block_Size_Ct) (cblk_Block_Size_Jt k) cblk_Block_Size_f [.pointer p852] H K = cblk_Block_Size_b k p852 H (fun n1546 n1547 => K (.tuple ⟨[.int .i64 n1546, .int .i64 n1547]⟩) H) := by kernel_rfl
theorem cblk_Block_Size_cs (R : Type) (k : Nat) : ∀ args H K r, cblk_Block_Size_c R k args H K = some r → ∃ v H', Tri Try.prog 37 args H v H' ∧ K v H' = some r := by
  intro args H K r h
  unfold cblk_Block_Size_c cblk_Block_Size_ca at h
  split at h
  · exact evF_ok (C := cblk_Block_Size_C R 0) (an := An) (t := cblk_Block_Size_at) (fn := Try.f37) (c := (Try.f37.body.getD .skip)) (ifn := cblk_Block_Size_f) (cblk_Block_Size_S R 0) (cblk_Block_Size_J R 0) Try.func37 (by kernel_rfl) (by kernel_rfl) (And.intro True.intro (And.intro (And.intro True.intro (And.intro (And.intro True.intro True.intro) True.intro)) (And.intro True.intro True.intro))) rfl (Eq.trans (cblk_Block_Size_e 0 _ H K) h)
  · cases h
/-! ### R14_Block_Value: function 57 -/
def R14_Block_Value_b {R : Type} (R14_Block_get : Option Addr → Int → Int → Heap → (Int → Bool → Bool → Bool → Heap → Option R) → Option R) (k : Nat) (p964 : Option Addr) (n965 : Int) (n966 : Int) (H : Heap) (K : Int → Heap → Option R) : Option R :=
R14_Block_get p964 n965 n966 H fun n967 t968 t969 t970 H971 =>
K n967 H971

def R14_Block_Value {R : Type} (p964 : Option Addr) (n965 : Int) (n966 : Int) (H : Heap) (K : Int → Heap → Option R) : Option R := R14_Block_Value_b R14_Block_get 0 p964 n965 n966 H K

def R14_Block_Value_Ct {R : Type} (R14_Block_get : Option Addr → Int → Int → Heap → (Int → Bool → Bool → Bool → Heap → Option R) → Option R) : Tab R := tcons 66 (R14_Block_get_ca R14_Block_get) <| fun _ _ _ _ => none
def R14_Block_Value_C (R : Type) (k : Nat) : Tab R := R14_Block_Value_Ct R14_Block_get
theorem R14_Block_Value_S (R : Type) (k : Nat) : CSound Try.prog (R14_Block_Value_C R k) := csound_cons (R14_Block_get_cs R k) <| csound_nil
def R14_Block_Value_Jt {R : Type} (k : Nat) : JTab R := fun _ _ _ _ => none
def R14_Block_Value_J (R : Type) (k : Nat) : JTab R := R14_Block_Value_Jt k
def R14_Block_Value_at : AT := (.seq (.reg [0, 1, 2] []) (.seq (.reg [6] []) .leaf))
def R14_Block_Value_f : IFn := ⟨12, [.t 6], (.seq (.reg [⟨some 6, .mov (.c (Go.Value.int Go.IntKind.i64 0)), none⟩] [0, 1, 2]) (.seq (.reg [⟨some 7, .mov (.t 0), none⟩,
 ⟨some 8, .mov (.t 1), none⟩,
 ⟨some 9, .mov (.t 2), none⟩,
 ⟨some 10, .call 66 [(.t 7), (.t 8), (.t 9)] (.one (.agg [(.int .i64), .bool, .bool, .bool])), none⟩,
 ⟨some 11, .fld 0 1 (.sc (.int .i64)) (.t 10), none⟩,
 ⟨some 6, .mov (.t 11), none⟩] [6]) .ret))⟩
def R14_Block_Value_ca {R : Type} (f : Option Addr → Int → Int → Heap → (Int → Heap → Option R) → Option R) (args : List Value) (H : Heap) (K : Value → Heap → Option R) : Option R :=
  match args with
  | [.pointer p964, .int .i64 n965, .int .i64 n966] => f p964 n965 n966 H (fun n1548 H => K (.int .i64 n1548) H)
  | _ => none
def R14_Block_Value_c (R : Type) (k : Nat) (args : List Value) (H : Heap) (K : Value → Heap → Option R) : Option R := R14_Block_Value_ca R14_Block_Value args H K
theorem R14_Block_Value_e {R : Type} (R14_Block_get : Option Addr → Int → Int → Heap → (Int → Bool → Bool → Bool → Heap → Option R) → Option R) (k : Nat) (p964 : Option Addr) (n965 : Int) (n966 : Int) (H : Heap) (K : Value → Heap → Option R) : evF (R14_Block_Value_Ct R14_Block_get) (R14_Block_Value_Jt k) R14_Block_Value_f [.pointer p964, .int .i64 n965, .int .i64 n966] H K = R14_Block_Value_b R14_Block_get k p964 n965 n966 H (fun n1548 H => K (.int .i64 n1548) H) := by kernel_rfl
theorem R14_Block_Value_cs (R : Type) (k : Nat) : ∀ args H K r, R14_Block_Value_c R k args H K = some r → ∃ v H', Tri Try.prog 57 args H v H' ∧ K v H' = some r := by
  intro args H K r h
  unfold R14_Block_Value_c R14_Block_Value_ca at h
  split at h
  · exact evF_ok (C := R14_Block_Value_C R 0) (an := An) (t := R14_Block_Value_at) (fn := Try.f57) (c := (Try.f57.body.getD .skip)) (ifn := R14_Block_Value_f) (R14_Block_Value_S R 0) (R14_Block_Value_J R 0) Try.func57 (by kernel_rfl) (by kernel_rfl) (And.intro True.intro (And.intro True.intro True.intro)) rfl (Eq.trans (R14_Block_Value_e R14_Block_get 0 _ _ _ H K) h)
  · cases h
/-! ### R14_Block_Significant: function 58 -/
def R14_Block_Significant_b {R : Type} (R14_Block_get : Option Addr → Int → Int → Heap → (Int → Bool → Bool → Bool → Heap → Option R) → Option R) (k : Nat) (p976 : Option Addr) (n977 : Int) (n978 : Int) (H : Heap) (K : Bool → Heap → Option R) : Option R :=
R14_Block_get p976 n977 n978 H fun n979 t980 t981 t982 H983 =>
K t980 H983

def R14_Block_Significant {R : Type} (p976 : Option Addr) (n977 : Int) (n978 : Int) (H : Heap) (K : Bool → Heap → Option R) : Option R := R14_Block_Significant_b R14_Block_get 0 p976 n977 n978 H K

def R14_Block_Significant_Ct {R : Type} (R14_Block_get : Option Addr → Int → Int → Heap → (Int → Bool → Bool → Bool → Heap → Option R) → Option R) : Tab R := tcons 66 (R14_Block_get_ca R14_Block_get) <| fun _ _ _ _ => none
def R14_Block_Significant_C (R : Type) (k : Nat) : Tab R := R14_Block_Significant_Ct R14_Block_get
theorem R14_Block_Significant_S (R : Type) (k : Nat) : CSound Try.prog (R14_Block_Significant_C R k) := csound_cons (R14_Block_get_cs R k) <| csound_nil
def R14_Block_Significant_Jt {R : Type} (k : Nat) : JTab R := fun _ _ _ _ => none
def R14_Block_Significant_J (R : Type) (k : Nat) : JTab R := R14_Block_Significant_Jt k
def R14_Block_Significant_at : AT := (.seq (.reg [0, 1, 2] []) (.seq (.reg [6] []) .leaf))
def R14_Block_Significant_f : IFn := ⟨12, [.t 6], (.seq (.reg [⟨some 6, .mov (.c (Go.Value.bool false)), none⟩] [0, 1, 2]) (.seq (.reg [⟨some 7, .mov (.t 0), none⟩,
 ⟨some 8, .mov (.t 1), none⟩,
 ⟨some 9, .mov (.t 2), none⟩,
 ⟨some 10, .call 66 [(.t 7), (.t 8), (.t 9)] (.one (.agg [(.int .i64), .bool, .bool, .bool])), none⟩,
 ⟨some 11, .fld 1 1 (.sc .bool) (.t 10), none⟩,
 ⟨some 6, .mov (.t 11), none⟩] [6]) .ret))⟩
def R14_Block_Significant_ca {R : Type} (f : Option Addr → Int → Int → Heap → (Bool → Heap → Option R) → Option R) (args : List Value) (H : Heap) (K : Value → Heap → Option R) : Option R :=
  match args with
  | [.pointer p976, .int .i64 n977, .int .i64 n978] => f p976 n977 n978 H (fun t1549 H => K (.bool t1549) H)
  | _ => none
def R14_Block_Significant_c (R : Type) (k : Nat) (args : List Value) (H : Heap) (K : Value → Heap → Option R) : Option R := R14_Block_Significant_ca R14_Block_Significant args H K
theorem R14_Block_Significant_e {R : Type} (R14_Block_get : Option Addr → Int → Int → Heap → (Int → Bool → Bool → Bool → Heap → Option R) → Option R) (k : Nat) (p976 : Option Addr) (n977 : Int) (n978 : Int) (H : Heap) (K : Value → Heap → Option R) : evF (R14_Block_Significant_Ct R14_Block_get) (R14_Block_Significant_Jt k) R14_Block_Significant_f [.pointer p976, .int .i64 n977, .int .i64 n978] H K = R14_Block_Significant_b R14_Block_get k p976 n977 n978 H (fun t1549 H => K (.bool t1549) H) := by kernel_rfl
theorem R14_Block_Significant_cs (R : Type) (k : Nat) : ∀ args H K r, R14_Block_Significant_c R k args H K = some r → ∃ v H', Tri Try.prog 58 args H v H' ∧ K v H' = some r := by
  intro args H K r h
  unfold R14_Block_Significant_c R14_Block_Significant_ca at h
  split at h
  · exact evF_ok (C := R14_Block_Significant_C R 0) (an := An) (t := R14_Block_Significant_at) (fn := Try.f58) (c := (Try.f58.body.getD .skip)) (ifn := R14_Block_Significant_f) (R14_Block_Significant_S R 0) (R14_Block_Significant_J R 0) Try.func58 (by kernel_rfl) (by kernel_rfl) (And.intro True.intro (And.intro True.intro True.intro)) rfl (Eq.trans (R14_Block_Significant_e R14_Block_get 0 _ _ _ H K) h)
  · cases h
/-! ### R14_Block_Touched: function 59 -/
def R14_Block_Touched_b {R : Type} (R14_Block_get : Option Addr → Int → Int → Heap → (Int → Bool → Bool → Bool → Heap → Option R) → Option R) (k : Nat) (p988 : Option Addr) (n989 : Int) (n990 : Int) (H : Heap) (K : Bool → Heap → Option R) : Option R :=
R14_Block_get p988 n989 n990 H fun n991 t992 t993 t994 H995 =>
K t993 H995

def R14_Block_Touched {R : Type} (p988 : Option Addr) (n989 : Int) (n990 : Int) (H : Heap) (K : Bool → Heap → Option R) : Option R := R14_Block_Touched_b R14_Block_get 0 p988 n989 n990 H K

def R14_Block_Touched_Ct {R : Type} (R14_Block_get : Option Addr → Int → Int → Heap → (Int → Bool → Bool → Bool → Heap → Option R) → Option R) : Tab R := tcons 66 (R14_Block_get_ca R14_Block_get) <| fun _ _ _ _ => none
def R14_Block_Touched_C (R : Type) (k : Nat) : Tab R := R14_Block_Touched_Ct R14_Block_get
theorem R14_Block_Touched_S (R : Type) (k : Nat) : CSound Try.prog (R14_Block_Touched_C R k) := csound_cons (R14_Block_get_cs R k) <| csound_nil
def R14_Block_Touched_Jt {R : Type} (k : Nat) : JTab R := fun _ _ _ _ => none
def R14_Block_Touched_J (R : Type) (k : Nat) : JTab R := R14_Block_Touched_Jt k
def R14_Block_Touched_at : AT := (.seq (.reg [0, 1, 2] []) (.seq (.reg [6] []) .leaf))
def R14_Block_Touched_f : IFn := ⟨12, [.t 6], (.seq (.reg [⟨some 6, .mov (.c (Go.Value.bool false)), none⟩] [0, 1, 2]) (.seq (.reg [⟨some 7, .mov (.t 0), none⟩,
 ⟨some 8, .mov (.t 1), none⟩,
 ⟨some 9, .mov (.t 2), none⟩,
 ⟨some 10, .call 66 [(.t 7), (.t 8), (.t 9)] (.one (.agg [(.int .i64), .bool, .bool, .bool])), none⟩,
 ⟨some 11, .fld 2 1 (.sc .bool) (.t 10), none⟩,
 ⟨some 6, .mov (.t 11), none⟩] [6]) .ret))⟩
def R14_Block_Touched_ca {R : Type} (f : Option Addr → Int → Int → Heap → (Bool → Heap → Option R) → Option R) (args : List Value) (H : Heap) (K : Value → Heap → Option R) : Option R :=
  match args with
  | [.pointer p988, .int .i64 n989, .int .i64 n990] => f p988 n989 n990 H (fun t1550 H => K (.bool t1550) H)
  | _ => none
def R14_Block_Touched_c (R : Type) (k : Nat) (args : List Value) (H : Heap) (K : Value → Heap → Option R) : Option R := R14_Block_Touched_ca R14_Block_Touched args H K
theorem R14_Block_Touched_e {R : Type} (R14_Block_get : Option Addr → Int → Int → Heap → (Int → Bool → Bool → Bool → Heap → Option R) → Option R) (k : Nat) (p988 : Option Addr) (n989 : Int) (n990 : Int) (H : Heap) (K : Value → Heap → Option R) : evF (R14_Block_Touched_Ct R14_Block_get) (R14_Block_Touched_Jt k) R14_Block_Touched_f [.pointer p988, .int .i64 n989, .int .i64 n990] H K = R14_Block_Touched_b R14_Block_get k p988 n989 n990 H (fun t1550 H => K (.bool t1550) H) := by kernel_rfl
theorem R14_Block_Touched_cs (R : Type) (k : Nat) : ∀ args H K r, R14_Block_Touched_c R k args H K = some r → ∃ v H', Tri Try.prog 59 args H v H' ∧ K v H' = some r := by
  intro args H K r h
  unfold R14_Block_Touched_c R14_Block_Touched_ca at h
  split at h
  · exact evF_ok (C := R14_Block_Touched_C R 0) (an := An) (t := R14_Block_Touched_at) (fn := Try.f59) (c := (Try.f59.body.getD .skip)) (ifn := R14_Block_Touched_f) (R14_Block_Touched_S R 0) (R14_Block_Touched_J R 0) Try.func59 (by kernel_rfl) (by kernel_rfl) (And.intro True.intro (And.intro True.intro True.intro)) rfl (Eq.trans (R14_Block_Touched_e R14_Block_get 0 _ _ _ H K) h)
  · cases h
/-! ### R14_Block_Refined: function 60 -/
def R14_Block_Refined_b {R : Type} (R14_Block_get : Option Addr → Int → Int → Heap → (Int → Bool → Bool → Bool → Heap → Option R) → Option R) (k : Nat) (p1000 : Option Addr) (n1001 : Int) (n1002 : Int) (H : Heap) (K : Bool → Heap → Option R) : Option R :=
R14_Block_get p1000 n1001 n1002 H fun n1003 t1004 t1005 t1006 H1007 =>
K t1006 H1007

def R14_Block_Refined {R : Type} (p1000 : Option Addr) (n1001 : Int) (n1002 : Int) (H : Heap) (K : Bool → Heap → Option R) : Option R := R14_Block_Refined_b R14_Block_get 0 p1000 n1001 n1002 H K

def R14_Block_Refined_Ct {R : Type} (R14_Block_get : Option Addr → Int → Int → Heap → (Int → Bool → Bool → Bool → Heap → Option R) → Option R) : Tab R := tcons 66 (R14_Block_get_ca R14_Block_get) <| fun _ _ _ _ => none
def R14_Block_Refined_C (R : Type) (k : Nat) : Tab R := R14_Block_Refined_Ct R14_Block_get
theorem R14_Block_Refined_S (R : Type) (k : Nat) : CSound Try.prog (R14_Block_Refined_C R k) := csound_cons (R14_Block_get_cs R k) <| csound_nil
def R14_Block_Refined_Jt {R : Type} (k : Nat) : JTab R := fun _ _ _ _ => none
def R14_Block_Refined_J (R : Type) (k : Nat) : JTab R := R14_Block_Refined_Jt k
def R14_Block_Refined_at : AT := (.seq (.reg [0, 1, 2] []) (.seq (.reg [6] []) .leaf))
def R14_Block_Refined_f : IFn := ⟨12, [.t 6], (.seq (.reg [⟨some 6, .mov (.c (Go.Value.bool false)), none⟩] [0, 1, 2]) (.seq (.reg [⟨some 7, .mov (.t 0), none⟩,
 ⟨some 8, .mov (.t 1), none⟩,
 ⟨some 9, .mov (.t 2), none⟩,
 ⟨some 10, .call 66 [(.t 7), (.t 8), (.t 9)] (.one (.agg [(.int .i64), .bool, .bool, .bool])), none⟩,
 ⟨some 11, .fld 3 1 (.sc .bool) (.t 10), none⟩,
 ⟨some 6, .mov (.t 11), none⟩] [6]) .ret))⟩
def R14_Block_Refined_ca {R : Type} (f : Option Addr → Int → Int → Heap → (Bool → Heap → Option R) → Option R) (args : List Value) (H : Heap) (K : Value → Heap → Option R) : Option R :=
  match args with
  | [.pointer p1000, .int .i64 n1001, .int .i64 n1002] => f p1000 n1001 n1002 H (fun t1551 H => K (.bool t1551) H)
  | _ => none
def R14_Block_Refined_c (R : Type) (k : Nat) (args : List Value) (H : Heap) (K : Value → Heap → Option R) : Option R := R14_Block_Refined_ca R14_Block_Refined args H K
theorem R14_Block_Refined_e {R : Type} (R14_Block_get : Option Addr → Int → Int → Heap → (Int → Bool → Bool → Bool → Heap → Option R) → Option R) (k : Nat) (p1000 : Option Addr) (n1001 : Int) (n1002 : Int) (H : Heap) (K : Value → Heap → Option R) : evF (R14_Block_Refined_Ct R14_Block_get) (R14_Block_Refined_Jt k) R14_Block_Refined_f [.pointer p1000, .int .i64 n1001, .int .i64 n1002] H K = R14_Block_Refined_b R14_Block_get k p1000 n1001 n1002 H (fun t1551 H => K (.bool t1551) H) := by kernel_rfl
theorem R14_Block_Refined_cs (R : Type) (k : Nat) : ∀ args H K r, R14_Block_Refined_c R k args H K = some r → ∃ v H', Tri Try.prog 60 args H v H' ∧ K v H' = some r := by
  intro args H K r h
  unfold R14_Block_Refined_c R14_Block_Refined_ca at h
  split at h
  · exact evF_ok (C := R14_Block_Refined_C R 0) (an := An) (t := R14_Block_Refined_at) (fn := Try.f60) (c := (Try.f60.body.getD .skip)) (ifn := R14_Block_Refined_f) (R14_Block_Refined_S R 0) (R14_Block_Refined_J R 0) Try.func60 (by kernel_rfl) (by kernel_rfl) (And.intro True.intro (And.intro True.intro True.intro)) rfl (Eq.trans (R14_Block_Refined_e R14_Block_get 0 _ _ _ H K) h)
  · cases h
end Go.Proofs.Ytblpaolcgkjcgaa.Sh
