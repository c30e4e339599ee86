/- Lean functions that stand for Go's, over an explicit heap, and the proofs that they do (written by this claim's program shallow.py). -/
import Derived.Test.YtoeoolnkndkefaaSh0
import Derived.Test.YtoeoolnkndkefaaSh1
set_option maxRecDepth 100000
set_option linter.unusedVariables false
set_option linter.unusedSimpArgs false
namespace Go.Proofs.Ytoeoolnkndkefaa.Sh
open Go.Proofs.Ytoeoolnkndkefaa.FW
/-! ### color_check: function 38 -/
def color_check_l0_b {R : Type} (plane_Valid : Int → Int → Int → Int → Option Addr → Nat → Nat → Heap → (Bool → Heap → Option R) → Option R) (rec : Int → Option Addr → Nat → Nat → Int → Option Addr → Nat → Nat → Int → Int → Heap → Option R) (KE0 : Int → Option Addr → Nat → Nat → Int → Heap → Option R) (KR : Int → Heap → Option R) (k : Nat) (n516 : Int) (q517 : Option Addr) (l518 : Nat) (c519 : Nat) (n520 : Int) (q521 : Option Addr) (l522 : Nat) (c523 : Nat) (n524 : Int) (n525 : Int) (H : Heap) : Option R :=
bif decide (n525 < n524) then (hidx q521 l522 n525 5 fun p526 =>
ldI .i64 H (pad p526 0) fun n527 =>
ldI .i64 H (pad p526 1) fun n528 =>
ldI .i64 H (pad p526 2) fun n529 =>
ldI .i64 H (pad p526 3) fun n530 =>
ldL H (pad p526 4) fun q531 l532 c533 =>
hal H [.int .i64 0, .int .i64 0, .int .i64 0, .int .i64 0, .slice none 0 0] fun p534 H535 =>
hst H535 p534 [.int .i64 n527, .int .i64 n528, .int .i64 n529, .int .i64 n530, .slice q531 l532 c533] fun H536 =>
ldI .i64 H536 (pad p534 0) fun n537 =>
ldI .i64 H536 (pad p534 1) fun n538 =>
ldI .i64 H536 (pad p534 2) fun n539 =>
ldI .i64 H536 (pad p534 3) fun n540 =>
ldL H536 (pad p534 4) fun q541 l542 c543 =>
plane_Valid n537 n538 n539 n540 q541 l542 c543 H536 fun t544 H545 =>
bif (!t544) then (KR 1 H545)
 else (rec n516 q517 l518 c519 n520 q521 l522 c523 n524 (IntKind.wrap .i64 (n525 + 1)) H545))
 else (KE0 n516 q517 l518 c519 n520 H)
def color_check_l0 {R : Type} (k : Nat) (KE0 : Int → Option Addr → Nat → Nat → Int → Heap → Option R) (KR : Int → Heap → Option R) : Nat → Int → Option Addr → Nat → Nat → Int → Option Addr → Nat → Nat → Int → Int → Heap → Option R
  | 0, _, _, _, _, _, _, _, _, _, _, _ => none
  | n + 1, n516, q517, l518, c519, n520, q521, l522, c523, n524, n525, H => color_check_l0_b plane_Valid (color_check_l0 k KE0 KR n) KE0 KR k n516 q517 l518 c519 n520 q521 l522 c523 n524 n525 H

def color_check_l1_b {R : Type} (rec : Option Addr → Nat → Nat → Int → Option Addr → Nat → Nat → Int → Int → Heap → Option R) (KE2 : Option Addr → Nat → Nat → Int → Heap → Option R) (KR : Int → Heap → Option R) (k : Nat) (q561 : Option Addr) (l562 : Nat) (c563 : Nat) (n564 : Int) (q565 : Option Addr) (l566 : Nat) (c567 : Nat) (n568 : Int) (n569 : Int) (H : Heap) : Option R :=
bif decide (n569 < n568) then (hidx q565 l566 n569 5 fun p570 =>
ldI .i64 H (pad p570 0) fun n571 =>
ldI .i64 H (pad p570 1) fun n572 =>
ldI .i64 H (pad p570 2) fun n573 =>
ldI .i64 H (pad p570 3) fun n574 =>
ldL H (pad p570 4) fun q575 l576 c577 =>
hal H [.int .i64 0, .int .i64 0, .int .i64 0, .int .i64 0, .slice none 0 0] fun p578 H579 =>
hst H579 p578 [.int .i64 n571, .int .i64 n572, .int .i64 n573, .int .i64 n574, .slice q575 l576 c577] fun H580 =>
hfad 0 p578 fun p581 =>
ldI .i64 H580 (pad p581 0) fun n582 =>
ldI .i64 H580 (pad p581 1) fun n583 =>
ldI .i64 H580 (pad p581 2) fun n584 =>
ldI .i64 H580 (pad p581 3) fun n585 =>
hidx q561 l562 0 5 fun p586 =>
hfad 0 p586 fun p587 =>
ldI .i64 H580 (pad p587 0) fun n588 =>
ldI .i64 H580 (pad p587 1) fun n589 =>
ldI .i64 H580 (pad p587 2) fun n590 =>
ldI .i64 H580 (pad p587 3) fun n591 =>
bif (!((((true && (n582 == n588)) && (n583 == n589)) && (n584 == n590)) && (n585 == n591))) then (KR 1 H580)
 else (rec q561 l562 c563 n564 q565 l566 c567 n568 (IntKind.wrap .i64 (n569 + 1)) H580))
 else (KE2 q561 l562 c563 n564 H)
def color_check_l1 {R : Type} (k : Nat) (KE2 : Option Addr → Nat → Nat → Int → Heap → Option R) (KR : Int → Heap → Option R) : Nat → Option Addr → Nat → Nat → Int → Option Addr → Nat → Nat → Int → Int → Heap → Option R
  | 0, _, _, _, _, _, _, _, _, _, _ => none
  | n + 1, q561, l562, c563, n564, q565, l566, c567, n568, n569, H => color_check_l1_b (color_check_l1 k KE2 KR n) KE2 KR k q561 l562 c563 n564 q565 l566 c567 n568 n569 H

def color_check_p4_b {R : Type} (k : Nat) (n637 : Int) (q638 : Option Addr) (l639 : Nat) (c640 : Nat) (n641 : Int) (n642 : Int) (q643 : Option Addr) (l644 : Nat) (c645 : Nat) (n646 : Int) (n647 : Int) (H : Heap) (KN : Int → Option Addr → Nat → Nat → Int → Int → Option Addr → Nat → Nat → Int → Int → Option R) (KR : Int → Option R) : Option R :=
hidx q643 l644 n647 1 fun p648 =>
ldI .i64 H p648 fun n649 =>
bif decide (n649 > n637) then (KR 2)
 else (bif decide (n649 < (IntKind.wrap .i64 (0 - n637))) then (KR 2)
 else (KN n637 q638 l639 c640 n641 n642 q643 l644 c645 n646 n647))
def color_check_p4 {R : Type} (k : Nat) (n637 : Int) (q638 : Option Addr) (l639 : Nat) (c640 : Nat) (n641 : Int) (n642 : Int) (q643 : Option Addr) (l644 : Nat) (c645 : Nat) (n646 : Int) (n647 : Int) (H : Heap) (KN : Int → Option Addr → Nat → Nat → Int → Int → Option Addr → Nat → Nat → Int → Int → Option R) (KR : Int → Option R) : Option R := color_check_p4_b k n637 q638 l639 c640 n641 n642 q643 l644 c645 n646 n647 H KN KR

def color_check_l3_b {R : Type} (color_check_p4 : Int → Option Addr → Nat → Nat → Int → Int → Option Addr → Nat → Nat → Int → Int → Heap → (Int → Option Addr → Nat → Nat → Int → Int → Option Addr → Nat → Nat → Int → Int → Option R) → (Int → Option R) → Option R) (rec : Int → Option Addr → Nat → Nat → Int → Int → Option Addr → Nat → Nat → Int → Int → Heap → Option R) (KE6 : Int → Option Addr → Nat → Nat → Int → Int → Option R) (KR : Int → Option R) (k : Nat) (n626 : Int) (q627 : Option Addr) (l628 : Nat) (c629 : Nat) (n630 : Int) (n631 : Int) (q632 : Option Addr) (l633 : Nat) (c634 : Nat) (n635 : Int) (n636 : Int) (H : Heap) : Option R :=
bif decide (n636 < n635) then (color_check_p4 n626 q627 l628 c629 n630 n631 q632 l633 c634 n635 n636 H (fun n662 q663 l664 c665 n666 n667 q668 l669 c670 n671 n672 =>
rec n662 q663 l664 c665 n666 n667 q668 l669 c670 n671 (IntKind.wrap .i64 (n672 + 1)) H) (fun n673 =>
KR n673))
 else (KE6 n626 q627 l628 c629 n630 n631)
def color_check_l3 {R : Type} (k : Nat) (KE6 : Int → Option Addr → Nat → Nat → Int → Int → Option R) (KR : Int → Option R) : Nat → Int → Option Addr → Nat → Nat → Int → Int → Option Addr → Nat → Nat → Int → Int → Heap → Option R
  | 0, _, _, _, _, _, _, _, _, _, _, _, _ => none
  | n + 1, n626, q627, l628, c629, n630, n631, q632, l633, c634, n635, n636, H => color_check_l3_b (color_check_p4 k) (color_check_l3 k KE6 KR n) KE6 KR k n626 q627 l628 c629 n630 n631 q632 l633 c634 n635 n636 H

def color_check_l2_b {R : Type} (color_check_l3 : (Int → Option Addr → Nat → Nat → Int → Int → Option R) → (Int → Option R) → Nat → Int → Option Addr → Nat → Nat → Int → Int → Option Addr → Nat → Nat → Int → Int → Heap → Option R) (rec : Int → Option Addr → Nat → Nat → Int → Int → Heap → Option R) (KE4 : Heap → Option R) (KR : Int → Heap → Option R) (k : Nat) (n605 : Int) (q606 : Option Addr) (l607 : Nat) (c608 : Nat) (n609 : Int) (n610 : Int) (H : Heap) : Option R :=
bif decide (n610 < n609) then (hidx q606 l607 n610 5 fun p611 =>
ldI .i64 H (pad p611 0) fun n612 =>
ldI .i64 H (pad p611 1) fun n613 =>
ldI .i64 H (pad p611 2) fun n614 =>
ldI .i64 H (pad p611 3) fun n615 =>
ldL H (pad p611 4) fun q616 l617 c618 =>
hal H [.int .i64 0, .int .i64 0, .int .i64 0, .int .i64 0, .slice none 0 0] fun p619 H620 =>
hst H620 p619 [.int .i64 n612, .int .i64 n613, .int .i64 n614, .int .i64 n615, .slice q616 l617 c618] fun H621 =>
hfad 4 p619 fun p622 =>
ldL H621 p622 fun q623 l624 c625 =>
color_check_l3 (fun n681 q682 l683 c684 n685 n686 =>
rec n681 q682 l683 c684 n685 (IntKind.wrap .i64 (n686 + 1)) H621) (fun n687 =>
KR n687 H621) k n605 q606 l607 c608 n609 n610 q623 l624 c625 ((l624 : Nat) : Int) 0 H621)
 else (KE4 H)
def color_check_l2 {R : Type} (k : Nat) (KE4 : Heap → Option R) (KR : Int → Heap → Option R) : Nat → Int → Option Addr → Nat → Nat → Int → Int → Heap → Option R
  | 0, _, _, _, _, _, _, _ => none
  | n + 1, n605, q606, l607, c608, n609, n610, H => color_check_l2_b (color_check_l3 k) (color_check_l2 k KE4 KR n) KE4 KR k n605 q606 l607 c608 n609 n610 H

def color_check_b {R : Type} (color_known : Int → (Bool → Option R) → Option R) (color_check_l0 : (Int → Option Addr → Nat → Nat → Int → Heap → Option R) → (Int → Heap → Option R) → Nat → Int → Option Addr → Nat → Nat → Int → Option Addr → Nat → Nat → Int → Int → Heap → Option R) (color_check_l1 : (Option Addr → Nat → Nat → Int → Heap → Option R) → (Int → Heap → Option R) → Nat → Option Addr → Nat → Nat → Int → Option Addr → Nat → Nat → Int → Int → Heap → Option R) (color_check_l2 : (Heap → Option R) → (Int → Heap → Option R) → Nat → Int → Option Addr → Nat → Nat → Int → Int → Heap → Option R) (k : Nat) (n510 : Int) (q511 : Option Addr) (l512 : Nat) (c513 : Nat) (n514 : Int) (H : Heap) (K : Int → Heap → Option R) : Option R :=
color_known n510 fun t515 =>
bif (!t515) then (K 3 H)
 else (color_check_l0 (fun n552 q553 l554 c555 n556 H557 =>
bif (n552 == 0) then (K 0 H557)
 else (bif decide (((l554 : Nat) : Int) < 3) then (K 4 H557)
 else (hslc 5 q553 l554 c555 none (some 3) none fun q558 l559 c560 =>
color_check_l1 (fun q597 l598 c599 n600 H601 =>
hslc 5 q597 l598 c599 none (some 3) none fun q602 l603 c604 =>
color_check_l2 (fun H689 =>
K 0 H689) (fun n690 H691 =>
K n690 H691) k n600 q602 l603 c604 ((l603 : Nat) : Int) 0 H601) (fun n692 H693 =>
K n692 H693) k q553 l554 c555 n556 q558 l559 c560 ((l559 : Nat) : Int) 0 H557))) (fun n694 H695 =>
K n694 H695) k n510 q511 l512 c513 n514 q511 l512 c513 ((l512 : Nat) : Int) 0 H)

def color_check {R : Type} (k : Nat) (n510 : Int) (q511 : Option Addr) (l512 : Nat) (c513 : Nat) (n514 : Int) (H : Heap) (K : Int → Heap → Option R) : Option R := color_check_b color_known (color_check_l0 k) (color_check_l1 k) (color_check_l2 k) k n510 q511 l512 c513 n514 H K

def color_check_Ct {R : Type} (color_known : Int → (Bool → Option R) → Option R) (plane_Valid : Int → Int → Int → Int → Option Addr → Nat → Nat → Heap → (Bool → Heap → Option R) → Option R) : Tab R := tcons 48 (color_known_ca color_known) <| tcons 44 (plane_Valid_ca plane_Valid) <| fun _ _ _ _ => none
def color_check_C (R : Type) (k : Nat) : Tab R := color_check_Ct color_known plane_Valid
theorem color_check_S (R : Type) (k : Nat) : CSound Try.prog (color_check_C R k) := csound_cons (color_known_cs R k) <| csound_cons (plane_Valid_cs R k) <| csound_nil
def color_check_aa0 {R : Type} (f : (Int → Option Addr → Nat → Nat → Int → Heap → Option R) → (Int → Heap → Option R) → Nat → Int → Option Addr → Nat → Nat → Int → Option Addr → Nat → Nat → Int → Int → Heap → Option R) (n : Nat) (vals : List Value) (H : Heap) (K : Xit → Env → Heap → Option R) : Option R :=
  match vals with
  | [.int .i64 n516, .slice q517 l518 c519, .int .i64 n520, .slice q521 l522 c523, .int .i64 n524, .int .i64 n525] => f (fun n1076 q1077 l1078 c1079 n1080 H => K (.exit 0) [(0, .int .i64 n1076), (1, .slice q1077 l1078 c1079), (2, .int .i64 n1080)] H) (fun n1081 H => K .ret [(6, .int .i64 n1081)] H) n n516 q517 l518 c519 n520 q521 l522 c523 n524 n525 H
  | _ => none
def color_check_a0 (R : Type) (k n : Nat) (vals : List Value) (H : Heap) (K : Xit → Env → Heap → Option R) : Option R := color_check_aa0 (color_check_l0 k) n vals H K
def color_check_aa1 {R : Type} (f : (Option Addr → Nat → Nat → Int → Heap → Option R) → (Int → Heap → Option R) → Nat → Option Addr → Nat → Nat → Int → Option Addr → Nat → Nat → Int → Int → Heap → Option R) (n : Nat) (vals : List Value) (H : Heap) (K : Xit → Env → Heap → Option R) : Option R :=
  match vals with
  | [.slice q561 l562 c563, .int .i64 n564, .slice q565 l566 c567, .int .i64 n568, .int .i64 n569] => f (fun q1082 l1083 c1084 n1085 H => K (.exit 2) [(1, .slice q1082 l1083 c1084), (2, .int .i64 n1085)] H) (fun n1086 H => K .ret [(6, .int .i64 n1086)] H) n q561 l562 c563 n564 q565 l566 c567 n568 n569 H
  | _ => none
def color_check_a1 (R : Type) (k n : Nat) (vals : List Value) (H : Heap) (K : Xit → Env → Heap → Option R) : Option R := color_check_aa1 (color_check_l1 k) n vals H K
def color_check_aa2 {R : Type} (f : (Heap → Option R) → (Int → Heap → Option R) → Nat → Int → Option Addr → Nat → Nat → Int → Int → Heap → Option R) (n : Nat) (vals : List Value) (H : Heap) (K : Xit → Env → Heap → Option R) : Option R :=
  match vals with
  | [.int .i64 n605, .slice q606 l607 c608, .int .i64 n609, .int .i64 n610] => f (fun H => K (.exit 4) [] H) (fun n1087 H => K .ret [(6, .int .i64 n1087)] H) n n605 q606 l607 c608 n609 n610 H
  | _ => none
def color_check_a2 (R : Type) (k n : Nat) (vals : List Value) (H : Heap) (K : Xit → Env → Heap → Option R) : Option R := color_check_aa2 (color_check_l2 k) n vals H K
def color_check_aa3 {R : Type} (f : (Int → Option Addr → Nat → Nat → Int → Int → Option R) → (Int → Option R) → Nat → Int → Option Addr → Nat → Nat → Int → Int → Option Addr → Nat → Nat → Int → Int → Heap → Option R) (n : Nat) (vals : List Value) (H : Heap) (K : Xit → Env → Heap → Option R) : Option R :=
  match vals with
  | [.int .i64 n626, .slice q627 l628 c629, .int .i64 n630, .int .i64 n631, .slice q632 l633 c634, .int .i64 n635, .int .i64 n636] => f (fun n1088 q1089 l1090 c1091 n1092 n1093 => K (.exit 6) [(2, .int .i64 n1088), (49, .slice q1089 l1090 c1091), (50, .int .i64 n1092), (51, .int .i64 n1093)] H) (fun n1094 => K .ret [(6, .int .i64 n1094)] H) n n626 q627 l628 c629 n630 n631 q632 l633 c634 n635 n636 H
  | _ => none
def color_check_a3 (R : Type) (k n : Nat) (vals : List Value) (H : Heap) (K : Xit → Env → Heap → Option R) : Option R := color_check_aa3 (color_check_l3 k) n vals H K
def color_check_aa4 {R : Type} (f : Int → Option Addr → Nat → Nat → Int → Int → Option Addr → Nat → Nat → Int → Int → Heap → (Int → Option Addr → Nat → Nat → Int → Int → Option Addr → Nat → Nat → Int → Int → Option R) → (Int → Option R) → Option R) (n : Nat) (vals : List Value) (H : Heap) (K : Xit → Env → Heap → Option R) : Option R :=
  match vals with
  | [.int .i64 n637, .slice q638 l639 c640, .int .i64 n641, .int .i64 n642, .slice q643 l644 c645, .int .i64 n646, .int .i64 n647] => f n637 q638 l639 c640 n641 n642 q643 l644 c645 n646 n647 H (fun n1095 q1096 l1097 c1098 n1099 n1100 q1101 l1102 c1103 n1104 n1105 => K .normal [(2, .int .i64 n1095), (49, .slice q1096 l1097 c1098), (50, .int .i64 n1099), (51, .int .i64 n1100), (56, .slice q1101 l1102 c1103), (57, .int .i64 n1104), (58, .int .i64 n1105)] H) (fun n1106 => K .ret [(6, .int .i64 n1106)] H)
  | _ => none
def color_check_a4 (R : Type) (k n : Nat) (vals : List Value) (H : Heap) (K : Xit → Env → Heap → Option R) : Option R := color_check_aa4 (color_check_p4 k) n vals H K
def color_check_Jt {R : Type} (k : Nat) (color_check_l0 : (Int → Option Addr → Nat → Nat → Int → Heap → Option R) → (Int → Heap → Option R) → Nat → Int → Option Addr → Nat → Nat → Int → Option Addr → Nat → Nat → Int → Int → Heap → Option R) (color_check_l1 : (Option Addr → Nat → Nat → Int → Heap → Option R) → (Int → Heap → Option R) → Nat → Option Addr → Nat → Nat → Int → Option Addr → Nat → Nat → Int → Int → Heap → Option R) (color_check_l2 : (Heap → Option R) → (Int → Heap → Option R) → Nat → Int → Option Addr → Nat → Nat → Int → Int → Heap → Option R) (color_check_l3 : (Int → Option Addr → Nat → Nat → Int → Int → Option R) → (Int → Option R) → Nat → Int → Option Addr → Nat → Nat → Int → Int → Option Addr → Nat → Nat → Int → Int → Heap → Option R) (color_check_p4 : Int → Option Addr → Nat → Nat → Int → Int → Option Addr → Nat → Nat → Int → Int → Heap → (Int → Option Addr → Nat → Nat → Int → Int → Option Addr → Nat → Nat → Int → Int → Option R) → (Int → Option R) → Option R) : JTab R := tcons 0 (color_check_aa0 color_check_l0 k) <| tcons 1 (color_check_aa1 color_check_l1 k) <| tcons 2 (color_check_aa2 color_check_l2 k) <| tcons 3 (color_check_aa3 color_check_l3 k) <| tcons 4 (color_check_aa4 color_check_p4 k) <| fun _ _ _ _ => none
def color_check_J (R : Type) (k : Nat) : JTab R := color_check_Jt k (color_check_l0 k) (color_check_l1 k) (color_check_l2 k) (color_check_l3 k) (color_check_p4 k)
def color_check_at : AT := (.seq (.reg [0, 1, 2] []) (.seq (.seq (.reg [0, 1, 2, 17] []) (.cond (.seq (.reg [6] []) .leaf) .leaf)) (.seq (.seq (.reg [0, 1, 2, 18, 19, 20] []) (.node (.opq 0 [0, 1, 2, 18, 19, 20] ⟨[], [(0, [0, 1, 2])], [6]⟩ (.node (.seq (.reg [0, 1, 2, 18, 19, 20, 21] []) (.seq (.cond .leaf .leaf) (.seq (.node (.seq (.reg [0, 1, 2, 8, 18, 19, 20] []) (.seq (.reg [0, 1, 2, 18, 19, 20, 26] []) (.cond (.seq (.reg [6] []) .leaf) .leaf)))) (.reg [0, 1, 2, 18, 19, 20] [])))))))) (.seq (.seq (.reg [1, 2, 29] []) (.cond (.seq (.reg [6] []) .leaf) .leaf)) (.seq (.seq (.reg [1, 2, 32] []) (.cond (.seq (.reg [6] []) .leaf) .leaf)) (.seq (.seq (.reg [1, 2, 34, 35, 36] []) (.node (.opq 1 [1, 2, 34, 35, 36] ⟨[], [(2, [1, 2])], [6]⟩ (.node (.seq (.reg [1, 2, 34, 35, 36, 37] []) (.seq (.cond .leaf .leaf) (.seq (.node (.seq (.reg [1, 2, 10, 34, 35, 36] []) (.seq (.reg [1, 2, 34, 35, 36, 46] [[], [0], [], [2], [2, 3], [2, 3, 4], [0, 1, 2, 3, 4, 5]]) (.cond (.seq (.reg [6] []) .leaf) .leaf)))) (.reg [1, 2, 34, 35, 36] [])))))))) (.seq (.seq (.reg [2, 49, 50, 51] []) (.node (.opq 2 [2, 49, 50, 51] ⟨[], [(4, [])], [6]⟩ (.node (.seq (.reg [2, 49, 50, 51, 52] []) (.seq (.cond .leaf .leaf) (.seq (.node (.seq (.reg [2, 12, 49, 50, 51] []) (.seq (.reg [2, 49, 50, 51, 56, 57, 58] []) (.node (.opq 3 [2, 49, 50, 51, 56, 57, 58] ⟨[], [(6, [2, 49, 50, 51])], [6]⟩ (.node (.seq (.reg [2, 49, 50, 51, 56, 57, 58, 59] []) (.seq (.cond .leaf .leaf) (.seq (.opq 4 [2, 49, 50, 51, 56, 57, 58] ⟨[2, 49, 50, 51, 56, 57, 58], [], [6]⟩ (.node (.seq (.reg [2, 14, 49, 50, 51, 56, 57, 58] []) (.seq (.reg [2, 49, 50, 51, 56, 57, 58, 70] []) (.cond (.seq (.reg [6] []) .leaf) .leaf))))) (.reg [2, 49, 50, 51, 56, 57, 58] [])))))))))) (.reg [2, 49, 50, 51] [])))))))) (.seq (.reg [6] []) .leaf))))))))
def color_check_i4 : IC := (.block 7 (.seq (.reg [⟨some 60, .ids 1 (.t 56) (.t 58), none⟩,
 ⟨some 61, .ld (.sc (.int .i64)) (.t 60), none⟩,
 ⟨some 14, .mov (.t 61), none⟩] [2, 14, 49, 50, 51, 56, 57, 58]) (.seq (.reg [⟨some 62, .mov (.t 14), none⟩,
 ⟨some 63, .mov (.t 2), none⟩,
 ⟨some 64, .cmp .gtr (.t 62) (.t 63), none⟩,
 ⟨some 65, .mov (.t 64), none⟩,
 ⟨some 66, .mov (.t 14), some (65, false)⟩,
 ⟨some 67, .mov (.t 2), some (65, false)⟩,
 ⟨some 68, .neg .i64 (.t 67), some (65, false)⟩,
 ⟨some 69, .cmp .lss (.t 66) (.t 68), some (65, false)⟩,
 ⟨some 70, .pick (.t 65) (.c (Go.Value.bool true)) (.t 69), none⟩] [2, 49, 50, 51, 56, 57, 58, 70]) (.cond (.t 70) (.seq (.reg [⟨some 6, .mov (.c (Go.Value.int Go.IntKind.i64 2)), none⟩] [6]) .ret) .skip))))
def color_check_i3 : IC := (.seq (.reg [⟨some 59, .cmp .lss (.t 58) (.t 57), none⟩] [2, 49, 50, 51, 56, 57, 58, 59]) (.seq (.cond (.t 59) .skip (.exit 6)) (.seq (.opq 4 [2, 49, 50, 51, 56, 57, 58] color_check_i4) (.reg [⟨some 71, .bin .add .i64 (.t 58) (.c (Go.Value.int Go.IntKind.i64 1)), none⟩,
 ⟨some 58, .mov (.t 71), none⟩] [2, 49, 50, 51, 56, 57, 58]))))
def color_check_i2 : IC := (.seq (.reg [⟨some 52, .cmp .lss (.t 51) (.t 50), none⟩] [2, 49, 50, 51, 52]) (.seq (.cond (.t 52) .skip (.exit 4)) (.seq (.block 5 (.seq (.reg [⟨some 53, .ids 5 (.t 49) (.t 51), none⟩,
 ⟨some 54, .ld (.agg [(.int .i64), (.int .i64), (.int .i64), (.int .i64), .slc]) (.t 53), none⟩,
 ⟨some 12, .alc [.int .i64 0, .int .i64 0, .int .i64 0, .int .i64 0, .slice none 0 0], none⟩,
 ⟨none, .st 5 (.t 12) (.t 54), none⟩] [2, 12, 49, 50, 51]) (.seq (.reg [⟨some 55, .fad 4 (.t 12), none⟩,
 ⟨some 56, .ld (.sc .slc) (.t 55), none⟩,
 ⟨some 57, .len false (.t 56), none⟩,
 ⟨some 58, .mov (.c (Go.Value.int Go.IntKind.i64 0)), none⟩] [2, 49, 50, 51, 56, 57, 58]) (.block 6 (.opq 3 [2, 49, 50, 51, 56, 57, 58] (.loop color_check_i3)))))) (.reg [⟨some 72, .bin .add .i64 (.t 51) (.c (Go.Value.int Go.IntKind.i64 1)), none⟩,
 ⟨some 51, .mov (.t 72), none⟩] [2, 49, 50, 51]))))
def color_check_i1 : IC := (.seq (.reg [⟨some 37, .cmp .lss (.t 36) (.t 35), none⟩] [1, 2, 34, 35, 36, 37]) (.seq (.cond (.t 37) .skip (.exit 2)) (.seq (.block 3 (.seq (.reg [⟨some 38, .ids 5 (.t 34) (.t 36), none⟩,
 ⟨some 39, .ld (.agg [(.int .i64), (.int .i64), (.int .i64), (.int .i64), .slc]) (.t 38), none⟩,
 ⟨some 10, .alc [.int .i64 0, .int .i64 0, .int .i64 0, .int .i64 0, .slice none 0 0], none⟩,
 ⟨none, .st 5 (.t 10) (.t 39), none⟩] [1, 2, 10, 34, 35, 36]) (.seq (.reg [⟨some 40, .fad 0 (.t 10), none⟩,
 ⟨some 41, .ld (.agg [(.int .i64), (.int .i64), (.int .i64), (.int .i64)]) (.t 40), none⟩,
 ⟨some 42, .mov (.t 1), none⟩,
 ⟨some 43, .ids 5 (.t 42) (.c (Go.Value.int Go.IntKind.i64 0)), none⟩,
 ⟨some 44, .fad 0 (.t 43), none⟩,
 ⟨some 45, .ld (.agg [(.int .i64), (.int .i64), (.int .i64), (.int .i64)]) (.t 44), none⟩,
 ⟨some 46, .eqs [(0, 0), (1, 0), (2, 0), (3, 0)] (.t 41) (.t 45) true, none⟩] [1, 2, 34, 35, 36, 46]) (.cond (.t 46) (.seq (.reg [⟨some 6, .mov (.c (Go.Value.int Go.IntKind.i64 1)), none⟩] [6]) .ret) .skip)))) (.reg [⟨some 47, .bin .add .i64 (.t 36) (.c (Go.Value.int Go.IntKind.i64 1)), none⟩,
 ⟨some 36, .mov (.t 47), none⟩] [1, 2, 34, 35, 36]))))
def color_check_i0 : IC := (.seq (.reg [⟨some 21, .cmp .lss (.t 20) (.t 19), none⟩] [0, 1, 2, 18, 19, 20, 21]) (.seq (.cond (.t 21) .skip (.exit 0)) (.seq (.block 1 (.seq (.reg [⟨some 22, .ids 5 (.t 18) (.t 20), none⟩,
 ⟨some 23, .ld (.agg [(.int .i64), (.int .i64), (.int .i64), (.int .i64), .slc]) (.t 22), none⟩,
 ⟨some 8, .alc [.int .i64 0, .int .i64 0, .int .i64 0, .int .i64 0, .slice none 0 0], none⟩,
 ⟨none, .st 5 (.t 8) (.t 23), none⟩] [0, 1, 2, 8, 18, 19, 20]) (.seq (.reg [⟨some 24, .ld (.agg [(.int .i64), (.int .i64), (.int .i64), (.int .i64), .slc]) (.t 8), none⟩,
 ⟨some 25, .call 44 [(.t 24)] (.one (.sc .bool)), none⟩,
 ⟨some 26, .lnot (.t 25), none⟩] [0, 1, 2, 18, 19, 20, 26]) (.cond (.t 26) (.seq (.reg [⟨some 6, .mov (.c (Go.Value.int Go.IntKind.i64 1)), none⟩] [6]) .ret) .skip)))) (.reg [⟨some 27, .bin .add .i64 (.t 20) (.c (Go.Value.int Go.IntKind.i64 1)), none⟩,
 ⟨some 20, .mov (.t 27), none⟩] [0, 1, 2, 18, 19, 20]))))
def color_check_f : IFn := ⟨73, [.t 6], (.seq (.reg [⟨some 6, .mov (.c (Go.Value.int Go.IntKind.i64 0)), none⟩] [0, 1, 2]) (.seq (.seq (.reg [⟨some 15, .mov (.t 0), none⟩,
 ⟨some 16, .call 48 [(.t 15)] (.one (.sc .bool)), none⟩,
 ⟨some 17, .lnot (.t 16), none⟩] [0, 1, 2, 17]) (.cond (.t 17) (.seq (.reg [⟨some 6, .mov (.c (Go.Value.int Go.IntKind.i64 3)), none⟩] [6]) .ret) .skip)) (.seq (.seq (.reg [⟨some 18, .mov (.t 1), none⟩,
 ⟨some 19, .len false (.t 18), none⟩,
 ⟨some 20, .mov (.c (Go.Value.int Go.IntKind.i64 0)), none⟩] [0, 1, 2, 18, 19, 20]) (.block 0 (.opq 0 [0, 1, 2, 18, 19, 20] (.loop color_check_i0)))) (.seq (.seq (.reg [⟨some 28, .mov (.t 0), none⟩,
 ⟨some 29, .cmp .eql (.t 28) (.c (Go.Value.int Go.IntKind.i64 0)), none⟩] [1, 2, 29]) (.cond (.t 29) (.seq (.reg [⟨some 6, .mov (.c (Go.Value.int Go.IntKind.i64 0)), none⟩] [6]) .ret) .skip)) (.seq (.seq (.reg [⟨some 30, .mov (.t 1), none⟩,
 ⟨some 31, .len false (.t 30), none⟩,
 ⟨some 32, .cmp .lss (.t 31) (.c (Go.Value.int Go.IntKind.i64 3)), none⟩] [1, 2, 32]) (.cond (.t 32) (.seq (.reg [⟨some 6, .mov (.c (Go.Value.int Go.IntKind.i64 4)), none⟩] [6]) .ret) .skip)) (.seq (.seq (.reg [⟨some 33, .mov (.t 1), none⟩,
 ⟨some 34, .slc 5 (.t 33) none (some (.c (Go.Value.int Go.IntKind.i64 3))) none, none⟩,
 ⟨some 35, .len false (.t 34), none⟩,
 ⟨some 36, .mov (.c (Go.Value.int Go.IntKind.i64 0)), none⟩] [1, 2, 34, 35, 36]) (.block 2 (.opq 1 [1, 2, 34, 35, 36] (.loop color_check_i1)))) (.seq (.seq (.reg [⟨some 48, .mov (.t 1), none⟩,
 ⟨some 49, .slc 5 (.t 48) none (some (.c (Go.Value.int Go.IntKind.i64 3))) none, none⟩,
 ⟨some 50, .len false (.t 49), none⟩,
 ⟨some 51, .mov (.c (Go.Value.int Go.IntKind.i64 0)), none⟩] [2, 49, 50, 51]) (.block 4 (.opq 2 [2, 49, 50, 51] (.loop color_check_i2)))) (.seq (.reg [⟨some 6, .mov (.c (Go.Value.int Go.IntKind.i64 0)), none⟩] [6]) .ret))))))))⟩
theorem color_check_e4 {R : Type} (color_known : Int → (Bool → Option R) → Option R) (plane_Valid : Int → Int → Int → Int → Option Addr → Nat → Nat → Heap → (Bool → Heap → Option R) → Option R) (color_check_l0 : (Int → Option Addr → Nat → Nat → Int → Heap → Option R) → (Int → Heap → Option R) → Nat → Int → Option Addr → Nat → Nat → Int → Option Addr → Nat → Nat → Int → Int → Heap → Option R) (color_check_l1 : (Option Addr → Nat → Nat → Int → Heap → Option R) → (Int → Heap → Option R) → Nat → Option Addr → Nat → Nat → Int → Option Addr → Nat → Nat → Int → Int → Heap → Option R) (color_check_l2 : (Heap → Option R) → (Int → Heap → Option R) → Nat → Int → Option Addr → Nat → Nat → Int → Int → Heap → Option R) (color_check_l3 : (Int → Option Addr → Nat → Nat → Int → Int → Option R) → (Int → Option R) → Nat → Int → Option Addr → Nat → Nat → Int → Int → Option Addr → Nat → Nat → Int → Int → Heap → Option R) (color_check_p4 : Int → Option Addr → Nat → Nat → Int → Int → Option Addr → Nat → Nat → Int → Int → Heap → (Int → Option Addr → Nat → Nat → Int → Int → Option Addr → Nat → Nat → Int → Int → Option R) → (Int → Option R) → Option R) (k : Nat) (n637 : Int) (q638 : Option Addr) (l639 : Nat) (c640 : Nat) (n641 : Int) (n642 : Int) (q643 : Option Addr) (l644 : Nat) (c645 : Nat) (n646 : Int) (n647 : Int) (H : Heap) (K : Xit → Env → Heap → Option R) : evJ (color_check_Ct color_known plane_Valid) (color_check_Jt k color_check_l0 color_check_l1 color_check_l2 color_check_l3 color_check_p4) color_check_i4 (List.zip [2, 49, 50, 51, 56, 57, 58] [.int .i64 n637, .slice q638 l639 c640, .int .i64 n641, .int .i64 n642, .slice q643 l644 c645, .int .i64 n646, .int .i64 n647]) H (fun x e' H' => K x (clean e' ((⟨[2, 49, 50, 51, 56, 57, 58], [], [6]⟩ : Out).of x)) H') = color_check_p4_b k n637 q638 l639 c640 n641 n642 q643 l644 c645 n646 n647 H (fun n1095 q1096 l1097 c1098 n1099 n1100 q1101 l1102 c1103 n1104 n1105 => K .normal [(2, .int .i64 n1095), (49, .slice q1096 l1097 c1098), (50, .int .i64 n1099), (51, .int .i64 n1100), (56, .slice q1101 l1102 c1103), (57, .int .i64 n1104), (58, .int .i64 n1105)] H) (fun n1106 => K .ret [(6, .int .i64 n1106)] H) := by kernel_rfl
theorem color_check_j4 {R : Type} (k : Nat) : JS Try.prog 73 (color_check_a4 R k k) [2, 49, 50, 51, 56, 57, 58] ⟨[2, 49, 50, 51, 56, 57, 58], [], [6]⟩ (sel [1, 1, 1, 1, 1, 1, 0, 1, 0, 0, 1, 1, 0, 0, 1, 1, 0, 0, 1, 1, 0] (Try.f38.body.getD .skip)) :=
  piece_ok (nt := 73) (c := (sel [1, 1, 1, 1, 1, 1, 0, 1, 0, 0, 1, 1, 0, 0, 1, 1, 0, 0, 1, 1, 0] (Try.f38.body.getD .skip))) (C := color_check_C R k) (an := An) (t := (.node (.seq (.reg [2, 14, 49, 50, 51, 56, 57, 58] []) (.seq (.reg [2, 49, 50, 51, 56, 57, 58, 70] []) (.cond (.seq (.reg [6] []) .leaf) .leaf))))) (ic := color_check_i4) (color_check_S R k) (color_check_J R k) (by kernel_rfl) (And.intro True.intro (And.intro True.intro (And.intro (And.intro True.intro True.intro) True.intro))) (color_check_a4 R k k)
    (fun vals H K r h => by
      unfold color_check_a4 color_check_aa4 at h
      split at h <;> first | (cases h; done) | exact Eq.trans (color_check_e4 color_known plane_Valid (color_check_l0 k) (color_check_l1 k) (color_check_l2 k) (color_check_l3 k) (color_check_p4 k) k _ _ _ _ _ _ _ _ _ _ _ H K) h)
theorem color_check_e3 {R : Type} (color_known : Int → (Bool → Option R) → Option R) (plane_Valid : Int → Int → Int → Int → Option Addr → Nat → Nat → Heap → (Bool → Heap → Option R) → Option R) (color_check_l0 : (Int → Option Addr → Nat → Nat → Int → Heap → Option R) → (Int → Heap → Option R) → Nat → Int → Option Addr → Nat → Nat → Int → Option Addr → Nat → Nat → Int → Int → Heap → Option R) (color_check_l1 : (Option Addr → Nat → Nat → Int → Heap → Option R) → (Int → Heap → Option R) → Nat → Option Addr → Nat → Nat → Int → Option Addr → Nat → Nat → Int → Int → Heap → Option R) (color_check_l2 : (Heap → Option R) → (Int → Heap → Option R) → Nat → Int → Option Addr → Nat → Nat → Int → Int → Heap → Option R) (color_check_l3 : (Int → Option Addr → Nat → Nat → Int → Int → Option R) → (Int → Option R) → Nat → Int → Option Addr → Nat → Nat → Int → Int → Option Addr → Nat → Nat → Int → Int → Heap → Option R) (color_check_p4 : Int → Option Addr → Nat → Nat → Int → Int → Option Addr → Nat → Nat → Int → Int → Heap → (Int → Option Addr → Nat → Nat → Int → Int → Option Addr → Nat → Nat → Int → Int → Option R) → (Int → Option R) → Option R) (k n : Nat) (n626 : Int) (q627 : Option Addr) (l628 : Nat) (c629 : Nat) (n630 : Int) (n631 : Int) (q632 : Option Addr) (l633 : Nat) (c634 : Nat) (n635 : Int) (n636 : Int) (H : Heap) (K : Xit → Env → Heap → Option R) : evJ (color_check_Ct color_known plane_Valid) (color_check_Jt k color_check_l0 color_check_l1 color_check_l2 color_check_l3 color_check_p4) color_check_i3 (List.zip [2, 49, 50, 51, 56, 57, 58] [.int .i64 n626, .slice q627 l628 c629, .int .i64 n630, .int .i64 n631, .slice q632 l633 c634, .int .i64 n635, .int .i64 n636]) H (fun x e' H' => match x with | .normal => color_check_aa3 color_check_l3 n ((clean e' [2, 49, 50, 51, 56, 57, 58]).map (·.2)) H' K | x => K x (clean e' ((⟨[], [(6, [2, 49, 50, 51])], [6]⟩ : Out).of x)) H') = color_check_l3_b color_check_p4 (color_check_l3 (fun n1088 q1089 l1090 c1091 n1092 n1093 => K (.exit 6) [(2, .int .i64 n1088), (49, .slice q1089 l1090 c1091), (50, .int .i64 n1092), (51, .int .i64 n1093)] H) (fun n1094 => K .ret [(6, .int .i64 n1094)] H) n) (fun n1088 q1089 l1090 c1091 n1092 n1093 => K (.exit 6) [(2, .int .i64 n1088), (49, .slice q1089 l1090 c1091), (50, .int .i64 n1092), (51, .int .i64 n1093)] H) (fun n1094 => K .ret [(6, .int .i64 n1094)] H) k n626 q627 l628 c629 n630 n631 q632 l633 c634 n635 n636 H := by kernel_rfl
theorem color_check_j3 {R : Type} (k : Nat) : JS Try.prog 73 (color_check_a3 R k k) [2, 49, 50, 51, 56, 57, 58] ⟨[], [(6, [2, 49, 50, 51])], [6]⟩ (.loop (sel [1, 1, 1, 1, 1, 1, 0, 1, 0, 0, 1, 1, 0, 0, 1, 1, 0, 0] (Try.f38.body.getD .skip))) :=
  loop_ok (nt := 73) (c := (sel [1, 1, 1, 1, 1, 1, 0, 1, 0, 0, 1, 1, 0, 0, 1, 1, 0, 0] (Try.f38.body.getD .skip))) (C := color_check_C R k) (an := An) (t := (.seq (.reg [2, 49, 50, 51, 56, 57, 58, 59] []) (.seq (.cond .leaf .leaf) (.seq (.opq 4 [2, 49, 50, 51, 56, 57, 58] ⟨[2, 49, 50, 51, 56, 57, 58], [], [6]⟩ (.node (.seq (.reg [2, 14, 49, 50, 51, 56, 57, 58] []) (.seq (.reg [2, 49, 50, 51, 56, 57, 58, 70] []) (.cond (.seq (.reg [6] []) .leaf) .leaf))))) (.reg [2, 49, 50, 51, 56, 57, 58] []))))) (ic := color_check_i3) (color_check_S R k) (color_check_J R k) (by kernel_rfl) (And.intro True.intro (And.intro (And.intro True.intro True.intro) (And.intro (color_check_j4 k) True.intro))) (color_check_a3 R k) (fun vals H K => by unfold color_check_a3 color_check_aa3; split <;> rfl)
    (fun n vals H K r h => by
      unfold color_check_a3 color_check_aa3 at h
      split at h <;> first | (cases h; done) | exact Eq.trans (color_check_e3 color_known plane_Valid (color_check_l0 k) (color_check_l1 k) (color_check_l2 k) (color_check_l3 k) (color_check_p4 k) k n _ _ _ _ _ _ _ _ _ _ _ H K) h) k
theorem color_check_e2 {R : Type} (color_known : Int → (Bool → Option R) → Option R) (plane_Valid : Int → Int → Int → Int → Option Addr → Nat → Nat → Heap → (Bool → Heap → Option R) → Option R) (color_check_l0 : (Int → Option Addr → Nat → Nat → Int → Heap → Option R) → (Int → Heap → Option R) → Nat → Int → Option Addr → Nat → Nat → Int → Option Addr → Nat → Nat → Int → Int → Heap → Option R) (color_check_l1 : (Option Addr → Nat → Nat → Int → Heap → Option R) → (Int → Heap → Option R) → Nat → Option Addr → Nat → Nat → Int → Option Addr → Nat → Nat → Int → Int → Heap → Option R) (color_check_l2 : (Heap → Option R) → (Int → Heap → Option R) → Nat → Int → Option Addr → Nat → Nat → Int → Int → Heap → Option R) (color_check_l3 : (Int → Option Addr → Nat → Nat → Int → Int → Option R) → (Int → Option R) → Nat → Int → Option Addr → Nat → Nat → Int → Int → Option Addr → Nat → Nat → Int → Int → Heap → Option R) (color_check_p4 : Int → Option Addr → Nat → Nat → Int → Int → Option Addr → Nat → Nat → Int → Int → Heap → (Int → Option Addr → Nat → Nat → Int → Int → Option Addr → Nat → Nat → Int → Int → Option R) → (Int → Option R) → Option R) (k n : Nat) (n605 : Int) (q606 : Option Addr) (l607 : Nat) (c608 : Nat) (n609 : Int) (n610 : Int) (H : Heap) (K : Xit → Env → Heap → Option R) : evJ (color_check_Ct color_known plane_Valid) (color_check_Jt k color_check_l0 color_check_l1 color_check_l2 color_check_l3 color_check_p4) color_check_i2 (List.zip [2, 49, 50, 51] [.int .i64 n605, .slice q606 l607 c608, .int .i64 n609, .int .i64 n610]) H (fun x e' H' => match x with | .normal => color_check_aa2 color_check_l2 n ((clean e' [2, 49, 50, 51]).map (·.2)) H' K | x => K x (clean e' ((⟨[], [(4, [])], [6]⟩ : Out).of x)) H') = color_check_l2_b color_check_l3 (color_check_l2 (fun H => K (.exit 4) [] H) (fun n1087 H => K .ret [(6, .int .i64 n1087)] H) n) (fun H => K (.exit 4) [] H) (fun n1087 H => K .ret [(6, .int .i64 n1087)] H) k n605 q606 l607 c608 n609 n610 H := by kernel_rfl
theorem color_check_j2 {R : Type} (k : Nat) : JS Try.prog 73 (color_check_a2 R k k) [2, 49, 50, 51] ⟨[], [(4, [])], [6]⟩ (.loop (sel [1, 1, 1, 1, 1, 1, 0, 1, 0, 0] (Try.f38.body.getD .skip))) :=
  loop_ok (nt := 73) (c := (sel [1, 1, 1, 1, 1, 1, 0, 1, 0, 0] (Try.f38.body.getD .skip))) (C := color_check_C R k) (an := An) (t := (.seq (.reg [2, 49, 50, 51, 52] []) (.seq (.cond .leaf .leaf) (.seq (.node (.seq (.reg [2, 12, 49, 50, 51] []) (.seq (.reg [2, 49, 50, 51, 56, 57, 58] []) (.node (.opq 3 [2, 49, 50, 51, 56, 57, 58] ⟨[], [(6, [2, 49, 50, 51])], [6]⟩ (.node (.seq (.reg [2, 49, 50, 51, 56, 57, 58, 59] []) (.seq (.cond .leaf .leaf) (.seq (.opq 4 [2, 49, 50, 51, 56, 57, 58] ⟨[2, 49, 50, 51, 56, 57, 58], [], [6]⟩ (.node (.seq (.reg [2, 14, 49, 50, 51, 56, 57, 58] []) (.seq (.reg [2, 49, 50, 51, 56, 57, 58, 70] []) (.cond (.seq (.reg [6] []) .leaf) .leaf))))) (.reg [2, 49, 50, 51, 56, 57, 58] [])))))))))) (.reg [2, 49, 50, 51] []))))) (ic := color_check_i2) (color_check_S R k) (color_check_J R k) (by kernel_rfl) (And.intro True.intro (And.intro (And.intro True.intro True.intro) (And.intro (And.intro True.intro (And.intro True.intro (color_check_j3 k))) True.intro))) (color_check_a2 R k) (fun vals H K => by unfold color_check_a2 color_check_aa2; split <;> rfl)
    (fun n vals H K r h => by
      unfold color_check_a2 color_check_aa2 at h
      split at h <;> first | (cases h; done) | exact Eq.trans (color_check_e2 color_known plane_Valid (color_check_l0 k) (color_check_l1 k) (color_check_l2 k) (color_check_l3 k) (color_check_p4 k) k n _ _ _ _ _ _ H K) h) k
theorem color_check_e1 {R : Type} (color_known : Int → (Bool → Option R) → Option R) (plane_Valid : Int → Int → Int → Int → Option Addr → Nat → Nat → Heap → (Bool → Heap → Option R) → Option R) (color_check_l0 : (Int → Option Addr → Nat → Nat → Int → Heap → Option R) → (Int → Heap → Option R) → Nat → Int → Option Addr → Nat → Nat → Int → Option Addr → Nat → Nat → Int → Int → Heap → Option R) (color_check_l1 : (Option Addr → Nat → Nat → Int → Heap → Option R) → (Int → Heap → Option R) → Nat → Option Addr → Nat → Nat → Int → Option Addr → Nat → Nat → Int → Int → Heap → Option R) (color_check_l2 : (Heap → Option R) → (Int → Heap → Option R) → Nat → Int → Option Addr → Nat → Nat → Int → Int → Heap → Option R) (color_check_l3 : (Int → Option Addr → Nat → Nat → Int → Int → Option R) → (Int → Option R) → Nat → Int → Option Addr → Nat → Nat → Int → Int → Option Addr → Nat → Nat → Int → Int → Heap → Option R) (color_check_p4 : Int → Option Addr → Nat → Nat → Int → Int → Option Addr → Nat → Nat → Int → Int → Heap → (Int → Option Addr → Nat → Nat → Int → Int → Option Addr → Nat → Nat → Int → Int → Option R) → (Int → Option R) → Option R) (k n : Nat) (q561 : Option Addr) (l562 : Nat) (c563 : Nat) (n564 : Int) (q565 : Option Addr) (l566 : Nat) (c567 : Nat) (n568 : Int) (n569 : Int) (H : Heap) (K : Xit → Env → Heap → Option R) : evJ (color_check_Ct color_known plane_Valid) (color_check_Jt k color_check_l0 color_check_l1 color_check_l2 color_check_l3 color_check_p4) color_check_i1 (List.zip [1, 2, 34, 35, 36] [.slice q561 l562 c563, .int .i64 n564, .slice q565 l566 c567, .int .i64 n568, .int .i64 n569]) H (fun x e' H' => match x with | .normal => color_check_aa1 color_check_l1 n ((clean e' [1, 2, 34, 35, 36]).map (·.2)) H' K | x => K x (clean e' ((⟨[], [(2, [1, 2])], [6]⟩ : Out).of x)) H') = color_check_l1_b (color_check_l1 (fun q1082 l1083 c1084 n1085 H => K (.exit 2) [(1, .slice q1082 l1083 c1084), (2, .int .i64 n1085)] H) (fun n1086 H => K .ret [(6, .int .i64 n1086)] H) n) (fun q1082 l1083 c1084 n1085 H => K (.exit 2) [(1, .slice q1082 l1083 c1084), (2, .int .i64 n1085)] H) (fun n1086 H => K .ret [(6, .int .i64 n1086)] H) k q561 l562 c563 n564 q565 l566 c567 n568 n569 H := by kernel_rfl
theorem color_check_j1 {R : Type} (k : Nat) : JS Try.prog 73 (color_check_a1 R k k) [1, 2, 34, 35, 36] ⟨[], [(2, [1, 2])], [6]⟩ (.loop (sel [1, 1, 1, 1, 1, 0, 1, 0, 0] (Try.f38.body.getD .skip))) :=
  loop_ok (nt := 73) (c := (sel [1, 1, 1, 1, 1, 0, 1, 0, 0] (Try.f38.body.getD .skip))) (C := color_check_C R k) (an := An) (t := (.seq (.reg [1, 2, 34, 35, 36, 37] []) (.seq (.cond .leaf .leaf) (.seq (.node (.seq (.reg [1, 2, 10, 34, 35, 36] []) (.seq (.reg [1, 2, 34, 35, 36, 46] [[], [0], [], [2], [2, 3], [2, 3, 4], [0, 1, 2, 3, 4, 5]]) (.cond (.seq (.reg [6] []) .leaf) .leaf)))) (.reg [1, 2, 34, 35, 36] []))))) (ic := color_check_i1) (color_check_S R k) (color_check_J R k) (by kernel_rfl) (And.intro True.intro (And.intro (And.intro True.intro True.intro) (And.intro (And.intro True.intro (And.intro True.intro (And.intro (And.intro True.intro True.intro) True.intro))) True.intro))) (color_check_a1 R k) (fun vals H K => by unfold color_check_a1 color_check_aa1; split <;> rfl)
    (fun n vals H K r h => by
      unfold color_check_a1 color_check_aa1 at h
      split at h <;> first | (cases h; done) | exact Eq.trans (color_check_e1 color_known plane_Valid (color_check_l0 k) (color_check_l1 k) (color_check_l2 k) (color_check_l3 k) (color_check_p4 k) k n _ _ _ _ _ _ _ _ _ H K) h) k
theorem color_check_e0 {R : Type} (color_known : Int → (Bool → Option R) → Option R) (plane_Valid : Int → Int → Int → Int → Option Addr → Nat → Nat → Heap → (Bool → Heap → Option R) → Option R) (color_check_l0 : (Int → Option Addr → Nat → Nat → Int → Heap → Option R) → (Int → Heap → Option R) → Nat → Int → Option Addr → Nat → Nat → Int → Option Addr → Nat → Nat → Int → Int → Heap → Option R) (color_check_l1 : (Option Addr → Nat → Nat → Int → Heap → Option R) → (Int → Heap → Option R) → Nat → Option Addr → Nat → Nat → Int → Option Addr → Nat → Nat → Int → Int → Heap → Option R) (color_check_l2 : (Heap → Option R) → (Int → Heap → Option R) → Nat → Int → Option Addr → Nat → Nat → Int → Int → Heap → Option R) (color_check_l3 : (Int → Option Addr → Nat → Nat → Int → Int → Option R) → (Int → Option R) → Nat → Int → Option Addr → Nat → Nat → Int → Int → Option Addr → Nat → Nat → Int → Int → Heap → Option R) (color_check_p4 : Int → Option Addr → Nat → Nat → Int → Int → Option Addr → Nat → Nat → Int → Int → Heap → (Int → Option Addr → Nat → Nat → Int → Int → Option Addr → Nat → Nat → Int → Int → Option R) → (Int → Option R) → Option R) (k n : Nat) (n516 : Int) (q517 : Option Addr) (l518 : Nat) (c519 : Nat) (n520 : Int) (q521 : Option Addr) (l522 : Nat) (c523 : Nat) (n524 : Int) (n525 : Int) (H : Heap) (K : Xit → Env → Heap → Option R) : evJ (color_check_Ct color_known plane_Valid) (color_check_Jt k color_check_l0 color_check_l1 color_check_l2 color_check_l3 color_check_p4) color_check_i0 (List.zip [0, 1, 2, 18, 19, 20] [.int .i64 n516, .slice q517 l518 c519, .int .i64 n520, .slice q521 l522 c523, .int .i64 n524, .int .i64 n525]) H (fun x e' H' => match x with | .normal => color_check_aa0 color_check_l0 n ((clean e' [0, 1, 2, 18, 19, 20]).map (·.2)) H' K | x => K x (clean e' ((⟨[], [(0, [0, 1, 2])], [6]⟩ : Out).of x)) H') = color_check_l0_b plane_Valid (color_check_l0 (fun n1076 q1077 l1078 c1079 n1080 H => K (.exit 0) [(0, .int .i64 n1076), (1, .slice q1077 l1078 c1079), (2, .int .i64 n1080)] H) (fun n1081 H => K .ret [(6, .int .i64 n1081)] H) n) (fun n1076 q1077 l1078 c1079 n1080 H => K (.exit 0) [(0, .int .i64 n1076), (1, .slice q1077 l1078 c1079), (2, .int .i64 n1080)] H) (fun n1081 H => K .ret [(6, .int .i64 n1081)] H) k n516 q517 l518 c519 n520 q521 l522 c523 n524 n525 H := by kernel_rfl
theorem color_check_j0 {R : Type} (k : Nat) : JS Try.prog 73 (color_check_a0 R k k) [0, 1, 2, 18, 19, 20] ⟨[], [(0, [0, 1, 2])], [6]⟩ (.loop (sel [1, 1, 0, 1, 0, 0] (Try.f38.body.getD .skip))) :=
  loop_ok (nt := 73) (c := (sel [1, 1, 0, 1, 0, 0] (Try.f38.body.getD .skip))) (C := color_check_C R k) (an := An) (t := (.seq (.reg [0, 1, 2, 18, 19, 20, 21] []) (.seq (.cond .leaf .leaf) (.seq (.node (.seq (.reg [0, 1, 2, 8, 18, 19, 20] []) (.seq (.reg [0, 1, 2, 18, 19, 20, 26] []) (.cond (.seq (.reg [6] []) .leaf) .leaf)))) (.reg [0, 1, 2, 18, 19, 20] []))))) (ic := color_check_i0) (color_check_S R k) (color_check_J R k) (by kernel_rfl) (And.intro True.intro (And.intro (And.intro True.intro True.intro) (And.intro (And.intro True.intro (And.intro True.intro (And.intro (And.intro True.intro True.intro) True.intro))) True.intro))) (color_check_a0 R k) (fun vals H K => by unfold color_check_a0 color_check_aa0; split <;> rfl)
    (fun n vals H K r h => by
      unfold color_check_a0 color_check_aa0 at h
      split at h <;> first | (cases h; done) | exact Eq.trans (color_check_e0 color_known plane_Valid (color_check_l0 k) (color_check_l1 k) (color_check_l2 k) (color_check_l3 k) (color_check_p4 k) k n _ _ _ _ _ _ _ _ _ _ H K) h) k
def color_check_ca {R : Type} (f : Int → Option Addr → Nat → Nat → Int → Heap → (Int → Heap → Option R) → Option R) (args : List Value) (H : Heap) (K : Value → Heap → Option R) : Option R :=
  match args with
  | [.int .i64 n510, .slice q511 l512 c513, .int .i64 n514] => f n510 q511 l512 c513 n514 H (fun n1107 H => K (.int .i64 n1107) H)
  | _ => none
def color_check_c (R : Type) (k : Nat) (args : List Value) (H : Heap) (K : Value → Heap → Option R) : Option R := color_check_ca (color_check k) args H K
theorem color_check_e {R : Type} (color_known : Int → (Bool → Option R) → Option R) (plane_Valid : Int → Int → Int → Int → Option Addr → Nat → Nat → Heap → (Bool → Heap → Option R) → Option R) (color_check_l0 : (Int → Option Addr → Nat → Nat → Int → Heap → Option R) → (Int → Heap → Option R) → Nat → Int → Option Addr → Nat → Nat → Int → Option Addr → Nat → Nat → Int → Int → Heap → Option R) (color_check_l1 : (Option Addr → Nat → Nat → Int → Heap → Option R) → (Int → Heap → Option R) → Nat → Option Addr → Nat → Nat → Int → Option Addr → Nat → Nat → Int → Int → Heap → Option R) (color_check_l2 : (Heap → Option R) → (Int → Heap → Option R) → Nat → Int → Option Addr → Nat → Nat → Int → Int → Heap → Option R) (color_check_l3 : (Int → Option Addr → Nat → Nat → Int → Int → Option R) → (Int → Option R) → Nat → Int → Option Addr → Nat → Nat → Int → Int → Option Addr → Nat → Nat → Int → Int → Heap → Option R) (color_check_p4 : Int → Option Addr → Nat → Nat → Int → Int → Option Addr → Nat → Nat → Int → Int → Heap → (Int → Option Addr → Nat → Nat → Int → Int → Option Addr → Nat → Nat → Int → Int → Option R) → (Int → Option R) → Option R) (k : Nat) (n510 : Int) (q511 : Option Addr) (l512 : Nat) (c513 : Nat) (n514 : Int) (H : Heap) (K : Value → Heap → Option R) : evF (color_check_Ct color_known plane_Valid) (color_check_Jt k color_check_l0 color_check_l1 color_check_l2 color_check_l3 color_check_p4) color_check_f [.int .i64 n510, .slice q511 l512 c513, .int .i64 n514] H K = color_check_b color_known color_check_l0 color_check_l1 color_check_l2 k n510 q511 l512 c513 n514 H (fun n1107 H => K (.int .i64 n1107) H) := by kernel_rfl
theorem color_check_cs (R : Type) (k : Nat) : ∀ args H K r, color_check_c R k args H K = some r → ∃ v H', Tri Try.prog 38 args H v H' ∧ K v H' = some r := by
  intro args H K r h
  unfold color_check_c color_check_ca at h
  split at h
  · exact evF_ok (C := color_check_C R k) (an := An) (t := color_check_at) (fn := Try.f38) (c := (Try.f38.body.getD .skip)) (ifn := color_check_f) (color_check_S R k) (color_check_J R k) Try.func38 (by kernel_rfl) (by kernel_rfl) (And.intro True.intro (And.intro (And.intro True.intro (And.intro (And.intro True.intro True.intro) True.intro)) (And.intro (And.intro True.intro (color_check_j0 k)) (And.intro (And.intro True.intro (And.intro (And.intro True.intro True.intro) True.intro)) (And.intro (And.intro True.intro (And.intro (And.intro True.intro True.intro) True.intro)) (And.intro (And.intro True.intro (color_check_j1 k)) (And.intro (And.intro True.intro (color_check_j2 k)) (And.intro True.intro True.intro)))))))) rfl (Eq.trans (color_check_e color_known plane_Valid (color_check_l0 k) (color_check_l1 k) (color_check_l2 k) (color_check_l3 k) (color_check_p4 k) k _ _ _ _ _ H K) h)
  · cases h
/-! ### color_change_v35: function 39 -/
def color_change_v35_l0_b {R : Type} (rec : Int → Option Addr → Nat → Nat → Option Addr → Nat → Nat → Int → Int → Heap → Option R) (KE0 : Int → Option Addr → Nat → Nat → Heap → Option R) (k : Nat) (n703 : Int) (q704 : Option Addr) (l705 : Nat) (c706 : Nat) (q707 : Option Addr) (l708 : Nat) (c709 : Nat) (n710 : Int) (n711 : Int) (H : Heap) : Option R :=
bif decide (n711 < n710) then (hidx q707 l708 n711 5 fun p712 =>
ldI .i64 H (pad p712 0) fun n713 =>
ldI .i64 H (pad p712 1) fun n714 =>
ldI .i64 H (pad p712 2) fun n715 =>
ldI .i64 H (pad p712 3) fun n716 =>
ldL H (pad p712 4) fun q717 l718 c719 =>
hal H [.int .i64 0, .int .i64 0, .int .i64 0, .int .i64 0, .slice none 0 0] fun p720 H721 =>
hst H721 p720 [.int .i64 n713, .int .i64 n714, .int .i64 n715, .int .i64 n716, .slice q717 l718 c719] fun H722 =>
hfad 0 p720 fun p723 =>
ldI .i64 H722 (pad p723 0) fun n724 =>
ldI .i64 H722 (pad p723 1) fun n725 =>
ldI .i64 H722 (pad p723 2) fun n726 =>
ldI .i64 H722 (pad p723 3) fun n727 =>
hal H722 [] fun p728 H729 =>
hfad 4 p720 fun p730 =>
ldL H729 p730 fun q731 l732 c733 =>
hapnS 1 8 H729 p728 0 0 q731 l732 fun q734 l735 c736 H737 =>
hal H737 [.int .i64 n724, .int .i64 n725, .int .i64 n726, .int .i64 n727, .slice q734 l735 c736] fun p738 H739 =>
happS 5 56 H739 q704 l705 c706 p738 1 fun q740 l741 c742 H743 =>
rec n703 q740 l741 c742 q707 l708 c709 n710 (IntKind.wrap .i64 (n711 + 1)) H743)
 else (KE0 n703 q704 l705 c706 H)
def color_change_v35_l0 {R : Type} (k : Nat) (KE0 : Int → Option Addr → Nat → Nat → Heap → Option R) : Nat → Int → Option Addr → Nat → Nat → Option Addr → Nat → Nat → Int → Int → Heap → Option R
  | 0, _, _, _, _, _, _, _, _, _, _ => none
  | n + 1, n703, q704, l705, c706, q707, l708, c709, n710, n711, H => color_change_v35_l0_b (color_change_v35_l0 k KE0 n) KE0 k n703 q704 l705 c706 q707 l708 c709 n710 n711 H

def color_change_v35_l2_b {R : Type} (rec : Int → Option Addr → Nat → Nat → Int → Int → Int → Int → Int → Int → Int → Heap → Option R) (KE4 : Int → Option Addr → Nat → Nat → Int → Int → Heap → Option R) (k : Nat) (n795 : Int) (q796 : Option Addr) (l797 : Nat) (c798 : Nat) (n799 : Int) (n800 : Int) (n801 : Int) (n802 : Int) (n803 : Int) (n804 : Int) (n805 : Int) (H : Heap) : Option R :=
bif decide (n805 < 3) then (vat [.int .i64 n802, .int .i64 n803, .int .i64 n804] 3 1 n805 fun v806 =>
asI .i64 v806 fun n807 =>
hidx q796 l797 n805 5 fun p808 =>
hfad 4 p808 fun p809 =>
ldL H p809 fun q810 l811 c812 =>
hidx q810 l811 n799 1 fun p813 =>
hst1 H p813 (.int .i64 n807) fun H814 =>
rec n795 q796 l797 c798 n799 n800 n801 n802 n803 n804 (IntKind.wrap .i64 (n805 + 1)) H814)
 else (KE4 n795 q796 l797 c798 n800 n801 H)
def color_change_v35_l2 {R : Type} (k : Nat) (KE4 : Int → Option Addr → Nat → Nat → Int → Int → Heap → Option R) : Nat → Int → Option Addr → Nat → Nat → Int → Int → Int → Int → Int → Int → Int → Heap → Option R
  | 0, _, _, _, _, _, _, _, _, _, _, _, _ => none
  | n + 1, n795, q796, l797, c798, n799, n800, n801, n802, n803, n804, n805, H => color_change_v35_l2_b (color_change_v35_l2 k KE4 n) KE4 k n795 q796 l797 c798 n799 n800 n801 n802 n803 n804 n805 H

def color_change_v35_l1_b {R : Type} (color_forward : Int → Int → Int → Int → Heap → (Int → Int → Int → Heap → Option R) → Option R) (color_change_v35_l2 : (Int → Option Addr → Nat → Nat → Int → Int → Heap → Option R) → Nat → Int → Option Addr → Nat → Nat → Int → Int → Int → Int → Int → Int → Int → Heap → Option R) (rec : Int → Option Addr → Nat → Nat → Int → Int → Heap → Option R) (KE2 : Option Addr → Nat → Nat → Heap → Option R) (k : Nat) (n758 : Int) (q759 : Option Addr) (l760 : Nat) (c761 : Nat) (n762 : Int) (n763 : Int) (H : Heap) : Option R :=
bif decide (n763 < n762) then (hidx q759 l760 0 5 fun p764 =>
hfad 4 p764 fun p765 =>
ldL H p765 fun q766 l767 c768 =>
hidx q766 l767 n763 1 fun p769 =>
ldI .i64 H p769 fun n770 =>
hidx q759 l760 1 5 fun p771 =>
hfad 4 p771 fun p772 =>
ldL H p772 fun q773 l774 c775 =>
hidx q773 l774 n763 1 fun p776 =>
ldI .i64 H p776 fun n777 =>
hidx q759 l760 2 5 fun p778 =>
hfad 4 p778 fun p779 =>
ldL H p779 fun q780 l781 c782 =>
hidx q780 l781 n763 1 fun p783 =>
ldI .i64 H p783 fun n784 =>
color_forward n758 n770 n777 n784 (roH H) fun n785 n786 n787 H788 =>
hal H [.int .i64 0, .int .i64 0, .int .i64 0] fun p789 H790 =>
hst H790 p789 [.int .i64 n785, .int .i64 n786, .int .i64 n787] fun H791 =>
ldI .i64 H791 (pad p789 0) fun n792 =>
ldI .i64 H791 (pad p789 1) fun n793 =>
ldI .i64 H791 (pad p789 2) fun n794 =>
color_change_v35_l2 (fun n821 q822 l823 c824 n825 n826 H827 =>
rec n821 q822 l823 c824 n825 (IntKind.wrap .i64 (n826 + 1)) H827) k n758 q759 l760 c761 n763 n762 n763 n792 n793 n794 0 H791)
 else (KE2 q759 l760 c761 H)
def color_change_v35_l1 {R : Type} (k : Nat) (KE2 : Option Addr → Nat → Nat → Heap → Option R) : Nat → Int → Option Addr → Nat → Nat → Int → Int → Heap → Option R
  | 0, _, _, _, _, _, _, _ => none
  | n + 1, n758, q759, l760, c761, n762, n763, H => color_change_v35_l1_b color_forward (color_change_v35_l2 k) (color_change_v35_l1 k KE2 n) KE2 k n758 q759 l760 c761 n762 n763 H

def color_change_v35_b {R : Type} (color_change_v35_l0 : (Int → Option Addr → Nat → Nat → Heap → Option R) → Nat → Int → Option Addr → Nat → Nat → Option Addr → Nat → Nat → Int → Int → Heap → Option R) (color_change_v35_l1 : (Option Addr → Nat → Nat → Heap → Option R) → Nat → Int → Option Addr → Nat → Nat → Int → Int → Heap → Option R) (k : Nat) (n699 : Int) (q700 : Option Addr) (l701 : Nat) (c702 : Nat) (H : Heap) (K : Option Addr → Nat → Nat → Heap → Option R) : Option R :=
color_change_v35_l0 (fun n748 q749 l750 c751 H752 =>
bif (n748 == 0) then (K q749 l750 c751 H752)
 else (hidx q749 l750 0 5 fun p753 =>
hfad 4 p753 fun p754 =>
ldL H752 p754 fun q755 l756 c757 =>
color_change_v35_l1 (fun q831 l832 c833 H834 =>
K q831 l832 c833 H834) k n748 q749 l750 c751 ((l756 : Nat) : Int) 0 H752)) k n699 none 0 0 q700 l701 c702 ((l701 : Nat) : Int) 0 H

def color_change_v35 {R : Type} (k : Nat) (n699 : Int) (q700 : Option Addr) (l701 : Nat) (c702 : Nat) (H : Heap) (K : Option Addr → Nat → Nat → Heap → Option R) : Option R := color_change_v35_b (color_change_v35_l0 k) (color_change_v35_l1 k) k n699 q700 l701 c702 H K

def color_change_v35_Ct {R : Type} (color_forward : Int → Int → Int → Int → Heap → (Int → Int → Int → Heap → Option R) → Option R) : Tab R := tcons 35 (color_forward_ca color_forward) <| fun _ _ _ _ => none
def color_change_v35_C (R : Type) (k : Nat) : Tab R := color_change_v35_Ct color_forward
theorem color_change_v35_S (R : Type) (k : Nat) : CSound Try.prog (color_change_v35_C R k) := csound_cons (color_forward_cs R k) <| csound_nil
def color_change_v35_aa0 {R : Type} (f : (Int → Option Addr → Nat → Nat → Heap → Option R) → Nat → Int → Option Addr → Nat → Nat → Option Addr → Nat → Nat → Int → Int → Heap → Option R) (n : Nat) (vals : List Value) (H : Heap) (K : Xit → Env → Heap → Option R) : Option R :=
  match vals with
  | [.int .i64 n703, .func (.func 35) ⟨[]⟩ ⟨[]⟩, .slice q704 l705 c706, .slice q707 l708 c709, .int .i64 n710, .int .i64 n711] => f (fun n1108 q1109 l1110 c1111 H => K (.exit 0) [(0, .int .i64 n1108), (2, .func (.func 35) #[] ⟨[]⟩), (7, .slice q1109 l1110 c1111)] H) n n703 q704 l705 c706 q707 l708 c709 n710 n711 H
  | _ => none
def color_change_v35_a0 (R : Type) (k n : Nat) (vals : List Value) (H : Heap) (K : Xit → Env → Heap → Option R) : Option R := color_change_v35_aa0 (color_change_v35_l0 k) n vals H K
def color_change_v35_aa1 {R : Type} (f : (Option Addr → Nat → Nat → Heap → Option R) → Nat → Int → Option Addr → Nat → Nat → Int → Int → Heap → Option R) (n : Nat) (vals : List Value) (H : Heap) (K : Xit → Env → Heap → Option R) : Option R :=
  match vals with
  | [.int .i64 n758, .func (.func 35) ⟨[]⟩ ⟨[]⟩, .slice q759 l760 c761, .int .i64 n762, .int .i64 n763] => f (fun q1112 l1113 c1114 H => K (.exit 2) [(7, .slice q1112 l1113 c1114)] H) n n758 q759 l760 c761 n762 n763 H
  | _ => none
def color_change_v35_a1 (R : Type) (k n : Nat) (vals : List Value) (H : Heap) (K : Xit → Env → Heap → Option R) : Option R := color_change_v35_aa1 (color_change_v35_l1 k) n vals H K
def color_change_v35_aa2 {R : Type} (f : (Int → Option Addr → Nat → Nat → Int → Int → Heap → Option R) → Nat → Int → Option Addr → Nat → Nat → Int → Int → Int → Int → Int → Int → Int → Heap → Option R) (n : Nat) (vals : List Value) (H : Heap) (K : Xit → Env → Heap → Option R) : Option R :=
  match vals with
  | [.int .i64 n795, .func (.func 35) ⟨[]⟩ ⟨[]⟩, .slice q796 l797 c798, .int .i64 n799, .int .i64 n800, .int .i64 n801, .agg ⟨[.int .i64 n802, .int .i64 n803, .int .i64 n804]⟩, .int .i64 n805] => f (fun n1115 q1116 l1117 c1118 n1119 n1120 H => K (.exit 4) [(0, .int .i64 n1115), (2, .func (.func 35) #[] ⟨[]⟩), (7, .slice q1116 l1117 c1118), (38, .int .i64 n1119), (39, .int .i64 n1120)] H) n n795 q796 l797 c798 n799 n800 n801 n802 n803 n804 n805 H
  | _ => none
def color_change_v35_a2 (R : Type) (k n : Nat) (vals : List Value) (H : Heap) (K : Xit → Env → Heap → Option R) : Option R := color_change_v35_aa2 (color_change_v35_l2 k) n vals H K
def color_change_v35_Jt {R : Type} (k : Nat) (color_change_v35_l0 : (Int → Option Addr → Nat → Nat → Heap → Option R) → Nat → Int → Option Addr → Nat → Nat → Option Addr → Nat → Nat → Int → Int → Heap → Option R) (color_change_v35_l1 : (Option Addr → Nat → Nat → Heap → Option R) → Nat → Int → Option Addr → Nat → Nat → Int → Int → Heap → Option R) (color_change_v35_l2 : (Int → Option Addr → Nat → Nat → Int → Int → Heap → Option R) → Nat → Int → Option Addr → Nat → Nat → Int → Int → Int → Int → Int → Int → Int → Heap → Option R) : JTab R := tcons 0 (color_change_v35_aa0 color_change_v35_l0 k) <| tcons 1 (color_change_v35_aa1 color_change_v35_l1 k) <| tcons 2 (color_change_v35_aa2 color_change_v35_l2 k) <| fun _ _ _ _ => none
def color_change_v35_J (R : Type) (k : Nat) : JTab R := color_change_v35_Jt k (color_change_v35_l0 k) (color_change_v35_l1 k) (color_change_v35_l2 k)
def color_change_v35_at : AT := (.seq (.reg [0, 1, 2] []) (.seq (.reg [0, 1, 2, 7] []) (.seq (.seq (.reg [0, 2, 7, 14, 15, 16] []) (.node (.opq 0 [0, 2, 7, 14, 15, 16] ⟨[], [(0, [0, 2, 7])], []⟩ (.node (.seq (.reg [0, 2, 7, 14, 15, 16, 17] []) (.seq (.cond .leaf .leaf) (.seq (.node (.seq (.reg [0, 2, 7, 9, 14, 15, 16] []) (.reg [0, 2, 7, 14, 15, 16] [[], [], [1], [], [], [4], [3, 4, 5], [1, 2, 3, 4, 5, 6], [1, 2, 3, 4, 5, 6, 7], [0, 1, 2, 3, 4, 5, 6, 7, 8], [0, 1, 2, 3, 4, 5, 6, 7, 8, 9]]))) (.reg [0, 2, 7, 14, 15, 16] [])))))))) (.seq (.seq (.reg [0, 2, 7, 32] []) (.cond (.seq (.reg [6] []) .leaf) .leaf)) (.seq (.seq (.reg [0, 2, 7, 38, 39] []) (.node (.opq 1 [0, 2, 7, 38, 39] ⟨[], [(2, [7])], []⟩ (.node (.seq (.reg [0, 2, 7, 38, 39, 40] []) (.seq (.cond .leaf .leaf) (.seq (.node (.seq (.reg [0, 2, 7, 10, 38, 39] []) (.seq (.reg [0, 2, 7, 10, 11, 38, 39] [[], [], [], [2], [2, 3], [2, 3, 4], [], [2, 3, 4, 5, 6], [2, 3, 4, 5, 6, 7], [], [9], [9, 10], [9, 10, 11], [], [9, 10, 11, 12, 13], [9, 10, 11, 12, 13, 14], [], [16], [16, 17], [16, 17, 18], [], [16, 17, 18, 19, 20], [16, 17, 18, 19, 20, 21], [2, 3, 4, 5, 6, 7, 8, 9, 10, 11, 12, 13, 14, 15, 16, 17, 18, 19, 20, 21, 22], [0, 1, 2, 3, 4, 5, 6, 7, 8, 9, 10, 11, 12, 13, 14, 15, 16, 17, 18, 19, 20, 21, 22, 23], [], [0, 1, 2, 3, 4, 5, 6, 7, 8, 9, 10, 11, 12, 13, 14, 15, 16, 17, 18, 19, 20, 21, 22, 23, 24, 25]]) (.seq (.reg [0, 2, 7, 10, 38, 39, 67, 68] []) (.node (.opq 2 [0, 2, 7, 10, 38, 39, 67, 68] ⟨[], [(4, [0, 2, 7, 38, 39])], []⟩ (.node (.seq (.reg [0, 2, 7, 10, 38, 39, 67, 68, 69] []) (.seq (.cond .leaf .leaf) (.seq (.node (.seq (.reg [0, 2, 7, 10, 12, 13, 38, 39, 67, 68] []) (.reg [0, 2, 7, 10, 38, 39, 67, 68] []))) (.reg [0, 2, 7, 10, 38, 39, 67, 68] []))))))))))) (.reg [0, 2, 7, 38, 39] [])))))))) (.seq (.reg [6] []) .leaf))))))
def color_change_v35_i2 : IC := (.seq (.reg [⟨some 69, .cmp .lss (.t 68) (.c (Go.Value.int Go.IntKind.i64 3)), none⟩] [0, 2, 7, 10, 38, 39, 67, 68, 69]) (.seq (.cond (.t 69) .skip (.exit 4)) (.seq (.block 5 (.seq (.reg [⟨some 70, .mov (.t 68), none⟩,
 ⟨some 71, .idv 3 1 (.sc (.int .i64)) (.t 67) (.t 68), none⟩,
 ⟨some 12, .mov (.t 70), none⟩,
 ⟨some 13, .mov (.t 71), none⟩] [0, 2, 7, 10, 12, 13, 38, 39, 67, 68]) (.reg [⟨some 72, .mov (.t 7), none⟩,
 ⟨some 73, .mov (.t 12), none⟩,
 ⟨some 74, .ids 5 (.t 72) (.t 73), none⟩,
 ⟨some 75, .fad 4 (.t 74), none⟩,
 ⟨some 76, .ld (.sc .slc) (.t 75), none⟩,
 ⟨some 77, .mov (.t 10), none⟩,
 ⟨some 78, .mov (.t 13), none⟩,
 ⟨some 79, .ids 1 (.t 76) (.t 77), none⟩,
 ⟨none, .st 1 (.t 79) (.t 78), none⟩] [0, 2, 7, 10, 38, 39, 67, 68]))) (.reg [⟨some 80, .bin .add .i64 (.t 68) (.c (Go.Value.int Go.IntKind.i64 1)), none⟩,
 ⟨some 68, .mov (.t 80), none⟩] [0, 2, 7, 10, 38, 39, 67, 68]))))
def color_change_v35_i1 : IC := (.seq (.reg [⟨some 40, .cmp .lss (.t 39) (.t 38), none⟩] [0, 2, 7, 38, 39, 40]) (.seq (.cond (.t 40) .skip (.exit 2)) (.seq (.block 3 (.seq (.reg [⟨some 41, .mov (.t 39), none⟩,
 ⟨some 10, .mov (.t 41), none⟩] [0, 2, 7, 10, 38, 39]) (.seq (.reg [⟨some 42, .mov (.t 2), none⟩,
 ⟨some 43, .mov (.t 0), none⟩,
 ⟨some 44, .mov (.t 7), none⟩,
 ⟨some 45, .ids 5 (.t 44) (.c (Go.Value.int Go.IntKind.i64 0)), none⟩,
 ⟨some 46, .fad 4 (.t 45), none⟩,
 ⟨some 47, .ld (.sc .slc) (.t 46), none⟩,
 ⟨some 48, .mov (.t 10), none⟩,
 ⟨some 49, .ids 1 (.t 47) (.t 48), none⟩,
 ⟨some 50, .ld (.sc (.int .i64)) (.t 49), none⟩,
 ⟨some 51, .mov (.t 7), none⟩,
 ⟨some 52, .ids 5 (.t 51) (.c (Go.Value.int Go.IntKind.i64 1)), none⟩,
 ⟨some 53, .fad 4 (.t 52), none⟩,
 ⟨some 54, .ld (.sc .slc) (.t 53), none⟩,
 ⟨some 55, .mov (.t 10), none⟩,
 ⟨some 56, .ids 1 (.t 54) (.t 55), none⟩,
 ⟨some 57, .ld (.sc (.int .i64)) (.t 56), none⟩,
 ⟨some 58, .mov (.t 7), none⟩,
 ⟨some 59, .ids 5 (.t 58) (.c (Go.Value.int Go.IntKind.i64 2)), none⟩,
 ⟨some 60, .fad 4 (.t 59), none⟩,
 ⟨some 61, .ld (.sc .slc) (.t 60), none⟩,
 ⟨some 62, .mov (.t 10), none⟩,
 ⟨some 63, .ids 1 (.t 61) (.t 62), none⟩,
 ⟨some 64, .ld (.sc (.int .i64)) (.t 63), none⟩,
 ⟨some 65, .bld [.int .i64 0, .int .i64 0, .int .i64 0] [(0, 1, (.t 50)), (1, 1, (.t 57)), (2, 1, (.t 64))], none⟩,
 ⟨some 66, .calq (.t 42) [(.t 43), (.t 65)] (.one (.agg [(.int .i64), (.int .i64), (.int .i64)])), none⟩,
 ⟨some 11, .alc [.int .i64 0, .int .i64 0, .int .i64 0], none⟩,
 ⟨none, .st 3 (.t 11) (.t 66), none⟩] [0, 2, 7, 10, 11, 38, 39]) (.seq (.reg [⟨some 67, .ld (.agg [(.int .i64), (.int .i64), (.int .i64)]) (.t 11), none⟩,
 ⟨some 68, .mov (.c (Go.Value.int Go.IntKind.i64 0)), none⟩] [0, 2, 7, 10, 38, 39, 67, 68]) (.block 4 (.opq 2 [0, 2, 7, 10, 38, 39, 67, 68] (.loop color_change_v35_i2))))))) (.reg [⟨some 81, .bin .add .i64 (.t 39) (.c (Go.Value.int Go.IntKind.i64 1)), none⟩,
 ⟨some 39, .mov (.t 81), none⟩] [0, 2, 7, 38, 39]))))
def color_change_v35_i0 : IC := (.seq (.reg [⟨some 17, .cmp .lss (.t 16) (.t 15), none⟩] [0, 2, 7, 14, 15, 16, 17]) (.seq (.cond (.t 17) .skip (.exit 0)) (.seq (.block 1 (.seq (.reg [⟨some 18, .ids 5 (.t 14) (.t 16), none⟩,
 ⟨some 19, .ld (.agg [(.int .i64), (.int .i64), (.int .i64), (.int .i64), .slc]) (.t 18), none⟩,
 ⟨some 9, .alc [.int .i64 0, .int .i64 0, .int .i64 0, .int .i64 0, .slice none 0 0], none⟩,
 ⟨none, .st 5 (.t 9) (.t 19), none⟩] [0, 2, 7, 9, 14, 15, 16]) (.reg [⟨some 20, .mov (.t 7), none⟩,
 ⟨some 21, .fad 0 (.t 9), none⟩,
 ⟨some 22, .ld (.agg [(.int .i64), (.int .i64), (.int .i64), (.int .i64)]) (.t 21), none⟩,
 ⟨some 23, .bls 0 [] [], none⟩,
 ⟨some 24, .fad 4 (.t 9), none⟩,
 ⟨some 25, .ld (.sc .slc) (.t 24), none⟩,
 ⟨some 26, .apn [.int .i64 0] 8 (.t 23) (.t 25), none⟩,
 ⟨some 27, .bld [.int .i64 0, .int .i64 0, .int .i64 0, .int .i64 0, .slice none 0 0] [(0, 4, (.t 22)), (4, 1, (.t 26))], none⟩,
 ⟨some 28, .bls 1 [.int .i64 0, .int .i64 0, .int .i64 0, .int .i64 0, .slice none 0 0] [(0, 5, (.t 27))], none⟩,
 ⟨some 29, .app [.int .i64 0, .int .i64 0, .int .i64 0, .int .i64 0, .slice none 0 0] 56 (.t 20) (.t 28), none⟩,
 ⟨some 7, .mov (.t 29), none⟩] [0, 2, 7, 14, 15, 16]))) (.reg [⟨some 30, .bin .add .i64 (.t 16) (.c (Go.Value.int Go.IntKind.i64 1)), none⟩,
 ⟨some 16, .mov (.t 30), none⟩] [0, 2, 7, 14, 15, 16]))))
def color_change_v35_f : IFn := ⟨83, [.t 6], (.seq (.reg [⟨some 6, .mov (.c (Go.Value.slice none 0 0)), none⟩] [0, 1, 2]) (.seq (.reg [⟨some 7, .mov (.c (Go.Value.slice none 0 0)), none⟩] [0, 1, 2, 7]) (.seq (.seq (.reg [⟨some 14, .mov (.t 1), none⟩,
 ⟨some 15, .len false (.t 14), none⟩,
 ⟨some 16, .mov (.c (Go.Value.int Go.IntKind.i64 0)), none⟩] [0, 2, 7, 14, 15, 16]) (.block 0 (.opq 0 [0, 2, 7, 14, 15, 16] (.loop color_change_v35_i0)))) (.seq (.seq (.reg [⟨some 31, .mov (.t 0), none⟩,
 ⟨some 32, .cmp .eql (.t 31) (.c (Go.Value.int Go.IntKind.i64 0)), none⟩] [0, 2, 7, 32]) (.cond (.t 32) (.seq (.reg [⟨some 33, .mov (.t 7), none⟩,
 ⟨some 6, .mov (.t 33), none⟩] [6]) .ret) .skip)) (.seq (.seq (.reg [⟨some 34, .mov (.t 7), none⟩,
 ⟨some 35, .ids 5 (.t 34) (.c (Go.Value.int Go.IntKind.i64 0)), none⟩,
 ⟨some 36, .fad 4 (.t 35), none⟩,
 ⟨some 37, .ld (.sc .slc) (.t 36), none⟩,
 ⟨some 38, .len false (.t 37), none⟩,
 ⟨some 39, .mov (.c (Go.Value.int Go.IntKind.i64 0)), none⟩] [0, 2, 7, 38, 39]) (.block 2 (.opq 1 [0, 2, 7, 38, 39] (.loop color_change_v35_i1)))) (.seq (.reg [⟨some 82, .mov (.t 7), none⟩,
 ⟨some 6, .mov (.t 82), none⟩] [6]) .ret))))))⟩
theorem color_change_v35_e2 {R : Type} (color_forward : Int → Int → Int → Int → Heap → (Int → Int → Int → Heap → Option R) → Option R) (color_change_v35_l0 : (Int → Option Addr → Nat → Nat → Heap → Option R) → Nat → Int → Option Addr → Nat → Nat → Option Addr → Nat → Nat → Int → Int → Heap → Option R) (color_change_v35_l1 : (Option Addr → Nat → Nat → Heap → Option R) → Nat → Int → Option Addr → Nat → Nat → Int → Int → Heap → Option R) (color_change_v35_l2 : (Int → Option Addr → Nat → Nat → Int → Int → Heap → Option R) → Nat → Int → Option Addr → Nat → Nat → Int → Int → Int → Int → Int → Int → Int → Heap → Option R) (k n : Nat) (n795 : Int) (q796 : Option Addr) (l797 : Nat) (c798 : Nat) (n799 : Int) (n800 : Int) (n801 : Int) (n802 : Int) (n803 : Int) (n804 : Int) (n805 : Int) (H : Heap) (K : Xit → Env → Heap → Option R) : evJ (color_change_v35_Ct color_forward) (color_change_v35_Jt k color_change_v35_l0 color_change_v35_l1 color_change_v35_l2) color_change_v35_i2 (List.zip [0, 2, 7, 10, 38, 39, 67, 68] [.int .i64 n795, .func (.func 35) ⟨[]⟩ ⟨[]⟩, .slice q796 l797 c798, .int .i64 n799, .int .i64 n800, .int .i64 n801, .agg ⟨[.int .i64 n802, .int .i64 n803, .int .i64 n804]⟩, .int .i64 n805]) H (fun x e' H' => match x with | .normal => color_change_v35_aa2 color_change_v35_l2 n ((clean e' [0, 2, 7, 10, 38, 39, 67, 68]).map (·.2)) H' K | x => K x (clean e' ((⟨[], [(4, [0, 2, 7, 38, 39])], []⟩ : Out).of x)) H') = color_change_v35_l2_b (color_change_v35_l2 (fun n1115 q1116 l1117 c1118 n1119 n1120 H => K (.exit 4) [(0, .int .i64 n1115), (2, .func (.func 35) #[] ⟨[]⟩), (7, .slice q1116 l1117 c1118), (38, .int .i64 n1119), (39, .int .i64 n1120)] H) n) (fun n1115 q1116 l1117 c1118 n1119 n1120 H => K (.exit 4) [(0, .int .i64 n1115), (2, .func (.func 35) #[] ⟨[]⟩), (7, .slice q1116 l1117 c1118), (38, .int .i64 n1119), (39, .int .i64 n1120)] H) k n795 q796 l797 c798 n799 n800 n801 n802 n803 n804 n805 H := by kernel_rfl
theorem color_change_v35_j2 {R : Type} (k : Nat) : JS Try.prog 83 (color_change_v35_a2 R k k) [0, 2, 7, 10, 38, 39, 67, 68] ⟨[], [(4, [0, 2, 7, 38, 39])], []⟩ (.loop (sel [1, 1, 1, 1, 0, 1, 0, 0, 1, 1, 0, 0, 1, 1, 1, 0, 0] (Try.f39.body.getD .skip))) :=
  loop_ok (nt := 83) (c := (sel [1, 1, 1, 1, 0, 1, 0, 0, 1, 1, 0, 0, 1, 1, 1, 0, 0] (Try.f39.body.getD .skip))) (C := color_change_v35_C R k) (an := An) (t := (.seq (.reg [0, 2, 7, 10, 38, 39, 67, 68, 69] []) (.seq (.cond .leaf .leaf) (.seq (.node (.seq (.reg [0, 2, 7, 10, 12, 13, 38, 39, 67, 68] []) (.reg [0, 2, 7, 10, 38, 39, 67, 68] []))) (.reg [0, 2, 7, 10, 38, 39, 67, 68] []))))) (ic := color_change_v35_i2) (color_change_v35_S R k) (color_change_v35_J R k) (by kernel_rfl) (And.intro True.intro (And.intro (And.intro True.intro True.intro) (And.intro (And.intro True.intro True.intro) True.intro))) (color_change_v35_a2 R k) (fun vals H K => by unfold color_change_v35_a2 color_change_v35_aa2; split <;> rfl)
    (fun n vals H K r h => by
      unfold color_change_v35_a2 color_change_v35_aa2 at h
      split at h <;> first | (cases h; done) | exact Eq.trans (color_change_v35_e2 color_forward (color_change_v35_l0 k) (color_change_v35_l1 k) (color_change_v35_l2 k) k n _ _ _ _ _ _ _ _ _ _ _ H K) h) k
theorem color_change_v35_e1 {R : Type} (color_forward : Int → Int → Int → Int → Heap → (Int → Int → Int → Heap → Option R) → Option R) (color_change_v35_l0 : (Int → Option Addr → Nat → Nat → Heap → Option R) → Nat → Int → Option Addr → Nat → Nat → Option Addr → Nat → Nat → Int → Int → Heap → Option R) (color_change_v35_l1 : (Option Addr → Nat → Nat → Heap → Option R) → Nat → Int → Option Addr → Nat → Nat → Int → Int → Heap → Option R) (color_change_v35_l2 : (Int → Option Addr → Nat → Nat → Int → Int → Heap → Option R) → Nat → Int → Option Addr → Nat → Nat → Int → Int → Int → Int → Int → Int → Int → Heap → Option R) (k n : Nat) (n758 : Int) (q759 : Option Addr) (l760 : Nat) (c761 : Nat) (n762 : Int) (n763 : Int) (H : Heap) (K : Xit → Env → Heap → Option R) : evJ (color_change_v35_Ct color_forward) (color_change_v35_Jt k color_change_v35_l0 color_change_v35_l1 color_change_v35_l2) color_change_v35_i1 (List.zip [0, 2, 7, 38, 39] [.int .i64 n758, .func (.func 35) ⟨[]⟩ ⟨[]⟩, .slice q759 l760 c761, .int .i64 n762, .int .i64 n763]) H (fun x e' H' => match x with | .normal => color_change_v35_aa1 color_change_v35_l1 n ((clean e' [0, 2, 7, 38, 39]).map (·.2)) H' K | x => K x (clean e' ((⟨[], [(2, [7])], []⟩ : Out).of x)) H') = color_change_v35_l1_b color_forward color_change_v35_l2 (color_change_v35_l1 (fun q1112 l1113 c1114 H => K (.exit 2) [(7, .slice q1112 l1113 c1114)] H) n) (fun q1112 l1113 c1114 H => K (.exit 2) [(7, .slice q1112 l1113 c1114)] H) k n758 q759 l760 c761 n762 n763 H := by kernel_rfl
theorem color_change_v35_j1 {R : Type} (k : Nat) : JS Try.prog 83 (color_change_v35_a1 R k k) [0, 2, 7, 38, 39] ⟨[], [(2, [7])], []⟩ (.loop (sel [1, 1, 1, 1, 0, 1, 0, 0] (Try.f39.body.getD .skip))) :=
  loop_ok (nt := 83) (c := (sel [1, 1, 1, 1, 0, 1, 0, 0] (Try.f39.body.getD .skip))) (C := color_change_v35_C R k) (an := An) (t := (.seq (.reg [0, 2, 7, 38, 39, 40] []) (.seq (.cond .leaf .leaf) (.seq (.node (.seq (.reg [0, 2, 7, 10, 38, 39] []) (.seq (.reg [0, 2, 7, 10, 11, 38, 39] [[], [], [], [2], [2, 3], [2, 3, 4], [], [2, 3, 4, 5, 6], [2, 3, 4, 5, 6, 7], [], [9], [9, 10], [9, 10, 11], [], [9, 10, 11, 12, 13], [9, 10, 11, 12, 13, 14], [], [16], [16, 17], [16, 17, 18], [], [16, 17, 18, 19, 20], [16, 17, 18, 19, 20, 21], [2, 3, 4, 5, 6, 7, 8, 9, 10, 11, 12, 13, 14, 15, 16, 17, 18, 19, 20, 21, 22], [0, 1, 2, 3, 4, 5, 6, 7, 8, 9, 10, 11, 12, 13, 14, 15, 16, 17, 18, 19, 20, 21, 22, 23], [], [0, 1, 2, 3, 4, 5, 6, 7, 8, 9, 10, 11, 12, 13, 14, 15, 16, 17, 18, 19, 20, 21, 22, 23, 24, 25]]) (.seq (.reg [0, 2, 7, 10, 38, 39, 67, 68] []) (.node (.opq 2 [0, 2, 7, 10, 38, 39, 67, 68] ⟨[], [(4, [0, 2, 7, 38, 39])], []⟩ (.node (.seq (.reg [0, 2, 7, 10, 38, 39, 67, 68, 69] []) (.seq (.cond .leaf .leaf) (.seq (.node (.seq (.reg [0, 2, 7, 10, 12, 13, 38, 39, 67, 68] []) (.reg [0, 2, 7, 10, 38, 39, 67, 68] []))) (.reg [0, 2, 7, 10, 38, 39, 67, 68] []))))))))))) (.reg [0, 2, 7, 38, 39] []))))) (ic := color_change_v35_i1) (color_change_v35_S R k) (color_change_v35_J R k) (by kernel_rfl) (And.intro True.intro (And.intro (And.intro True.intro True.intro) (And.intro (And.intro True.intro (And.intro True.intro (And.intro True.intro (color_change_v35_j2 k)))) True.intro))) (color_change_v35_a1 R k) (fun vals H K => by unfold color_change_v35_a1 color_change_v35_aa1; split <;> rfl)
    (fun n vals H K r h => by
      unfold color_change_v35_a1 color_change_v35_aa1 at h
      split at h <;> first | (cases h; done) | exact Eq.trans (color_change_v35_e1 color_forward (color_change_v35_l0 k) (color_change_v35_l1 k) (color_change_v35_l2 k) k n _ _ _ _ _ _ H K) h) k
theorem color_change_v35_e0 {R : Type} (color_forward : Int → Int → Int → Int → Heap → (Int → Int → Int → Heap → Option R) → Option R) (color_change_v35_l0 : (Int → Option Addr → Nat → Nat → Heap → Option R) → Nat → Int → Option Addr → Nat → Nat → Option Addr → Nat → Nat → Int → Int → Heap → Option R) (color_change_v35_l1 : (Option Addr → Nat → Nat → Heap → Option R) → Nat → Int → Option Addr → Nat → Nat → Int → Int → Heap → Option R) (color_change_v35_l2 : (Int → Option Addr → Nat → Nat → Int → Int → Heap → Option R) → Nat → Int → Option Addr → Nat → Nat → Int → Int → Int → Int → Int → Int → Int → Heap → Option R) (k n : Nat) (n703 : Int) (q704 : Option Addr) (l705 : Nat) (c706 : Nat) (q707 : Option Addr) (l708 : Nat) (c709 : Nat) (n710 : Int) (n711 : Int) (H : Heap) (K : Xit → Env → Heap → Option R) : evJ (color_change_v35_Ct color_forward) (color_change_v35_Jt k color_change_v35_l0 color_change_v35_l1 color_change_v35_l2) color_change_v35_i0 (List.zip [0, 2, 7, 14, 15, 16] [.int .i64 n703, .func (.func 35) ⟨[]⟩ ⟨[]⟩, .slice q704 l705 c706, .slice q707 l708 c709, .int .i64 n710, .int .i64 n711]) H (fun x e' H' => match x with | .normal => color_change_v35_aa0 color_change_v35_l0 n ((clean e' [0, 2, 7, 14, 15, 16]).map (·.2)) H' K | x => K x (clean e' ((⟨[], [(0, [0, 2, 7])], []⟩ : Out).of x)) H') = color_change_v35_l0_b (color_change_v35_l0 (fun n1108 q1109 l1110 c1111 H => K (.exit 0) [(0, .int .i64 n1108), (2, .func (.func 35) #[] ⟨[]⟩), (7, .slice q1109 l1110 c1111)] H) n) (fun n1108 q1109 l1110 c1111 H => K (.exit 0) [(0, .int .i64 n1108), (2, .func (.func 35) #[] ⟨[]⟩), (7, .slice q1109 l1110 c1111)] H) k n703 q704 l705 c706 q707 l708 c709 n710 n711 H := by kernel_rfl
theorem color_change_v35_j0 {R : Type} (k : Nat) : JS Try.prog 83 (color_change_v35_a0 R k k) [0, 2, 7, 14, 15, 16] ⟨[], [(0, [0, 2, 7])], []⟩ (.loop (sel [1, 1, 0, 1, 0, 0] (Try.f39.body.getD .skip))) :=
  loop_ok (nt := 83) (c := (sel [1, 1, 0, 1, 0, 0] (Try.f39.body.getD .skip))) (C := color_change_v35_C R k) (an := An) (t := (.seq (.reg [0, 2, 7, 14, 15, 16, 17] []) (.seq (.cond .leaf .leaf) (.seq (.node (.seq (.reg [0, 2, 7, 9, 14, 15, 16] []) (.reg [0, 2, 7, 14, 15, 16] [[], [], [1], [], [], [4], [3, 4, 5], [1, 2, 3, 4, 5, 6], [1, 2, 3, 4, 5, 6, 7], [0, 1, 2, 3, 4, 5, 6, 7, 8], [0, 1, 2, 3, 4, 5, 6, 7, 8, 9]]))) (.reg [0, 2, 7, 14, 15, 16] []))))) (ic := color_change_v35_i0) (color_change_v35_S R k) (color_change_v35_J R k) (by kernel_rfl) (And.intro True.intro (And.intro (And.intro True.intro True.intro) (And.intro (And.intro True.intro True.intro) True.intro))) (color_change_v35_a0 R k) (fun vals H K => by unfold color_change_v35_a0 color_change_v35_aa0; split <;> rfl)
    (fun n vals H K r h => by
      unfold color_change_v35_a0 color_change_v35_aa0 at h
      split at h <;> first | (cases h; done) | exact Eq.trans (color_change_v35_e0 color_forward (color_change_v35_l0 k) (color_change_v35_l1 k) (color_change_v35_l2 k) k n _ _ _ _ _ _ _ _ _ H K) h) k
def color_change_v35_ca {R : Type} (f : Int → Option Addr → Nat → Nat → Heap → (Option Addr → Nat → Nat → Heap → Option R) → Option R) (args : List Value) (H : Heap) (K : Value → Heap → Option R) : Option R :=
  match args with
  | [.int .i64 n699, .slice q700 l701 c702, .func (.func 35) ⟨[]⟩ ⟨[]⟩] => f n699 q700 l701 c702 H (fun q1121 l1122 c1123 H => K (.slice q1121 l1122 c1123) H)
  | _ => none
def color_change_v35_c (R : Type) (k : Nat) (args : List Value) (H : Heap) (K : Value → Heap → Option R) : Option R := color_change_v35_ca (color_change_v35 k) args H K
theorem color_change_v35_e {R : Type} (color_forward : Int → Int → Int → Int → Heap → (Int → Int → Int → Heap → Option R) → Option R) (color_change_v35_l0 : (Int → Option Addr → Nat → Nat → Heap → Option R) → Nat → Int → Option Addr → Nat → Nat → Option Addr → Nat → Nat → Int → Int → Heap → Option R) (color_change_v35_l1 : (Option Addr → Nat → Nat → Heap → Option R) → Nat → Int → Option Addr → Nat → Nat → Int → Int → Heap → Option R) (color_change_v35_l2 : (Int → Option Addr → Nat → Nat → Int → Int → Heap → Option R) → Nat → Int → Option Addr → Nat → Nat → Int → Int → Int → Int → Int → Int → Int → Heap → Option R) (k : Nat) (n699 : Int) (q700 : Option Addr) (l701 : Nat) (c702 : Nat) (H : Heap) (K : Value → Heap → Option R) : evF (color_change_v35_Ct color_forward) (color_change_v35_Jt k color_change_v35_l0 color_change_v35_l1 color_change_v35_l2) color_change_v35_f [.int .i64 n699, .slice q700 l701 c702, .func (.func 35) ⟨[]⟩ ⟨[]⟩] H K = color_change_v35_b color_change_v35_l0 color_change_v35_l1 k n699 q700 l701 c702 H (fun q1121 l1122 c1123 H => K (.slice q1121 l1122 c1123) H) := by kernel_rfl
theorem color_change_v35_cs (R : Type) (k : Nat) : ∀ args H K r, color_change_v35_c R k args H K = some r → ∃ v H', Tri Try.prog 39 args H v H' ∧ K v H' = some r := by
  intro args H K r h
  unfold color_change_v35_c color_change_v35_ca at h
  split at h
  · exact evF_ok (C := color_change_v35_C R k) (an := An) (t := color_change_v35_at) (fn := Try.f39) (c := (Try.f39.body.getD .skip)) (ifn := color_change_v35_f) (color_change_v35_S R k) (color_change_v35_J R k) Try.func39 (by kernel_rfl) (by kernel_rfl) (And.intro True.intro (And.intro True.intro (And.intro (And.intro True.intro (color_change_v35_j0 k)) (And.intro (And.intro True.intro (And.intro (And.intro True.intro True.intro) True.intro)) (And.intro (And.intro True.intro (color_change_v35_j1 k)) (And.intro True.intro True.intro)))))) rfl (Eq.trans (color_change_v35_e color_forward (color_change_v35_l0 k) (color_change_v35_l1 k) (color_change_v35_l2 k) k _ _ _ _ H K) h)
  · cases h
/-! ### color_Apply: function 18 -/
def color_Apply_b {R : Type} (color_check : Int → Option Addr → Nat → Nat → Int → Heap → (Int → Heap → Option R) → Option R) (color_change_v35 : Int → Option Addr → Nat → Nat → Heap → (Option Addr → Nat → Nat → Heap → Option R) → Option R) (k : Nat) (n506 : Int) (q507 : Option Addr) (l508 : Nat) (c509 : Nat) (H : Heap) (K : Option Addr → Nat → Nat → Int → Heap → Option R) : Option R :=
color_check n506 q507 l508 c509 1048576 H fun n510 H511 =>
bif (n510 != 0) then (K none 0 0 n510 H511)
 else (color_change_v35 n506 q507 l508 c509 H511 fun q512 l513 c514 H515 =>
K q512 l513 c514 0 H515)

def color_Apply {R : Type} (k : Nat) (n506 : Int) (q507 : Option Addr) (l508 : Nat) (c509 : Nat) (H : Heap) (K : Option Addr → Nat → Nat → Int → Heap → Option R) : Option R := color_Apply_b (color_check k) (color_change_v35 k) k n506 q507 l508 c509 H K

def color_Apply_Ct {R : Type} (color_check : Int → Option Addr → Nat → Nat → Int → Heap → (Int → Heap → Option R) → Option R) (color_change_v35 : Int → Option Addr → Nat → Nat → Heap → (Option Addr → Nat → Nat → Heap → Option R) → Option R) : Tab R := tcons 38 (color_check_ca color_check) <| tcons 39 (color_change_v35_ca color_change_v35) <| fun _ _ _ _ => none
def color_Apply_C (R : Type) (k : Nat) : Tab R := color_Apply_Ct (color_check k) (color_change_v35 k)
theorem color_Apply_S (R : Type) (k : Nat) : CSound Try.prog (color_Apply_C R k) := csound_cons (color_check_cs R k) <| csound_cons (color_change_v35_cs R k) <| csound_nil
def color_Apply_Jt {R : Type} (k : Nat) : JTab R := fun _ _ _ _ => none
def color_Apply_J (R : Type) (k : Nat) : JTab R := color_Apply_Jt k
def color_Apply_at : AT := (.seq (.reg [0, 1] []) (.seq (.seq (.reg [0, 1, 6] []) (.seq (.reg [0, 1, 6, 11] []) (.cond (.seq (.reg [4, 5] []) .leaf) .leaf))) (.seq (.reg [4, 5] []) .leaf)))
def color_Apply_f : IFn := ⟨16, [.t 4, .t 5], (.seq (.reg [⟨some 4, .mov (.c (Go.Value.slice none 0 0)), none⟩,
 ⟨some 5, .mov (.c (Go.Value.int Go.IntKind.i64 0)), none⟩] [0, 1]) (.seq (.seq (.reg [⟨some 7, .mov (.t 0), none⟩,
 ⟨some 8, .mov (.t 1), none⟩,
 ⟨some 9, .call 38 [(.t 7), (.t 8), (.c (Go.Value.int Go.IntKind.i64 1048576))] (.one (.sc (.int .i64))), none⟩,
 ⟨some 6, .mov (.t 9), none⟩] [0, 1, 6]) (.seq (.reg [⟨some 10, .mov (.t 6), none⟩,
 ⟨some 11, .cmp .neq (.t 10) (.c (Go.Value.int Go.IntKind.i64 0)), none⟩] [0, 1, 6, 11]) (.cond (.t 11) (.seq (.reg [⟨some 12, .mov (.t 6), none⟩,
 ⟨some 4, .mov (.c (Go.Value.slice none 0 0)), none⟩,
 ⟨some 5, .mov (.t 12), none⟩] [4, 5]) .ret) .skip))) (.seq (.reg [⟨some 13, .mov (.t 0), none⟩,
 ⟨some 14, .mov (.t 1), none⟩,
 ⟨some 15, .call 39 [(.t 13), (.t 14), (.c (.func (.func 35) #[] #[]))] (.one (.sc .slc)), none⟩,
 ⟨some 4, .mov (.t 15), none⟩,
 ⟨some 5, .mov (.c (Go.Value.int Go.IntKind.i64 0)), none⟩] [4, 5]) .ret)))⟩
def color_Apply_ca {R : Type} (f : Int → Option Addr → Nat → Nat → Heap → (Option Addr → Nat → Nat → Int → Heap → Option R) → Option R) (args : List Value) (H : Heap) (K : Value → Heap → Option R) : Option R :=
  match args with
  | [.int .i64 n506, .slice q507 l508 c509] => f n506 q507 l508 c509 H (fun q1124 l1125 c1126 n1127 H => K (.tuple ⟨[.slice q1124 l1125 c1126, .int .i64 n1127]⟩) H)
  | _ => none
def color_Apply_c (R : Type) (k : Nat) (args : List Value) (H : Heap) (K : Value → Heap → Option R) : Option R := color_Apply_ca (color_Apply k) args H K
theorem color_Apply_e {R : Type} (color_check : Int → Option Addr → Nat → Nat → Int → Heap → (Int → Heap → Option R) → Option R) (color_change_v35 : Int → Option Addr → Nat → Nat → Heap → (Option Addr → Nat → Nat → Heap → Option R) → Option R) (k : Nat) (n506 : Int) (q507 : Option Addr) (l508 : Nat) (c509 : Nat) (H : Heap) (K : Value → Heap → Option R) : evF (color_Apply_Ct color_check color_change_v35) (color_Apply_Jt k) color_Apply_f [.int .i64 n506, .slice q507 l508 c509] H K = color_Apply_b color_check color_change_v35 k n506 q507 l508 c509 H (fun q1124 l1125 c1126 n1127 H => K (.tuple ⟨[.slice q1124 l1125 c1126, .int .i64 n1127]⟩) H) := by kernel_rfl
theorem color_Apply_cs (R : Type) (k : Nat) : ∀ args H K r, color_Apply_c R k args H K = some r → ∃ v H', Tri Try.prog 18 args H v H' ∧ K v H' = some r := by
  intro args H K r h
  unfold color_Apply_c color_Apply_ca at h
  split at h
  · exact evF_ok (C := color_Apply_C R k) (an := An) (t := color_Apply_at) (fn := Try.f18) (c := (Try.f18.body.getD .skip)) (ifn := color_Apply_f) (color_Apply_S R k) (color_Apply_J R k) Try.func18 (by kernel_rfl) (by kernel_rfl) (And.intro True.intro (And.intro (And.intro True.intro (And.intro True.intro (And.intro (And.intro True.intro True.intro) True.intro))) (And.intro True.intro True.intro))) rfl (Eq.trans (color_Apply_e (color_check k) (color_change_v35 k) k _ _ _ _ H K) h)
  · cases h
/-! ### color_Bound: function 29 -/
def color_Bound_p0_b {R : Type} (color_known : Int → (Bool → Option R) → Option R) (color_deep : Int → (Bool → Option R) → Option R) (k : Nat) (n555 : Int) (n556 : Int) (KN : Int → Int → Option R) (KR : Int → Option R) : Option R :=
color_known n555 fun t557 =>
bif (!t557) then (KR 0)
 else (color_deep n556 fun t558 =>
bif (!t558) then (KR 0)
 else (KN n555 n556))
def color_Bound_p0 {R : Type} (k : Nat) (n555 : Int) (n556 : Int) (KN : Int → Int → Option R) (KR : Int → Option R) : Option R := color_Bound_p0_b color_known color_deep k n555 n556 KN KR

def color_Bound_b {R : Type} (color_Bound_p0 : Int → Int → (Int → Int → Option R) → (Int → Option R) → Option R) (k : Nat) (n553 : Int) (n554 : Int) (K : Int → Option R) : Option R :=
color_Bound_p0 n553 n554 (fun n562 n563 =>
bif (n562 == 0) then (hbin .shl .i64 1 (IntKind.wrap .i64 (n563 - 1)) fun n564 =>
K n564)
 else (hbin .shl .i64 1 n563 fun n565 =>
K n565)) (fun n566 =>
K n566)

def color_Bound {R : Type} (k : Nat) (n553 : Int) (n554 : Int) (K : Int → Option R) : Option R := color_Bound_b (color_Bound_p0 k) k n553 n554 K

def color_Bound_Ct {R : Type} (color_known : Int → (Bool → Option R) → Option R) (color_deep : Int → (Bool → Option R) → Option R) : Tab R := tcons 48 (color_known_ca color_known) <| tcons 42 (color_deep_ca color_deep) <| fun _ _ _ _ => none
def color_Bound_C (R : Type) (k : Nat) : Tab R := color_Bound_Ct color_known color_deep
theorem color_Bound_S (R : Type) (k : Nat) : CSound Try.prog (color_Bound_C R k) := csound_cons (color_known_cs R k) <| csound_cons (color_deep_cs R k) <| csound_nil
def color_Bound_aa0 {R : Type} (f : Int → Int → (Int → Int → Option R) → (Int → Option R) → Option R) (n : Nat) (vals : List Value) (H : Heap) (K : Xit → Env → Heap → Option R) : Option R :=
  match vals with
  | [.int .i64 n555, .int .i64 n556] => f n555 n556 (fun n1128 n1129 => K .normal [(0, .int .i64 n1128), (1, .int .i64 n1129)] H) (fun n1130 => K .ret [(4, .int .i64 n1130)] H)
  | _ => none
def color_Bound_a0 (R : Type) (k n : Nat) (vals : List Value) (H : Heap) (K : Xit → Env → Heap → Option R) : Option R := color_Bound_aa0 (color_Bound_p0 k) n vals H K
def color_Bound_Jt {R : Type} (k : Nat) (color_Bound_p0 : Int → Int → (Int → Int → Option R) → (Int → Option R) → Option R) : JTab R := tcons 0 (color_Bound_aa0 color_Bound_p0 k) <| fun _ _ _ _ => none
def color_Bound_J (R : Type) (k : Nat) : JTab R := color_Bound_Jt k (color_Bound_p0 k)
def color_Bound_at : AT := (.seq (.reg [0, 1] []) (.seq (.opq 0 [0, 1] ⟨[0, 1], [], [4]⟩ (.seq (.reg [0, 1, 12] []) (.cond (.seq (.reg [4] []) .leaf) .leaf))) (.seq (.seq (.reg [1, 14] []) (.cond (.seq (.reg [4] []) .leaf) .leaf)) (.seq (.reg [4] []) .leaf))))
def color_Bound_i0 : IC := (.seq (.reg [⟨some 5, .mov (.t 0), none⟩,
 ⟨some 6, .call 48 [(.t 5)] (.one (.sc .bool)), none⟩,
 ⟨some 7, .lnot (.t 6), none⟩,
 ⟨some 8, .mov (.t 7), none⟩,
 ⟨some 9, .mov (.t 1), some (8, false)⟩,
 ⟨some 10, .call 42 [(.t 9)] (.one (.sc .bool)), some (8, false)⟩,
 ⟨some 11, .lnot (.t 10), some (8, false)⟩,
 ⟨some 12, .pick (.t 8) (.c (Go.Value.bool true)) (.t 11), none⟩] [0, 1, 12]) (.cond (.t 12) (.seq (.reg [⟨some 4, .mov (.c (Go.Value.int Go.IntKind.i64 0)), none⟩] [4]) .ret) .skip))
def color_Bound_f : IFn := ⟨20, [.t 4], (.seq (.reg [⟨some 4, .mov (.c (Go.Value.int Go.IntKind.i64 0)), none⟩] [0, 1]) (.seq (.opq 0 [0, 1] color_Bound_i0) (.seq (.seq (.reg [⟨some 13, .mov (.t 0), none⟩,
 ⟨some 14, .cmp .eql (.t 13) (.c (Go.Value.int Go.IntKind.i64 0)), none⟩] [1, 14]) (.cond (.t 14) (.seq (.reg [⟨some 15, .mov (.t 1), none⟩,
 ⟨some 16, .bin .sub .i64 (.t 15) (.c (Go.Value.int Go.IntKind.i64 1)), none⟩,
 ⟨some 17, .bin .shl .i64 (.c (Go.Value.int Go.IntKind.i64 1)) (.t 16), none⟩,
 ⟨some 4, .mov (.t 17), none⟩] [4]) .ret) .skip)) (.seq (.reg [⟨some 18, .mov (.t 1), none⟩,
 ⟨some 19, .bin .shl .i64 (.c (Go.Value.int Go.IntKind.i64 1)) (.t 18), none⟩,
 ⟨some 4, .mov (.t 19), none⟩] [4]) .ret))))⟩
theorem color_Bound_e0 {R : Type} (color_known : Int → (Bool → Option R) → Option R) (color_deep : Int → (Bool → Option R) → Option R) (color_Bound_p0 : Int → Int → (Int → Int → Option R) → (Int → Option R) → Option R) (k : Nat) (n555 : Int) (n556 : Int) (H : Heap) (K : Xit → Env → Heap → Option R) : evJ (color_Bound_Ct color_known color_deep) (color_Bound_Jt k color_Bound_p0) color_Bound_i0 (List.zip [0, 1] [.int .i64 n555, .int .i64 n556]) H (fun x e' H' => K x (clean e' ((⟨[0, 1], [], [4]⟩ : Out).of x)) H') = color_Bound_p0_b color_known color_deep k n555 n556 (fun n1128 n1129 => K .normal [(0, .int .i64 n1128), (1, .int .i64 n1129)] H) (fun n1130 => K .ret [(4, .int .i64 n1130)] H) := by kernel_rfl
theorem color_Bound_j0 {R : Type} (k : Nat) : JS Try.prog 20 (color_Bound_a0 R k k) [0, 1] ⟨[0, 1], [], [4]⟩ (sel [1, 0] (Try.f29.body.getD .skip)) :=
  piece_ok (nt := 20) (c := (sel [1, 0] (Try.f29.body.getD .skip))) (C := color_Bound_C R k) (an := An) (t := (.seq (.reg [0, 1, 12] []) (.cond (.seq (.reg [4] []) .leaf) .leaf))) (ic := color_Bound_i0) (color_Bound_S R k) (color_Bound_J R k) (by kernel_rfl) (And.intro True.intro (And.intro (And.intro True.intro True.intro) True.intro)) (color_Bound_a0 R k k)
    (fun vals H K r h => by
      unfold color_Bound_a0 color_Bound_aa0 at h
      split at h <;> first | (cases h; done) | exact Eq.trans (color_Bound_e0 color_known color_deep (color_Bound_p0 k) k _ _ H K) h)
def color_Bound_ca {R : Type} (f : Int → Int → (Int → Option R) → Option R) (args : List Value) (H : Heap) (K : Value → Heap → Option R) : Option R :=
  match args with
  | [.int .i64 n553, .int .i64 n554] => f n553 n554 (fun n1131 => K (.int .i64 n1131) H)
  | _ => none
def color_Bound_c (R : Type) (k : Nat) (args : List Value) (H : Heap) (K : Value → Heap → Option R) : Option R := color_Bound_ca (color_Bound k) args H K
theorem color_Bound_e {R : Type} (color_known : Int → (Bool → Option R) → Option R) (color_deep : Int → (Bool → Option R) → Option R) (color_Bound_p0 : Int → Int → (Int → Int → Option R) → (Int → Option R) → Option R) (k : Nat) (n553 : Int) (n554 : Int) (H : Heap) (K : Value → Heap → Option R) : evF (color_Bound_Ct color_known color_deep) (color_Bound_Jt k color_Bound_p0) color_Bound_f [.int .i64 n553, .int .i64 n554] H K = color_Bound_b color_Bound_p0 k n553 n554 (fun n1131 => K (.int .i64 n1131) H) := by kernel_rfl
theorem color_Bound_cs (R : Type) (k : Nat) : ∀ args H K r, color_Bound_c R k args H K = some r → ∃ v H', Tri Try.prog 29 args H v H' ∧ K v H' = some r := by
  intro args H K r h
  unfold color_Bound_c color_Bound_ca at h
  split at h
  · exact evF_ok (C := color_Bound_C R k) (an := An) (t := color_Bound_at) (fn := Try.f29) (c := (Try.f29.body.getD .skip)) (ifn := color_Bound_f) (color_Bound_S R k) (color_Bound_J R k) Try.func29 (by kernel_rfl) (by kernel_rfl) (And.intro True.intro (And.intro (color_Bound_j0 k) (And.intro (And.intro True.intro (And.intro (And.intro True.intro True.intro) True.intro)) (And.intro True.intro True.intro)))) rfl (Eq.trans (color_Bound_e color_known color_deep (color_Bound_p0 k) k _ _ H K) h)
  · cases h
/-! ### L_exampleHolds: function 12 -/
def L_exampleHolds_p0_b {R : Type} (k : Nat) (n30 : Int) (n31 : Int) (n32 : Int) (n33 : Int) (n34 : Int) (n35 : Int) (KN : Unit → Option R) (KR : Bool → Option R) : Option R :=
bif (n30 != 13) then (KR false)
 else (bif (n31 != (-15)) then (KR false)
 else (bif (n32 != (-10)) then (KR false)
 else (bif (n33 != 10) then (KR false)
 else (bif (n34 != 20) then (KR false)
 else (bif (n35 != 5) then (KR false)
 else (KN ()))))))
def L_exampleHolds_p0 {R : Type} (k : Nat) (n30 : Int) (n31 : Int) (n32 : Int) (n33 : Int) (n34 : Int) (n35 : Int) (KN : Unit → Option R) (KR : Bool → Option R) : Option R := L_exampleHolds_p0_b k n30 n31 n32 n33 n34 n35 KN KR

def L_exampleHolds_p1_b {R : Type} (k : Nat) (n45 : Int) (n46 : Int) (n47 : Int) (n48 : Int) (n49 : Int) (n50 : Int) (KN : Unit → Option R) (KR : Bool → Option R) : Option R :=
bif (n45 != 13) then (KR false)
 else (bif (n46 != 5) then (KR false)
 else (bif (n47 != 13) then (KR false)
 else (bif (n48 != 10) then (KR false)
 else (bif (n49 != 20) then (KR false)
 else (bif (n50 != 5) then (KR false)
 else (KN ()))))))
def L_exampleHolds_p1 {R : Type} (k : Nat) (n45 : Int) (n46 : Int) (n47 : Int) (n48 : Int) (n49 : Int) (n50 : Int) (KN : Unit → Option R) (KR : Bool → Option R) : Option R := L_exampleHolds_p1_b k n45 n46 n47 n48 n49 n50 KN KR

def L_exampleHolds_p2_b {R : Type} (R02_SameInts : Option Addr → Nat → Nat → Option Addr → Nat → Nat → Heap → (Bool → Option R) → Option R) (k : Nat) (p124 : Option Addr) (n125 : Int) (p126 : Option Addr) (n127 : Int) (n128 : Int) (H : Heap) (KN : Heap → Option R) (KR : Bool → Heap → Option R) : Option R :=
bif (n125 != 0) then (KR false H)
 else (bif (n127 != 0) then (KR false H)
 else (bif (n128 != 2) then (KR false H)
 else (hfad 4 p124 fun p129 =>
ldL H p129 fun q130 l131 c132 =>
hal H [.int .i64 (-128), .int .i64 0, .int .i64 127] fun p133 H134 =>
R02_SameInts q130 l131 c132 p133 3 3 H134 fun t135 =>
bif (!t135) then (KR false H134)
 else (hfad 4 p126 fun p136 =>
ldL H134 p136 fun q137 l138 c139 =>
hal H134 [.int .i64 0, .int .i64 128, .int .i64 255] fun p140 H141 =>
R02_SameInts q137 l138 c139 p140 3 3 H141 fun t142 =>
bif (!t142) then (KR false H141)
 else (KN H141)))))
def L_exampleHolds_p2 {R : Type} (k : Nat) (p124 : Option Addr) (n125 : Int) (p126 : Option Addr) (n127 : Int) (n128 : Int) (H : Heap) (KN : Heap → Option R) (KR : Bool → Heap → Option R) : Option R := L_exampleHolds_p2_b (R02_SameInts k) k p124 n125 p126 n127 n128 H KN KR

def L_exampleHolds_b {R : Type} (color_Forward : Int → Int → Int → Int → Heap → (Int → Int → Int → Heap → Option R) → Option R) (color_Inverse : Int → Int → Int → Int → Heap → (Int → Int → Int → Heap → Option R) → Option R) (L_exampleHolds_p0 : Int → Int → Int → Int → Int → Int → (Unit → Option R) → (Bool → Option R) → Option R) (L_exampleHolds_p1 : Int → Int → Int → Int → Int → Int → (Unit → Option R) → (Bool → Option R) → Option R) (color_Shift : Int → Int → Int → Int → Option Addr → Nat → Nat → Int → Bool → Int → Int → Heap → (Int → Int → Int → Int → Option Addr → Nat → Nat → Int → Heap → Option R) → Option R) (color_Unshift : Int → Int → Int → Int → Option Addr → Nat → Nat → Int → Bool → Int → Int → Heap → (Int → Int → Int → Int → Option Addr → Nat → Nat → Int → Heap → Option R) → Option R) (L_exampleHolds_p2 : Option Addr → Int → Option Addr → Int → Int → Heap → (Heap → Option R) → (Bool → Heap → Option R) → Option R) (color_Apply : Int → Option Addr → Nat → Nat → Heap → (Option Addr → Nat → Nat → Int → Heap → Option R) → Option R) (color_Bound : Int → Int → (Int → Option R) → Option R) (k : Nat) (H : Heap) (K : Bool → Heap → Option R) : Option R :=
color_Forward 1 10 20 5 H fun n22 n23 n24 H25 =>
color_Inverse 1 13 (-15) (-10) H25 fun n26 n27 n28 H29 =>
L_exampleHolds_p0 n22 n23 n24 n26 n27 n28 (fun (_ : Unit) =>
color_Forward 2 10 20 5 H29 fun n37 n38 n39 H40 =>
color_Inverse 2 13 5 13 H40 fun n41 n42 n43 H44 =>
L_exampleHolds_p1 n37 n38 n39 n41 n42 n43 (fun (_ : Unit) =>
hal H44 [.int .i64 0, .bool false, .int .i64 0, .int .i64 0] fun p52 H53 =>
hst H53 p52 [.int .i64 8, .bool false, .int .i64 1, .int .i64 1] fun H54 =>
hal H54 [.int .i64 0, .int .i64 0, .int .i64 0, .int .i64 0] fun p55 H56 =>
hst H56 p55 [.int .i64 0, .int .i64 0, .int .i64 3, .int .i64 1] fun H57 =>
ldI .i64 H57 (pad p55 0) fun n58 =>
ldI .i64 H57 (pad p55 1) fun n59 =>
ldI .i64 H57 (pad p55 2) fun n60 =>
ldI .i64 H57 (pad p55 3) fun n61 =>
hal H57 [.int .i64 0, .int .i64 128, .int .i64 255] fun p62 H63 =>
ldI .i64 H63 (pad p52 0) fun n64 =>
ldB H63 (pad p52 1) fun t65 =>
ldI .i64 H63 (pad p52 2) fun n66 =>
ldI .i64 H63 (pad p52 3) fun n67 =>
color_Shift n58 n59 n60 n61 p62 3 3 n64 t65 n66 n67 H63 fun n68 n69 n70 n71 q72 l73 c74 n75 H76 =>
hal H76 [.int .i64 0, .int .i64 0, .int .i64 0, .int .i64 0, .slice none 0 0] fun p77 H78 =>
hst H78 p77 [.int .i64 n68, .int .i64 n69, .int .i64 n70, .int .i64 n71, .slice q72 l73 c74] fun H79 =>
ldI .i64 H79 (pad p55 0) fun n80 =>
ldI .i64 H79 (pad p55 1) fun n81 =>
ldI .i64 H79 (pad p55 2) fun n82 =>
ldI .i64 H79 (pad p55 3) fun n83 =>
hal H79 [.int .i64 (-200), .int .i64 0, .int .i64 500] fun p84 H85 =>
ldI .i64 H85 (pad p52 0) fun n86 =>
ldB H85 (pad p52 1) fun t87 =>
ldI .i64 H85 (pad p52 2) fun n88 =>
ldI .i64 H85 (pad p52 3) fun n89 =>
color_Unshift n80 n81 n82 n83 p84 3 3 n86 t87 n88 n89 H85 fun n90 n91 n92 n93 q94 l95 c96 n97 H98 =>
hal H98 [.int .i64 0, .int .i64 0, .int .i64 0, .int .i64 0, .slice none 0 0] fun p99 H100 =>
hst H100 p99 [.int .i64 n90, .int .i64 n91, .int .i64 n92, .int .i64 n93, .slice q94 l95 c96] fun H101 =>
ldI .i64 H101 (pad p55 0) fun n102 =>
ldI .i64 H101 (pad p55 1) fun n103 =>
ldI .i64 H101 (pad p55 2) fun n104 =>
ldI .i64 H101 (pad p55 3) fun n105 =>
hal H101 [.int .i64 0, .int .i64 1, .int .i64 256] fun p106 H107 =>
ldI .i64 H107 (pad p52 0) fun n108 =>
ldB H107 (pad p52 1) fun t109 =>
ldI .i64 H107 (pad p52 2) fun n110 =>
ldI .i64 H107 (pad p52 3) fun n111 =>
color_Shift n102 n103 n104 n105 p106 3 3 n108 t109 n110 n111 H107 fun n112 n113 n114 n115 q116 l117 c118 n119 H120 =>
hal H120 [.int .i64 0, .int .i64 0, .int .i64 0, .int .i64 0, .slice none 0 0] fun p121 H122 =>
hst H122 p121 [.int .i64 n112, .int .i64 n113, .int .i64 n114, .int .i64 n115, .slice q116 l117 c118] fun H123 =>
L_exampleHolds_p2 p77 n75 p99 n97 n119 H123 (fun H144 =>
hal H144 [.int .i64 0, .int .i64 0, .int .i64 0, .int .i64 0, .slice none 0 0] fun p145 H146 =>
hst H146 p145 [.int .i64 0, .int .i64 0, .int .i64 0, .int .i64 0, .slice none 0 0] fun H147 =>
hal H147 [.int .i64 0, .int .i64 0, .int .i64 0, .int .i64 0, .slice none 0 0] fun p148 H149 =>
hst H149 p148 [.int .i64 1, .int .i64 0, .int .i64 1, .int .i64 0, .slice none 0 0] fun H150 =>
ldI .i64 H150 (pad p145 0) fun n151 =>
ldI .i64 H150 (pad p145 1) fun n152 =>
ldI .i64 H150 (pad p145 2) fun n153 =>
ldI .i64 H150 (pad p145 3) fun n154 =>
ldL H150 (pad p145 4) fun q155 l156 c157 =>
ldI .i64 H150 (pad p145 0) fun n158 =>
ldI .i64 H150 (pad p145 1) fun n159 =>
ldI .i64 H150 (pad p145 2) fun n160 =>
ldI .i64 H150 (pad p145 3) fun n161 =>
ldL H150 (pad p145 4) fun q162 l163 c164 =>
hal H150 [.int .i64 n151, .int .i64 n152, .int .i64 n153, .int .i64 n154, .slice q155 l156 c157, .int .i64 n158, .int .i64 n159, .int .i64 n160, .int .i64 n161, .slice q162 l163 c164] fun p165 H166 =>
color_Apply 1 p165 2 2 H166 fun q167 l168 c169 n170 H171 =>
ldI .i64 H171 (pad p145 0) fun n172 =>
ldI .i64 H171 (pad p145 1) fun n173 =>
ldI .i64 H171 (pad p145 2) fun n174 =>
ldI .i64 H171 (pad p145 3) fun n175 =>
ldL H171 (pad p145 4) fun q176 l177 c178 =>
ldI .i64 H171 (pad p148 0) fun n179 =>
ldI .i64 H171 (pad p148 1) fun n180 =>
ldI .i64 H171 (pad p148 2) fun n181 =>
ldI .i64 H171 (pad p148 3) fun n182 =>
ldL H171 (pad p148 4) fun q183 l184 c185 =>
ldI .i64 H171 (pad p145 0) fun n186 =>
ldI .i64 H171 (pad p145 1) fun n187 =>
ldI .i64 H171 (pad p145 2) fun n188 =>
ldI .i64 H171 (pad p145 3) fun n189 =>
ldL H171 (pad p145 4) fun q190 l191 c192 =>
hal H171 [.int .i64 n172, .int .i64 n173, .int .i64 n174, .int .i64 n175, .slice q176 l177 c178, .int .i64 n179, .int .i64 n180, .int .i64 n181, .int .i64 n182, .slice q183 l184 c185, .int .i64 n186, .int .i64 n187, .int .i64 n188, .int .i64 n189, .slice q190 l191 c192] fun p193 H194 =>
color_Apply 1 p193 3 3 H194 fun q195 l196 c197 n198 H199 =>
bif (n170 == 4) then (bif (n198 == 1) then (color_Bound 0 8 fun n200 =>
bif (n200 == 128) then (color_Bound 1 8 fun n201 =>
K (n201 == 256) H199)
 else (K false H199))
 else (K false H199))
 else (K false H199)) (fun t202 H203 =>
K t202 H203)) (fun t204 =>
K t204 H44)) (fun t205 =>
K t205 H29)

def L_exampleHolds {R : Type} (k : Nat) (H : Heap) (K : Bool → Heap → Option R) : Option R := L_exampleHolds_b color_Forward color_Inverse (L_exampleHolds_p0 k) (L_exampleHolds_p1 k) (color_Shift k) (color_Unshift k) (L_exampleHolds_p2 k) (color_Apply k) (color_Bound k) k H K

def L_exampleHolds_Ct {R : Type} (color_Forward : Int → Int → Int → Int → Heap → (Int → Int → Int → Heap → Option R) → Option R) (color_Inverse : Int → Int → Int → Int → Heap → (Int → Int → Int → Heap → Option R) → Option R) (color_Shift : Int → Int → Int → Int → Option Addr → Nat → Nat → Int → Bool → Int → Int → Heap → (Int → Int → Int → Int → Option Addr → Nat → Nat → Int → Heap → Option R) → Option R) (color_Unshift : Int → Int → Int → Int → Option Addr → Nat → Nat → Int → Bool → Int → Int → Heap → (Int → Int → Int → Int → Option Addr → Nat → Nat → Int → Heap → Option R) → Option R) (R02_SameInts : Option Addr → Nat → Nat → Option Addr → Nat → Nat → Heap → (Bool → Option R) → Option R) (color_Apply : Int → Option Addr → Nat → Nat → Heap → (Option Addr → Nat → Nat → Int → Heap → Option R) → Option R) (color_Bound : Int → Int → (Int → Option R) → Option R) : Tab R := tcons 13 (color_Forward_ca color_Forward) <| tcons 15 (color_Inverse_ca color_Inverse) <| tcons 24 (color_Shift_ca color_Shift) <| tcons 27 (color_Unshift_ca color_Unshift) <| tcons 34 (R02_SameInts_ca R02_SameInts) <| tcons 18 (color_Apply_ca color_Apply) <| tcons 29 (color_Bound_ca color_Bound) <| fun _ _ _ _ => none
def L_exampleHolds_C (R : Type) (k : Nat) : Tab R := L_exampleHolds_Ct color_Forward color_Inverse (color_Shift k) (color_Unshift k) (R02_SameInts k) (color_Apply k) (color_Bound k)
theorem L_exampleHolds_S (R : Type) (k : Nat) : CSound Try.prog (L_exampleHolds_C R k) := csound_cons (color_Forward_cs R k) <| csound_cons (color_Inverse_cs R k) <| csound_cons (color_Shift_cs R k) <| csound_cons (color_Unshift_cs R k) <| csound_cons (R02_SameInts_cs R k) <| csound_cons (color_Apply_cs R k) <| csound_cons (color_Bound_cs R k) <| csound_nil
def L_exampleHolds_aa0 {R : Type} (f : Int → Int → Int → Int → Int → Int → (Unit → Option R) → (Bool → Option R) → Option R) (n : Nat) (vals : List Value) (H : Heap) (K : Xit → Env → Heap → Option R) : Option R :=
  match vals with
  | [.int .i64 n30, .int .i64 n31, .int .i64 n32, .int .i64 n33, .int .i64 n34, .int .i64 n35] => f n30 n31 n32 n33 n34 n35 (fun _ => K .normal [] H) (fun t1132 => K .ret [(0, .bool t1132)] H)
  | _ => none
def L_exampleHolds_a0 (R : Type) (k n : Nat) (vals : List Value) (H : Heap) (K : Xit → Env → Heap → Option R) : Option R := L_exampleHolds_aa0 (L_exampleHolds_p0 k) n vals H K
def L_exampleHolds_aa1 {R : Type} (f : Int → Int → Int → Int → Int → Int → (Unit → Option R) → (Bool → Option R) → Option R) (n : Nat) (vals : List Value) (H : Heap) (K : Xit → Env → Heap → Option R) : Option R :=
  match vals with
  | [.int .i64 n45, .int .i64 n46, .int .i64 n47, .int .i64 n48, .int .i64 n49, .int .i64 n50] => f n45 n46 n47 n48 n49 n50 (fun _ => K .normal [] H) (fun t1133 => K .ret [(0, .bool t1133)] H)
  | _ => none
def L_exampleHolds_a1 (R : Type) (k n : Nat) (vals : List Value) (H : Heap) (K : Xit → Env → Heap → Option R) : Option R := L_exampleHolds_aa1 (L_exampleHolds_p1 k) n vals H K
def L_exampleHolds_aa2 {R : Type} (f : Option Addr → Int → Option Addr → Int → Int → Heap → (Heap → Option R) → (Bool → Heap → Option R) → Option R) (n : Nat) (vals : List Value) (H : Heap) (K : Xit → Env → Heap → Option R) : Option R :=
  match vals with
  | [.pointer p124, .int .i64 n125, .pointer p126, .int .i64 n127, .int .i64 n128] => f p124 n125 p126 n127 n128 H (fun H => K .normal [] H) (fun t1134 H => K .ret [(0, .bool t1134)] H)
  | _ => none
def L_exampleHolds_a2 (R : Type) (k n : Nat) (vals : List Value) (H : Heap) (K : Xit → Env → Heap → Option R) : Option R := L_exampleHolds_aa2 (L_exampleHolds_p2 k) n vals H K
def L_exampleHolds_Jt {R : Type} (k : Nat) (L_exampleHolds_p0 : Int → Int → Int → Int → Int → Int → (Unit → Option R) → (Bool → Option R) → Option R) (L_exampleHolds_p1 : Int → Int → Int → Int → Int → Int → (Unit → Option R) → (Bool → Option R) → Option R) (L_exampleHolds_p2 : Option Addr → Int → Option Addr → Int → Int → Heap → (Heap → Option R) → (Bool → Heap → Option R) → Option R) : JTab R := tcons 0 (L_exampleHolds_aa0 L_exampleHolds_p0 k) <| tcons 1 (L_exampleHolds_aa1 L_exampleHolds_p1 k) <| tcons 2 (L_exampleHolds_aa2 L_exampleHolds_p2 k) <| fun _ _ _ _ => none
def L_exampleHolds_J (R : Type) (k : Nat) : JTab R := L_exampleHolds_Jt k (L_exampleHolds_p0 k) (L_exampleHolds_p1 k) (L_exampleHolds_p2 k)
def L_exampleHolds_at : AT := (.seq (.reg [] []) (.seq (.reg [1, 2, 3] []) (.seq (.reg [1, 2, 3, 4, 5, 6] []) (.seq (.opq 0 [1, 2, 3, 4, 5, 6] ⟨[], [], [0]⟩ (.seq (.reg [52] []) (.cond (.seq (.reg [0] []) .leaf) .leaf))) (.seq (.reg [1, 2, 3] []) (.seq (.reg [1, 2, 3, 4, 5, 6] []) (.seq (.opq 1 [1, 2, 3, 4, 5, 6] ⟨[], [], [0]⟩ (.seq (.reg [84] []) (.cond (.seq (.reg [0] []) .leaf) .leaf))) (.seq (.reg [7] []) (.seq (.reg [7, 8] []) (.seq (.reg [7, 8, 9, 10] []) (.seq (.reg [7, 8, 9, 10, 11, 12] []) (.seq (.reg [9, 10, 11, 12, 14] []) (.seq (.opq 2 [9, 10, 11, 12, 14] ⟨[], [], [0]⟩ (.seq (.reg [134] []) (.cond (.seq (.reg [0] []) .leaf) .leaf))) (.seq (.reg [15] []) (.seq (.reg [15, 16] []) (.seq (.reg [15, 16, 18] []) (.seq (.reg [18, 20] []) (.seq (.reg [0] []) .leaf))))))))))))))))))
def L_exampleHolds_i2 : IC := (.seq (.reg [⟨some 111, .mov (.t 10), none⟩,
 ⟨some 112, .cmp .neq (.t 111) (.c (Go.Value.int Go.IntKind.i64 0)), none⟩,
 ⟨some 113, .mov (.t 112), none⟩,
 ⟨some 114, .mov (.t 12), some (113, false)⟩,
 ⟨some 115, .cmp .neq (.t 114) (.c (Go.Value.int Go.IntKind.i64 0)), some (113, false)⟩,
 ⟨some 116, .pick (.t 113) (.c (Go.Value.bool true)) (.t 115), none⟩,
 ⟨some 117, .mov (.t 116), none⟩,
 ⟨some 118, .mov (.t 14), some (117, false)⟩,
 ⟨some 119, .cmp .neq (.t 118) (.c (Go.Value.int Go.IntKind.i64 2)), some (117, false)⟩,
 ⟨some 120, .pick (.t 117) (.c (Go.Value.bool true)) (.t 119), none⟩,
 ⟨some 121, .mov (.t 120), none⟩,
 ⟨some 122, .fad 4 (.t 9), some (121, false)⟩,
 ⟨some 123, .ld (.sc .slc) (.t 122), some (121, false)⟩,
 ⟨some 124, .bls 3 [.int .i64 0, .int .i64 0, .int .i64 0] [(0, 1, (.c (Go.Value.int Go.IntKind.i64 (-128)))), (1, 1, (.c (Go.Value.int Go.IntKind.i64 0))), (2, 1, (.c (Go.Value.int Go.IntKind.i64 127)))], some (121, false)⟩,
 ⟨some 125, .call 34 [(.t 123), (.t 124)] (.one (.sc .bool)), some (121, false)⟩,
 ⟨some 126, .lnot (.t 125), some (121, false)⟩,
 ⟨some 127, .pick (.t 121) (.c (Go.Value.bool true)) (.t 126), none⟩,
 ⟨some 128, .mov (.t 127), none⟩,
 ⟨some 129, .fad 4 (.t 11), some (128, false)⟩,
 ⟨some 130, .ld (.sc .slc) (.t 129), some (128, false)⟩,
 ⟨some 131, .bls 3 [.int .i64 0, .int .i64 0, .int .i64 0] [(0, 1, (.c (Go.Value.int Go.IntKind.i64 0))), (1, 1, (.c (Go.Value.int Go.IntKind.i64 128))), (2, 1, (.c (Go.Value.int Go.IntKind.i64 255)))], some (128, false)⟩,
 ⟨some 132, .call 34 [(.t 130), (.t 131)] (.one (.sc .bool)), some (128, false)⟩,
 ⟨some 133, .lnot (.t 132), some (128, false)⟩,
 ⟨some 134, .pick (.t 128) (.c (Go.Value.bool true)) (.t 133), none⟩] [134]) (.cond (.t 134) (.seq (.reg [⟨some 0, .mov (.c (Go.Value.bool false)), none⟩] [0]) .ret) .skip))
def L_exampleHolds_i1 : IC := (.seq (.reg [⟨some 63, .mov (.t 1), none⟩,
 ⟨some 64, .cmp .neq (.t 63) (.c (Go.Value.int Go.IntKind.i64 13)), none⟩,
 ⟨some 65, .mov (.t 64), none⟩,
 ⟨some 66, .mov (.t 2), some (65, false)⟩,
 ⟨some 67, .cmp .neq (.t 66) (.c (Go.Value.int Go.IntKind.i64 5)), some (65, false)⟩,
 ⟨some 68, .pick (.t 65) (.c (Go.Value.bool true)) (.t 67), none⟩,
 ⟨some 69, .mov (.t 68), none⟩,
 ⟨some 70, .mov (.t 3), some (69, false)⟩,
 ⟨some 71, .cmp .neq (.t 70) (.c (Go.Value.int Go.IntKind.i64 13)), some (69, false)⟩,
 ⟨some 72, .pick (.t 69) (.c (Go.Value.bool true)) (.t 71), none⟩,
 ⟨some 73, .mov (.t 72), none⟩,
 ⟨some 74, .mov (.t 4), some (73, false)⟩,
 ⟨some 75, .cmp .neq (.t 74) (.c (Go.Value.int Go.IntKind.i64 10)), some (73, false)⟩,
 ⟨some 76, .pick (.t 73) (.c (Go.Value.bool true)) (.t 75), none⟩,
 ⟨some 77, .mov (.t 76), none⟩,
 ⟨some 78, .mov (.t 5), some (77, false)⟩,
 ⟨some 79, .cmp .neq (.t 78) (.c (Go.Value.int Go.IntKind.i64 20)), some (77, false)⟩,
 ⟨some 80, .pick (.t 77) (.c (Go.Value.bool true)) (.t 79), none⟩,
 ⟨some 81, .mov (.t 80), none⟩,
 ⟨some 82, .mov (.t 6), some (81, false)⟩,
 ⟨some 83, .cmp .neq (.t 82) (.c (Go.Value.int Go.IntKind.i64 5)), some (81, false)⟩,
 ⟨some 84, .pick (.t 81) (.c (Go.Value.bool true)) (.t 83), none⟩] [84]) (.cond (.t 84) (.seq (.reg [⟨some 0, .mov (.c (Go.Value.bool false)), none⟩] [0]) .ret) .skip))
def L_exampleHolds_i0 : IC := (.seq (.reg [⟨some 31, .mov (.t 1), none⟩,
 ⟨some 32, .cmp .neq (.t 31) (.c (Go.Value.int Go.IntKind.i64 13)), none⟩,
 ⟨some 33, .mov (.t 32), none⟩,
 ⟨some 34, .mov (.t 2), some (33, false)⟩,
 ⟨some 35, .cmp .neq (.t 34) (.c (Go.Value.int Go.IntKind.i64 (-15))), some (33, false)⟩,
 ⟨some 36, .pick (.t 33) (.c (Go.Value.bool true)) (.t 35), none⟩,
 ⟨some 37, .mov (.t 36), none⟩,
 ⟨some 38, .mov (.t 3), some (37, false)⟩,
 ⟨some 39, .cmp .neq (.t 38) (.c (Go.Value.int Go.IntKind.i64 (-10))), some (37, false)⟩,
 ⟨some 40, .pick (.t 37) (.c (Go.Value.bool true)) (.t 39), none⟩,
 ⟨some 41, .mov (.t 40), none⟩,
 ⟨some 42, .mov (.t 4), some (41, false)⟩,
 ⟨some 43, .cmp .neq (.t 42) (.c (Go.Value.int Go.IntKind.i64 10)), some (41, false)⟩,
 ⟨some 44, .pick (.t 41) (.c (Go.Value.bool true)) (.t 43), none⟩,
 ⟨some 45, .mov (.t 44), none⟩,
 ⟨some 46, .mov (.t 5), some (45, false)⟩,
 ⟨some 47, .cmp .neq (.t 46) (.c (Go.Value.int Go.IntKind.i64 20)), some (45, false)⟩,
 ⟨some 48, .pick (.t 45) (.c (Go.Value.bool true)) (.t 47), none⟩,
 ⟨some 49, .mov (.t 48), none⟩,
 ⟨some 50, .mov (.t 6), some (49, false)⟩,
 ⟨some 51, .cmp .neq (.t 50) (.c (Go.Value.int Go.IntKind.i64 5)), some (49, false)⟩,
 ⟨some 52, .pick (.t 49) (.c (Go.Value.bool true)) (.t 51), none⟩] [52]) (.cond (.t 52) (.seq (.reg [⟨some 0, .mov (.c (Go.Value.bool false)), none⟩] [0]) .ret) .skip))
def L_exampleHolds_f : IFn := ⟨168, [.t 0], (.seq (.reg [⟨some 0, .mov (.c (Go.Value.bool false)), none⟩] []) (.seq (.reg [⟨some 22, .call 13 [(.c (Go.Value.int Go.IntKind.i64 1)), (.c (Go.Value.int Go.IntKind.i64 10)), (.c (Go.Value.int Go.IntKind.i64 20)), (.c (Go.Value.int Go.IntKind.i64 5))] (.tup [(.sc (.int .i64)), (.sc (.int .i64)), (.sc (.int .i64))]), none⟩,
 ⟨some 21, .mov (.t 22), none⟩,
 ⟨some 23, .ext 0 (.t 21), none⟩,
 ⟨some 24, .ext 1 (.t 21), none⟩,
 ⟨some 25, .ext 2 (.t 21), none⟩,
 ⟨some 1, .mov (.t 23), none⟩,
 ⟨some 2, .mov (.t 24), none⟩,
 ⟨some 3, .mov (.t 25), none⟩] [1, 2, 3]) (.seq (.reg [⟨some 27, .call 15 [(.c (Go.Value.int Go.IntKind.i64 1)), (.c (Go.Value.int Go.IntKind.i64 13)), (.c (Go.Value.int Go.IntKind.i64 (-15))), (.c (Go.Value.int Go.IntKind.i64 (-10)))] (.tup [(.sc (.int .i64)), (.sc (.int .i64)), (.sc (.int .i64))]), none⟩,
 ⟨some 26, .mov (.t 27), none⟩,
 ⟨some 28, .ext 0 (.t 26), none⟩,
 ⟨some 29, .ext 1 (.t 26), none⟩,
 ⟨some 30, .ext 2 (.t 26), none⟩,
 ⟨some 4, .mov (.t 28), none⟩,
 ⟨some 5, .mov (.t 29), none⟩,
 ⟨some 6, .mov (.t 30), none⟩] [1, 2, 3, 4, 5, 6]) (.seq (.opq 0 [1, 2, 3, 4, 5, 6] L_exampleHolds_i0) (.seq (.reg [⟨some 54, .call 13 [(.c (Go.Value.int Go.IntKind.i64 2)), (.c (Go.Value.int Go.IntKind.i64 10)), (.c (Go.Value.int Go.IntKind.i64 20)), (.c (Go.Value.int Go.IntKind.i64 5))] (.tup [(.sc (.int .i64)), (.sc (.int .i64)), (.sc (.int .i64))]), none⟩,
 ⟨some 53, .mov (.t 54), none⟩,
 ⟨some 55, .ext 0 (.t 53), none⟩,
 ⟨some 56, .ext 1 (.t 53), none⟩,
 ⟨some 57, .ext 2 (.t 53), none⟩,
 ⟨some 1, .mov (.t 55), none⟩,
 ⟨some 2, .mov (.t 56), none⟩,
 ⟨some 3, .mov (.t 57), none⟩] [1, 2, 3]) (.seq (.reg [⟨some 59, .call 15 [(.c (Go.Value.int Go.IntKind.i64 2)), (.c (Go.Value.int Go.IntKind.i64 13)), (.c (Go.Value.int Go.IntKind.i64 5)), (.c (Go.Value.int Go.IntKind.i64 13))] (.tup [(.sc (.int .i64)), (.sc (.int .i64)), (.sc (.int .i64))]), none⟩,
 ⟨some 58, .mov (.t 59), none⟩,
 ⟨some 60, .ext 0 (.t 58), none⟩,
 ⟨some 61, .ext 1 (.t 58), none⟩,
 ⟨some 62, .ext 2 (.t 58), none⟩,
 ⟨some 4, .mov (.t 60), none⟩,
 ⟨some 5, .mov (.t 61), none⟩,
 ⟨some 6, .mov (.t 62), none⟩] [1, 2, 3, 4, 5, 6]) (.seq (.opq 1 [1, 2, 3, 4, 5, 6] L_exampleHolds_i1) (.seq (.reg [⟨some 85, .bld [.int .i64 0, .bool false, .int .i64 0, .int .i64 0] [(0, 1, (.c (Go.Value.int Go.IntKind.i64 8))), (2, 1, (.c (Go.Value.int Go.IntKind.i64 1))), (3, 1, (.c (Go.Value.int Go.IntKind.i64 1)))], none⟩,
 ⟨some 7, .alc [.int .i64 0, .bool false, .int .i64 0, .int .i64 0], none⟩,
 ⟨none, .st 4 (.t 7) (.t 85), none⟩] [7]) (.seq (.reg [⟨some 86, .bld [.int .i64 0, .int .i64 0, .int .i64 0, .int .i64 0] [(2, 1, (.c (Go.Value.int Go.IntKind.i64 3))), (3, 1, (.c (Go.Value.int Go.IntKind.i64 1)))], none⟩,
 ⟨some 8, .alc [.int .i64 0, .int .i64 0, .int .i64 0, .int .i64 0], none⟩,
 ⟨none, .st 4 (.t 8) (.t 86), none⟩] [7, 8]) (.seq (.reg [⟨some 88, .ld (.agg [(.int .i64), (.int .i64), (.int .i64), (.int .i64)]) (.t 8), none⟩,
 ⟨some 89, .bls 3 [.int .i64 0, .int .i64 0, .int .i64 0] [(0, 1, (.c (Go.Value.int Go.IntKind.i64 0))), (1, 1, (.c (Go.Value.int Go.IntKind.i64 128))), (2, 1, (.c (Go.Value.int Go.IntKind.i64 255)))], none⟩,
 ⟨some 90, .bld [.int .i64 0, .int .i64 0, .int .i64 0, .int .i64 0, .slice none 0 0] [(0, 4, (.t 88)), (4, 1, (.t 89))], none⟩,
 ⟨some 91, .ld (.agg [(.int .i64), .bool, (.int .i64), (.int .i64)]) (.t 7), none⟩,
 ⟨some 92, .call 24 [(.t 90), (.t 91)] (.tup [(.agg [(.int .i64), (.int .i64), (.int .i64), (.int .i64), .slc]), (.sc (.int .i64))]), none⟩,
 ⟨some 87, .mov (.t 92), none⟩,
 ⟨some 93, .ext 0 (.t 87), none⟩,
 ⟨some 94, .ext 1 (.t 87), none⟩,
 ⟨some 9, .alc [.int .i64 0, .int .i64 0, .int .i64 0, .int .i64 0, .slice none 0 0], none⟩,
 ⟨none, .st 5 (.t 9) (.t 93), none⟩,
 ⟨some 10, .mov (.t 94), none⟩] [7, 8, 9, 10]) (.seq (.reg [⟨some 96, .ld (.agg [(.int .i64), (.int .i64), (.int .i64), (.int .i64)]) (.t 8), none⟩,
 ⟨some 97, .bls 3 [.int .i64 0, .int .i64 0, .int .i64 0] [(0, 1, (.c (Go.Value.int Go.IntKind.i64 (-200)))), (1, 1, (.c (Go.Value.int Go.IntKind.i64 0))), (2, 1, (.c (Go.Value.int Go.IntKind.i64 500)))], none⟩,
 ⟨some 98, .bld [.int .i64 0, .int .i64 0, .int .i64 0, .int .i64 0, .slice none 0 0] [(0, 4, (.t 96)), (4, 1, (.t 97))], none⟩,
 ⟨some 99, .ld (.agg [(.int .i64), .bool, (.int .i64), (.int .i64)]) (.t 7), none⟩,
 ⟨some 100, .call 27 [(.t 98), (.t 99)] (.tup [(.agg [(.int .i64), (.int .i64), (.int .i64), (.int .i64), .slc]), (.sc (.int .i64))]), none⟩,
 ⟨some 95, .mov (.t 100), none⟩,
 ⟨some 101, .ext 0 (.t 95), none⟩,
 ⟨some 102, .ext 1 (.t 95), none⟩,
 ⟨some 11, .alc [.int .i64 0, .int .i64 0, .int .i64 0, .int .i64 0, .slice none 0 0], none⟩,
 ⟨none, .st 5 (.t 11) (.t 101), none⟩,
 ⟨some 12, .mov (.t 102), none⟩] [7, 8, 9, 10, 11, 12]) (.seq (.reg [⟨some 104, .ld (.agg [(.int .i64), (.int .i64), (.int .i64), (.int .i64)]) (.t 8), none⟩,
 ⟨some 105, .bls 3 [.int .i64 0, .int .i64 0, .int .i64 0] [(0, 1, (.c (Go.Value.int Go.IntKind.i64 0))), (1, 1, (.c (Go.Value.int Go.IntKind.i64 1))), (2, 1, (.c (Go.Value.int Go.IntKind.i64 256)))], none⟩,
 ⟨some 106, .bld [.int .i64 0, .int .i64 0, .int .i64 0, .int .i64 0, .slice none 0 0] [(0, 4, (.t 104)), (4, 1, (.t 105))], none⟩,
 ⟨some 107, .ld (.agg [(.int .i64), .bool, (.int .i64), (.int .i64)]) (.t 7), none⟩,
 ⟨some 108, .call 24 [(.t 106), (.t 107)] (.tup [(.agg [(.int .i64), (.int .i64), (.int .i64), (.int .i64), .slc]), (.sc (.int .i64))]), none⟩,
 ⟨some 103, .mov (.t 108), none⟩,
 ⟨some 109, .ext 0 (.t 103), none⟩,
 ⟨some 110, .ext 1 (.t 103), none⟩,
 ⟨some 13, .alc [.int .i64 0, .int .i64 0, .int .i64 0, .int .i64 0, .slice none 0 0], none⟩,
 ⟨none, .st 5 (.t 13) (.t 109), none⟩,
 ⟨some 14, .mov (.t 110), none⟩] [9, 10, 11, 12, 14]) (.seq (.opq 2 [9, 10, 11, 12, 14] L_exampleHolds_i2) (.seq (.reg [⟨some 135, .bld [.int .i64 0, .int .i64 0, .int .i64 0, .int .i64 0] [], none⟩,
 ⟨some 136, .bld [.int .i64 0, .int .i64 0, .int .i64 0, .int .i64 0, .slice none 0 0] [(0, 4, (.t 135))], none⟩,
 ⟨some 15, .alc [.int .i64 0, .int .i64 0, .int .i64 0, .int .i64 0, .slice none 0 0], none⟩,
 ⟨none, .st 5 (.t 15) (.t 136), none⟩] [15]) (.seq (.reg [⟨some 137, .bld [.int .i64 0, .int .i64 0, .int .i64 0, .int .i64 0] [(0, 1, (.c (Go.Value.int Go.IntKind.i64 1))), (2, 1, (.c (Go.Value.int Go.IntKind.i64 1)))], none⟩,
 ⟨some 138, .bld [.int .i64 0, .int .i64 0, .int .i64 0, .int .i64 0, .slice none 0 0] [(0, 4, (.t 137))], none⟩,
 ⟨some 16, .alc [.int .i64 0, .int .i64 0, .int .i64 0, .int .i64 0, .slice none 0 0], none⟩,
 ⟨none, .st 5 (.t 16) (.t 138), none⟩] [15, 16]) (.seq (.reg [⟨some 140, .ld (.agg [(.int .i64), (.int .i64), (.int .i64), (.int .i64), .slc]) (.t 15), none⟩,
 ⟨some 141, .ld (.agg [(.int .i64), (.int .i64), (.int .i64), (.int .i64), .slc]) (.t 15), none⟩,
 ⟨some 142, .bls 2 [.int .i64 0, .int .i64 0, .int .i64 0, .int .i64 0, .slice none 0 0, .int .i64 0, .int .i64 0, .int .i64 0, .int .i64 0, .slice none 0 0] [(0, 5, (.t 140)), (5, 5, (.t 141))], none⟩,
 ⟨some 143, .call 18 [(.c (Go.Value.int Go.IntKind.i64 1)), (.t 142)] (.tup [(.sc .slc), (.sc (.int .i64))]), none⟩,
 ⟨some 139, .mov (.t 143), none⟩,
 ⟨some 144, .ext 0 (.t 139), none⟩,
 ⟨some 145, .ext 1 (.t 139), none⟩,
 ⟨some 17, .mov (.t 144), none⟩,
 ⟨some 18, .mov (.t 145), none⟩] [15, 16, 18]) (.seq (.reg [⟨some 147, .ld (.agg [(.int .i64), (.int .i64), (.int .i64), (.int .i64), .slc]) (.t 15), none⟩,
 ⟨some 148, .ld (.agg [(.int .i64), (.int .i64), (.int .i64), (.int .i64), .slc]) (.t 16), none⟩,
 ⟨some 149, .ld (.agg [(.int .i64), (.int .i64), (.int .i64), (.int .i64), .slc]) (.t 15), none⟩,
 ⟨some 150, .bls 3 [.int .i64 0, .int .i64 0, .int .i64 0, .int .i64 0, .slice none 0 0, .int .i64 0, .int .i64 0, .int .i64 0, .int .i64 0, .slice none 0 0, .int .i64 0, .int .i64 0, .int .i64 0, .int .i64 0, .slice none 0 0] [(0, 5, (.t 147)), (5, 5, (.t 148)), (10, 5, (.t 149))], none⟩,
 ⟨some 151, .call 18 [(.c (Go.Value.int Go.IntKind.i64 1)), (.t 150)] (.tup [(.sc .slc), (.sc (.int .i64))]), none⟩,
 ⟨some 146, .mov (.t 151), none⟩,
 ⟨some 152, .ext 0 (.t 146), none⟩,
 ⟨some 153, .ext 1 (.t 146), none⟩,
 ⟨some 19, .mov (.t 152), none⟩,
 ⟨some 20, .mov (.t 153), none⟩] [18, 20]) (.seq (.reg [⟨some 154, .mov (.t 18), none⟩,
 ⟨some 155, .cmp .eql (.t 154) (.c (Go.Value.int Go.IntKind.i64 4)), none⟩,
 ⟨some 156, .mov (.t 155), none⟩,
 ⟨some 157, .mov (.t 20), some (156, true)⟩,
 ⟨some 158, .cmp .eql (.t 157) (.c (Go.Value.int Go.IntKind.i64 1)), some (156, true)⟩,
 ⟨some 159, .pick (.t 156) (.t 158) (.c (Go.Value.bool false)), none⟩,
 ⟨some 160, .mov (.t 159), none⟩,
 ⟨some 161, .call 29 [(.c (Go.Value.int Go.IntKind.i64 0)), (.c (Go.Value.int Go.IntKind.i64 8))] (.one (.sc (.int .i64))), some (160, true)⟩,
 ⟨some 162, .cmp .eql (.t 161) (.c (Go.Value.int Go.IntKind.i64 128)), some (160, true)⟩,
 ⟨some 163, .pick (.t 160) (.t 162) (.c (Go.Value.bool false)), none⟩,
 ⟨some 164, .mov (.t 163), none⟩,
 ⟨some 165, .call 29 [(.c (Go.Value.int Go.IntKind.i64 1)), (.c (Go.Value.int Go.IntKind.i64 8))] (.one (.sc (.int .i64))), some (164, true)⟩,
 ⟨some 166, .cmp .eql (.t 165) (.c (Go.Value.int Go.IntKind.i64 256)), some (164, true)⟩,
 ⟨some 167, .pick (.t 164) (.t 166) (.c (Go.Value.bool false)), none⟩,
 ⟨some 0, .mov (.t 167), none⟩] [0]) .ret))))))))))))))))))⟩
theorem L_exampleHolds_e2 {R : Type} (color_Forward : Int → Int → Int → Int → Heap → (Int → Int → Int → Heap → Option R) → Option R) (color_Inverse : Int → Int → Int → Int → Heap → (Int → Int → Int → Heap → Option R) → Option R) (color_Shift : Int → Int → Int → Int → Option Addr → Nat → Nat → Int → Bool → Int → Int → Heap → (Int → Int → Int → Int → Option Addr → Nat → Nat → Int → Heap → Option R) → Option R) (color_Unshift : Int → Int → Int → Int → Option Addr → Nat → Nat → Int → Bool → Int → Int → Heap → (Int → Int → Int → Int → Option Addr → Nat → Nat → Int → Heap → Option R) → Option R) (R02_SameInts : Option Addr → Nat → Nat → Option Addr → Nat → Nat → Heap → (Bool → Option R) → Option R) (color_Apply : Int → Option Addr → Nat → Nat → Heap → (Option Addr → Nat → Nat → Int → Heap → Option R) → Option R) (color_Bound : Int → Int → (Int → Option R) → Option R) (L_exampleHolds_p0 : Int → Int → Int → Int → Int → Int → (Unit → Option R) → (Bool → Option R) → Option R) (L_exampleHolds_p1 : Int → Int → Int → Int → Int → Int → (Unit → Option R) → (Bool → Option R) → Option R) (L_exampleHolds_p2 : Option Addr → Int → Option Addr → Int → Int → Heap → (Heap → Option R) → (Bool → Heap → Option R) → Option R) (k : Nat) (p124 : Option Addr) (n125 : Int) (p126 : Option Addr) (n127 : Int) (n128 : Int) (H : Heap) (K : Xit → Env → Heap → Option R) : evJ (L_exampleHolds_Ct color_Forward color_Inverse color_Shift color_Unshift R02_SameInts color_Apply color_Bound) (L_exampleHolds_Jt k L_exampleHolds_p0 L_exampleHolds_p1 L_exampleHolds_p2) L_exampleHolds_i2 (List.zip [9, 10, 11, 12, 14] [.pointer p124, .int .i64 n125, .pointer p126, .int .i64 n127, .int .i64 n128]) H (fun x e' H' => K x (clean e' ((⟨[], [], [0]⟩ : Out).of x)) H') = L_exampleHolds_p2_b R02_SameInts k p124 n125 p126 n127 n128 H (fun H => K .normal [] H) (fun t1134 H => K .ret [(0, .bool t1134)] H) := by kernel_rfl
theorem L_exampleHolds_j2 {R : Type} (k : Nat) : JS Try.prog 168 (L_exampleHolds_a2 R k k) [9, 10, 11, 12, 14] ⟨[], [], [0]⟩ (sel [1, 1, 1, 1, 1, 1, 1, 1, 1, 1, 1, 1, 0] (Try.f12.body.getD .skip)) :=
  piece_ok (nt := 168) (c := (sel [1, 1, 1, 1, 1, 1, 1, 1, 1, 1, 1, 1, 0] (Try.f12.body.getD .skip))) (C := L_exampleHolds_C R k) (an := An) (t := (.seq (.reg [134] []) (.cond (.seq (.reg [0] []) .leaf) .leaf))) (ic := L_exampleHolds_i2) (L_exampleHolds_S R k) (L_exampleHolds_J R k) (by kernel_rfl) (And.intro True.intro (And.intro (And.intro True.intro True.intro) True.intro)) (L_exampleHolds_a2 R k k)
    (fun vals H K r h => by
      unfold L_exampleHolds_a2 L_exampleHolds_aa2 at h
      split at h <;> first | (cases h; done) | exact Eq.trans (L_exampleHolds_e2 color_Forward color_Inverse (color_Shift k) (color_Unshift k) (R02_SameInts k) (color_Apply k) (color_Bound k) (L_exampleHolds_p0 k) (L_exampleHolds_p1 k) (L_exampleHolds_p2 k) k _ _ _ _ _ H K) h)
theorem L_exampleHolds_e1 {R : Type} (color_Forward : Int → Int → Int → Int → Heap → (Int → Int → Int → Heap → Option R) → Option R) (color_Inverse : Int → Int → Int → Int → Heap → (Int → Int → Int → Heap → Option R) → Option R) (color_Shift : Int → Int → Int → Int → Option Addr → Nat → Nat → Int → Bool → Int → Int → Heap → (Int → Int → Int → Int → Option Addr → Nat → Nat → Int → Heap → Option R) → Option R) (color_Unshift : Int → Int → Int → Int → Option Addr → Nat → Nat → Int → Bool → Int → Int → Heap → (Int → Int → Int → Int → Option Addr → Nat → Nat → Int → Heap → Option R) → Option R) (R02_SameInts : Option Addr → Nat → Nat → Option Addr → Nat → Nat → Heap → (Bool → Option R) → Option R) (color_Apply : Int → Option Addr → Nat → Nat → Heap → (Option Addr → Nat → Nat → Int → Heap → Option R) → Option R) (color_Bound : Int → Int → (Int → Option R) → Option R) (L_exampleHolds_p0 : Int → Int → Int → Int → Int → Int → (Unit → Option R) → (Bool → Option R) → Option R) (L_exampleHolds_p1 : Int → Int → Int → Int → Int → Int → (Unit → Option R) → (Bool → Option R) → Option R) (L_exampleHolds_p2 : Option Addr → Int → Option Addr → Int → Int → Heap → (Heap → Option R) → (Bool → Heap → Option R) → Option R) (k : Nat) (n45 : Int) (n46 : Int) (n47 : Int) (n48 : Int) (n49 : Int) (n50 : Int) (H : Heap) (K : Xit → Env → Heap → Option R) : evJ (L_exampleHolds_Ct color_Forward color_Inverse color_Shift color_Unshift R02_SameInts color_Apply color_Bound) (L_exampleHolds_Jt k L_exampleHolds_p0 L_exampleHolds_p1 L_exampleHolds_p2) L_exampleHolds_i1 (List.zip [1, 2, 3, 4, 5, 6] [.int .i64 n45, .int .i64 n46, .int .i64 n47, .int .i64 n48, .int .i64 n49, .int .i64 n50]) H (fun x e' H' => K x (clean e' ((⟨[], [], [0]⟩ : Out).of x)) H') = L_exampleHolds_p1_b k n45 n46 n47 n48 n49 n50 (fun _ => K .normal [] H) (fun t1133 => K .ret [(0, .bool t1133)] H) := by kernel_rfl
theorem L_exampleHolds_j1 {R : Type} (k : Nat) : JS Try.prog 168 (L_exampleHolds_a1 R k k) [1, 2, 3, 4, 5, 6] ⟨[], [], [0]⟩ (sel [1, 1, 1, 1, 1, 1, 0] (Try.f12.body.getD .skip)) :=
  piece_ok (nt := 168) (c := (sel [1, 1, 1, 1, 1, 1, 0] (Try.f12.body.getD .skip))) (C := L_exampleHolds_C R k) (an := An) (t := (.seq (.reg [84] []) (.cond (.seq (.reg [0] []) .leaf) .leaf))) (ic := L_exampleHolds_i1) (L_exampleHolds_S R k) (L_exampleHolds_J R k) (by kernel_rfl) (And.intro True.intro (And.intro (And.intro True.intro True.intro) True.intro)) (L_exampleHolds_a1 R k k)
    (fun vals H K r h => by
      unfold L_exampleHolds_a1 L_exampleHolds_aa1 at h
      split at h <;> first | (cases h; done) | exact Eq.trans (L_exampleHolds_e1 color_Forward color_Inverse (color_Shift k) (color_Unshift k) (R02_SameInts k) (color_Apply k) (color_Bound k) (L_exampleHolds_p0 k) (L_exampleHolds_p1 k) (L_exampleHolds_p2 k) k _ _ _ _ _ _ H K) h)
theorem L_exampleHolds_e0 {R : Type} (color_Forward : Int → Int → Int → Int → Heap → (Int → Int → Int → Heap → Option R) → Option R) (color_Inverse : Int → Int → Int → Int → Heap → (Int → Int → Int → Heap → Option R) → Option R) (color_Shift : Int → Int → Int → Int → Option Addr → Nat → Nat → Int → Bool → Int → Int → Heap → (Int → Int → Int → Int → Option Addr → Nat → Nat → Int → Heap → Option R) → Option R) (color_Unshift : Int → Int → Int → Int → Option Addr → Nat → Nat → Int → Bool → Int → Int → Heap → (Int → Int → Int → Int → Option Addr → Nat → Nat → Int → Heap → Option R) → Option R) (R02_SameInts : Option Addr → Nat → Nat → Option Addr → Nat → Nat → Heap → (Bool → Option R) → Option R) (color_Apply : Int → Option Addr → Nat → Nat → Heap → (Option Addr → Nat → Nat → Int → Heap → Option R) → Option R) (color_Bound : Int → Int → (Int → Option R) → Option R) (L_exampleHolds_p0 : Int → Int → Int → Int → Int → Int → (Unit → Option R) → (Bool → Option R) → Option R) (L_exampleHolds_p1 : Int → Int → Int → Int → Int → Int → (Unit → Option R) → (Bool → Option R) → Option R) (L_exampleHolds_p2 : Option Addr → Int → Option Addr → Int → Int → Heap → (Heap → Option R) → (Bool → Heap → Option R) → Option R) (k : Nat) (n30 : Int) (n31 : Int) (n32 : Int) (n33 : Int) (n34 : Int) (n35 : Int) (H : Heap) (K : Xit → Env → Heap → Option R) : evJ (L_exampleHolds_Ct color_Forward color_Inverse color_Shift color_Unshift R02_SameInts color_Apply color_Bound) (L_exampleHolds_Jt k L_exampleHolds_p0 L_exampleHolds_p1 L_exampleHolds_p2) L_exampleHolds_i0 (List.zip [1, 2, 3, 4, 5, 6] [.int .i64 n30, .int .i64 n31, .int .i64 n32, .int .i64 n33, .int .i64 n34, .int .i64 n35]) H (fun x e' H' => K x (clean e' ((⟨[], [], [0]⟩ : Out).of x)) H') = L_exampleHolds_p0_b k n30 n31 n32 n33 n34 n35 (fun _ => K .normal [] H) (fun t1132 => K .ret [(0, .bool t1132)] H) := by kernel_rfl
theorem L_exampleHolds_j0 {R : Type} (k : Nat) : JS Try.prog 168 (L_exampleHolds_a0 R k k) [1, 2, 3, 4, 5, 6] ⟨[], [], [0]⟩ (sel [1, 1, 1, 0] (Try.f12.body.getD .skip)) :=
  piece_ok (nt := 168) (c := (sel [1, 1, 1, 0] (Try.f12.body.getD .skip))) (C := L_exampleHolds_C R k) (an := An) (t := (.seq (.reg [52] []) (.cond (.seq (.reg [0] []) .leaf) .leaf))) (ic := L_exampleHolds_i0) (L_exampleHolds_S R k) (L_exampleHolds_J R k) (by kernel_rfl) (And.intro True.intro (And.intro (And.intro True.intro True.intro) True.intro)) (L_exampleHolds_a0 R k k)
    (fun vals H K r h => by
      unfold L_exampleHolds_a0 L_exampleHolds_aa0 at h
      split at h <;> first | (cases h; done) | exact Eq.trans (L_exampleHolds_e0 color_Forward color_Inverse (color_Shift k) (color_Unshift k) (R02_SameInts k) (color_Apply k) (color_Bound k) (L_exampleHolds_p0 k) (L_exampleHolds_p1 k) (L_exampleHolds_p2 k) k _ _ _ _ _ _ H K) h)
def L_exampleHolds_ca {R : Type} (f : Heap → (Bool → Heap → Option R) → Option R) (args : List Value) (H : Heap) (K : Value → Heap → Option R) : Option R :=
  match args with
  | [] => f H (fun t1135 H => K (.bool t1135) H)
  | _ => none
def L_exampleHolds_c (R : Type) (k : Nat) (args : List Value) (H : Heap) (K : Value → Heap → Option R) : Option R := L_exampleHolds_ca (L_exampleHolds k) args H K
theorem L_exampleHolds_e {R : Type} (color_Forward : Int → Int → Int → Int → Heap → (Int → Int → Int → Heap → Option R) → Option R) (color_Inverse : Int → Int → Int → Int → Heap → (Int → Int → Int → Heap → Option R) → Option R) (color_Shift : Int → Int → Int → Int → Option Addr → Nat → Nat → Int → Bool → Int → Int → Heap → (Int → Int → Int → Int → Option Addr → Nat → Nat → Int → Heap → Option R) → Option R) (color_Unshift : Int → Int → Int → Int → Option Addr → Nat → Nat → Int → Bool → Int → Int → Heap → (Int → Int → Int → Int → Option Addr → Nat → Nat → Int → Heap → Option R) → Option R) (R02_SameInts : Option Addr → Nat → Nat → Option Addr → Nat → Nat → Heap → (Bool → Option R) → Option R) (color_Apply : Int → Option Addr → Nat → Nat → Heap → (Option Addr → Nat → Nat → Int → Heap → Option R) → Option R) (color_Bound : Int → Int → (Int → Option R) → Option R) (L_exampleHolds_p0 : Int → Int → Int → Int → Int → Int → (Unit → Option R) → (Bool → Option R) → Option R) (L_exampleHolds_p1 : Int → Int → Int → Int → Int → Int → (Unit → Option R) → (Bool → Option R) → Option R) (L_exampleHolds_p2 : Option Addr → Int → Option Addr → Int → Int → Heap → (Heap → Option R) → (Bool → Heap → Option R) → Option R) (k : Nat) (H : Heap) (K : Value → Heap → Option R) : evF (L_exampleHolds_Ct color_Forward color_Inverse color_Shift color_Unshift R02_SameInts color_Apply color_Bound) (L_exampleHolds_Jt k L_exampleHolds_p0 L_exampleHolds_p1 L_exampleHolds_p2) L_exampleHolds_f [] H K = L_exampleHolds_b color_Forward color_Inverse L_exampleHolds_p0 L_exampleHolds_p1 color_Shift color_Unshift L_exampleHolds_p2 color_Apply color_Bound k H (fun t1135 H => K (.bool t1135) H) := by kernel_rfl
theorem L_exampleHolds_cs (R : Type) (k : Nat) : ∀ args H K r, L_exampleHolds_c R k args H K = some r → ∃ v H', Tri Try.prog 12 args H v H' ∧ K v H' = some r := by
  intro args H K r h
  unfold L_exampleHolds_c L_exampleHolds_ca at h
  split at h
  · exact evF_ok (C := L_exampleHolds_C R k) (an := An) (t := L_exampleHolds_at) (fn := Try.f12) (c := (Try.f12.body.getD .skip)) (ifn := L_exampleHolds_f) (L_exampleHolds_S R k) (L_exampleHolds_J R k) Try.func12 (by kernel_rfl) (by kernel_rfl) (And.intro True.intro (And.intro True.intro (And.intro True.intro (And.intro (L_exampleHolds_j0 k) (And.intro True.intro (And.intro True.intro (And.intro (L_exampleHolds_j1 k) (And.intro True.intro (And.intro True.intro (And.intro True.intro (And.intro True.intro (And.intro True.intro (And.intro (L_exampleHolds_j2 k) (And.intro True.intro (And.intro True.intro (And.intro True.intro (And.intro True.intro (And.intro True.intro True.intro)))))))))))))))))) rfl (Eq.trans (L_exampleHolds_e color_Forward color_Inverse (color_Shift k) (color_Unshift k) (R02_SameInts k) (color_Apply k) (color_Bound k) (L_exampleHolds_p0 k) (L_exampleHolds_p1 k) (L_exampleHolds_p2 k) k H K) h)
  · cases h
/-! ### L_exampleHoldsq: function 12 -/
def L_exampleHoldsq {R : Type} (K : Bool → Option R) : Option R := K true
set_option maxRecDepth 1000000 in
theorem L_exampleHolds_run : L_exampleHolds_c Bool 40 [] [] asB = some true := by kernel_rfl
def L_exampleHoldsq_ca {R : Type} (f : (Bool → Option R) → Option R) (args : List Value) (H : Heap) (K : Value → Heap → Option R) : Option R :=
  match args with
  | [] => f (fun t => K (.bool t) H)
  | _ => none
def L_exampleHoldsq_c (R : Type) (k : Nat) (args : List Value) (H : Heap) (K : Value → Heap → Option R) : Option R := L_exampleHoldsq_ca L_exampleHoldsq args H K
theorem L_exampleHoldsq_cs (R : Type) (k : Nat) : ∀ args H K r, L_exampleHoldsq_c R k args H K = some r → ∃ v H', Tri Try.prog 12 args H v H' ∧ K v H' = some r := by
  intro args H K r h
  unfold L_exampleHoldsq_c L_exampleHoldsq_ca at h
  split at h
  · exact ⟨_, _, closed_ok (L_exampleHolds_cs) L_exampleHolds_run H, h⟩
  · cases h
end Go.Proofs.Ytoeoolnkndkefaa.Sh
