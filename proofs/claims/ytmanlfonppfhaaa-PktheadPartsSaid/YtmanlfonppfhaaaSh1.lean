/- Lean functions that stand for Go's,over an explicit heap,and the proofs that they do (written by this claim's program shallow.py). -/
import Derived.Test.YtmanlfonppfhaaaSh0
set_option maxRecDepth 100000
set_option linter.unusedVariables false
set_option linter.unusedSimpArgs false
namespace Go.Proofs.Ytmanlfonppfhaaa.Sh
open Go.Proofs.Ytmanlfonppfhaaa.FW
abbrev pkthead_State_Plan_p0_t (R:Type):Type:=Oa → Oa → Nat → Nat → Oa → Nat → Nat → Heap → (Oa → Oa → Nat → Nat → Oa → Nat → Nat → Option R) → (Int → Option R) → Option R
def pkthead_State_Plan_p0_b {R:Type} (k:Nat) (p475:Oa) (q476:Oa) (l477:Nat) (c478:Nat) (q479:Oa) (l480:Nat) (c481:Nat) (H:Heap) (KN:Oa → Oa → Nat → Nat → Oa → Nat → Nat → Option R) (KR:Int → Option R):Option R :=
bif p475.isNone then (KR 6)
 else (hnil p475 fun p482 =>
hfad 0 p482 fun p483 =>
ldB H p483 fun t484 =>
bif (!t484) then (KR 6)
 else (hnil p475 fun p485 =>
hfad 1 p485 fun p486 =>
ldB H p486 fun t487 =>
bif t487 then (KR 6)
 else (hnil p475 fun p488 =>
hfad 2 p488 fun p489 =>
ldB H p489 fun t490 =>
bif t490 then (KR 6)
 else (KN p475 q476 l477 c478 q479 l480 c481))))
def pkthead_State_Plan_p0 {R:Type} (k:Nat) (p475:Oa) (q476:Oa) (l477:Nat) (c478:Nat) (q479:Oa) (l480:Nat) (c481:Nat) (H:Heap) (KN:Oa → Oa → Nat → Nat → Oa → Nat → Nat → Option R) (KR:Int → Option R):Option R:=pkthead_State_Plan_p0_b k p475 q476 l477 c478 q479 l480 c481 H KN KR
abbrev pkthead_State_Plan_p1_t (R:Type):Type:=Oa → Oa → Nat → Nat → Oa → Nat → Nat → Heap → (Oa → Oa → Nat → Nat → Oa → Nat → Nat → Option R) → (Int → Option R) → Option R
def pkthead_State_Plan_p1_b {R:Type} (k:Nat) (p506:Oa) (q507:Oa) (l508:Nat) (c509:Nat) (q510:Oa) (l511:Nat) (c512:Nat) (H:Heap) (KN:Oa → Oa → Nat → Nat → Oa → Nat → Nat → Option R) (KR:Int → Option R):Option R :=
hnil p506 fun p513 =>
hfad 9 p513 fun p514 =>
ldL H p514 fun q515 l516 c517 =>
bif (((l508:Nat):Int) != ((l516:Nat):Int)) then (KR 4)
 else (hnil p506 fun p518 =>
hfad 9 p518 fun p519 =>
ldL H p519 fun q520 l521 c522 =>
bif (((l511:Nat):Int) != ((l521:Nat):Int)) then (KR 4)
 else (KN p506 q507 l508 c509 q510 l511 c512))
def pkthead_State_Plan_p1 {R:Type} (k:Nat) (p506:Oa) (q507:Oa) (l508:Nat) (c509:Nat) (q510:Oa) (l511:Nat) (c512:Nat) (H:Heap) (KN:Oa → Oa → Nat → Nat → Oa → Nat → Nat → Option R) (KR:Int → Option R):Option R:=pkthead_State_Plan_p1_b k p506 q507 l508 c509 q510 l511 c512 H KN KR
abbrev pkthead_State_Plan_p4_t (R:Type):Type:=Oa → Oa → Nat → Nat → Oa → Nat → Nat → Int → Oa → Int → Oa → Nat → Nat → Int → Int → Heap → (Oa → Oa → Nat → Nat → Oa → Nat → Nat → Int → Oa → Int → Oa → Nat → Nat → Int → Int → Option R) → Option R
def pkthead_State_Plan_p4_b {R:Type} (k:Nat) (p581:Oa) (q582:Oa) (l583:Nat) (c584:Nat) (q585:Oa) (l586:Nat) (c587:Nat) (n588:Int) (p589:Oa) (n590:Int) (q591:Oa) (l592:Nat) (c593:Nat) (n594:Int) (n595:Int) (H:Heap) (KN:Oa → Oa → Nat → Nat → Oa → Nat → Nat → Int → Oa → Int → Oa → Nat → Nat → Int → Int → Option R):Option R :=
hidx q582 l583 n588 1 fun p596 =>
ldI .i64 H p596 fun n597 =>
bif (n597 == 16) then (KN p581 q582 l583 c584 q585 l586 c587 n588 p589 0 q591 l592 c593 n594 n595)
 else (KN p581 q582 l583 c584 q585 l586 c587 n588 p589 n590 q591 l592 c593 n594 n595)
def pkthead_State_Plan_p4 {R:Type} (k:Nat) (p581:Oa) (q582:Oa) (l583:Nat) (c584:Nat) (q585:Oa) (l586:Nat) (c587:Nat) (n588:Int) (p589:Oa) (n590:Int) (q591:Oa) (l592:Nat) (c593:Nat) (n594:Int) (n595:Int) (H:Heap) (KN:Oa → Oa → Nat → Nat → Oa → Nat → Nat → Int → Oa → Int → Oa → Nat → Nat → Int → Int → Option R):Option R:=pkthead_State_Plan_p4_b k p581 q582 l583 c584 q585 l586 c587 n588 p589 n590 q591 l592 c593 n594 n595 H KN
abbrev pkthead_State_Plan_p3_t (R:Type):Type:=Oa → Oa → Nat → Nat → Oa → Nat → Nat → Oa → Nat → Nat → Int → Int → Heap → (Oa → Oa → Nat → Nat → Oa → Nat → Nat → Oa → Nat → Nat → Int → Int → Heap → Option R) → (Int → Heap → Option R) → Option R
def pkthead_State_Plan_p3_b {R:Type} (pkthead_State_Plan_p4:pkthead_State_Plan_p4_t R) (k:Nat) (p555:Oa) (q556:Oa) (l557:Nat) (c558:Nat) (q559:Oa) (l560:Nat) (c561:Nat) (q562:Oa) (l563:Nat) (c564:Nat) (n565:Int) (n566:Int) (H:Heap) (KN:Oa → Oa → Nat → Nat → Oa → Nat → Nat → Oa → Nat → Nat → Int → Int → Heap → Option R) (KR:Int → Heap → Option R):Option R :=
hidx q562 l563 n566 10 fun p567 =>
ldI .i64 H (pad p567 0) fun n568 =>
ldI .i64 H (pad p567 1) fun n569 =>
ldI .i64 H (pad p567 2) fun n570 =>
ldB H (pad p567 3) fun t571 =>
ldI .i64 H (pad p567 4) fun n572 =>
ldI .i64 H (pad p567 5) fun n573 =>
ldI .i64 H (pad p567 6) fun n574 =>
ldI .i64 H (pad p567 7) fun n575 =>
ldI .i64 H (pad p567 8) fun n576 =>
ldI .i64 H (pad p567 9) fun n577 =>
hal H [.int .i64 0,.int .i64 0,.int .i64 0,.bool false,.int .i64 0,.int .i64 0,.int .i64 0,.int .i64 0,.int .i64 0,.int .i64 0] fun p578 H579 =>
hst H579 p578 [.int .i64 n568,.int .i64 n569,.int .i64 n570,.bool t571,.int .i64 n572,.int .i64 n573,.int .i64 n574,.int .i64 n575,.int .i64 n576,.int .i64 n577] fun H580 =>
pkthead_State_Plan_p4 p555 q556 l557 c558 q559 l560 c561 n566 p578 1 q562 l563 c564 n565 n566 H580 (fun p613 q614 l615 c616 q617 l618 c619 n620 p621 n622 q623 l624 c625 n626 n627 =>
hidx q614 l615 n620 1 fun p628 =>
ldI .i64 H580 p628 fun n629 =>
bif decide (n629 < 0) then (KR 2 H580)
 else (hidx q614 l615 n620 1 fun p630 =>
ldI .i64 H580 p630 fun n631 =>
bif decide (n631 > 16) then (KR 2 H580)
 else (hidx q617 l618 n620 1 fun p632 =>
ldI .i64 H580 p632 fun n633 =>
bif decide (n633 < n622) then (KR 2 H580)
 else (hidx q617 l618 n620 1 fun p634 =>
ldI .i64 H580 p634 fun n635 =>
hnil p613 fun p636 =>
hfad 8 p636 fun p637 =>
ldL H580 p637 fun q638 l639 c640 =>
hfad 0 p621 fun p641 =>
ldI .i64 H580 p641 fun n642 =>
hidx q638 l639 n642 3 fun p643 =>
hfad 0 p643 fun p644 =>
ldI .i64 H580 p644 fun n645 =>
bif decide (n635 > n645) then (KR 2 H580)
 else (KN p613 q614 l615 c616 q617 l618 c619 q623 l624 c625 n626 n627 H580)))))
def pkthead_State_Plan_p3 {R:Type} (k:Nat) (p555:Oa) (q556:Oa) (l557:Nat) (c558:Nat) (q559:Oa) (l560:Nat) (c561:Nat) (q562:Oa) (l563:Nat) (c564:Nat) (n565:Int) (n566:Int) (H:Heap) (KN:Oa → Oa → Nat → Nat → Oa → Nat → Nat → Oa → Nat → Nat → Int → Int → Heap → Option R) (KR:Int → Heap → Option R):Option R:=pkthead_State_Plan_p3_b (pkthead_State_Plan_p4 k) k p555 q556 l557 c558 q559 l560 c561 q562 l563 c564 n565 n566 H KN KR
abbrev pkthead_State_Plan_l2_t (R:Type):Type:=(Oa → Oa → Nat → Nat → Oa → Nat → Nat → Heap → Option R) → (Int → Heap → Option R) → Nat → Oa → Oa → Nat → Nat → Oa → Nat → Nat → Oa → Nat → Nat → Int → Int → Heap → Option R
def pkthead_State_Plan_l2_b {R:Type} (pkthead_State_Plan_p3:pkthead_State_Plan_p3_t R) (rec:Oa → Oa → Nat → Nat → Oa → Nat → Nat → Oa → Nat → Nat → Int → Int → Heap → Option R) (KE0:Oa → Oa → Nat → Nat → Oa → Nat → Nat → Heap → Option R) (KR:Int → Heap → Option R) (k:Nat) (p543:Oa) (q544:Oa) (l545:Nat) (c546:Nat) (q547:Oa) (l548:Nat) (c549:Nat) (q550:Oa) (l551:Nat) (c552:Nat) (n553:Int) (n554:Int) (H:Heap):Option R :=
bif decide (n554 < n553) then (pkthead_State_Plan_p3 p543 q544 l545 c546 q547 l548 c549 q550 l551 c552 n553 n554 H (fun p659 q660 l661 c662 q663 l664 c665 q666 l667 c668 n669 n670 H671 =>
rec p659 q660 l661 c662 q663 l664 c665 q666 l667 c668 n669 (IntKind.wrap .i64 (n670 + 1)) H671) (fun n672 H673 =>
KR n672 H673))
 else (KE0 p543 q544 l545 c546 q547 l548 c549 H)
def pkthead_State_Plan_l2 {R:Type} (k:Nat) (KE0:Oa → Oa → Nat → Nat → Oa → Nat → Nat → Heap → Option R) (KR:Int → Heap → Option R):Nat → Oa → Oa → Nat → Nat → Oa → Nat → Nat → Oa → Nat → Nat → Int → Int → Heap → Option R
  | 0,_,_,_,_,_,_,_,_,_,_,_,_,_ => none
  | n + 1,p543,q544,l545,c546,q547,l548,c549,q550,l551,c552,n553,n554,H => pkthead_State_Plan_l2_b (pkthead_State_Plan_p3 k) (pkthead_State_Plan_l2 k KE0 KR n) KE0 KR k p543 q544 l545 c546 q547 l548 c549 q550 l551 c552 n553 n554 H
abbrev pkthead_State_Plan_l5_t (R:Type):Type:=(Oa → Heap → Option R) → Nat → Oa → Oa → Nat → Nat → Oa → Nat → Nat → Int → Int → Heap → Option R
def pkthead_State_Plan_l5_b {R:Type} (tagtree_Tree_Set:tagtree_Tree_Set_t R) (rec:Oa → Oa → Nat → Nat → Oa → Nat → Nat → Int → Int → Heap → Option R) (KE2:Oa → Heap → Option R) (k:Nat) (p695:Oa) (q696:Oa) (l697:Nat) (c698:Nat) (q699:Oa) (l700:Nat) (c701:Nat) (n702:Int) (n703:Int) (H:Heap):Option R :=
bif decide (n703 < n702) then (hnil p695 fun p704 =>
hfad 9 p704 fun p705 =>
ldL H p705 fun q706 l707 c708 =>
hidx q706 l707 n703 10 fun p709 =>
hidx q696 l697 n703 1 fun p710 =>
ldI .i64 H p710 fun n711 =>
hidx q699 l700 n703 1 fun p712 =>
ldI .i64 H p712 fun n713 =>
hnil p709 fun p714 =>
hfad 8 p714 fun p715 =>
hst1 H p715 (.int .i64 n711) fun H716 =>
hnil p709 fun p717 =>
hfad 9 p717 fun p718 =>
hst1 H716 p718 (.int .i64 n713) fun H719 =>
hnil p695 fun p720 =>
hfad 8 p720 fun p721 =>
ldL H719 p721 fun q722 l723 c724 =>
hnil p709 fun p725 =>
hfad 0 p725 fun p726 =>
ldI .i64 H719 p726 fun n727 =>
hidx q722 l723 n727 3 fun p728 =>
hfad 1 p728 fun p729 =>
ldP H719 p729 fun p730 =>
hnil p709 fun p731 =>
hfad 1 p731 fun p732 =>
ldI .i64 H719 p732 fun n733 =>
hnil p709 fun p734 =>
hfad 2 p734 fun p735 =>
ldI .i64 H719 p735 fun n736 =>
hidx q696 l697 n703 1 fun p737 =>
ldI .i64 H719 p737 fun n738 =>
tagtree_Tree_Set p730 n733 n736 n738 H719 fun n739 H740 =>
hnil p695 fun p741 =>
hfad 8 p741 fun p742 =>
ldL H740 p742 fun q743 l744 c745 =>
hnil p709 fun p746 =>
hfad 0 p746 fun p747 =>
ldI .i64 H740 p747 fun n748 =>
hidx q743 l744 n748 3 fun p749 =>
hfad 2 p749 fun p750 =>
ldP H740 p750 fun p751 =>
hnil p709 fun p752 =>
hfad 1 p752 fun p753 =>
ldI .i64 H740 p753 fun n754 =>
hnil p709 fun p755 =>
hfad 2 p755 fun p756 =>
ldI .i64 H740 p756 fun n757 =>
hnil p695 fun p758 =>
hfad 8 p758 fun p759 =>
ldL H740 p759 fun q760 l761 c762 =>
hnil p709 fun p763 =>
hfad 0 p763 fun p764 =>
ldI .i64 H740 p764 fun n765 =>
hidx q760 l761 n765 3 fun p766 =>
hfad 0 p766 fun p767 =>
ldI .i64 H740 p767 fun n768 =>
hidx q699 l700 n703 1 fun p769 =>
ldI .i64 H740 p769 fun n770 =>
tagtree_Tree_Set p751 n754 n757 (IntKind.wrap .i64 (n768 - n770)) H740 fun n771 H772 =>
rec p695 q696 l697 c698 q699 l700 c701 n702 (IntKind.wrap .i64 (n703 + 1)) H772)
 else (KE2 p695 H)
def pkthead_State_Plan_l5 {R:Type} (k:Nat) (KE2:Oa → Heap → Option R):Nat → Oa → Oa → Nat → Nat → Oa → Nat → Nat → Int → Int → Heap → Option R
  | 0,_,_,_,_,_,_,_,_,_,_ => none
  | n + 1,p695,q696,l697,c698,q699,l700,c701,n702,n703,H => pkthead_State_Plan_l5_b (tagtree_Tree_Set k) (pkthead_State_Plan_l5 k KE2 n) KE2 k p695 q696 l697 c698 q699 l700 c701 n702 n703 H
abbrev pkthead_State_Plan_t (R:Type):Type:=Oa → Oa → Nat → Nat → Oa → Nat → Nat → Heap → (Int → Heap → Option R) → Option R
def pkthead_State_Plan_b {R:Type} (pkthead_State_Plan_p0:pkthead_State_Plan_p0_t R) (pkthead_State_Plan_p1:pkthead_State_Plan_p1_t R) (pkthead_State_Plan_l2:pkthead_State_Plan_l2_t R) (pkthead_State_Plan_l5:pkthead_State_Plan_l5_t R) (k:Nat) (p468:Oa) (q469:Oa) (l470:Nat) (c471:Nat) (q472:Oa) (l473:Nat) (c474:Nat) (H:Heap) (K:Int → Heap → Option R):Option R :=
pkthead_State_Plan_p0 p468 q469 l470 c471 q472 l473 c474 H (fun p499 q500 l501 c502 q503 l504 c505 =>
pkthead_State_Plan_p1 p499 q500 l501 c502 q503 l504 c505 H (fun p531 q532 l533 c534 q535 l536 c537 =>
hnil p531 fun p538 =>
hfad 9 p538 fun p539 =>
ldL H p539 fun q540 l541 c542 =>
pkthead_State_Plan_l2 (fun p682 q683 l684 c685 q686 l687 c688 H689 =>
hnil p682 fun p690 =>
hfad 9 p690 fun p691 =>
ldL H689 p691 fun q692 l693 c694 =>
pkthead_State_Plan_l5 (fun p774 H775 =>
hnil p774 fun p776 =>
hfad 1 p776 fun p777 =>
hst1 H775 p777 (.bool true) fun H778 =>
K 0 H778) k p682 q683 l684 c685 q686 l687 c688 ((l693:Nat):Int) 0 H689) (fun n779 H780 =>
K n779 H780) k p531 q532 l533 c534 q535 l536 c537 q540 l541 c542 ((l541:Nat):Int) 0 H) (fun n781 =>
K n781 H)) (fun n782 =>
K n782 H)
def pkthead_State_Plan {R:Type} (k:Nat) (p468:Oa) (q469:Oa) (l470:Nat) (c471:Nat) (q472:Oa) (l473:Nat) (c474:Nat) (H:Heap) (K:Int → Heap → Option R):Option R:=pkthead_State_Plan_b (pkthead_State_Plan_p0 k) (pkthead_State_Plan_p1 k) (pkthead_State_Plan_l2 k) (pkthead_State_Plan_l5 k) k p468 q469 l470 c471 q472 l473 c474 H K
def pkthead_State_Plan_Ct {R:Type} (tagtree_Tree_Set:tagtree_Tree_Set_t R):Tab R:=tcons 37 (tagtree_Tree_Set_ca tagtree_Tree_Set) <| fun _ _ _ _ => none
def pkthead_State_Plan_C (R:Type) (k:Nat):Tab R:=pkthead_State_Plan_Ct (tagtree_Tree_Set k)
theorem pkthead_State_Plan_S (R:Type) (k:Nat):CSound Try.prog (pkthead_State_Plan_C R k):=csound_cons (tagtree_Tree_Set_cs R k) <| csound_nil
def pkthead_State_Plan_aa0 {R:Type} (f:pkthead_State_Plan_p0_t R) (n:Nat) (vals:List Value) (H:Heap) (K:Xit → Env → Heap → Option R):Option R :=
  match vals with
  | [.pointer p475,.slice q476 l477 c478,.slice q479 l480 c481] => f p475 q476 l477 c478 q479 l480 c481 H (fun p1212 q1213 l1214 c1215 q1216 l1217 c1218 => K .normal [(0,.pointer p1212),(1,.slice q1213 l1214 c1215),(2,.slice q1216 l1217 c1218)] H) (fun n1219 => K .ret [(6,.int .i64 n1219)] H)
  | _ => none
def pkthead_State_Plan_a0 (R:Type) (k n:Nat) (vals:List Value) (H:Heap) (K:Xit → Env → Heap → Option R):Option R:=pkthead_State_Plan_aa0 (pkthead_State_Plan_p0 k) n vals H K
def pkthead_State_Plan_aa1 {R:Type} (f:pkthead_State_Plan_p1_t R) (n:Nat) (vals:List Value) (H:Heap) (K:Xit → Env → Heap → Option R):Option R :=
  match vals with
  | [.pointer p506,.slice q507 l508 c509,.slice q510 l511 c512] => f p506 q507 l508 c509 q510 l511 c512 H (fun p1220 q1221 l1222 c1223 q1224 l1225 c1226 => K .normal [(0,.pointer p1220),(1,.slice q1221 l1222 c1223),(2,.slice q1224 l1225 c1226)] H) (fun n1227 => K .ret [(6,.int .i64 n1227)] H)
  | _ => none
def pkthead_State_Plan_a1 (R:Type) (k n:Nat) (vals:List Value) (H:Heap) (K:Xit → Env → Heap → Option R):Option R:=pkthead_State_Plan_aa1 (pkthead_State_Plan_p1 k) n vals H K
def pkthead_State_Plan_aa2 {R:Type} (f:pkthead_State_Plan_l2_t R) (n:Nat) (vals:List Value) (H:Heap) (K:Xit → Env → Heap → Option R):Option R :=
  match vals with
  | [.pointer p543,.slice q544 l545 c546,.slice q547 l548 c549,.slice q550 l551 c552,.int .i64 n553,.int .i64 n554] => f (fun p1228 q1229 l1230 c1231 q1232 l1233 c1234 H => K (.exit 0) [(0,.pointer p1228),(1,.slice q1229 l1230 c1231),(2,.slice q1232 l1233 c1234)] H) (fun n1235 H => K .ret [(6,.int .i64 n1235)] H) n p543 q544 l545 c546 q547 l548 c549 q550 l551 c552 n553 n554 H
  | _ => none
def pkthead_State_Plan_a2 (R:Type) (k n:Nat) (vals:List Value) (H:Heap) (K:Xit → Env → Heap → Option R):Option R:=pkthead_State_Plan_aa2 (pkthead_State_Plan_l2 k) n vals H K
def pkthead_State_Plan_aa3 {R:Type} (f:pkthead_State_Plan_p3_t R) (n:Nat) (vals:List Value) (H:Heap) (K:Xit → Env → Heap → Option R):Option R :=
  match vals with
  | [.pointer p555,.slice q556 l557 c558,.slice q559 l560 c561,.slice q562 l563 c564,.int .i64 n565,.int .i64 n566] => f p555 q556 l557 c558 q559 l560 c561 q562 l563 c564 n565 n566 H (fun p1236 q1237 l1238 c1239 q1240 l1241 c1242 q1243 l1244 c1245 n1246 n1247 H => K .normal [(0,.pointer p1236),(1,.slice q1237 l1238 c1239),(2,.slice q1240 l1241 c1242),(54,.slice q1243 l1244 c1245),(55,.int .i64 n1246),(56,.int .i64 n1247)] H) (fun n1248 H => K .ret [(6,.int .i64 n1248)] H)
  | _ => none
def pkthead_State_Plan_a3 (R:Type) (k n:Nat) (vals:List Value) (H:Heap) (K:Xit → Env → Heap → Option R):Option R:=pkthead_State_Plan_aa3 (pkthead_State_Plan_p3 k) n vals H K
def pkthead_State_Plan_aa4 {R:Type} (f:pkthead_State_Plan_p4_t R) (n:Nat) (vals:List Value) (H:Heap) (K:Xit → Env → Heap → Option R):Option R :=
  match vals with
  | [.pointer p581,.slice q582 l583 c584,.slice q585 l586 c587,.int .i64 n588,.pointer p589,.int .i64 n590,.slice q591 l592 c593,.int .i64 n594,.int .i64 n595] => f p581 q582 l583 c584 q585 l586 c587 n588 p589 n590 q591 l592 c593 n594 n595 H (fun p1249 q1250 l1251 c1252 q1253 l1254 c1255 n1256 p1257 n1258 q1259 l1260 c1261 n1262 n1263 => K .normal [(0,.pointer p1249),(1,.slice q1250 l1251 c1252),(2,.slice q1253 l1254 c1255),(7,.int .i64 n1256),(8,.pointer p1257),(9,.int .i64 n1258),(54,.slice q1259 l1260 c1261),(55,.int .i64 n1262),(56,.int .i64 n1263)] H)
  | _ => none
def pkthead_State_Plan_a4 (R:Type) (k n:Nat) (vals:List Value) (H:Heap) (K:Xit → Env → Heap → Option R):Option R:=pkthead_State_Plan_aa4 (pkthead_State_Plan_p4 k) n vals H K
def pkthead_State_Plan_aa5 {R:Type} (f:pkthead_State_Plan_l5_t R) (n:Nat) (vals:List Value) (H:Heap) (K:Xit → Env → Heap → Option R):Option R :=
  match vals with
  | [.pointer p695,.slice q696 l697 c698,.slice q699 l700 c701,.int .i64 n702,.int .i64 n703] => f (fun p1264 H => K (.exit 2) [(0,.pointer p1264)] H) n p695 q696 l697 c698 q699 l700 c701 n702 n703 H
  | _ => none
def pkthead_State_Plan_a5 (R:Type) (k n:Nat) (vals:List Value) (H:Heap) (K:Xit → Env → Heap → Option R):Option R:=pkthead_State_Plan_aa5 (pkthead_State_Plan_l5 k) n vals H K
def pkthead_State_Plan_Jt {R:Type} (k:Nat) (pkthead_State_Plan_p0:pkthead_State_Plan_p0_t R) (pkthead_State_Plan_p1:pkthead_State_Plan_p1_t R) (pkthead_State_Plan_l2:pkthead_State_Plan_l2_t R) (pkthead_State_Plan_p3:pkthead_State_Plan_p3_t R) (pkthead_State_Plan_p4:pkthead_State_Plan_p4_t R) (pkthead_State_Plan_l5:pkthead_State_Plan_l5_t R):JTab R:=tcons 0 (pkthead_State_Plan_aa0 pkthead_State_Plan_p0 k) <| tcons 1 (pkthead_State_Plan_aa1 pkthead_State_Plan_p1 k) <| tcons 2 (pkthead_State_Plan_aa2 pkthead_State_Plan_l2 k) <| tcons 3 (pkthead_State_Plan_aa3 pkthead_State_Plan_p3 k) <| tcons 4 (pkthead_State_Plan_aa4 pkthead_State_Plan_p4 k) <| tcons 5 (pkthead_State_Plan_aa5 pkthead_State_Plan_l5 k) <| fun _ _ _ _ => none
def pkthead_State_Plan_J (R:Type) (k:Nat):JTab R:=pkthead_State_Plan_Jt k (pkthead_State_Plan_p0 k) (pkthead_State_Plan_p1 k) (pkthead_State_Plan_l2 k) (pkthead_State_Plan_p3 k) (pkthead_State_Plan_p4 k) (pkthead_State_Plan_l5 k)
def pkthead_State_Plan_at:AT:=(.seq (.reg [0,1,2] []) (.seq (.opq 0 [0,1,2] ⟨[0,1,2],[],[6]⟩ (.seq (.reg [0,1,2,32] []) (.cond (.seq (.reg [6] []) .leaf) .leaf))) (.seq (.opq 1 [0,1,2] ⟨[0,1,2],[],[6]⟩ (.seq (.reg [0,1,2,50] []) (.cond (.seq (.reg [6] []) .leaf) .leaf))) (.seq (.seq (.reg [0,1,2,54,55,56] []) (.node (.opq 2 [0,1,2,54,55,56] ⟨[],[(0,[0,1,2])],[6]⟩ (.node (.seq (.reg [0,1,2,54,55,56,57] []) (.seq (.cond .leaf .leaf) (.seq (.opq 3 [0,1,2,54,55,56] ⟨[0,1,2,54,55,56],[],[6]⟩ (.node (.seq (.reg [0,1,2,7,8,54,55,56] []) (.seq (.reg [0,1,2,7,8,9,54,55,56] []) (.seq (.opq 4 [0,1,2,7,8,9,54,55,56] ⟨[0,1,2,7,8,9,54,55,56],[],[]⟩ (.seq (.reg [0,1,2,7,8,9,54,55,56,65] []) (.cond (.reg [0,1,2,7,8,9,54,55,56] []) .leaf))) (.seq (.reg [0,1,2,54,55,56,101] [[],[],[0,1],[0,1,2],[0,1,2,3],[0,1,2,3,4],[0,1,2,3,4,5],[0,1,2,3,4,5],[0,1,2,3,4,5,6,7],[0,1,2,3,4,5,6,7,8],[0,1,2,3,4,5,6,7,8,9],[0,1,2,3,4,5,6,7,8,9,10],[0,1,2,3,4,5,6,7,8,9,10,11],[0,1,2,3,4,5,6,7,8,9,10,11,12],[0,1,2,3,4,5,6,7,8,9,10,11,12],[0,1,2,3,4,5,6,7,8,9,10,11,12,13,14],[0,1,2,3,4,5,6,7,8,9,10,11,12,13,14,15],[0,1,2,3,4,5,6,7,8,9,10,11,12],[0,1,2,3,4,5,6,7,8,9,10,11,12,13,14,15,16,17],[0,1,2,3,4,5,6,7,8,9,10,11,12,13,14,15,16,17,18],[0,1,2,3,4,5,6,7,8,9,10,11,12,13,14,15,16,17,18,19],[0,1,2,3,4,5,6,7,8,9,10,11,12,13,14,15,16,17,18,19,20],[0,1,2,3,4,5,6,7,8,9,10,11,12,13,14,15,16,17,18,19,20],[0,1,2,3,4,5,6,7,8,9,10,11,12,13,14,15,16,17,18,19,20,21,22],[0,1,2,3,4,5,6,7,8,9,10,11,12,13,14,15,16,17,18,19,20,21,22,23],[0,1,2,3,4,5,6,7,8,9,10,11,12,13,14,15,16,17,18,19,20],[0,1,2,3,4,5,6,7,8,9,10,11,12,13,14,15,16,17,18,19,20,25],[0,1,2,3,4,5,6,7,8,9,10,11,12,13,14,15,16,17,18,19,20,25,26],[0,1,2,3,4,5,6,7,8,9,10,11,12,13,14,15,16,17,18,19,20,25,26,27],[0,1,2,3,4,5,6,7,8,9,10,11,12,13,14,15,16,17,18,19,20],[0,1,2,3,4,5,6,7,8,9,10,11,12,13,14,15,16,17,18,19,20,29],[0,1,2,3,4,5,6,7,8,9,10,11,12,13,14,15,16,17,18,19,20,25,26,27,28,29,30],[0,1,2,3,4,5,6,7,8,9,10,11,12,13,14,15,16,17,18,19,20,25,26,27,28,29,30,31],[0,1,2,3,4,5,6,7,8,9,10,11,12,13,14,15,16,17,18,19,20,25,26,27,28,29,30,31,32],[0,1,2,3,4,5,6,7,8,9,10,11,12,13,14,15,16,17,18,19,20,21,22,23,24,25,26,27,28,29,30,31,32,33],[0,1,2,3,4,5,6,7,8,9,10,11,12,13,14,15,16,17,18,19,20,21,22,23,24,25,26,27,28,29,30,31,32,33,34]]) (.cond (.seq (.reg [6] []) .leaf) .leaf))))))) (.reg [0,1,2,54,55,56] [])))))))) (.seq (.seq (.reg [0,1,2,107,108] []) (.node (.opq 5 [0,1,2,107,108] ⟨[],[(2,[0])],[]⟩ (.node (.seq (.reg [0,1,2,107,108,109] []) (.seq (.cond .leaf .leaf) (.seq (.node (.seq (.reg [0,1,2,10,107,108] []) (.seq (.reg [0,1,2,10,11,107,108] []) (.seq (.reg [0,1,2,10,11,107,108] [[],[],[],[],[2,3],[2,3,4],[],[],[6,7],[6,7,8],[0,2,3,4,5,6,7,8,9],[0,2,3,4,5,6,7,8,9,10],[0,2,3,4,5,6,7,8,9,10,11],[0,1,2,3,4,5,6,7,8,9,10,11,12],[0,1,2,3,4,5,6,7,8,9,10,11,12,13],[0,1,2,3,4,5,6,7,8,9,10,11,12,13,14]]) (.seq (.reg [0,1,2,10,11,107,108] [[],[0],[0,1],[0,1,2],[],[4],[4,5],[4,5,6],[0,1,2,3,4,5,6,7],[0,1,2,3,4,5,6,7,8],[0,1,2,3,4,5,6,7,8,9],[],[11],[11,12],[11,12,13],[],[15],[15,16],[15,16,17],[],[],[19,20],[19,20,21],[0,1,2,3,4,5,6,7,8,9,10,11,12,13,14,15,16,17,18,19,20,21,22]]) (.reg [0,1,2,107,108] [[],[0],[0,1],[0,1,2],[],[4],[4,5],[4,5,6],[0,1,2,3,4,5,6,7],[0,1,2,3,4,5,6,7,8],[0,1,2,3,4,5,6,7,8,9],[],[11],[11,12],[11,12,13],[],[15],[15,16],[15,16,17],[],[19],[19,20],[19,20,21],[],[23],[23,24],[23,24,25],[19,20,21,22,23,24,25,26],[19,20,21,22,23,24,25,26,27],[19,20,21,22,23,24,25,26,27,28],[],[],[30,31],[30,31,32],[19,20,21,22,23,24,25,26,27,28,29,30,31,32,33],[0,1,2,3,4,5,6,7,8,9,10,11,12,13,14,15,16,17,18,19,20,21,22,23,24,25,26,27,28,29,30,31,32,33,34]])))))) (.reg [0,1,2,107,108] [])))))))) (.seq (.reg [] []) (.seq (.reg [6] []) .leaf)))))))
def pkthead_State_Plan_i5:IC:=(.seq (.reg [⟨some 109,.cmp .lss (.t 108) (.t 107),none⟩] [0,1,2,107,108,109]) (.seq (.cond (.t 109) .skip (.exit 2)) (.seq (.block 3 (.seq (.reg [⟨some 110,.mov (.t 108),none⟩,
⟨some 10,.mov (.t 110),none⟩] [0,1,2,10,107,108]) (.seq (.reg [⟨some 111,.mov (.t 0),none⟩,
⟨some 112,.nilc (.t 111),none⟩,
⟨some 113,.fad 9 (.t 112),none⟩,
⟨some 114,.ld (.sc .slc) (.t 113),none⟩,
⟨some 115,.mov (.t 10),none⟩,
⟨some 116,.ids 10 (.t 114) (.t 115),none⟩,
⟨some 11,.mov (.t 116),none⟩] [0,1,2,10,11,107,108]) (.seq (.reg [⟨some 117,.mov (.t 11),none⟩,
⟨some 118,.mov (.t 11),none⟩,
⟨some 119,.mov (.t 1),none⟩,
⟨some 120,.mov (.t 10),none⟩,
⟨some 121,.ids 1 (.t 119) (.t 120),none⟩,
⟨some 122,.ld (.sc (.int .i64)) (.t 121),none⟩,
⟨some 123,.mov (.t 2),none⟩,
⟨some 124,.mov (.t 10),none⟩,
⟨some 125,.ids 1 (.t 123) (.t 124),none⟩,
⟨some 126,.ld (.sc (.int .i64)) (.t 125),none⟩,
⟨some 127,.nilc (.t 117),none⟩,
⟨some 128,.fad 8 (.t 127),none⟩,
⟨none,.st 1 (.t 128) (.t 122),none⟩,
⟨some 129,.nilc (.t 118),none⟩,
⟨some 130,.fad 9 (.t 129),none⟩,
⟨none,.st 1 (.t 130) (.t 126),none⟩] [0,1,2,10,11,107,108]) (.seq (.reg [⟨some 131,.mov (.t 0),none⟩,
⟨some 132,.nilc (.t 131),none⟩,
⟨some 133,.fad 8 (.t 132),none⟩,
⟨some 134,.ld (.sc .slc) (.t 133),none⟩,
⟨some 135,.mov (.t 11),none⟩,
⟨some 136,.nilc (.t 135),none⟩,
⟨some 137,.fad 0 (.t 136),none⟩,
⟨some 138,.ld (.sc (.int .i64)) (.t 137),none⟩,
⟨some 139,.ids 3 (.t 134) (.t 138),none⟩,
⟨some 140,.fad 1 (.t 139),none⟩,
⟨some 141,.ld (.sc .ptr) (.t 140),none⟩,
⟨some 142,.mov (.t 11),none⟩,
⟨some 143,.nilc (.t 142),none⟩,
⟨some 144,.fad 1 (.t 143),none⟩,
⟨some 145,.ld (.sc (.int .i64)) (.t 144),none⟩,
⟨some 146,.mov (.t 11),none⟩,
⟨some 147,.nilc (.t 146),none⟩,
⟨some 148,.fad 2 (.t 147),none⟩,
⟨some 149,.ld (.sc (.int .i64)) (.t 148),none⟩,
⟨some 150,.mov (.t 1),none⟩,
⟨some 151,.mov (.t 10),none⟩,
⟨some 152,.ids 1 (.t 150) (.t 151),none⟩,
⟨some 153,.ld (.sc (.int .i64)) (.t 152),none⟩,
⟨some 154,.call 37 [(.t 141),(.t 145),(.t 149),(.t 153)] (.one (.sc (.int .i64))),none⟩] [0,1,2,10,11,107,108]) (.reg [⟨some 155,.mov (.t 0),none⟩,
⟨some 156,.nilc (.t 155),none⟩,
⟨some 157,.fad 8 (.t 156),none⟩,
⟨some 158,.ld (.sc .slc) (.t 157),none⟩,
⟨some 159,.mov (.t 11),none⟩,
⟨some 160,.nilc (.t 159),none⟩,
⟨some 161,.fad 0 (.t 160),none⟩,
⟨some 162,.ld (.sc (.int .i64)) (.t 161),none⟩,
⟨some 163,.ids 3 (.t 158) (.t 162),none⟩,
⟨some 164,.fad 2 (.t 163),none⟩,
⟨some 165,.ld (.sc .ptr) (.t 164),none⟩,
⟨some 166,.mov (.t 11),none⟩,
⟨some 167,.nilc (.t 166),none⟩,
⟨some 168,.fad 1 (.t 167),none⟩,
⟨some 169,.ld (.sc (.int .i64)) (.t 168),none⟩,
⟨some 170,.mov (.t 11),none⟩,
⟨some 171,.nilc (.t 170),none⟩,
⟨some 172,.fad 2 (.t 171),none⟩,
⟨some 173,.ld (.sc (.int .i64)) (.t 172),none⟩,
⟨some 174,.mov (.t 0),none⟩,
⟨some 175,.nilc (.t 174),none⟩,
⟨some 176,.fad 8 (.t 175),none⟩,
⟨some 177,.ld (.sc .slc) (.t 176),none⟩,
⟨some 178,.mov (.t 11),none⟩,
⟨some 179,.nilc (.t 178),none⟩,
⟨some 180,.fad 0 (.t 179),none⟩,
⟨some 181,.ld (.sc (.int .i64)) (.t 180),none⟩,
⟨some 182,.ids 3 (.t 177) (.t 181),none⟩,
⟨some 183,.fad 0 (.t 182),none⟩,
⟨some 184,.ld (.sc (.int .i64)) (.t 183),none⟩,
⟨some 185,.mov (.t 2),none⟩,
⟨some 186,.mov (.t 10),none⟩,
⟨some 187,.ids 1 (.t 185) (.t 186),none⟩,
⟨some 188,.ld (.sc (.int .i64)) (.t 187),none⟩,
⟨some 189,.bin .sub .i64 (.t 184) (.t 188),none⟩,
⟨some 190,.call 37 [(.t 165),(.t 169),(.t 173),(.t 189)] (.one (.sc (.int .i64))),none⟩] [0,1,2,107,108])))))) (.reg [⟨some 191,.bin .add .i64 (.t 108) (.c (Go.Value.int Go.IntKind.i64 1)),none⟩,
⟨some 108,.mov (.t 191),none⟩] [0,1,2,107,108]))))
def pkthead_State_Plan_i4:IC:=(.seq (.reg [⟨some 61,.mov (.t 1),none⟩,
⟨some 62,.mov (.t 7),none⟩,
⟨some 63,.ids 1 (.t 61) (.t 62),none⟩,
⟨some 64,.ld (.sc (.int .i64)) (.t 63),none⟩,
⟨some 65,.cmp .eql (.t 64) (.c (Go.Value.int Go.IntKind.i64 16)),none⟩] [0,1,2,7,8,9,54,55,56,65]) (.cond (.t 65) (.reg [⟨some 9,.mov (.c (Go.Value.int Go.IntKind.i64 0)),none⟩] [0,1,2,7,8,9,54,55,56]) .skip))
def pkthead_State_Plan_i3:IC:=(.block 1 (.seq (.reg [⟨some 58,.mov (.t 56),none⟩,
⟨some 59,.ids 10 (.t 54) (.t 56),none⟩,
⟨some 60,.ld (.agg [(.int .i64),(.int .i64),(.int .i64),.bool,(.int .i64),(.int .i64),(.int .i64),(.int .i64),(.int .i64),(.int .i64)]) (.t 59),none⟩,
⟨some 8,.alc [.int .i64 0,.int .i64 0,.int .i64 0,.bool false,.int .i64 0,.int .i64 0,.int .i64 0,.int .i64 0,.int .i64 0,.int .i64 0],none⟩,
⟨some 7,.mov (.t 58),none⟩,
⟨none,.st 10 (.t 8) (.t 60),none⟩] [0,1,2,7,8,54,55,56]) (.seq (.reg [⟨some 9,.mov (.c (Go.Value.int Go.IntKind.i64 1)),none⟩] [0,1,2,7,8,9,54,55,56]) (.seq (.opq 4 [0,1,2,7,8,9,54,55,56] pkthead_State_Plan_i4) (.seq (.reg [⟨some 66,.mov (.t 1),none⟩,
⟨some 67,.mov (.t 7),none⟩,
⟨some 68,.ids 1 (.t 66) (.t 67),none⟩,
⟨some 69,.ld (.sc (.int .i64)) (.t 68),none⟩,
⟨some 70,.cmp .lss (.t 69) (.c (Go.Value.int Go.IntKind.i64 0)),none⟩,
⟨some 71,.mov (.t 70),none⟩,
⟨some 72,.mov (.t 1),some (71,false)⟩,
⟨some 73,.mov (.t 7),some (71,false)⟩,
⟨some 74,.ids 1 (.t 72) (.t 73),some (71,false)⟩,
⟨some 75,.ld (.sc (.int .i64)) (.t 74),some (71,false)⟩,
⟨some 76,.cmp .gtr (.t 75) (.c (Go.Value.int Go.IntKind.i64 16)),some (71,false)⟩,
⟨some 77,.pick (.t 71) (.c (Go.Value.bool true)) (.t 76),none⟩,
⟨some 78,.mov (.t 77),none⟩,
⟨some 79,.mov (.t 2),some (78,false)⟩,
⟨some 80,.mov (.t 7),some (78,false)⟩,
⟨some 81,.ids 1 (.t 79) (.t 80),some (78,false)⟩,
⟨some 82,.ld (.sc (.int .i64)) (.t 81),some (78,false)⟩,
⟨some 83,.mov (.t 9),some (78,false)⟩,
⟨some 84,.cmp .lss (.t 82) (.t 83),some (78,false)⟩,
⟨some 85,.pick (.t 78) (.c (Go.Value.bool true)) (.t 84),none⟩,
⟨some 86,.mov (.t 85),none⟩,
⟨some 87,.mov (.t 2),some (86,false)⟩,
⟨some 88,.mov (.t 7),some (86,false)⟩,
⟨some 89,.ids 1 (.t 87) (.t 88),some (86,false)⟩,
⟨some 90,.ld (.sc (.int .i64)) (.t 89),some (86,false)⟩,
⟨some 91,.mov (.t 0),some (86,false)⟩,
⟨some 92,.nilc (.t 91),some (86,false)⟩,
⟨some 93,.fad 8 (.t 92),some (86,false)⟩,
⟨some 94,.ld (.sc .slc) (.t 93),some (86,false)⟩,
⟨some 95,.fad 0 (.t 8),some (86,false)⟩,
⟨some 96,.ld (.sc (.int .i64)) (.t 95),some (86,false)⟩,
⟨some 97,.ids 3 (.t 94) (.t 96),some (86,false)⟩,
⟨some 98,.fad 0 (.t 97),some (86,false)⟩,
⟨some 99,.ld (.sc (.int .i64)) (.t 98),some (86,false)⟩,
⟨some 100,.cmp .gtr (.t 90) (.t 99),some (86,false)⟩,
⟨some 101,.pick (.t 86) (.c (Go.Value.bool true)) (.t 100),none⟩] [0,1,2,54,55,56,101]) (.cond (.t 101) (.seq (.reg [⟨some 6,.mov (.c (Go.Value.int Go.IntKind.i64 2)),none⟩] [6]) .ret) .skip))))))
def pkthead_State_Plan_i2:IC:=(.seq (.reg [⟨some 57,.cmp .lss (.t 56) (.t 55),none⟩] [0,1,2,54,55,56,57]) (.seq (.cond (.t 57) .skip (.exit 0)) (.seq (.opq 3 [0,1,2,54,55,56] pkthead_State_Plan_i3) (.reg [⟨some 102,.bin .add .i64 (.t 56) (.c (Go.Value.int Go.IntKind.i64 1)),none⟩,
⟨some 56,.mov (.t 102),none⟩] [0,1,2,54,55,56]))))
def pkthead_State_Plan_i1:IC:=(.seq (.reg [⟨some 33,.mov (.t 1),none⟩,
⟨some 34,.len false (.t 33),none⟩,
⟨some 35,.mov (.t 0),none⟩,
⟨some 36,.nilc (.t 35),none⟩,
⟨some 37,.fad 9 (.t 36),none⟩,
⟨some 38,.ld (.sc .slc) (.t 37),none⟩,
⟨some 39,.len false (.t 38),none⟩,
⟨some 40,.cmp .neq (.t 34) (.t 39),none⟩,
⟨some 41,.mov (.t 40),none⟩,
⟨some 42,.mov (.t 2),some (41,false)⟩,
⟨some 43,.len false (.t 42),some (41,false)⟩,
⟨some 44,.mov (.t 0),some (41,false)⟩,
⟨some 45,.nilc (.t 44),some (41,false)⟩,
⟨some 46,.fad 9 (.t 45),some (41,false)⟩,
⟨some 47,.ld (.sc .slc) (.t 46),some (41,false)⟩,
⟨some 48,.len false (.t 47),some (41,false)⟩,
⟨some 49,.cmp .neq (.t 43) (.t 48),some (41,false)⟩,
⟨some 50,.pick (.t 41) (.c (Go.Value.bool true)) (.t 49),none⟩] [0,1,2,50]) (.cond (.t 50) (.seq (.reg [⟨some 6,.mov (.c (Go.Value.int Go.IntKind.i64 4)),none⟩] [6]) .ret) .skip))
def pkthead_State_Plan_i0:IC:=(.seq (.reg [⟨some 12,.mov (.t 0),none⟩,
⟨some 13,.eqnil (.t 12) false 0,none⟩,
⟨some 14,.mov (.t 13),none⟩,
⟨some 15,.mov (.t 0),some (14,false)⟩,
⟨some 16,.nilc (.t 15),some (14,false)⟩,
⟨some 17,.fad 0 (.t 16),some (14,false)⟩,
⟨some 18,.ld (.sc .bool) (.t 17),some (14,false)⟩,
⟨some 19,.lnot (.t 18),some (14,false)⟩,
⟨some 20,.pick (.t 14) (.c (Go.Value.bool true)) (.t 19),none⟩,
⟨some 21,.mov (.t 20),none⟩,
⟨some 22,.mov (.t 0),some (21,false)⟩,
⟨some 23,.nilc (.t 22),some (21,false)⟩,
⟨some 24,.fad 1 (.t 23),some (21,false)⟩,
⟨some 25,.ld (.sc .bool) (.t 24),some (21,false)⟩,
⟨some 26,.pick (.t 21) (.c (Go.Value.bool true)) (.t 25),none⟩,
⟨some 27,.mov (.t 26),none⟩,
⟨some 28,.mov (.t 0),some (27,false)⟩,
⟨some 29,.nilc (.t 28),some (27,false)⟩,
⟨some 30,.fad 2 (.t 29),some (27,false)⟩,
⟨some 31,.ld (.sc .bool) (.t 30),some (27,false)⟩,
⟨some 32,.pick (.t 27) (.c (Go.Value.bool true)) (.t 31),none⟩] [0,1,2,32]) (.cond (.t 32) (.seq (.reg [⟨some 6,.mov (.c (Go.Value.int Go.IntKind.i64 6)),none⟩] [6]) .ret) .skip))
def pkthead_State_Plan_f:IFn:=⟨195,[.t 6],(.seq (.reg [⟨some 6,.mov (.c (Go.Value.int Go.IntKind.i64 0)),none⟩] [0,1,2]) (.seq (.opq 0 [0,1,2] pkthead_State_Plan_i0) (.seq (.opq 1 [0,1,2] pkthead_State_Plan_i1) (.seq (.seq (.reg [⟨some 51,.mov (.t 0),none⟩,
⟨some 52,.nilc (.t 51),none⟩,
⟨some 53,.fad 9 (.t 52),none⟩,
⟨some 54,.ld (.sc .slc) (.t 53),none⟩,
⟨some 55,.len false (.t 54),none⟩,
⟨some 56,.mov (.c (Go.Value.int Go.IntKind.i64 0)),none⟩] [0,1,2,54,55,56]) (.block 0 (.opq 2 [0,1,2,54,55,56] (.loop pkthead_State_Plan_i2)))) (.seq (.seq (.reg [⟨some 103,.mov (.t 0),none⟩,
⟨some 104,.nilc (.t 103),none⟩,
⟨some 105,.fad 9 (.t 104),none⟩,
⟨some 106,.ld (.sc .slc) (.t 105),none⟩,
⟨some 107,.len false (.t 106),none⟩,
⟨some 108,.mov (.c (Go.Value.int Go.IntKind.i64 0)),none⟩] [0,1,2,107,108]) (.block 2 (.opq 5 [0,1,2,107,108] (.loop pkthead_State_Plan_i5)))) (.seq (.reg [⟨some 192,.mov (.t 0),none⟩,
⟨some 193,.nilc (.t 192),none⟩,
⟨some 194,.fad 1 (.t 193),none⟩,
⟨none,.st 1 (.t 194) (.c (Go.Value.bool true)),none⟩] []) (.seq (.reg [⟨some 6,.mov (.c (Go.Value.int Go.IntKind.i64 0)),none⟩] [6]) .ret)))))))⟩
theorem pkthead_State_Plan_e5 {R:Type} (tagtree_Tree_Set:tagtree_Tree_Set_t R) (pkthead_State_Plan_p0:pkthead_State_Plan_p0_t R) (pkthead_State_Plan_p1:pkthead_State_Plan_p1_t R) (pkthead_State_Plan_l2:pkthead_State_Plan_l2_t R) (pkthead_State_Plan_p3:pkthead_State_Plan_p3_t R) (pkthead_State_Plan_p4:pkthead_State_Plan_p4_t R) (pkthead_State_Plan_l5:pkthead_State_Plan_l5_t R) (k n:Nat) (p695:Oa) (q696:Oa) (l697:Nat) (c698:Nat) (q699:Oa) (l700:Nat) (c701:Nat) (n702:Int) (n703:Int) (H:Heap) (K:Xit → Env → Heap → Option R):evJ (pkthead_State_Plan_Ct tagtree_Tree_Set) (pkthead_State_Plan_Jt k pkthead_State_Plan_p0 pkthead_State_Plan_p1 pkthead_State_Plan_l2 pkthead_State_Plan_p3 pkthead_State_Plan_p4 pkthead_State_Plan_l5) pkthead_State_Plan_i5 (List.zip [0,1,2,107,108] [.pointer p695,.slice q696 l697 c698,.slice q699 l700 c701,.int .i64 n702,.int .i64 n703]) H (fun x e' H' => match x with | .normal => pkthead_State_Plan_aa5 pkthead_State_Plan_l5 n ((clean e' [0,1,2,107,108]).map (·.2)) H' K | x => K x (clean e' ((⟨[],[(2,[0])],[]⟩:Out).of x)) H') = pkthead_State_Plan_l5_b tagtree_Tree_Set (pkthead_State_Plan_l5 (fun p1264 H => K (.exit 2) [(0,.pointer p1264)] H) n) (fun p1264 H => K (.exit 2) [(0,.pointer p1264)] H) k p695 q696 l697 c698 q699 l700 c701 n702 n703 H:=by kernel_rfl
theorem pkthead_State_Plan_j5 {R:Type} (k:Nat):JS Try.prog 195 (pkthead_State_Plan_a5 R k k) [0,1,2,107,108] ⟨[],[(2,[0])],[]⟩ (.loop (sel [1,1,1,1,0,1,0,0] (Try.f22.body.getD .skip))) :=
  loop_ok (nt:=195) (c:=(sel [1,1,1,1,0,1,0,0] (Try.f22.body.getD .skip))) (C:=pkthead_State_Plan_C R k) (an:=An) (t:=(.seq (.reg [0,1,2,107,108,109] []) (.seq (.cond .leaf .leaf) (.seq (.node (.seq (.reg [0,1,2,10,107,108] []) (.seq (.reg [0,1,2,10,11,107,108] []) (.seq (.reg [0,1,2,10,11,107,108] [[],[],[],[],[2,3],[2,3,4],[],[],[6,7],[6,7,8],[0,2,3,4,5,6,7,8,9],[0,2,3,4,5,6,7,8,9,10],[0,2,3,4,5,6,7,8,9,10,11],[0,1,2,3,4,5,6,7,8,9,10,11,12],[0,1,2,3,4,5,6,7,8,9,10,11,12,13],[0,1,2,3,4,5,6,7,8,9,10,11,12,13,14]]) (.seq (.reg [0,1,2,10,11,107,108] [[],[0],[0,1],[0,1,2],[],[4],[4,5],[4,5,6],[0,1,2,3,4,5,6,7],[0,1,2,3,4,5,6,7,8],[0,1,2,3,4,5,6,7,8,9],[],[11],[11,12],[11,12,13],[],[15],[15,16],[15,16,17],[],[],[19,20],[19,20,21],[0,1,2,3,4,5,6,7,8,9,10,11,12,13,14,15,16,17,18,19,20,21,22]]) (.reg [0,1,2,107,108] [[],[0],[0,1],[0,1,2],[],[4],[4,5],[4,5,6],[0,1,2,3,4,5,6,7],[0,1,2,3,4,5,6,7,8],[0,1,2,3,4,5,6,7,8,9],[],[11],[11,12],[11,12,13],[],[15],[15,16],[15,16,17],[],[19],[19,20],[19,20,21],[],[23],[23,24],[23,24,25],[19,20,21,22,23,24,25,26],[19,20,21,22,23,24,25,26,27],[19,20,21,22,23,24,25,26,27,28],[],[],[30,31],[30,31,32],[19,20,21,22,23,24,25,26,27,28,29,30,31,32,33],[0,1,2,3,4,5,6,7,8,9,10,11,12,13,14,15,16,17,18,19,20,21,22,23,24,25,26,27,28,29,30,31,32,33,34]])))))) (.reg [0,1,2,107,108] []))))) (ic:=pkthead_State_Plan_i5) (pkthead_State_Plan_S R k) (pkthead_State_Plan_J R k) (by kernel_rfl) (And.intro True.intro (And.intro (And.intro True.intro True.intro) (And.intro (And.intro True.intro (And.intro True.intro (And.intro True.intro (And.intro True.intro True.intro)))) True.intro))) (pkthead_State_Plan_a5 R k) (fun vals H K => by unfold pkthead_State_Plan_a5 pkthead_State_Plan_aa5; split <;> rfl)
    (fun n vals H K r h => by
      unfold pkthead_State_Plan_a5 pkthead_State_Plan_aa5 at h
      split at h <;> first | (cases h; done) | exact Eq.trans (pkthead_State_Plan_e5 (tagtree_Tree_Set k) (pkthead_State_Plan_p0 k) (pkthead_State_Plan_p1 k) (pkthead_State_Plan_l2 k) (pkthead_State_Plan_p3 k) (pkthead_State_Plan_p4 k) (pkthead_State_Plan_l5 k) k n _ _ _ _ _ _ _ _ _ H K) h) k
theorem pkthead_State_Plan_e4 {R:Type} (tagtree_Tree_Set:tagtree_Tree_Set_t R) (pkthead_State_Plan_p0:pkthead_State_Plan_p0_t R) (pkthead_State_Plan_p1:pkthead_State_Plan_p1_t R) (pkthead_State_Plan_l2:pkthead_State_Plan_l2_t R) (pkthead_State_Plan_p3:pkthead_State_Plan_p3_t R) (pkthead_State_Plan_p4:pkthead_State_Plan_p4_t R) (pkthead_State_Plan_l5:pkthead_State_Plan_l5_t R) (k:Nat) (p581:Oa) (q582:Oa) (l583:Nat) (c584:Nat) (q585:Oa) (l586:Nat) (c587:Nat) (n588:Int) (p589:Oa) (n590:Int) (q591:Oa) (l592:Nat) (c593:Nat) (n594:Int) (n595:Int) (H:Heap) (K:Xit → Env → Heap → Option R):evJ (pkthead_State_Plan_Ct tagtree_Tree_Set) (pkthead_State_Plan_Jt k pkthead_State_Plan_p0 pkthead_State_Plan_p1 pkthead_State_Plan_l2 pkthead_State_Plan_p3 pkthead_State_Plan_p4 pkthead_State_Plan_l5) pkthead_State_Plan_i4 (List.zip [0,1,2,7,8,9,54,55,56] [.pointer p581,.slice q582 l583 c584,.slice q585 l586 c587,.int .i64 n588,.pointer p589,.int .i64 n590,.slice q591 l592 c593,.int .i64 n594,.int .i64 n595]) H (fun x e' H' => K x (clean e' ((⟨[0,1,2,7,8,9,54,55,56],[],[]⟩:Out).of x)) H') = pkthead_State_Plan_p4_b k p581 q582 l583 c584 q585 l586 c587 n588 p589 n590 q591 l592 c593 n594 n595 H (fun p1249 q1250 l1251 c1252 q1253 l1254 c1255 n1256 p1257 n1258 q1259 l1260 c1261 n1262 n1263 => K .normal [(0,.pointer p1249),(1,.slice q1250 l1251 c1252),(2,.slice q1253 l1254 c1255),(7,.int .i64 n1256),(8,.pointer p1257),(9,.int .i64 n1258),(54,.slice q1259 l1260 c1261),(55,.int .i64 n1262),(56,.int .i64 n1263)] H):=by kernel_rfl
theorem pkthead_State_Plan_j4 {R:Type} (k:Nat):JS Try.prog 195 (pkthead_State_Plan_a4 R k k) [0,1,2,7,8,9,54,55,56] ⟨[0,1,2,7,8,9,54,55,56],[],[]⟩ (sel [1,1,1,0,1,0,0,1,1,0,0,1,1,0] (Try.f22.body.getD .skip)) :=
  piece_ok (nt:=195) (c:=(sel [1,1,1,0,1,0,0,1,1,0,0,1,1,0] (Try.f22.body.getD .skip))) (C:=pkthead_State_Plan_C R k) (an:=An) (t:=(.seq (.reg [0,1,2,7,8,9,54,55,56,65] []) (.cond (.reg [0,1,2,7,8,9,54,55,56] []) .leaf))) (ic:=pkthead_State_Plan_i4) (pkthead_State_Plan_S R k) (pkthead_State_Plan_J R k) (by kernel_rfl) (And.intro True.intro (And.intro True.intro True.intro)) (pkthead_State_Plan_a4 R k k)
    (fun vals H K r h => by
      unfold pkthead_State_Plan_a4 pkthead_State_Plan_aa4 at h
      split at h <;> first | (cases h; done) | exact Eq.trans (pkthead_State_Plan_e4 (tagtree_Tree_Set k) (pkthead_State_Plan_p0 k) (pkthead_State_Plan_p1 k) (pkthead_State_Plan_l2 k) (pkthead_State_Plan_p3 k) (pkthead_State_Plan_p4 k) (pkthead_State_Plan_l5 k) k _ _ _ _ _ _ _ _ _ _ _ _ _ _ _ H K) h)
theorem pkthead_State_Plan_e3 {R:Type} (tagtree_Tree_Set:tagtree_Tree_Set_t R) (pkthead_State_Plan_p0:pkthead_State_Plan_p0_t R) (pkthead_State_Plan_p1:pkthead_State_Plan_p1_t R) (pkthead_State_Plan_l2:pkthead_State_Plan_l2_t R) (pkthead_State_Plan_p3:pkthead_State_Plan_p3_t R) (pkthead_State_Plan_p4:pkthead_State_Plan_p4_t R) (pkthead_State_Plan_l5:pkthead_State_Plan_l5_t R) (k:Nat) (p555:Oa) (q556:Oa) (l557:Nat) (c558:Nat) (q559:Oa) (l560:Nat) (c561:Nat) (q562:Oa) (l563:Nat) (c564:Nat) (n565:Int) (n566:Int) (H:Heap) (K:Xit → Env → Heap → Option R):evJ (pkthead_State_Plan_Ct tagtree_Tree_Set) (pkthead_State_Plan_Jt k pkthead_State_Plan_p0 pkthead_State_Plan_p1 pkthead_State_Plan_l2 pkthead_State_Plan_p3 pkthead_State_Plan_p4 pkthead_State_Plan_l5) pkthead_State_Plan_i3 (List.zip [0,1,2,54,55,56] [.pointer p555,.slice q556 l557 c558,.slice q559 l560 c561,.slice q562 l563 c564,.int .i64 n565,.int .i64 n566]) H (fun x e' H' => K x (clean e' ((⟨[0,1,2,54,55,56],[],[6]⟩:Out).of x)) H') = pkthead_State_Plan_p3_b pkthead_State_Plan_p4 k p555 q556 l557 c558 q559 l560 c561 q562 l563 c564 n565 n566 H (fun p1236 q1237 l1238 c1239 q1240 l1241 c1242 q1243 l1244 c1245 n1246 n1247 H => K .normal [(0,.pointer p1236),(1,.slice q1237 l1238 c1239),(2,.slice q1240 l1241 c1242),(54,.slice q1243 l1244 c1245),(55,.int .i64 n1246),(56,.int .i64 n1247)] H) (fun n1248 H => K .ret [(6,.int .i64 n1248)] H):=by kernel_rfl
theorem pkthead_State_Plan_j3 {R:Type} (k:Nat):JS Try.prog 195 (pkthead_State_Plan_a3 R k k) [0,1,2,54,55,56] ⟨[0,1,2,54,55,56],[],[6]⟩ (sel [1,1,1,0,1,0,0,1,1,0] (Try.f22.body.getD .skip)) :=
  piece_ok (nt:=195) (c:=(sel [1,1,1,0,1,0,0,1,1,0] (Try.f22.body.getD .skip))) (C:=pkthead_State_Plan_C R k) (an:=An) (t:=(.node (.seq (.reg [0,1,2,7,8,54,55,56] []) (.seq (.reg [0,1,2,7,8,9,54,55,56] []) (.seq (.opq 4 [0,1,2,7,8,9,54,55,56] ⟨[0,1,2,7,8,9,54,55,56],[],[]⟩ (.seq (.reg [0,1,2,7,8,9,54,55,56,65] []) (.cond (.reg [0,1,2,7,8,9,54,55,56] []) .leaf))) (.seq (.reg [0,1,2,54,55,56,101] [[],[],[0,1],[0,1,2],[0,1,2,3],[0,1,2,3,4],[0,1,2,3,4,5],[0,1,2,3,4,5],[0,1,2,3,4,5,6,7],[0,1,2,3,4,5,6,7,8],[0,1,2,3,4,5,6,7,8,9],[0,1,2,3,4,5,6,7,8,9,10],[0,1,2,3,4,5,6,7,8,9,10,11],[0,1,2,3,4,5,6,7,8,9,10,11,12],[0,1,2,3,4,5,6,7,8,9,10,11,12],[0,1,2,3,4,5,6,7,8,9,10,11,12,13,14],[0,1,2,3,4,5,6,7,8,9,10,11,12,13,14,15],[0,1,2,3,4,5,6,7,8,9,10,11,12],[0,1,2,3,4,5,6,7,8,9,10,11,12,13,14,15,16,17],[0,1,2,3,4,5,6,7,8,9,10,11,12,13,14,15,16,17,18],[0,1,2,3,4,5,6,7,8,9,10,11,12,13,14,15,16,17,18,19],[0,1,2,3,4,5,6,7,8,9,10,11,12,13,14,15,16,17,18,19,20],[0,1,2,3,4,5,6,7,8,9,10,11,12,13,14,15,16,17,18,19,20],[0,1,2,3,4,5,6,7,8,9,10,11,12,13,14,15,16,17,18,19,20,21,22],[0,1,2,3,4,5,6,7,8,9,10,11,12,13,14,15,16,17,18,19,20,21,22,23],[0,1,2,3,4,5,6,7,8,9,10,11,12,13,14,15,16,17,18,19,20],[0,1,2,3,4,5,6,7,8,9,10,11,12,13,14,15,16,17,18,19,20,25],[0,1,2,3,4,5,6,7,8,9,10,11,12,13,14,15,16,17,18,19,20,25,26],[0,1,2,3,4,5,6,7,8,9,10,11,12,13,14,15,16,17,18,19,20,25,26,27],[0,1,2,3,4,5,6,7,8,9,10,11,12,13,14,15,16,17,18,19,20],[0,1,2,3,4,5,6,7,8,9,10,11,12,13,14,15,16,17,18,19,20,29],[0,1,2,3,4,5,6,7,8,9,10,11,12,13,14,15,16,17,18,19,20,25,26,27,28,29,30],[0,1,2,3,4,5,6,7,8,9,10,11,12,13,14,15,16,17,18,19,20,25,26,27,28,29,30,31],[0,1,2,3,4,5,6,7,8,9,10,11,12,13,14,15,16,17,18,19,20,25,26,27,28,29,30,31,32],[0,1,2,3,4,5,6,7,8,9,10,11,12,13,14,15,16,17,18,19,20,21,22,23,24,25,26,27,28,29,30,31,32,33],[0,1,2,3,4,5,6,7,8,9,10,11,12,13,14,15,16,17,18,19,20,21,22,23,24,25,26,27,28,29,30,31,32,33,34]]) (.cond (.seq (.reg [6] []) .leaf) .leaf))))))) (ic:=pkthead_State_Plan_i3) (pkthead_State_Plan_S R k) (pkthead_State_Plan_J R k) (by kernel_rfl) (And.intro True.intro (And.intro True.intro (And.intro (pkthead_State_Plan_j4 k) (And.intro True.intro (And.intro (And.intro True.intro True.intro) True.intro))))) (pkthead_State_Plan_a3 R k k)
    (fun vals H K r h => by
      unfold pkthead_State_Plan_a3 pkthead_State_Plan_aa3 at h
      split at h <;> first | (cases h; done) | exact Eq.trans (pkthead_State_Plan_e3 (tagtree_Tree_Set k) (pkthead_State_Plan_p0 k) (pkthead_State_Plan_p1 k) (pkthead_State_Plan_l2 k) (pkthead_State_Plan_p3 k) (pkthead_State_Plan_p4 k) (pkthead_State_Plan_l5 k) k _ _ _ _ _ _ _ _ _ _ _ _ H K) h)
theorem pkthead_State_Plan_e2 {R:Type} (tagtree_Tree_Set:tagtree_Tree_Set_t R) (pkthead_State_Plan_p0:pkthead_State_Plan_p0_t R) (pkthead_State_Plan_p1:pkthead_State_Plan_p1_t R) (pkthead_State_Plan_l2:pkthead_State_Plan_l2_t R) (pkthead_State_Plan_p3:pkthead_State_Plan_p3_t R) (pkthead_State_Plan_p4:pkthead_State_Plan_p4_t R) (pkthead_State_Plan_l5:pkthead_State_Plan_l5_t R) (k n:Nat) (p543:Oa) (q544:Oa) (l545:Nat) (c546:Nat) (q547:Oa) (l548:Nat) (c549:Nat) (q550:Oa) (l551:Nat) (c552:Nat) (n553:Int) (n554:Int) (H:Heap) (K:Xit → Env → Heap → Option R):evJ (pkthead_State_Plan_Ct tagtree_Tree_Set) (pkthead_State_Plan_Jt k pkthead_State_Plan_p0 pkthead_State_Plan_p1 pkthead_State_Plan_l2 pkthead_State_Plan_p3 pkthead_State_Plan_p4 pkthead_State_Plan_l5) pkthead_State_Plan_i2 (List.zip [0,1,2,54,55,56] [.pointer p543,.slice q544 l545 c546,.slice q547 l548 c549,.slice q550 l551 c552,.int .i64 n553,.int .i64 n554]) H (fun x e' H' => match x with | .normal => pkthead_State_Plan_aa2 pkthead_State_Plan_l2 n ((clean e' [0,1,2,54,55,56]).map (·.2)) H' K | x => K x (clean e' ((⟨[],[(0,[0,1,2])],[6]⟩:Out).of x)) H') = pkthead_State_Plan_l2_b pkthead_State_Plan_p3 (pkthead_State_Plan_l2 (fun p1228 q1229 l1230 c1231 q1232 l1233 c1234 H => K (.exit 0) [(0,.pointer p1228),(1,.slice q1229 l1230 c1231),(2,.slice q1232 l1233 c1234)] H) (fun n1235 H => K .ret [(6,.int .i64 n1235)] H) n) (fun p1228 q1229 l1230 c1231 q1232 l1233 c1234 H => K (.exit 0) [(0,.pointer p1228),(1,.slice q1229 l1230 c1231),(2,.slice q1232 l1233 c1234)] H) (fun n1235 H => K .ret [(6,.int .i64 n1235)] H) k p543 q544 l545 c546 q547 l548 c549 q550 l551 c552 n553 n554 H:=by kernel_rfl
theorem pkthead_State_Plan_j2 {R:Type} (k:Nat):JS Try.prog 195 (pkthead_State_Plan_a2 R k k) [0,1,2,54,55,56] ⟨[],[(0,[0,1,2])],[6]⟩ (.loop (sel [1,1,1,0,1,0,0] (Try.f22.body.getD .skip))) :=
  loop_ok (nt:=195) (c:=(sel [1,1,1,0,1,0,0] (Try.f22.body.getD .skip))) (C:=pkthead_State_Plan_C R k) (an:=An) (t:=(.seq (.reg [0,1,2,54,55,56,57] []) (.seq (.cond .leaf .leaf) (.seq (.opq 3 [0,1,2,54,55,56] ⟨[0,1,2,54,55,56],[],[6]⟩ (.node (.seq (.reg [0,1,2,7,8,54,55,56] []) (.seq (.reg [0,1,2,7,8,9,54,55,56] []) (.seq (.opq 4 [0,1,2,7,8,9,54,55,56] ⟨[0,1,2,7,8,9,54,55,56],[],[]⟩ (.seq (.reg [0,1,2,7,8,9,54,55,56,65] []) (.cond (.reg [0,1,2,7,8,9,54,55,56] []) .leaf))) (.seq (.reg [0,1,2,54,55,56,101] [[],[],[0,1],[0,1,2],[0,1,2,3],[0,1,2,3,4],[0,1,2,3,4,5],[0,1,2,3,4,5],[0,1,2,3,4,5,6,7],[0,1,2,3,4,5,6,7,8],[0,1,2,3,4,5,6,7,8,9],[0,1,2,3,4,5,6,7,8,9,10],[0,1,2,3,4,5,6,7,8,9,10,11],[0,1,2,3,4,5,6,7,8,9,10,11,12],[0,1,2,3,4,5,6,7,8,9,10,11,12],[0,1,2,3,4,5,6,7,8,9,10,11,12,13,14],[0,1,2,3,4,5,6,7,8,9,10,11,12,13,14,15],[0,1,2,3,4,5,6,7,8,9,10,11,12],[0,1,2,3,4,5,6,7,8,9,10,11,12,13,14,15,16,17],[0,1,2,3,4,5,6,7,8,9,10,11,12,13,14,15,16,17,18],[0,1,2,3,4,5,6,7,8,9,10,11,12,13,14,15,16,17,18,19],[0,1,2,3,4,5,6,7,8,9,10,11,12,13,14,15,16,17,18,19,20],[0,1,2,3,4,5,6,7,8,9,10,11,12,13,14,15,16,17,18,19,20],[0,1,2,3,4,5,6,7,8,9,10,11,12,13,14,15,16,17,18,19,20,21,22],[0,1,2,3,4,5,6,7,8,9,10,11,12,13,14,15,16,17,18,19,20,21,22,23],[0,1,2,3,4,5,6,7,8,9,10,11,12,13,14,15,16,17,18,19,20],[0,1,2,3,4,5,6,7,8,9,10,11,12,13,14,15,16,17,18,19,20,25],[0,1,2,3,4,5,6,7,8,9,10,11,12,13,14,15,16,17,18,19,20,25,26],[0,1,2,3,4,5,6,7,8,9,10,11,12,13,14,15,16,17,18,19,20,25,26,27],[0,1,2,3,4,5,6,7,8,9,10,11,12,13,14,15,16,17,18,19,20],[0,1,2,3,4,5,6,7,8,9,10,11,12,13,14,15,16,17,18,19,20,29],[0,1,2,3,4,5,6,7,8,9,10,11,12,13,14,15,16,17,18,19,20,25,26,27,28,29,30],[0,1,2,3,4,5,6,7,8,9,10,11,12,13,14,15,16,17,18,19,20,25,26,27,28,29,30,31],[0,1,2,3,4,5,6,7,8,9,10,11,12,13,14,15,16,17,18,19,20,25,26,27,28,29,30,31,32],[0,1,2,3,4,5,6,7,8,9,10,11,12,13,14,15,16,17,18,19,20,21,22,23,24,25,26,27,28,29,30,31,32,33],[0,1,2,3,4,5,6,7,8,9,10,11,12,13,14,15,16,17,18,19,20,21,22,23,24,25,26,27,28,29,30,31,32,33,34]]) (.cond (.seq (.reg [6] []) .leaf) .leaf))))))) (.reg [0,1,2,54,55,56] []))))) (ic:=pkthead_State_Plan_i2) (pkthead_State_Plan_S R k) (pkthead_State_Plan_J R k) (by kernel_rfl) (And.intro True.intro (And.intro (And.intro True.intro True.intro) (And.intro (pkthead_State_Plan_j3 k) True.intro))) (pkthead_State_Plan_a2 R k) (fun vals H K => by unfold pkthead_State_Plan_a2 pkthead_State_Plan_aa2; split <;> rfl)
    (fun n vals H K r h => by
      unfold pkthead_State_Plan_a2 pkthead_State_Plan_aa2 at h
      split at h <;> first | (cases h; done) | exact Eq.trans (pkthead_State_Plan_e2 (tagtree_Tree_Set k) (pkthead_State_Plan_p0 k) (pkthead_State_Plan_p1 k) (pkthead_State_Plan_l2 k) (pkthead_State_Plan_p3 k) (pkthead_State_Plan_p4 k) (pkthead_State_Plan_l5 k) k n _ _ _ _ _ _ _ _ _ _ _ _ H K) h) k
theorem pkthead_State_Plan_e1 {R:Type} (tagtree_Tree_Set:tagtree_Tree_Set_t R) (pkthead_State_Plan_p0:pkthead_State_Plan_p0_t R) (pkthead_State_Plan_p1:pkthead_State_Plan_p1_t R) (pkthead_State_Plan_l2:pkthead_State_Plan_l2_t R) (pkthead_State_Plan_p3:pkthead_State_Plan_p3_t R) (pkthead_State_Plan_p4:pkthead_State_Plan_p4_t R) (pkthead_State_Plan_l5:pkthead_State_Plan_l5_t R) (k:Nat) (p506:Oa) (q507:Oa) (l508:Nat) (c509:Nat) (q510:Oa) (l511:Nat) (c512:Nat) (H:Heap) (K:Xit → Env → Heap → Option R):evJ (pkthead_State_Plan_Ct tagtree_Tree_Set) (pkthead_State_Plan_Jt k pkthead_State_Plan_p0 pkthead_State_Plan_p1 pkthead_State_Plan_l2 pkthead_State_Plan_p3 pkthead_State_Plan_p4 pkthead_State_Plan_l5) pkthead_State_Plan_i1 (List.zip [0,1,2] [.pointer p506,.slice q507 l508 c509,.slice q510 l511 c512]) H (fun x e' H' => K x (clean e' ((⟨[0,1,2],[],[6]⟩:Out).of x)) H') = pkthead_State_Plan_p1_b k p506 q507 l508 c509 q510 l511 c512 H (fun p1220 q1221 l1222 c1223 q1224 l1225 c1226 => K .normal [(0,.pointer p1220),(1,.slice q1221 l1222 c1223),(2,.slice q1224 l1225 c1226)] H) (fun n1227 => K .ret [(6,.int .i64 n1227)] H):=by kernel_rfl
theorem pkthead_State_Plan_j1 {R:Type} (k:Nat):JS Try.prog 195 (pkthead_State_Plan_a1 R k k) [0,1,2] ⟨[0,1,2],[],[6]⟩ (sel [1,1,0] (Try.f22.body.getD .skip)) :=
  piece_ok (nt:=195) (c:=(sel [1,1,0] (Try.f22.body.getD .skip))) (C:=pkthead_State_Plan_C R k) (an:=An) (t:=(.seq (.reg [0,1,2,50] []) (.cond (.seq (.reg [6] []) .leaf) .leaf))) (ic:=pkthead_State_Plan_i1) (pkthead_State_Plan_S R k) (pkthead_State_Plan_J R k) (by kernel_rfl) (And.intro True.intro (And.intro (And.intro True.intro True.intro) True.intro)) (pkthead_State_Plan_a1 R k k)
    (fun vals H K r h => by
      unfold pkthead_State_Plan_a1 pkthead_State_Plan_aa1 at h
      split at h <;> first | (cases h; done) | exact Eq.trans (pkthead_State_Plan_e1 (tagtree_Tree_Set k) (pkthead_State_Plan_p0 k) (pkthead_State_Plan_p1 k) (pkthead_State_Plan_l2 k) (pkthead_State_Plan_p3 k) (pkthead_State_Plan_p4 k) (pkthead_State_Plan_l5 k) k _ _ _ _ _ _ _ H K) h)
theorem pkthead_State_Plan_e0 {R:Type} (tagtree_Tree_Set:tagtree_Tree_Set_t R) (pkthead_State_Plan_p0:pkthead_State_Plan_p0_t R) (pkthead_State_Plan_p1:pkthead_State_Plan_p1_t R) (pkthead_State_Plan_l2:pkthead_State_Plan_l2_t R) (pkthead_State_Plan_p3:pkthead_State_Plan_p3_t R) (pkthead_State_Plan_p4:pkthead_State_Plan_p4_t R) (pkthead_State_Plan_l5:pkthead_State_Plan_l5_t R) (k:Nat) (p475:Oa) (q476:Oa) (l477:Nat) (c478:Nat) (q479:Oa) (l480:Nat) (c481:Nat) (H:Heap) (K:Xit → Env → Heap → Option R):evJ (pkthead_State_Plan_Ct tagtree_Tree_Set) (pkthead_State_Plan_Jt k pkthead_State_Plan_p0 pkthead_State_Plan_p1 pkthead_State_Plan_l2 pkthead_State_Plan_p3 pkthead_State_Plan_p4 pkthead_State_Plan_l5) pkthead_State_Plan_i0 (List.zip [0,1,2] [.pointer p475,.slice q476 l477 c478,.slice q479 l480 c481]) H (fun x e' H' => K x (clean e' ((⟨[0,1,2],[],[6]⟩:Out).of x)) H') = pkthead_State_Plan_p0_b k p475 q476 l477 c478 q479 l480 c481 H (fun p1212 q1213 l1214 c1215 q1216 l1217 c1218 => K .normal [(0,.pointer p1212),(1,.slice q1213 l1214 c1215),(2,.slice q1216 l1217 c1218)] H) (fun n1219 => K .ret [(6,.int .i64 n1219)] H):=by kernel_rfl
theorem pkthead_State_Plan_j0 {R:Type} (k:Nat):JS Try.prog 195 (pkthead_State_Plan_a0 R k k) [0,1,2] ⟨[0,1,2],[],[6]⟩ (sel [1,0] (Try.f22.body.getD .skip)) :=
  piece_ok (nt:=195) (c:=(sel [1,0] (Try.f22.body.getD .skip))) (C:=pkthead_State_Plan_C R k) (an:=An) (t:=(.seq (.reg [0,1,2,32] []) (.cond (.seq (.reg [6] []) .leaf) .leaf))) (ic:=pkthead_State_Plan_i0) (pkthead_State_Plan_S R k) (pkthead_State_Plan_J R k) (by kernel_rfl) (And.intro True.intro (And.intro (And.intro True.intro True.intro) True.intro)) (pkthead_State_Plan_a0 R k k)
    (fun vals H K r h => by
      unfold pkthead_State_Plan_a0 pkthead_State_Plan_aa0 at h
      split at h <;> first | (cases h; done) | exact Eq.trans (pkthead_State_Plan_e0 (tagtree_Tree_Set k) (pkthead_State_Plan_p0 k) (pkthead_State_Plan_p1 k) (pkthead_State_Plan_l2 k) (pkthead_State_Plan_p3 k) (pkthead_State_Plan_p4 k) (pkthead_State_Plan_l5 k) k _ _ _ _ _ _ _ H K) h)
def pkthead_State_Plan_ca {R:Type} (f:pkthead_State_Plan_t R) (args:List Value) (H:Heap) (K:Value → Heap → Option R):Option R :=
  match args with
  | [.pointer p468,.slice q469 l470 c471,.slice q472 l473 c474] => f p468 q469 l470 c471 q472 l473 c474 H (fun n1265 H => K (.int .i64 n1265) H)
  | _ => none
def pkthead_State_Plan_c (R:Type) (k:Nat) (args:List Value) (H:Heap) (K:Value → Heap → Option R):Option R:=pkthead_State_Plan_ca (pkthead_State_Plan k) args H K
theorem pkthead_State_Plan_e {R:Type} (tagtree_Tree_Set:tagtree_Tree_Set_t R) (pkthead_State_Plan_p0:pkthead_State_Plan_p0_t R) (pkthead_State_Plan_p1:pkthead_State_Plan_p1_t R) (pkthead_State_Plan_l2:pkthead_State_Plan_l2_t R) (pkthead_State_Plan_p3:pkthead_State_Plan_p3_t R) (pkthead_State_Plan_p4:pkthead_State_Plan_p4_t R) (pkthead_State_Plan_l5:pkthead_State_Plan_l5_t R) (k:Nat) (p468:Oa) (q469:Oa) (l470:Nat) (c471:Nat) (q472:Oa) (l473:Nat) (c474:Nat) (H:Heap) (K:Value → Heap → Option R):evF (pkthead_State_Plan_Ct tagtree_Tree_Set) (pkthead_State_Plan_Jt k pkthead_State_Plan_p0 pkthead_State_Plan_p1 pkthead_State_Plan_l2 pkthead_State_Plan_p3 pkthead_State_Plan_p4 pkthead_State_Plan_l5) pkthead_State_Plan_f [.pointer p468,.slice q469 l470 c471,.slice q472 l473 c474] H K = pkthead_State_Plan_b pkthead_State_Plan_p0 pkthead_State_Plan_p1 pkthead_State_Plan_l2 pkthead_State_Plan_l5 k p468 q469 l470 c471 q472 l473 c474 H (fun n1265 H => K (.int .i64 n1265) H):=by kernel_rfl
theorem pkthead_State_Plan_cs (R:Type) (k:Nat):∀ args H K r,pkthead_State_Plan_c R k args H K = some r → ∃ v H',Tri Try.prog 22 args H v H' ∧ K v H' = some r:=by
  intro args H K r h
  unfold pkthead_State_Plan_c pkthead_State_Plan_ca at h
  split at h
  · exact evF_ok (C:=pkthead_State_Plan_C R k) (an:=An) (t:=pkthead_State_Plan_at) (fn:=Try.f22) (c:=(Try.f22.body.getD .skip)) (ifn:=pkthead_State_Plan_f) (pkthead_State_Plan_S R k) (pkthead_State_Plan_J R k) Try.func22 (by kernel_rfl) (by kernel_rfl) (And.intro True.intro (And.intro (pkthead_State_Plan_j0 k) (And.intro (pkthead_State_Plan_j1 k) (And.intro (And.intro True.intro (pkthead_State_Plan_j2 k)) (And.intro (And.intro True.intro (pkthead_State_Plan_j5 k)) (And.intro True.intro (And.intro True.intro True.intro))))))) rfl (Eq.trans (pkthead_State_Plan_e (tagtree_Tree_Set k) (pkthead_State_Plan_p0 k) (pkthead_State_Plan_p1 k) (pkthead_State_Plan_l2 k) (pkthead_State_Plan_p3 k) (pkthead_State_Plan_p4 k) (pkthead_State_Plan_l5 k) k _ _ _ _ _ _ _ H K) h)
  · cases h
abbrev pkthead_State_passesFit_p2_t (R:Type):Type:=Oa → Oa → Nat → Nat → Oa → Oa → Oa → Nat → Nat → Int → Int → Heap → (Oa → Oa → Nat → Nat → Oa → Oa → Oa → Nat → Nat → Int → Int → Option R) → (Bool → Option R) → Option R
def pkthead_State_passesFit_p2_b {R:Type} (k:Nat) (p558:Oa) (q559:Oa) (l560:Nat) (c561:Nat) (p562:Oa) (p563:Oa) (q564:Oa) (l565:Nat) (c566:Nat) (n567:Int) (n568:Int) (H:Heap) (KN:Oa → Oa → Nat → Nat → Oa → Oa → Oa → Nat → Nat → Int → Int → Option R) (KR:Bool → Option R):Option R :=
hfad 1 p563 fun p569 =>
ldI .i64 H p569 fun n570 =>
bif decide (n570 < 0) then (KR false)
 else (hfad 1 p563 fun p571 =>
ldI .i64 H p571 fun n572 =>
bif (n572 == 0) then (hfad 8 p562 fun p573 =>
ldI .i64 H p573 fun n574 =>
hnil p558 fun p575 =>
hfad 10 p575 fun p576 =>
ldI .i64 H p576 fun n577 =>
bif (n574 == n577) then (KR false)
 else (hfad 1 p563 fun p578 =>
ldI .i64 H p578 fun n579 =>
bif decide (n579 > 0) then (hfad 8 p562 fun p580 =>
ldI .i64 H p580 fun n581 =>
hnil p558 fun p582 =>
hfad 10 p582 fun p583 =>
ldI .i64 H p583 fun n584 =>
bif decide (n581 > n584) then (KR false)
 else (KN p558 q559 l560 c561 p562 p563 q564 l565 c566 n567 n568))
 else (KN p558 q559 l560 c561 p562 p563 q564 l565 c566 n567 n568)))
 else (hfad 1 p563 fun p585 =>
ldI .i64 H p585 fun n586 =>
bif decide (n586 > 0) then (hfad 8 p562 fun p587 =>
ldI .i64 H p587 fun n588 =>
hnil p558 fun p589 =>
hfad 10 p589 fun p590 =>
ldI .i64 H p590 fun n591 =>
bif decide (n588 > n591) then (KR false)
 else (KN p558 q559 l560 c561 p562 p563 q564 l565 c566 n567 n568))
 else (KN p558 q559 l560 c561 p562 p563 q564 l565 c566 n567 n568)))
def pkthead_State_passesFit_p2 {R:Type} (k:Nat) (p558:Oa) (q559:Oa) (l560:Nat) (c561:Nat) (p562:Oa) (p563:Oa) (q564:Oa) (l565:Nat) (c566:Nat) (n567:Int) (n568:Int) (H:Heap) (KN:Oa → Oa → Nat → Nat → Oa → Oa → Oa → Nat → Nat → Int → Int → Option R) (KR:Bool → Option R):Option R:=pkthead_State_passesFit_p2_b k p558 q559 l560 c561 p562 p563 q564 l565 c566 n567 n568 H KN KR
abbrev pkthead_State_passesFit_p1_t (R:Type):Type:=Oa → Oa → Nat → Nat → Oa → Nat → Nat → Int → Int → Heap → (Oa → Oa → Nat → Nat → Oa → Nat → Nat → Int → Int → Heap → Option R) → (Bool → Heap → Option R) → Option R
def pkthead_State_passesFit_p1_b {R:Type} (pkthead_State_passesFit_p2:pkthead_State_passesFit_p2_t R) (k:Nat) (p526:Oa) (q527:Oa) (l528:Nat) (c529:Nat) (q530:Oa) (l531:Nat) (c532:Nat) (n533:Int) (n534:Int) (H:Heap) (KN:Oa → Oa → Nat → Nat → Oa → Nat → Nat → Int → Int → Heap → Option R) (KR:Bool → Heap → Option R):Option R :=
hidx q530 l531 n534 10 fun p535 =>
ldI .i64 H (pad p535 0) fun n536 =>
ldI .i64 H (pad p535 1) fun n537 =>
ldI .i64 H (pad p535 2) fun n538 =>
ldB H (pad p535 3) fun t539 =>
ldI .i64 H (pad p535 4) fun n540 =>
ldI .i64 H (pad p535 5) fun n541 =>
ldI .i64 H (pad p535 6) fun n542 =>
ldI .i64 H (pad p535 7) fun n543 =>
ldI .i64 H (pad p535 8) fun n544 =>
ldI .i64 H (pad p535 9) fun n545 =>
hal H [.int .i64 0,.int .i64 0,.int .i64 0,.bool false,.int .i64 0,.int .i64 0,.int .i64 0,.int .i64 0,.int .i64 0,.int .i64 0] fun p546 H547 =>
hst H547 p546 [.int .i64 n536,.int .i64 n537,.int .i64 n538,.bool t539,.int .i64 n540,.int .i64 n541,.int .i64 n542,.int .i64 n543,.int .i64 n544,.int .i64 n545] fun H548 =>
hidx q527 l528 n534 3 fun p549 =>
ldI .i64 H548 (pad p549 0) fun n550 =>
ldI .i64 H548 (pad p549 1) fun n551 =>
ldL H548 (pad p549 2) fun q552 l553 c554 =>
hal H548 [.int .i64 0,.int .i64 0,.slice none 0 0] fun p555 H556 =>
hst H556 p555 [.int .i64 n550,.int .i64 n551,.slice q552 l553 c554] fun H557 =>
pkthead_State_passesFit_p2 p526 q527 l528 c529 p546 p555 q530 l531 c532 n533 n534 H557 (fun p604 q605 l606 c607 p608 p609 q610 l611 c612 n613 n614 =>
hfad 1 p609 fun p615 =>
ldI .i64 H557 p615 fun n616 =>
bif decide (n616 > 0) then (hfad 0 p609 fun p617 =>
ldI .i64 H557 p617 fun n618 =>
hfad 9 p608 fun p619 =>
ldI .i64 H557 p619 fun n620 =>
bif (n618 != n620) then (KR false H557)
 else (hfad 1 p609 fun p621 =>
ldI .i64 H557 p621 fun n622 =>
hfad 9 p608 fun p623 =>
ldI .i64 H557 p623 fun n624 =>
hfad 5 p608 fun p625 =>
ldI .i64 H557 p625 fun n626 =>
bif decide (n622 > (IntKind.wrap .i64 ((IntKind.wrap .i64 ((IntKind.wrap .i64 (3 * n624)) - 2)) - n626))) then (KR false H557)
 else (KN p604 q605 l606 c607 q610 l611 c612 n613 n614 H557)))
 else (KN p604 q605 l606 c607 q610 l611 c612 n613 n614 H557)) (fun t627 =>
KR t627 H557)
def pkthead_State_passesFit_p1 {R:Type} (k:Nat) (p526:Oa) (q527:Oa) (l528:Nat) (c529:Nat) (q530:Oa) (l531:Nat) (c532:Nat) (n533:Int) (n534:Int) (H:Heap) (KN:Oa → Oa → Nat → Nat → Oa → Nat → Nat → Int → Int → Heap → Option R) (KR:Bool → Heap → Option R):Option R:=pkthead_State_passesFit_p1_b (pkthead_State_passesFit_p2 k) k p526 q527 l528 c529 q530 l531 c532 n533 n534 H KN KR
abbrev pkthead_State_passesFit_l0_t (R:Type):Type:=(Heap → Option R) → (Bool → Heap → Option R) → Nat → Oa → Oa → Nat → Nat → Oa → Nat → Nat → Int → Int → Heap → Option R
def pkthead_State_passesFit_l0_b {R:Type} (pkthead_State_passesFit_p1:pkthead_State_passesFit_p1_t R) (rec:Oa → Oa → Nat → Nat → Oa → Nat → Nat → Int → Int → Heap → Option R) (KE0:Heap → Option R) (KR:Bool → Heap → Option R) (k:Nat) (p517:Oa) (q518:Oa) (l519:Nat) (c520:Nat) (q521:Oa) (l522:Nat) (c523:Nat) (n524:Int) (n525:Int) (H:Heap):Option R :=
bif decide (n525 < n524) then (pkthead_State_passesFit_p1 p517 q518 l519 c520 q521 l522 c523 n524 n525 H (fun p638 q639 l640 c641 q642 l643 c644 n645 n646 H647 =>
rec p638 q639 l640 c641 q642 l643 c644 n645 (IntKind.wrap .i64 (n646 + 1)) H647) (fun t648 H649 =>
KR t648 H649))
 else (KE0 H)
def pkthead_State_passesFit_l0 {R:Type} (k:Nat) (KE0:Heap → Option R) (KR:Bool → Heap → Option R):Nat → Oa → Oa → Nat → Nat → Oa → Nat → Nat → Int → Int → Heap → Option R
  | 0,_,_,_,_,_,_,_,_,_,_ => none
  | n + 1,p517,q518,l519,c520,q521,l522,c523,n524,n525,H => pkthead_State_passesFit_l0_b (pkthead_State_passesFit_p1 k) (pkthead_State_passesFit_l0 k KE0 KR n) KE0 KR k p517 q518 l519 c520 q521 l522 c523 n524 n525 H
abbrev pkthead_State_passesFit_t (R:Type):Type:=Oa → Oa → Nat → Nat → Heap → (Bool → Heap → Option R) → Option R
def pkthead_State_passesFit_b {R:Type} (pkthead_State_passesFit_l0:pkthead_State_passesFit_l0_t R) (k:Nat) (p508:Oa) (q509:Oa) (l510:Nat) (c511:Nat) (H:Heap) (K:Bool → Heap → Option R):Option R :=
hnil p508 fun p512 =>
hfad 9 p512 fun p513 =>
ldL H p513 fun q514 l515 c516 =>
pkthead_State_passesFit_l0 (fun H651 =>
K true H651) (fun t652 H653 =>
K t652 H653) k p508 q509 l510 c511 q514 l515 c516 ((l515:Nat):Int) 0 H
def pkthead_State_passesFit {R:Type} (k:Nat) (p508:Oa) (q509:Oa) (l510:Nat) (c511:Nat) (H:Heap) (K:Bool → Heap → Option R):Option R:=pkthead_State_passesFit_b (pkthead_State_passesFit_l0 k) k p508 q509 l510 c511 H K
def pkthead_State_passesFit_Ct {R:Type}:Tab R:=fun _ _ _ _ => none
def pkthead_State_passesFit_C (R:Type) (k:Nat):Tab R:=pkthead_State_passesFit_Ct
theorem pkthead_State_passesFit_S (R:Type) (k:Nat):CSound Try.prog (pkthead_State_passesFit_C R k):=csound_nil
def pkthead_State_passesFit_aa0 {R:Type} (f:pkthead_State_passesFit_l0_t R) (n:Nat) (vals:List Value) (H:Heap) (K:Xit → Env → Heap → Option R):Option R :=
  match vals with
  | [.pointer p517,.slice q518 l519 c520,.slice q521 l522 c523,.int .i64 n524,.int .i64 n525] => f (fun H => K (.exit 0) [] H) (fun t1266 H => K .ret [(4,.bool t1266)] H) n p517 q518 l519 c520 q521 l522 c523 n524 n525 H
  | _ => none
def pkthead_State_passesFit_a0 (R:Type) (k n:Nat) (vals:List Value) (H:Heap) (K:Xit → Env → Heap → Option R):Option R:=pkthead_State_passesFit_aa0 (pkthead_State_passesFit_l0 k) n vals H K
def pkthead_State_passesFit_aa1 {R:Type} (f:pkthead_State_passesFit_p1_t R) (n:Nat) (vals:List Value) (H:Heap) (K:Xit → Env → Heap → Option R):Option R :=
  match vals with
  | [.pointer p526,.slice q527 l528 c529,.slice q530 l531 c532,.int .i64 n533,.int .i64 n534] => f p526 q527 l528 c529 q530 l531 c532 n533 n534 H (fun p1267 q1268 l1269 c1270 q1271 l1272 c1273 n1274 n1275 H => K .normal [(0,.pointer p1267),(1,.slice q1268 l1269 c1270),(11,.slice q1271 l1272 c1273),(12,.int .i64 n1274),(13,.int .i64 n1275)] H) (fun t1276 H => K .ret [(4,.bool t1276)] H)
  | _ => none
def pkthead_State_passesFit_a1 (R:Type) (k n:Nat) (vals:List Value) (H:Heap) (K:Xit → Env → Heap → Option R):Option R:=pkthead_State_passesFit_aa1 (pkthead_State_passesFit_p1 k) n vals H K
def pkthead_State_passesFit_aa2 {R:Type} (f:pkthead_State_passesFit_p2_t R) (n:Nat) (vals:List Value) (H:Heap) (K:Xit → Env → Heap → Option R):Option R :=
  match vals with
  | [.pointer p558,.slice q559 l560 c561,.pointer p562,.pointer p563,.slice q564 l565 c566,.int .i64 n567,.int .i64 n568] => f p558 q559 l560 c561 p562 p563 q564 l565 c566 n567 n568 H (fun p1277 q1278 l1279 c1280 p1281 p1282 q1283 l1284 c1285 n1286 n1287 => K .normal [(0,.pointer p1277),(1,.slice q1278 l1279 c1280),(6,.pointer p1281),(7,.pointer p1282),(11,.slice q1283 l1284 c1285),(12,.int .i64 n1286),(13,.int .i64 n1287)] H) (fun t1288 => K .ret [(4,.bool t1288)] H)
  | _ => none
def pkthead_State_passesFit_a2 (R:Type) (k n:Nat) (vals:List Value) (H:Heap) (K:Xit → Env → Heap → Option R):Option R:=pkthead_State_passesFit_aa2 (pkthead_State_passesFit_p2 k) n vals H K
def pkthead_State_passesFit_Jt {R:Type} (k:Nat) (pkthead_State_passesFit_l0:pkthead_State_passesFit_l0_t R) (pkthead_State_passesFit_p1:pkthead_State_passesFit_p1_t R) (pkthead_State_passesFit_p2:pkthead_State_passesFit_p2_t R):JTab R:=tcons 0 (pkthead_State_passesFit_aa0 pkthead_State_passesFit_l0 k) <| tcons 1 (pkthead_State_passesFit_aa1 pkthead_State_passesFit_p1 k) <| tcons 2 (pkthead_State_passesFit_aa2 pkthead_State_passesFit_p2 k) <| fun _ _ _ _ => none
def pkthead_State_passesFit_J (R:Type) (k:Nat):JTab R:=pkthead_State_passesFit_Jt k (pkthead_State_passesFit_l0 k) (pkthead_State_passesFit_p1 k) (pkthead_State_passesFit_p2 k)
def pkthead_State_passesFit_at:AT:=(.seq (.reg [0,1] []) (.seq (.seq (.reg [0,1,11,12,13] []) (.node (.opq 0 [0,1,11,12,13] ⟨[],[(0,[])],[4]⟩ (.node (.seq (.reg [0,1,11,12,13,14] []) (.seq (.cond .leaf .leaf) (.seq (.opq 1 [0,1,11,12,13] ⟨[0,1,11,12,13],[],[4]⟩ (.node (.seq (.reg [0,1,5,6,11,12,13] []) (.seq (.reg [0,1,6,7,11,12,13] []) (.seq (.opq 2 [0,1,6,7,11,12,13] ⟨[0,1,6,7,11,12,13],[],[4]⟩ (.seq (.reg [0,1,6,7,11,12,13,52] [[],[0],[0,1],[0,1,2],[0,1,2,3],[0,1,2,3,4],[0,1,2,3,4,5],[0,1,2,3,4,5,6],[0,1,2,3,4,5,6,7],[0,1,2,3,4,5,6,7,8],[0,1,2,3,4,5,6,7],[0,1,2,3,4,5,6,7,10],[0,1,2,3,4,5,6,7,10,11],[0,1,2,3,4,5,6,7,10,11,12],[0,1,2,3,4,5,6,7,8,9,10,11,12,13],[0,1,2,3,4,5,6,7,8,9,10,11,12,13,14],[0,1,2,3,4,5,6,7,8,9,10,11,12,13,14,15],[0,1,2,3,4,5,6,7,8,9,10,11,12,13,14,15,16],[0,1,2,3,4,5,6,7,8,9,10,11,12,13,14,15,16,17],[0,1,2,3,4,5,6,7,8,9,10,11,12,13,14,15,16,17,18],[0,1,2,3,4,5,6,7,8,9,10,11,12,13,14,15,16,17,18,19],[0,1,2,3,4,5,6,7,8,9,10,11,12,13,14,15,16,17,18,19,20],[0,1,2,3,4,5,6,7,8,9,10,11,12,13,14,15,16,17,18,19,20,21],[0,1,2,3,4,5,6,7,8,9,10,11,12,13,14,15,16,17,18,19,20,21,22],[0,1,2,3,4,5,6,7,8,9,10,11,12,13,14,15,16,17,18,19,20,21],[0,1,2,3,4,5,6,7,8,9,10,11,12,13,14,15,16,17,18,19,20,21,24],[0,1,2,3,4,5,6,7,8,9,10,11,12,13,14,15,16,17,18,19,20,21,24,25],[0,1,2,3,4,5,6,7,8,9,10,11,12,13,14,15,16,17,18,19,20,21,24,25,26],[0,1,2,3,4,5,6,7,8,9,10,11,12,13,14,15,16,17,18,19,20,21,22,23,24,25,26,27],[0,1,2,3,4,5,6,7,8,9,10,11,12,13,14,15,16,17,18,19,20,21,22,23,24,25,26,27,28],[0,1,2,3,4,5,6,7,8,9,10,11,12,13,14,15,16,17,18,19,20,21,22,23,24,25,26,27,28,29]]) (.cond (.seq (.reg [4] []) .leaf) .leaf))) (.seq (.reg [0,1,11,12,13,74] []) (.cond (.seq (.reg [4] []) .leaf) .leaf))))))) (.reg [0,1,11,12,13] [])))))))) (.seq (.reg [4] []) .leaf)))
def pkthead_State_passesFit_i2:IC:=(.seq (.reg [⟨some 22,.fad 1 (.t 7),none⟩,
⟨some 23,.ld (.sc (.int .i64)) (.t 22),none⟩,
⟨some 24,.cmp .lss (.t 23) (.c (Go.Value.int Go.IntKind.i64 0)),none⟩,
⟨some 25,.mov (.t 24),none⟩,
⟨some 26,.fad 1 (.t 7),some (25,false)⟩,
⟨some 27,.ld (.sc (.int .i64)) (.t 26),some (25,false)⟩,
⟨some 28,.cmp .eql (.t 27) (.c (Go.Value.int Go.IntKind.i64 0)),some (25,false)⟩,
⟨some 29,.mov (.t 28),some (25,false)⟩,
⟨some 30,.fad 8 (.t 6),some (29,true)⟩,
⟨some 31,.ld (.sc (.int .i64)) (.t 30),some (29,true)⟩,
⟨some 32,.mov (.t 0),some (29,true)⟩,
⟨some 33,.nilc (.t 32),some (29,true)⟩,
⟨some 34,.fad 10 (.t 33),some (29,true)⟩,
⟨some 35,.ld (.sc (.int .i64)) (.t 34),some (29,true)⟩,
⟨some 36,.cmp .eql (.t 31) (.t 35),some (29,true)⟩,
⟨some 37,.pick (.t 29) (.t 36) (.c (Go.Value.bool false)),some (25,false)⟩,
⟨some 38,.pick (.t 25) (.c (Go.Value.bool true)) (.t 37),none⟩,
⟨some 39,.mov (.t 38),none⟩,
⟨some 40,.fad 1 (.t 7),some (39,false)⟩,
⟨some 41,.ld (.sc (.int .i64)) (.t 40),some (39,false)⟩,
⟨some 42,.cmp .gtr (.t 41) (.c (Go.Value.int Go.IntKind.i64 0)),some (39,false)⟩,
⟨some 43,.mov (.t 42),some (39,false)⟩,
⟨some 44,.fad 8 (.t 6),some (43,true)⟩,
⟨some 45,.ld (.sc (.int .i64)) (.t 44),some (43,true)⟩,
⟨some 46,.mov (.t 0),some (43,true)⟩,
⟨some 47,.nilc (.t 46),some (43,true)⟩,
⟨some 48,.fad 10 (.t 47),some (43,true)⟩,
⟨some 49,.ld (.sc (.int .i64)) (.t 48),some (43,true)⟩,
⟨some 50,.cmp .gtr (.t 45) (.t 49),some (43,true)⟩,
⟨some 51,.pick (.t 43) (.t 50) (.c (Go.Value.bool false)),some (39,false)⟩,
⟨some 52,.pick (.t 39) (.c (Go.Value.bool true)) (.t 51),none⟩] [0,1,6,7,11,12,13,52]) (.cond (.t 52) (.seq (.reg [⟨some 4,.mov (.c (Go.Value.bool false)),none⟩] [4]) .ret) .skip))
def pkthead_State_passesFit_i1:IC:=(.block 1 (.seq (.reg [⟨some 15,.mov (.t 13),none⟩,
⟨some 16,.ids 10 (.t 11) (.t 13),none⟩,
⟨some 17,.ld (.agg [(.int .i64),(.int .i64),(.int .i64),.bool,(.int .i64),(.int .i64),(.int .i64),(.int .i64),(.int .i64),(.int .i64)]) (.t 16),none⟩,
⟨some 6,.alc [.int .i64 0,.int .i64 0,.int .i64 0,.bool false,.int .i64 0,.int .i64 0,.int .i64 0,.int .i64 0,.int .i64 0,.int .i64 0],none⟩,
⟨some 5,.mov (.t 15),none⟩,
⟨none,.st 10 (.t 6) (.t 17),none⟩] [0,1,5,6,11,12,13]) (.seq (.reg [⟨some 18,.mov (.t 1),none⟩,
⟨some 19,.mov (.t 5),none⟩,
⟨some 20,.ids 3 (.t 18) (.t 19),none⟩,
⟨some 21,.ld (.agg [(.int .i64),(.int .i64),.slc]) (.t 20),none⟩,
⟨some 7,.alc [.int .i64 0,.int .i64 0,.slice none 0 0],none⟩,
⟨none,.st 3 (.t 7) (.t 21),none⟩] [0,1,6,7,11,12,13]) (.seq (.opq 2 [0,1,6,7,11,12,13] pkthead_State_passesFit_i2) (.seq (.reg [⟨some 53,.fad 1 (.t 7),none⟩,
⟨some 54,.ld (.sc (.int .i64)) (.t 53),none⟩,
⟨some 55,.cmp .gtr (.t 54) (.c (Go.Value.int Go.IntKind.i64 0)),none⟩,
⟨some 56,.mov (.t 55),none⟩,
⟨some 57,.fad 0 (.t 7),some (56,true)⟩,
⟨some 58,.ld (.sc (.int .i64)) (.t 57),some (56,true)⟩,
⟨some 59,.fad 9 (.t 6),some (56,true)⟩,
⟨some 60,.ld (.sc (.int .i64)) (.t 59),some (56,true)⟩,
⟨some 61,.cmp .neq (.t 58) (.t 60),some (56,true)⟩,
⟨some 62,.mov (.t 61),some (56,true)⟩,
⟨some 63,.fad 1 (.t 7),some (62,false)⟩,
⟨some 64,.ld (.sc (.int .i64)) (.t 63),some (62,false)⟩,
⟨some 65,.fad 9 (.t 6),some (62,false)⟩,
⟨some 66,.ld (.sc (.int .i64)) (.t 65),some (62,false)⟩,
⟨some 67,.bin .mul .i64 (.c (Go.Value.int Go.IntKind.i64 3)) (.t 66),some (62,false)⟩,
⟨some 68,.bin .sub .i64 (.t 67) (.c (Go.Value.int Go.IntKind.i64 2)),some (62,false)⟩,
⟨some 69,.fad 5 (.t 6),some (62,false)⟩,
⟨some 70,.ld (.sc (.int .i64)) (.t 69),some (62,false)⟩,
⟨some 71,.bin .sub .i64 (.t 68) (.t 70),some (62,false)⟩,
⟨some 72,.cmp .gtr (.t 64) (.t 71),some (62,false)⟩,
⟨some 73,.pick (.t 62) (.c (Go.Value.bool true)) (.t 72),some (56,true)⟩,
⟨some 74,.pick (.t 56) (.t 73) (.c (Go.Value.bool false)),none⟩] [0,1,11,12,13,74]) (.cond (.t 74) (.seq (.reg [⟨some 4,.mov (.c (Go.Value.bool false)),none⟩] [4]) .ret) .skip))))))
def pkthead_State_passesFit_i0:IC:=(.seq (.reg [⟨some 14,.cmp .lss (.t 13) (.t 12),none⟩] [0,1,11,12,13,14]) (.seq (.cond (.t 14) .skip (.exit 0)) (.seq (.opq 1 [0,1,11,12,13] pkthead_State_passesFit_i1) (.reg [⟨some 75,.bin .add .i64 (.t 13) (.c (Go.Value.int Go.IntKind.i64 1)),none⟩,
⟨some 13,.mov (.t 75),none⟩] [0,1,11,12,13]))))
def pkthead_State_passesFit_f:IFn:=⟨76,[.t 4],(.seq (.reg [⟨some 4,.mov (.c (Go.Value.bool false)),none⟩] [0,1]) (.seq (.seq (.reg [⟨some 8,.mov (.t 0),none⟩,
⟨some 9,.nilc (.t 8),none⟩,
⟨some 10,.fad 9 (.t 9),none⟩,
⟨some 11,.ld (.sc .slc) (.t 10),none⟩,
⟨some 12,.len false (.t 11),none⟩,
⟨some 13,.mov (.c (Go.Value.int Go.IntKind.i64 0)),none⟩] [0,1,11,12,13]) (.block 0 (.opq 0 [0,1,11,12,13] (.loop pkthead_State_passesFit_i0)))) (.seq (.reg [⟨some 4,.mov (.c (Go.Value.bool true)),none⟩] [4]) .ret)))⟩
theorem pkthead_State_passesFit_e2 {R:Type} (pkthead_State_passesFit_l0:pkthead_State_passesFit_l0_t R) (pkthead_State_passesFit_p1:pkthead_State_passesFit_p1_t R) (pkthead_State_passesFit_p2:pkthead_State_passesFit_p2_t R) (k:Nat) (p558:Oa) (q559:Oa) (l560:Nat) (c561:Nat) (p562:Oa) (p563:Oa) (q564:Oa) (l565:Nat) (c566:Nat) (n567:Int) (n568:Int) (H:Heap) (K:Xit → Env → Heap → Option R):evJ (pkthead_State_passesFit_Ct) (pkthead_State_passesFit_Jt k pkthead_State_passesFit_l0 pkthead_State_passesFit_p1 pkthead_State_passesFit_p2) pkthead_State_passesFit_i2 (List.zip [0,1,6,7,11,12,13] [.pointer p558,.slice q559 l560 c561,.pointer p562,.pointer p563,.slice q564 l565 c566,.int .i64 n567,.int .i64 n568]) H (fun x e' H' => K x (clean e' ((⟨[0,1,6,7,11,12,13],[],[4]⟩:Out).of x)) H') = pkthead_State_passesFit_p2_b k p558 q559 l560 c561 p562 p563 q564 l565 c566 n567 n568 H (fun p1277 q1278 l1279 c1280 p1281 p1282 q1283 l1284 c1285 n1286 n1287 => K .normal [(0,.pointer p1277),(1,.slice q1278 l1279 c1280),(6,.pointer p1281),(7,.pointer p1282),(11,.slice q1283 l1284 c1285),(12,.int .i64 n1286),(13,.int .i64 n1287)] H) (fun t1288 => K .ret [(4,.bool t1288)] H):=by kernel_rfl
theorem pkthead_State_passesFit_j2 {R:Type} (k:Nat):JS Try.prog 76 (pkthead_State_passesFit_a2 R k k) [0,1,6,7,11,12,13] ⟨[0,1,6,7,11,12,13],[],[4]⟩ (sel [1,0,1,0,0,1,1,0,0,1,1,0] (Try.f57.body.getD .skip)) :=
  piece_ok (nt:=76) (c:=(sel [1,0,1,0,0,1,1,0,0,1,1,0] (Try.f57.body.getD .skip))) (C:=pkthead_State_passesFit_C R k) (an:=An) (t:=(.seq (.reg [0,1,6,7,11,12,13,52] [[],[0],[0,1],[0,1,2],[0,1,2,3],[0,1,2,3,4],[0,1,2,3,4,5],[0,1,2,3,4,5,6],[0,1,2,3,4,5,6,7],[0,1,2,3,4,5,6,7,8],[0,1,2,3,4,5,6,7],[0,1,2,3,4,5,6,7,10],[0,1,2,3,4,5,6,7,10,11],[0,1,2,3,4,5,6,7,10,11,12],[0,1,2,3,4,5,6,7,8,9,10,11,12,13],[0,1,2,3,4,5,6,7,8,9,10,11,12,13,14],[0,1,2,3,4,5,6,7,8,9,10,11,12,13,14,15],[0,1,2,3,4,5,6,7,8,9,10,11,12,13,14,15,16],[0,1,2,3,4,5,6,7,8,9,10,11,12,13,14,15,16,17],[0,1,2,3,4,5,6,7,8,9,10,11,12,13,14,15,16,17,18],[0,1,2,3,4,5,6,7,8,9,10,11,12,13,14,15,16,17,18,19],[0,1,2,3,4,5,6,7,8,9,10,11,12,13,14,15,16,17,18,19,20],[0,1,2,3,4,5,6,7,8,9,10,11,12,13,14,15,16,17,18,19,20,21],[0,1,2,3,4,5,6,7,8,9,10,11,12,13,14,15,16,17,18,19,20,21,22],[0,1,2,3,4,5,6,7,8,9,10,11,12,13,14,15,16,17,18,19,20,21],[0,1,2,3,4,5,6,7,8,9,10,11,12,13,14,15,16,17,18,19,20,21,24],[0,1,2,3,4,5,6,7,8,9,10,11,12,13,14,15,16,17,18,19,20,21,24,25],[0,1,2,3,4,5,6,7,8,9,10,11,12,13,14,15,16,17,18,19,20,21,24,25,26],[0,1,2,3,4,5,6,7,8,9,10,11,12,13,14,15,16,17,18,19,20,21,22,23,24,25,26,27],[0,1,2,3,4,5,6,7,8,9,10,11,12,13,14,15,16,17,18,19,20,21,22,23,24,25,26,27,28],[0,1,2,3,4,5,6,7,8,9,10,11,12,13,14,15,16,17,18,19,20,21,22,23,24,25,26,27,28,29]]) (.cond (.seq (.reg [4] []) .leaf) .leaf))) (ic:=pkthead_State_passesFit_i2) (pkthead_State_passesFit_S R k) (pkthead_State_passesFit_J R k) (by kernel_rfl) (And.intro True.intro (And.intro (And.intro True.intro True.intro) True.intro)) (pkthead_State_passesFit_a2 R k k)
    (fun vals H K r h => by
      unfold pkthead_State_passesFit_a2 pkthead_State_passesFit_aa2 at h
      split at h <;> first | (cases h; done) | exact Eq.trans (pkthead_State_passesFit_e2 (pkthead_State_passesFit_l0 k) (pkthead_State_passesFit_p1 k) (pkthead_State_passesFit_p2 k) k _ _ _ _ _ _ _ _ _ _ _ H K) h)
theorem pkthead_State_passesFit_e1 {R:Type} (pkthead_State_passesFit_l0:pkthead_State_passesFit_l0_t R) (pkthead_State_passesFit_p1:pkthead_State_passesFit_p1_t R) (pkthead_State_passesFit_p2:pkthead_State_passesFit_p2_t R) (k:Nat) (p526:Oa) (q527:Oa) (l528:Nat) (c529:Nat) (q530:Oa) (l531:Nat) (c532:Nat) (n533:Int) (n534:Int) (H:Heap) (K:Xit → Env → Heap → Option R):evJ (pkthead_State_passesFit_Ct) (pkthead_State_passesFit_Jt k pkthead_State_passesFit_l0 pkthead_State_passesFit_p1 pkthead_State_passesFit_p2) pkthead_State_passesFit_i1 (List.zip [0,1,11,12,13] [.pointer p526,.slice q527 l528 c529,.slice q530 l531 c532,.int .i64 n533,.int .i64 n534]) H (fun x e' H' => K x (clean e' ((⟨[0,1,11,12,13],[],[4]⟩:Out).of x)) H') = pkthead_State_passesFit_p1_b pkthead_State_passesFit_p2 k p526 q527 l528 c529 q530 l531 c532 n533 n534 H (fun p1267 q1268 l1269 c1270 q1271 l1272 c1273 n1274 n1275 H => K .normal [(0,.pointer p1267),(1,.slice q1268 l1269 c1270),(11,.slice q1271 l1272 c1273),(12,.int .i64 n1274),(13,.int .i64 n1275)] H) (fun t1276 H => K .ret [(4,.bool t1276)] H):=by kernel_rfl
theorem pkthead_State_passesFit_j1 {R:Type} (k:Nat):JS Try.prog 76 (pkthead_State_passesFit_a1 R k k) [0,1,11,12,13] ⟨[0,1,11,12,13],[],[4]⟩ (sel [1,0,1,0,0,1,1,0] (Try.f57.body.getD .skip)) :=
  piece_ok (nt:=76) (c:=(sel [1,0,1,0,0,1,1,0] (Try.f57.body.getD .skip))) (C:=pkthead_State_passesFit_C R k) (an:=An) (t:=(.node (.seq (.reg [0,1,5,6,11,12,13] []) (.seq (.reg [0,1,6,7,11,12,13] []) (.seq (.opq 2 [0,1,6,7,11,12,13] ⟨[0,1,6,7,11,12,13],[],[4]⟩ (.seq (.reg [0,1,6,7,11,12,13,52] [[],[0],[0,1],[0,1,2],[0,1,2,3],[0,1,2,3,4],[0,1,2,3,4,5],[0,1,2,3,4,5,6],[0,1,2,3,4,5,6,7],[0,1,2,3,4,5,6,7,8],[0,1,2,3,4,5,6,7],[0,1,2,3,4,5,6,7,10],[0,1,2,3,4,5,6,7,10,11],[0,1,2,3,4,5,6,7,10,11,12],[0,1,2,3,4,5,6,7,8,9,10,11,12,13],[0,1,2,3,4,5,6,7,8,9,10,11,12,13,14],[0,1,2,3,4,5,6,7,8,9,10,11,12,13,14,15],[0,1,2,3,4,5,6,7,8,9,10,11,12,13,14,15,16],[0,1,2,3,4,5,6,7,8,9,10,11,12,13,14,15,16,17],[0,1,2,3,4,5,6,7,8,9,10,11,12,13,14,15,16,17,18],[0,1,2,3,4,5,6,7,8,9,10,11,12,13,14,15,16,17,18,19],[0,1,2,3,4,5,6,7,8,9,10,11,12,13,14,15,16,17,18,19,20],[0,1,2,3,4,5,6,7,8,9,10,11,12,13,14,15,16,17,18,19,20,21],[0,1,2,3,4,5,6,7,8,9,10,11,12,13,14,15,16,17,18,19,20,21,22],[0,1,2,3,4,5,6,7,8,9,10,11,12,13,14,15,16,17,18,19,20,21],[0,1,2,3,4,5,6,7,8,9,10,11,12,13,14,15,16,17,18,19,20,21,24],[0,1,2,3,4,5,6,7,8,9,10,11,12,13,14,15,16,17,18,19,20,21,24,25],[0,1,2,3,4,5,6,7,8,9,10,11,12,13,14,15,16,17,18,19,20,21,24,25,26],[0,1,2,3,4,5,6,7,8,9,10,11,12,13,14,15,16,17,18,19,20,21,22,23,24,25,26,27],[0,1,2,3,4,5,6,7,8,9,10,11,12,13,14,15,16,17,18,19,20,21,22,23,24,25,26,27,28],[0,1,2,3,4,5,6,7,8,9,10,11,12,13,14,15,16,17,18,19,20,21,22,23,24,25,26,27,28,29]]) (.cond (.seq (.reg [4] []) .leaf) .leaf))) (.seq (.reg [0,1,11,12,13,74] []) (.cond (.seq (.reg [4] []) .leaf) .leaf))))))) (ic:=pkthead_State_passesFit_i1) (pkthead_State_passesFit_S R k) (pkthead_State_passesFit_J R k) (by kernel_rfl) (And.intro True.intro (And.intro True.intro (And.intro (pkthead_State_passesFit_j2 k) (And.intro True.intro (And.intro (And.intro True.intro True.intro) True.intro))))) (pkthead_State_passesFit_a1 R k k)
    (fun vals H K r h => by
      unfold pkthead_State_passesFit_a1 pkthead_State_passesFit_aa1 at h
      split at h <;> first | (cases h; done) | exact Eq.trans (pkthead_State_passesFit_e1 (pkthead_State_passesFit_l0 k) (pkthead_State_passesFit_p1 k) (pkthead_State_passesFit_p2 k) k _ _ _ _ _ _ _ _ _ H K) h)
theorem pkthead_State_passesFit_e0 {R:Type} (pkthead_State_passesFit_l0:pkthead_State_passesFit_l0_t R) (pkthead_State_passesFit_p1:pkthead_State_passesFit_p1_t R) (pkthead_State_passesFit_p2:pkthead_State_passesFit_p2_t R) (k n:Nat) (p517:Oa) (q518:Oa) (l519:Nat) (c520:Nat) (q521:Oa) (l522:Nat) (c523:Nat) (n524:Int) (n525:Int) (H:Heap) (K:Xit → Env → Heap → Option R):evJ (pkthead_State_passesFit_Ct) (pkthead_State_passesFit_Jt k pkthead_State_passesFit_l0 pkthead_State_passesFit_p1 pkthead_State_passesFit_p2) pkthead_State_passesFit_i0 (List.zip [0,1,11,12,13] [.pointer p517,.slice q518 l519 c520,.slice q521 l522 c523,.int .i64 n524,.int .i64 n525]) H (fun x e' H' => match x with | .normal => pkthead_State_passesFit_aa0 pkthead_State_passesFit_l0 n ((clean e' [0,1,11,12,13]).map (·.2)) H' K | x => K x (clean e' ((⟨[],[(0,[])],[4]⟩:Out).of x)) H') = pkthead_State_passesFit_l0_b pkthead_State_passesFit_p1 (pkthead_State_passesFit_l0 (fun H => K (.exit 0) [] H) (fun t1266 H => K .ret [(4,.bool t1266)] H) n) (fun H => K (.exit 0) [] H) (fun t1266 H => K .ret [(4,.bool t1266)] H) k p517 q518 l519 c520 q521 l522 c523 n524 n525 H:=by kernel_rfl
theorem pkthead_State_passesFit_j0 {R:Type} (k:Nat):JS Try.prog 76 (pkthead_State_passesFit_a0 R k k) [0,1,11,12,13] ⟨[],[(0,[])],[4]⟩ (.loop (sel [1,0,1,0,0] (Try.f57.body.getD .skip))) :=
  loop_ok (nt:=76) (c:=(sel [1,0,1,0,0] (Try.f57.body.getD .skip))) (C:=pkthead_State_passesFit_C R k) (an:=An) (t:=(.seq (.reg [0,1,11,12,13,14] []) (.seq (.cond .leaf .leaf) (.seq (.opq 1 [0,1,11,12,13] ⟨[0,1,11,12,13],[],[4]⟩ (.node (.seq (.reg [0,1,5,6,11,12,13] []) (.seq (.reg [0,1,6,7,11,12,13] []) (.seq (.opq 2 [0,1,6,7,11,12,13] ⟨[0,1,6,7,11,12,13],[],[4]⟩ (.seq (.reg [0,1,6,7,11,12,13,52] [[],[0],[0,1],[0,1,2],[0,1,2,3],[0,1,2,3,4],[0,1,2,3,4,5],[0,1,2,3,4,5,6],[0,1,2,3,4,5,6,7],[0,1,2,3,4,5,6,7,8],[0,1,2,3,4,5,6,7],[0,1,2,3,4,5,6,7,10],[0,1,2,3,4,5,6,7,10,11],[0,1,2,3,4,5,6,7,10,11,12],[0,1,2,3,4,5,6,7,8,9,10,11,12,13],[0,1,2,3,4,5,6,7,8,9,10,11,12,13,14],[0,1,2,3,4,5,6,7,8,9,10,11,12,13,14,15],[0,1,2,3,4,5,6,7,8,9,10,11,12,13,14,15,16],[0,1,2,3,4,5,6,7,8,9,10,11,12,13,14,15,16,17],[0,1,2,3,4,5,6,7,8,9,10,11,12,13,14,15,16,17,18],[0,1,2,3,4,5,6,7,8,9,10,11,12,13,14,15,16,17,18,19],[0,1,2,3,4,5,6,7,8,9,10,11,12,13,14,15,16,17,18,19,20],[0,1,2,3,4,5,6,7,8,9,10,11,12,13,14,15,16,17,18,19,20,21],[0,1,2,3,4,5,6,7,8,9,10,11,12,13,14,15,16,17,18,19,20,21,22],[0,1,2,3,4,5,6,7,8,9,10,11,12,13,14,15,16,17,18,19,20,21],[0,1,2,3,4,5,6,7,8,9,10,11,12,13,14,15,16,17,18,19,20,21,24],[0,1,2,3,4,5,6,7,8,9,10,11,12,13,14,15,16,17,18,19,20,21,24,25],[0,1,2,3,4,5,6,7,8,9,10,11,12,13,14,15,16,17,18,19,20,21,24,25,26],[0,1,2,3,4,5,6,7,8,9,10,11,12,13,14,15,16,17,18,19,20,21,22,23,24,25,26,27],[0,1,2,3,4,5,6,7,8,9,10,11,12,13,14,15,16,17,18,19,20,21,22,23,24,25,26,27,28],[0,1,2,3,4,5,6,7,8,9,10,11,12,13,14,15,16,17,18,19,20,21,22,23,24,25,26,27,28,29]]) (.cond (.seq (.reg [4] []) .leaf) .leaf))) (.seq (.reg [0,1,11,12,13,74] []) (.cond (.seq (.reg [4] []) .leaf) .leaf))))))) (.reg [0,1,11,12,13] []))))) (ic:=pkthead_State_passesFit_i0) (pkthead_State_passesFit_S R k) (pkthead_State_passesFit_J R k) (by kernel_rfl) (And.intro True.intro (And.intro (And.intro True.intro True.intro) (And.intro (pkthead_State_passesFit_j1 k) True.intro))) (pkthead_State_passesFit_a0 R k) (fun vals H K => by unfold pkthead_State_passesFit_a0 pkthead_State_passesFit_aa0; split <;> rfl)
    (fun n vals H K r h => by
      unfold pkthead_State_passesFit_a0 pkthead_State_passesFit_aa0 at h
      split at h <;> first | (cases h; done) | exact Eq.trans (pkthead_State_passesFit_e0 (pkthead_State_passesFit_l0 k) (pkthead_State_passesFit_p1 k) (pkthead_State_passesFit_p2 k) k n _ _ _ _ _ _ _ _ _ H K) h) k
def pkthead_State_passesFit_ca {R:Type} (f:pkthead_State_passesFit_t R) (args:List Value) (H:Heap) (K:Value → Heap → Option R):Option R :=
  match args with
  | [.pointer p508,.slice q509 l510 c511] => f p508 q509 l510 c511 H (fun t1289 H => K (.bool t1289) H)
  | _ => none
def pkthead_State_passesFit_c (R:Type) (k:Nat) (args:List Value) (H:Heap) (K:Value → Heap → Option R):Option R:=pkthead_State_passesFit_ca (pkthead_State_passesFit k) args H K
theorem pkthead_State_passesFit_e {R:Type} (pkthead_State_passesFit_l0:pkthead_State_passesFit_l0_t R) (pkthead_State_passesFit_p1:pkthead_State_passesFit_p1_t R) (pkthead_State_passesFit_p2:pkthead_State_passesFit_p2_t R) (k:Nat) (p508:Oa) (q509:Oa) (l510:Nat) (c511:Nat) (H:Heap) (K:Value → Heap → Option R):evF (pkthead_State_passesFit_Ct) (pkthead_State_passesFit_Jt k pkthead_State_passesFit_l0 pkthead_State_passesFit_p1 pkthead_State_passesFit_p2) pkthead_State_passesFit_f [.pointer p508,.slice q509 l510 c511] H K = pkthead_State_passesFit_b pkthead_State_passesFit_l0 k p508 q509 l510 c511 H (fun t1289 H => K (.bool t1289) H):=by kernel_rfl
theorem pkthead_State_passesFit_cs (R:Type) (k:Nat):∀ args H K r,pkthead_State_passesFit_c R k args H K = some r → ∃ v H',Tri Try.prog 57 args H v H' ∧ K v H' = some r:=by
  intro args H K r h
  unfold pkthead_State_passesFit_c pkthead_State_passesFit_ca at h
  split at h
  · exact evF_ok (C:=pkthead_State_passesFit_C R k) (an:=An) (t:=pkthead_State_passesFit_at) (fn:=Try.f57) (c:=(Try.f57.body.getD .skip)) (ifn:=pkthead_State_passesFit_f) (pkthead_State_passesFit_S R k) (pkthead_State_passesFit_J R k) Try.func57 (by kernel_rfl) (by kernel_rfl) (And.intro True.intro (And.intro (And.intro True.intro (pkthead_State_passesFit_j0 k)) (And.intro True.intro True.intro))) rfl (Eq.trans (pkthead_State_passesFit_e (pkthead_State_passesFit_l0 k) (pkthead_State_passesFit_p1 k) (pkthead_State_passesFit_p2 k) k _ _ _ _ H K) h)
  · cases h
abbrev cblk_Segments_p0_t (R:Type):Type:=Int → Oa → (Int → Oa → Option R) → (Oa → Nat → Nat → Option R) → Option R
def cblk_Segments_p0_b {R:Type} (k:Nat) (n736:Int) (p737:Oa) (KN:Int → Oa → Option R) (KR:Oa → Nat → Nat → Option R):Option R :=
bif decide (n736 < 1) then (KR none 0 0)
 else (bif decide (n736 > 178) then (KR none 0 0)
 else (KN n736 p737))
def cblk_Segments_p0 {R:Type} (k:Nat) (n736:Int) (p737:Oa) (KN:Int → Oa → Option R) (KR:Oa → Nat → Nat → Option R):Option R:=cblk_Segments_p0_b k n736 p737 KN KR
abbrev cblk_Segments_p1_t (R:Type):Type:=Int → Oa → Oa → Nat → Nat → Int → Heap → (Int → Oa → Oa → Nat → Nat → Int → Option R) → Option R
def cblk_Segments_p1_b {R:Type} (k:Nat) (n745:Int) (p746:Oa) (q747:Oa) (l748:Nat) (c749:Nat) (n750:Int) (H:Heap) (KN:Int → Oa → Oa → Nat → Nat → Int → Option R):Option R :=
hfad 0 p746 fun p751 =>
ldB H p751 fun t752 =>
bif t752 then (KN n745 p746 q747 l748 c749 10)
 else (KN n745 p746 q747 l748 c749 n750)
def cblk_Segments_p1 {R:Type} (k:Nat) (n745:Int) (p746:Oa) (q747:Oa) (l748:Nat) (c749:Nat) (n750:Int) (H:Heap) (KN:Int → Oa → Oa → Nat → Nat → Int → Option R):Option R:=cblk_Segments_p1_b k n745 p746 q747 l748 c749 n750 H KN
abbrev cblk_Segments_p2_t (R:Type):Type:=Int → Oa → Oa → Nat → Nat → Int → Heap → (Int → Oa → Oa → Nat → Nat → Int → Option R) → Option R
def cblk_Segments_p2_b {R:Type} (k:Nat) (n765:Int) (p766:Oa) (q767:Oa) (l768:Nat) (c769:Nat) (n770:Int) (H:Heap) (KN:Int → Oa → Oa → Nat → Nat → Int → Option R):Option R :=
hfad 1 p766 fun p771 =>
ldB H p771 fun t772 =>
bif t772 then (KN n765 p766 q767 l768 c769 1)
 else (KN n765 p766 q767 l768 c769 n770)
def cblk_Segments_p2 {R:Type} (k:Nat) (n765:Int) (p766:Oa) (q767:Oa) (l768:Nat) (c769:Nat) (n770:Int) (H:Heap) (KN:Int → Oa → Oa → Nat → Nat → Int → Option R):Option R:=cblk_Segments_p2_b k n765 p766 q767 l768 c769 n770 H KN
abbrev cblk_Segments_p4_t (R:Type):Type:=Oa → Oa → Nat → Nat → Int → Int → Heap → (Oa → Oa → Nat → Nat → Int → Int → Bool → Option R) → Option R
def cblk_Segments_p4_b {R:Type} (k:Nat) (p797:Oa) (q798:Oa) (l799:Nat) (c800:Nat) (n801:Int) (n802:Int) (H:Heap) (KN:Oa → Oa → Nat → Nat → Int → Int → Bool → Option R):Option R :=
hfad 0 p797 fun p803 =>
ldB H p803 fun t804 =>
bif t804 then (hfad 1 p797 fun p805 =>
ldB H p805 fun t806 =>
KN p797 q798 l799 c800 n801 n802 (!t806))
 else (KN p797 q798 l799 c800 n801 n802 false)
def cblk_Segments_p4 {R:Type} (k:Nat) (p797:Oa) (q798:Oa) (l799:Nat) (c800:Nat) (n801:Int) (n802:Int) (H:Heap) (KN:Oa → Oa → Nat → Nat → Int → Int → Bool → Option R):Option R:=cblk_Segments_p4_b k p797 q798 l799 c800 n801 n802 H KN
abbrev cblk_Segments_l3_t (R:Type):Type:=(Oa → Nat → Nat → Heap → Option R) → Nat → Oa → Oa → Nat → Nat → Int → Int → Heap → Option R
def cblk_Segments_l3_b {R:Type} (cblk_Segments_p4:cblk_Segments_p4_t R) (rec:Oa → Oa → Nat → Nat → Int → Int → Heap → Option R) (KE0:Oa → Nat → Nat → Heap → Option R) (k:Nat) (p785:Oa) (q786:Oa) (l787:Nat) (c788:Nat) (n789:Int) (n790:Int) (H:Heap):Option R :=
bif decide (n790 > 0) then (hal H [.int .i64 (imn n789 n790)] fun p791 H792 =>
happS 1 8 H792 q786 l787 c788 p791 1 fun q793 l794 c795 H796 =>
cblk_Segments_p4 p785 q793 l794 c795 n789 (IntKind.wrap .i64 (n790 - (imn n789 n790))) H796 (fun p814 q815 l816 c817 n818 n819 t820 =>
bif t820 then (bif (n818 == 2) then (rec p814 q815 l816 c817 1 n819 H796)
 else (rec p814 q815 l816 c817 2 n819 H796))
 else (rec p814 q815 l816 c817 n818 n819 H796)))
 else (KE0 q786 l787 c788 H)
def cblk_Segments_l3 {R:Type} (k:Nat) (KE0:Oa → Nat → Nat → Heap → Option R):Nat → Oa → Oa → Nat → Nat → Int → Int → Heap → Option R
  | 0,_,_,_,_,_,_,_ => none
  | n + 1,p785,q786,l787,c788,n789,n790,H => cblk_Segments_l3_b (cblk_Segments_p4 k) (cblk_Segments_l3 k KE0 n) KE0 k p785 q786 l787 c788 n789 n790 H
abbrev cblk_Segments_t (R:Type):Type:=Int → Bool → Bool → Bool → Bool → Bool → Heap → (Oa → Nat → Nat → Heap → Option R) → Option R
def cblk_Segments_b {R:Type} (cblk_Segments_p0:cblk_Segments_p0_t R) (cblk_Segments_p1:cblk_Segments_p1_t R) (cblk_Segments_p2:cblk_Segments_p2_t R) (cblk_Segments_l3:cblk_Segments_l3_t R) (k:Nat) (n728:Int) (t729:Bool) (t730:Bool) (t731:Bool) (t732:Bool) (t733:Bool) (H:Heap) (K:Oa → Nat → Nat → Heap → Option R):Option R :=
hal H [.bool t729,.bool t730,.bool t731,.bool t732,.bool t733] fun p734 H735 =>
cblk_Segments_p0 n728 p734 (fun n743 p744 =>
cblk_Segments_p1 n743 p744 none 0 0 n743 H735 (fun n759 p760 q761 l762 c763 n764 =>
cblk_Segments_p2 n759 p760 q761 l762 c763 n764 H735 (fun n779 p780 q781 l782 c783 n784 =>
cblk_Segments_l3 (fun q824 l825 c826 H827 =>
K q824 l825 c826 H827) k p780 q781 l782 c783 n784 n779 H735))) (fun q828 l829 c830 =>
K q828 l829 c830 H735)
def cblk_Segments {R:Type} (k:Nat) (n728:Int) (t729:Bool) (t730:Bool) (t731:Bool) (t732:Bool) (t733:Bool) (H:Heap) (K:Oa → Nat → Nat → Heap → Option R):Option R:=cblk_Segments_b (cblk_Segments_p0 k) (cblk_Segments_p1 k) (cblk_Segments_p2 k) (cblk_Segments_l3 k) k n728 t729 t730 t731 t732 t733 H K
def cblk_Segments_Ct {R:Type}:Tab R:=fun _ _ _ _ => none
def cblk_Segments_C (R:Type) (k:Nat):Tab R:=cblk_Segments_Ct
theorem cblk_Segments_S (R:Type) (k:Nat):CSound Try.prog (cblk_Segments_C R k):=csound_nil
def cblk_Segments_aa0 {R:Type} (f:cblk_Segments_p0_t R) (n:Nat) (vals:List Value) (H:Heap) (K:Xit → Env → Heap → Option R):Option R :=
  match vals with
  | [.int .i64 n736,.pointer p737] => f n736 p737 (fun n1290 p1291 => K .normal [(0,.int .i64 n1290),(3,.pointer p1291)] H) (fun q1292 l1293 c1294 => K .ret [(4,.slice q1292 l1293 c1294)] H)
  | _ => none
def cblk_Segments_a0 (R:Type) (k n:Nat) (vals:List Value) (H:Heap) (K:Xit → Env → Heap → Option R):Option R:=cblk_Segments_aa0 (cblk_Segments_p0 k) n vals H K
def cblk_Segments_aa1 {R:Type} (f:cblk_Segments_p1_t R) (n:Nat) (vals:List Value) (H:Heap) (K:Xit → Env → Heap → Option R):Option R :=
  match vals with
  | [.int .i64 n745,.pointer p746,.slice q747 l748 c749,.int .i64 n750] => f n745 p746 q747 l748 c749 n750 H (fun n1295 p1296 q1297 l1298 c1299 n1300 => K .normal [(0,.int .i64 n1295),(3,.pointer p1296),(5,.slice q1297 l1298 c1299),(6,.int .i64 n1300)] H)
  | _ => none
def cblk_Segments_a1 (R:Type) (k n:Nat) (vals:List Value) (H:Heap) (K:Xit → Env → Heap → Option R):Option R:=cblk_Segments_aa1 (cblk_Segments_p1 k) n vals H K
def cblk_Segments_aa2 {R:Type} (f:cblk_Segments_p2_t R) (n:Nat) (vals:List Value) (H:Heap) (K:Xit → Env → Heap → Option R):Option R :=
  match vals with
  | [.int .i64 n765,.pointer p766,.slice q767 l768 c769,.int .i64 n770] => f n765 p766 q767 l768 c769 n770 H (fun n1301 p1302 q1303 l1304 c1305 n1306 => K .normal [(0,.int .i64 n1301),(3,.pointer p1302),(5,.slice q1303 l1304 c1305),(6,.int .i64 n1306)] H)
  | _ => none
def cblk_Segments_a2 (R:Type) (k n:Nat) (vals:List Value) (H:Heap) (K:Xit → Env → Heap → Option R):Option R:=cblk_Segments_aa2 (cblk_Segments_p2 k) n vals H K
def cblk_Segments_aa3 {R:Type} (f:cblk_Segments_l3_t R) (n:Nat) (vals:List Value) (H:Heap) (K:Xit → Env → Heap → Option R):Option R :=
  match vals with
  | [.pointer p785,.slice q786 l787 c788,.int .i64 n789,.int .i64 n790] => f (fun q1307 l1308 c1309 H => K (.exit 0) [(5,.slice q1307 l1308 c1309)] H) n p785 q786 l787 c788 n789 n790 H
  | _ => none
def cblk_Segments_a3 (R:Type) (k n:Nat) (vals:List Value) (H:Heap) (K:Xit → Env → Heap → Option R):Option R:=cblk_Segments_aa3 (cblk_Segments_l3 k) n vals H K
def cblk_Segments_aa4 {R:Type} (f:cblk_Segments_p4_t R) (n:Nat) (vals:List Value) (H:Heap) (K:Xit → Env → Heap → Option R):Option R :=
  match vals with
  | [.pointer p797,.slice q798 l799 c800,.int .i64 n801,.int .i64 n802] => f p797 q798 l799 c800 n801 n802 H (fun p1310 q1311 l1312 c1313 n1314 n1315 t1316 => K .normal [(3,.pointer p1310),(5,.slice q1311 l1312 c1313),(6,.int .i64 n1314),(7,.int .i64 n1315),(39,.bool t1316)] H)
  | _ => none
def cblk_Segments_a4 (R:Type) (k n:Nat) (vals:List Value) (H:Heap) (K:Xit → Env → Heap → Option R):Option R:=cblk_Segments_aa4 (cblk_Segments_p4 k) n vals H K
def cblk_Segments_Jt {R:Type} (k:Nat) (cblk_Segments_p0:cblk_Segments_p0_t R) (cblk_Segments_p1:cblk_Segments_p1_t R) (cblk_Segments_p2:cblk_Segments_p2_t R) (cblk_Segments_l3:cblk_Segments_l3_t R) (cblk_Segments_p4:cblk_Segments_p4_t R):JTab R:=tcons 0 (cblk_Segments_aa0 cblk_Segments_p0 k) <| tcons 1 (cblk_Segments_aa1 cblk_Segments_p1 k) <| tcons 2 (cblk_Segments_aa2 cblk_Segments_p2 k) <| tcons 3 (cblk_Segments_aa3 cblk_Segments_l3 k) <| tcons 4 (cblk_Segments_aa4 cblk_Segments_p4 k) <| fun _ _ _ _ => none
def cblk_Segments_J (R:Type) (k:Nat):JTab R:=cblk_Segments_Jt k (cblk_Segments_p0 k) (cblk_Segments_p1 k) (cblk_Segments_p2 k) (cblk_Segments_l3 k) (cblk_Segments_p4 k)
def cblk_Segments_at:AT:=(.seq (.reg [0,3] []) (.seq (.opq 0 [0,3] ⟨[0,3],[],[4]⟩ (.seq (.reg [0,3,14] []) (.cond (.seq (.reg [4] []) .leaf) .leaf))) (.seq (.reg [0,3,5] []) (.seq (.reg [0,3,5,6] []) (.seq (.opq 1 [0,3,5,6] ⟨[0,3,5,6],[],[]⟩ (.seq (.reg [0,3,5,6,17] []) (.cond (.reg [0,3,5,6] []) .leaf))) (.seq (.opq 2 [0,3,5,6] ⟨[0,3,5,6],[],[]⟩ (.seq (.reg [0,3,5,6,19] []) (.cond (.reg [0,3,5,6] []) .leaf))) (.seq (.seq (.reg [3,5,6,7] []) (.node (.opq 3 [3,5,6,7] ⟨[],[(0,[5])],[]⟩ (.node (.seq (.seq (.reg [3,5,6,7,22] []) (.cond .leaf .leaf)) (.node (.seq (.reg [3,5,6,7,8] []) (.seq (.reg [3,5,6,7,8] []) (.seq (.reg [3,5,6,7] []) (.seq (.opq 4 [3,5,6,7] ⟨[3,5,6,7,39],[],[]⟩ (.reg [3,5,6,7,39] [])) (.cond (.seq (.reg [3,5,7,41] []) (.cond (.reg [3,5,6,7] []) (.reg [3,5,6,7] []))) .leaf))))))))))) (.seq (.reg [4] []) .leaf))))))))
def cblk_Segments_i4:IC:=(.reg [⟨some 33,.fad 0 (.t 3),none⟩,
⟨some 34,.ld (.sc .bool) (.t 33),none⟩,
⟨some 35,.mov (.t 34),none⟩,
⟨some 36,.fad 1 (.t 3),some (35,true)⟩,
⟨some 37,.ld (.sc .bool) (.t 36),some (35,true)⟩,
⟨some 38,.lnot (.t 37),some (35,true)⟩,
⟨some 39,.pick (.t 35) (.t 38) (.c (Go.Value.bool false)),none⟩] [3,5,6,7,39])
def cblk_Segments_i3:IC:=(.seq (.seq (.reg [⟨some 21,.mov (.t 7),none⟩,
⟨some 22,.cmp .gtr (.t 21) (.c (Go.Value.int Go.IntKind.i64 0)),none⟩] [3,5,6,7,22]) (.cond (.t 22) .skip (.exit 0))) (.block 1 (.seq (.reg [⟨some 23,.mov (.t 6),none⟩,
⟨some 24,.mov (.t 7),none⟩,
⟨some 25,.mn (.t 23) (.t 24),none⟩,
⟨some 8,.mov (.t 25),none⟩] [3,5,6,7,8]) (.seq (.reg [⟨some 26,.mov (.t 5),none⟩,
⟨some 27,.mov (.t 8),none⟩,
⟨some 28,.bls 1 [.int .i64 0] [(0,1,(.t 27))],none⟩,
⟨some 29,.app [.int .i64 0] 8 (.t 26) (.t 28),none⟩,
⟨some 5,.mov (.t 29),none⟩] [3,5,6,7,8]) (.seq (.reg [⟨some 30,.mov (.t 7),none⟩,
⟨some 31,.mov (.t 8),none⟩,
⟨some 32,.bin .sub .i64 (.t 30) (.t 31),none⟩,
⟨some 7,.mov (.t 32),none⟩] [3,5,6,7]) (.seq (.opq 4 [3,5,6,7] cblk_Segments_i4) (.cond (.t 39) (.seq (.reg [⟨some 40,.mov (.t 6),none⟩,
⟨some 41,.cmp .eql (.t 40) (.c (Go.Value.int Go.IntKind.i64 2)),none⟩] [3,5,7,41]) (.cond (.t 41) (.reg [⟨some 6,.mov (.c (Go.Value.int Go.IntKind.i64 1)),none⟩] [3,5,6,7]) (.reg [⟨some 6,.mov (.c (Go.Value.int Go.IntKind.i64 2)),none⟩] [3,5,6,7]))) .skip)))))))
def cblk_Segments_i2:IC:=(.seq (.reg [⟨some 18,.fad 1 (.t 3),none⟩,
⟨some 19,.ld (.sc .bool) (.t 18),none⟩] [0,3,5,6,19]) (.cond (.t 19) (.reg [⟨some 6,.mov (.c (Go.Value.int Go.IntKind.i64 1)),none⟩] [0,3,5,6]) .skip))
def cblk_Segments_i1:IC:=(.seq (.reg [⟨some 16,.fad 0 (.t 3),none⟩,
⟨some 17,.ld (.sc .bool) (.t 16),none⟩] [0,3,5,6,17]) (.cond (.t 17) (.reg [⟨some 6,.mov (.c (Go.Value.int Go.IntKind.i64 10)),none⟩] [0,3,5,6]) .skip))
def cblk_Segments_i0:IC:=(.seq (.reg [⟨some 9,.mov (.t 0),none⟩,
⟨some 10,.cmp .lss (.t 9) (.c (Go.Value.int Go.IntKind.i64 1)),none⟩,
⟨some 11,.mov (.t 10),none⟩,
⟨some 12,.mov (.t 0),some (11,false)⟩,
⟨some 13,.cmp .gtr (.t 12) (.c (Go.Value.int Go.IntKind.i64 178)),some (11,false)⟩,
⟨some 14,.pick (.t 11) (.c (Go.Value.bool true)) (.t 13),none⟩] [0,3,14]) (.cond (.t 14) (.seq (.reg [⟨some 4,.mov (.c (Go.Value.slice none 0 0)),none⟩] [4]) .ret) .skip))
def cblk_Segments_f:IFn:=⟨43,[.t 4],(.seq (.reg [⟨some 3,.box (.t 1),none⟩,
⟨some 4,.mov (.c (Go.Value.slice none 0 0)),none⟩] [0,3]) (.seq (.opq 0 [0,3] cblk_Segments_i0) (.seq (.reg [⟨some 5,.mov (.c (Go.Value.slice none 0 0)),none⟩] [0,3,5]) (.seq (.reg [⟨some 15,.mov (.t 0),none⟩,
⟨some 6,.mov (.t 15),none⟩] [0,3,5,6]) (.seq (.opq 1 [0,3,5,6] cblk_Segments_i1) (.seq (.opq 2 [0,3,5,6] cblk_Segments_i2) (.seq (.seq (.reg [⟨some 20,.mov (.t 0),none⟩,
⟨some 7,.mov (.t 20),none⟩] [3,5,6,7]) (.block 0 (.opq 3 [3,5,6,7] (.loop cblk_Segments_i3)))) (.seq (.reg [⟨some 42,.mov (.t 5),none⟩,
⟨some 4,.mov (.t 42),none⟩] [4]) .ret))))))))⟩
theorem cblk_Segments_e4 {R:Type} (cblk_Segments_p0:cblk_Segments_p0_t R) (cblk_Segments_p1:cblk_Segments_p1_t R) (cblk_Segments_p2:cblk_Segments_p2_t R) (cblk_Segments_l3:cblk_Segments_l3_t R) (cblk_Segments_p4:cblk_Segments_p4_t R) (k:Nat) (p797:Oa) (q798:Oa) (l799:Nat) (c800:Nat) (n801:Int) (n802:Int) (H:Heap) (K:Xit → Env → Heap → Option R):evJ (cblk_Segments_Ct) (cblk_Segments_Jt k cblk_Segments_p0 cblk_Segments_p1 cblk_Segments_p2 cblk_Segments_l3 cblk_Segments_p4) cblk_Segments_i4 (List.zip [3,5,6,7] [.pointer p797,.slice q798 l799 c800,.int .i64 n801,.int .i64 n802]) H (fun x e' H' => K x (clean e' ((⟨[3,5,6,7,39],[],[]⟩:Out).of x)) H') = cblk_Segments_p4_b k p797 q798 l799 c800 n801 n802 H (fun p1310 q1311 l1312 c1313 n1314 n1315 t1316 => K .normal [(3,.pointer p1310),(5,.slice q1311 l1312 c1313),(6,.int .i64 n1314),(7,.int .i64 n1315),(39,.bool t1316)] H):=by kernel_rfl
theorem cblk_Segments_j4 {R:Type} (k:Nat):JS Try.prog 43 (cblk_Segments_a4 R k k) [3,5,6,7] ⟨[3,5,6,7,39],[],[]⟩ (sel [1,1,1,1,1,1,0,1,0,0,1,0,1,1,1,0] (Try.f35.body.getD .skip)) :=
  piece_ok (nt:=43) (c:=(sel [1,1,1,1,1,1,0,1,0,0,1,0,1,1,1,0] (Try.f35.body.getD .skip))) (C:=cblk_Segments_C R k) (an:=An) (t:=(.reg [3,5,6,7,39] [])) (ic:=cblk_Segments_i4) (cblk_Segments_S R k) (cblk_Segments_J R k) (by kernel_rfl) True.intro (cblk_Segments_a4 R k k)
    (fun vals H K r h => by
      unfold cblk_Segments_a4 cblk_Segments_aa4 at h
      split at h <;> first | (cases h; done) | exact Eq.trans (cblk_Segments_e4 (cblk_Segments_p0 k) (cblk_Segments_p1 k) (cblk_Segments_p2 k) (cblk_Segments_l3 k) (cblk_Segments_p4 k) k _ _ _ _ _ _ H K) h)
theorem cblk_Segments_e3 {R:Type} (cblk_Segments_p0:cblk_Segments_p0_t R) (cblk_Segments_p1:cblk_Segments_p1_t R) (cblk_Segments_p2:cblk_Segments_p2_t R) (cblk_Segments_l3:cblk_Segments_l3_t R) (cblk_Segments_p4:cblk_Segments_p4_t R) (k n:Nat) (p785:Oa) (q786:Oa) (l787:Nat) (c788:Nat) (n789:Int) (n790:Int) (H:Heap) (K:Xit → Env → Heap → Option R):evJ (cblk_Segments_Ct) (cblk_Segments_Jt k cblk_Segments_p0 cblk_Segments_p1 cblk_Segments_p2 cblk_Segments_l3 cblk_Segments_p4) cblk_Segments_i3 (List.zip [3,5,6,7] [.pointer p785,.slice q786 l787 c788,.int .i64 n789,.int .i64 n790]) H (fun x e' H' => match x with | .normal => cblk_Segments_aa3 cblk_Segments_l3 n ((clean e' [3,5,6,7]).map (·.2)) H' K | x => K x (clean e' ((⟨[],[(0,[5])],[]⟩:Out).of x)) H') = cblk_Segments_l3_b cblk_Segments_p4 (cblk_Segments_l3 (fun q1307 l1308 c1309 H => K (.exit 0) [(5,.slice q1307 l1308 c1309)] H) n) (fun q1307 l1308 c1309 H => K (.exit 0) [(5,.slice q1307 l1308 c1309)] H) k p785 q786 l787 c788 n789 n790 H:=by kernel_rfl
theorem cblk_Segments_j3 {R:Type} (k:Nat):JS Try.prog 43 (cblk_Segments_a3 R k k) [3,5,6,7] ⟨[],[(0,[5])],[]⟩ (.loop (sel [1,1,1,1,1,1,0,1,0,0] (Try.f35.body.getD .skip))) :=
  loop_ok (nt:=43) (c:=(sel [1,1,1,1,1,1,0,1,0,0] (Try.f35.body.getD .skip))) (C:=cblk_Segments_C R k) (an:=An) (t:=(.seq (.seq (.reg [3,5,6,7,22] []) (.cond .leaf .leaf)) (.node (.seq (.reg [3,5,6,7,8] []) (.seq (.reg [3,5,6,7,8] []) (.seq (.reg [3,5,6,7] []) (.seq (.opq 4 [3,5,6,7] ⟨[3,5,6,7,39],[],[]⟩ (.reg [3,5,6,7,39] [])) (.cond (.seq (.reg [3,5,7,41] []) (.cond (.reg [3,5,6,7] []) (.reg [3,5,6,7] []))) .leaf)))))))) (ic:=cblk_Segments_i3) (cblk_Segments_S R k) (cblk_Segments_J R k) (by kernel_rfl) (And.intro (And.intro True.intro (And.intro True.intro True.intro)) (And.intro True.intro (And.intro True.intro (And.intro True.intro (And.intro (cblk_Segments_j4 k) (And.intro (And.intro True.intro (And.intro True.intro True.intro)) True.intro)))))) (cblk_Segments_a3 R k) (fun vals H K => by unfold cblk_Segments_a3 cblk_Segments_aa3; split <;> rfl)
    (fun n vals H K r h => by
      unfold cblk_Segments_a3 cblk_Segments_aa3 at h
      split at h <;> first | (cases h; done) | exact Eq.trans (cblk_Segments_e3 (cblk_Segments_p0 k) (cblk_Segments_p1 k) (cblk_Segments_p2 k) (cblk_Segments_l3 k) (cblk_Segments_p4 k) k n _ _ _ _ _ _ H K) h) k
theorem cblk_Segments_e2 {R:Type} (cblk_Segments_p0:cblk_Segments_p0_t R) (cblk_Segments_p1:cblk_Segments_p1_t R) (cblk_Segments_p2:cblk_Segments_p2_t R) (cblk_Segments_l3:cblk_Segments_l3_t R) (cblk_Segments_p4:cblk_Segments_p4_t R) (k:Nat) (n765:Int) (p766:Oa) (q767:Oa) (l768:Nat) (c769:Nat) (n770:Int) (H:Heap) (K:Xit → Env → Heap → Option R):evJ (cblk_Segments_Ct) (cblk_Segments_Jt k cblk_Segments_p0 cblk_Segments_p1 cblk_Segments_p2 cblk_Segments_l3 cblk_Segments_p4) cblk_Segments_i2 (List.zip [0,3,5,6] [.int .i64 n765,.pointer p766,.slice q767 l768 c769,.int .i64 n770]) H (fun x e' H' => K x (clean e' ((⟨[0,3,5,6],[],[]⟩:Out).of x)) H') = cblk_Segments_p2_b k n765 p766 q767 l768 c769 n770 H (fun n1301 p1302 q1303 l1304 c1305 n1306 => K .normal [(0,.int .i64 n1301),(3,.pointer p1302),(5,.slice q1303 l1304 c1305),(6,.int .i64 n1306)] H):=by kernel_rfl
theorem cblk_Segments_j2 {R:Type} (k:Nat):JS Try.prog 43 (cblk_Segments_a2 R k k) [0,3,5,6] ⟨[0,3,5,6],[],[]⟩ (sel [1,1,1,1,1,0] (Try.f35.body.getD .skip)) :=
  piece_ok (nt:=43) (c:=(sel [1,1,1,1,1,0] (Try.f35.body.getD .skip))) (C:=cblk_Segments_C R k) (an:=An) (t:=(.seq (.reg [0,3,5,6,19] []) (.cond (.reg [0,3,5,6] []) .leaf))) (ic:=cblk_Segments_i2) (cblk_Segments_S R k) (cblk_Segments_J R k) (by kernel_rfl) (And.intro True.intro (And.intro True.intro True.intro)) (cblk_Segments_a2 R k k)
    (fun vals H K r h => by
      unfold cblk_Segments_a2 cblk_Segments_aa2 at h
      split at h <;> first | (cases h; done) | exact Eq.trans (cblk_Segments_e2 (cblk_Segments_p0 k) (cblk_Segments_p1 k) (cblk_Segments_p2 k) (cblk_Segments_l3 k) (cblk_Segments_p4 k) k _ _ _ _ _ _ H K) h)
theorem cblk_Segments_e1 {R:Type} (cblk_Segments_p0:cblk_Segments_p0_t R) (cblk_Segments_p1:cblk_Segments_p1_t R) (cblk_Segments_p2:cblk_Segments_p2_t R) (cblk_Segments_l3:cblk_Segments_l3_t R) (cblk_Segments_p4:cblk_Segments_p4_t R) (k:Nat) (n745:Int) (p746:Oa) (q747:Oa) (l748:Nat) (c749:Nat) (n750:Int) (H:Heap) (K:Xit → Env → Heap → Option R):evJ (cblk_Segments_Ct) (cblk_Segments_Jt k cblk_Segments_p0 cblk_Segments_p1 cblk_Segments_p2 cblk_Segments_l3 cblk_Segments_p4) cblk_Segments_i1 (List.zip [0,3,5,6] [.int .i64 n745,.pointer p746,.slice q747 l748 c749,.int .i64 n750]) H (fun x e' H' => K x (clean e' ((⟨[0,3,5,6],[],[]⟩:Out).of x)) H') = cblk_Segments_p1_b k n745 p746 q747 l748 c749 n750 H (fun n1295 p1296 q1297 l1298 c1299 n1300 => K .normal [(0,.int .i64 n1295),(3,.pointer p1296),(5,.slice q1297 l1298 c1299),(6,.int .i64 n1300)] H):=by kernel_rfl
theorem cblk_Segments_j1 {R:Type} (k:Nat):JS Try.prog 43 (cblk_Segments_a1 R k k) [0,3,5,6] ⟨[0,3,5,6],[],[]⟩ (sel [1,1,1,1,0] (Try.f35.body.getD .skip)) :=
  piece_ok (nt:=43) (c:=(sel [1,1,1,1,0] (Try.f35.body.getD .skip))) (C:=cblk_Segments_C R k) (an:=An) (t:=(.seq (.reg [0,3,5,6,17] []) (.cond (.reg [0,3,5,6] []) .leaf))) (ic:=cblk_Segments_i1) (cblk_Segments_S R k) (cblk_Segments_J R k) (by kernel_rfl) (And.intro True.intro (And.intro True.intro True.intro)) (cblk_Segments_a1 R k k)
    (fun vals H K r h => by
      unfold cblk_Segments_a1 cblk_Segments_aa1 at h
      split at h <;> first | (cases h; done) | exact Eq.trans (cblk_Segments_e1 (cblk_Segments_p0 k) (cblk_Segments_p1 k) (cblk_Segments_p2 k) (cblk_Segments_l3 k) (cblk_Segments_p4 k) k _ _ _ _ _ _ H K) h)
theorem cblk_Segments_e0 {R:Type} (cblk_Segments_p0:cblk_Segments_p0_t R) (cblk_Segments_p1:cblk_Segments_p1_t R) (cblk_Segments_p2:cblk_Segments_p2_t R) (cblk_Segments_l3:cblk_Segments_l3_t R) (cblk_Segments_p4:cblk_Segments_p4_t R) (k:Nat) (n736:Int) (p737:Oa) (H:Heap) (K:Xit → Env → Heap → Option R):evJ (cblk_Segments_Ct) (cblk_Segments_Jt k cblk_Segments_p0 cblk_Segments_p1 cblk_Segments_p2 cblk_Segments_l3 cblk_Segments_p4) cblk_Segments_i0 (List.zip [0,3] [.int .i64 n736,.pointer p737]) H (fun x e' H' => K x (clean e' ((⟨[0,3],[],[4]⟩:Out).of x)) H') = cblk_Segments_p0_b k n736 p737 (fun n1290 p1291 => K .normal [(0,.int .i64 n1290),(3,.pointer p1291)] H) (fun q1292 l1293 c1294 => K .ret [(4,.slice q1292 l1293 c1294)] H):=by kernel_rfl
theorem cblk_Segments_j0 {R:Type} (k:Nat):JS Try.prog 43 (cblk_Segments_a0 R k k) [0,3] ⟨[0,3],[],[4]⟩ (sel [1,0] (Try.f35.body.getD .skip)) :=
  piece_ok (nt:=43) (c:=(sel [1,0] (Try.f35.body.getD .skip))) (C:=cblk_Segments_C R k) (an:=An) (t:=(.seq (.reg [0,3,14] []) (.cond (.seq (.reg [4] []) .leaf) .leaf))) (ic:=cblk_Segments_i0) (cblk_Segments_S R k) (cblk_Segments_J R k) (by kernel_rfl) (And.intro True.intro (And.intro (And.intro True.intro True.intro) True.intro)) (cblk_Segments_a0 R k k)
    (fun vals H K r h => by
      unfold cblk_Segments_a0 cblk_Segments_aa0 at h
      split at h <;> first | (cases h; done) | exact Eq.trans (cblk_Segments_e0 (cblk_Segments_p0 k) (cblk_Segments_p1 k) (cblk_Segments_p2 k) (cblk_Segments_l3 k) (cblk_Segments_p4 k) k _ _ H K) h)
def cblk_Segments_ca {R:Type} (f:cblk_Segments_t R) (args:List Value) (H:Heap) (K:Value → Heap → Option R):Option R :=
  match args with
  | [.int .i64 n728,.agg ⟨[.bool t729,.bool t730,.bool t731,.bool t732,.bool t733]⟩] => f n728 t729 t730 t731 t732 t733 H (fun q1317 l1318 c1319 H => K (.slice q1317 l1318 c1319) H)
  | _ => none
def cblk_Segments_c (R:Type) (k:Nat) (args:List Value) (H:Heap) (K:Value → Heap → Option R):Option R:=cblk_Segments_ca (cblk_Segments k) args H K
theorem cblk_Segments_e {R:Type} (cblk_Segments_p0:cblk_Segments_p0_t R) (cblk_Segments_p1:cblk_Segments_p1_t R) (cblk_Segments_p2:cblk_Segments_p2_t R) (cblk_Segments_l3:cblk_Segments_l3_t R) (cblk_Segments_p4:cblk_Segments_p4_t R) (k:Nat) (n728:Int) (t729:Bool) (t730:Bool) (t731:Bool) (t732:Bool) (t733:Bool) (H:Heap) (K:Value → Heap → Option R):evF (cblk_Segments_Ct) (cblk_Segments_Jt k cblk_Segments_p0 cblk_Segments_p1 cblk_Segments_p2 cblk_Segments_l3 cblk_Segments_p4) cblk_Segments_f [.int .i64 n728,.agg ⟨[.bool t729,.bool t730,.bool t731,.bool t732,.bool t733]⟩] H K = cblk_Segments_b cblk_Segments_p0 cblk_Segments_p1 cblk_Segments_p2 cblk_Segments_l3 k n728 t729 t730 t731 t732 t733 H (fun q1317 l1318 c1319 H => K (.slice q1317 l1318 c1319) H):=by kernel_rfl
theorem cblk_Segments_cs (R:Type) (k:Nat):∀ args H K r,cblk_Segments_c R k args H K = some r → ∃ v H',Tri Try.prog 35 args H v H' ∧ K v H' = some r:=by
  intro args H K r h
  unfold cblk_Segments_c cblk_Segments_ca at h
  split at h
  · exact evF_ok (C:=cblk_Segments_C R k) (an:=An) (t:=cblk_Segments_at) (fn:=Try.f35) (c:=(Try.f35.body.getD .skip)) (ifn:=cblk_Segments_f) (cblk_Segments_S R k) (cblk_Segments_J R k) Try.func35 (by kernel_rfl) (by kernel_rfl) (And.intro True.intro (And.intro (cblk_Segments_j0 k) (And.intro True.intro (And.intro True.intro (And.intro (cblk_Segments_j1 k) (And.intro (cblk_Segments_j2 k) (And.intro (And.intro True.intro (cblk_Segments_j3 k)) (And.intro True.intro True.intro)))))))) rfl (Eq.trans (cblk_Segments_e (cblk_Segments_p0 k) (cblk_Segments_p1 k) (cblk_Segments_p2 k) (cblk_Segments_l3 k) (cblk_Segments_p4 k) k _ _ _ _ _ _ H K) h)
  · cases h
abbrev pkthead_Parts_p0_t (R:Type):Type:=Int → Int → Oa → (Int → Int → Oa → Option R) → (Oa → Nat → Nat → Option R) → Option R
def pkthead_Parts_p0_b {R:Type} (k:Nat) (n711:Int) (n712:Int) (p713:Oa) (KN:Int → Int → Oa → Option R) (KR:Oa → Nat → Nat → Option R):Option R :=
bif decide (n711 < 0) then (KR none 0 0)
 else (bif decide (n712 < 1) then (KR none 0 0)
 else (bif decide (n712 > 178) then (KR none 0 0)
 else (bif decide (n711 > (IntKind.wrap .i64 (178 - n712))) then (KR none 0 0)
 else (KN n711 n712 p713))))
def pkthead_Parts_p0 {R:Type} (k:Nat) (n711:Int) (n712:Int) (p713:Oa) (KN:Int → Int → Oa → Option R) (KR:Oa → Nat → Nat → Option R):Option R:=pkthead_Parts_p0_b k n711 n712 p713 KN KR
abbrev pkthead_Parts_p2_t (R:Type):Type:=Int → Int → Oa → Nat → Nat → Int → Int → Int → Int → Oa → Nat → Nat → Int → Int → Heap → (Int → Int → Oa → Nat → Nat → Int → Int → Oa → Nat → Nat → Int → Int → Heap → Option R) → Option R
def pkthead_Parts_p2_b {R:Type} (k:Nat) (n745:Int) (n746:Int) (q747:Oa) (l748:Nat) (c749:Nat) (n750:Int) (n751:Int) (n752:Int) (n753:Int) (q754:Oa) (l755:Nat) (c756:Nat) (n757:Int) (n758:Int) (H:Heap) (KN:Int → Int → Oa → Nat → Nat → Int → Int → Oa → Nat → Nat → Int → Int → Heap → Option R):Option R :=
bif decide (n752 < n753) then (hal H [.int .i64 (IntKind.wrap .i64 (n753 - n752))] fun p759 H760 =>
happS 1 8 H760 q747 l748 c749 p759 1 fun q761 l762 c763 H764 =>
KN n745 n746 q761 l762 c763 n750 n751 q754 l755 c756 n757 n758 H764)
 else (KN n745 n746 q747 l748 c749 n750 n751 q754 l755 c756 n757 n758 H)
def pkthead_Parts_p2 {R:Type} (k:Nat) (n745:Int) (n746:Int) (q747:Oa) (l748:Nat) (c749:Nat) (n750:Int) (n751:Int) (n752:Int) (n753:Int) (q754:Oa) (l755:Nat) (c756:Nat) (n757:Int) (n758:Int) (H:Heap) (KN:Int → Int → Oa → Nat → Nat → Int → Int → Oa → Nat → Nat → Int → Int → Heap → Option R):Option R:=pkthead_Parts_p2_b k n745 n746 q747 l748 c749 n750 n751 n752 n753 q754 l755 c756 n757 n758 H KN
abbrev pkthead_Parts_l1_t (R:Type):Type:=(Oa → Nat → Nat → Heap → Option R) → Nat → Int → Int → Oa → Nat → Nat → Int → Oa → Nat → Nat → Int → Int → Heap → Option R
def pkthead_Parts_l1_b {R:Type} (pkthead_Parts_p2:pkthead_Parts_p2_t R) (rec:Int → Int → Oa → Nat → Nat → Int → Oa → Nat → Nat → Int → Int → Heap → Option R) (KE0:Oa → Nat → Nat → Heap → Option R) (k:Nat) (n732:Int) (n733:Int) (q734:Oa) (l735:Nat) (c736:Nat) (n737:Int) (q738:Oa) (l739:Nat) (c740:Nat) (n741:Int) (n742:Int) (H:Heap):Option R :=
bif decide (n742 < n741) then (hidx q738 l739 n742 1 fun p743 =>
ldI .i64 H p743 fun n744 =>
pkthead_Parts_p2 n732 n733 q734 l735 c736 n737 n744 (imx n737 n732) (imn (IntKind.wrap .i64 (n737 + n744)) (IntKind.wrap .i64 (n732 + n733))) q738 l739 c740 n741 n742 H (fun n777 n778 q779 l780 c781 n782 n783 q784 l785 c786 n787 n788 H789 =>
rec n777 n778 q779 l780 c781 (IntKind.wrap .i64 (n782 + n783)) q784 l785 c786 n787 (IntKind.wrap .i64 (n788 + 1)) H789))
 else (KE0 q734 l735 c736 H)
def pkthead_Parts_l1 {R:Type} (k:Nat) (KE0:Oa → Nat → Nat → Heap → Option R):Nat → Int → Int → Oa → Nat → Nat → Int → Oa → Nat → Nat → Int → Int → Heap → Option R
  | 0,_,_,_,_,_,_,_,_,_,_,_,_ => none
  | n + 1,n732,n733,q734,l735,c736,n737,q738,l739,c740,n741,n742,H => pkthead_Parts_l1_b (pkthead_Parts_p2 k) (pkthead_Parts_l1 k KE0 n) KE0 k n732 n733 q734 l735 c736 n737 q738 l739 c740 n741 n742 H
abbrev pkthead_Parts_t (R:Type):Type:=Int → Int → Bool → Bool → Bool → Bool → Bool → Heap → (Oa → Nat → Nat → Heap → Option R) → Option R
def pkthead_Parts_b {R:Type} (pkthead_Parts_p0:pkthead_Parts_p0_t R) (cblk_Segments:cblk_Segments_t R) (pkthead_Parts_l1:pkthead_Parts_l1_t R) (k:Nat) (n702:Int) (n703:Int) (t704:Bool) (t705:Bool) (t706:Bool) (t707:Bool) (t708:Bool) (H:Heap) (K:Oa → Nat → Nat → Heap → Option R):Option R :=
hal H [.bool t704,.bool t705,.bool t706,.bool t707,.bool t708] fun p709 H710 =>
pkthead_Parts_p0 n702 n703 p709 (fun n720 n721 p722 =>
ldB H710 (pad p722 0) fun t723 =>
ldB H710 (pad p722 1) fun t724 =>
ldB H710 (pad p722 2) fun t725 =>
ldB H710 (pad p722 3) fun t726 =>
ldB H710 (pad p722 4) fun t727 =>
cblk_Segments 178 t723 t724 t725 t726 t727 H710 fun q728 l729 c730 H731 =>
pkthead_Parts_l1 (fun q793 l794 c795 H796 =>
K q793 l794 c795 H796) k n720 n721 none 0 0 0 q728 l729 c730 ((l729:Nat):Int) 0 H731) (fun q797 l798 c799 =>
K q797 l798 c799 H710)
def pkthead_Parts {R:Type} (k:Nat) (n702:Int) (n703:Int) (t704:Bool) (t705:Bool) (t706:Bool) (t707:Bool) (t708:Bool) (H:Heap) (K:Oa → Nat → Nat → Heap → Option R):Option R:=pkthead_Parts_b (pkthead_Parts_p0 k) (cblk_Segments k) (pkthead_Parts_l1 k) k n702 n703 t704 t705 t706 t707 t708 H K
def pkthead_Parts_Ct {R:Type} (cblk_Segments:cblk_Segments_t R):Tab R:=tcons 35 (cblk_Segments_ca cblk_Segments) <| fun _ _ _ _ => none
def pkthead_Parts_C (R:Type) (k:Nat):Tab R:=pkthead_Parts_Ct (cblk_Segments k)
theorem pkthead_Parts_S (R:Type) (k:Nat):CSound Try.prog (pkthead_Parts_C R k):=csound_cons (cblk_Segments_cs R k) <| csound_nil
def pkthead_Parts_aa0 {R:Type} (f:pkthead_Parts_p0_t R) (n:Nat) (vals:List Value) (H:Heap) (K:Xit → Env → Heap → Option R):Option R :=
  match vals with
  | [.int .i64 n711,.int .i64 n712,.pointer p713] => f n711 n712 p713 (fun n1320 n1321 p1322 => K .normal [(0,.int .i64 n1320),(1,.int .i64 n1321),(5,.pointer p1322)] H) (fun q1323 l1324 c1325 => K .ret [(6,.slice q1323 l1324 c1325)] H)
  | _ => none
def pkthead_Parts_a0 (R:Type) (k n:Nat) (vals:List Value) (H:Heap) (K:Xit → Env → Heap → Option R):Option R:=pkthead_Parts_aa0 (pkthead_Parts_p0 k) n vals H K
def pkthead_Parts_aa1 {R:Type} (f:pkthead_Parts_l1_t R) (n:Nat) (vals:List Value) (H:Heap) (K:Xit → Env → Heap → Option R):Option R :=
  match vals with
  | [.int .i64 n732,.int .i64 n733,.slice q734 l735 c736,.int .i64 n737,.slice q738 l739 c740,.int .i64 n741,.int .i64 n742] => f (fun q1326 l1327 c1328 H => K (.exit 0) [(7,.slice q1326 l1327 c1328)] H) n n732 n733 q734 l735 c736 n737 q738 l739 c740 n741 n742 H
  | _ => none
def pkthead_Parts_a1 (R:Type) (k n:Nat) (vals:List Value) (H:Heap) (K:Xit → Env → Heap → Option R):Option R:=pkthead_Parts_aa1 (pkthead_Parts_l1 k) n vals H K
def pkthead_Parts_aa2 {R:Type} (f:pkthead_Parts_p2_t R) (n:Nat) (vals:List Value) (H:Heap) (K:Xit → Env → Heap → Option R):Option R :=
  match vals with
  | [.int .i64 n745,.int .i64 n746,.slice q747 l748 c749,.int .i64 n750,.int .i64 n751,.int .i64 n752,.int .i64 n753,.slice q754 l755 c756,.int .i64 n757,.int .i64 n758] => f n745 n746 q747 l748 c749 n750 n751 n752 n753 q754 l755 c756 n757 n758 H (fun n1329 n1330 q1331 l1332 c1333 n1334 n1335 q1336 l1337 c1338 n1339 n1340 H => K .normal [(0,.int .i64 n1329),(1,.int .i64 n1330),(7,.slice q1331 l1332 c1333),(8,.int .i64 n1334),(10,.int .i64 n1335),(30,.slice q1336 l1337 c1338),(31,.int .i64 n1339),(32,.int .i64 n1340)] H)
  | _ => none
def pkthead_Parts_a2 (R:Type) (k n:Nat) (vals:List Value) (H:Heap) (K:Xit → Env → Heap → Option R):Option R:=pkthead_Parts_aa2 (pkthead_Parts_p2 k) n vals H K
def pkthead_Parts_Jt {R:Type} (k:Nat) (pkthead_Parts_p0:pkthead_Parts_p0_t R) (pkthead_Parts_l1:pkthead_Parts_l1_t R) (pkthead_Parts_p2:pkthead_Parts_p2_t R):JTab R:=tcons 0 (pkthead_Parts_aa0 pkthead_Parts_p0 k) <| tcons 1 (pkthead_Parts_aa1 pkthead_Parts_l1 k) <| tcons 2 (pkthead_Parts_aa2 pkthead_Parts_p2 k) <| fun _ _ _ _ => none
def pkthead_Parts_J (R:Type) (k:Nat):JTab R:=pkthead_Parts_Jt k (pkthead_Parts_p0 k) (pkthead_Parts_l1 k) (pkthead_Parts_p2 k)
def pkthead_Parts_at:AT:=(.seq (.reg [0,1,5] []) (.seq (.opq 0 [0,1,5] ⟨[0,1,5],[],[6]⟩ (.seq (.reg [0,1,5,28] []) (.cond (.seq (.reg [6] []) .leaf) .leaf))) (.seq (.reg [0,1,5,7] []) (.seq (.reg [0,1,5,7,8] []) (.seq (.seq (.reg [0,1,7,8,30,31,32] []) (.node (.opq 1 [0,1,7,8,30,31,32] ⟨[],[(0,[7])],[]⟩ (.node (.seq (.reg [0,1,7,8,30,31,32,33] []) (.seq (.cond .leaf .leaf) (.seq (.node (.seq (.reg [0,1,7,8,10,30,31,32] []) (.seq (.reg [0,1,7,8,10,11,12,30,31,32] []) (.seq (.opq 2 [0,1,7,8,10,11,12,30,31,32] ⟨[0,1,7,8,10,30,31,32],[],[]⟩ (.seq (.reg [0,1,7,8,10,11,12,30,31,32,48] []) (.cond (.reg [0,1,7,8,10,30,31,32] []) .leaf))) (.reg [0,1,7,8,30,31,32] []))))) (.reg [0,1,7,8,30,31,32] [])))))))) (.seq (.reg [6] []) .leaf))))))
def pkthead_Parts_i2:IC:=(.seq (.reg [⟨some 46,.mov (.t 11),none⟩,
⟨some 47,.mov (.t 12),none⟩,
⟨some 48,.cmp .lss (.t 46) (.t 47),none⟩] [0,1,7,8,10,11,12,30,31,32,48]) (.cond (.t 48) (.reg [⟨some 49,.mov (.t 7),none⟩,
⟨some 50,.mov (.t 12),none⟩,
⟨some 51,.mov (.t 11),none⟩,
⟨some 52,.bin .sub .i64 (.t 50) (.t 51),none⟩,
⟨some 53,.bls 1 [.int .i64 0] [(0,1,(.t 52))],none⟩,
⟨some 54,.app [.int .i64 0] 8 (.t 49) (.t 53),none⟩,
⟨some 7,.mov (.t 54),none⟩] [0,1,7,8,10,30,31,32]) .skip))
def pkthead_Parts_i1:IC:=(.seq (.reg [⟨some 33,.cmp .lss (.t 32) (.t 31),none⟩] [0,1,7,8,30,31,32,33]) (.seq (.cond (.t 33) .skip (.exit 0)) (.seq (.block 1 (.seq (.reg [⟨some 34,.ids 1 (.t 30) (.t 32),none⟩,
⟨some 35,.ld (.sc (.int .i64)) (.t 34),none⟩,
⟨some 10,.mov (.t 35),none⟩] [0,1,7,8,10,30,31,32]) (.seq (.reg [⟨some 36,.mov (.t 8),none⟩,
⟨some 37,.mov (.t 0),none⟩,
⟨some 38,.mx (.t 36) (.t 37),none⟩,
⟨some 39,.mov (.t 8),none⟩,
⟨some 40,.mov (.t 10),none⟩,
⟨some 41,.bin .add .i64 (.t 39) (.t 40),none⟩,
⟨some 42,.mov (.t 0),none⟩,
⟨some 43,.mov (.t 1),none⟩,
⟨some 44,.bin .add .i64 (.t 42) (.t 43),none⟩,
⟨some 45,.mn (.t 41) (.t 44),none⟩,
⟨some 11,.mov (.t 38),none⟩,
⟨some 12,.mov (.t 45),none⟩] [0,1,7,8,10,11,12,30,31,32]) (.seq (.opq 2 [0,1,7,8,10,11,12,30,31,32] pkthead_Parts_i2) (.reg [⟨some 55,.mov (.t 8),none⟩,
⟨some 56,.mov (.t 10),none⟩,
⟨some 57,.bin .add .i64 (.t 55) (.t 56),none⟩,
⟨some 8,.mov (.t 57),none⟩] [0,1,7,8,30,31,32]))))) (.reg [⟨some 58,.bin .add .i64 (.t 32) (.c (Go.Value.int Go.IntKind.i64 1)),none⟩,
⟨some 32,.mov (.t 58),none⟩] [0,1,7,8,30,31,32]))))
def pkthead_Parts_i0:IC:=(.seq (.reg [⟨some 13,.mov (.t 0),none⟩,
⟨some 14,.cmp .lss (.t 13) (.c (Go.Value.int Go.IntKind.i64 0)),none⟩,
⟨some 15,.mov (.t 14),none⟩,
⟨some 16,.mov (.t 1),some (15,false)⟩,
⟨some 17,.cmp .lss (.t 16) (.c (Go.Value.int Go.IntKind.i64 1)),some (15,false)⟩,
⟨some 18,.pick (.t 15) (.c (Go.Value.bool true)) (.t 17),none⟩,
⟨some 19,.mov (.t 18),none⟩,
⟨some 20,.mov (.t 1),some (19,false)⟩,
⟨some 21,.cmp .gtr (.t 20) (.c (Go.Value.int Go.IntKind.i64 178)),some (19,false)⟩,
⟨some 22,.pick (.t 19) (.c (Go.Value.bool true)) (.t 21),none⟩,
⟨some 23,.mov (.t 22),none⟩,
⟨some 24,.mov (.t 0),some (23,false)⟩,
⟨some 25,.mov (.t 1),some (23,false)⟩,
⟨some 26,.bin .sub .i64 (.c (Go.Value.int Go.IntKind.i64 178)) (.t 25),some (23,false)⟩,
⟨some 27,.cmp .gtr (.t 24) (.t 26),some (23,false)⟩,
⟨some 28,.pick (.t 23) (.c (Go.Value.bool true)) (.t 27),none⟩] [0,1,5,28]) (.cond (.t 28) (.seq (.reg [⟨some 6,.mov (.c (Go.Value.slice none 0 0)),none⟩] [6]) .ret) .skip))
def pkthead_Parts_f:IFn:=⟨60,[.t 6],(.seq (.reg [⟨some 5,.box (.t 2),none⟩,
⟨some 6,.mov (.c (Go.Value.slice none 0 0)),none⟩] [0,1,5]) (.seq (.opq 0 [0,1,5] pkthead_Parts_i0) (.seq (.reg [⟨some 7,.mov (.c (Go.Value.slice none 0 0)),none⟩] [0,1,5,7]) (.seq (.reg [⟨some 8,.mov (.c (Go.Value.int Go.IntKind.i64 0)),none⟩] [0,1,5,7,8]) (.seq (.seq (.reg [⟨some 29,.ld (.agg [.bool,.bool,.bool,.bool,.bool]) (.t 5),none⟩,
⟨some 30,.call 35 [(.c (Go.Value.int Go.IntKind.i64 178)),(.t 29)] (.one (.sc .slc)),none⟩,
⟨some 31,.len false (.t 30),none⟩,
⟨some 32,.mov (.c (Go.Value.int Go.IntKind.i64 0)),none⟩] [0,1,7,8,30,31,32]) (.block 0 (.opq 1 [0,1,7,8,30,31,32] (.loop pkthead_Parts_i1)))) (.seq (.reg [⟨some 59,.mov (.t 7),none⟩,
⟨some 6,.mov (.t 59),none⟩] [6]) .ret))))))⟩
theorem pkthead_Parts_e2 {R:Type} (cblk_Segments:cblk_Segments_t R) (pkthead_Parts_p0:pkthead_Parts_p0_t R) (pkthead_Parts_l1:pkthead_Parts_l1_t R) (pkthead_Parts_p2:pkthead_Parts_p2_t R) (k:Nat) (n745:Int) (n746:Int) (q747:Oa) (l748:Nat) (c749:Nat) (n750:Int) (n751:Int) (n752:Int) (n753:Int) (q754:Oa) (l755:Nat) (c756:Nat) (n757:Int) (n758:Int) (H:Heap) (K:Xit → Env → Heap → Option R):evJ (pkthead_Parts_Ct cblk_Segments) (pkthead_Parts_Jt k pkthead_Parts_p0 pkthead_Parts_l1 pkthead_Parts_p2) pkthead_Parts_i2 (List.zip [0,1,7,8,10,11,12,30,31,32] [.int .i64 n745,.int .i64 n746,.slice q747 l748 c749,.int .i64 n750,.int .i64 n751,.int .i64 n752,.int .i64 n753,.slice q754 l755 c756,.int .i64 n757,.int .i64 n758]) H (fun x e' H' => K x (clean e' ((⟨[0,1,7,8,10,30,31,32],[],[]⟩:Out).of x)) H') = pkthead_Parts_p2_b k n745 n746 q747 l748 c749 n750 n751 n752 n753 q754 l755 c756 n757 n758 H (fun n1329 n1330 q1331 l1332 c1333 n1334 n1335 q1336 l1337 c1338 n1339 n1340 H => K .normal [(0,.int .i64 n1329),(1,.int .i64 n1330),(7,.slice q1331 l1332 c1333),(8,.int .i64 n1334),(10,.int .i64 n1335),(30,.slice q1336 l1337 c1338),(31,.int .i64 n1339),(32,.int .i64 n1340)] H):=by kernel_rfl
theorem pkthead_Parts_j2 {R:Type} (k:Nat):JS Try.prog 60 (pkthead_Parts_a2 R k k) [0,1,7,8,10,11,12,30,31,32] ⟨[0,1,7,8,10,30,31,32],[],[]⟩ (sel [1,1,1,1,0,1,0,0,1,1,0,0,1,1,0] (Try.f20.body.getD .skip)) :=
  piece_ok (nt:=60) (c:=(sel [1,1,1,1,0,1,0,0,1,1,0,0,1,1,0] (Try.f20.body.getD .skip))) (C:=pkthead_Parts_C R k) (an:=An) (t:=(.seq (.reg [0,1,7,8,10,11,12,30,31,32,48] []) (.cond (.reg [0,1,7,8,10,30,31,32] []) .leaf))) (ic:=pkthead_Parts_i2) (pkthead_Parts_S R k) (pkthead_Parts_J R k) (by kernel_rfl) (And.intro True.intro (And.intro True.intro True.intro)) (pkthead_Parts_a2 R k k)
    (fun vals H K r h => by
      unfold pkthead_Parts_a2 pkthead_Parts_aa2 at h
      split at h <;> first | (cases h; done) | exact Eq.trans (pkthead_Parts_e2 (cblk_Segments k) (pkthead_Parts_p0 k) (pkthead_Parts_l1 k) (pkthead_Parts_p2 k) k _ _ _ _ _ _ _ _ _ _ _ _ _ _ H K) h)
theorem pkthead_Parts_e1 {R:Type} (cblk_Segments:cblk_Segments_t R) (pkthead_Parts_p0:pkthead_Parts_p0_t R) (pkthead_Parts_l1:pkthead_Parts_l1_t R) (pkthead_Parts_p2:pkthead_Parts_p2_t R) (k n:Nat) (n732:Int) (n733:Int) (q734:Oa) (l735:Nat) (c736:Nat) (n737:Int) (q738:Oa) (l739:Nat) (c740:Nat) (n741:Int) (n742:Int) (H:Heap) (K:Xit → Env → Heap → Option R):evJ (pkthead_Parts_Ct cblk_Segments) (pkthead_Parts_Jt k pkthead_Parts_p0 pkthead_Parts_l1 pkthead_Parts_p2) pkthead_Parts_i1 (List.zip [0,1,7,8,30,31,32] [.int .i64 n732,.int .i64 n733,.slice q734 l735 c736,.int .i64 n737,.slice q738 l739 c740,.int .i64 n741,.int .i64 n742]) H (fun x e' H' => match x with | .normal => pkthead_Parts_aa1 pkthead_Parts_l1 n ((clean e' [0,1,7,8,30,31,32]).map (·.2)) H' K | x => K x (clean e' ((⟨[],[(0,[7])],[]⟩:Out).of x)) H') = pkthead_Parts_l1_b pkthead_Parts_p2 (pkthead_Parts_l1 (fun q1326 l1327 c1328 H => K (.exit 0) [(7,.slice q1326 l1327 c1328)] H) n) (fun q1326 l1327 c1328 H => K (.exit 0) [(7,.slice q1326 l1327 c1328)] H) k n732 n733 q734 l735 c736 n737 q738 l739 c740 n741 n742 H:=by kernel_rfl
theorem pkthead_Parts_j1 {R:Type} (k:Nat):JS Try.prog 60 (pkthead_Parts_a1 R k k) [0,1,7,8,30,31,32] ⟨[],[(0,[7])],[]⟩ (.loop (sel [1,1,1,1,0,1,0,0] (Try.f20.body.getD .skip))) :=
  loop_ok (nt:=60) (c:=(sel [1,1,1,1,0,1,0,0] (Try.f20.body.getD .skip))) (C:=pkthead_Parts_C R k) (an:=An) (t:=(.seq (.reg [0,1,7,8,30,31,32,33] []) (.seq (.cond .leaf .leaf) (.seq (.node (.seq (.reg [0,1,7,8,10,30,31,32] []) (.seq (.reg [0,1,7,8,10,11,12,30,31,32] []) (.seq (.opq 2 [0,1,7,8,10,11,12,30,31,32] ⟨[0,1,7,8,10,30,31,32],[],[]⟩ (.seq (.reg [0,1,7,8,10,11,12,30,31,32,48] []) (.cond (.reg [0,1,7,8,10,30,31,32] []) .leaf))) (.reg [0,1,7,8,30,31,32] []))))) (.reg [0,1,7,8,30,31,32] []))))) (ic:=pkthead_Parts_i1) (pkthead_Parts_S R k) (pkthead_Parts_J R k) (by kernel_rfl) (And.intro True.intro (And.intro (And.intro True.intro True.intro) (And.intro (And.intro True.intro (And.intro True.intro (And.intro (pkthead_Parts_j2 k) True.intro))) True.intro))) (pkthead_Parts_a1 R k) (fun vals H K => by unfold pkthead_Parts_a1 pkthead_Parts_aa1; split <;> rfl)
    (fun n vals H K r h => by
      unfold pkthead_Parts_a1 pkthead_Parts_aa1 at h
      split at h <;> first | (cases h; done) | exact Eq.trans (pkthead_Parts_e1 (cblk_Segments k) (pkthead_Parts_p0 k) (pkthead_Parts_l1 k) (pkthead_Parts_p2 k) k n _ _ _ _ _ _ _ _ _ _ _ H K) h) k
theorem pkthead_Parts_e0 {R:Type} (cblk_Segments:cblk_Segments_t R) (pkthead_Parts_p0:pkthead_Parts_p0_t R) (pkthead_Parts_l1:pkthead_Parts_l1_t R) (pkthead_Parts_p2:pkthead_Parts_p2_t R) (k:Nat) (n711:Int) (n712:Int) (p713:Oa) (H:Heap) (K:Xit → Env → Heap → Option R):evJ (pkthead_Parts_Ct cblk_Segments) (pkthead_Parts_Jt k pkthead_Parts_p0 pkthead_Parts_l1 pkthead_Parts_p2) pkthead_Parts_i0 (List.zip [0,1,5] [.int .i64 n711,.int .i64 n712,.pointer p713]) H (fun x e' H' => K x (clean e' ((⟨[0,1,5],[],[6]⟩:Out).of x)) H') = pkthead_Parts_p0_b k n711 n712 p713 (fun n1320 n1321 p1322 => K .normal [(0,.int .i64 n1320),(1,.int .i64 n1321),(5,.pointer p1322)] H) (fun q1323 l1324 c1325 => K .ret [(6,.slice q1323 l1324 c1325)] H):=by kernel_rfl
theorem pkthead_Parts_j0 {R:Type} (k:Nat):JS Try.prog 60 (pkthead_Parts_a0 R k k) [0,1,5] ⟨[0,1,5],[],[6]⟩ (sel [1,0] (Try.f20.body.getD .skip)) :=
  piece_ok (nt:=60) (c:=(sel [1,0] (Try.f20.body.getD .skip))) (C:=pkthead_Parts_C R k) (an:=An) (t:=(.seq (.reg [0,1,5,28] []) (.cond (.seq (.reg [6] []) .leaf) .leaf))) (ic:=pkthead_Parts_i0) (pkthead_Parts_S R k) (pkthead_Parts_J R k) (by kernel_rfl) (And.intro True.intro (And.intro (And.intro True.intro True.intro) True.intro)) (pkthead_Parts_a0 R k k)
    (fun vals H K r h => by
      unfold pkthead_Parts_a0 pkthead_Parts_aa0 at h
      split at h <;> first | (cases h; done) | exact Eq.trans (pkthead_Parts_e0 (cblk_Segments k) (pkthead_Parts_p0 k) (pkthead_Parts_l1 k) (pkthead_Parts_p2 k) k _ _ _ H K) h)
def pkthead_Parts_ca {R:Type} (f:pkthead_Parts_t R) (args:List Value) (H:Heap) (K:Value → Heap → Option R):Option R :=
  match args with
  | [.int .i64 n702,.int .i64 n703,.agg ⟨[.bool t704,.bool t705,.bool t706,.bool t707,.bool t708]⟩] => f n702 n703 t704 t705 t706 t707 t708 H (fun q1341 l1342 c1343 H => K (.slice q1341 l1342 c1343) H)
  | _ => none
def pkthead_Parts_c (R:Type) (k:Nat) (args:List Value) (H:Heap) (K:Value → Heap → Option R):Option R:=pkthead_Parts_ca (pkthead_Parts k) args H K
theorem pkthead_Parts_e {R:Type} (cblk_Segments:cblk_Segments_t R) (pkthead_Parts_p0:pkthead_Parts_p0_t R) (pkthead_Parts_l1:pkthead_Parts_l1_t R) (pkthead_Parts_p2:pkthead_Parts_p2_t R) (k:Nat) (n702:Int) (n703:Int) (t704:Bool) (t705:Bool) (t706:Bool) (t707:Bool) (t708:Bool) (H:Heap) (K:Value → Heap → Option R):evF (pkthead_Parts_Ct cblk_Segments) (pkthead_Parts_Jt k pkthead_Parts_p0 pkthead_Parts_l1 pkthead_Parts_p2) pkthead_Parts_f [.int .i64 n702,.int .i64 n703,.agg ⟨[.bool t704,.bool t705,.bool t706,.bool t707,.bool t708]⟩] H K = pkthead_Parts_b pkthead_Parts_p0 cblk_Segments pkthead_Parts_l1 k n702 n703 t704 t705 t706 t707 t708 H (fun q1341 l1342 c1343 H => K (.slice q1341 l1342 c1343) H):=by kernel_rfl
theorem pkthead_Parts_cs (R:Type) (k:Nat):∀ args H K r,pkthead_Parts_c R k args H K = some r → ∃ v H',Tri Try.prog 20 args H v H' ∧ K v H' = some r:=by
  intro args H K r h
  unfold pkthead_Parts_c pkthead_Parts_ca at h
  split at h
  · exact evF_ok (C:=pkthead_Parts_C R k) (an:=An) (t:=pkthead_Parts_at) (fn:=Try.f20) (c:=(Try.f20.body.getD .skip)) (ifn:=pkthead_Parts_f) (pkthead_Parts_S R k) (pkthead_Parts_J R k) Try.func20 (by kernel_rfl) (by kernel_rfl) (And.intro True.intro (And.intro (pkthead_Parts_j0 k) (And.intro True.intro (And.intro True.intro (And.intro (And.intro True.intro (pkthead_Parts_j1 k)) (And.intro True.intro True.intro)))))) rfl (Eq.trans (pkthead_Parts_e (cblk_Segments k) (pkthead_Parts_p0 k) (pkthead_Parts_l1 k) (pkthead_Parts_p2 k) k _ _ _ _ _ _ _ H K) h)
  · cases h
abbrev pkthead_State_check_l0_t (R:Type):Type:=(Oa → Oa → Nat → Nat → Heap → Option R) → (Int → Heap → Option R) → Nat → Oa → Oa → Nat → Nat → Oa → Nat → Nat → Int → Int → Heap → Option R
def pkthead_State_check_l0_b {R:Type} (pkthead_Parts:pkthead_Parts_t R) (rec:Oa → Oa → Nat → Nat → Oa → Nat → Nat → Int → Int → Heap → Option R) (KE0:Oa → Oa → Nat → Nat → Heap → Option R) (KR:Int → Heap → Option R) (k:Nat) (p515:Oa) (q516:Oa) (l517:Nat) (c518:Nat) (q519:Oa) (l520:Nat) (c521:Nat) (n522:Int) (n523:Int) (H:Heap):Option R :=
bif decide (n523 < n522) then (hidx q519 l520 n523 10 fun p524 =>
ldI .i64 H (pad p524 0) fun n525 =>
ldI .i64 H (pad p524 1) fun n526 =>
ldI .i64 H (pad p524 2) fun n527 =>
ldB H (pad p524 3) fun t528 =>
ldI .i64 H (pad p524 4) fun n529 =>
ldI .i64 H (pad p524 5) fun n530 =>
ldI .i64 H (pad p524 6) fun n531 =>
ldI .i64 H (pad p524 7) fun n532 =>
ldI .i64 H (pad p524 8) fun n533 =>
ldI .i64 H (pad p524 9) fun n534 =>
hal H [.int .i64 0,.int .i64 0,.int .i64 0,.bool false,.int .i64 0,.int .i64 0,.int .i64 0,.int .i64 0,.int .i64 0,.int .i64 0] fun p535 H536 =>
hst H536 p535 [.int .i64 n525,.int .i64 n526,.int .i64 n527,.bool t528,.int .i64 n529,.int .i64 n530,.int .i64 n531,.int .i64 n532,.int .i64 n533,.int .i64 n534] fun H537 =>
hidx q516 l517 n523 3 fun p538 =>
hfad 2 p538 fun p539 =>
ldL H537 p539 fun q540 l541 c542 =>
hfad 5 p535 fun p543 =>
ldI .i64 H537 p543 fun n544 =>
hidx q516 l517 n523 3 fun p545 =>
hfad 1 p545 fun p546 =>
ldI .i64 H537 p546 fun n547 =>
hnil p515 fun p548 =>
hfad 3 p548 fun p549 =>
ldB H537 (pad p549 0) fun t550 =>
ldB H537 (pad p549 1) fun t551 =>
ldB H537 (pad p549 2) fun t552 =>
ldB H537 (pad p549 3) fun t553 =>
ldB H537 (pad p549 4) fun t554 =>
pkthead_Parts n544 n547 t550 t551 t552 t553 t554 (roH H537) fun q555 l556 c557 H558 =>
bif (((l541:Nat):Int) != ((l556:Nat):Int)) then (KR 4 (H537 ++ H558.drop H537.length))
 else (rec p515 q516 l517 c518 q519 l520 c521 n522 (IntKind.wrap .i64 (n523 + 1)) (H537 ++ H558.drop H537.length)))
 else (KE0 p515 q516 l517 c518 H)
def pkthead_State_check_l0 {R:Type} (k:Nat) (KE0:Oa → Oa → Nat → Nat → Heap → Option R) (KR:Int → Heap → Option R):Nat → Oa → Oa → Nat → Nat → Oa → Nat → Nat → Int → Int → Heap → Option R
  | 0,_,_,_,_,_,_,_,_,_,_ => none
  | n + 1,p515,q516,l517,c518,q519,l520,c521,n522,n523,H => pkthead_State_check_l0_b (pkthead_Parts k) (pkthead_State_check_l0 k KE0 KR n) KE0 KR k p515 q516 l517 c518 q519 l520 c521 n522 n523 H
abbrev pkthead_State_check_p3_t (R:Type):Type:=Oa → Nat → Nat → Int → Int → Oa → Nat → Nat → Int → Int → Oa → Nat → Nat → Int → Int → (Oa → Nat → Nat → Int → Int → Oa → Nat → Nat → Int → Int → Oa → Nat → Nat → Int → Int → Option R) → (Int → Option R) → Option R
def pkthead_State_check_p3_b {R:Type} (k:Nat) (q619:Oa) (l620:Nat) (c621:Nat) (n622:Int) (n623:Int) (q624:Oa) (l625:Nat) (c626:Nat) (n627:Int) (n628:Int) (q629:Oa) (l630:Nat) (c631:Nat) (n632:Int) (n633:Int) (KN:Oa → Nat → Nat → Int → Int → Oa → Nat → Nat → Int → Int → Oa → Nat → Nat → Int → Int → Option R) (KR:Int → Option R):Option R :=
bif decide (n623 < 0) then (KR 2)
 else (bif decide (n623 > n622) then (KR 2)
 else (KN q619 l620 c621 n622 n623 q624 l625 c626 n627 n628 q629 l630 c631 n632 n633))
def pkthead_State_check_p3 {R:Type} (k:Nat) (q619:Oa) (l620:Nat) (c621:Nat) (n622:Int) (n623:Int) (q624:Oa) (l625:Nat) (c626:Nat) (n627:Int) (n628:Int) (q629:Oa) (l630:Nat) (c631:Nat) (n632:Int) (n633:Int) (KN:Oa → Nat → Nat → Int → Int → Oa → Nat → Nat → Int → Int → Oa → Nat → Nat → Int → Int → Option R) (KR:Int → Option R):Option R:=pkthead_State_check_p3_b k q619 l620 c621 n622 n623 q624 l625 c626 n627 n628 q629 l630 c631 n632 n633 KN KR
abbrev pkthead_State_check_l2_t (R:Type):Type:=(Oa → Nat → Nat → Oa → Nat → Nat → Int → Int → Option R) → (Int → Option R) → Nat → Oa → Nat → Nat → Int → Oa → Nat → Nat → Int → Int → Oa → Nat → Nat → Int → Int → Heap → Option R
def pkthead_State_check_l2_b {R:Type} (pkthead_State_check_p3:pkthead_State_check_p3_t R) (rec:Oa → Nat → Nat → Int → Oa → Nat → Nat → Int → Int → Oa → Nat → Nat → Int → Int → Heap → Option R) (KE4:Oa → Nat → Nat → Oa → Nat → Nat → Int → Int → Option R) (KR:Int → Option R) (k:Nat) (q603:Oa) (l604:Nat) (c605:Nat) (n606:Int) (q607:Oa) (l608:Nat) (c609:Nat) (n610:Int) (n611:Int) (q612:Oa) (l613:Nat) (c614:Nat) (n615:Int) (n616:Int) (H:Heap):Option R :=
bif decide (n616 < n615) then (hidx q612 l613 n616 1 fun p617 =>
ldI .i64 H p617 fun n618 =>
pkthead_State_check_p3 q603 l604 c605 n606 n618 q607 l608 c609 n610 n611 q612 l613 c614 n615 n616 (fun q650 l651 c652 n653 n654 q655 l656 c657 n658 n659 q660 l661 c662 n663 n664 =>
rec q650 l651 c652 (IntKind.wrap .i64 (n653 - n654)) q655 l656 c657 n658 n659 q660 l661 c662 n663 (IntKind.wrap .i64 (n664 + 1)) H) (fun n665 =>
KR n665))
 else (KE4 q603 l604 c605 q607 l608 c609 n610 n611)
def pkthead_State_check_l2 {R:Type} (k:Nat) (KE4:Oa → Nat → Nat → Oa → Nat → Nat → Int → Int → Option R) (KR:Int → Option R):Nat → Oa → Nat → Nat → Int → Oa → Nat → Nat → Int → Int → Oa → Nat → Nat → Int → Int → Heap → Option R
  | 0,_,_,_,_,_,_,_,_,_,_,_,_,_,_,_ => none
  | n + 1,q603,l604,c605,n606,q607,l608,c609,n610,n611,q612,l613,c614,n615,n616,H => pkthead_State_check_l2_b (pkthead_State_check_p3 k) (pkthead_State_check_l2 k KE4 KR n) KE4 KR k q603 l604 c605 n606 q607 l608 c609 n610 n611 q612 l613 c614 n615 n616 H
abbrev pkthead_State_check_l1_t (R:Type):Type:=(Heap → Option R) → (Int → Heap → Option R) → Nat → Oa → Nat → Nat → Oa → Nat → Nat → Int → Int → Heap → Option R
def pkthead_State_check_l1_b {R:Type} (pkthead_State_check_l2:pkthead_State_check_l2_t R) (rec:Oa → Nat → Nat → Oa → Nat → Nat → Int → Int → Heap → Option R) (KE2:Heap → Option R) (KR:Int → Heap → Option R) (k:Nat) (q574:Oa) (l575:Nat) (c576:Nat) (q577:Oa) (l578:Nat) (c579:Nat) (n580:Int) (n581:Int) (H:Heap):Option R :=
bif decide (n581 < n580) then (hidx q577 l578 n581 10 fun p582 =>
ldI .i64 H (pad p582 0) fun n583 =>
ldI .i64 H (pad p582 1) fun n584 =>
ldI .i64 H (pad p582 2) fun n585 =>
ldB H (pad p582 3) fun t586 =>
ldI .i64 H (pad p582 4) fun n587 =>
ldI .i64 H (pad p582 5) fun n588 =>
ldI .i64 H (pad p582 6) fun n589 =>
ldI .i64 H (pad p582 7) fun n590 =>
ldI .i64 H (pad p582 8) fun n591 =>
ldI .i64 H (pad p582 9) fun n592 =>
hal H [.int .i64 0,.int .i64 0,.int .i64 0,.bool false,.int .i64 0,.int .i64 0,.int .i64 0,.int .i64 0,.int .i64 0,.int .i64 0] fun p593 H594 =>
hst H594 p593 [.int .i64 n583,.int .i64 n584,.int .i64 n585,.bool t586,.int .i64 n587,.int .i64 n588,.int .i64 n589,.int .i64 n590,.int .i64 n591,.int .i64 n592] fun H595 =>
hfad 6 p593 fun p596 =>
ldI .i64 H595 p596 fun n597 =>
hidx q574 l575 n581 3 fun p598 =>
hfad 2 p598 fun p599 =>
ldL H595 p599 fun q600 l601 c602 =>
pkthead_State_check_l2 (fun q675 l676 c677 q678 l679 c680 n681 n682 =>
rec q675 l676 c677 q678 l679 c680 n681 (IntKind.wrap .i64 (n682 + 1)) H595) (fun n683 =>
KR n683 H595) k q574 l575 c576 (IntKind.wrap .i64 (65535 - n597)) q577 l578 c579 n580 n581 q600 l601 c602 ((l601:Nat):Int) 0 H595)
 else (KE2 H)
def pkthead_State_check_l1 {R:Type} (k:Nat) (KE2:Heap → Option R) (KR:Int → Heap → Option R):Nat → Oa → Nat → Nat → Oa → Nat → Nat → Int → Int → Heap → Option R
  | 0,_,_,_,_,_,_,_,_,_ => none
  | n + 1,q574,l575,c576,q577,l578,c579,n580,n581,H => pkthead_State_check_l1_b (pkthead_State_check_l2 k) (pkthead_State_check_l1 k KE2 KR n) KE2 KR k q574 l575 c576 q577 l578 c579 n580 n581 H
abbrev pkthead_State_check_t (R:Type):Type:=Oa → Oa → Nat → Nat → Heap → (Int → Heap → Option R) → Option R
def pkthead_State_check_b {R:Type} (pkthead_State_passesFit:pkthead_State_passesFit_t R) (pkthead_State_check_l0:pkthead_State_check_l0_t R) (pkthead_State_check_l1:pkthead_State_check_l1_t R) (k:Nat) (p499:Oa) (q500:Oa) (l501:Nat) (c502:Nat) (H:Heap) (K:Int → Heap → Option R):Option R :=
hnil p499 fun p503 =>
hfad 9 p503 fun p504 =>
ldL H p504 fun q505 l506 c507 =>
bif (((l501:Nat):Int) != ((l506:Nat):Int)) then (K 4 H)
 else (pkthead_State_passesFit p499 q500 l501 c502 H fun t508 H509 =>
bif (!t508) then (K 2 H509)
 else (hnil p499 fun p510 =>
hfad 9 p510 fun p511 =>
ldL H509 p511 fun q512 l513 c514 =>
pkthead_State_check_l0 (fun p564 q565 l566 c567 H568 =>
hnil p564 fun p569 =>
hfad 9 p569 fun p570 =>
ldL H568 p570 fun q571 l572 c573 =>
pkthead_State_check_l1 (fun H685 =>
K 0 H685) (fun n686 H687 =>
K n686 H687) k q565 l566 c567 q571 l572 c573 ((l572:Nat):Int) 0 H568) (fun n688 H689 =>
K n688 H689) k p499 q500 l501 c502 q512 l513 c514 ((l513:Nat):Int) 0 H509))
def pkthead_State_check {R:Type} (k:Nat) (p499:Oa) (q500:Oa) (l501:Nat) (c502:Nat) (H:Heap) (K:Int → Heap → Option R):Option R:=pkthead_State_check_b (pkthead_State_passesFit k) (pkthead_State_check_l0 k) (pkthead_State_check_l1 k) k p499 q500 l501 c502 H K
def pkthead_State_check_Ct {R:Type} (pkthead_State_passesFit:pkthead_State_passesFit_t R) (pkthead_Parts:pkthead_Parts_t R):Tab R:=tcons 57 (pkthead_State_passesFit_ca pkthead_State_passesFit) <| tcons 20 (pkthead_Parts_ca pkthead_Parts) <| fun _ _ _ _ => none
def pkthead_State_check_C (R:Type) (k:Nat):Tab R:=pkthead_State_check_Ct (pkthead_State_passesFit k) (pkthead_Parts k)
theorem pkthead_State_check_S (R:Type) (k:Nat):CSound Try.prog (pkthead_State_check_C R k):=csound_cons (pkthead_State_passesFit_cs R k) <| csound_cons (pkthead_Parts_cs R k) <| csound_nil
def pkthead_State_check_aa0 {R:Type} (f:pkthead_State_check_l0_t R) (n:Nat) (vals:List Value) (H:Heap) (K:Xit → Env → Heap → Option R):Option R :=
  match vals with
  | [.pointer p515,.slice q516 l517 c518,.slice q519 l520 c521,.int .i64 n522,.int .i64 n523] => f (fun p1344 q1345 l1346 c1347 H => K (.exit 0) [(0,.pointer p1344),(1,.slice q1345 l1346 c1347)] H) (fun n1348 H => K .ret [(4,.int .i64 n1348)] H) n p515 q516 l517 c518 q519 l520 c521 n522 n523 H
  | _ => none
def pkthead_State_check_a0 (R:Type) (k n:Nat) (vals:List Value) (H:Heap) (K:Xit → Env → Heap → Option R):Option R:=pkthead_State_check_aa0 (pkthead_State_check_l0 k) n vals H K
def pkthead_State_check_aa1 {R:Type} (f:pkthead_State_check_l1_t R) (n:Nat) (vals:List Value) (H:Heap) (K:Xit → Env → Heap → Option R):Option R :=
  match vals with
  | [.slice q574 l575 c576,.slice q577 l578 c579,.int .i64 n580,.int .i64 n581] => f (fun H => K (.exit 2) [] H) (fun n1349 H => K .ret [(4,.int .i64 n1349)] H) n q574 l575 c576 q577 l578 c579 n580 n581 H
  | _ => none
def pkthead_State_check_a1 (R:Type) (k n:Nat) (vals:List Value) (H:Heap) (K:Xit → Env → Heap → Option R):Option R:=pkthead_State_check_aa1 (pkthead_State_check_l1 k) n vals H K
def pkthead_State_check_aa2 {R:Type} (f:pkthead_State_check_l2_t R) (n:Nat) (vals:List Value) (H:Heap) (K:Xit → Env → Heap → Option R):Option R :=
  match vals with
  | [.slice q603 l604 c605,.int .i64 n606,.slice q607 l608 c609,.int .i64 n610,.int .i64 n611,.slice q612 l613 c614,.int .i64 n615,.int .i64 n616] => f (fun q1350 l1351 c1352 q1353 l1354 c1355 n1356 n1357 => K (.exit 4) [(1,.slice q1350 l1351 c1352),(58,.slice q1353 l1354 c1355),(59,.int .i64 n1356),(60,.int .i64 n1357)] H) (fun n1358 => K .ret [(4,.int .i64 n1358)] H) n q603 l604 c605 n606 q607 l608 c609 n610 n611 q612 l613 c614 n615 n616 H
  | _ => none
def pkthead_State_check_a2 (R:Type) (k n:Nat) (vals:List Value) (H:Heap) (K:Xit → Env → Heap → Option R):Option R:=pkthead_State_check_aa2 (pkthead_State_check_l2 k) n vals H K
def pkthead_State_check_aa3 {R:Type} (f:pkthead_State_check_p3_t R) (n:Nat) (vals:List Value) (H:Heap) (K:Xit → Env → Heap → Option R):Option R :=
  match vals with
  | [.slice q619 l620 c621,.int .i64 n622,.int .i64 n623,.slice q624 l625 c626,.int .i64 n627,.int .i64 n628,.slice q629 l630 c631,.int .i64 n632,.int .i64 n633] => f q619 l620 c621 n622 n623 q624 l625 c626 n627 n628 q629 l630 c631 n632 n633 (fun q1359 l1360 c1361 n1362 n1363 q1364 l1365 c1366 n1367 n1368 q1369 l1370 c1371 n1372 n1373 => K .normal [(1,.slice q1359 l1360 c1361),(9,.int .i64 n1362),(11,.int .i64 n1363),(58,.slice q1364 l1365 c1366),(59,.int .i64 n1367),(60,.int .i64 n1368),(72,.slice q1369 l1370 c1371),(73,.int .i64 n1372),(74,.int .i64 n1373)] H) (fun n1374 => K .ret [(4,.int .i64 n1374)] H)
  | _ => none
def pkthead_State_check_a3 (R:Type) (k n:Nat) (vals:List Value) (H:Heap) (K:Xit → Env → Heap → Option R):Option R:=pkthead_State_check_aa3 (pkthead_State_check_p3 k) n vals H K
def pkthead_State_check_Jt {R:Type} (k:Nat) (pkthead_State_check_l0:pkthead_State_check_l0_t R) (pkthead_State_check_l1:pkthead_State_check_l1_t R) (pkthead_State_check_l2:pkthead_State_check_l2_t R) (pkthead_State_check_p3:pkthead_State_check_p3_t R):JTab R:=tcons 0 (pkthead_State_check_aa0 pkthead_State_check_l0 k) <| tcons 1 (pkthead_State_check_aa1 pkthead_State_check_l1 k) <| tcons 2 (pkthead_State_check_aa2 pkthead_State_check_l2 k) <| tcons 3 (pkthead_State_check_aa3 pkthead_State_check_p3 k) <| fun _ _ _ _ => none
def pkthead_State_check_J (R:Type) (k:Nat):JTab R:=pkthead_State_check_Jt k (pkthead_State_check_l0 k) (pkthead_State_check_l1 k) (pkthead_State_check_l2 k) (pkthead_State_check_p3 k)
def pkthead_State_check_at:AT:=(.seq (.reg [0,1] []) (.seq (.seq (.reg [0,1,19] []) (.cond (.seq (.reg [4] []) .leaf) .leaf)) (.seq (.seq (.reg [0,1,23] []) (.cond (.seq (.reg [4] []) .leaf) .leaf)) (.seq (.seq (.reg [0,1,27,28,29] []) (.node (.opq 0 [0,1,27,28,29] ⟨[],[(0,[0,1])],[4]⟩ (.node (.seq (.reg [0,1,27,28,29,30] []) (.seq (.cond .leaf .leaf) (.seq (.node (.seq (.reg [0,1,5,6,27,28,29] []) (.seq (.reg [0,1,27,28,29,53] [[],[],[0,1],[0,1,2],[0,1,2,3],[0,1,2,3,4],[],[6],[],[],[8,9],[8,9,10],[8,9,10,11],[],[13],[13,14],[13,14,15],[6,7,8,9,10,11,12,13,14,15,16],[6,7,8,9,10,11,12,13,14,15,16,17],[0,1,2,3,4,5,6,7,8,9,10,11,12,13,14,15,16,17,18]]) (.cond (.seq (.reg [4] []) .leaf) .leaf)))) (.reg [0,1,27,28,29] [])))))))) (.seq (.seq (.reg [1,58,59,60] []) (.node (.opq 1 [1,58,59,60] ⟨[],[(2,[])],[4]⟩ (.node (.seq (.reg [1,58,59,60,61] []) (.seq (.cond .leaf .leaf) (.seq (.node (.seq (.reg [1,7,8,58,59,60] []) (.seq (.reg [1,7,9,58,59,60] []) (.seq (.reg [1,9,58,59,60,72,73,74] []) (.node (.opq 2 [1,9,58,59,60,72,73,74] ⟨[],[(4,[1,58,59,60])],[4]⟩ (.node (.seq (.reg [1,9,58,59,60,72,73,74,75] []) (.seq (.cond .leaf .leaf) (.seq (.node (.seq (.reg [1,9,11,58,59,60,72,73,74] []) (.seq (.opq 3 [1,9,11,58,59,60,72,73,74] ⟨[1,9,11,58,59,60,72,73,74],[],[4]⟩ (.seq (.reg [1,9,11,58,59,60,72,73,74,84] []) (.cond (.seq (.reg [4] []) .leaf) .leaf))) (.reg [1,9,58,59,60,72,73,74] [])))) (.reg [1,9,58,59,60,72,73,74] []))))))))))) (.reg [1,58,59,60] [])))))))) (.seq (.reg [4] []) .leaf))))))
def pkthead_State_check_i3:IC:=(.seq (.reg [⟨some 78,.mov (.t 11),none⟩,
⟨some 79,.cmp .lss (.t 78) (.c (Go.Value.int Go.IntKind.i64 0)),none⟩,
⟨some 80,.mov (.t 79),none⟩,
⟨some 81,.mov (.t 11),some (80,false)⟩,
⟨some 82,.mov (.t 9),some (80,false)⟩,
⟨some 83,.cmp .gtr (.t 81) (.t 82),some (80,false)⟩,
⟨some 84,.pick (.t 80) (.c (Go.Value.bool true)) (.t 83),none⟩] [1,9,11,58,59,60,72,73,74,84]) (.cond (.t 84) (.seq (.reg [⟨some 4,.mov (.c (Go.Value.int Go.IntKind.i64 2)),none⟩] [4]) .ret) .skip))
def pkthead_State_check_i2:IC:=(.seq (.reg [⟨some 75,.cmp .lss (.t 74) (.t 73),none⟩] [1,9,58,59,60,72,73,74,75]) (.seq (.cond (.t 75) .skip (.exit 4)) (.seq (.block 5 (.seq (.reg [⟨some 76,.ids 1 (.t 72) (.t 74),none⟩,
⟨some 77,.ld (.sc (.int .i64)) (.t 76),none⟩,
⟨some 11,.mov (.t 77),none⟩] [1,9,11,58,59,60,72,73,74]) (.seq (.opq 3 [1,9,11,58,59,60,72,73,74] pkthead_State_check_i3) (.reg [⟨some 85,.mov (.t 9),none⟩,
⟨some 86,.mov (.t 11),none⟩,
⟨some 87,.bin .sub .i64 (.t 85) (.t 86),none⟩,
⟨some 9,.mov (.t 87),none⟩] [1,9,58,59,60,72,73,74])))) (.reg [⟨some 88,.bin .add .i64 (.t 74) (.c (Go.Value.int Go.IntKind.i64 1)),none⟩,
⟨some 74,.mov (.t 88),none⟩] [1,9,58,59,60,72,73,74]))))
def pkthead_State_check_i1:IC:=(.seq (.reg [⟨some 61,.cmp .lss (.t 60) (.t 59),none⟩] [1,58,59,60,61]) (.seq (.cond (.t 61) .skip (.exit 2)) (.seq (.block 3 (.seq (.reg [⟨some 62,.mov (.t 60),none⟩,
⟨some 63,.ids 10 (.t 58) (.t 60),none⟩,
⟨some 64,.ld (.agg [(.int .i64),(.int .i64),(.int .i64),.bool,(.int .i64),(.int .i64),(.int .i64),(.int .i64),(.int .i64),(.int .i64)]) (.t 63),none⟩,
⟨some 8,.alc [.int .i64 0,.int .i64 0,.int .i64 0,.bool false,.int .i64 0,.int .i64 0,.int .i64 0,.int .i64 0,.int .i64 0,.int .i64 0],none⟩,
⟨some 7,.mov (.t 62),none⟩,
⟨none,.st 10 (.t 8) (.t 64),none⟩] [1,7,8,58,59,60]) (.seq (.reg [⟨some 65,.fad 6 (.t 8),none⟩,
⟨some 66,.ld (.sc (.int .i64)) (.t 65),none⟩,
⟨some 67,.bin .sub .i64 (.c (Go.Value.int Go.IntKind.i64 65535)) (.t 66),none⟩,
⟨some 9,.mov (.t 67),none⟩] [1,7,9,58,59,60]) (.seq (.reg [⟨some 68,.mov (.t 1),none⟩,
⟨some 69,.mov (.t 7),none⟩,
⟨some 70,.ids 3 (.t 68) (.t 69),none⟩,
⟨some 71,.fad 2 (.t 70),none⟩,
⟨some 72,.ld (.sc .slc) (.t 71),none⟩,
⟨some 73,.len false (.t 72),none⟩,
⟨some 74,.mov (.c (Go.Value.int Go.IntKind.i64 0)),none⟩] [1,9,58,59,60,72,73,74]) (.block 4 (.opq 2 [1,9,58,59,60,72,73,74] (.loop pkthead_State_check_i2))))))) (.reg [⟨some 89,.bin .add .i64 (.t 60) (.c (Go.Value.int Go.IntKind.i64 1)),none⟩,
⟨some 60,.mov (.t 89),none⟩] [1,58,59,60]))))
def pkthead_State_check_i0:IC:=(.seq (.reg [⟨some 30,.cmp .lss (.t 29) (.t 28),none⟩] [0,1,27,28,29,30]) (.seq (.cond (.t 30) .skip (.exit 0)) (.seq (.block 1 (.seq (.reg [⟨some 31,.mov (.t 29),none⟩,
⟨some 32,.ids 10 (.t 27) (.t 29),none⟩,
⟨some 33,.ld (.agg [(.int .i64),(.int .i64),(.int .i64),.bool,(.int .i64),(.int .i64),(.int .i64),(.int .i64),(.int .i64),(.int .i64)]) (.t 32),none⟩,
⟨some 6,.alc [.int .i64 0,.int .i64 0,.int .i64 0,.bool false,.int .i64 0,.int .i64 0,.int .i64 0,.int .i64 0,.int .i64 0,.int .i64 0],none⟩,
⟨some 5,.mov (.t 31),none⟩,
⟨none,.st 10 (.t 6) (.t 33),none⟩] [0,1,5,6,27,28,29]) (.seq (.reg [⟨some 34,.mov (.t 1),none⟩,
⟨some 35,.mov (.t 5),none⟩,
⟨some 36,.ids 3 (.t 34) (.t 35),none⟩,
⟨some 37,.fad 2 (.t 36),none⟩,
⟨some 38,.ld (.sc .slc) (.t 37),none⟩,
⟨some 39,.len false (.t 38),none⟩,
⟨some 40,.fad 5 (.t 6),none⟩,
⟨some 41,.ld (.sc (.int .i64)) (.t 40),none⟩,
⟨some 42,.mov (.t 1),none⟩,
⟨some 43,.mov (.t 5),none⟩,
⟨some 44,.ids 3 (.t 42) (.t 43),none⟩,
⟨some 45,.fad 1 (.t 44),none⟩,
⟨some 46,.ld (.sc (.int .i64)) (.t 45),none⟩,
⟨some 47,.mov (.t 0),none⟩,
⟨some 48,.nilc (.t 47),none⟩,
⟨some 49,.fad 3 (.t 48),none⟩,
⟨some 50,.ld (.agg [.bool,.bool,.bool,.bool,.bool]) (.t 49),none⟩,
⟨some 51,.calf 20 [(.t 41),(.t 46),(.t 50)] [] (.one (.sc .slc)),none⟩,
⟨some 52,.len false (.t 51),none⟩,
⟨some 53,.cmp .neq (.t 39) (.t 52),none⟩] [0,1,27,28,29,53]) (.cond (.t 53) (.seq (.reg [⟨some 4,.mov (.c (Go.Value.int Go.IntKind.i64 4)),none⟩] [4]) .ret) .skip)))) (.reg [⟨some 54,.bin .add .i64 (.t 29) (.c (Go.Value.int Go.IntKind.i64 1)),none⟩,
⟨some 29,.mov (.t 54),none⟩] [0,1,27,28,29]))))
def pkthead_State_check_f:IFn:=⟨90,[.t 4],(.seq (.reg [⟨some 4,.mov (.c (Go.Value.int Go.IntKind.i64 0)),none⟩] [0,1]) (.seq (.seq (.reg [⟨some 12,.mov (.t 1),none⟩,
⟨some 13,.len false (.t 12),none⟩,
⟨some 14,.mov (.t 0),none⟩,
⟨some 15,.nilc (.t 14),none⟩,
⟨some 16,.fad 9 (.t 15),none⟩,
⟨some 17,.ld (.sc .slc) (.t 16),none⟩,
⟨some 18,.len false (.t 17),none⟩,
⟨some 19,.cmp .neq (.t 13) (.t 18),none⟩] [0,1,19]) (.cond (.t 19) (.seq (.reg [⟨some 4,.mov (.c (Go.Value.int Go.IntKind.i64 4)),none⟩] [4]) .ret) .skip)) (.seq (.seq (.reg [⟨some 20,.mov (.t 0),none⟩,
⟨some 21,.mov (.t 1),none⟩,
⟨some 22,.call 57 [(.t 20),(.t 21)] (.one (.sc .bool)),none⟩,
⟨some 23,.lnot (.t 22),none⟩] [0,1,23]) (.cond (.t 23) (.seq (.reg [⟨some 4,.mov (.c (Go.Value.int Go.IntKind.i64 2)),none⟩] [4]) .ret) .skip)) (.seq (.seq (.reg [⟨some 24,.mov (.t 0),none⟩,
⟨some 25,.nilc (.t 24),none⟩,
⟨some 26,.fad 9 (.t 25),none⟩,
⟨some 27,.ld (.sc .slc) (.t 26),none⟩,
⟨some 28,.len false (.t 27),none⟩,
⟨some 29,.mov (.c (Go.Value.int Go.IntKind.i64 0)),none⟩] [0,1,27,28,29]) (.block 0 (.opq 0 [0,1,27,28,29] (.loop pkthead_State_check_i0)))) (.seq (.seq (.reg [⟨some 55,.mov (.t 0),none⟩,
⟨some 56,.nilc (.t 55),none⟩,
⟨some 57,.fad 9 (.t 56),none⟩,
⟨some 58,.ld (.sc .slc) (.t 57),none⟩,
⟨some 59,.len false (.t 58),none⟩,
⟨some 60,.mov (.c (Go.Value.int Go.IntKind.i64 0)),none⟩] [1,58,59,60]) (.block 2 (.opq 1 [1,58,59,60] (.loop pkthead_State_check_i1)))) (.seq (.reg [⟨some 4,.mov (.c (Go.Value.int Go.IntKind.i64 0)),none⟩] [4]) .ret))))))⟩
theorem pkthead_State_check_e3 {R:Type} (pkthead_State_passesFit:pkthead_State_passesFit_t R) (pkthead_Parts:pkthead_Parts_t R) (pkthead_State_check_l0:pkthead_State_check_l0_t R) (pkthead_State_check_l1:pkthead_State_check_l1_t R) (pkthead_State_check_l2:pkthead_State_check_l2_t R) (pkthead_State_check_p3:pkthead_State_check_p3_t R) (k:Nat) (q619:Oa) (l620:Nat) (c621:Nat) (n622:Int) (n623:Int) (q624:Oa) (l625:Nat) (c626:Nat) (n627:Int) (n628:Int) (q629:Oa) (l630:Nat) (c631:Nat) (n632:Int) (n633:Int) (H:Heap) (K:Xit → Env → Heap → Option R):evJ (pkthead_State_check_Ct pkthead_State_passesFit pkthead_Parts) (pkthead_State_check_Jt k pkthead_State_check_l0 pkthead_State_check_l1 pkthead_State_check_l2 pkthead_State_check_p3) pkthead_State_check_i3 (List.zip [1,9,11,58,59,60,72,73,74] [.slice q619 l620 c621,.int .i64 n622,.int .i64 n623,.slice q624 l625 c626,.int .i64 n627,.int .i64 n628,.slice q629 l630 c631,.int .i64 n632,.int .i64 n633]) H (fun x e' H' => K x (clean e' ((⟨[1,9,11,58,59,60,72,73,74],[],[4]⟩:Out).of x)) H') = pkthead_State_check_p3_b k q619 l620 c621 n622 n623 q624 l625 c626 n627 n628 q629 l630 c631 n632 n633 (fun q1359 l1360 c1361 n1362 n1363 q1364 l1365 c1366 n1367 n1368 q1369 l1370 c1371 n1372 n1373 => K .normal [(1,.slice q1359 l1360 c1361),(9,.int .i64 n1362),(11,.int .i64 n1363),(58,.slice q1364 l1365 c1366),(59,.int .i64 n1367),(60,.int .i64 n1368),(72,.slice q1369 l1370 c1371),(73,.int .i64 n1372),(74,.int .i64 n1373)] H) (fun n1374 => K .ret [(4,.int .i64 n1374)] H):=by kernel_rfl
theorem pkthead_State_check_j3 {R:Type} (k:Nat):JS Try.prog 90 (pkthead_State_check_a3 R k k) [1,9,11,58,59,60,72,73,74] ⟨[1,9,11,58,59,60,72,73,74],[],[4]⟩ (sel [1,1,1,1,0,1,0,0,1,1,0,0,1,1,1,0,0,1,1,0,0,1,0] (Try.f38.body.getD .skip)) :=
  piece_ok (nt:=90) (c:=(sel [1,1,1,1,0,1,0,0,1,1,0,0,1,1,1,0,0,1,1,0,0,1,0] (Try.f38.body.getD .skip))) (C:=pkthead_State_check_C R k) (an:=An) (t:=(.seq (.reg [1,9,11,58,59,60,72,73,74,84] []) (.cond (.seq (.reg [4] []) .leaf) .leaf))) (ic:=pkthead_State_check_i3) (pkthead_State_check_S R k) (pkthead_State_check_J R k) (by kernel_rfl) (And.intro True.intro (And.intro (And.intro True.intro True.intro) True.intro)) (pkthead_State_check_a3 R k k)
    (fun vals H K r h => by
      unfold pkthead_State_check_a3 pkthead_State_check_aa3 at h
      split at h <;> first | (cases h; done) | exact Eq.trans (pkthead_State_check_e3 (pkthead_State_passesFit k) (pkthead_Parts k) (pkthead_State_check_l0 k) (pkthead_State_check_l1 k) (pkthead_State_check_l2 k) (pkthead_State_check_p3 k) k _ _ _ _ _ _ _ _ _ _ _ _ _ _ _ H K) h)
theorem pkthead_State_check_e2 {R:Type} (pkthead_State_passesFit:pkthead_State_passesFit_t R) (pkthead_Parts:pkthead_Parts_t R) (pkthead_State_check_l0:pkthead_State_check_l0_t R) (pkthead_State_check_l1:pkthead_State_check_l1_t R) (pkthead_State_check_l2:pkthead_State_check_l2_t R) (pkthead_State_check_p3:pkthead_State_check_p3_t R) (k n:Nat) (q603:Oa) (l604:Nat) (c605:Nat) (n606:Int) (q607:Oa) (l608:Nat) (c609:Nat) (n610:Int) (n611:Int) (q612:Oa) (l613:Nat) (c614:Nat) (n615:Int) (n616:Int) (H:Heap) (K:Xit → Env → Heap → Option R):evJ (pkthead_State_check_Ct pkthead_State_passesFit pkthead_Parts) (pkthead_State_check_Jt k pkthead_State_check_l0 pkthead_State_check_l1 pkthead_State_check_l2 pkthead_State_check_p3) pkthead_State_check_i2 (List.zip [1,9,58,59,60,72,73,74] [.slice q603 l604 c605,.int .i64 n606,.slice q607 l608 c609,.int .i64 n610,.int .i64 n611,.slice q612 l613 c614,.int .i64 n615,.int .i64 n616]) H (fun x e' H' => match x with | .normal => pkthead_State_check_aa2 pkthead_State_check_l2 n ((clean e' [1,9,58,59,60,72,73,74]).map (·.2)) H' K | x => K x (clean e' ((⟨[],[(4,[1,58,59,60])],[4]⟩:Out).of x)) H') = pkthead_State_check_l2_b pkthead_State_check_p3 (pkthead_State_check_l2 (fun q1350 l1351 c1352 q1353 l1354 c1355 n1356 n1357 => K (.exit 4) [(1,.slice q1350 l1351 c1352),(58,.slice q1353 l1354 c1355),(59,.int .i64 n1356),(60,.int .i64 n1357)] H) (fun n1358 => K .ret [(4,.int .i64 n1358)] H) n) (fun q1350 l1351 c1352 q1353 l1354 c1355 n1356 n1357 => K (.exit 4) [(1,.slice q1350 l1351 c1352),(58,.slice q1353 l1354 c1355),(59,.int .i64 n1356),(60,.int .i64 n1357)] H) (fun n1358 => K .ret [(4,.int .i64 n1358)] H) k q603 l604 c605 n606 q607 l608 c609 n610 n611 q612 l613 c614 n615 n616 H:=by kernel_rfl
theorem pkthead_State_check_j2 {R:Type} (k:Nat):JS Try.prog 90 (pkthead_State_check_a2 R k k) [1,9,58,59,60,72,73,74] ⟨[],[(4,[1,58,59,60])],[4]⟩ (.loop (sel [1,1,1,1,0,1,0,0,1,1,0,0,1,1,1,0,0] (Try.f38.body.getD .skip))) :=
  loop_ok (nt:=90) (c:=(sel [1,1,1,1,0,1,0,0,1,1,0,0,1,1,1,0,0] (Try.f38.body.getD .skip))) (C:=pkthead_State_check_C R k) (an:=An) (t:=(.seq (.reg [1,9,58,59,60,72,73,74,75] []) (.seq (.cond .leaf .leaf) (.seq (.node (.seq (.reg [1,9,11,58,59,60,72,73,74] []) (.seq (.opq 3 [1,9,11,58,59,60,72,73,74] ⟨[1,9,11,58,59,60,72,73,74],[],[4]⟩ (.seq (.reg [1,9,11,58,59,60,72,73,74,84] []) (.cond (.seq (.reg [4] []) .leaf) .leaf))) (.reg [1,9,58,59,60,72,73,74] [])))) (.reg [1,9,58,59,60,72,73,74] []))))) (ic:=pkthead_State_check_i2) (pkthead_State_check_S R k) (pkthead_State_check_J R k) (by kernel_rfl) (And.intro True.intro (And.intro (And.intro True.intro True.intro) (And.intro (And.intro True.intro (And.intro (pkthead_State_check_j3 k) True.intro)) True.intro))) (pkthead_State_check_a2 R k) (fun vals H K => by unfold pkthead_State_check_a2 pkthead_State_check_aa2; split <;> rfl)
    (fun n vals H K r h => by
      unfold pkthead_State_check_a2 pkthead_State_check_aa2 at h
      split at h <;> first | (cases h; done) | exact Eq.trans (pkthead_State_check_e2 (pkthead_State_passesFit k) (pkthead_Parts k) (pkthead_State_check_l0 k) (pkthead_State_check_l1 k) (pkthead_State_check_l2 k) (pkthead_State_check_p3 k) k n _ _ _ _ _ _ _ _ _ _ _ _ _ _ H K) h) k
theorem pkthead_State_check_e1 {R:Type} (pkthead_State_passesFit:pkthead_State_passesFit_t R) (pkthead_Parts:pkthead_Parts_t R) (pkthead_State_check_l0:pkthead_State_check_l0_t R) (pkthead_State_check_l1:pkthead_State_check_l1_t R) (pkthead_State_check_l2:pkthead_State_check_l2_t R) (pkthead_State_check_p3:pkthead_State_check_p3_t R) (k n:Nat) (q574:Oa) (l575:Nat) (c576:Nat) (q577:Oa) (l578:Nat) (c579:Nat) (n580:Int) (n581:Int) (H:Heap) (K:Xit → Env → Heap → Option R):evJ (pkthead_State_check_Ct pkthead_State_passesFit pkthead_Parts) (pkthead_State_check_Jt k pkthead_State_check_l0 pkthead_State_check_l1 pkthead_State_check_l2 pkthead_State_check_p3) pkthead_State_check_i1 (List.zip [1,58,59,60] [.slice q574 l575 c576,.slice q577 l578 c579,.int .i64 n580,.int .i64 n581]) H (fun x e' H' => match x with | .normal => pkthead_State_check_aa1 pkthead_State_check_l1 n ((clean e' [1,58,59,60]).map (·.2)) H' K | x => K x (clean e' ((⟨[],[(2,[])],[4]⟩:Out).of x)) H') = pkthead_State_check_l1_b pkthead_State_check_l2 (pkthead_State_check_l1 (fun H => K (.exit 2) [] H) (fun n1349 H => K .ret [(4,.int .i64 n1349)] H) n) (fun H => K (.exit 2) [] H) (fun n1349 H => K .ret [(4,.int .i64 n1349)] H) k q574 l575 c576 q577 l578 c579 n580 n581 H:=by kernel_rfl
theorem pkthead_State_check_j1 {R:Type} (k:Nat):JS Try.prog 90 (pkthead_State_check_a1 R k k) [1,58,59,60] ⟨[],[(2,[])],[4]⟩ (.loop (sel [1,1,1,1,0,1,0,0] (Try.f38.body.getD .skip))) :=
  loop_ok (nt:=90) (c:=(sel [1,1,1,1,0,1,0,0] (Try.f38.body.getD .skip))) (C:=pkthead_State_check_C R k) (an:=An) (t:=(.seq (.reg [1,58,59,60,61] []) (.seq (.cond .leaf .leaf) (.seq (.node (.seq (.reg [1,7,8,58,59,60] []) (.seq (.reg [1,7,9,58,59,60] []) (.seq (.reg [1,9,58,59,60,72,73,74] []) (.node (.opq 2 [1,9,58,59,60,72,73,74] ⟨[],[(4,[1,58,59,60])],[4]⟩ (.node (.seq (.reg [1,9,58,59,60,72,73,74,75] []) (.seq (.cond .leaf .leaf) (.seq (.node (.seq (.reg [1,9,11,58,59,60,72,73,74] []) (.seq (.opq 3 [1,9,11,58,59,60,72,73,74] ⟨[1,9,11,58,59,60,72,73,74],[],[4]⟩ (.seq (.reg [1,9,11,58,59,60,72,73,74,84] []) (.cond (.seq (.reg [4] []) .leaf) .leaf))) (.reg [1,9,58,59,60,72,73,74] [])))) (.reg [1,9,58,59,60,72,73,74] []))))))))))) (.reg [1,58,59,60] []))))) (ic:=pkthead_State_check_i1) (pkthead_State_check_S R k) (pkthead_State_check_J R k) (by kernel_rfl) (And.intro True.intro (And.intro (And.intro True.intro True.intro) (And.intro (And.intro True.intro (And.intro True.intro (And.intro True.intro (pkthead_State_check_j2 k)))) True.intro))) (pkthead_State_check_a1 R k) (fun vals H K => by unfold pkthead_State_check_a1 pkthead_State_check_aa1; split <;> rfl)
    (fun n vals H K r h => by
      unfold pkthead_State_check_a1 pkthead_State_check_aa1 at h
      split at h <;> first | (cases h; done) | exact Eq.trans (pkthead_State_check_e1 (pkthead_State_passesFit k) (pkthead_Parts k) (pkthead_State_check_l0 k) (pkthead_State_check_l1 k) (pkthead_State_check_l2 k) (pkthead_State_check_p3 k) k n _ _ _ _ _ _ _ _ H K) h) k
theorem pkthead_State_check_e0 {R:Type} (pkthead_State_passesFit:pkthead_State_passesFit_t R) (pkthead_Parts:pkthead_Parts_t R) (pkthead_State_check_l0:pkthead_State_check_l0_t R) (pkthead_State_check_l1:pkthead_State_check_l1_t R) (pkthead_State_check_l2:pkthead_State_check_l2_t R) (pkthead_State_check_p3:pkthead_State_check_p3_t R) (k n:Nat) (p515:Oa) (q516:Oa) (l517:Nat) (c518:Nat) (q519:Oa) (l520:Nat) (c521:Nat) (n522:Int) (n523:Int) (H:Heap) (K:Xit → Env → Heap → Option R):evJ (pkthead_State_check_Ct pkthead_State_passesFit pkthead_Parts) (pkthead_State_check_Jt k pkthead_State_check_l0 pkthead_State_check_l1 pkthead_State_check_l2 pkthead_State_check_p3) pkthead_State_check_i0 (List.zip [0,1,27,28,29] [.pointer p515,.slice q516 l517 c518,.slice q519 l520 c521,.int .i64 n522,.int .i64 n523]) H (fun x e' H' => match x with | .normal => pkthead_State_check_aa0 pkthead_State_check_l0 n ((clean e' [0,1,27,28,29]).map (·.2)) H' K | x => K x (clean e' ((⟨[],[(0,[0,1])],[4]⟩:Out).of x)) H') = pkthead_State_check_l0_b pkthead_Parts (pkthead_State_check_l0 (fun p1344 q1345 l1346 c1347 H => K (.exit 0) [(0,.pointer p1344),(1,.slice q1345 l1346 c1347)] H) (fun n1348 H => K .ret [(4,.int .i64 n1348)] H) n) (fun p1344 q1345 l1346 c1347 H => K (.exit 0) [(0,.pointer p1344),(1,.slice q1345 l1346 c1347)] H) (fun n1348 H => K .ret [(4,.int .i64 n1348)] H) k p515 q516 l517 c518 q519 l520 c521 n522 n523 H:=by kernel_rfl
theorem pkthead_State_check_j0 {R:Type} (k:Nat):JS Try.prog 90 (pkthead_State_check_a0 R k k) [0,1,27,28,29] ⟨[],[(0,[0,1])],[4]⟩ (.loop (sel [1,1,1,0,1,0,0] (Try.f38.body.getD .skip))) :=
  loop_ok (nt:=90) (c:=(sel [1,1,1,0,1,0,0] (Try.f38.body.getD .skip))) (C:=pkthead_State_check_C R k) (an:=An) (t:=(.seq (.reg [0,1,27,28,29,30] []) (.seq (.cond .leaf .leaf) (.seq (.node (.seq (.reg [0,1,5,6,27,28,29] []) (.seq (.reg [0,1,27,28,29,53] [[],[],[0,1],[0,1,2],[0,1,2,3],[0,1,2,3,4],[],[6],[],[],[8,9],[8,9,10],[8,9,10,11],[],[13],[13,14],[13,14,15],[6,7,8,9,10,11,12,13,14,15,16],[6,7,8,9,10,11,12,13,14,15,16,17],[0,1,2,3,4,5,6,7,8,9,10,11,12,13,14,15,16,17,18]]) (.cond (.seq (.reg [4] []) .leaf) .leaf)))) (.reg [0,1,27,28,29] []))))) (ic:=pkthead_State_check_i0) (pkthead_State_check_S R k) (pkthead_State_check_J R k) (by kernel_rfl) (And.intro True.intro (And.intro (And.intro True.intro True.intro) (And.intro (And.intro True.intro (And.intro True.intro (And.intro (And.intro True.intro True.intro) True.intro))) True.intro))) (pkthead_State_check_a0 R k) (fun vals H K => by unfold pkthead_State_check_a0 pkthead_State_check_aa0; split <;> rfl)
    (fun n vals H K r h => by
      unfold pkthead_State_check_a0 pkthead_State_check_aa0 at h
      split at h <;> first | (cases h; done) | exact Eq.trans (pkthead_State_check_e0 (pkthead_State_passesFit k) (pkthead_Parts k) (pkthead_State_check_l0 k) (pkthead_State_check_l1 k) (pkthead_State_check_l2 k) (pkthead_State_check_p3 k) k n _ _ _ _ _ _ _ _ _ H K) h) k
def pkthead_State_check_ca {R:Type} (f:pkthead_State_check_t R) (args:List Value) (H:Heap) (K:Value → Heap → Option R):Option R :=
  match args with
  | [.pointer p499,.slice q500 l501 c502] => f p499 q500 l501 c502 H (fun n1375 H => K (.int .i64 n1375) H)
  | _ => none
def pkthead_State_check_c (R:Type) (k:Nat) (args:List Value) (H:Heap) (K:Value → Heap → Option R):Option R:=pkthead_State_check_ca (pkthead_State_check k) args H K
theorem pkthead_State_check_e {R:Type} (pkthead_State_passesFit:pkthead_State_passesFit_t R) (pkthead_Parts:pkthead_Parts_t R) (pkthead_State_check_l0:pkthead_State_check_l0_t R) (pkthead_State_check_l1:pkthead_State_check_l1_t R) (pkthead_State_check_l2:pkthead_State_check_l2_t R) (pkthead_State_check_p3:pkthead_State_check_p3_t R) (k:Nat) (p499:Oa) (q500:Oa) (l501:Nat) (c502:Nat) (H:Heap) (K:Value → Heap → Option R):evF (pkthead_State_check_Ct pkthead_State_passesFit pkthead_Parts) (pkthead_State_check_Jt k pkthead_State_check_l0 pkthead_State_check_l1 pkthead_State_check_l2 pkthead_State_check_p3) pkthead_State_check_f [.pointer p499,.slice q500 l501 c502] H K = pkthead_State_check_b pkthead_State_passesFit pkthead_State_check_l0 pkthead_State_check_l1 k p499 q500 l501 c502 H (fun n1375 H => K (.int .i64 n1375) H):=by kernel_rfl
theorem pkthead_State_check_cs (R:Type) (k:Nat):∀ args H K r,pkthead_State_check_c R k args H K = some r → ∃ v H',Tri Try.prog 38 args H v H' ∧ K v H' = some r:=by
  intro args H K r h
  unfold pkthead_State_check_c pkthead_State_check_ca at h
  split at h
  · exact evF_ok (C:=pkthead_State_check_C R k) (an:=An) (t:=pkthead_State_check_at) (fn:=Try.f38) (c:=(Try.f38.body.getD .skip)) (ifn:=pkthead_State_check_f) (pkthead_State_check_S R k) (pkthead_State_check_J R k) Try.func38 (by kernel_rfl) (by kernel_rfl) (And.intro True.intro (And.intro (And.intro True.intro (And.intro (And.intro True.intro True.intro) True.intro)) (And.intro (And.intro True.intro (And.intro (And.intro True.intro True.intro) True.intro)) (And.intro (And.intro True.intro (pkthead_State_check_j0 k)) (And.intro (And.intro True.intro (pkthead_State_check_j1 k)) (And.intro True.intro True.intro)))))) rfl (Eq.trans (pkthead_State_check_e (pkthead_State_passesFit k) (pkthead_Parts k) (pkthead_State_check_l0 k) (pkthead_State_check_l1 k) (pkthead_State_check_l2 k) (pkthead_State_check_p3 k) k _ _ _ _ H K) h)
  · cases h
abbrev bitio_NewWriter_t (R:Type):Type:=Heap → (Oa → Heap → Option R) → Option R
def bitio_NewWriter_b {R:Type} (k:Nat) (H:Heap) (K:Oa → Heap → Option R):Option R :=
hal H [.bool true,.slice none 0 0,.int .u8 0,.int .i64 0,.int .i64 8,.int .i64 0] fun p693 H694 =>
K p693 H694
def bitio_NewWriter {R:Type} (H:Heap) (K:Oa → Heap → Option R):Option R:=bitio_NewWriter_b 0 H K
def bitio_NewWriter_Ct {R:Type}:Tab R:=fun _ _ _ _ => none
def bitio_NewWriter_C (R:Type) (k:Nat):Tab R:=bitio_NewWriter_Ct
theorem bitio_NewWriter_S (R:Type) (k:Nat):CSound Try.prog (bitio_NewWriter_C R k):=csound_nil
def bitio_NewWriter_Jt {R:Type} (k:Nat):JTab R:=fun _ _ _ _ => none
def bitio_NewWriter_J (R:Type) (k:Nat):JTab R:=bitio_NewWriter_Jt k
def bitio_NewWriter_at:AT:=(.seq (.reg [] []) (.seq (.reg [0] []) .leaf))
def bitio_NewWriter_f:IFn:=⟨3,[.t 0],(.seq (.reg [⟨some 0,.mov (.c (Go.Value.pointer none)),none⟩] []) (.seq (.reg [⟨some 1,.bld [.bool false,.slice none 0 0,.int .u8 0,.int .i64 0,.int .i64 0,.int .i64 0] [(0,1,(.c (Go.Value.bool true))),(4,1,(.c (Go.Value.int Go.IntKind.i64 8)))],none⟩,
⟨some 2,.box (.t 1),none⟩,
⟨some 0,.mov (.t 2),none⟩] [0]) .ret))⟩
def bitio_NewWriter_ca {R:Type} (f:bitio_NewWriter_t R) (args:List Value) (H:Heap) (K:Value → Heap → Option R):Option R :=
  match args with
  | [] => f H (fun p1376 H => K (.pointer p1376) H)
  | _ => none
def bitio_NewWriter_c (R:Type) (k:Nat) (args:List Value) (H:Heap) (K:Value → Heap → Option R):Option R:=bitio_NewWriter_ca bitio_NewWriter args H K
theorem bitio_NewWriter_e {R:Type} (k:Nat) (H:Heap) (K:Value → Heap → Option R):evF (bitio_NewWriter_Ct) (bitio_NewWriter_Jt k) bitio_NewWriter_f [] H K = bitio_NewWriter_b k H (fun p1376 H => K (.pointer p1376) H):=by kernel_rfl
theorem bitio_NewWriter_cs (R:Type) (k:Nat):∀ args H K r,bitio_NewWriter_c R k args H K = some r → ∃ v H',Tri Try.prog 39 args H v H' ∧ K v H' = some r:=by
  intro args H K r h
  unfold bitio_NewWriter_c bitio_NewWriter_ca at h
  split at h
  · exact evF_ok (C:=bitio_NewWriter_C R 0) (an:=An) (t:=bitio_NewWriter_at) (fn:=Try.f39) (c:=(Try.f39.body.getD .skip)) (ifn:=bitio_NewWriter_f) (bitio_NewWriter_S R 0) (bitio_NewWriter_J R 0) Try.func39 (by kernel_rfl) (by kernel_rfl) (And.intro True.intro (And.intro True.intro True.intro)) rfl (Eq.trans (bitio_NewWriter_e 0 H K) h)
  · cases h
abbrev bitio_Writer_ok_t (R:Type):Type:=Oa → Heap → (Bool → Option R) → Option R
def bitio_Writer_ok_b {R:Type} (k:Nat) (p735:Oa) (H:Heap) (K:Bool → Option R):Option R :=
bif p735.isSome then (hnil p735 fun p736 =>
hfad 0 p736 fun p737 =>
ldB H p737 fun t738 =>
K t738)
 else (K false)
def bitio_Writer_ok {R:Type} (p735:Oa) (H:Heap) (K:Bool → Option R):Option R:=bitio_Writer_ok_b 0 p735 H K
def bitio_Writer_ok_Ct {R:Type}:Tab R:=fun _ _ _ _ => none
def bitio_Writer_ok_C (R:Type) (k:Nat):Tab R:=bitio_Writer_ok_Ct
theorem bitio_Writer_ok_S (R:Type) (k:Nat):CSound Try.prog (bitio_Writer_ok_C R k):=csound_nil
def bitio_Writer_ok_Jt {R:Type} (k:Nat):JTab R:=fun _ _ _ _ => none
def bitio_Writer_ok_J (R:Type) (k:Nat):JTab R:=bitio_Writer_ok_Jt k
def bitio_Writer_ok_at:AT:=(.seq (.reg [0] []) (.seq (.reg [2] []) .leaf))
def bitio_Writer_ok_f:IFn:=⟨11,[.t 2],(.seq (.reg [⟨some 2,.mov (.c (Go.Value.bool false)),none⟩] [0]) (.seq (.reg [⟨some 3,.mov (.t 0),none⟩,
⟨some 4,.eqnil (.t 3) true 0,none⟩,
⟨some 5,.mov (.t 4),none⟩,
⟨some 6,.mov (.t 0),some (5,true)⟩,
⟨some 7,.nilc (.t 6),some (5,true)⟩,
⟨some 8,.fad 0 (.t 7),some (5,true)⟩,
⟨some 9,.ld (.sc .bool) (.t 8),some (5,true)⟩,
⟨some 10,.pick (.t 5) (.t 9) (.c (Go.Value.bool false)),none⟩,
⟨some 2,.mov (.t 10),none⟩] [2]) .ret))⟩
def bitio_Writer_ok_ca {R:Type} (f:bitio_Writer_ok_t R) (args:List Value) (H:Heap) (K:Value → Heap → Option R):Option R :=
  match args with
  | [.pointer p735] => f p735 H (fun t1377 => K (.bool t1377) H)
  | _ => none
def bitio_Writer_ok_c (R:Type) (k:Nat) (args:List Value) (H:Heap) (K:Value → Heap → Option R):Option R:=bitio_Writer_ok_ca bitio_Writer_ok args H K
theorem bitio_Writer_ok_e {R:Type} (k:Nat) (p735:Oa) (H:Heap) (K:Value → Heap → Option R):evF (bitio_Writer_ok_Ct) (bitio_Writer_ok_Jt k) bitio_Writer_ok_f [.pointer p735] H K = bitio_Writer_ok_b k p735 H (fun t1377 => K (.bool t1377) H):=by kernel_rfl
theorem bitio_Writer_ok_cs (R:Type) (k:Nat):∀ args H K r,bitio_Writer_ok_c R k args H K = some r → ∃ v H',Tri Try.prog 58 args H v H' ∧ K v H' = some r:=by
  intro args H K r h
  unfold bitio_Writer_ok_c bitio_Writer_ok_ca at h
  split at h
  · exact evF_ok (C:=bitio_Writer_ok_C R 0) (an:=An) (t:=bitio_Writer_ok_at) (fn:=Try.f58) (c:=(Try.f58.body.getD .skip)) (ifn:=bitio_Writer_ok_f) (bitio_Writer_ok_S R 0) (bitio_Writer_ok_J R 0) Try.func58 (by kernel_rfl) (by kernel_rfl) (And.intro True.intro (And.intro True.intro True.intro)) rfl (Eq.trans (bitio_Writer_ok_e 0 _ H K) h)
  · cases h
abbrev bitio_Writer_put_p0_t (R:Type):Type:=Oa → Heap → (Oa → Heap → Option R) → Option R
def bitio_Writer_put_p0_b {R:Type} (k:Nat) (p795:Oa) (H:Heap) (KN:Oa → Heap → Option R):Option R :=
hnil p795 fun p796 =>
hfad 2 p796 fun p797 =>
ldI .u8 H p797 fun n798 =>
bif (n798 == 255) then (hnil p795 fun p799 =>
hfad 4 p799 fun p800 =>
hst1 H p800 (.int .i64 7) fun H801 =>
KN p795 H801)
 else (KN p795 H)
def bitio_Writer_put_p0 {R:Type} (k:Nat) (p795:Oa) (H:Heap) (KN:Oa → Heap → Option R):Option R:=bitio_Writer_put_p0_b k p795 H KN
abbrev bitio_Writer_put_t (R:Type):Type:=Oa → Int → Heap → (Heap → Option R) → Option R
def bitio_Writer_put_b {R:Type} (bitio_Writer_put_p0:bitio_Writer_put_p0_t R) (k:Nat) (p748:Oa) (n749:Int) (H:Heap) (K:Heap → Option R):Option R :=
hnil p748 fun p750 =>
hfad 2 p750 fun p751 =>
ldI .u8 H p751 fun n752 =>
hbin .or .u8 (IntKind.wrap .u8 (n752 * 2)) (IntKind.wrap .u8 n749) fun n753 =>
hnil p748 fun p754 =>
hfad 2 p754 fun p755 =>
hst1 H p755 (.int .u8 n753) fun H756 =>
hnil p748 fun p757 =>
hfad 3 p757 fun p758 =>
ldI .i64 H756 p758 fun n759 =>
hnil p748 fun p760 =>
hfad 3 p760 fun p761 =>
hst1 H756 p761 (.int .i64 (IntKind.wrap .i64 (n759 + 1))) fun H762 =>
hnil p748 fun p763 =>
hfad 5 p763 fun p764 =>
ldI .i64 H762 p764 fun n765 =>
hnil p748 fun p766 =>
hfad 5 p766 fun p767 =>
hst1 H762 p767 (.int .i64 (IntKind.wrap .i64 (n765 + 1))) fun H768 =>
hnil p748 fun p769 =>
hfad 3 p769 fun p770 =>
ldI .i64 H768 p770 fun n771 =>
hnil p748 fun p772 =>
hfad 4 p772 fun p773 =>
ldI .i64 H768 p773 fun n774 =>
bif decide (n771 < n774) then (K H768)
 else (hnil p748 fun p775 =>
hfad 1 p775 fun p776 =>
ldL H768 p776 fun q777 l778 c779 =>
hnil p748 fun p780 =>
hfad 2 p780 fun p781 =>
ldI .u8 H768 p781 fun n782 =>
hal H768 [.int .u8 n782] fun p783 H784 =>
happS 1 1 H784 q777 l778 c779 p783 1 fun q785 l786 c787 H788 =>
hnil p748 fun p789 =>
hfad 1 p789 fun p790 =>
hst1 H788 p790 (.slice q785 l786 c787) fun H791 =>
hnil p748 fun p792 =>
hfad 4 p792 fun p793 =>
hst1 H791 p793 (.int .i64 8) fun H794 =>
bitio_Writer_put_p0 p748 H794 (fun p803 H804 =>
hnil p803 fun p805 =>
hfad 2 p805 fun p806 =>
hst1 H804 p806 (.int .u8 0) fun H807 =>
hnil p803 fun p808 =>
hfad 3 p808 fun p809 =>
hst1 H807 p809 (.int .i64 0) fun H810 =>
K H810))
def bitio_Writer_put {R:Type} (k:Nat) (p748:Oa) (n749:Int) (H:Heap) (K:Heap → Option R):Option R:=bitio_Writer_put_b (bitio_Writer_put_p0 k) k p748 n749 H K
def bitio_Writer_put_Ct {R:Type}:Tab R:=fun _ _ _ _ => none
def bitio_Writer_put_C (R:Type) (k:Nat):Tab R:=bitio_Writer_put_Ct
theorem bitio_Writer_put_S (R:Type) (k:Nat):CSound Try.prog (bitio_Writer_put_C R k):=csound_nil
def bitio_Writer_put_aa0 {R:Type} (f:bitio_Writer_put_p0_t R) (n:Nat) (vals:List Value) (H:Heap) (K:Xit → Env → Heap → Option R):Option R :=
  match vals with
  | [.pointer p795] => f p795 H (fun p1378 H => K .normal [(0,.pointer p1378)] H)
  | _ => none
def bitio_Writer_put_a0 (R:Type) (k n:Nat) (vals:List Value) (H:Heap) (K:Xit → Env → Heap → Option R):Option R:=bitio_Writer_put_aa0 (bitio_Writer_put_p0 k) n vals H K
def bitio_Writer_put_Jt {R:Type} (k:Nat) (bitio_Writer_put_p0:bitio_Writer_put_p0_t R):JTab R:=tcons 0 (bitio_Writer_put_aa0 bitio_Writer_put_p0 k) <| fun _ _ _ _ => none
def bitio_Writer_put_J (R:Type) (k:Nat):JTab R:=bitio_Writer_put_Jt k (bitio_Writer_put_p0 k)
def bitio_Writer_put_at:AT:=(.seq (.reg [0] []) (.seq (.reg [0] []) (.seq (.reg [0] []) (.seq (.seq (.reg [0,37] [[],[0],[0,1],[0,1,2],[],[4],[4,5],[4,5,6],[0,1,2,3,4,5,6,7]]) (.cond .leaf .leaf)) (.seq (.reg [0] [[],[],[1],[1,2],[1,2,3],[],[5],[5,6],[5,6,7],[5,6,7,8],[1,2,3,4,5,6,7,8,9],[0,1,2,3,4,5,6,7,8,9,10],[0,1,2,3,4,5,6,7,8,9,10,11],[0,1,2,3,4,5,6,7,8,9,10,11,12]]) (.seq (.reg [0] []) (.seq (.opq 0 [0] ⟨[0],[],[]⟩ (.seq (.reg [0,58] []) (.cond (.reg [0] []) .leaf))) (.reg [] []))))))))
def bitio_Writer_put_i0:IC:=(.seq (.reg [⟨some 54,.mov (.t 0),none⟩,
⟨some 55,.nilc (.t 54),none⟩,
⟨some 56,.fad 2 (.t 55),none⟩,
⟨some 57,.ld (.sc (.int .u8)) (.t 56),none⟩,
⟨some 58,.cmp .eql (.t 57) (.c (Go.Value.int Go.IntKind.u8 255)),none⟩] [0,58]) (.cond (.t 58) (.reg [⟨some 59,.mov (.t 0),none⟩,
⟨some 60,.nilc (.t 59),none⟩,
⟨some 61,.fad 4 (.t 60),none⟩,
⟨none,.st 1 (.t 61) (.c (Go.Value.int Go.IntKind.i64 7)),none⟩] [0]) .skip))
def bitio_Writer_put_f:IFn:=⟨68,[],(.seq (.reg [⟨some 4,.mov (.t 0),none⟩,
⟨some 5,.mov (.t 0),none⟩,
⟨some 6,.nilc (.t 5),none⟩,
⟨some 7,.fad 2 (.t 6),none⟩,
⟨some 8,.ld (.sc (.int .u8)) (.t 7),none⟩,
⟨some 9,.bin .shl .u8 (.t 8) (.c (Go.Value.int Go.IntKind.u64 1)),none⟩,
⟨some 10,.mov (.t 1),none⟩,
⟨some 11,.cnv .u8 (.t 10),none⟩,
⟨some 12,.bin .or .u8 (.t 9) (.t 11),none⟩,
⟨some 13,.nilc (.t 4),none⟩,
⟨some 14,.fad 2 (.t 13),none⟩,
⟨none,.st 1 (.t 14) (.t 12),none⟩] [0]) (.seq (.reg [⟨some 15,.mov (.t 0),none⟩,
⟨some 16,.nilc (.t 15),none⟩,
⟨some 17,.fad 3 (.t 16),none⟩,
⟨some 18,.ld (.sc (.int .i64)) (.t 17),none⟩,
⟨some 19,.bin .add .i64 (.t 18) (.c (Go.Value.int Go.IntKind.i64 1)),none⟩,
⟨some 20,.nilc (.t 15),none⟩,
⟨some 21,.fad 3 (.t 20),none⟩,
⟨none,.st 1 (.t 21) (.t 19),none⟩] [0]) (.seq (.reg [⟨some 22,.mov (.t 0),none⟩,
⟨some 23,.nilc (.t 22),none⟩,
⟨some 24,.fad 5 (.t 23),none⟩,
⟨some 25,.ld (.sc (.int .i64)) (.t 24),none⟩,
⟨some 26,.bin .add .i64 (.t 25) (.c (Go.Value.int Go.IntKind.i64 1)),none⟩,
⟨some 27,.nilc (.t 22),none⟩,
⟨some 28,.fad 5 (.t 27),none⟩,
⟨none,.st 1 (.t 28) (.t 26),none⟩] [0]) (.seq (.seq (.reg [⟨some 29,.mov (.t 0),none⟩,
⟨some 30,.nilc (.t 29),none⟩,
⟨some 31,.fad 3 (.t 30),none⟩,
⟨some 32,.ld (.sc (.int .i64)) (.t 31),none⟩,
⟨some 33,.mov (.t 0),none⟩,
⟨some 34,.nilc (.t 33),none⟩,
⟨some 35,.fad 4 (.t 34),none⟩,
⟨some 36,.ld (.sc (.int .i64)) (.t 35),none⟩,
⟨some 37,.cmp .lss (.t 32) (.t 36),none⟩] [0,37]) (.cond (.t 37) .ret .skip)) (.seq (.reg [⟨some 38,.mov (.t 0),none⟩,
⟨some 39,.mov (.t 0),none⟩,
⟨some 40,.nilc (.t 39),none⟩,
⟨some 41,.fad 1 (.t 40),none⟩,
⟨some 42,.ld (.sc .slc) (.t 41),none⟩,
⟨some 43,.mov (.t 0),none⟩,
⟨some 44,.nilc (.t 43),none⟩,
⟨some 45,.fad 2 (.t 44),none⟩,
⟨some 46,.ld (.sc (.int .u8)) (.t 45),none⟩,
⟨some 47,.bls 1 [.int .u8 0] [(0,1,(.t 46))],none⟩,
⟨some 48,.app [.int .u8 0] 1 (.t 42) (.t 47),none⟩,
⟨some 49,.nilc (.t 38),none⟩,
⟨some 50,.fad 1 (.t 49),none⟩,
⟨none,.st 1 (.t 50) (.t 48),none⟩] [0]) (.seq (.reg [⟨some 51,.mov (.t 0),none⟩,
⟨some 52,.nilc (.t 51),none⟩,
⟨some 53,.fad 4 (.t 52),none⟩,
⟨none,.st 1 (.t 53) (.c (Go.Value.int Go.IntKind.i64 8)),none⟩] [0]) (.seq (.opq 0 [0] bitio_Writer_put_i0) (.reg [⟨some 62,.mov (.t 0),none⟩,
⟨some 63,.mov (.t 0),none⟩,
⟨some 64,.nilc (.t 62),none⟩,
⟨some 65,.fad 2 (.t 64),none⟩,
⟨none,.st 1 (.t 65) (.c (Go.Value.int Go.IntKind.u8 0)),none⟩,
⟨some 66,.nilc (.t 63),none⟩,
⟨some 67,.fad 3 (.t 66),none⟩,
⟨none,.st 1 (.t 67) (.c (Go.Value.int Go.IntKind.i64 0)),none⟩] []))))))))⟩
theorem bitio_Writer_put_e0 {R:Type} (bitio_Writer_put_p0:bitio_Writer_put_p0_t R) (k:Nat) (p795:Oa) (H:Heap) (K:Xit → Env → Heap → Option R):evJ (bitio_Writer_put_Ct) (bitio_Writer_put_Jt k bitio_Writer_put_p0) bitio_Writer_put_i0 (List.zip [0] [.pointer p795]) H (fun x e' H' => K x (clean e' ((⟨[0],[],[]⟩:Out).of x)) H') = bitio_Writer_put_p0_b k p795 H (fun p1378 H => K .normal [(0,.pointer p1378)] H):=by kernel_rfl
theorem bitio_Writer_put_j0 {R:Type} (k:Nat):JS Try.prog 68 (bitio_Writer_put_a0 R k k) [0] ⟨[0],[],[]⟩ (sel [1,1,1,1,1,1,0] (Try.f59.body.getD .skip)) :=
  piece_ok (nt:=68) (c:=(sel [1,1,1,1,1,1,0] (Try.f59.body.getD .skip))) (C:=bitio_Writer_put_C R k) (an:=An) (t:=(.seq (.reg [0,58] []) (.cond (.reg [0] []) .leaf))) (ic:=bitio_Writer_put_i0) (bitio_Writer_put_S R k) (bitio_Writer_put_J R k) (by kernel_rfl) (And.intro True.intro (And.intro True.intro True.intro)) (bitio_Writer_put_a0 R k k)
    (fun vals H K r h => by
      unfold bitio_Writer_put_a0 bitio_Writer_put_aa0 at h
      split at h <;> first | (cases h; done) | exact Eq.trans (bitio_Writer_put_e0 (bitio_Writer_put_p0 k) k _ H K) h)
def bitio_Writer_put_ca {R:Type} (f:bitio_Writer_put_t R) (args:List Value) (H:Heap) (K:Value → Heap → Option R):Option R :=
  match args with
  | [.pointer p748,.int .i64 n749] => f p748 n749 H (fun H => K (undef) H)
  | _ => none
def bitio_Writer_put_c (R:Type) (k:Nat) (args:List Value) (H:Heap) (K:Value → Heap → Option R):Option R:=bitio_Writer_put_ca (bitio_Writer_put k) args H K
theorem bitio_Writer_put_e {R:Type} (bitio_Writer_put_p0:bitio_Writer_put_p0_t R) (k:Nat) (p748:Oa) (n749:Int) (H:Heap) (K:Value → Heap → Option R):evF (bitio_Writer_put_Ct) (bitio_Writer_put_Jt k bitio_Writer_put_p0) bitio_Writer_put_f [.pointer p748,.int .i64 n749] H K = bitio_Writer_put_b bitio_Writer_put_p0 k p748 n749 H (fun H => K (undef) H):=by kernel_rfl
theorem bitio_Writer_put_cs (R:Type) (k:Nat):∀ args H K r,bitio_Writer_put_c R k args H K = some r → ∃ v H',Tri Try.prog 59 args H v H' ∧ K v H' = some r:=by
  intro args H K r h
  unfold bitio_Writer_put_c bitio_Writer_put_ca at h
  split at h
  · exact evF_ok (C:=bitio_Writer_put_C R k) (an:=An) (t:=bitio_Writer_put_at) (fn:=Try.f59) (c:=(Try.f59.body.getD .skip)) (ifn:=bitio_Writer_put_f) (bitio_Writer_put_S R k) (bitio_Writer_put_J R k) Try.func59 (by kernel_rfl) (by kernel_rfl) (And.intro True.intro (And.intro True.intro (And.intro True.intro (And.intro (And.intro True.intro (And.intro True.intro True.intro)) (And.intro True.intro (And.intro True.intro (And.intro (bitio_Writer_put_j0 k) True.intro))))))) rfl (Eq.trans (bitio_Writer_put_e (bitio_Writer_put_p0 k) k _ _ H K) h)
  · cases h
end Go.Proofs.Ytmanlfonppfhaaa.Sh
