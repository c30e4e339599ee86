/- Lean functions that stand for Go's,over an explicit heap,and the proofs that they do (written by this claim's program shallow.py). -/
import Derived.Test.YtmanlfonppfhaaaSh0
set_option maxRecDepth 100000
set_option linter.unusedVariables false
set_option linter.unusedSimpArgs false
namespace Go.Proofs.Ytmanlfonppfhaaa.Sh
open Go.Proofs.Ytmanlfonppfhaaa.FW
abbrev pkthead_State_Passes_p0_t (R:Type):Type:=Oa → Int → Heap → (Oa → Int → Option R) → (Int → Option R) → Option R
def pkthead_State_Passes_p0_b {R:Type} (k:Nat) (p624:Oa) (n625:Int) (H:Heap) (KN:Oa → Int → Option R) (KR:Int → Option R):Option R :=
bif p624.isNone then (KR 0)
 else (bif decide (n625 < 0) then (KR 0)
 else (hnil p624 fun p626 =>
hfad 9 p626 fun p627 =>
ldL H p627 fun q628 l629 c630 =>
bif decide (n625 ≥ ((l629:Nat):Int)) then (KR 0)
 else (KN p624 n625)))
def pkthead_State_Passes_p0 {R:Type} (k:Nat) (p624:Oa) (n625:Int) (H:Heap) (KN:Oa → Int → Option R) (KR:Int → Option R):Option R:=pkthead_State_Passes_p0_b k p624 n625 H KN KR
abbrev pkthead_State_Passes_t (R:Type):Type:=Oa → Int → Heap → (Int → Option R) → Option R
def pkthead_State_Passes_b {R:Type} (pkthead_State_Passes_p0:pkthead_State_Passes_p0_t R) (k:Nat) (p622:Oa) (n623:Int) (H:Heap) (K:Int → Option R):Option R :=
pkthead_State_Passes_p0 p622 n623 H (fun p634 n635 =>
hnil p634 fun p636 =>
hfad 9 p636 fun p637 =>
ldL H p637 fun q638 l639 c640 =>
hidx q638 l639 n635 10 fun p641 =>
hfad 5 p641 fun p642 =>
ldI .i64 H p642 fun n643 =>
K n643) (fun n644 =>
K n644)
def pkthead_State_Passes {R:Type} (k:Nat) (p622:Oa) (n623:Int) (H:Heap) (K:Int → Option R):Option R:=pkthead_State_Passes_b (pkthead_State_Passes_p0 k) k p622 n623 H K
def pkthead_State_Passes_Ct {R:Type}:Tab R:=fun _ _ _ _ => none
def pkthead_State_Passes_C (R:Type) (k:Nat):Tab R:=pkthead_State_Passes_Ct
theorem pkthead_State_Passes_S (R:Type) (k:Nat):CSound Try.prog (pkthead_State_Passes_C R k):=csound_nil
def pkthead_State_Passes_aa0 {R:Type} (f:pkthead_State_Passes_p0_t R) (n:Nat) (vals:List Value) (H:Heap) (K:Xit → Env → Heap → Option R):Option R :=
  match vals with
  | [.pointer p624,.int .i64 n625] => f p624 n625 H (fun p1532 n1533 => K .normal [(0,.pointer p1532),(1,.int .i64 n1533)] H) (fun n1534 => K .ret [(4,.int .i64 n1534)] H)
  | _ => none
def pkthead_State_Passes_a0 (R:Type) (k n:Nat) (vals:List Value) (H:Heap) (K:Xit → Env → Heap → Option R):Option R:=pkthead_State_Passes_aa0 (pkthead_State_Passes_p0 k) n vals H K
def pkthead_State_Passes_Jt {R:Type} (k:Nat) (pkthead_State_Passes_p0:pkthead_State_Passes_p0_t R):JTab R:=tcons 0 (pkthead_State_Passes_aa0 pkthead_State_Passes_p0 k) <| fun _ _ _ _ => none
def pkthead_State_Passes_J (R:Type) (k:Nat):JTab R:=pkthead_State_Passes_Jt k (pkthead_State_Passes_p0 k)
def pkthead_State_Passes_at:AT:=(.seq (.reg [0,1] []) (.seq (.opq 0 [0,1] ⟨[0,1],[],[4]⟩ (.seq (.reg [0,1,19] []) (.cond (.seq (.reg [4] []) .leaf) .leaf))) (.seq (.reg [4] []) .leaf)))
def pkthead_State_Passes_i0:IC:=(.seq (.reg [⟨some 5,.mov (.t 0),none⟩,
⟨some 6,.eqnil (.t 5) false 0,none⟩,
⟨some 7,.mov (.t 6),none⟩,
⟨some 8,.mov (.t 1),some (7,false)⟩,
⟨some 9,.cmp .lss (.t 8) (.c (Go.Value.int Go.IntKind.i64 0)),some (7,false)⟩,
⟨some 10,.pick (.t 7) (.c (Go.Value.bool true)) (.t 9),none⟩,
⟨some 11,.mov (.t 10),none⟩,
⟨some 12,.mov (.t 1),some (11,false)⟩,
⟨some 13,.mov (.t 0),some (11,false)⟩,
⟨some 14,.nilc (.t 13),some (11,false)⟩,
⟨some 15,.fad 9 (.t 14),some (11,false)⟩,
⟨some 16,.ld (.sc .slc) (.t 15),some (11,false)⟩,
⟨some 17,.len false (.t 16),some (11,false)⟩,
⟨some 18,.cmp .geq (.t 12) (.t 17),some (11,false)⟩,
⟨some 19,.pick (.t 11) (.c (Go.Value.bool true)) (.t 18),none⟩] [0,1,19]) (.cond (.t 19) (.seq (.reg [⟨some 4,.mov (.c (Go.Value.int Go.IntKind.i64 0)),none⟩] [4]) .ret) .skip))
def pkthead_State_Passes_f:IFn:=⟨28,[.t 4],(.seq (.reg [⟨some 4,.mov (.c (Go.Value.int Go.IntKind.i64 0)),none⟩] [0,1]) (.seq (.opq 0 [0,1] pkthead_State_Passes_i0) (.seq (.reg [⟨some 20,.mov (.t 0),none⟩,
⟨some 21,.nilc (.t 20),none⟩,
⟨some 22,.fad 9 (.t 21),none⟩,
⟨some 23,.ld (.sc .slc) (.t 22),none⟩,
⟨some 24,.mov (.t 1),none⟩,
⟨some 25,.ids 10 (.t 23) (.t 24),none⟩,
⟨some 26,.fad 5 (.t 25),none⟩,
⟨some 27,.ld (.sc (.int .i64)) (.t 26),none⟩,
⟨some 4,.mov (.t 27),none⟩] [4]) .ret)))⟩
theorem pkthead_State_Passes_e0 {R:Type} (pkthead_State_Passes_p0:pkthead_State_Passes_p0_t R) (k:Nat) (p624:Oa) (n625:Int) (H:Heap) (K:Xit → Env → Heap → Option R):evJ (pkthead_State_Passes_Ct) (pkthead_State_Passes_Jt k pkthead_State_Passes_p0) pkthead_State_Passes_i0 (List.zip [0,1] [.pointer p624,.int .i64 n625]) H (fun x e' H' => K x (clean e' ((⟨[0,1],[],[4]⟩:Out).of x)) H') = pkthead_State_Passes_p0_b k p624 n625 H (fun p1532 n1533 => K .normal [(0,.pointer p1532),(1,.int .i64 n1533)] H) (fun n1534 => K .ret [(4,.int .i64 n1534)] H):=by kernel_rfl
theorem pkthead_State_Passes_j0 {R:Type} (k:Nat):JS Try.prog 28 (pkthead_State_Passes_a0 R k k) [0,1] ⟨[0,1],[],[4]⟩ (sel [1,0] (Try.f14.body.getD .skip)) :=
  piece_ok (nt:=28) (c:=(sel [1,0] (Try.f14.body.getD .skip))) (C:=pkthead_State_Passes_C R k) (an:=An) (t:=(.seq (.reg [0,1,19] []) (.cond (.seq (.reg [4] []) .leaf) .leaf))) (ic:=pkthead_State_Passes_i0) (pkthead_State_Passes_S R k) (pkthead_State_Passes_J R k) (by kernel_rfl) (And.intro True.intro (And.intro (And.intro True.intro True.intro) True.intro)) (pkthead_State_Passes_a0 R k k)
    (fun vals H K r h => by
      unfold pkthead_State_Passes_a0 pkthead_State_Passes_aa0 at h
      split at h <;> first | (cases h; done) | exact Eq.trans (pkthead_State_Passes_e0 (pkthead_State_Passes_p0 k) k _ _ H K) h)
def pkthead_State_Passes_ca {R:Type} (f:pkthead_State_Passes_t R) (args:List Value) (H:Heap) (K:Value → Heap → Option R):Option R :=
  match args with
  | [.pointer p622,.int .i64 n623] => f p622 n623 H (fun n1535 => K (.int .i64 n1535) H)
  | _ => none
def pkthead_State_Passes_c (R:Type) (k:Nat) (args:List Value) (H:Heap) (K:Value → Heap → Option R):Option R:=pkthead_State_Passes_ca (pkthead_State_Passes k) args H K
theorem pkthead_State_Passes_e {R:Type} (pkthead_State_Passes_p0:pkthead_State_Passes_p0_t R) (k:Nat) (p622:Oa) (n623:Int) (H:Heap) (K:Value → Heap → Option R):evF (pkthead_State_Passes_Ct) (pkthead_State_Passes_Jt k pkthead_State_Passes_p0) pkthead_State_Passes_f [.pointer p622,.int .i64 n623] H K = pkthead_State_Passes_b pkthead_State_Passes_p0 k p622 n623 H (fun n1535 => K (.int .i64 n1535) H):=by kernel_rfl
theorem pkthead_State_Passes_cs (R:Type) (k:Nat):∀ args H K r,pkthead_State_Passes_c R k args H K = some r → ∃ v H',Tri Try.prog 14 args H v H' ∧ K v H' = some r:=by
  intro args H K r h
  unfold pkthead_State_Passes_c pkthead_State_Passes_ca at h
  split at h
  · exact evF_ok (C:=pkthead_State_Passes_C R k) (an:=An) (t:=pkthead_State_Passes_at) (fn:=Try.f14) (c:=(Try.f14.body.getD .skip)) (ifn:=pkthead_State_Passes_f) (pkthead_State_Passes_S R k) (pkthead_State_Passes_J R k) Try.func14 (by kernel_rfl) (by kernel_rfl) (And.intro True.intro (And.intro (pkthead_State_Passes_j0 k) (And.intro True.intro True.intro))) rfl (Eq.trans (pkthead_State_Passes_e (pkthead_State_Passes_p0 k) k _ _ H K) h)
  · cases h
abbrev tagtree_Tree_Clone_l0_t (R:Type):Type:=(Oa → Heap → Option R) → Nat → Oa → Oa → Nat → Nat → Int → Int → Heap → Option R
def tagtree_Tree_Clone_l0_b {R:Type} (rec:Oa → Oa → Nat → Nat → Int → Int → Heap → Option R) (KE0:Oa → Heap → Option R) (k:Nat) (p732:Oa) (q733:Oa) (l734:Nat) (c735:Nat) (n736:Int) (n737:Int) (H:Heap):Option R :=
bif decide (n737 < n736) then (hidx q733 l734 n737 3 fun p738 =>
ldI .i64 H (pad p738 0) fun n739 =>
ldI .i64 H (pad p738 1) fun n740 =>
ldL H (pad p738 2) fun q741 l742 c743 =>
hal H [.int .i64 0,.int .i64 0,.slice none 0 0] fun p744 H745 =>
hst H745 p744 [.int .i64 n739,.int .i64 n740,.slice q741 l742 c743] fun H746 =>
hnil p732 fun p747 =>
hfad 0 p747 fun p748 =>
ldL H746 p748 fun q749 l750 c751 =>
hfad 0 p744 fun p752 =>
ldI .i64 H746 p752 fun n753 =>
hfad 1 p744 fun p754 =>
ldI .i64 H746 p754 fun n755 =>
hfad 2 p744 fun p756 =>
ldL H746 p756 fun q757 l758 c759 =>
hapnS 3 24 H746 none 0 0 q757 l758 fun q760 l761 c762 H763 =>
hal H763 [.int .i64 n753,.int .i64 n755,.slice q760 l761 c762] fun p764 H765 =>
happS 3 40 H765 q749 l750 c751 p764 1 fun q766 l767 c768 H769 =>
hnil p732 fun p770 =>
hfad 0 p770 fun p771 =>
hst1 H769 p771 (.slice q766 l767 c768) fun H772 =>
rec p732 q733 l734 c735 n736 (IntKind.wrap .i64 (n737 + 1)) H772)
 else (KE0 p732 H)
def tagtree_Tree_Clone_l0 {R:Type} (k:Nat) (KE0:Oa → Heap → Option R):Nat → Oa → Oa → Nat → Nat → Int → Int → Heap → Option R
  | 0,_,_,_,_,_,_,_ => none
  | n + 1,p732,q733,l734,c735,n736,n737,H => tagtree_Tree_Clone_l0_b (tagtree_Tree_Clone_l0 k KE0 n) KE0 k p732 q733 l734 c735 n736 n737 H
abbrev tagtree_Tree_Clone_t (R:Type):Type:=Oa → Heap → (Oa → Heap → Option R) → Option R
def tagtree_Tree_Clone_b {R:Type} (tagtree_Tree_ok:tagtree_Tree_ok_t R) (tagtree_Tree_Clone_l0:tagtree_Tree_Clone_l0_t R) (k:Nat) (p717:Oa) (H:Heap) (K:Oa → Heap → Option R):Option R :=
tagtree_Tree_ok p717 H fun t718 =>
bif (!t718) then (K none H)
 else (hnil p717 fun p719 =>
hfad 1 p719 fun p720 =>
ldB H p720 fun t721 =>
hnil p717 fun p722 =>
hfad 2 p722 fun p723 =>
ldB H p723 fun t724 =>
hal H [.slice none 0 0,.bool t721,.bool t724] fun p725 H726 =>
hnil p717 fun p727 =>
hfad 0 p727 fun p728 =>
ldL H726 p728 fun q729 l730 c731 =>
tagtree_Tree_Clone_l0 (fun p774 H775 =>
K p774 H775) k p725 q729 l730 c731 ((l730:Nat):Int) 0 H726)
def tagtree_Tree_Clone {R:Type} (k:Nat) (p717:Oa) (H:Heap) (K:Oa → Heap → Option R):Option R:=tagtree_Tree_Clone_b tagtree_Tree_ok (tagtree_Tree_Clone_l0 k) k p717 H K
def tagtree_Tree_Clone_Ct {R:Type} (tagtree_Tree_ok:tagtree_Tree_ok_t R):Tab R:=tcons 54 (tagtree_Tree_ok_ca tagtree_Tree_ok) <| fun _ _ _ _ => none
def tagtree_Tree_Clone_C (R:Type) (k:Nat):Tab R:=tagtree_Tree_Clone_Ct tagtree_Tree_ok
theorem tagtree_Tree_Clone_S (R:Type) (k:Nat):CSound Try.prog (tagtree_Tree_Clone_C R k):=csound_cons (tagtree_Tree_ok_cs R k) <| csound_nil
def tagtree_Tree_Clone_aa0 {R:Type} (f:tagtree_Tree_Clone_l0_t R) (n:Nat) (vals:List Value) (H:Heap) (K:Xit → Env → Heap → Option R):Option R :=
  match vals with
  | [.pointer p732,.slice q733 l734 c735,.int .i64 n736,.int .i64 n737] => f (fun p1536 H => K (.exit 0) [(3,.pointer p1536)] H) n p732 q733 l734 c735 n736 n737 H
  | _ => none
def tagtree_Tree_Clone_a0 (R:Type) (k n:Nat) (vals:List Value) (H:Heap) (K:Xit → Env → Heap → Option R):Option R:=tagtree_Tree_Clone_aa0 (tagtree_Tree_Clone_l0 k) n vals H K
def tagtree_Tree_Clone_Jt {R:Type} (k:Nat) (tagtree_Tree_Clone_l0:tagtree_Tree_Clone_l0_t R):JTab R:=tcons 0 (tagtree_Tree_Clone_aa0 tagtree_Tree_Clone_l0 k) <| fun _ _ _ _ => none
def tagtree_Tree_Clone_J (R:Type) (k:Nat):JTab R:=tagtree_Tree_Clone_Jt k (tagtree_Tree_Clone_l0 k)
def tagtree_Tree_Clone_at:AT:=(.seq (.reg [0] []) (.seq (.seq (.reg [0,8] []) (.cond (.seq (.reg [2] []) .leaf) .leaf)) (.seq (.reg [0,3] [[],[0],[0,1],[0,1,2],[],[4],[4,5],[4,5,6],[0,1,2,3,4,5,6,7],[0,1,2,3,4,5,6,7,8],[0,1,2,3,4,5,6,7,8,9]]) (.seq (.seq (.reg [3,22,23,24] []) (.node (.opq 0 [3,22,23,24] ⟨[],[(0,[3])],[]⟩ (.node (.seq (.reg [3,22,23,24,25] []) (.seq (.cond .leaf .leaf) (.seq (.node (.seq (.reg [3,5,22,23,24] []) (.reg [3,22,23,24] [[],[],[1],[1,2],[1,2,3],[],[5],[],[7],[],[9],[9,10],[5,6,7,8,9,10,11],[5,6,7,8,9,10,11,12],[1,2,3,4,5,6,7,8,9,10,11,12,13],[0,1,2,3,4,5,6,7,8,9,10,11,12,13,14],[0,1,2,3,4,5,6,7,8,9,10,11,12,13,14,15],[0,1,2,3,4,5,6,7,8,9,10,11,12,13,14,15,16]]))) (.reg [3,22,23,24] [])))))))) (.seq (.reg [2] []) .leaf)))))
def tagtree_Tree_Clone_i0:IC:=(.seq (.reg [⟨some 25,.cmp .lss (.t 24) (.t 23),none⟩] [3,22,23,24,25]) (.seq (.cond (.t 25) .skip (.exit 0)) (.seq (.block 1 (.seq (.reg [⟨some 26,.ids 3 (.t 22) (.t 24),none⟩,
⟨some 27,.ld (.agg [(.int .i64),(.int .i64),.slc]) (.t 26),none⟩,
⟨some 5,.alc [.int .i64 0,.int .i64 0,.slice none 0 0],none⟩,
⟨none,.st 3 (.t 5) (.t 27),none⟩] [3,5,22,23,24]) (.reg [⟨some 28,.mov (.t 3),none⟩,
⟨some 29,.mov (.t 3),none⟩,
⟨some 30,.nilc (.t 29),none⟩,
⟨some 31,.fad 0 (.t 30),none⟩,
⟨some 32,.ld (.sc .slc) (.t 31),none⟩,
⟨some 33,.fad 0 (.t 5),none⟩,
⟨some 34,.ld (.sc (.int .i64)) (.t 33),none⟩,
⟨some 35,.fad 1 (.t 5),none⟩,
⟨some 36,.ld (.sc (.int .i64)) (.t 35),none⟩,
⟨some 37,.fad 2 (.t 5),none⟩,
⟨some 38,.ld (.sc .slc) (.t 37),none⟩,
⟨some 39,.apn [.int .i64 0,.int .i64 0,.bool false] 24 (.c (Go.Value.slice none 0 0)) (.t 38),none⟩,
⟨some 40,.bld [.int .i64 0,.int .i64 0,.slice none 0 0] [(0,1,(.t 34)),(1,1,(.t 36)),(2,1,(.t 39))],none⟩,
⟨some 41,.bls 1 [.int .i64 0,.int .i64 0,.slice none 0 0] [(0,3,(.t 40))],none⟩,
⟨some 42,.app [.int .i64 0,.int .i64 0,.slice none 0 0] 40 (.t 32) (.t 41),none⟩,
⟨some 43,.nilc (.t 28),none⟩,
⟨some 44,.fad 0 (.t 43),none⟩,
⟨none,.st 1 (.t 44) (.t 42),none⟩] [3,22,23,24]))) (.reg [⟨some 45,.bin .add .i64 (.t 24) (.c (Go.Value.int Go.IntKind.i64 1)),none⟩,
⟨some 24,.mov (.t 45),none⟩] [3,22,23,24]))))
def tagtree_Tree_Clone_f:IFn:=⟨47,[.t 2],(.seq (.reg [⟨some 2,.mov (.c (Go.Value.pointer none)),none⟩] [0]) (.seq (.seq (.reg [⟨some 6,.mov (.t 0),none⟩,
⟨some 7,.call 54 [(.t 6)] (.one (.sc .bool)),none⟩,
⟨some 8,.lnot (.t 7),none⟩] [0,8]) (.cond (.t 8) (.seq (.reg [⟨some 2,.mov (.c (Go.Value.pointer none)),none⟩] [2]) .ret) .skip)) (.seq (.reg [⟨some 9,.mov (.t 0),none⟩,
⟨some 10,.nilc (.t 9),none⟩,
⟨some 11,.fad 1 (.t 10),none⟩,
⟨some 12,.ld (.sc .bool) (.t 11),none⟩,
⟨some 13,.mov (.t 0),none⟩,
⟨some 14,.nilc (.t 13),none⟩,
⟨some 15,.fad 2 (.t 14),none⟩,
⟨some 16,.ld (.sc .bool) (.t 15),none⟩,
⟨some 17,.bld [.slice none 0 0,.bool false,.bool false] [(1,1,(.t 12)),(2,1,(.t 16))],none⟩,
⟨some 18,.box (.t 17),none⟩,
⟨some 3,.mov (.t 18),none⟩] [0,3]) (.seq (.seq (.reg [⟨some 19,.mov (.t 0),none⟩,
⟨some 20,.nilc (.t 19),none⟩,
⟨some 21,.fad 0 (.t 20),none⟩,
⟨some 22,.ld (.sc .slc) (.t 21),none⟩,
⟨some 23,.len false (.t 22),none⟩,
⟨some 24,.mov (.c (Go.Value.int Go.IntKind.i64 0)),none⟩] [3,22,23,24]) (.block 0 (.opq 0 [3,22,23,24] (.loop tagtree_Tree_Clone_i0)))) (.seq (.reg [⟨some 46,.mov (.t 3),none⟩,
⟨some 2,.mov (.t 46),none⟩] [2]) .ret)))))⟩
theorem tagtree_Tree_Clone_e0 {R:Type} (tagtree_Tree_ok:tagtree_Tree_ok_t R) (tagtree_Tree_Clone_l0:tagtree_Tree_Clone_l0_t R) (k n:Nat) (p732:Oa) (q733:Oa) (l734:Nat) (c735:Nat) (n736:Int) (n737:Int) (H:Heap) (K:Xit → Env → Heap → Option R):evJ (tagtree_Tree_Clone_Ct tagtree_Tree_ok) (tagtree_Tree_Clone_Jt k tagtree_Tree_Clone_l0) tagtree_Tree_Clone_i0 (List.zip [3,22,23,24] [.pointer p732,.slice q733 l734 c735,.int .i64 n736,.int .i64 n737]) H (fun x e' H' => match x with | .normal => tagtree_Tree_Clone_aa0 tagtree_Tree_Clone_l0 n ((clean e' [3,22,23,24]).map (·.2)) H' K | x => K x (clean e' ((⟨[],[(0,[3])],[]⟩:Out).of x)) H') = tagtree_Tree_Clone_l0_b (tagtree_Tree_Clone_l0 (fun p1536 H => K (.exit 0) [(3,.pointer p1536)] H) n) (fun p1536 H => K (.exit 0) [(3,.pointer p1536)] H) k p732 q733 l734 c735 n736 n737 H:=by kernel_rfl
theorem tagtree_Tree_Clone_j0 {R:Type} (k:Nat):JS Try.prog 47 (tagtree_Tree_Clone_a0 R k k) [3,22,23,24] ⟨[],[(0,[3])],[]⟩ (.loop (sel [1,1,1,0,1,0,0] (Try.f43.body.getD .skip))) :=
  loop_ok (nt:=47) (c:=(sel [1,1,1,0,1,0,0] (Try.f43.body.getD .skip))) (C:=tagtree_Tree_Clone_C R k) (an:=An) (t:=(.seq (.reg [3,22,23,24,25] []) (.seq (.cond .leaf .leaf) (.seq (.node (.seq (.reg [3,5,22,23,24] []) (.reg [3,22,23,24] [[],[],[1],[1,2],[1,2,3],[],[5],[],[7],[],[9],[9,10],[5,6,7,8,9,10,11],[5,6,7,8,9,10,11,12],[1,2,3,4,5,6,7,8,9,10,11,12,13],[0,1,2,3,4,5,6,7,8,9,10,11,12,13,14],[0,1,2,3,4,5,6,7,8,9,10,11,12,13,14,15],[0,1,2,3,4,5,6,7,8,9,10,11,12,13,14,15,16]]))) (.reg [3,22,23,24] []))))) (ic:=tagtree_Tree_Clone_i0) (tagtree_Tree_Clone_S R k) (tagtree_Tree_Clone_J R k) (by kernel_rfl) (And.intro True.intro (And.intro (And.intro True.intro True.intro) (And.intro (And.intro True.intro True.intro) True.intro))) (tagtree_Tree_Clone_a0 R k) (fun vals H K => by unfold tagtree_Tree_Clone_a0 tagtree_Tree_Clone_aa0; split <;> rfl)
    (fun n vals H K r h => by
      unfold tagtree_Tree_Clone_a0 tagtree_Tree_Clone_aa0 at h
      split at h <;> first | (cases h; done) | exact Eq.trans (tagtree_Tree_Clone_e0 tagtree_Tree_ok (tagtree_Tree_Clone_l0 k) k n _ _ _ _ _ _ H K) h) k
def tagtree_Tree_Clone_ca {R:Type} (f:tagtree_Tree_Clone_t R) (args:List Value) (H:Heap) (K:Value → Heap → Option R):Option R :=
  match args with
  | [.pointer p717] => f p717 H (fun p1537 H => K (.pointer p1537) H)
  | _ => none
def tagtree_Tree_Clone_c (R:Type) (k:Nat) (args:List Value) (H:Heap) (K:Value → Heap → Option R):Option R:=tagtree_Tree_Clone_ca (tagtree_Tree_Clone k) args H K
theorem tagtree_Tree_Clone_e {R:Type} (tagtree_Tree_ok:tagtree_Tree_ok_t R) (tagtree_Tree_Clone_l0:tagtree_Tree_Clone_l0_t R) (k:Nat) (p717:Oa) (H:Heap) (K:Value → Heap → Option R):evF (tagtree_Tree_Clone_Ct tagtree_Tree_ok) (tagtree_Tree_Clone_Jt k tagtree_Tree_Clone_l0) tagtree_Tree_Clone_f [.pointer p717] H K = tagtree_Tree_Clone_b tagtree_Tree_ok tagtree_Tree_Clone_l0 k p717 H (fun p1537 H => K (.pointer p1537) H):=by kernel_rfl
theorem tagtree_Tree_Clone_cs (R:Type) (k:Nat):∀ args H K r,tagtree_Tree_Clone_c R k args H K = some r → ∃ v H',Tri Try.prog 43 args H v H' ∧ K v H' = some r:=by
  intro args H K r h
  unfold tagtree_Tree_Clone_c tagtree_Tree_Clone_ca at h
  split at h
  · exact evF_ok (C:=tagtree_Tree_Clone_C R k) (an:=An) (t:=tagtree_Tree_Clone_at) (fn:=Try.f43) (c:=(Try.f43.body.getD .skip)) (ifn:=tagtree_Tree_Clone_f) (tagtree_Tree_Clone_S R k) (tagtree_Tree_Clone_J R k) Try.func43 (by kernel_rfl) (by kernel_rfl) (And.intro True.intro (And.intro (And.intro True.intro (And.intro (And.intro True.intro True.intro) True.intro)) (And.intro True.intro (And.intro (And.intro True.intro (tagtree_Tree_Clone_j0 k)) (And.intro True.intro True.intro))))) rfl (Eq.trans (tagtree_Tree_Clone_e tagtree_Tree_ok (tagtree_Tree_Clone_l0 k) k _ H K) h)
  · cases h
abbrev pkthead_State_Clone_p0_t (R:Type):Type:=Oa → Heap → (Oa → Option R) → (Oa → Option R) → Option R
def pkthead_State_Clone_p0_b {R:Type} (k:Nat) (p651:Oa) (H:Heap) (KN:Oa → Option R) (KR:Oa → Option R):Option R :=
bif p651.isNone then (KR none)
 else (hnil p651 fun p652 =>
hfad 0 p652 fun p653 =>
ldB H p653 fun t654 =>
bif (!t654) then (KR none)
 else (KN p651))
def pkthead_State_Clone_p0 {R:Type} (k:Nat) (p651:Oa) (H:Heap) (KN:Oa → Option R) (KR:Oa → Option R):Option R:=pkthead_State_Clone_p0_b k p651 H KN KR
abbrev pkthead_State_Clone_l1_t (R:Type):Type:=(Oa → Heap → Option R) → Nat → Oa → Oa → Nat → Nat → Int → Int → Heap → Option R
def pkthead_State_Clone_l1_b {R:Type} (tagtree_Tree_Clone:tagtree_Tree_Clone_t R) (rec:Oa → Oa → Nat → Nat → Int → Int → Heap → Option R) (KE0:Oa → Heap → Option R) (k:Nat) (p695:Oa) (q696:Oa) (l697:Nat) (c698:Nat) (n699:Int) (n700:Int) (H:Heap):Option R :=
bif decide (n700 < n699) then (hidx q696 l697 n700 3 fun p701 =>
ldI .i64 H (pad p701 0) fun n702 =>
ldP H (pad p701 1) fun p703 =>
ldP H (pad p701 2) fun p704 =>
hal H [.int .i64 0,.pointer none,.pointer none] fun p705 H706 =>
hst H706 p705 [.int .i64 n702,.pointer p703,.pointer p704] fun H707 =>
hnil p695 fun p708 =>
hfad 8 p708 fun p709 =>
ldL H707 p709 fun q710 l711 c712 =>
hfad 0 p705 fun p713 =>
ldI .i64 H707 p713 fun n714 =>
hfad 1 p705 fun p715 =>
ldP H707 p715 fun p716 =>
tagtree_Tree_Clone p716 (roH H707) fun p717 H718 =>
hfad 2 p705 fun p719 =>
ldP (H707 ++ H718.drop H707.length) p719 fun p720 =>
tagtree_Tree_Clone p720 (roH (H707 ++ H718.drop H707.length)) fun p721 H722 =>
hal ((H707 ++ H718.drop H707.length) ++ H722.drop (H707 ++ H718.drop H707.length).length) [.int .i64 n714,.pointer p717,.pointer p721] fun p723 H724 =>
happS 3 24 H724 q710 l711 c712 p723 1 fun q725 l726 c727 H728 =>
hnil p695 fun p729 =>
hfad 8 p729 fun p730 =>
hst1 H728 p730 (.slice q725 l726 c727) fun H731 =>
rec p695 q696 l697 c698 n699 (IntKind.wrap .i64 (n700 + 1)) H731)
 else (KE0 p695 H)
def pkthead_State_Clone_l1 {R:Type} (k:Nat) (KE0:Oa → Heap → Option R):Nat → Oa → Oa → Nat → Nat → Int → Int → Heap → Option R
  | 0,_,_,_,_,_,_,_ => none
  | n + 1,p695,q696,l697,c698,n699,n700,H => pkthead_State_Clone_l1_b (tagtree_Tree_Clone k) (pkthead_State_Clone_l1 k KE0 n) KE0 k p695 q696 l697 c698 n699 n700 H
abbrev pkthead_State_Clone_t (R:Type):Type:=Oa → Heap → (Oa → Heap → Option R) → Option R
def pkthead_State_Clone_b {R:Type} (pkthead_State_Clone_p0:pkthead_State_Clone_p0_t R) (pkthead_State_Clone_l1:pkthead_State_Clone_l1_t R) (k:Nat) (p650:Oa) (H:Heap) (K:Oa → Heap → Option R):Option R :=
pkthead_State_Clone_p0 p650 H (fun p657 =>
hnil p657 fun p658 =>
hfad 1 p658 fun p659 =>
ldB H p659 fun t660 =>
hnil p657 fun p661 =>
hfad 2 p661 fun p662 =>
ldB H p662 fun t663 =>
hnil p657 fun p664 =>
hfad 3 p664 fun p665 =>
ldB H (pad p665 0) fun t666 =>
ldB H (pad p665 1) fun t667 =>
ldB H (pad p665 2) fun t668 =>
ldB H (pad p665 3) fun t669 =>
ldB H (pad p665 4) fun t670 =>
hnil p657 fun p671 =>
hfad 10 p671 fun p672 =>
ldI .i64 H p672 fun n673 =>
hal H [.bool true,.bool t660,.bool t663,.bool t666,.bool t667,.bool t668,.bool t669,.bool t670,.slice none 0 0,.slice none 0 0,.int .i64 n673] fun p674 H675 =>
hal H675 [] fun p676 H677 =>
hnil p657 fun p678 =>
hfad 9 p678 fun p679 =>
ldL H677 p679 fun q680 l681 c682 =>
happS 10 80 H677 p676 0 0 q680 l681 fun q683 l684 c685 H686 =>
hnil p674 fun p687 =>
hfad 9 p687 fun p688 =>
hst1 H686 p688 (.slice q683 l684 c685) fun H689 =>
hnil p657 fun p690 =>
hfad 8 p690 fun p691 =>
ldL H689 p691 fun q692 l693 c694 =>
pkthead_State_Clone_l1 (fun p733 H734 =>
K p733 H734) k p674 q692 l693 c694 ((l693:Nat):Int) 0 H689) (fun p735 =>
K p735 H)
def pkthead_State_Clone {R:Type} (k:Nat) (p650:Oa) (H:Heap) (K:Oa → Heap → Option R):Option R:=pkthead_State_Clone_b (pkthead_State_Clone_p0 k) (pkthead_State_Clone_l1 k) k p650 H K
def pkthead_State_Clone_Ct {R:Type} (tagtree_Tree_Clone:tagtree_Tree_Clone_t R):Tab R:=tcons 43 (tagtree_Tree_Clone_ca tagtree_Tree_Clone) <| fun _ _ _ _ => none
def pkthead_State_Clone_C (R:Type) (k:Nat):Tab R:=pkthead_State_Clone_Ct (tagtree_Tree_Clone k)
theorem pkthead_State_Clone_S (R:Type) (k:Nat):CSound Try.prog (pkthead_State_Clone_C R k):=csound_cons (tagtree_Tree_Clone_cs R k) <| csound_nil
def pkthead_State_Clone_aa0 {R:Type} (f:pkthead_State_Clone_p0_t R) (n:Nat) (vals:List Value) (H:Heap) (K:Xit → Env → Heap → Option R):Option R :=
  match vals with
  | [.pointer p651] => f p651 H (fun p1538 => K .normal [(0,.pointer p1538)] H) (fun p1539 => K .ret [(2,.pointer p1539)] H)
  | _ => none
def pkthead_State_Clone_a0 (R:Type) (k n:Nat) (vals:List Value) (H:Heap) (K:Xit → Env → Heap → Option R):Option R:=pkthead_State_Clone_aa0 (pkthead_State_Clone_p0 k) n vals H K
def pkthead_State_Clone_aa1 {R:Type} (f:pkthead_State_Clone_l1_t R) (n:Nat) (vals:List Value) (H:Heap) (K:Xit → Env → Heap → Option R):Option R :=
  match vals with
  | [.pointer p695,.slice q696 l697 c698,.int .i64 n699,.int .i64 n700] => f (fun p1540 H => K (.exit 0) [(3,.pointer p1540)] H) n p695 q696 l697 c698 n699 n700 H
  | _ => none
def pkthead_State_Clone_a1 (R:Type) (k n:Nat) (vals:List Value) (H:Heap) (K:Xit → Env → Heap → Option R):Option R:=pkthead_State_Clone_aa1 (pkthead_State_Clone_l1 k) n vals H K
def pkthead_State_Clone_Jt {R:Type} (k:Nat) (pkthead_State_Clone_p0:pkthead_State_Clone_p0_t R) (pkthead_State_Clone_l1:pkthead_State_Clone_l1_t R):JTab R:=tcons 0 (pkthead_State_Clone_aa0 pkthead_State_Clone_p0 k) <| tcons 1 (pkthead_State_Clone_aa1 pkthead_State_Clone_l1 k) <| fun _ _ _ _ => none
def pkthead_State_Clone_J (R:Type) (k:Nat):JTab R:=pkthead_State_Clone_Jt k (pkthead_State_Clone_p0 k) (pkthead_State_Clone_l1 k)
def pkthead_State_Clone_at:AT:=(.seq (.reg [0] []) (.seq (.opq 0 [0] ⟨[0],[],[2]⟩ (.seq (.reg [0,14] []) (.cond (.seq (.reg [2] []) .leaf) .leaf))) (.seq (.reg [0,3] [[],[0],[0,1],[0,1,2],[],[4],[4,5],[4,5,6],[],[8],[8,9],[8,9,10],[],[12],[12,13],[12,13,14],[0,1,2,3,4,5,6,7,8,9,10,11,12,13,14,15],[0,1,2,3,4,5,6,7,8,9,10,11,12,13,14,15,16],[0,1,2,3,4,5,6,7,8,9,10,11,12,13,14,15,16,17]]) (.seq (.reg [0,3] []) (.seq (.seq (.reg [3,45,46,47] []) (.node (.opq 1 [3,45,46,47] ⟨[],[(0,[3])],[]⟩ (.node (.seq (.reg [3,45,46,47,48] []) (.seq (.cond .leaf .leaf) (.seq (.node (.seq (.reg [3,5,45,46,47] []) (.reg [3,45,46,47] [[],[],[1],[1,2],[1,2,3],[],[5],[],[7],[7,8],[],[10],[7,8,9,10,11],[5,6,7,8,9,10,11,12],[5,6,7,8,9,10,11,12,13],[1,2,3,4,5,6,7,8,9,10,11,12,13,14],[0,1,2,3,4,5,6,7,8,9,10,11,12,13,14,15],[0,1,2,3,4,5,6,7,8,9,10,11,12,13,14,15,16],[0,1,2,3,4,5,6,7,8,9,10,11,12,13,14,15,16,17]]))) (.reg [3,45,46,47] [])))))))) (.seq (.reg [2] []) .leaf))))))
def pkthead_State_Clone_i1:IC:=(.seq (.reg [⟨some 48,.cmp .lss (.t 47) (.t 46),none⟩] [3,45,46,47,48]) (.seq (.cond (.t 48) .skip (.exit 0)) (.seq (.block 1 (.seq (.reg [⟨some 49,.ids 3 (.t 45) (.t 47),none⟩,
⟨some 50,.ld (.agg [(.int .i64),.ptr,.ptr]) (.t 49),none⟩,
⟨some 5,.alc [.int .i64 0,.pointer none,.pointer none],none⟩,
⟨none,.st 3 (.t 5) (.t 50),none⟩] [3,5,45,46,47]) (.reg [⟨some 51,.mov (.t 3),none⟩,
⟨some 52,.mov (.t 3),none⟩,
⟨some 53,.nilc (.t 52),none⟩,
⟨some 54,.fad 8 (.t 53),none⟩,
⟨some 55,.ld (.sc .slc) (.t 54),none⟩,
⟨some 56,.fad 0 (.t 5),none⟩,
⟨some 57,.ld (.sc (.int .i64)) (.t 56),none⟩,
⟨some 58,.fad 1 (.t 5),none⟩,
⟨some 59,.ld (.sc .ptr) (.t 58),none⟩,
⟨some 60,.calf 43 [(.t 59)] [] (.one (.sc .ptr)),none⟩,
⟨some 61,.fad 2 (.t 5),none⟩,
⟨some 62,.ld (.sc .ptr) (.t 61),none⟩,
⟨some 63,.calf 43 [(.t 62)] [] (.one (.sc .ptr)),none⟩,
⟨some 64,.bld [.int .i64 0,.pointer none,.pointer none] [(0,1,(.t 57)),(1,1,(.t 60)),(2,1,(.t 63))],none⟩,
⟨some 65,.bls 1 [.int .i64 0,.pointer none,.pointer none] [(0,3,(.t 64))],none⟩,
⟨some 66,.app [.int .i64 0,.pointer none,.pointer none] 24 (.t 55) (.t 65),none⟩,
⟨some 67,.nilc (.t 51),none⟩,
⟨some 68,.fad 8 (.t 67),none⟩,
⟨none,.st 1 (.t 68) (.t 66),none⟩] [3,45,46,47]))) (.reg [⟨some 69,.bin .add .i64 (.t 47) (.c (Go.Value.int Go.IntKind.i64 1)),none⟩,
⟨some 47,.mov (.t 69),none⟩] [3,45,46,47]))))
def pkthead_State_Clone_i0:IC:=(.seq (.reg [⟨some 6,.mov (.t 0),none⟩,
⟨some 7,.eqnil (.t 6) false 0,none⟩,
⟨some 8,.mov (.t 7),none⟩,
⟨some 9,.mov (.t 0),some (8,false)⟩,
⟨some 10,.nilc (.t 9),some (8,false)⟩,
⟨some 11,.fad 0 (.t 10),some (8,false)⟩,
⟨some 12,.ld (.sc .bool) (.t 11),some (8,false)⟩,
⟨some 13,.lnot (.t 12),some (8,false)⟩,
⟨some 14,.pick (.t 8) (.c (Go.Value.bool true)) (.t 13),none⟩] [0,14]) (.cond (.t 14) (.seq (.reg [⟨some 2,.mov (.c (Go.Value.pointer none)),none⟩] [2]) .ret) .skip))
def pkthead_State_Clone_f:IFn:=⟨71,[.t 2],(.seq (.reg [⟨some 2,.mov (.c (Go.Value.pointer none)),none⟩] [0]) (.seq (.opq 0 [0] pkthead_State_Clone_i0) (.seq (.reg [⟨some 15,.mov (.t 0),none⟩,
⟨some 16,.nilc (.t 15),none⟩,
⟨some 17,.fad 1 (.t 16),none⟩,
⟨some 18,.ld (.sc .bool) (.t 17),none⟩,
⟨some 19,.mov (.t 0),none⟩,
⟨some 20,.nilc (.t 19),none⟩,
⟨some 21,.fad 2 (.t 20),none⟩,
⟨some 22,.ld (.sc .bool) (.t 21),none⟩,
⟨some 23,.mov (.t 0),none⟩,
⟨some 24,.nilc (.t 23),none⟩,
⟨some 25,.fad 3 (.t 24),none⟩,
⟨some 26,.ld (.agg [.bool,.bool,.bool,.bool,.bool]) (.t 25),none⟩,
⟨some 27,.mov (.t 0),none⟩,
⟨some 28,.nilc (.t 27),none⟩,
⟨some 29,.fad 10 (.t 28),none⟩,
⟨some 30,.ld (.sc (.int .i64)) (.t 29),none⟩,
⟨some 31,.bld [.bool false,.bool false,.bool false,.bool false,.bool false,.bool false,.bool false,.bool false,.slice none 0 0,.slice none 0 0,.int .i64 0] [(0,1,(.c (Go.Value.bool true))),(1,1,(.t 18)),(2,1,(.t 22)),(3,5,(.t 26)),(10,1,(.t 30))],none⟩,
⟨some 32,.box (.t 31),none⟩,
⟨some 3,.mov (.t 32),none⟩] [0,3]) (.seq (.reg [⟨some 33,.mov (.t 3),none⟩,
⟨some 34,.bls 0 [] [],none⟩,
⟨some 35,.mov (.t 0),none⟩,
⟨some 36,.nilc (.t 35),none⟩,
⟨some 37,.fad 9 (.t 36),none⟩,
⟨some 38,.ld (.sc .slc) (.t 37),none⟩,
⟨some 39,.app [.int .i64 0,.int .i64 0,.int .i64 0,.bool false,.int .i64 0,.int .i64 0,.int .i64 0,.int .i64 0,.int .i64 0,.int .i64 0] 80 (.t 34) (.t 38),none⟩,
⟨some 40,.nilc (.t 33),none⟩,
⟨some 41,.fad 9 (.t 40),none⟩,
⟨none,.st 1 (.t 41) (.t 39),none⟩] [0,3]) (.seq (.seq (.reg [⟨some 42,.mov (.t 0),none⟩,
⟨some 43,.nilc (.t 42),none⟩,
⟨some 44,.fad 8 (.t 43),none⟩,
⟨some 45,.ld (.sc .slc) (.t 44),none⟩,
⟨some 46,.len false (.t 45),none⟩,
⟨some 47,.mov (.c (Go.Value.int Go.IntKind.i64 0)),none⟩] [3,45,46,47]) (.block 0 (.opq 1 [3,45,46,47] (.loop pkthead_State_Clone_i1)))) (.seq (.reg [⟨some 70,.mov (.t 3),none⟩,
⟨some 2,.mov (.t 70),none⟩] [2]) .ret))))))⟩
theorem pkthead_State_Clone_e1 {R:Type} (tagtree_Tree_Clone:tagtree_Tree_Clone_t R) (pkthead_State_Clone_p0:pkthead_State_Clone_p0_t R) (pkthead_State_Clone_l1:pkthead_State_Clone_l1_t R) (k n:Nat) (p695:Oa) (q696:Oa) (l697:Nat) (c698:Nat) (n699:Int) (n700:Int) (H:Heap) (K:Xit → Env → Heap → Option R):evJ (pkthead_State_Clone_Ct tagtree_Tree_Clone) (pkthead_State_Clone_Jt k pkthead_State_Clone_p0 pkthead_State_Clone_l1) pkthead_State_Clone_i1 (List.zip [3,45,46,47] [.pointer p695,.slice q696 l697 c698,.int .i64 n699,.int .i64 n700]) H (fun x e' H' => match x with | .normal => pkthead_State_Clone_aa1 pkthead_State_Clone_l1 n ((clean e' [3,45,46,47]).map (·.2)) H' K | x => K x (clean e' ((⟨[],[(0,[3])],[]⟩:Out).of x)) H') = pkthead_State_Clone_l1_b tagtree_Tree_Clone (pkthead_State_Clone_l1 (fun p1540 H => K (.exit 0) [(3,.pointer p1540)] H) n) (fun p1540 H => K (.exit 0) [(3,.pointer p1540)] H) k p695 q696 l697 c698 n699 n700 H:=by kernel_rfl
theorem pkthead_State_Clone_j1 {R:Type} (k:Nat):JS Try.prog 71 (pkthead_State_Clone_a1 R k k) [3,45,46,47] ⟨[],[(0,[3])],[]⟩ (.loop (sel [1,1,1,1,0,1,0,0] (Try.f27.body.getD .skip))) :=
  loop_ok (nt:=71) (c:=(sel [1,1,1,1,0,1,0,0] (Try.f27.body.getD .skip))) (C:=pkthead_State_Clone_C R k) (an:=An) (t:=(.seq (.reg [3,45,46,47,48] []) (.seq (.cond .leaf .leaf) (.seq (.node (.seq (.reg [3,5,45,46,47] []) (.reg [3,45,46,47] [[],[],[1],[1,2],[1,2,3],[],[5],[],[7],[7,8],[],[10],[7,8,9,10,11],[5,6,7,8,9,10,11,12],[5,6,7,8,9,10,11,12,13],[1,2,3,4,5,6,7,8,9,10,11,12,13,14],[0,1,2,3,4,5,6,7,8,9,10,11,12,13,14,15],[0,1,2,3,4,5,6,7,8,9,10,11,12,13,14,15,16],[0,1,2,3,4,5,6,7,8,9,10,11,12,13,14,15,16,17]]))) (.reg [3,45,46,47] []))))) (ic:=pkthead_State_Clone_i1) (pkthead_State_Clone_S R k) (pkthead_State_Clone_J R k) (by kernel_rfl) (And.intro True.intro (And.intro (And.intro True.intro True.intro) (And.intro (And.intro True.intro True.intro) True.intro))) (pkthead_State_Clone_a1 R k) (fun vals H K => by unfold pkthead_State_Clone_a1 pkthead_State_Clone_aa1; split <;> rfl)
    (fun n vals H K r h => by
      unfold pkthead_State_Clone_a1 pkthead_State_Clone_aa1 at h
      split at h <;> first | (cases h; done) | exact Eq.trans (pkthead_State_Clone_e1 (tagtree_Tree_Clone k) (pkthead_State_Clone_p0 k) (pkthead_State_Clone_l1 k) k n _ _ _ _ _ _ H K) h) k
theorem pkthead_State_Clone_e0 {R:Type} (tagtree_Tree_Clone:tagtree_Tree_Clone_t R) (pkthead_State_Clone_p0:pkthead_State_Clone_p0_t R) (pkthead_State_Clone_l1:pkthead_State_Clone_l1_t R) (k:Nat) (p651:Oa) (H:Heap) (K:Xit → Env → Heap → Option R):evJ (pkthead_State_Clone_Ct tagtree_Tree_Clone) (pkthead_State_Clone_Jt k pkthead_State_Clone_p0 pkthead_State_Clone_l1) pkthead_State_Clone_i0 (List.zip [0] [.pointer p651]) H (fun x e' H' => K x (clean e' ((⟨[0],[],[2]⟩:Out).of x)) H') = pkthead_State_Clone_p0_b k p651 H (fun p1538 => K .normal [(0,.pointer p1538)] H) (fun p1539 => K .ret [(2,.pointer p1539)] H):=by kernel_rfl
theorem pkthead_State_Clone_j0 {R:Type} (k:Nat):JS Try.prog 71 (pkthead_State_Clone_a0 R k k) [0] ⟨[0],[],[2]⟩ (sel [1,0] (Try.f27.body.getD .skip)) :=
  piece_ok (nt:=71) (c:=(sel [1,0] (Try.f27.body.getD .skip))) (C:=pkthead_State_Clone_C R k) (an:=An) (t:=(.seq (.reg [0,14] []) (.cond (.seq (.reg [2] []) .leaf) .leaf))) (ic:=pkthead_State_Clone_i0) (pkthead_State_Clone_S R k) (pkthead_State_Clone_J R k) (by kernel_rfl) (And.intro True.intro (And.intro (And.intro True.intro True.intro) True.intro)) (pkthead_State_Clone_a0 R k k)
    (fun vals H K r h => by
      unfold pkthead_State_Clone_a0 pkthead_State_Clone_aa0 at h
      split at h <;> first | (cases h; done) | exact Eq.trans (pkthead_State_Clone_e0 (tagtree_Tree_Clone k) (pkthead_State_Clone_p0 k) (pkthead_State_Clone_l1 k) k _ H K) h)
def pkthead_State_Clone_ca {R:Type} (f:pkthead_State_Clone_t R) (args:List Value) (H:Heap) (K:Value → Heap → Option R):Option R :=
  match args with
  | [.pointer p650] => f p650 H (fun p1541 H => K (.pointer p1541) H)
  | _ => none
def pkthead_State_Clone_c (R:Type) (k:Nat) (args:List Value) (H:Heap) (K:Value → Heap → Option R):Option R:=pkthead_State_Clone_ca (pkthead_State_Clone k) args H K
theorem pkthead_State_Clone_e {R:Type} (tagtree_Tree_Clone:tagtree_Tree_Clone_t R) (pkthead_State_Clone_p0:pkthead_State_Clone_p0_t R) (pkthead_State_Clone_l1:pkthead_State_Clone_l1_t R) (k:Nat) (p650:Oa) (H:Heap) (K:Value → Heap → Option R):evF (pkthead_State_Clone_Ct tagtree_Tree_Clone) (pkthead_State_Clone_Jt k pkthead_State_Clone_p0 pkthead_State_Clone_l1) pkthead_State_Clone_f [.pointer p650] H K = pkthead_State_Clone_b pkthead_State_Clone_p0 pkthead_State_Clone_l1 k p650 H (fun p1541 H => K (.pointer p1541) H):=by kernel_rfl
theorem pkthead_State_Clone_cs (R:Type) (k:Nat):∀ args H K r,pkthead_State_Clone_c R k args H K = some r → ∃ v H',Tri Try.prog 27 args H v H' ∧ K v H' = some r:=by
  intro args H K r h
  unfold pkthead_State_Clone_c pkthead_State_Clone_ca at h
  split at h
  · exact evF_ok (C:=pkthead_State_Clone_C R k) (an:=An) (t:=pkthead_State_Clone_at) (fn:=Try.f27) (c:=(Try.f27.body.getD .skip)) (ifn:=pkthead_State_Clone_f) (pkthead_State_Clone_S R k) (pkthead_State_Clone_J R k) Try.func27 (by kernel_rfl) (by kernel_rfl) (And.intro True.intro (And.intro (pkthead_State_Clone_j0 k) (And.intro True.intro (And.intro True.intro (And.intro (And.intro True.intro (pkthead_State_Clone_j1 k)) (And.intro True.intro True.intro)))))) rfl (Eq.trans (pkthead_State_Clone_e (tagtree_Tree_Clone k) (pkthead_State_Clone_p0 k) (pkthead_State_Clone_l1 k) k _ H K) h)
  · cases h
abbrev bitio_NewReader_t (R:Type):Type:=Oa → Nat → Nat → Heap → (Oa → Heap → Option R) → Option R
def bitio_NewReader_b {R:Type} (k:Nat) (q739:Oa) (l740:Nat) (c741:Nat) (H:Heap) (K:Oa → Heap → Option R):Option R :=
hapnS 1 1 H none 0 0 q739 l740 fun q742 l743 c744 H745 =>
hal H745 [.bool true,.slice q742 l743 c744,.int .i64 0,.int .i64 0] fun p746 H747 =>
K p746 H747
def bitio_NewReader {R:Type} (q739:Oa) (l740:Nat) (c741:Nat) (H:Heap) (K:Oa → Heap → Option R):Option R:=bitio_NewReader_b 0 q739 l740 c741 H K
def bitio_NewReader_Ct {R:Type}:Tab R:=fun _ _ _ _ => none
def bitio_NewReader_C (R:Type) (k:Nat):Tab R:=bitio_NewReader_Ct
theorem bitio_NewReader_S (R:Type) (k:Nat):CSound Try.prog (bitio_NewReader_C R k):=csound_nil
def bitio_NewReader_Jt {R:Type} (k:Nat):JTab R:=fun _ _ _ _ => none
def bitio_NewReader_J (R:Type) (k:Nat):JTab R:=bitio_NewReader_Jt k
def bitio_NewReader_at:AT:=(.seq (.reg [0] []) (.seq (.reg [2] []) .leaf))
def bitio_NewReader_f:IFn:=⟨7,[.t 2],(.seq (.reg [⟨some 2,.mov (.c (Go.Value.pointer none)),none⟩] [0]) (.seq (.reg [⟨some 3,.mov (.t 0),none⟩,
⟨some 4,.apn [.int .u8 0] 1 (.c (Go.Value.slice none 0 0)) (.t 3),none⟩,
⟨some 5,.bld [.bool false,.slice none 0 0,.int .i64 0,.int .i64 0] [(0,1,(.c (Go.Value.bool true))),(1,1,(.t 4))],none⟩,
⟨some 6,.box (.t 5),none⟩,
⟨some 2,.mov (.t 6),none⟩] [2]) .ret))⟩
def bitio_NewReader_ca {R:Type} (f:bitio_NewReader_t R) (args:List Value) (H:Heap) (K:Value → Heap → Option R):Option R :=
  match args with
  | [.slice q739 l740 c741] => f q739 l740 c741 H (fun p1542 H => K (.pointer p1542) H)
  | _ => none
def bitio_NewReader_c (R:Type) (k:Nat) (args:List Value) (H:Heap) (K:Value → Heap → Option R):Option R:=bitio_NewReader_ca bitio_NewReader args H K
theorem bitio_NewReader_e {R:Type} (k:Nat) (q739:Oa) (l740:Nat) (c741:Nat) (H:Heap) (K:Value → Heap → Option R):evF (bitio_NewReader_Ct) (bitio_NewReader_Jt k) bitio_NewReader_f [.slice q739 l740 c741] H K = bitio_NewReader_b k q739 l740 c741 H (fun p1542 H => K (.pointer p1542) H):=by kernel_rfl
theorem bitio_NewReader_cs (R:Type) (k:Nat):∀ args H K r,bitio_NewReader_c R k args H K = some r → ∃ v H',Tri Try.prog 32 args H v H' ∧ K v H' = some r:=by
  intro args H K r h
  unfold bitio_NewReader_c bitio_NewReader_ca at h
  split at h
  · exact evF_ok (C:=bitio_NewReader_C R 0) (an:=An) (t:=bitio_NewReader_at) (fn:=Try.f32) (c:=(Try.f32.body.getD .skip)) (ifn:=bitio_NewReader_f) (bitio_NewReader_S R 0) (bitio_NewReader_J R 0) Try.func32 (by kernel_rfl) (by kernel_rfl) (And.intro True.intro (And.intro True.intro True.intro)) rfl (Eq.trans (bitio_NewReader_e 0 _ _ _ H K) h)
  · cases h
abbrev bitio_Reader_ok_t (R:Type):Type:=Oa → Heap → (Bool → Option R) → Option R
def bitio_Reader_ok_b {R:Type} (k:Nat) (p763:Oa) (H:Heap) (K:Bool → Option R):Option R :=
bif p763.isSome then (hnil p763 fun p764 =>
hfad 0 p764 fun p765 =>
ldB H p765 fun t766 =>
K t766)
 else (K false)
def bitio_Reader_ok {R:Type} (p763:Oa) (H:Heap) (K:Bool → Option R):Option R:=bitio_Reader_ok_b 0 p763 H K
def bitio_Reader_ok_Ct {R:Type}:Tab R:=fun _ _ _ _ => none
def bitio_Reader_ok_C (R:Type) (k:Nat):Tab R:=bitio_Reader_ok_Ct
theorem bitio_Reader_ok_S (R:Type) (k:Nat):CSound Try.prog (bitio_Reader_ok_C R k):=csound_nil
def bitio_Reader_ok_Jt {R:Type} (k:Nat):JTab R:=fun _ _ _ _ => none
def bitio_Reader_ok_J (R:Type) (k:Nat):JTab R:=bitio_Reader_ok_Jt k
def bitio_Reader_ok_at:AT:=(.seq (.reg [0] []) (.seq (.reg [2] []) .leaf))
def bitio_Reader_ok_f:IFn:=⟨11,[.t 2],(.seq (.reg [⟨some 2,.mov (.c (Go.Value.bool false)),none⟩] [0]) (.seq (.reg [⟨some 3,.mov (.t 0),none⟩,
⟨some 4,.eqnil (.t 3) true 0,none⟩,
⟨some 5,.mov (.t 4),none⟩,
⟨some 6,.mov (.t 0),some (5,true)⟩,
⟨some 7,.nilc (.t 6),some (5,true)⟩,
⟨some 8,.fad 0 (.t 7),some (5,true)⟩,
⟨some 9,.ld (.sc .bool) (.t 8),some (5,true)⟩,
⟨some 10,.pick (.t 5) (.t 9) (.c (Go.Value.bool false)),none⟩,
⟨some 2,.mov (.t 10),none⟩] [2]) .ret))⟩
def bitio_Reader_ok_ca {R:Type} (f:bitio_Reader_ok_t R) (args:List Value) (H:Heap) (K:Value → Heap → Option R):Option R :=
  match args with
  | [.pointer p763] => f p763 H (fun t1543 => K (.bool t1543) H)
  | _ => none
def bitio_Reader_ok_c (R:Type) (k:Nat) (args:List Value) (H:Heap) (K:Value → Heap → Option R):Option R:=bitio_Reader_ok_ca bitio_Reader_ok args H K
theorem bitio_Reader_ok_e {R:Type} (k:Nat) (p763:Oa) (H:Heap) (K:Value → Heap → Option R):evF (bitio_Reader_ok_Ct) (bitio_Reader_ok_Jt k) bitio_Reader_ok_f [.pointer p763] H K = bitio_Reader_ok_b k p763 H (fun t1543 => K (.bool t1543) H):=by kernel_rfl
theorem bitio_Reader_ok_cs (R:Type) (k:Nat):∀ args H K r,bitio_Reader_ok_c R k args H K = some r → ∃ v H',Tri Try.prog 66 args H v H' ∧ K v H' = some r:=by
  intro args H K r h
  unfold bitio_Reader_ok_c bitio_Reader_ok_ca at h
  split at h
  · exact evF_ok (C:=bitio_Reader_ok_C R 0) (an:=An) (t:=bitio_Reader_ok_at) (fn:=Try.f66) (c:=(Try.f66.body.getD .skip)) (ifn:=bitio_Reader_ok_f) (bitio_Reader_ok_S R 0) (bitio_Reader_ok_J R 0) Try.func66 (by kernel_rfl) (by kernel_rfl) (And.intro True.intro (And.intro True.intro True.intro)) rfl (Eq.trans (bitio_Reader_ok_e 0 _ H K) h)
  · cases h
abbrev bitio_Reader_get_p2_t (R:Type):Type:=Oa → Int → Heap → (Oa → Int → Bool → Option R) → Option R
def bitio_Reader_get_p2_b {R:Type} (k:Nat) (p784:Oa) (n785:Int) (H:Heap) (KN:Oa → Int → Bool → Option R):Option R :=
hnil p784 fun p786 =>
hfad 2 p786 fun p787 =>
ldI .i64 H p787 fun n788 =>
bif decide (n788 > 0) then (hnil p784 fun p789 =>
hfad 1 p789 fun p790 =>
ldL H p790 fun q791 l792 c793 =>
hnil p784 fun p794 =>
hfad 2 p794 fun p795 =>
ldI .i64 H p795 fun n796 =>
hidx q791 l792 (IntKind.wrap .i64 (n796 - 1)) 1 fun p797 =>
ldI .u8 H p797 fun n798 =>
KN p784 n785 (n798 == 255))
 else (KN p784 n785 false)
def bitio_Reader_get_p2 {R:Type} (k:Nat) (p784:Oa) (n785:Int) (H:Heap) (KN:Oa → Int → Bool → Option R):Option R:=bitio_Reader_get_p2_b k p784 n785 H KN
abbrev bitio_Reader_get_p1_t (R:Type):Type:=Oa → Int → Heap → (Oa → Int → Option R) → (Int → Int → Option R) → Option R
def bitio_Reader_get_p1_b {R:Type} (bitio_Reader_get_p2:bitio_Reader_get_p2_t R) (k:Nat) (p782:Oa) (n783:Int) (H:Heap) (KN:Oa → Int → Option R) (KR:Int → Int → Option R):Option R :=
bitio_Reader_get_p2 p782 n783 H (fun p802 n803 t804 =>
bif t804 then (hnil p802 fun p805 =>
hfad 1 p805 fun p806 =>
ldL H p806 fun q807 l808 c809 =>
hnil p802 fun p810 =>
hfad 2 p810 fun p811 =>
ldI .i64 H p811 fun n812 =>
hidx q807 l808 n812 1 fun p813 =>
ldI .u8 H p813 fun n814 =>
bif decide (n814 ≥ 128) then (KR 0 8)
 else (KN p802 7))
 else (KN p802 n803))
def bitio_Reader_get_p1 {R:Type} (k:Nat) (p782:Oa) (n783:Int) (H:Heap) (KN:Oa → Int → Option R) (KR:Int → Int → Option R):Option R:=bitio_Reader_get_p1_b (bitio_Reader_get_p2 k) k p782 n783 H KN KR
abbrev bitio_Reader_get_p0_t (R:Type):Type:=Oa → Heap → (Oa → Heap → Option R) → (Int → Int → Heap → Option R) → Option R
def bitio_Reader_get_p0_b {R:Type} (bitio_Reader_get_p1:bitio_Reader_get_p1_t R) (k:Nat) (p770:Oa) (H:Heap) (KN:Oa → Heap → Option R) (KR:Int → Int → Heap → Option R):Option R :=
hnil p770 fun p771 =>
hfad 3 p771 fun p772 =>
ldI .i64 H p772 fun n773 =>
bif (n773 == 0) then (hnil p770 fun p774 =>
hfad 2 p774 fun p775 =>
ldI .i64 H p775 fun n776 =>
hnil p770 fun p777 =>
hfad 1 p777 fun p778 =>
ldL H p778 fun q779 l780 c781 =>
bif (n776 == ((l780:Nat):Int)) then (KR 0 7 H)
 else (bitio_Reader_get_p1 p770 8 H (fun p819 n820 =>
hnil p819 fun p821 =>
hfad 2 p821 fun p822 =>
ldI .i64 H p822 fun n823 =>
hnil p819 fun p824 =>
hfad 2 p824 fun p825 =>
hst1 H p825 (.int .i64 (IntKind.wrap .i64 (n823 + 1))) fun H826 =>
hnil p819 fun p827 =>
hfad 3 p827 fun p828 =>
hst1 H826 p828 (.int .i64 n820) fun H829 =>
KN p819 H829) (fun n830 n831 =>
KR n830 n831 H)))
 else (KN p770 H)
def bitio_Reader_get_p0 {R:Type} (k:Nat) (p770:Oa) (H:Heap) (KN:Oa → Heap → Option R) (KR:Int → Int → Heap → Option R):Option R:=bitio_Reader_get_p0_b (bitio_Reader_get_p1 k) k p770 H KN KR
abbrev bitio_Reader_get_t (R:Type):Type:=Oa → Heap → (Int → Int → Heap → Option R) → Option R
def bitio_Reader_get_b {R:Type} (bitio_Reader_get_p0:bitio_Reader_get_p0_t R) (k:Nat) (p769:Oa) (H:Heap) (K:Int → Int → Heap → Option R):Option R :=
bitio_Reader_get_p0 p769 H (fun p835 H836 =>
hnil p835 fun p837 =>
hfad 3 p837 fun p838 =>
ldI .i64 H836 p838 fun n839 =>
hnil p835 fun p840 =>
hfad 3 p840 fun p841 =>
hst1 H836 p841 (.int .i64 (IntKind.wrap .i64 (n839 - 1))) fun H842 =>
hnil p835 fun p843 =>
hfad 1 p843 fun p844 =>
ldL H842 p844 fun q845 l846 c847 =>
hnil p835 fun p848 =>
hfad 2 p848 fun p849 =>
ldI .i64 H842 p849 fun n850 =>
hidx q845 l846 (IntKind.wrap .i64 (n850 - 1)) 1 fun p851 =>
ldI .u8 H842 p851 fun n852 =>
hnil p835 fun p853 =>
hfad 3 p853 fun p854 =>
ldI .i64 H842 p854 fun n855 =>
hbin .shr .u8 n852 (IntKind.wrap .u64 n855) fun n856 =>
hbin .and .i64 (IntKind.wrap .i64 n856) 1 fun n857 =>
K n857 0 H842) (fun n858 n859 H860 =>
K n858 n859 H860)
def bitio_Reader_get {R:Type} (k:Nat) (p769:Oa) (H:Heap) (K:Int → Int → Heap → Option R):Option R:=bitio_Reader_get_b (bitio_Reader_get_p0 k) k p769 H K
def bitio_Reader_get_Ct {R:Type}:Tab R:=fun _ _ _ _ => none
def bitio_Reader_get_C (R:Type) (k:Nat):Tab R:=bitio_Reader_get_Ct
theorem bitio_Reader_get_S (R:Type) (k:Nat):CSound Try.prog (bitio_Reader_get_C R k):=csound_nil
def bitio_Reader_get_aa0 {R:Type} (f:bitio_Reader_get_p0_t R) (n:Nat) (vals:List Value) (H:Heap) (K:Xit → Env → Heap → Option R):Option R :=
  match vals with
  | [.pointer p770] => f p770 H (fun p1544 H => K .normal [(0,.pointer p1544)] H) (fun n1545 n1546 H => K .ret [(2,.int .i64 n1545),(3,.int .i64 n1546)] H)
  | _ => none
def bitio_Reader_get_a0 (R:Type) (k n:Nat) (vals:List Value) (H:Heap) (K:Xit → Env → Heap → Option R):Option R:=bitio_Reader_get_aa0 (bitio_Reader_get_p0 k) n vals H K
def bitio_Reader_get_aa1 {R:Type} (f:bitio_Reader_get_p1_t R) (n:Nat) (vals:List Value) (H:Heap) (K:Xit → Env → Heap → Option R):Option R :=
  match vals with
  | [.pointer p782,.int .i64 n783] => f p782 n783 H (fun p1547 n1548 => K .normal [(0,.pointer p1547),(4,.int .i64 n1548)] H) (fun n1549 n1550 => K .ret [(2,.int .i64 n1549),(3,.int .i64 n1550)] H)
  | _ => none
def bitio_Reader_get_a1 (R:Type) (k n:Nat) (vals:List Value) (H:Heap) (K:Xit → Env → Heap → Option R):Option R:=bitio_Reader_get_aa1 (bitio_Reader_get_p1 k) n vals H K
def bitio_Reader_get_aa2 {R:Type} (f:bitio_Reader_get_p2_t R) (n:Nat) (vals:List Value) (H:Heap) (K:Xit → Env → Heap → Option R):Option R :=
  match vals with
  | [.pointer p784,.int .i64 n785] => f p784 n785 H (fun p1551 n1552 t1553 => K .normal [(0,.pointer p1551),(4,.int .i64 n1552),(38,.bool t1553)] H)
  | _ => none
def bitio_Reader_get_a2 (R:Type) (k n:Nat) (vals:List Value) (H:Heap) (K:Xit → Env → Heap → Option R):Option R:=bitio_Reader_get_aa2 (bitio_Reader_get_p2 k) n vals H K
def bitio_Reader_get_Jt {R:Type} (k:Nat) (bitio_Reader_get_p0:bitio_Reader_get_p0_t R) (bitio_Reader_get_p1:bitio_Reader_get_p1_t R) (bitio_Reader_get_p2:bitio_Reader_get_p2_t R):JTab R:=tcons 0 (bitio_Reader_get_aa0 bitio_Reader_get_p0 k) <| tcons 1 (bitio_Reader_get_aa1 bitio_Reader_get_p1 k) <| tcons 2 (bitio_Reader_get_aa2 bitio_Reader_get_p2 k) <| fun _ _ _ _ => none
def bitio_Reader_get_J (R:Type) (k:Nat):JTab R:=bitio_Reader_get_Jt k (bitio_Reader_get_p0 k) (bitio_Reader_get_p1 k) (bitio_Reader_get_p2 k)
def bitio_Reader_get_at:AT:=(.seq (.reg [0] []) (.seq (.opq 0 [0] ⟨[0],[],[2,3]⟩ (.seq (.reg [0,9] []) (.cond (.seq (.seq (.reg [0,19] [[],[0],[0,1],[0,1,2],[],[4],[4,5],[4,5,6],[4,5,6,7],[0,1,2,3,4,5,6,7,8]]) (.cond (.seq (.reg [2,3] []) .leaf) .leaf)) (.seq (.reg [0,4] []) (.seq (.opq 1 [0,4] ⟨[0,4],[],[2,3]⟩ (.seq (.opq 2 [0,4] ⟨[0,4,38],[],[]⟩ (.reg [0,4,38] [[],[0],[0,1],[0,1,2],[0,1,2,3],[0,1,2,3,4],[0,1,2,3,4,5],[0,1,2,3,4,5,6],[0,1,2,3,4,5,6,7],[0,1,2,3,4,5,6,7,8],[0,1,2,3,4,5],[0,1,2,3,4,5,10],[0,1,2,3,4,5,10,11],[0,1,2,3,4,5,10,11,12],[0,1,2,3,4,5,10,11,12,13],[0,1,2,3,4,5,6,7,8,9,10,11,12,13,14],[0,1,2,3,4,5,6,7,8,9,10,11,12,13,14,15],[0,1,2,3,4,5,6,7,8,9,10,11,12,13,14,15,16],[0,1,2,3,4,5,6,7,8,9,10,11,12,13,14,15,16,17]])) (.cond (.seq (.seq (.reg [0,49] [[],[0],[0,1],[0,1,2],[],[4],[4,5],[4,5,6],[0,1,2,3,4,5,6,7],[0,1,2,3,4,5,6,7,8],[0,1,2,3,4,5,6,7,8,9]]) (.cond (.seq (.reg [2,3] []) .leaf) .leaf)) (.reg [0,4] [])) .leaf))) (.seq (.reg [0,4] []) (.reg [0] []))))) .leaf))) (.seq (.reg [0] []) (.seq (.reg [2,3] [[],[0],[0,1],[0,1,2],[],[4],[4,5],[4,5,6],[4,5,6,7],[0,1,2,3,4,5,6,7,8],[0,1,2,3,4,5,6,7,8,9],[],[11],[11,12],[11,12,13],[11,12,13,14],[0,1,2,3,4,5,6,7,8,9,10,11,12,13,14,15],[0,1,2,3,4,5,6,7,8,9,10,11,12,13,14,15,16],[0,1,2,3,4,5,6,7,8,9,10,11,12,13,14,15,16,17],[0,1,2,3,4,5,6,7,8,9,10,11,12,13,14,15,16,17,18],[0,1,2,3,4,5,6,7,8,9,10,11,12,13,14,15,16,17,18,19]]) .leaf))))
def bitio_Reader_get_i2:IC:=(.reg [⟨some 20,.mov (.t 0),none⟩,
⟨some 21,.nilc (.t 20),none⟩,
⟨some 22,.fad 2 (.t 21),none⟩,
⟨some 23,.ld (.sc (.int .i64)) (.t 22),none⟩,
⟨some 24,.cmp .gtr (.t 23) (.c (Go.Value.int Go.IntKind.i64 0)),none⟩,
⟨some 25,.mov (.t 24),none⟩,
⟨some 26,.mov (.t 0),some (25,true)⟩,
⟨some 27,.nilc (.t 26),some (25,true)⟩,
⟨some 28,.fad 1 (.t 27),some (25,true)⟩,
⟨some 29,.ld (.sc .slc) (.t 28),some (25,true)⟩,
⟨some 30,.mov (.t 0),some (25,true)⟩,
⟨some 31,.nilc (.t 30),some (25,true)⟩,
⟨some 32,.fad 2 (.t 31),some (25,true)⟩,
⟨some 33,.ld (.sc (.int .i64)) (.t 32),some (25,true)⟩,
⟨some 34,.bin .sub .i64 (.t 33) (.c (Go.Value.int Go.IntKind.i64 1)),some (25,true)⟩,
⟨some 35,.ids 1 (.t 29) (.t 34),some (25,true)⟩,
⟨some 36,.ld (.sc (.int .u8)) (.t 35),some (25,true)⟩,
⟨some 37,.cmp .eql (.t 36) (.c (Go.Value.int Go.IntKind.u8 255)),some (25,true)⟩,
⟨some 38,.pick (.t 25) (.t 37) (.c (Go.Value.bool false)),none⟩] [0,4,38])
def bitio_Reader_get_i1:IC:=(.seq (.opq 2 [0,4] bitio_Reader_get_i2) (.cond (.t 38) (.seq (.seq (.reg [⟨some 39,.mov (.t 0),none⟩,
⟨some 40,.nilc (.t 39),none⟩,
⟨some 41,.fad 1 (.t 40),none⟩,
⟨some 42,.ld (.sc .slc) (.t 41),none⟩,
⟨some 43,.mov (.t 0),none⟩,
⟨some 44,.nilc (.t 43),none⟩,
⟨some 45,.fad 2 (.t 44),none⟩,
⟨some 46,.ld (.sc (.int .i64)) (.t 45),none⟩,
⟨some 47,.ids 1 (.t 42) (.t 46),none⟩,
⟨some 48,.ld (.sc (.int .u8)) (.t 47),none⟩,
⟨some 49,.cmp .geq (.t 48) (.c (Go.Value.int Go.IntKind.u8 128)),none⟩] [0,49]) (.cond (.t 49) (.seq (.reg [⟨some 2,.mov (.c (Go.Value.int Go.IntKind.i64 0)),none⟩,
⟨some 3,.mov (.c (Go.Value.int Go.IntKind.i64 8)),none⟩] [2,3]) .ret) .skip)) (.reg [⟨some 4,.mov (.c (Go.Value.int Go.IntKind.i64 7)),none⟩] [0,4])) .skip))
def bitio_Reader_get_i0:IC:=(.seq (.reg [⟨some 5,.mov (.t 0),none⟩,
⟨some 6,.nilc (.t 5),none⟩,
⟨some 7,.fad 3 (.t 6),none⟩,
⟨some 8,.ld (.sc (.int .i64)) (.t 7),none⟩,
⟨some 9,.cmp .eql (.t 8) (.c (Go.Value.int Go.IntKind.i64 0)),none⟩] [0,9]) (.cond (.t 9) (.seq (.seq (.reg [⟨some 10,.mov (.t 0),none⟩,
⟨some 11,.nilc (.t 10),none⟩,
⟨some 12,.fad 2 (.t 11),none⟩,
⟨some 13,.ld (.sc (.int .i64)) (.t 12),none⟩,
⟨some 14,.mov (.t 0),none⟩,
⟨some 15,.nilc (.t 14),none⟩,
⟨some 16,.fad 1 (.t 15),none⟩,
⟨some 17,.ld (.sc .slc) (.t 16),none⟩,
⟨some 18,.len false (.t 17),none⟩,
⟨some 19,.cmp .eql (.t 13) (.t 18),none⟩] [0,19]) (.cond (.t 19) (.seq (.reg [⟨some 2,.mov (.c (Go.Value.int Go.IntKind.i64 0)),none⟩,
⟨some 3,.mov (.c (Go.Value.int Go.IntKind.i64 7)),none⟩] [2,3]) .ret) .skip)) (.seq (.reg [⟨some 4,.mov (.c (Go.Value.int Go.IntKind.i64 8)),none⟩] [0,4]) (.seq (.opq 1 [0,4] bitio_Reader_get_i1) (.seq (.reg [⟨some 50,.mov (.t 0),none⟩,
⟨some 51,.nilc (.t 50),none⟩,
⟨some 52,.fad 2 (.t 51),none⟩,
⟨some 53,.ld (.sc (.int .i64)) (.t 52),none⟩,
⟨some 54,.bin .add .i64 (.t 53) (.c (Go.Value.int Go.IntKind.i64 1)),none⟩,
⟨some 55,.nilc (.t 50),none⟩,
⟨some 56,.fad 2 (.t 55),none⟩,
⟨none,.st 1 (.t 56) (.t 54),none⟩] [0,4]) (.reg [⟨some 57,.mov (.t 0),none⟩,
⟨some 58,.mov (.t 4),none⟩,
⟨some 59,.nilc (.t 57),none⟩,
⟨some 60,.fad 3 (.t 59),none⟩,
⟨none,.st 1 (.t 60) (.t 58),none⟩] [0]))))) .skip))
def bitio_Reader_get_f:IFn:=⟨87,[.t 2,.t 3],(.seq (.reg [⟨some 2,.mov (.c (Go.Value.int Go.IntKind.i64 0)),none⟩,
⟨some 3,.mov (.c (Go.Value.int Go.IntKind.i64 0)),none⟩] [0]) (.seq (.opq 0 [0] bitio_Reader_get_i0) (.seq (.reg [⟨some 61,.mov (.t 0),none⟩,
⟨some 62,.nilc (.t 61),none⟩,
⟨some 63,.fad 3 (.t 62),none⟩,
⟨some 64,.ld (.sc (.int .i64)) (.t 63),none⟩,
⟨some 65,.bin .sub .i64 (.t 64) (.c (Go.Value.int Go.IntKind.i64 1)),none⟩,
⟨some 66,.nilc (.t 61),none⟩,
⟨some 67,.fad 3 (.t 66),none⟩,
⟨none,.st 1 (.t 67) (.t 65),none⟩] [0]) (.seq (.reg [⟨some 68,.mov (.t 0),none⟩,
⟨some 69,.nilc (.t 68),none⟩,
⟨some 70,.fad 1 (.t 69),none⟩,
⟨some 71,.ld (.sc .slc) (.t 70),none⟩,
⟨some 72,.mov (.t 0),none⟩,
⟨some 73,.nilc (.t 72),none⟩,
⟨some 74,.fad 2 (.t 73),none⟩,
⟨some 75,.ld (.sc (.int .i64)) (.t 74),none⟩,
⟨some 76,.bin .sub .i64 (.t 75) (.c (Go.Value.int Go.IntKind.i64 1)),none⟩,
⟨some 77,.ids 1 (.t 71) (.t 76),none⟩,
⟨some 78,.ld (.sc (.int .u8)) (.t 77),none⟩,
⟨some 79,.mov (.t 0),none⟩,
⟨some 80,.nilc (.t 79),none⟩,
⟨some 81,.fad 3 (.t 80),none⟩,
⟨some 82,.ld (.sc (.int .i64)) (.t 81),none⟩,
⟨some 83,.cnv .u64 (.t 82),none⟩,
⟨some 84,.bin .shr .u8 (.t 78) (.t 83),none⟩,
⟨some 85,.cnv .i64 (.t 84),none⟩,
⟨some 86,.bin .and .i64 (.t 85) (.c (Go.Value.int Go.IntKind.i64 1)),none⟩,
⟨some 2,.mov (.t 86),none⟩,
⟨some 3,.mov (.c (Go.Value.int Go.IntKind.i64 0)),none⟩] [2,3]) .ret))))⟩
theorem bitio_Reader_get_e2 {R:Type} (bitio_Reader_get_p0:bitio_Reader_get_p0_t R) (bitio_Reader_get_p1:bitio_Reader_get_p1_t R) (bitio_Reader_get_p2:bitio_Reader_get_p2_t R) (k:Nat) (p784:Oa) (n785:Int) (H:Heap) (K:Xit → Env → Heap → Option R):evJ (bitio_Reader_get_Ct) (bitio_Reader_get_Jt k bitio_Reader_get_p0 bitio_Reader_get_p1 bitio_Reader_get_p2) bitio_Reader_get_i2 (List.zip [0,4] [.pointer p784,.int .i64 n785]) H (fun x e' H' => K x (clean e' ((⟨[0,4,38],[],[]⟩:Out).of x)) H') = bitio_Reader_get_p2_b k p784 n785 H (fun p1551 n1552 t1553 => K .normal [(0,.pointer p1551),(4,.int .i64 n1552),(38,.bool t1553)] H):=by kernel_rfl
theorem bitio_Reader_get_j2 {R:Type} (k:Nat):JS Try.prog 87 (bitio_Reader_get_a2 R k k) [0,4] ⟨[0,4,38],[],[]⟩ (sel [1,0,1,0,1,1,0,0] (Try.f67.body.getD .skip)) :=
  piece_ok (nt:=87) (c:=(sel [1,0,1,0,1,1,0,0] (Try.f67.body.getD .skip))) (C:=bitio_Reader_get_C R k) (an:=An) (t:=(.reg [0,4,38] [[],[0],[0,1],[0,1,2],[0,1,2,3],[0,1,2,3,4],[0,1,2,3,4,5],[0,1,2,3,4,5,6],[0,1,2,3,4,5,6,7],[0,1,2,3,4,5,6,7,8],[0,1,2,3,4,5],[0,1,2,3,4,5,10],[0,1,2,3,4,5,10,11],[0,1,2,3,4,5,10,11,12],[0,1,2,3,4,5,10,11,12,13],[0,1,2,3,4,5,6,7,8,9,10,11,12,13,14],[0,1,2,3,4,5,6,7,8,9,10,11,12,13,14,15],[0,1,2,3,4,5,6,7,8,9,10,11,12,13,14,15,16],[0,1,2,3,4,5,6,7,8,9,10,11,12,13,14,15,16,17]])) (ic:=bitio_Reader_get_i2) (bitio_Reader_get_S R k) (bitio_Reader_get_J R k) (by kernel_rfl) True.intro (bitio_Reader_get_a2 R k k)
    (fun vals H K r h => by
      unfold bitio_Reader_get_a2 bitio_Reader_get_aa2 at h
      split at h <;> first | (cases h; done) | exact Eq.trans (bitio_Reader_get_e2 (bitio_Reader_get_p0 k) (bitio_Reader_get_p1 k) (bitio_Reader_get_p2 k) k _ _ H K) h)
theorem bitio_Reader_get_e1 {R:Type} (bitio_Reader_get_p0:bitio_Reader_get_p0_t R) (bitio_Reader_get_p1:bitio_Reader_get_p1_t R) (bitio_Reader_get_p2:bitio_Reader_get_p2_t R) (k:Nat) (p782:Oa) (n783:Int) (H:Heap) (K:Xit → Env → Heap → Option R):evJ (bitio_Reader_get_Ct) (bitio_Reader_get_Jt k bitio_Reader_get_p0 bitio_Reader_get_p1 bitio_Reader_get_p2) bitio_Reader_get_i1 (List.zip [0,4] [.pointer p782,.int .i64 n783]) H (fun x e' H' => K x (clean e' ((⟨[0,4],[],[2,3]⟩:Out).of x)) H') = bitio_Reader_get_p1_b bitio_Reader_get_p2 k p782 n783 H (fun p1547 n1548 => K .normal [(0,.pointer p1547),(4,.int .i64 n1548)] H) (fun n1549 n1550 => K .ret [(2,.int .i64 n1549),(3,.int .i64 n1550)] H):=by kernel_rfl
theorem bitio_Reader_get_j1 {R:Type} (k:Nat):JS Try.prog 87 (bitio_Reader_get_a1 R k k) [0,4] ⟨[0,4],[],[2,3]⟩ (sel [1,0,1,0,1,1,0] (Try.f67.body.getD .skip)) :=
  piece_ok (nt:=87) (c:=(sel [1,0,1,0,1,1,0] (Try.f67.body.getD .skip))) (C:=bitio_Reader_get_C R k) (an:=An) (t:=(.seq (.opq 2 [0,4] ⟨[0,4,38],[],[]⟩ (.reg [0,4,38] [[],[0],[0,1],[0,1,2],[0,1,2,3],[0,1,2,3,4],[0,1,2,3,4,5],[0,1,2,3,4,5,6],[0,1,2,3,4,5,6,7],[0,1,2,3,4,5,6,7,8],[0,1,2,3,4,5],[0,1,2,3,4,5,10],[0,1,2,3,4,5,10,11],[0,1,2,3,4,5,10,11,12],[0,1,2,3,4,5,10,11,12,13],[0,1,2,3,4,5,6,7,8,9,10,11,12,13,14],[0,1,2,3,4,5,6,7,8,9,10,11,12,13,14,15],[0,1,2,3,4,5,6,7,8,9,10,11,12,13,14,15,16],[0,1,2,3,4,5,6,7,8,9,10,11,12,13,14,15,16,17]])) (.cond (.seq (.seq (.reg [0,49] [[],[0],[0,1],[0,1,2],[],[4],[4,5],[4,5,6],[0,1,2,3,4,5,6,7],[0,1,2,3,4,5,6,7,8],[0,1,2,3,4,5,6,7,8,9]]) (.cond (.seq (.reg [2,3] []) .leaf) .leaf)) (.reg [0,4] [])) .leaf))) (ic:=bitio_Reader_get_i1) (bitio_Reader_get_S R k) (bitio_Reader_get_J R k) (by kernel_rfl) (And.intro (bitio_Reader_get_j2 k) (And.intro (And.intro (And.intro True.intro (And.intro (And.intro True.intro True.intro) True.intro)) True.intro) True.intro)) (bitio_Reader_get_a1 R k k)
    (fun vals H K r h => by
      unfold bitio_Reader_get_a1 bitio_Reader_get_aa1 at h
      split at h <;> first | (cases h; done) | exact Eq.trans (bitio_Reader_get_e1 (bitio_Reader_get_p0 k) (bitio_Reader_get_p1 k) (bitio_Reader_get_p2 k) k _ _ H K) h)
theorem bitio_Reader_get_e0 {R:Type} (bitio_Reader_get_p0:bitio_Reader_get_p0_t R) (bitio_Reader_get_p1:bitio_Reader_get_p1_t R) (bitio_Reader_get_p2:bitio_Reader_get_p2_t R) (k:Nat) (p770:Oa) (H:Heap) (K:Xit → Env → Heap → Option R):evJ (bitio_Reader_get_Ct) (bitio_Reader_get_Jt k bitio_Reader_get_p0 bitio_Reader_get_p1 bitio_Reader_get_p2) bitio_Reader_get_i0 (List.zip [0] [.pointer p770]) H (fun x e' H' => K x (clean e' ((⟨[0],[],[2,3]⟩:Out).of x)) H') = bitio_Reader_get_p0_b bitio_Reader_get_p1 k p770 H (fun p1544 H => K .normal [(0,.pointer p1544)] H) (fun n1545 n1546 H => K .ret [(2,.int .i64 n1545),(3,.int .i64 n1546)] H):=by kernel_rfl
theorem bitio_Reader_get_j0 {R:Type} (k:Nat):JS Try.prog 87 (bitio_Reader_get_a0 R k k) [0] ⟨[0],[],[2,3]⟩ (sel [1,0] (Try.f67.body.getD .skip)) :=
  piece_ok (nt:=87) (c:=(sel [1,0] (Try.f67.body.getD .skip))) (C:=bitio_Reader_get_C R k) (an:=An) (t:=(.seq (.reg [0,9] []) (.cond (.seq (.seq (.reg [0,19] [[],[0],[0,1],[0,1,2],[],[4],[4,5],[4,5,6],[4,5,6,7],[0,1,2,3,4,5,6,7,8]]) (.cond (.seq (.reg [2,3] []) .leaf) .leaf)) (.seq (.reg [0,4] []) (.seq (.opq 1 [0,4] ⟨[0,4],[],[2,3]⟩ (.seq (.opq 2 [0,4] ⟨[0,4,38],[],[]⟩ (.reg [0,4,38] [[],[0],[0,1],[0,1,2],[0,1,2,3],[0,1,2,3,4],[0,1,2,3,4,5],[0,1,2,3,4,5,6],[0,1,2,3,4,5,6,7],[0,1,2,3,4,5,6,7,8],[0,1,2,3,4,5],[0,1,2,3,4,5,10],[0,1,2,3,4,5,10,11],[0,1,2,3,4,5,10,11,12],[0,1,2,3,4,5,10,11,12,13],[0,1,2,3,4,5,6,7,8,9,10,11,12,13,14],[0,1,2,3,4,5,6,7,8,9,10,11,12,13,14,15],[0,1,2,3,4,5,6,7,8,9,10,11,12,13,14,15,16],[0,1,2,3,4,5,6,7,8,9,10,11,12,13,14,15,16,17]])) (.cond (.seq (.seq (.reg [0,49] [[],[0],[0,1],[0,1,2],[],[4],[4,5],[4,5,6],[0,1,2,3,4,5,6,7],[0,1,2,3,4,5,6,7,8],[0,1,2,3,4,5,6,7,8,9]]) (.cond (.seq (.reg [2,3] []) .leaf) .leaf)) (.reg [0,4] [])) .leaf))) (.seq (.reg [0,4] []) (.reg [0] []))))) .leaf))) (ic:=bitio_Reader_get_i0) (bitio_Reader_get_S R k) (bitio_Reader_get_J R k) (by kernel_rfl) (And.intro True.intro (And.intro (And.intro (And.intro True.intro (And.intro (And.intro True.intro True.intro) True.intro)) (And.intro True.intro (And.intro (bitio_Reader_get_j1 k) (And.intro True.intro True.intro)))) True.intro)) (bitio_Reader_get_a0 R k k)
    (fun vals H K r h => by
      unfold bitio_Reader_get_a0 bitio_Reader_get_aa0 at h
      split at h <;> first | (cases h; done) | exact Eq.trans (bitio_Reader_get_e0 (bitio_Reader_get_p0 k) (bitio_Reader_get_p1 k) (bitio_Reader_get_p2 k) k _ H K) h)
def bitio_Reader_get_ca {R:Type} (f:bitio_Reader_get_t R) (args:List Value) (H:Heap) (K:Value → Heap → Option R):Option R :=
  match args with
  | [.pointer p769] => f p769 H (fun n1554 n1555 H => K (.tuple ⟨[.int .i64 n1554,.int .i64 n1555]⟩) H)
  | _ => none
def bitio_Reader_get_c (R:Type) (k:Nat) (args:List Value) (H:Heap) (K:Value → Heap → Option R):Option R:=bitio_Reader_get_ca (bitio_Reader_get k) args H K
theorem bitio_Reader_get_e {R:Type} (bitio_Reader_get_p0:bitio_Reader_get_p0_t R) (bitio_Reader_get_p1:bitio_Reader_get_p1_t R) (bitio_Reader_get_p2:bitio_Reader_get_p2_t R) (k:Nat) (p769:Oa) (H:Heap) (K:Value → Heap → Option R):evF (bitio_Reader_get_Ct) (bitio_Reader_get_Jt k bitio_Reader_get_p0 bitio_Reader_get_p1 bitio_Reader_get_p2) bitio_Reader_get_f [.pointer p769] H K = bitio_Reader_get_b bitio_Reader_get_p0 k p769 H (fun n1554 n1555 H => K (.tuple ⟨[.int .i64 n1554,.int .i64 n1555]⟩) H):=by kernel_rfl
theorem bitio_Reader_get_cs (R:Type) (k:Nat):∀ args H K r,bitio_Reader_get_c R k args H K = some r → ∃ v H',Tri Try.prog 67 args H v H' ∧ K v H' = some r:=by
  intro args H K r h
  unfold bitio_Reader_get_c bitio_Reader_get_ca at h
  split at h
  · exact evF_ok (C:=bitio_Reader_get_C R k) (an:=An) (t:=bitio_Reader_get_at) (fn:=Try.f67) (c:=(Try.f67.body.getD .skip)) (ifn:=bitio_Reader_get_f) (bitio_Reader_get_S R k) (bitio_Reader_get_J R k) Try.func67 (by kernel_rfl) (by kernel_rfl) (And.intro True.intro (And.intro (bitio_Reader_get_j0 k) (And.intro True.intro (And.intro True.intro True.intro)))) rfl (Eq.trans (bitio_Reader_get_e (bitio_Reader_get_p0 k) (bitio_Reader_get_p1 k) (bitio_Reader_get_p2 k) k _ H K) h)
  · cases h
abbrev bitio_Reader_Get_t (R:Type):Type:=Oa → Heap → (Int → Int → Heap → Option R) → Option R
def bitio_Reader_Get_b {R:Type} (bitio_Reader_ok:bitio_Reader_ok_t R) (bitio_Reader_get:bitio_Reader_get_t R) (k:Nat) (p762:Oa) (H:Heap) (K:Int → Int → Heap → Option R):Option R :=
bitio_Reader_ok p762 H fun t763 =>
bif (!t763) then (K 0 6 H)
 else (bitio_Reader_get p762 H fun n764 n765 H766 =>
K n764 n765 H766)
def bitio_Reader_Get {R:Type} (k:Nat) (p762:Oa) (H:Heap) (K:Int → Int → Heap → Option R):Option R:=bitio_Reader_Get_b bitio_Reader_ok (bitio_Reader_get k) k p762 H K
def bitio_Reader_Get_Ct {R:Type} (bitio_Reader_ok:bitio_Reader_ok_t R) (bitio_Reader_get:bitio_Reader_get_t R):Tab R:=tcons 66 (bitio_Reader_ok_ca bitio_Reader_ok) <| tcons 67 (bitio_Reader_get_ca bitio_Reader_get) <| fun _ _ _ _ => none
def bitio_Reader_Get_C (R:Type) (k:Nat):Tab R:=bitio_Reader_Get_Ct bitio_Reader_ok (bitio_Reader_get k)
theorem bitio_Reader_Get_S (R:Type) (k:Nat):CSound Try.prog (bitio_Reader_Get_C R k):=csound_cons (bitio_Reader_ok_cs R k) <| csound_cons (bitio_Reader_get_cs R k) <| csound_nil
def bitio_Reader_Get_Jt {R:Type} (k:Nat):JTab R:=fun _ _ _ _ => none
def bitio_Reader_Get_J (R:Type) (k:Nat):JTab R:=bitio_Reader_Get_Jt k
def bitio_Reader_Get_at:AT:=(.seq (.reg [0] []) (.seq (.seq (.reg [0,6] []) (.cond (.seq (.reg [2,3] []) .leaf) .leaf)) (.seq (.reg [2,3] []) .leaf)))
def bitio_Reader_Get_f:IFn:=⟨11,[.t 2,.t 3],(.seq (.reg [⟨some 2,.mov (.c (Go.Value.int Go.IntKind.i64 0)),none⟩,
⟨some 3,.mov (.c (Go.Value.int Go.IntKind.i64 0)),none⟩] [0]) (.seq (.seq (.reg [⟨some 4,.mov (.t 0),none⟩,
⟨some 5,.call 66 [(.t 4)] (.one (.sc .bool)),none⟩,
⟨some 6,.lnot (.t 5),none⟩] [0,6]) (.cond (.t 6) (.seq (.reg [⟨some 2,.mov (.c (Go.Value.int Go.IntKind.i64 0)),none⟩,
⟨some 3,.mov (.c (Go.Value.int Go.IntKind.i64 6)),none⟩] [2,3]) .ret) .skip)) (.seq (.reg [⟨some 7,.mov (.t 0),none⟩,
⟨some 8,.call 67 [(.t 7)] (.tup [(.sc (.int .i64)),(.sc (.int .i64))]),none⟩,
⟨some 9,.ext 0 (.t 8),none⟩,
⟨some 10,.ext 1 (.t 8),none⟩,
⟨some 2,.mov (.t 9),none⟩,
⟨some 3,.mov (.t 10),none⟩] [2,3]) .ret)))⟩
def bitio_Reader_Get_ca {R:Type} (f:bitio_Reader_Get_t R) (args:List Value) (H:Heap) (K:Value → Heap → Option R):Option R :=
  match args with
  | [.pointer p762] => f p762 H (fun n1556 n1557 H => K (.tuple ⟨[.int .i64 n1556,.int .i64 n1557]⟩) H)
  | _ => none
def bitio_Reader_Get_c (R:Type) (k:Nat) (args:List Value) (H:Heap) (K:Value → Heap → Option R):Option R:=bitio_Reader_Get_ca (bitio_Reader_Get k) args H K
theorem bitio_Reader_Get_e {R:Type} (bitio_Reader_ok:bitio_Reader_ok_t R) (bitio_Reader_get:bitio_Reader_get_t R) (k:Nat) (p762:Oa) (H:Heap) (K:Value → Heap → Option R):evF (bitio_Reader_Get_Ct bitio_Reader_ok bitio_Reader_get) (bitio_Reader_Get_Jt k) bitio_Reader_Get_f [.pointer p762] H K = bitio_Reader_Get_b bitio_Reader_ok bitio_Reader_get k p762 H (fun n1556 n1557 H => K (.tuple ⟨[.int .i64 n1556,.int .i64 n1557]⟩) H):=by kernel_rfl
theorem bitio_Reader_Get_cs (R:Type) (k:Nat):∀ args H K r,bitio_Reader_Get_c R k args H K = some r → ∃ v H',Tri Try.prog 45 args H v H' ∧ K v H' = some r:=by
  intro args H K r h
  unfold bitio_Reader_Get_c bitio_Reader_Get_ca at h
  split at h
  · exact evF_ok (C:=bitio_Reader_Get_C R k) (an:=An) (t:=bitio_Reader_Get_at) (fn:=Try.f45) (c:=(Try.f45.body.getD .skip)) (ifn:=bitio_Reader_Get_f) (bitio_Reader_Get_S R k) (bitio_Reader_Get_J R k) Try.func45 (by kernel_rfl) (by kernel_rfl) (And.intro True.intro (And.intro (And.intro True.intro (And.intro (And.intro True.intro True.intro) True.intro)) (And.intro True.intro True.intro))) rfl (Eq.trans (bitio_Reader_Get_e bitio_Reader_ok (bitio_Reader_get k) k _ H K) h)
  · cases h
abbrev bitio_Reader_bits_l0_t (R:Type):Type:=(Int → Heap → Option R) → (Int → Int → Heap → Option R) → Nat → Oa → Int → Int → Int → Heap → Option R
def bitio_Reader_bits_l0_b {R:Type} (bitio_Reader_get:bitio_Reader_get_t R) (rec:Oa → Int → Int → Int → Heap → Option R) (KE0:Int → Heap → Option R) (KR:Int → Int → Heap → Option R) (k:Nat) (p905:Oa) (n906:Int) (n907:Int) (n908:Int) (H:Heap):Option R :=
bif decide (n908 < n907) then (bitio_Reader_get p905 H fun n909 n910 H911 =>
bif (n910 != 0) then (KR 0 n910 H911)
 else (hbin .or .i64 (IntKind.wrap .i64 (n906 * 2)) n909 fun n912 =>
rec p905 n912 n907 (IntKind.wrap .i64 (n908 + 1)) H911))
 else (KE0 n906 H)
def bitio_Reader_bits_l0 {R:Type} (k:Nat) (KE0:Int → Heap → Option R) (KR:Int → Int → Heap → Option R):Nat → Oa → Int → Int → Int → Heap → Option R
  | 0,_,_,_,_,_ => none
  | n + 1,p905,n906,n907,n908,H => bitio_Reader_bits_l0_b (bitio_Reader_get k) (bitio_Reader_bits_l0 k KE0 KR n) KE0 KR k p905 n906 n907 n908 H
abbrev bitio_Reader_bits_t (R:Type):Type:=Oa → Int → Heap → (Int → Int → Heap → Option R) → Option R
def bitio_Reader_bits_b {R:Type} (bitio_Reader_bits_l0:bitio_Reader_bits_l0_t R) (k:Nat) (p903:Oa) (n904:Int) (H:Heap) (K:Int → Int → Heap → Option R):Option R :=
bitio_Reader_bits_l0 (fun n916 H917 =>
K n916 0 H917) (fun n918 n919 H920 =>
K n918 n919 H920) k p903 0 n904 0 H
def bitio_Reader_bits {R:Type} (k:Nat) (p903:Oa) (n904:Int) (H:Heap) (K:Int → Int → Heap → Option R):Option R:=bitio_Reader_bits_b (bitio_Reader_bits_l0 k) k p903 n904 H K
def bitio_Reader_bits_Ct {R:Type} (bitio_Reader_get:bitio_Reader_get_t R):Tab R:=tcons 67 (bitio_Reader_get_ca bitio_Reader_get) <| fun _ _ _ _ => none
def bitio_Reader_bits_C (R:Type) (k:Nat):Tab R:=bitio_Reader_bits_Ct (bitio_Reader_get k)
theorem bitio_Reader_bits_S (R:Type) (k:Nat):CSound Try.prog (bitio_Reader_bits_C R k):=csound_cons (bitio_Reader_get_cs R k) <| csound_nil
def bitio_Reader_bits_aa0 {R:Type} (f:bitio_Reader_bits_l0_t R) (n:Nat) (vals:List Value) (H:Heap) (K:Xit → Env → Heap → Option R):Option R :=
  match vals with
  | [.pointer p905,.int .i64 n906,.int .i64 n907,.int .i64 n908] => f (fun n1558 H => K (.exit 0) [(6,.int .i64 n1558)] H) (fun n1559 n1560 H => K .ret [(4,.int .i64 n1559),(5,.int .i64 n1560)] H) n p905 n906 n907 n908 H
  | _ => none
def bitio_Reader_bits_a0 (R:Type) (k n:Nat) (vals:List Value) (H:Heap) (K:Xit → Env → Heap → Option R):Option R:=bitio_Reader_bits_aa0 (bitio_Reader_bits_l0 k) n vals H K
def bitio_Reader_bits_Jt {R:Type} (k:Nat) (bitio_Reader_bits_l0:bitio_Reader_bits_l0_t R):JTab R:=tcons 0 (bitio_Reader_bits_aa0 bitio_Reader_bits_l0 k) <| fun _ _ _ _ => none
def bitio_Reader_bits_J (R:Type) (k:Nat):JTab R:=bitio_Reader_bits_Jt k (bitio_Reader_bits_l0 k)
def bitio_Reader_bits_at:AT:=(.seq (.reg [0,1] []) (.seq (.reg [0,1,6] []) (.seq (.seq (.reg [0,6,9,10] []) (.node (.opq 0 [0,6,9,10] ⟨[],[(0,[6])],[4,5]⟩ (.node (.seq (.reg [0,6,9,10,11] []) (.seq (.cond .leaf .leaf) (.seq (.node (.seq (.reg [0,6,7,8,9,10] []) (.seq (.seq (.reg [0,6,7,8,9,10,18] []) (.cond (.seq (.reg [4,5] []) .leaf) .leaf)) (.reg [0,6,9,10] [])))) (.reg [0,6,9,10] [])))))))) (.seq (.reg [4,5] []) .leaf))))
def bitio_Reader_bits_i0:IC:=(.seq (.reg [⟨some 11,.cmp .lss (.t 10) (.t 9),none⟩] [0,6,9,10,11]) (.seq (.cond (.t 11) .skip (.exit 0)) (.seq (.block 1 (.seq (.reg [⟨some 13,.mov (.t 0),none⟩,
⟨some 14,.call 67 [(.t 13)] (.tup [(.sc (.int .i64)),(.sc (.int .i64))]),none⟩,
⟨some 12,.mov (.t 14),none⟩,
⟨some 15,.ext 0 (.t 12),none⟩,
⟨some 16,.ext 1 (.t 12),none⟩,
⟨some 7,.mov (.t 15),none⟩,
⟨some 8,.mov (.t 16),none⟩] [0,6,7,8,9,10]) (.seq (.seq (.reg [⟨some 17,.mov (.t 8),none⟩,
⟨some 18,.cmp .neq (.t 17) (.c (Go.Value.int Go.IntKind.i64 0)),none⟩] [0,6,7,8,9,10,18]) (.cond (.t 18) (.seq (.reg [⟨some 19,.mov (.t 8),none⟩,
⟨some 4,.mov (.c (Go.Value.int Go.IntKind.i64 0)),none⟩,
⟨some 5,.mov (.t 19),none⟩] [4,5]) .ret) .skip)) (.reg [⟨some 20,.mov (.t 6),none⟩,
⟨some 21,.bin .shl .i64 (.t 20) (.c (Go.Value.int Go.IntKind.u64 1)),none⟩,
⟨some 22,.mov (.t 7),none⟩,
⟨some 23,.bin .or .i64 (.t 21) (.t 22),none⟩,
⟨some 6,.mov (.t 23),none⟩] [0,6,9,10])))) (.reg [⟨some 24,.bin .add .i64 (.t 10) (.c (Go.Value.int Go.IntKind.i64 1)),none⟩,
⟨some 10,.mov (.t 24),none⟩] [0,6,9,10]))))
def bitio_Reader_bits_f:IFn:=⟨26,[.t 4,.t 5],(.seq (.reg [⟨some 4,.mov (.c (Go.Value.int Go.IntKind.i64 0)),none⟩,
⟨some 5,.mov (.c (Go.Value.int Go.IntKind.i64 0)),none⟩] [0,1]) (.seq (.reg [⟨some 6,.mov (.c (Go.Value.int Go.IntKind.i64 0)),none⟩] [0,1,6]) (.seq (.seq (.reg [⟨some 9,.mov (.t 1),none⟩,
⟨some 10,.mov (.c (Go.Value.int Go.IntKind.i64 0)),none⟩] [0,6,9,10]) (.block 0 (.opq 0 [0,6,9,10] (.loop bitio_Reader_bits_i0)))) (.seq (.reg [⟨some 25,.mov (.t 6),none⟩,
⟨some 4,.mov (.t 25),none⟩,
⟨some 5,.mov (.c (Go.Value.int Go.IntKind.i64 0)),none⟩] [4,5]) .ret))))⟩
theorem bitio_Reader_bits_e0 {R:Type} (bitio_Reader_get:bitio_Reader_get_t R) (bitio_Reader_bits_l0:bitio_Reader_bits_l0_t R) (k n:Nat) (p905:Oa) (n906:Int) (n907:Int) (n908:Int) (H:Heap) (K:Xit → Env → Heap → Option R):evJ (bitio_Reader_bits_Ct bitio_Reader_get) (bitio_Reader_bits_Jt k bitio_Reader_bits_l0) bitio_Reader_bits_i0 (List.zip [0,6,9,10] [.pointer p905,.int .i64 n906,.int .i64 n907,.int .i64 n908]) H (fun x e' H' => match x with | .normal => bitio_Reader_bits_aa0 bitio_Reader_bits_l0 n ((clean e' [0,6,9,10]).map (·.2)) H' K | x => K x (clean e' ((⟨[],[(0,[6])],[4,5]⟩:Out).of x)) H') = bitio_Reader_bits_l0_b bitio_Reader_get (bitio_Reader_bits_l0 (fun n1558 H => K (.exit 0) [(6,.int .i64 n1558)] H) (fun n1559 n1560 H => K .ret [(4,.int .i64 n1559),(5,.int .i64 n1560)] H) n) (fun n1558 H => K (.exit 0) [(6,.int .i64 n1558)] H) (fun n1559 n1560 H => K .ret [(4,.int .i64 n1559),(5,.int .i64 n1560)] H) k p905 n906 n907 n908 H:=by kernel_rfl
theorem bitio_Reader_bits_j0 {R:Type} (k:Nat):JS Try.prog 26 (bitio_Reader_bits_a0 R k k) [0,6,9,10] ⟨[],[(0,[6])],[4,5]⟩ (.loop (sel [1,1,0,1,0,0] (Try.f89.body.getD .skip))) :=
  loop_ok (nt:=26) (c:=(sel [1,1,0,1,0,0] (Try.f89.body.getD .skip))) (C:=bitio_Reader_bits_C R k) (an:=An) (t:=(.seq (.reg [0,6,9,10,11] []) (.seq (.cond .leaf .leaf) (.seq (.node (.seq (.reg [0,6,7,8,9,10] []) (.seq (.seq (.reg [0,6,7,8,9,10,18] []) (.cond (.seq (.reg [4,5] []) .leaf) .leaf)) (.reg [0,6,9,10] [])))) (.reg [0,6,9,10] []))))) (ic:=bitio_Reader_bits_i0) (bitio_Reader_bits_S R k) (bitio_Reader_bits_J R k) (by kernel_rfl) (And.intro True.intro (And.intro (And.intro True.intro True.intro) (And.intro (And.intro True.intro (And.intro (And.intro True.intro (And.intro (And.intro True.intro True.intro) True.intro)) True.intro)) True.intro))) (bitio_Reader_bits_a0 R k) (fun vals H K => by unfold bitio_Reader_bits_a0 bitio_Reader_bits_aa0; split <;> rfl)
    (fun n vals H K r h => by
      unfold bitio_Reader_bits_a0 bitio_Reader_bits_aa0 at h
      split at h <;> first | (cases h; done) | exact Eq.trans (bitio_Reader_bits_e0 (bitio_Reader_get k) (bitio_Reader_bits_l0 k) k n _ _ _ _ H K) h) k
def bitio_Reader_bits_ca {R:Type} (f:bitio_Reader_bits_t R) (args:List Value) (H:Heap) (K:Value → Heap → Option R):Option R :=
  match args with
  | [.pointer p903,.int .i64 n904] => f p903 n904 H (fun n1561 n1562 H => K (.tuple ⟨[.int .i64 n1561,.int .i64 n1562]⟩) H)
  | _ => none
def bitio_Reader_bits_c (R:Type) (k:Nat) (args:List Value) (H:Heap) (K:Value → Heap → Option R):Option R:=bitio_Reader_bits_ca (bitio_Reader_bits k) args H K
theorem bitio_Reader_bits_e {R:Type} (bitio_Reader_get:bitio_Reader_get_t R) (bitio_Reader_bits_l0:bitio_Reader_bits_l0_t R) (k:Nat) (p903:Oa) (n904:Int) (H:Heap) (K:Value → Heap → Option R):evF (bitio_Reader_bits_Ct bitio_Reader_get) (bitio_Reader_bits_Jt k bitio_Reader_bits_l0) bitio_Reader_bits_f [.pointer p903,.int .i64 n904] H K = bitio_Reader_bits_b bitio_Reader_bits_l0 k p903 n904 H (fun n1561 n1562 H => K (.tuple ⟨[.int .i64 n1561,.int .i64 n1562]⟩) H):=by kernel_rfl
theorem bitio_Reader_bits_cs (R:Type) (k:Nat):∀ args H K r,bitio_Reader_bits_c R k args H K = some r → ∃ v H',Tri Try.prog 89 args H v H' ∧ K v H' = some r:=by
  intro args H K r h
  unfold bitio_Reader_bits_c bitio_Reader_bits_ca at h
  split at h
  · exact evF_ok (C:=bitio_Reader_bits_C R k) (an:=An) (t:=bitio_Reader_bits_at) (fn:=Try.f89) (c:=(Try.f89.body.getD .skip)) (ifn:=bitio_Reader_bits_f) (bitio_Reader_bits_S R k) (bitio_Reader_bits_J R k) Try.func89 (by kernel_rfl) (by kernel_rfl) (And.intro True.intro (And.intro True.intro (And.intro (And.intro True.intro (bitio_Reader_bits_j0 k)) (And.intro True.intro True.intro)))) rfl (Eq.trans (bitio_Reader_bits_e (bitio_Reader_get k) (bitio_Reader_bits_l0 k) k _ _ H K) h)
  · cases h
end Go.Proofs.Ytmanlfonppfhaaa.Sh
