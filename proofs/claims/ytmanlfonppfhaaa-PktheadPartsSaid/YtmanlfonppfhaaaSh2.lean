/- Lean functions that stand for Go's,over an explicit heap,and the proofs that they do (written by this claim's program shallow.py). -/
import Derived.Test.YtmanlfonppfhaaaSh0
import Derived.Test.YtmanlfonppfhaaaSh1
set_option maxRecDepth 100000
set_option linter.unusedVariables false
set_option linter.unusedSimpArgs false
namespace Go.Proofs.Ytmanlfonppfhaaa.Sh
open Go.Proofs.Ytmanlfonppfhaaa.FW
abbrev bitio_Writer_Put_p0_t (R:Type):Type:=Oa → Int → (Oa → Int → Option R) → (Int → Option R) → Option R
def bitio_Writer_Put_p0_b {R:Type} (k:Nat) (p736:Oa) (n737:Int) (KN:Oa → Int → Option R) (KR:Int → Option R):Option R :=
bif (n737 != 0) then (bif (n737 != 1) then (KR 1)
 else (KN p736 n737))
 else (KN p736 n737)
def bitio_Writer_Put_p0 {R:Type} (k:Nat) (p736:Oa) (n737:Int) (KN:Oa → Int → Option R) (KR:Int → Option R):Option R:=bitio_Writer_Put_p0_b k p736 n737 KN KR
abbrev bitio_Writer_Put_t (R:Type):Type:=Oa → Int → Heap → (Int → Heap → Option R) → Option R
def bitio_Writer_Put_b {R:Type} (bitio_Writer_ok:bitio_Writer_ok_t R) (bitio_Writer_Put_p0:bitio_Writer_Put_p0_t R) (bitio_Writer_put:bitio_Writer_put_t R) (k:Nat) (p733:Oa) (n734:Int) (H:Heap) (K:Int → Heap → Option R):Option R :=
bitio_Writer_ok p733 H fun t735 =>
bif (!t735) then (K 6 H)
 else (bitio_Writer_Put_p0 p733 n734 (fun p741 n742 =>
bitio_Writer_put p741 n742 H fun H743 =>
K 0 H743) (fun n744 =>
K n744 H))
def bitio_Writer_Put {R:Type} (k:Nat) (p733:Oa) (n734:Int) (H:Heap) (K:Int → Heap → Option R):Option R:=bitio_Writer_Put_b bitio_Writer_ok (bitio_Writer_Put_p0 k) (bitio_Writer_put k) k p733 n734 H K
def bitio_Writer_Put_Ct {R:Type} (bitio_Writer_ok:bitio_Writer_ok_t R) (bitio_Writer_put:bitio_Writer_put_t R):Tab R:=tcons 58 (bitio_Writer_ok_ca bitio_Writer_ok) <| tcons 59 (bitio_Writer_put_ca bitio_Writer_put) <| fun _ _ _ _ => none
def bitio_Writer_Put_C (R:Type) (k:Nat):Tab R:=bitio_Writer_Put_Ct bitio_Writer_ok (bitio_Writer_put k)
theorem bitio_Writer_Put_S (R:Type) (k:Nat):CSound Try.prog (bitio_Writer_Put_C R k):=csound_cons (bitio_Writer_ok_cs R k) <| csound_cons (bitio_Writer_put_cs R k) <| csound_nil
def bitio_Writer_Put_aa0 {R:Type} (f:bitio_Writer_Put_p0_t R) (n:Nat) (vals:List Value) (H:Heap) (K:Xit → Env → Heap → Option R):Option R :=
  match vals with
  | [.pointer p736,.int .i64 n737] => f p736 n737 (fun p1379 n1380 => K .normal [(0,.pointer p1379),(1,.int .i64 n1380)] H) (fun n1381 => K .ret [(4,.int .i64 n1381)] H)
  | _ => none
def bitio_Writer_Put_a0 (R:Type) (k n:Nat) (vals:List Value) (H:Heap) (K:Xit → Env → Heap → Option R):Option R:=bitio_Writer_Put_aa0 (bitio_Writer_Put_p0 k) n vals H K
def bitio_Writer_Put_Jt {R:Type} (k:Nat) (bitio_Writer_Put_p0:bitio_Writer_Put_p0_t R):JTab R:=tcons 0 (bitio_Writer_Put_aa0 bitio_Writer_Put_p0 k) <| fun _ _ _ _ => none
def bitio_Writer_Put_J (R:Type) (k:Nat):JTab R:=bitio_Writer_Put_Jt k (bitio_Writer_Put_p0 k)
def bitio_Writer_Put_at:AT:=(.seq (.reg [0,1] []) (.seq (.seq (.reg [0,1,7] []) (.cond (.seq (.reg [4] []) .leaf) .leaf)) (.seq (.opq 0 [0,1] ⟨[0,1],[],[4]⟩ (.seq (.reg [0,1,13] []) (.cond (.seq (.reg [4] []) .leaf) .leaf))) (.seq (.reg [] []) (.seq (.reg [4] []) .leaf)))))
def bitio_Writer_Put_i0:IC:=(.seq (.reg [⟨some 8,.mov (.t 1),none⟩,
⟨some 9,.cmp .neq (.t 8) (.c (Go.Value.int Go.IntKind.i64 0)),none⟩,
⟨some 10,.mov (.t 9),none⟩,
⟨some 11,.mov (.t 1),some (10,true)⟩,
⟨some 12,.cmp .neq (.t 11) (.c (Go.Value.int Go.IntKind.i64 1)),some (10,true)⟩,
⟨some 13,.pick (.t 10) (.t 12) (.c (Go.Value.bool false)),none⟩] [0,1,13]) (.cond (.t 13) (.seq (.reg [⟨some 4,.mov (.c (Go.Value.int Go.IntKind.i64 1)),none⟩] [4]) .ret) .skip))
def bitio_Writer_Put_f:IFn:=⟨17,[.t 4],(.seq (.reg [⟨some 4,.mov (.c (Go.Value.int Go.IntKind.i64 0)),none⟩] [0,1]) (.seq (.seq (.reg [⟨some 5,.mov (.t 0),none⟩,
⟨some 6,.call 58 [(.t 5)] (.one (.sc .bool)),none⟩,
⟨some 7,.lnot (.t 6),none⟩] [0,1,7]) (.cond (.t 7) (.seq (.reg [⟨some 4,.mov (.c (Go.Value.int Go.IntKind.i64 6)),none⟩] [4]) .ret) .skip)) (.seq (.opq 0 [0,1] bitio_Writer_Put_i0) (.seq (.reg [⟨some 14,.mov (.t 0),none⟩,
⟨some 15,.mov (.t 1),none⟩,
⟨some 16,.call 59 [(.t 14),(.t 15)] .none,none⟩] []) (.seq (.reg [⟨some 4,.mov (.c (Go.Value.int Go.IntKind.i64 0)),none⟩] [4]) .ret)))))⟩
theorem bitio_Writer_Put_e0 {R:Type} (bitio_Writer_ok:bitio_Writer_ok_t R) (bitio_Writer_put:bitio_Writer_put_t R) (bitio_Writer_Put_p0:bitio_Writer_Put_p0_t R) (k:Nat) (p736:Oa) (n737:Int) (H:Heap) (K:Xit → Env → Heap → Option R):evJ (bitio_Writer_Put_Ct bitio_Writer_ok bitio_Writer_put) (bitio_Writer_Put_Jt k bitio_Writer_Put_p0) bitio_Writer_Put_i0 (List.zip [0,1] [.pointer p736,.int .i64 n737]) H (fun x e' H' => K x (clean e' ((⟨[0,1],[],[4]⟩:Out).of x)) H') = bitio_Writer_Put_p0_b k p736 n737 (fun p1379 n1380 => K .normal [(0,.pointer p1379),(1,.int .i64 n1380)] H) (fun n1381 => K .ret [(4,.int .i64 n1381)] H):=by kernel_rfl
theorem bitio_Writer_Put_j0 {R:Type} (k:Nat):JS Try.prog 17 (bitio_Writer_Put_a0 R k k) [0,1] ⟨[0,1],[],[4]⟩ (sel [1,1,0] (Try.f40.body.getD .skip)) :=
  piece_ok (nt:=17) (c:=(sel [1,1,0] (Try.f40.body.getD .skip))) (C:=bitio_Writer_Put_C R k) (an:=An) (t:=(.seq (.reg [0,1,13] []) (.cond (.seq (.reg [4] []) .leaf) .leaf))) (ic:=bitio_Writer_Put_i0) (bitio_Writer_Put_S R k) (bitio_Writer_Put_J R k) (by kernel_rfl) (And.intro True.intro (And.intro (And.intro True.intro True.intro) True.intro)) (bitio_Writer_Put_a0 R k k)
    (fun vals H K r h => by
      unfold bitio_Writer_Put_a0 bitio_Writer_Put_aa0 at h
      split at h <;> first | (cases h; done) | exact Eq.trans (bitio_Writer_Put_e0 bitio_Writer_ok (bitio_Writer_put k) (bitio_Writer_Put_p0 k) k _ _ H K) h)
def bitio_Writer_Put_ca {R:Type} (f:bitio_Writer_Put_t R) (args:List Value) (H:Heap) (K:Value → Heap → Option R):Option R :=
  match args with
  | [.pointer p733,.int .i64 n734] => f p733 n734 H (fun n1382 H => K (.int .i64 n1382) H)
  | _ => none
def bitio_Writer_Put_c (R:Type) (k:Nat) (args:List Value) (H:Heap) (K:Value → Heap → Option R):Option R:=bitio_Writer_Put_ca (bitio_Writer_Put k) args H K
theorem bitio_Writer_Put_e {R:Type} (bitio_Writer_ok:bitio_Writer_ok_t R) (bitio_Writer_put:bitio_Writer_put_t R) (bitio_Writer_Put_p0:bitio_Writer_Put_p0_t R) (k:Nat) (p733:Oa) (n734:Int) (H:Heap) (K:Value → Heap → Option R):evF (bitio_Writer_Put_Ct bitio_Writer_ok bitio_Writer_put) (bitio_Writer_Put_Jt k bitio_Writer_Put_p0) bitio_Writer_Put_f [.pointer p733,.int .i64 n734] H K = bitio_Writer_Put_b bitio_Writer_ok bitio_Writer_Put_p0 bitio_Writer_put k p733 n734 H (fun n1382 H => K (.int .i64 n1382) H):=by kernel_rfl
theorem bitio_Writer_Put_cs (R:Type) (k:Nat):∀ args H K r,bitio_Writer_Put_c R k args H K = some r → ∃ v H',Tri Try.prog 40 args H v H' ∧ K v H' = some r:=by
  intro args H K r h
  unfold bitio_Writer_Put_c bitio_Writer_Put_ca at h
  split at h
  · exact evF_ok (C:=bitio_Writer_Put_C R k) (an:=An) (t:=bitio_Writer_Put_at) (fn:=Try.f40) (c:=(Try.f40.body.getD .skip)) (ifn:=bitio_Writer_Put_f) (bitio_Writer_Put_S R k) (bitio_Writer_Put_J R k) Try.func40 (by kernel_rfl) (by kernel_rfl) (And.intro True.intro (And.intro (And.intro True.intro (And.intro (And.intro True.intro True.intro) True.intro)) (And.intro (bitio_Writer_Put_j0 k) (And.intro True.intro (And.intro True.intro True.intro))))) rfl (Eq.trans (bitio_Writer_Put_e bitio_Writer_ok (bitio_Writer_put k) (bitio_Writer_Put_p0 k) k _ _ H K) h)
  · cases h
abbrev bitio_Writer_Bits_p0_t (R:Type):Type:=Oa → Int → Int → (Oa → Int → Int → Option R) → (Int → Option R) → Option R
def bitio_Writer_Bits_p0_b {R:Type} (k:Nat) (p847:Oa) (n848:Int) (n849:Int) (KN:Oa → Int → Int → Option R) (KR:Int → Option R):Option R :=
bif decide (n849 < 0) then (KR 1)
 else (bif decide (n849 > 32) then (KR 1)
 else (bif decide (n848 < 0) then (KR 1)
 else (hbin .shl .i64 1 (IntKind.wrap .u64 n849) fun n850 =>
bif decide (n848 ≥ n850) then (KR 1)
 else (KN p847 n848 n849))))
def bitio_Writer_Bits_p0 {R:Type} (k:Nat) (p847:Oa) (n848:Int) (n849:Int) (KN:Oa → Int → Int → Option R) (KR:Int → Option R):Option R:=bitio_Writer_Bits_p0_b k p847 n848 n849 KN KR
abbrev bitio_Writer_Bits_l1_t (R:Type):Type:=(Heap → Option R) → Nat → Oa → Int → Int → Heap → Option R
def bitio_Writer_Bits_l1_b {R:Type} (bitio_Writer_put:bitio_Writer_put_t R) (rec:Oa → Int → Int → Heap → Option R) (KE0:Heap → Option R) (k:Nat) (p858:Oa) (n859:Int) (n860:Int) (H:Heap):Option R :=
bif decide (n860 ≥ 0) then (hbin .shr .i64 n859 (IntKind.wrap .u64 n860) fun n861 =>
hbin .and .i64 n861 1 fun n862 =>
bitio_Writer_put p858 n862 H fun H863 =>
rec p858 n859 (IntKind.wrap .i64 (n860 - 1)) H863)
 else (KE0 H)
def bitio_Writer_Bits_l1 {R:Type} (k:Nat) (KE0:Heap → Option R):Nat → Oa → Int → Int → Heap → Option R
  | 0,_,_,_,_ => none
  | n + 1,p858,n859,n860,H => bitio_Writer_Bits_l1_b (bitio_Writer_put k) (bitio_Writer_Bits_l1 k KE0 n) KE0 k p858 n859 n860 H
abbrev bitio_Writer_Bits_t (R:Type):Type:=Oa → Int → Int → Heap → (Int → Heap → Option R) → Option R
def bitio_Writer_Bits_b {R:Type} (bitio_Writer_ok:bitio_Writer_ok_t R) (bitio_Writer_Bits_p0:bitio_Writer_Bits_p0_t R) (bitio_Writer_Bits_l1:bitio_Writer_Bits_l1_t R) (k:Nat) (p843:Oa) (n844:Int) (n845:Int) (H:Heap) (K:Int → Heap → Option R):Option R :=
bitio_Writer_ok p843 H fun t846 =>
bif (!t846) then (K 6 H)
 else (bitio_Writer_Bits_p0 p843 n844 n845 (fun p855 n856 n857 =>
bitio_Writer_Bits_l1 (fun H864 =>
K 0 H864) k p855 n856 (IntKind.wrap .i64 (n857 - 1)) H) (fun n865 =>
K n865 H))
def bitio_Writer_Bits {R:Type} (k:Nat) (p843:Oa) (n844:Int) (n845:Int) (H:Heap) (K:Int → Heap → Option R):Option R:=bitio_Writer_Bits_b bitio_Writer_ok (bitio_Writer_Bits_p0 k) (bitio_Writer_Bits_l1 k) k p843 n844 n845 H K
def bitio_Writer_Bits_Ct {R:Type} (bitio_Writer_ok:bitio_Writer_ok_t R) (bitio_Writer_put:bitio_Writer_put_t R):Tab R:=tcons 58 (bitio_Writer_ok_ca bitio_Writer_ok) <| tcons 59 (bitio_Writer_put_ca bitio_Writer_put) <| fun _ _ _ _ => none
def bitio_Writer_Bits_C (R:Type) (k:Nat):Tab R:=bitio_Writer_Bits_Ct bitio_Writer_ok (bitio_Writer_put k)
theorem bitio_Writer_Bits_S (R:Type) (k:Nat):CSound Try.prog (bitio_Writer_Bits_C R k):=csound_cons (bitio_Writer_ok_cs R k) <| csound_cons (bitio_Writer_put_cs R k) <| csound_nil
def bitio_Writer_Bits_aa0 {R:Type} (f:bitio_Writer_Bits_p0_t R) (n:Nat) (vals:List Value) (H:Heap) (K:Xit → Env → Heap → Option R):Option R :=
  match vals with
  | [.pointer p847,.int .i64 n848,.int .i64 n849] => f p847 n848 n849 (fun p1383 n1384 n1385 => K .normal [(0,.pointer p1383),(1,.int .i64 n1384),(2,.int .i64 n1385)] H) (fun n1386 => K .ret [(6,.int .i64 n1386)] H)
  | _ => none
def bitio_Writer_Bits_a0 (R:Type) (k n:Nat) (vals:List Value) (H:Heap) (K:Xit → Env → Heap → Option R):Option R:=bitio_Writer_Bits_aa0 (bitio_Writer_Bits_p0 k) n vals H K
def bitio_Writer_Bits_aa1 {R:Type} (f:bitio_Writer_Bits_l1_t R) (n:Nat) (vals:List Value) (H:Heap) (K:Xit → Env → Heap → Option R):Option R :=
  match vals with
  | [.pointer p858,.int .i64 n859,.int .i64 n860] => f (fun H => K (.exit 0) [] H) n p858 n859 n860 H
  | _ => none
def bitio_Writer_Bits_a1 (R:Type) (k n:Nat) (vals:List Value) (H:Heap) (K:Xit → Env → Heap → Option R):Option R:=bitio_Writer_Bits_aa1 (bitio_Writer_Bits_l1 k) n vals H K
def bitio_Writer_Bits_Jt {R:Type} (k:Nat) (bitio_Writer_Bits_p0:bitio_Writer_Bits_p0_t R) (bitio_Writer_Bits_l1:bitio_Writer_Bits_l1_t R):JTab R:=tcons 0 (bitio_Writer_Bits_aa0 bitio_Writer_Bits_p0 k) <| tcons 1 (bitio_Writer_Bits_aa1 bitio_Writer_Bits_l1 k) <| fun _ _ _ _ => none
def bitio_Writer_Bits_J (R:Type) (k:Nat):JTab R:=bitio_Writer_Bits_Jt k (bitio_Writer_Bits_p0 k) (bitio_Writer_Bits_l1 k)
def bitio_Writer_Bits_at:AT:=(.seq (.reg [0,1,2] []) (.seq (.seq (.reg [0,1,2,10] []) (.cond (.seq (.reg [6] []) .leaf) .leaf)) (.seq (.opq 0 [0,1,2] ⟨[0,1,2],[],[6]⟩ (.seq (.reg [0,1,2,27] []) (.cond (.seq (.reg [6] []) .leaf) .leaf))) (.seq (.seq (.reg [0,1,7] []) (.node (.opq 1 [0,1,7] ⟨[],[(0,[])],[]⟩ (.node (.seq (.seq (.reg [0,1,7,31] []) (.cond .leaf .leaf)) (.seq (.node (.reg [0,1,7] [])) (.reg [0,1,7] []))))))) (.seq (.reg [6] []) .leaf)))))
def bitio_Writer_Bits_i1:IC:=(.seq (.seq (.reg [⟨some 30,.mov (.t 7),none⟩,
⟨some 31,.cmp .geq (.t 30) (.c (Go.Value.int Go.IntKind.i64 0)),none⟩] [0,1,7,31]) (.cond (.t 31) .skip (.exit 0))) (.seq (.block 1 (.reg [⟨some 34,.mov (.t 0),none⟩,
⟨some 35,.mov (.t 1),none⟩,
⟨some 36,.mov (.t 7),none⟩,
⟨some 37,.cnv .u64 (.t 36),none⟩,
⟨some 38,.bin .shr .i64 (.t 35) (.t 37),none⟩,
⟨some 39,.bin .and .i64 (.t 38) (.c (Go.Value.int Go.IntKind.i64 1)),none⟩,
⟨some 40,.call 59 [(.t 34),(.t 39)] .none,none⟩] [0,1,7])) (.reg [⟨some 32,.mov (.t 7),none⟩,
⟨some 33,.bin .sub .i64 (.t 32) (.c (Go.Value.int Go.IntKind.i64 1)),none⟩,
⟨some 7,.mov (.t 33),none⟩] [0,1,7])))
def bitio_Writer_Bits_i0:IC:=(.seq (.reg [⟨some 11,.mov (.t 2),none⟩,
⟨some 12,.cmp .lss (.t 11) (.c (Go.Value.int Go.IntKind.i64 0)),none⟩,
⟨some 13,.mov (.t 12),none⟩,
⟨some 14,.mov (.t 2),some (13,false)⟩,
⟨some 15,.cmp .gtr (.t 14) (.c (Go.Value.int Go.IntKind.i64 32)),some (13,false)⟩,
⟨some 16,.pick (.t 13) (.c (Go.Value.bool true)) (.t 15),none⟩,
⟨some 17,.mov (.t 16),none⟩,
⟨some 18,.mov (.t 1),some (17,false)⟩,
⟨some 19,.cmp .lss (.t 18) (.c (Go.Value.int Go.IntKind.i64 0)),some (17,false)⟩,
⟨some 20,.pick (.t 17) (.c (Go.Value.bool true)) (.t 19),none⟩,
⟨some 21,.mov (.t 20),none⟩,
⟨some 22,.mov (.t 1),some (21,false)⟩,
⟨some 23,.mov (.t 2),some (21,false)⟩,
⟨some 24,.cnv .u64 (.t 23),some (21,false)⟩,
⟨some 25,.bin .shl .i64 (.c (Go.Value.int Go.IntKind.i64 1)) (.t 24),some (21,false)⟩,
⟨some 26,.cmp .geq (.t 22) (.t 25),some (21,false)⟩,
⟨some 27,.pick (.t 21) (.c (Go.Value.bool true)) (.t 26),none⟩] [0,1,2,27]) (.cond (.t 27) (.seq (.reg [⟨some 6,.mov (.c (Go.Value.int Go.IntKind.i64 1)),none⟩] [6]) .ret) .skip))
def bitio_Writer_Bits_f:IFn:=⟨41,[.t 6],(.seq (.reg [⟨some 6,.mov (.c (Go.Value.int Go.IntKind.i64 0)),none⟩] [0,1,2]) (.seq (.seq (.reg [⟨some 8,.mov (.t 0),none⟩,
⟨some 9,.call 58 [(.t 8)] (.one (.sc .bool)),none⟩,
⟨some 10,.lnot (.t 9),none⟩] [0,1,2,10]) (.cond (.t 10) (.seq (.reg [⟨some 6,.mov (.c (Go.Value.int Go.IntKind.i64 6)),none⟩] [6]) .ret) .skip)) (.seq (.opq 0 [0,1,2] bitio_Writer_Bits_i0) (.seq (.seq (.reg [⟨some 28,.mov (.t 2),none⟩,
⟨some 29,.bin .sub .i64 (.t 28) (.c (Go.Value.int Go.IntKind.i64 1)),none⟩,
⟨some 7,.mov (.t 29),none⟩] [0,1,7]) (.block 0 (.opq 1 [0,1,7] (.loop bitio_Writer_Bits_i1)))) (.seq (.reg [⟨some 6,.mov (.c (Go.Value.int Go.IntKind.i64 0)),none⟩] [6]) .ret)))))⟩
theorem bitio_Writer_Bits_e1 {R:Type} (bitio_Writer_ok:bitio_Writer_ok_t R) (bitio_Writer_put:bitio_Writer_put_t R) (bitio_Writer_Bits_p0:bitio_Writer_Bits_p0_t R) (bitio_Writer_Bits_l1:bitio_Writer_Bits_l1_t R) (k n:Nat) (p858:Oa) (n859:Int) (n860:Int) (H:Heap) (K:Xit → Env → Heap → Option R):evJ (bitio_Writer_Bits_Ct bitio_Writer_ok bitio_Writer_put) (bitio_Writer_Bits_Jt k bitio_Writer_Bits_p0 bitio_Writer_Bits_l1) bitio_Writer_Bits_i1 (List.zip [0,1,7] [.pointer p858,.int .i64 n859,.int .i64 n860]) H (fun x e' H' => match x with | .normal => bitio_Writer_Bits_aa1 bitio_Writer_Bits_l1 n ((clean e' [0,1,7]).map (·.2)) H' K | x => K x (clean e' ((⟨[],[(0,[])],[]⟩:Out).of x)) H') = bitio_Writer_Bits_l1_b bitio_Writer_put (bitio_Writer_Bits_l1 (fun H => K (.exit 0) [] H) n) (fun H => K (.exit 0) [] H) k p858 n859 n860 H:=by kernel_rfl
theorem bitio_Writer_Bits_j1 {R:Type} (k:Nat):JS Try.prog 41 (bitio_Writer_Bits_a1 R k k) [0,1,7] ⟨[],[(0,[])],[]⟩ (.loop (sel [1,1,1,0,1,0,0] (Try.f64.body.getD .skip))) :=
  loop_ok (nt:=41) (c:=(sel [1,1,1,0,1,0,0] (Try.f64.body.getD .skip))) (C:=bitio_Writer_Bits_C R k) (an:=An) (t:=(.seq (.seq (.reg [0,1,7,31] []) (.cond .leaf .leaf)) (.seq (.node (.reg [0,1,7] [])) (.reg [0,1,7] [])))) (ic:=bitio_Writer_Bits_i1) (bitio_Writer_Bits_S R k) (bitio_Writer_Bits_J R k) (by kernel_rfl) (And.intro (And.intro True.intro (And.intro True.intro True.intro)) (And.intro True.intro True.intro)) (bitio_Writer_Bits_a1 R k) (fun vals H K => by unfold bitio_Writer_Bits_a1 bitio_Writer_Bits_aa1; split <;> rfl)
    (fun n vals H K r h => by
      unfold bitio_Writer_Bits_a1 bitio_Writer_Bits_aa1 at h
      split at h <;> first | (cases h; done) | exact Eq.trans (bitio_Writer_Bits_e1 bitio_Writer_ok (bitio_Writer_put k) (bitio_Writer_Bits_p0 k) (bitio_Writer_Bits_l1 k) k n _ _ _ H K) h) k
theorem bitio_Writer_Bits_e0 {R:Type} (bitio_Writer_ok:bitio_Writer_ok_t R) (bitio_Writer_put:bitio_Writer_put_t R) (bitio_Writer_Bits_p0:bitio_Writer_Bits_p0_t R) (bitio_Writer_Bits_l1:bitio_Writer_Bits_l1_t R) (k:Nat) (p847:Oa) (n848:Int) (n849:Int) (H:Heap) (K:Xit → Env → Heap → Option R):evJ (bitio_Writer_Bits_Ct bitio_Writer_ok bitio_Writer_put) (bitio_Writer_Bits_Jt k bitio_Writer_Bits_p0 bitio_Writer_Bits_l1) bitio_Writer_Bits_i0 (List.zip [0,1,2] [.pointer p847,.int .i64 n848,.int .i64 n849]) H (fun x e' H' => K x (clean e' ((⟨[0,1,2],[],[6]⟩:Out).of x)) H') = bitio_Writer_Bits_p0_b k p847 n848 n849 (fun p1383 n1384 n1385 => K .normal [(0,.pointer p1383),(1,.int .i64 n1384),(2,.int .i64 n1385)] H) (fun n1386 => K .ret [(6,.int .i64 n1386)] H):=by kernel_rfl
theorem bitio_Writer_Bits_j0 {R:Type} (k:Nat):JS Try.prog 41 (bitio_Writer_Bits_a0 R k k) [0,1,2] ⟨[0,1,2],[],[6]⟩ (sel [1,1,0] (Try.f64.body.getD .skip)) :=
  piece_ok (nt:=41) (c:=(sel [1,1,0] (Try.f64.body.getD .skip))) (C:=bitio_Writer_Bits_C R k) (an:=An) (t:=(.seq (.reg [0,1,2,27] []) (.cond (.seq (.reg [6] []) .leaf) .leaf))) (ic:=bitio_Writer_Bits_i0) (bitio_Writer_Bits_S R k) (bitio_Writer_Bits_J R k) (by kernel_rfl) (And.intro True.intro (And.intro (And.intro True.intro True.intro) True.intro)) (bitio_Writer_Bits_a0 R k k)
    (fun vals H K r h => by
      unfold bitio_Writer_Bits_a0 bitio_Writer_Bits_aa0 at h
      split at h <;> first | (cases h; done) | exact Eq.trans (bitio_Writer_Bits_e0 bitio_Writer_ok (bitio_Writer_put k) (bitio_Writer_Bits_p0 k) (bitio_Writer_Bits_l1 k) k _ _ _ H K) h)
def bitio_Writer_Bits_ca {R:Type} (f:bitio_Writer_Bits_t R) (args:List Value) (H:Heap) (K:Value → Heap → Option R):Option R :=
  match args with
  | [.pointer p843,.int .i64 n844,.int .i64 n845] => f p843 n844 n845 H (fun n1387 H => K (.int .i64 n1387) H)
  | _ => none
def bitio_Writer_Bits_c (R:Type) (k:Nat) (args:List Value) (H:Heap) (K:Value → Heap → Option R):Option R:=bitio_Writer_Bits_ca (bitio_Writer_Bits k) args H K
theorem bitio_Writer_Bits_e {R:Type} (bitio_Writer_ok:bitio_Writer_ok_t R) (bitio_Writer_put:bitio_Writer_put_t R) (bitio_Writer_Bits_p0:bitio_Writer_Bits_p0_t R) (bitio_Writer_Bits_l1:bitio_Writer_Bits_l1_t R) (k:Nat) (p843:Oa) (n844:Int) (n845:Int) (H:Heap) (K:Value → Heap → Option R):evF (bitio_Writer_Bits_Ct bitio_Writer_ok bitio_Writer_put) (bitio_Writer_Bits_Jt k bitio_Writer_Bits_p0 bitio_Writer_Bits_l1) bitio_Writer_Bits_f [.pointer p843,.int .i64 n844,.int .i64 n845] H K = bitio_Writer_Bits_b bitio_Writer_ok bitio_Writer_Bits_p0 bitio_Writer_Bits_l1 k p843 n844 n845 H (fun n1387 H => K (.int .i64 n1387) H):=by kernel_rfl
theorem bitio_Writer_Bits_cs (R:Type) (k:Nat):∀ args H K r,bitio_Writer_Bits_c R k args H K = some r → ∃ v H',Tri Try.prog 64 args H v H' ∧ K v H' = some r:=by
  intro args H K r h
  unfold bitio_Writer_Bits_c bitio_Writer_Bits_ca at h
  split at h
  · exact evF_ok (C:=bitio_Writer_Bits_C R k) (an:=An) (t:=bitio_Writer_Bits_at) (fn:=Try.f64) (c:=(Try.f64.body.getD .skip)) (ifn:=bitio_Writer_Bits_f) (bitio_Writer_Bits_S R k) (bitio_Writer_Bits_J R k) Try.func64 (by kernel_rfl) (by kernel_rfl) (And.intro True.intro (And.intro (And.intro True.intro (And.intro (And.intro True.intro True.intro) True.intro)) (And.intro (bitio_Writer_Bits_j0 k) (And.intro (And.intro True.intro (bitio_Writer_Bits_j1 k)) (And.intro True.intro True.intro))))) rfl (Eq.trans (bitio_Writer_Bits_e bitio_Writer_ok (bitio_Writer_put k) (bitio_Writer_Bits_p0 k) (bitio_Writer_Bits_l1 k) k _ _ _ H K) h)
  · cases h
abbrev tagtree_Tree_minima_l1_t (R:Type):Type:=(Oa → Int → Oa → Oa → Heap → Option R) → Nat → Oa → Int → Oa → Oa → Int → Int → Heap → Option R
def tagtree_Tree_minima_l1_b {R:Type} (rec:Oa → Int → Oa → Oa → Int → Int → Heap → Option R) (KE2:Oa → Int → Oa → Oa → Heap → Option R) (k:Nat) (p912:Oa) (n913:Int) (p914:Oa) (p915:Oa) (n916:Int) (n917:Int) (H:Heap):Option R :=
bif decide (n917 < n916) then (hnil p915 fun p918 =>
hfad 2 p918 fun p919 =>
ldL H p919 fun q920 l921 c922 =>
hidx q920 l921 n917 3 fun p923 =>
hfad 0 p923 fun p924 =>
hst1 H p924 (.int .i64 65535) fun H925 =>
rec p912 n913 p914 p915 n916 (IntKind.wrap .i64 (n917 + 1)) H925)
 else (KE2 p912 n913 p914 p915 H)
def tagtree_Tree_minima_l1 {R:Type} (k:Nat) (KE2:Oa → Int → Oa → Oa → Heap → Option R):Nat → Oa → Int → Oa → Oa → Int → Int → Heap → Option R
  | 0,_,_,_,_,_,_,_ => none
  | n + 1,p912,n913,p914,p915,n916,n917,H => tagtree_Tree_minima_l1_b (tagtree_Tree_minima_l1 k KE2 n) KE2 k p912 n913 p914 p915 n916 n917 H
abbrev tagtree_Tree_minima_l2_t (R:Type):Type:=(Oa → Int → Heap → Option R) → Nat → Oa → Int → Oa → Oa → Oa → Nat → Nat → Int → Int → Heap → Option R
def tagtree_Tree_minima_l2_b {R:Type} (rec:Oa → Int → Oa → Oa → Oa → Nat → Nat → Int → Int → Heap → Option R) (KE4:Oa → Int → Heap → Option R) (k:Nat) (p940:Oa) (n941:Int) (p942:Oa) (p943:Oa) (q944:Oa) (l945:Nat) (c946:Nat) (n947:Int) (n948:Int) (H:Heap):Option R :=
bif decide (n948 < n947) then (hidx q944 l945 n948 3 fun p949 =>
ldI .i64 H (pad p949 0) fun n950 =>
ldI .i64 H (pad p949 1) fun n951 =>
ldB H (pad p949 2) fun t952 =>
hal H [.int .i64 0,.int .i64 0,.bool false] fun p953 H954 =>
hst H954 p953 [.int .i64 n950,.int .i64 n951,.bool t952] fun H955 =>
hnil p943 fun p956 =>
hfad 2 p956 fun p957 =>
ldL H955 p957 fun q958 l959 c960 =>
hnil p942 fun p961 =>
hfad 0 p961 fun p962 =>
ldI .i64 H955 p962 fun n963 =>
hbin .quo .i64 n948 n963 fun n964 =>
hnil p943 fun p965 =>
hfad 0 p965 fun p966 =>
ldI .i64 H955 p966 fun n967 =>
hnil p942 fun p968 =>
hfad 0 p968 fun p969 =>
ldI .i64 H955 p969 fun n970 =>
hbin .rem .i64 n948 n970 fun n971 =>
hidx q958 l959 (IntKind.wrap .i64 ((IntKind.wrap .i64 ((IntKind.wrap .i64 (Int.tdiv n964 2)) * n967)) + (IntKind.wrap .i64 (Int.tdiv n971 2)))) 3 fun p972 =>
hnil p972 fun p973 =>
hfad 0 p973 fun p974 =>
ldI .i64 H955 p974 fun n975 =>
hfad 0 p953 fun p976 =>
ldI .i64 H955 p976 fun n977 =>
hnil p972 fun p978 =>
hfad 0 p978 fun p979 =>
hst1 H955 p979 (.int .i64 (imn n975 n977)) fun H980 =>
rec p940 n941 p942 p943 q944 l945 c946 n947 (IntKind.wrap .i64 (n948 + 1)) H980)
 else (KE4 p940 n941 H)
def tagtree_Tree_minima_l2 {R:Type} (k:Nat) (KE4:Oa → Int → Heap → Option R):Nat → Oa → Int → Oa → Oa → Oa → Nat → Nat → Int → Int → Heap → Option R
  | 0,_,_,_,_,_,_,_,_,_,_ => none
  | n + 1,p940,n941,p942,p943,q944,l945,c946,n947,n948,H => tagtree_Tree_minima_l2_b (tagtree_Tree_minima_l2 k KE4 n) KE4 k p940 n941 p942 p943 q944 l945 c946 n947 n948 H
abbrev tagtree_Tree_minima_l0_t (R:Type):Type:=(Heap → Option R) → Nat → Oa → Int → Heap → Option R
def tagtree_Tree_minima_l0_b {R:Type} (tagtree_Tree_minima_l1:tagtree_Tree_minima_l1_t R) (tagtree_Tree_minima_l2:tagtree_Tree_minima_l2_t R) (rec:Oa → Int → Heap → Option R) (KE0:Heap → Option R) (k:Nat) (p888:Oa) (n889:Int) (H:Heap):Option R :=
hnil p888 fun p890 =>
hfad 0 p890 fun p891 =>
ldL H p891 fun q892 l893 c894 =>
bif decide (n889 < ((l893:Nat):Int)) then (hnil p888 fun p895 =>
hfad 0 p895 fun p896 =>
ldL H p896 fun q897 l898 c899 =>
hidx q897 l898 (IntKind.wrap .i64 (n889 - 1)) 3 fun p900 =>
hnil p888 fun p901 =>
hfad 0 p901 fun p902 =>
ldL H p902 fun q903 l904 c905 =>
hidx q903 l904 n889 3 fun p906 =>
hnil p906 fun p907 =>
hfad 2 p907 fun p908 =>
ldL H p908 fun q909 l910 c911 =>
tagtree_Tree_minima_l1 (fun p930 n931 p932 p933 H934 =>
hnil p932 fun p935 =>
hfad 2 p935 fun p936 =>
ldL H934 p936 fun q937 l938 c939 =>
tagtree_Tree_minima_l2 (fun p983 n984 H985 =>
rec p983 (IntKind.wrap .i64 (n984 + 1)) H985) k p930 n931 p932 p933 q937 l938 c939 ((l938:Nat):Int) 0 H934) k p888 n889 p900 p906 ((l910:Nat):Int) 0 H)
 else (KE0 H)
def tagtree_Tree_minima_l0 {R:Type} (k:Nat) (KE0:Heap → Option R):Nat → Oa → Int → Heap → Option R
  | 0,_,_,_ => none
  | n + 1,p888,n889,H => tagtree_Tree_minima_l0_b (tagtree_Tree_minima_l1 k) (tagtree_Tree_minima_l2 k) (tagtree_Tree_minima_l0 k KE0 n) KE0 k p888 n889 H
abbrev tagtree_Tree_minima_t (R:Type):Type:=Oa → Heap → (Heap → Option R) → Option R
def tagtree_Tree_minima_b {R:Type} (tagtree_Tree_minima_l0:tagtree_Tree_minima_l0_t R) (k:Nat) (p887:Oa) (H:Heap) (K:Heap → Option R):Option R :=
tagtree_Tree_minima_l0 (fun H986 =>
K H986) k p887 1 H
def tagtree_Tree_minima {R:Type} (k:Nat) (p887:Oa) (H:Heap) (K:Heap → Option R):Option R:=tagtree_Tree_minima_b (tagtree_Tree_minima_l0 k) k p887 H K
def tagtree_Tree_minima_Ct {R:Type}:Tab R:=fun _ _ _ _ => none
def tagtree_Tree_minima_C (R:Type) (k:Nat):Tab R:=tagtree_Tree_minima_Ct
theorem tagtree_Tree_minima_S (R:Type) (k:Nat):CSound Try.prog (tagtree_Tree_minima_C R k):=csound_nil
def tagtree_Tree_minima_aa0 {R:Type} (f:tagtree_Tree_minima_l0_t R) (n:Nat) (vals:List Value) (H:Heap) (K:Xit → Env → Heap → Option R):Option R :=
  match vals with
  | [.pointer p888,.int .i64 n889] => f (fun H => K (.exit 0) [] H) n p888 n889 H
  | _ => none
def tagtree_Tree_minima_a0 (R:Type) (k n:Nat) (vals:List Value) (H:Heap) (K:Xit → Env → Heap → Option R):Option R:=tagtree_Tree_minima_aa0 (tagtree_Tree_minima_l0 k) n vals H K
def tagtree_Tree_minima_aa1 {R:Type} (f:tagtree_Tree_minima_l1_t R) (n:Nat) (vals:List Value) (H:Heap) (K:Xit → Env → Heap → Option R):Option R :=
  match vals with
  | [.pointer p912,.int .i64 n913,.pointer p914,.pointer p915,.int .i64 n916,.int .i64 n917] => f (fun p1388 n1389 p1390 p1391 H => K (.exit 2) [(0,.pointer p1388),(2,.int .i64 n1389),(3,.pointer p1390),(4,.pointer p1391)] H) n p912 n913 p914 p915 n916 n917 H
  | _ => none
def tagtree_Tree_minima_a1 (R:Type) (k n:Nat) (vals:List Value) (H:Heap) (K:Xit → Env → Heap → Option R):Option R:=tagtree_Tree_minima_aa1 (tagtree_Tree_minima_l1 k) n vals H K
def tagtree_Tree_minima_aa2 {R:Type} (f:tagtree_Tree_minima_l2_t R) (n:Nat) (vals:List Value) (H:Heap) (K:Xit → Env → Heap → Option R):Option R :=
  match vals with
  | [.pointer p940,.int .i64 n941,.pointer p942,.pointer p943,.slice q944 l945 c946,.int .i64 n947,.int .i64 n948] => f (fun p1392 n1393 H => K (.exit 4) [(0,.pointer p1392),(2,.int .i64 n1393)] H) n p940 n941 p942 p943 q944 l945 c946 n947 n948 H
  | _ => none
def tagtree_Tree_minima_a2 (R:Type) (k n:Nat) (vals:List Value) (H:Heap) (K:Xit → Env → Heap → Option R):Option R:=tagtree_Tree_minima_aa2 (tagtree_Tree_minima_l2 k) n vals H K
def tagtree_Tree_minima_Jt {R:Type} (k:Nat) (tagtree_Tree_minima_l0:tagtree_Tree_minima_l0_t R) (tagtree_Tree_minima_l1:tagtree_Tree_minima_l1_t R) (tagtree_Tree_minima_l2:tagtree_Tree_minima_l2_t R):JTab R:=tcons 0 (tagtree_Tree_minima_aa0 tagtree_Tree_minima_l0 k) <| tcons 1 (tagtree_Tree_minima_aa1 tagtree_Tree_minima_l1 k) <| tcons 2 (tagtree_Tree_minima_aa2 tagtree_Tree_minima_l2 k) <| fun _ _ _ _ => none
def tagtree_Tree_minima_J (R:Type) (k:Nat):JTab R:=tagtree_Tree_minima_Jt k (tagtree_Tree_minima_l0 k) (tagtree_Tree_minima_l1 k) (tagtree_Tree_minima_l2 k)
def tagtree_Tree_minima_at:AT:=(.seq (.reg [0,2] []) (.node (.opq 0 [0,2] ⟨[],[(0,[])],[]⟩ (.node (.seq (.seq (.reg [0,2,15] []) (.cond .leaf .leaf)) (.seq (.node (.seq (.reg [0,2,3,4] [[],[0],[0,1],[0,1,2],[],[4],[0,1,2,3,4,5],[],[7],[7,8],[7,8,9],[],[7,8,9,10,11],[0,1,2,3,4,5,6],[0,1,2,3,4,5,6,7,8,9,10,11,12,13]]) (.seq (.seq (.reg [0,2,3,4,35,36] []) (.node (.opq 1 [0,2,3,4,35,36] ⟨[],[(2,[0,2,3,4])],[]⟩ (.node (.seq (.reg [0,2,3,4,35,36,37] []) (.seq (.cond .leaf .leaf) (.seq (.node (.seq (.reg [0,2,3,4,5,35,36] []) (.reg [0,2,3,4,35,36] []))) (.reg [0,2,3,4,35,36] [])))))))) (.seq (.reg [0,2,3,4,50,51,52] []) (.node (.opq 2 [0,2,3,4,50,51,52] ⟨[],[(4,[0,2])],[]⟩ (.node (.seq (.reg [0,2,3,4,50,51,52,53] []) (.seq (.cond .leaf .leaf) (.seq (.node (.seq (.reg [0,2,3,4,6,7,50,51,52] []) (.seq (.reg [0,2,3,4,7,8,50,51,52] [[],[0],[0,1],[0,1,2],[],[],[5],[5,6],[5,6,7],[4,5,6,7,8],[4,5,6,7,8,9],[],[11],[11,12],[11,12,13],[4,5,6,7,8,9,10,11,12,13,14],[],[],[17],[17,18],[17,18,19],[16,17,18,19,20],[16,17,18,19,20,21],[4,5,6,7,8,9,10,11,12,13,14,15,16,17,18,19,20,21,22],[0,1,2,3,4,5,6,7,8,9,10,11,12,13,14,15,16,17,18,19,20,21,22,23],[0,1,2,3,4,5,6,7,8,9,10,11,12,13,14,15,16,17,18,19,20,21,22,23,24]]) (.reg [0,2,3,4,50,51,52] [[],[],[1],[1,2],[1,2,3],[],[5],[1,2,3,4,5,6],[0,1,2,3,4,5,6,7],[0,1,2,3,4,5,6,7,8],[0,1,2,3,4,5,6,7,8,9]])))) (.reg [0,2,3,4,50,51,52] []))))))))))) (.reg [0,2] [])))))))
def tagtree_Tree_minima_i2:IC:=(.seq (.reg [⟨some 53,.cmp .lss (.t 52) (.t 51),none⟩] [0,2,3,4,50,51,52,53]) (.seq (.cond (.t 53) .skip (.exit 4)) (.seq (.block 5 (.seq (.reg [⟨some 54,.mov (.t 52),none⟩,
⟨some 55,.ids 3 (.t 50) (.t 52),none⟩,
⟨some 56,.ld (.agg [(.int .i64),(.int .i64),.bool]) (.t 55),none⟩,
⟨some 7,.alc [.int .i64 0,.int .i64 0,.bool false],none⟩,
⟨some 6,.mov (.t 54),none⟩,
⟨none,.st 3 (.t 7) (.t 56),none⟩] [0,2,3,4,6,7,50,51,52]) (.seq (.reg [⟨some 57,.mov (.t 4),none⟩,
⟨some 58,.nilc (.t 57),none⟩,
⟨some 59,.fad 2 (.t 58),none⟩,
⟨some 60,.ld (.sc .slc) (.t 59),none⟩,
⟨some 61,.mov (.t 6),none⟩,
⟨some 62,.mov (.t 3),none⟩,
⟨some 63,.nilc (.t 62),none⟩,
⟨some 64,.fad 0 (.t 63),none⟩,
⟨some 65,.ld (.sc (.int .i64)) (.t 64),none⟩,
⟨some 66,.bin .quo .i64 (.t 61) (.t 65),none⟩,
⟨some 67,.bin .quo .i64 (.t 66) (.c (Go.Value.int Go.IntKind.i64 2)),none⟩,
⟨some 68,.mov (.t 4),none⟩,
⟨some 69,.nilc (.t 68),none⟩,
⟨some 70,.fad 0 (.t 69),none⟩,
⟨some 71,.ld (.sc (.int .i64)) (.t 70),none⟩,
⟨some 72,.bin .mul .i64 (.t 67) (.t 71),none⟩,
⟨some 73,.mov (.t 6),none⟩,
⟨some 74,.mov (.t 3),none⟩,
⟨some 75,.nilc (.t 74),none⟩,
⟨some 76,.fad 0 (.t 75),none⟩,
⟨some 77,.ld (.sc (.int .i64)) (.t 76),none⟩,
⟨some 78,.bin .rem .i64 (.t 73) (.t 77),none⟩,
⟨some 79,.bin .quo .i64 (.t 78) (.c (Go.Value.int Go.IntKind.i64 2)),none⟩,
⟨some 80,.bin .add .i64 (.t 72) (.t 79),none⟩,
⟨some 81,.ids 3 (.t 60) (.t 80),none⟩,
⟨some 8,.mov (.t 81),none⟩] [0,2,3,4,7,8,50,51,52]) (.reg [⟨some 82,.mov (.t 8),none⟩,
⟨some 83,.mov (.t 8),none⟩,
⟨some 84,.nilc (.t 83),none⟩,
⟨some 85,.fad 0 (.t 84),none⟩,
⟨some 86,.ld (.sc (.int .i64)) (.t 85),none⟩,
⟨some 87,.fad 0 (.t 7),none⟩,
⟨some 88,.ld (.sc (.int .i64)) (.t 87),none⟩,
⟨some 89,.mn (.t 86) (.t 88),none⟩,
⟨some 90,.nilc (.t 82),none⟩,
⟨some 91,.fad 0 (.t 90),none⟩,
⟨none,.st 1 (.t 91) (.t 89),none⟩] [0,2,3,4,50,51,52])))) (.reg [⟨some 92,.bin .add .i64 (.t 52) (.c (Go.Value.int Go.IntKind.i64 1)),none⟩,
⟨some 52,.mov (.t 92),none⟩] [0,2,3,4,50,51,52]))))
def tagtree_Tree_minima_i1:IC:=(.seq (.reg [⟨some 37,.cmp .lss (.t 36) (.t 35),none⟩] [0,2,3,4,35,36,37]) (.seq (.cond (.t 37) .skip (.exit 2)) (.seq (.block 3 (.seq (.reg [⟨some 38,.mov (.t 36),none⟩,
⟨some 5,.mov (.t 38),none⟩] [0,2,3,4,5,35,36]) (.reg [⟨some 39,.mov (.t 4),none⟩,
⟨some 40,.nilc (.t 39),none⟩,
⟨some 41,.fad 2 (.t 40),none⟩,
⟨some 42,.ld (.sc .slc) (.t 41),none⟩,
⟨some 43,.mov (.t 5),none⟩,
⟨some 44,.ids 3 (.t 42) (.t 43),none⟩,
⟨some 45,.fad 0 (.t 44),none⟩,
⟨none,.st 1 (.t 45) (.c (Go.Value.int Go.IntKind.i64 65535)),none⟩] [0,2,3,4,35,36]))) (.reg [⟨some 46,.bin .add .i64 (.t 36) (.c (Go.Value.int Go.IntKind.i64 1)),none⟩,
⟨some 36,.mov (.t 46),none⟩] [0,2,3,4,35,36]))))
def tagtree_Tree_minima_i0:IC:=(.seq (.seq (.reg [⟨some 9,.mov (.t 2),none⟩,
⟨some 10,.mov (.t 0),none⟩,
⟨some 11,.nilc (.t 10),none⟩,
⟨some 12,.fad 0 (.t 11),none⟩,
⟨some 13,.ld (.sc .slc) (.t 12),none⟩,
⟨some 14,.len false (.t 13),none⟩,
⟨some 15,.cmp .lss (.t 9) (.t 14),none⟩] [0,2,15]) (.cond (.t 15) .skip (.exit 0))) (.seq (.block 1 (.seq (.reg [⟨some 18,.mov (.t 0),none⟩,
⟨some 19,.nilc (.t 18),none⟩,
⟨some 20,.fad 0 (.t 19),none⟩,
⟨some 21,.ld (.sc .slc) (.t 20),none⟩,
⟨some 22,.mov (.t 2),none⟩,
⟨some 23,.bin .sub .i64 (.t 22) (.c (Go.Value.int Go.IntKind.i64 1)),none⟩,
⟨some 24,.ids 3 (.t 21) (.t 23),none⟩,
⟨some 25,.mov (.t 0),none⟩,
⟨some 26,.nilc (.t 25),none⟩,
⟨some 27,.fad 0 (.t 26),none⟩,
⟨some 28,.ld (.sc .slc) (.t 27),none⟩,
⟨some 29,.mov (.t 2),none⟩,
⟨some 30,.ids 3 (.t 28) (.t 29),none⟩,
⟨some 3,.mov (.t 24),none⟩,
⟨some 4,.mov (.t 30),none⟩] [0,2,3,4]) (.seq (.seq (.reg [⟨some 31,.mov (.t 4),none⟩,
⟨some 32,.nilc (.t 31),none⟩,
⟨some 33,.fad 2 (.t 32),none⟩,
⟨some 34,.ld (.sc .slc) (.t 33),none⟩,
⟨some 35,.len false (.t 34),none⟩,
⟨some 36,.mov (.c (Go.Value.int Go.IntKind.i64 0)),none⟩] [0,2,3,4,35,36]) (.block 2 (.opq 1 [0,2,3,4,35,36] (.loop tagtree_Tree_minima_i1)))) (.seq (.reg [⟨some 47,.mov (.t 3),none⟩,
⟨some 48,.nilc (.t 47),none⟩,
⟨some 49,.fad 2 (.t 48),none⟩,
⟨some 50,.ld (.sc .slc) (.t 49),none⟩,
⟨some 51,.len false (.t 50),none⟩,
⟨some 52,.mov (.c (Go.Value.int Go.IntKind.i64 0)),none⟩] [0,2,3,4,50,51,52]) (.block 4 (.opq 2 [0,2,3,4,50,51,52] (.loop tagtree_Tree_minima_i2))))))) (.reg [⟨some 16,.mov (.t 2),none⟩,
⟨some 17,.bin .add .i64 (.t 16) (.c (Go.Value.int Go.IntKind.i64 1)),none⟩,
⟨some 2,.mov (.t 17),none⟩] [0,2])))
def tagtree_Tree_minima_f:IFn:=⟨93,[],(.seq (.reg [⟨some 2,.mov (.c (Go.Value.int Go.IntKind.i64 1)),none⟩] [0,2]) (.block 0 (.opq 0 [0,2] (.loop tagtree_Tree_minima_i0))))⟩
theorem tagtree_Tree_minima_e2 {R:Type} (tagtree_Tree_minima_l0:tagtree_Tree_minima_l0_t R) (tagtree_Tree_minima_l1:tagtree_Tree_minima_l1_t R) (tagtree_Tree_minima_l2:tagtree_Tree_minima_l2_t R) (k n:Nat) (p940:Oa) (n941:Int) (p942:Oa) (p943:Oa) (q944:Oa) (l945:Nat) (c946:Nat) (n947:Int) (n948:Int) (H:Heap) (K:Xit → Env → Heap → Option R):evJ (tagtree_Tree_minima_Ct) (tagtree_Tree_minima_Jt k tagtree_Tree_minima_l0 tagtree_Tree_minima_l1 tagtree_Tree_minima_l2) tagtree_Tree_minima_i2 (List.zip [0,2,3,4,50,51,52] [.pointer p940,.int .i64 n941,.pointer p942,.pointer p943,.slice q944 l945 c946,.int .i64 n947,.int .i64 n948]) H (fun x e' H' => match x with | .normal => tagtree_Tree_minima_aa2 tagtree_Tree_minima_l2 n ((clean e' [0,2,3,4,50,51,52]).map (·.2)) H' K | x => K x (clean e' ((⟨[],[(4,[0,2])],[]⟩:Out).of x)) H') = tagtree_Tree_minima_l2_b (tagtree_Tree_minima_l2 (fun p1392 n1393 H => K (.exit 4) [(0,.pointer p1392),(2,.int .i64 n1393)] H) n) (fun p1392 n1393 H => K (.exit 4) [(0,.pointer p1392),(2,.int .i64 n1393)] H) k p940 n941 p942 p943 q944 l945 c946 n947 n948 H:=by kernel_rfl
theorem tagtree_Tree_minima_j2 {R:Type} (k:Nat):JS Try.prog 93 (tagtree_Tree_minima_a2 R k k) [0,2,3,4,50,51,52] ⟨[],[(4,[0,2])],[]⟩ (.loop (sel [1,0,0,1,0,0,1,1,1,0,0] (Try.f81.body.getD .skip))) :=
  loop_ok (nt:=93) (c:=(sel [1,0,0,1,0,0,1,1,1,0,0] (Try.f81.body.getD .skip))) (C:=tagtree_Tree_minima_C R k) (an:=An) (t:=(.seq (.reg [0,2,3,4,50,51,52,53] []) (.seq (.cond .leaf .leaf) (.seq (.node (.seq (.reg [0,2,3,4,6,7,50,51,52] []) (.seq (.reg [0,2,3,4,7,8,50,51,52] [[],[0],[0,1],[0,1,2],[],[],[5],[5,6],[5,6,7],[4,5,6,7,8],[4,5,6,7,8,9],[],[11],[11,12],[11,12,13],[4,5,6,7,8,9,10,11,12,13,14],[],[],[17],[17,18],[17,18,19],[16,17,18,19,20],[16,17,18,19,20,21],[4,5,6,7,8,9,10,11,12,13,14,15,16,17,18,19,20,21,22],[0,1,2,3,4,5,6,7,8,9,10,11,12,13,14,15,16,17,18,19,20,21,22,23],[0,1,2,3,4,5,6,7,8,9,10,11,12,13,14,15,16,17,18,19,20,21,22,23,24]]) (.reg [0,2,3,4,50,51,52] [[],[],[1],[1,2],[1,2,3],[],[5],[1,2,3,4,5,6],[0,1,2,3,4,5,6,7],[0,1,2,3,4,5,6,7,8],[0,1,2,3,4,5,6,7,8,9]])))) (.reg [0,2,3,4,50,51,52] []))))) (ic:=tagtree_Tree_minima_i2) (tagtree_Tree_minima_S R k) (tagtree_Tree_minima_J R k) (by kernel_rfl) (And.intro True.intro (And.intro (And.intro True.intro True.intro) (And.intro (And.intro True.intro (And.intro True.intro True.intro)) True.intro))) (tagtree_Tree_minima_a2 R k) (fun vals H K => by unfold tagtree_Tree_minima_a2 tagtree_Tree_minima_aa2; split <;> rfl)
    (fun n vals H K r h => by
      unfold tagtree_Tree_minima_a2 tagtree_Tree_minima_aa2 at h
      split at h <;> first | (cases h; done) | exact Eq.trans (tagtree_Tree_minima_e2 (tagtree_Tree_minima_l0 k) (tagtree_Tree_minima_l1 k) (tagtree_Tree_minima_l2 k) k n _ _ _ _ _ _ _ _ _ H K) h) k
theorem tagtree_Tree_minima_e1 {R:Type} (tagtree_Tree_minima_l0:tagtree_Tree_minima_l0_t R) (tagtree_Tree_minima_l1:tagtree_Tree_minima_l1_t R) (tagtree_Tree_minima_l2:tagtree_Tree_minima_l2_t R) (k n:Nat) (p912:Oa) (n913:Int) (p914:Oa) (p915:Oa) (n916:Int) (n917:Int) (H:Heap) (K:Xit → Env → Heap → Option R):evJ (tagtree_Tree_minima_Ct) (tagtree_Tree_minima_Jt k tagtree_Tree_minima_l0 tagtree_Tree_minima_l1 tagtree_Tree_minima_l2) tagtree_Tree_minima_i1 (List.zip [0,2,3,4,35,36] [.pointer p912,.int .i64 n913,.pointer p914,.pointer p915,.int .i64 n916,.int .i64 n917]) H (fun x e' H' => match x with | .normal => tagtree_Tree_minima_aa1 tagtree_Tree_minima_l1 n ((clean e' [0,2,3,4,35,36]).map (·.2)) H' K | x => K x (clean e' ((⟨[],[(2,[0,2,3,4])],[]⟩:Out).of x)) H') = tagtree_Tree_minima_l1_b (tagtree_Tree_minima_l1 (fun p1388 n1389 p1390 p1391 H => K (.exit 2) [(0,.pointer p1388),(2,.int .i64 n1389),(3,.pointer p1390),(4,.pointer p1391)] H) n) (fun p1388 n1389 p1390 p1391 H => K (.exit 2) [(0,.pointer p1388),(2,.int .i64 n1389),(3,.pointer p1390),(4,.pointer p1391)] H) k p912 n913 p914 p915 n916 n917 H:=by kernel_rfl
theorem tagtree_Tree_minima_j1 {R:Type} (k:Nat):JS Try.prog 93 (tagtree_Tree_minima_a1 R k k) [0,2,3,4,35,36] ⟨[],[(2,[0,2,3,4])],[]⟩ (.loop (sel [1,0,0,1,0,0,1,0,1,0,0] (Try.f81.body.getD .skip))) :=
  loop_ok (nt:=93) (c:=(sel [1,0,0,1,0,0,1,0,1,0,0] (Try.f81.body.getD .skip))) (C:=tagtree_Tree_minima_C R k) (an:=An) (t:=(.seq (.reg [0,2,3,4,35,36,37] []) (.seq (.cond .leaf .leaf) (.seq (.node (.seq (.reg [0,2,3,4,5,35,36] []) (.reg [0,2,3,4,35,36] []))) (.reg [0,2,3,4,35,36] []))))) (ic:=tagtree_Tree_minima_i1) (tagtree_Tree_minima_S R k) (tagtree_Tree_minima_J R k) (by kernel_rfl) (And.intro True.intro (And.intro (And.intro True.intro True.intro) (And.intro (And.intro True.intro True.intro) True.intro))) (tagtree_Tree_minima_a1 R k) (fun vals H K => by unfold tagtree_Tree_minima_a1 tagtree_Tree_minima_aa1; split <;> rfl)
    (fun n vals H K r h => by
      unfold tagtree_Tree_minima_a1 tagtree_Tree_minima_aa1 at h
      split at h <;> first | (cases h; done) | exact Eq.trans (tagtree_Tree_minima_e1 (tagtree_Tree_minima_l0 k) (tagtree_Tree_minima_l1 k) (tagtree_Tree_minima_l2 k) k n _ _ _ _ _ _ H K) h) k
theorem tagtree_Tree_minima_e0 {R:Type} (tagtree_Tree_minima_l0:tagtree_Tree_minima_l0_t R) (tagtree_Tree_minima_l1:tagtree_Tree_minima_l1_t R) (tagtree_Tree_minima_l2:tagtree_Tree_minima_l2_t R) (k n:Nat) (p888:Oa) (n889:Int) (H:Heap) (K:Xit → Env → Heap → Option R):evJ (tagtree_Tree_minima_Ct) (tagtree_Tree_minima_Jt k tagtree_Tree_minima_l0 tagtree_Tree_minima_l1 tagtree_Tree_minima_l2) tagtree_Tree_minima_i0 (List.zip [0,2] [.pointer p888,.int .i64 n889]) H (fun x e' H' => match x with | .normal => tagtree_Tree_minima_aa0 tagtree_Tree_minima_l0 n ((clean e' [0,2]).map (·.2)) H' K | x => K x (clean e' ((⟨[],[(0,[])],[]⟩:Out).of x)) H') = tagtree_Tree_minima_l0_b tagtree_Tree_minima_l1 tagtree_Tree_minima_l2 (tagtree_Tree_minima_l0 (fun H => K (.exit 0) [] H) n) (fun H => K (.exit 0) [] H) k p888 n889 H:=by kernel_rfl
theorem tagtree_Tree_minima_j0 {R:Type} (k:Nat):JS Try.prog 93 (tagtree_Tree_minima_a0 R k k) [0,2] ⟨[],[(0,[])],[]⟩ (.loop (sel [1,0,0] (Try.f81.body.getD .skip))) :=
  loop_ok (nt:=93) (c:=(sel [1,0,0] (Try.f81.body.getD .skip))) (C:=tagtree_Tree_minima_C R k) (an:=An) (t:=(.seq (.seq (.reg [0,2,15] []) (.cond .leaf .leaf)) (.seq (.node (.seq (.reg [0,2,3,4] [[],[0],[0,1],[0,1,2],[],[4],[0,1,2,3,4,5],[],[7],[7,8],[7,8,9],[],[7,8,9,10,11],[0,1,2,3,4,5,6],[0,1,2,3,4,5,6,7,8,9,10,11,12,13]]) (.seq (.seq (.reg [0,2,3,4,35,36] []) (.node (.opq 1 [0,2,3,4,35,36] ⟨[],[(2,[0,2,3,4])],[]⟩ (.node (.seq (.reg [0,2,3,4,35,36,37] []) (.seq (.cond .leaf .leaf) (.seq (.node (.seq (.reg [0,2,3,4,5,35,36] []) (.reg [0,2,3,4,35,36] []))) (.reg [0,2,3,4,35,36] [])))))))) (.seq (.reg [0,2,3,4,50,51,52] []) (.node (.opq 2 [0,2,3,4,50,51,52] ⟨[],[(4,[0,2])],[]⟩ (.node (.seq (.reg [0,2,3,4,50,51,52,53] []) (.seq (.cond .leaf .leaf) (.seq (.node (.seq (.reg [0,2,3,4,6,7,50,51,52] []) (.seq (.reg [0,2,3,4,7,8,50,51,52] [[],[0],[0,1],[0,1,2],[],[],[5],[5,6],[5,6,7],[4,5,6,7,8],[4,5,6,7,8,9],[],[11],[11,12],[11,12,13],[4,5,6,7,8,9,10,11,12,13,14],[],[],[17],[17,18],[17,18,19],[16,17,18,19,20],[16,17,18,19,20,21],[4,5,6,7,8,9,10,11,12,13,14,15,16,17,18,19,20,21,22],[0,1,2,3,4,5,6,7,8,9,10,11,12,13,14,15,16,17,18,19,20,21,22,23],[0,1,2,3,4,5,6,7,8,9,10,11,12,13,14,15,16,17,18,19,20,21,22,23,24]]) (.reg [0,2,3,4,50,51,52] [[],[],[1],[1,2],[1,2,3],[],[5],[1,2,3,4,5,6],[0,1,2,3,4,5,6,7],[0,1,2,3,4,5,6,7,8],[0,1,2,3,4,5,6,7,8,9]])))) (.reg [0,2,3,4,50,51,52] []))))))))))) (.reg [0,2] [])))) (ic:=tagtree_Tree_minima_i0) (tagtree_Tree_minima_S R k) (tagtree_Tree_minima_J R k) (by kernel_rfl) (And.intro (And.intro True.intro (And.intro True.intro True.intro)) (And.intro (And.intro True.intro (And.intro (And.intro True.intro (tagtree_Tree_minima_j1 k)) (And.intro True.intro (tagtree_Tree_minima_j2 k)))) True.intro)) (tagtree_Tree_minima_a0 R k) (fun vals H K => by unfold tagtree_Tree_minima_a0 tagtree_Tree_minima_aa0; split <;> rfl)
    (fun n vals H K r h => by
      unfold tagtree_Tree_minima_a0 tagtree_Tree_minima_aa0 at h
      split at h <;> first | (cases h; done) | exact Eq.trans (tagtree_Tree_minima_e0 (tagtree_Tree_minima_l0 k) (tagtree_Tree_minima_l1 k) (tagtree_Tree_minima_l2 k) k n _ _ H K) h) k
def tagtree_Tree_minima_ca {R:Type} (f:tagtree_Tree_minima_t R) (args:List Value) (H:Heap) (K:Value → Heap → Option R):Option R :=
  match args with
  | [.pointer p887] => f p887 H (fun H => K (undef) H)
  | _ => none
def tagtree_Tree_minima_c (R:Type) (k:Nat) (args:List Value) (H:Heap) (K:Value → Heap → Option R):Option R:=tagtree_Tree_minima_ca (tagtree_Tree_minima k) args H K
theorem tagtree_Tree_minima_e {R:Type} (tagtree_Tree_minima_l0:tagtree_Tree_minima_l0_t R) (tagtree_Tree_minima_l1:tagtree_Tree_minima_l1_t R) (tagtree_Tree_minima_l2:tagtree_Tree_minima_l2_t R) (k:Nat) (p887:Oa) (H:Heap) (K:Value → Heap → Option R):evF (tagtree_Tree_minima_Ct) (tagtree_Tree_minima_Jt k tagtree_Tree_minima_l0 tagtree_Tree_minima_l1 tagtree_Tree_minima_l2) tagtree_Tree_minima_f [.pointer p887] H K = tagtree_Tree_minima_b tagtree_Tree_minima_l0 k p887 H (fun H => K (undef) H):=by kernel_rfl
theorem tagtree_Tree_minima_cs (R:Type) (k:Nat):∀ args H K r,tagtree_Tree_minima_c R k args H K = some r → ∃ v H',Tri Try.prog 81 args H v H' ∧ K v H' = some r:=by
  intro args H K r h
  unfold tagtree_Tree_minima_c tagtree_Tree_minima_ca at h
  split at h
  · exact evF_ok (C:=tagtree_Tree_minima_C R k) (an:=An) (t:=tagtree_Tree_minima_at) (fn:=Try.f81) (c:=(Try.f81.body.getD .skip)) (ifn:=tagtree_Tree_minima_f) (tagtree_Tree_minima_S R k) (tagtree_Tree_minima_J R k) Try.func81 (by kernel_rfl) (by kernel_rfl) (And.intro True.intro (tagtree_Tree_minima_j0 k)) rfl (Eq.trans (tagtree_Tree_minima_e (tagtree_Tree_minima_l0 k) (tagtree_Tree_minima_l1 k) (tagtree_Tree_minima_l2 k) k _ H K) h)
  · cases h
abbrev tagtree_Tree_Encode_1_p0_t (R:Type):Type:=Oa → Oa → Int → Heap → (Oa → Int → Option R) → Option R
def tagtree_Tree_Encode_1_p0_b {R:Type} (k:Nat) (p1013:Oa) (p1014:Oa) (n1015:Int) (H:Heap) (KN:Oa → Int → Option R):Option R :=
hfad 0 p1014 fun p1016 =>
ldI .i64 H p1016 fun n1017 =>
hfad 1 p1014 fun p1018 =>
ldI .i64 H p1018 fun n1019 =>
bif (n1017 == n1019) then (KN p1013 1)
 else (KN p1013 n1015)
def tagtree_Tree_Encode_1_p0 {R:Type} (k:Nat) (p1013:Oa) (p1014:Oa) (n1015:Int) (H:Heap) (KN:Oa → Int → Option R):Option R:=tagtree_Tree_Encode_1_p0_b k p1013 p1014 n1015 H KN
abbrev tagtree_Tree_Encode_1_t (R:Type):Type:=Int → Int → Bool → Oa → Heap → (Int → Int → Heap → Option R) → Option R
def tagtree_Tree_Encode_1_b {R:Type} (tagtree_Tree_Encode_1_p0:tagtree_Tree_Encode_1_p0_t R) (bitio_Writer_Put:bitio_Writer_Put_t R) (k:Nat) (n1007:Int) (n1008:Int) (t1009:Bool) (p1010:Oa) (H:Heap) (K:Int → Int → Heap → Option R):Option R :=
hal H [.int .i64 n1007,.int .i64 n1008,.bool t1009] fun p1011 H1012 =>
tagtree_Tree_Encode_1_p0 p1010 p1011 0 H1012 (fun p1022 n1023 =>
ldP H1012 p1022 fun p1024 =>
bitio_Writer_Put p1024 n1023 H1012 fun n1025 H1026 =>
K n1023 n1025 H1026)
def tagtree_Tree_Encode_1 {R:Type} (k:Nat) (n1007:Int) (n1008:Int) (t1009:Bool) (p1010:Oa) (H:Heap) (K:Int → Int → Heap → Option R):Option R:=tagtree_Tree_Encode_1_b (tagtree_Tree_Encode_1_p0 k) (bitio_Writer_Put k) k n1007 n1008 t1009 p1010 H K
def tagtree_Tree_Encode_1_Ct {R:Type} (bitio_Writer_Put:bitio_Writer_Put_t R):Tab R:=tcons 40 (bitio_Writer_Put_ca bitio_Writer_Put) <| fun _ _ _ _ => none
def tagtree_Tree_Encode_1_C (R:Type) (k:Nat):Tab R:=tagtree_Tree_Encode_1_Ct (bitio_Writer_Put k)
theorem tagtree_Tree_Encode_1_S (R:Type) (k:Nat):CSound Try.prog (tagtree_Tree_Encode_1_C R k):=csound_cons (bitio_Writer_Put_cs R k) <| csound_nil
def tagtree_Tree_Encode_1_aa0 {R:Type} (f:tagtree_Tree_Encode_1_p0_t R) (n:Nat) (vals:List Value) (H:Heap) (K:Xit → Env → Heap → Option R):Option R :=
  match vals with
  | [.pointer p1013,.pointer p1014,.int .i64 n1015] => f p1013 p1014 n1015 H (fun p1394 n1395 => K .normal [(1,.pointer p1394),(5,.int .i64 n1395)] H)
  | _ => none
def tagtree_Tree_Encode_1_a0 (R:Type) (k n:Nat) (vals:List Value) (H:Heap) (K:Xit → Env → Heap → Option R):Option R:=tagtree_Tree_Encode_1_aa0 (tagtree_Tree_Encode_1_p0 k) n vals H K
def tagtree_Tree_Encode_1_Jt {R:Type} (k:Nat) (tagtree_Tree_Encode_1_p0:tagtree_Tree_Encode_1_p0_t R):JTab R:=tcons 0 (tagtree_Tree_Encode_1_aa0 tagtree_Tree_Encode_1_p0 k) <| fun _ _ _ _ => none
def tagtree_Tree_Encode_1_J (R:Type) (k:Nat):JTab R:=tagtree_Tree_Encode_1_Jt k (tagtree_Tree_Encode_1_p0 k)
def tagtree_Tree_Encode_1_at:AT:=(.seq (.reg [1,2] []) (.seq (.reg [1,2,5] []) (.seq (.opq 0 [1,2,5] ⟨[1,5],[],[]⟩ (.seq (.reg [1,5,10] []) (.cond (.reg [1,5] []) .leaf))) (.seq (.reg [3,4] []) .leaf))))
def tagtree_Tree_Encode_1_i0:IC:=(.seq (.reg [⟨some 6,.fad 0 (.t 2),none⟩,
⟨some 7,.ld (.sc (.int .i64)) (.t 6),none⟩,
⟨some 8,.fad 1 (.t 2),none⟩,
⟨some 9,.ld (.sc (.int .i64)) (.t 8),none⟩,
⟨some 10,.cmp .eql (.t 7) (.t 9),none⟩] [1,5,10]) (.cond (.t 10) (.reg [⟨some 5,.mov (.c (Go.Value.int Go.IntKind.i64 1)),none⟩] [1,5]) .skip))
def tagtree_Tree_Encode_1_f:IFn:=⟨15,[.t 3,.t 4],(.seq (.reg [⟨some 2,.box (.t 0),none⟩,
⟨some 3,.mov (.c (Go.Value.int Go.IntKind.i64 0)),none⟩,
⟨some 4,.mov (.c (Go.Value.int Go.IntKind.i64 0)),none⟩] [1,2]) (.seq (.reg [⟨some 5,.mov (.c (Go.Value.int Go.IntKind.i64 0)),none⟩] [1,2,5]) (.seq (.opq 0 [1,2,5] tagtree_Tree_Encode_1_i0) (.seq (.reg [⟨some 11,.mov (.t 5),none⟩,
⟨some 12,.ld (.sc .ptr) (.t 1),none⟩,
⟨some 13,.mov (.t 5),none⟩,
⟨some 14,.call 40 [(.t 12),(.t 13)] (.one (.sc (.int .i64))),none⟩,
⟨some 3,.mov (.t 11),none⟩,
⟨some 4,.mov (.t 14),none⟩] [3,4]) .ret))))⟩
theorem tagtree_Tree_Encode_1_e0 {R:Type} (bitio_Writer_Put:bitio_Writer_Put_t R) (tagtree_Tree_Encode_1_p0:tagtree_Tree_Encode_1_p0_t R) (k:Nat) (p1013:Oa) (p1014:Oa) (n1015:Int) (H:Heap) (K:Xit → Env → Heap → Option R):evJ (tagtree_Tree_Encode_1_Ct bitio_Writer_Put) (tagtree_Tree_Encode_1_Jt k tagtree_Tree_Encode_1_p0) tagtree_Tree_Encode_1_i0 (List.zip [1,2,5] [.pointer p1013,.pointer p1014,.int .i64 n1015]) H (fun x e' H' => K x (clean e' ((⟨[1,5],[],[]⟩:Out).of x)) H') = tagtree_Tree_Encode_1_p0_b k p1013 p1014 n1015 H (fun p1394 n1395 => K .normal [(1,.pointer p1394),(5,.int .i64 n1395)] H):=by kernel_rfl
theorem tagtree_Tree_Encode_1_j0 {R:Type} (k:Nat):JS Try.prog 15 (tagtree_Tree_Encode_1_a0 R k k) [1,2,5] ⟨[1,5],[],[]⟩ (sel [1,1,0] (Try.f83.body.getD .skip)) :=
  piece_ok (nt:=15) (c:=(sel [1,1,0] (Try.f83.body.getD .skip))) (C:=tagtree_Tree_Encode_1_C R k) (an:=An) (t:=(.seq (.reg [1,5,10] []) (.cond (.reg [1,5] []) .leaf))) (ic:=tagtree_Tree_Encode_1_i0) (tagtree_Tree_Encode_1_S R k) (tagtree_Tree_Encode_1_J R k) (by kernel_rfl) (And.intro True.intro (And.intro True.intro True.intro)) (tagtree_Tree_Encode_1_a0 R k k)
    (fun vals H K r h => by
      unfold tagtree_Tree_Encode_1_a0 tagtree_Tree_Encode_1_aa0 at h
      split at h <;> first | (cases h; done) | exact Eq.trans (tagtree_Tree_Encode_1_e0 (bitio_Writer_Put k) (tagtree_Tree_Encode_1_p0 k) k _ _ _ H K) h)
def tagtree_Tree_Encode_1_ca {R:Type} (f:tagtree_Tree_Encode_1_t R) (args:List Value) (H:Heap) (K:Value → Heap → Option R):Option R :=
  match args with
  | [.agg ⟨[.int .i64 n1007,.int .i64 n1008,.bool t1009]⟩,.pointer p1010] => f n1007 n1008 t1009 p1010 H (fun n1396 n1397 H => K (.tuple ⟨[.int .i64 n1396,.int .i64 n1397]⟩) H)
  | _ => none
def tagtree_Tree_Encode_1_c (R:Type) (k:Nat) (args:List Value) (H:Heap) (K:Value → Heap → Option R):Option R:=tagtree_Tree_Encode_1_ca (tagtree_Tree_Encode_1 k) args H K
theorem tagtree_Tree_Encode_1_e {R:Type} (bitio_Writer_Put:bitio_Writer_Put_t R) (tagtree_Tree_Encode_1_p0:tagtree_Tree_Encode_1_p0_t R) (k:Nat) (n1007:Int) (n1008:Int) (t1009:Bool) (p1010:Oa) (H:Heap) (K:Value → Heap → Option R):evF (tagtree_Tree_Encode_1_Ct bitio_Writer_Put) (tagtree_Tree_Encode_1_Jt k tagtree_Tree_Encode_1_p0) tagtree_Tree_Encode_1_f [.agg ⟨[.int .i64 n1007,.int .i64 n1008,.bool t1009]⟩,.pointer p1010] H K = tagtree_Tree_Encode_1_b tagtree_Tree_Encode_1_p0 bitio_Writer_Put k n1007 n1008 t1009 p1010 H (fun n1396 n1397 H => K (.tuple ⟨[.int .i64 n1396,.int .i64 n1397]⟩) H):=by kernel_rfl
theorem tagtree_Tree_Encode_1_cs (R:Type) (k:Nat):∀ args H K r,tagtree_Tree_Encode_1_c R k args H K = some r → ∃ v H',Tri Try.prog 83 args H v H' ∧ K v H' = some r:=by
  intro args H K r h
  unfold tagtree_Tree_Encode_1_c tagtree_Tree_Encode_1_ca at h
  split at h
  · exact evF_ok (C:=tagtree_Tree_Encode_1_C R k) (an:=An) (t:=tagtree_Tree_Encode_1_at) (fn:=Try.f83) (c:=(Try.f83.body.getD .skip)) (ifn:=tagtree_Tree_Encode_1_f) (tagtree_Tree_Encode_1_S R k) (tagtree_Tree_Encode_1_J R k) Try.func83 (by kernel_rfl) (by kernel_rfl) (And.intro True.intro (And.intro True.intro (And.intro (tagtree_Tree_Encode_1_j0 k) (And.intro True.intro True.intro)))) rfl (Eq.trans (tagtree_Tree_Encode_1_e (bitio_Writer_Put k) (tagtree_Tree_Encode_1_p0 k) k _ _ _ _ H K) h)
  · cases h
abbrev tagtree_Tree_walk_v83_p2_t (R:Type):Type:=Oa → Int → Int → Int → Oa → Oa → Nat → Nat → Int → Oa → Heap → (Oa → Int → Int → Int → Oa → Oa → Nat → Nat → Int → Oa → Option R) → (Oa → Int → Int → Int → Oa → Oa → Nat → Nat → Int → Oa → Option R) → Option R
def tagtree_Tree_walk_v83_p2_b {R:Type} (k:Nat) (p950:Oa) (n951:Int) (n952:Int) (n953:Int) (p954:Oa) (q955:Oa) (l956:Nat) (c957:Nat) (n958:Int) (p959:Oa) (H:Heap) (KE2:Oa → Int → Int → Int → Oa → Oa → Nat → Nat → Int → Oa → Option R) (KN:Oa → Int → Int → Int → Oa → Oa → Nat → Nat → Int → Oa → Option R):Option R :=
hfad 1 p959 fun p960 =>
ldI .i64 H p960 fun n961 =>
bif decide (n961 < n953) then (hfad 2 p959 fun p962 =>
ldB H p962 fun t963 =>
bif (!t963) then (KN p950 n951 n952 n953 p954 q955 l956 c957 n958 p959)
 else (KE2 p950 n951 n952 n953 p954 q955 l956 c957 n958 p959))
 else (KE2 p950 n951 n952 n953 p954 q955 l956 c957 n958 p959)
def tagtree_Tree_walk_v83_p2 {R:Type} (k:Nat) (p950:Oa) (n951:Int) (n952:Int) (n953:Int) (p954:Oa) (q955:Oa) (l956:Nat) (c957:Nat) (n958:Int) (p959:Oa) (H:Heap) (KE2:Oa → Int → Int → Int → Oa → Oa → Nat → Nat → Int → Oa → Option R) (KN:Oa → Int → Int → Int → Oa → Oa → Nat → Nat → Int → Oa → Option R):Option R:=tagtree_Tree_walk_v83_p2_b k p950 n951 n952 n953 p954 q955 l956 c957 n958 p959 H KE2 KN
abbrev tagtree_Tree_walk_v83_l1_t (R:Type):Type:=(Oa → Int → Int → Int → Oa → Oa → Nat → Nat → Int → Oa → Heap → Option R) → (Int → Heap → Option R) → Nat → Oa → Int → Int → Int → Oa → Oa → Nat → Nat → Int → Oa → Heap → Option R
def tagtree_Tree_walk_v83_l1_b {R:Type} (tagtree_Tree_walk_v83_p2:tagtree_Tree_walk_v83_p2_t R) (tagtree_Tree_Encode_1:tagtree_Tree_Encode_1_t R) (rec:Oa → Int → Int → Int → Oa → Oa → Nat → Nat → Int → Oa → Heap → Option R) (KE2:Oa → Int → Int → Int → Oa → Oa → Nat → Nat → Int → Oa → Heap → Option R) (KR:Int → Heap → Option R) (k:Nat) (p940:Oa) (n941:Int) (n942:Int) (n943:Int) (p944:Oa) (q945:Oa) (l946:Nat) (c947:Nat) (n948:Int) (p949:Oa) (H:Heap):Option R :=
tagtree_Tree_walk_v83_p2 p940 n941 n942 n943 p944 q945 l946 c947 n948 p949 H (fun p984 n985 n986 n987 p988 q989 l990 c991 n992 p993 =>
KE2 p984 n985 n986 n987 p988 q989 l990 c991 n992 p993 H) (fun p994 n995 n996 n997 p998 q999 l1000 c1001 n1002 p1003 =>
ldI .i64 H (pad p1003 0) fun n1004 =>
ldI .i64 H (pad p1003 1) fun n1005 =>
ldB H (pad p1003 2) fun t1006 =>
tagtree_Tree_Encode_1 n1004 n1005 t1006 p998 H fun n1007 n1008 H1009 =>
bif (n1008 != 0) then (KR n1008 H1009)
 else (bif (n1007 == 1) then (hfad 2 p1003 fun p1010 =>
hst1 H1009 p1010 (.bool true) fun H1011 =>
rec p994 n995 n996 n997 p998 q999 l1000 c1001 n1002 p1003 H1011)
 else (hfad 1 p1003 fun p1012 =>
ldI .i64 H1009 p1012 fun n1013 =>
hfad 1 p1003 fun p1014 =>
hst1 H1009 p1014 (.int .i64 (IntKind.wrap .i64 (n1013 + 1))) fun H1015 =>
rec p994 n995 n996 n997 p998 q999 l1000 c1001 n1002 p1003 H1015)))
def tagtree_Tree_walk_v83_l1 {R:Type} (k:Nat) (KE2:Oa → Int → Int → Int → Oa → Oa → Nat → Nat → Int → Oa → Heap → Option R) (KR:Int → Heap → Option R):Nat → Oa → Int → Int → Int → Oa → Oa → Nat → Nat → Int → Oa → Heap → Option R
  | 0,_,_,_,_,_,_,_,_,_,_,_ => none
  | n + 1,p940,n941,n942,n943,p944,q945,l946,c947,n948,p949,H => tagtree_Tree_walk_v83_l1_b (tagtree_Tree_walk_v83_p2 k) (tagtree_Tree_Encode_1 k) (tagtree_Tree_walk_v83_l1 k KE2 KR n) KE2 KR k p940 n941 n942 n943 p944 q945 l946 c947 n948 p949 H
abbrev tagtree_Tree_walk_v83_l0_t (R:Type):Type:=(Oa → Int → Int → Oa → Nat → Nat → Heap → Option R) → (Int → Heap → Option R) → Nat → Oa → Int → Int → Int → Oa → Oa → Nat → Nat → Int → Int → Heap → Option R
def tagtree_Tree_walk_v83_l0_b {R:Type} (tagtree_Tree_at:tagtree_Tree_at_t R) (tagtree_Tree_walk_v83_l1:tagtree_Tree_walk_v83_l1_t R) (rec:Oa → Int → Int → Int → Oa → Oa → Nat → Nat → Int → Int → Heap → Option R) (KE0:Oa → Int → Int → Oa → Nat → Nat → Heap → Option R) (KR:Int → Heap → Option R) (k:Nat) (p918:Oa) (n919:Int) (n920:Int) (n921:Int) (p922:Oa) (q923:Oa) (l924:Nat) (c925:Nat) (n926:Int) (n927:Int) (H:Heap):Option R :=
bif decide (n927 ≥ 0) then (tagtree_Tree_at p918 n927 n919 n920 H fun p928 =>
hnil p928 fun p929 =>
ldI .i64 H (pad p929 0) fun n930 =>
ldI .i64 H (pad p929 1) fun n931 =>
ldB H (pad p929 2) fun t932 =>
hal H [.int .i64 0,.int .i64 0,.bool false] fun p933 H934 =>
hst H934 p933 [.int .i64 n930,.int .i64 n931,.bool t932] fun H935 =>
hfad 1 p933 fun p936 =>
ldI .i64 H935 p936 fun n937 =>
hfad 1 p933 fun p938 =>
hst1 H935 p938 (.int .i64 (imx n937 n926)) fun H939 =>
tagtree_Tree_walk_v83_l1 (fun p1027 n1028 n1029 n1030 p1031 q1032 l1033 c1034 n1035 p1036 H1037 =>
hfad 1 p1036 fun p1038 =>
ldI .i64 H1037 p1038 fun n1039 =>
ldI .i64 H1037 (pad p1036 0) fun n1040 =>
ldI .i64 H1037 (pad p1036 1) fun n1041 =>
ldB H1037 (pad p1036 2) fun t1042 =>
hidx q1032 l1033 n1035 3 fun p1043 =>
hst H1037 p1043 [.int .i64 n1040,.int .i64 n1041,.bool t1042] fun H1044 =>
rec p1027 n1028 n1029 n1030 p1031 q1032 l1033 c1034 n1039 (IntKind.wrap .i64 (n1035 - 1)) H1044) (fun n1045 H1046 =>
KR n1045 H1046) k p918 n919 n920 n921 p922 q923 l924 c925 n927 p933 H939)
 else (KE0 p918 n919 n920 q923 l924 c925 H)
def tagtree_Tree_walk_v83_l0 {R:Type} (k:Nat) (KE0:Oa → Int → Int → Oa → Nat → Nat → Heap → Option R) (KR:Int → Heap → Option R):Nat → Oa → Int → Int → Int → Oa → Oa → Nat → Nat → Int → Int → Heap → Option R
  | 0,_,_,_,_,_,_,_,_,_,_,_ => none
  | n + 1,p918,n919,n920,n921,p922,q923,l924,c925,n926,n927,H => tagtree_Tree_walk_v83_l0_b tagtree_Tree_at (tagtree_Tree_walk_v83_l1 k) (tagtree_Tree_walk_v83_l0 k KE0 KR n) KE0 KR k p918 n919 n920 n921 p922 q923 l924 c925 n926 n927 H
abbrev tagtree_Tree_walk_v83_l3_t (R:Type):Type:=(Heap → Option R) → Nat → Oa → Int → Int → Oa → Nat → Nat → Int → Int → Heap → Option R
def tagtree_Tree_walk_v83_l3_b {R:Type} (tagtree_Tree_at:tagtree_Tree_at_t R) (rec:Oa → Int → Int → Oa → Nat → Nat → Int → Int → Heap → Option R) (KE4:Heap → Option R) (k:Nat) (p1061:Oa) (n1062:Int) (n1063:Int) (q1064:Oa) (l1065:Nat) (c1066:Nat) (n1067:Int) (n1068:Int) (H:Heap):Option R :=
bif decide (n1068 < n1067) then (hidx q1064 l1065 n1068 3 fun p1069 =>
ldI .i64 H (pad p1069 0) fun n1070 =>
ldI .i64 H (pad p1069 1) fun n1071 =>
ldB H (pad p1069 2) fun t1072 =>
hal H [.int .i64 0,.int .i64 0,.bool false] fun p1073 H1074 =>
hst H1074 p1073 [.int .i64 n1070,.int .i64 n1071,.bool t1072] fun H1075 =>
tagtree_Tree_at p1061 n1068 n1062 n1063 (roH H1075) fun p1076 =>
ldI .i64 (H1075 ++ (roH H1075).drop H1075.length) (pad p1073 0) fun n1077 =>
ldI .i64 (H1075 ++ (roH H1075).drop H1075.length) (pad p1073 1) fun n1078 =>
ldB (H1075 ++ (roH H1075).drop H1075.length) (pad p1073 2) fun t1079 =>
hnil p1076 fun p1080 =>
hst (H1075 ++ (roH H1075).drop H1075.length) p1080 [.int .i64 n1077,.int .i64 n1078,.bool t1079] fun H1081 =>
rec p1061 n1062 n1063 q1064 l1065 c1066 n1067 (IntKind.wrap .i64 (n1068 + 1)) H1081)
 else (KE4 H)
def tagtree_Tree_walk_v83_l3 {R:Type} (k:Nat) (KE4:Heap → Option R):Nat → Oa → Int → Int → Oa → Nat → Nat → Int → Int → Heap → Option R
  | 0,_,_,_,_,_,_,_,_,_ => none
  | n + 1,p1061,n1062,n1063,q1064,l1065,c1066,n1067,n1068,H => tagtree_Tree_walk_v83_l3_b tagtree_Tree_at (tagtree_Tree_walk_v83_l3 k KE4 n) KE4 k p1061 n1062 n1063 q1064 l1065 c1066 n1067 n1068 H
abbrev tagtree_Tree_walk_v83_t (R:Type):Type:=Oa → Int → Int → Int → Oa → Heap → (Int → Heap → Option R) → Option R
def tagtree_Tree_walk_v83_b {R:Type} (tagtree_Tree_walk_v83_l0:tagtree_Tree_walk_v83_l0_t R) (tagtree_Tree_walk_v83_l3:tagtree_Tree_walk_v83_l3_t R) (k:Nat) (p899:Oa) (n900:Int) (n901:Int) (n902:Int) (p903:Oa) (H:Heap) (K:Int → Heap → Option R):Option R :=
hnil p899 fun p904 =>
hfad 0 p904 fun p905 =>
ldL H p905 fun q906 l907 c908 =>
hmk [.int .i64 0,.int .i64 0,.bool false] 24 H ((l907:Nat):Int) ((l907:Nat):Int) fun q909 l910 c911 H912 =>
hnil p899 fun p913 =>
hfad 0 p913 fun p914 =>
ldL H912 p914 fun q915 l916 c917 =>
tagtree_Tree_walk_v83_l0 (fun p1054 n1055 n1056 q1057 l1058 c1059 H1060 =>
tagtree_Tree_walk_v83_l3 (fun H1082 =>
K 0 H1082) k p1054 n1055 n1056 q1057 l1058 c1059 ((l1058:Nat):Int) 0 H1060) (fun n1083 H1084 =>
K n1083 H1084) k p899 n900 n901 n902 p903 q909 l910 c911 0 (IntKind.wrap .i64 (((l916:Nat):Int) - 1)) H912
def tagtree_Tree_walk_v83 {R:Type} (k:Nat) (p899:Oa) (n900:Int) (n901:Int) (n902:Int) (p903:Oa) (H:Heap) (K:Int → Heap → Option R):Option R:=tagtree_Tree_walk_v83_b (tagtree_Tree_walk_v83_l0 k) (tagtree_Tree_walk_v83_l3 k) k p899 n900 n901 n902 p903 H K
def tagtree_Tree_walk_v83_Ct {R:Type} (tagtree_Tree_at:tagtree_Tree_at_t R) (tagtree_Tree_Encode_1:tagtree_Tree_Encode_1_t R):Tab R:=tcons 56 (tagtree_Tree_at_ca tagtree_Tree_at) <| tcons 83 (tagtree_Tree_Encode_1_ca tagtree_Tree_Encode_1) <| fun _ _ _ _ => none
def tagtree_Tree_walk_v83_C (R:Type) (k:Nat):Tab R:=tagtree_Tree_walk_v83_Ct tagtree_Tree_at (tagtree_Tree_Encode_1 k)
theorem tagtree_Tree_walk_v83_S (R:Type) (k:Nat):CSound Try.prog (tagtree_Tree_walk_v83_C R k):=csound_cons (tagtree_Tree_at_cs R k) <| csound_cons (tagtree_Tree_Encode_1_cs R k) <| csound_nil
def tagtree_Tree_walk_v83_aa0 {R:Type} (f:tagtree_Tree_walk_v83_l0_t R) (n:Nat) (vals:List Value) (H:Heap) (K:Xit → Env → Heap → Option R):Option R :=
  match vals with
  | [.pointer p918,.int .i64 n919,.int .i64 n920,.int .i64 n921,.func (.func 83) ⟨[]⟩ ⟨[.pointer p922]⟩,.slice q923 l924 c925,.int .i64 n926,.int .i64 n927] => f (fun p1398 n1399 n1400 q1401 l1402 c1403 H => K (.exit 0) [(0,.pointer p1398),(1,.int .i64 n1399),(2,.int .i64 n1400),(11,.slice q1401 l1402 c1403)] H) (fun n1404 H => K .ret [(10,.int .i64 n1404)] H) n p918 n919 n920 n921 p922 q923 l924 c925 n926 n927 H
  | _ => none
def tagtree_Tree_walk_v83_a0 (R:Type) (k n:Nat) (vals:List Value) (H:Heap) (K:Xit → Env → Heap → Option R):Option R:=tagtree_Tree_walk_v83_aa0 (tagtree_Tree_walk_v83_l0 k) n vals H K
def tagtree_Tree_walk_v83_aa1 {R:Type} (f:tagtree_Tree_walk_v83_l1_t R) (n:Nat) (vals:List Value) (H:Heap) (K:Xit → Env → Heap → Option R):Option R :=
  match vals with
  | [.pointer p940,.int .i64 n941,.int .i64 n942,.int .i64 n943,.func (.func 83) ⟨[]⟩ ⟨[.pointer p944]⟩,.slice q945 l946 c947,.int .i64 n948,.pointer p949] => f (fun p1405 n1406 n1407 n1408 p1409 q1410 l1411 c1412 n1413 p1414 H => K (.exit 2) [(0,.pointer p1405),(1,.int .i64 n1406),(2,.int .i64 n1407),(3,.int .i64 n1408),(4,.func (.func 83) #[] ⟨[.pointer p1409]⟩),(11,.slice q1410 l1411 c1412),(13,.int .i64 n1413),(14,.pointer p1414)] H) (fun n1415 H => K .ret [(10,.int .i64 n1415)] H) n p940 n941 n942 n943 p944 q945 l946 c947 n948 p949 H
  | _ => none
def tagtree_Tree_walk_v83_a1 (R:Type) (k n:Nat) (vals:List Value) (H:Heap) (K:Xit → Env → Heap → Option R):Option R:=tagtree_Tree_walk_v83_aa1 (tagtree_Tree_walk_v83_l1 k) n vals H K
def tagtree_Tree_walk_v83_aa2 {R:Type} (f:tagtree_Tree_walk_v83_p2_t R) (n:Nat) (vals:List Value) (H:Heap) (K:Xit → Env → Heap → Option R):Option R :=
  match vals with
  | [.pointer p950,.int .i64 n951,.int .i64 n952,.int .i64 n953,.func (.func 83) ⟨[]⟩ ⟨[.pointer p954]⟩,.slice q955 l956 c957,.int .i64 n958,.pointer p959] => f p950 n951 n952 n953 p954 q955 l956 c957 n958 p959 H (fun p1416 n1417 n1418 n1419 p1420 q1421 l1422 c1423 n1424 p1425 => K (.exit 2) [(0,.pointer p1416),(1,.int .i64 n1417),(2,.int .i64 n1418),(3,.int .i64 n1419),(4,.func (.func 83) #[] ⟨[.pointer p1420]⟩),(11,.slice q1421 l1422 c1423),(13,.int .i64 n1424),(14,.pointer p1425)] H) (fun p1426 n1427 n1428 n1429 p1430 q1431 l1432 c1433 n1434 p1435 => K .normal [(0,.pointer p1426),(1,.int .i64 n1427),(2,.int .i64 n1428),(3,.int .i64 n1429),(4,.func (.func 83) #[] ⟨[.pointer p1430]⟩),(11,.slice q1431 l1432 c1433),(13,.int .i64 n1434),(14,.pointer p1435)] H)
  | _ => none
def tagtree_Tree_walk_v83_a2 (R:Type) (k n:Nat) (vals:List Value) (H:Heap) (K:Xit → Env → Heap → Option R):Option R:=tagtree_Tree_walk_v83_aa2 (tagtree_Tree_walk_v83_p2 k) n vals H K
def tagtree_Tree_walk_v83_aa3 {R:Type} (f:tagtree_Tree_walk_v83_l3_t R) (n:Nat) (vals:List Value) (H:Heap) (K:Xit → Env → Heap → Option R):Option R :=
  match vals with
  | [.pointer p1061,.int .i64 n1062,.int .i64 n1063,.slice q1064 l1065 c1066,.int .i64 n1067,.int .i64 n1068] => f (fun H => K (.exit 4) [] H) n p1061 n1062 n1063 q1064 l1065 c1066 n1067 n1068 H
  | _ => none
def tagtree_Tree_walk_v83_a3 (R:Type) (k n:Nat) (vals:List Value) (H:Heap) (K:Xit → Env → Heap → Option R):Option R:=tagtree_Tree_walk_v83_aa3 (tagtree_Tree_walk_v83_l3 k) n vals H K
def tagtree_Tree_walk_v83_Jt {R:Type} (k:Nat) (tagtree_Tree_walk_v83_l0:tagtree_Tree_walk_v83_l0_t R) (tagtree_Tree_walk_v83_l1:tagtree_Tree_walk_v83_l1_t R) (tagtree_Tree_walk_v83_p2:tagtree_Tree_walk_v83_p2_t R) (tagtree_Tree_walk_v83_l3:tagtree_Tree_walk_v83_l3_t R):JTab R:=tcons 0 (tagtree_Tree_walk_v83_aa0 tagtree_Tree_walk_v83_l0 k) <| tcons 1 (tagtree_Tree_walk_v83_aa1 tagtree_Tree_walk_v83_l1 k) <| tcons 2 (tagtree_Tree_walk_v83_aa2 tagtree_Tree_walk_v83_p2 k) <| tcons 3 (tagtree_Tree_walk_v83_aa3 tagtree_Tree_walk_v83_l3 k) <| fun _ _ _ _ => none
def tagtree_Tree_walk_v83_J (R:Type) (k:Nat):JTab R:=tagtree_Tree_walk_v83_Jt k (tagtree_Tree_walk_v83_l0 k) (tagtree_Tree_walk_v83_l1 k) (tagtree_Tree_walk_v83_p2 k) (tagtree_Tree_walk_v83_l3 k)
def tagtree_Tree_walk_v83_at:AT:=(.seq (.reg [0,1,2,3,4] []) (.seq (.reg [0,1,2,3,4,11] []) (.seq (.reg [0,1,2,3,4,11,12] []) (.seq (.seq (.reg [0,1,2,3,4,11,12,13] []) (.node (.opq 0 [0,1,2,3,4,11,12,13] ⟨[],[(0,[0,1,2,11])],[10]⟩ (.node (.seq (.seq (.reg [0,1,2,3,4,11,12,13,32] []) (.cond .leaf .leaf)) (.seq (.node (.seq (.reg [0,1,2,3,4,11,12,13,14] []) (.seq (.reg [0,1,2,3,4,11,13,14] []) (.seq (.node (.opq 1 [0,1,2,3,4,11,13,14] ⟨[],[(2,[0,1,2,3,4,11,13,14])],[10]⟩ (.node (.seq (.opq 2 [0,1,2,3,4,11,13,14] ⟨[0,1,2,3,4,11,13,14],[(2,[0,1,2,3,4,11,13,14])],[]⟩ (.seq (.reg [0,1,2,3,4,11,13,14,55] []) (.cond .leaf .leaf))) (.node (.seq (.reg [0,1,2,3,4,11,13,14,15,16] []) (.seq (.seq (.reg [0,1,2,3,4,11,13,14,15,16,63] []) (.cond (.seq (.reg [10] []) .leaf) .leaf)) (.seq (.reg [0,1,2,3,4,11,13,14,66] []) (.cond (.reg [0,1,2,3,4,11,13,14] []) (.reg [0,1,2,3,4,11,13,14] [])))))))))) (.reg [0,1,2,3,4,11,12,13] [[],[],[],[2],[],[2,3],[0,1,2,3,4,5],[0,1,2,3,4,5,6]]))))) (.reg [0,1,2,3,4,11,12,13] []))))))) (.seq (.seq (.reg [0,1,2,78,79,80] []) (.node (.opq 3 [0,1,2,78,79,80] ⟨[],[(4,[])],[]⟩ (.node (.seq (.reg [0,1,2,78,79,80,81] []) (.seq (.cond .leaf .leaf) (.seq (.node (.seq (.reg [0,1,2,17,18,78,79,80] []) (.reg [0,1,2,78,79,80] [[],[],[],[],[0,1,2,3],[],[0,1,2,3,4,5],[0,1,2,3,4,5,6]]))) (.reg [0,1,2,78,79,80] [])))))))) (.seq (.reg [10] []) .leaf))))))
def tagtree_Tree_walk_v83_i3:IC:=(.seq (.reg [⟨some 81,.cmp .lss (.t 80) (.t 79),none⟩] [0,1,2,78,79,80,81]) (.seq (.cond (.t 81) .skip (.exit 4)) (.seq (.block 5 (.seq (.reg [⟨some 82,.mov (.t 80),none⟩,
⟨some 83,.ids 3 (.t 78) (.t 80),none⟩,
⟨some 84,.ld (.agg [(.int .i64),(.int .i64),.bool]) (.t 83),none⟩,
⟨some 18,.alc [.int .i64 0,.int .i64 0,.bool false],none⟩,
⟨some 17,.mov (.t 82),none⟩,
⟨none,.st 3 (.t 18) (.t 84),none⟩] [0,1,2,17,18,78,79,80]) (.reg [⟨some 85,.mov (.t 0),none⟩,
⟨some 86,.mov (.t 17),none⟩,
⟨some 87,.mov (.t 1),none⟩,
⟨some 88,.mov (.t 2),none⟩,
⟨some 89,.calf 56 [(.t 85),(.t 86),(.t 87),(.t 88)] [] (.one (.sc .ptr)),none⟩,
⟨some 90,.ld (.agg [(.int .i64),(.int .i64),.bool]) (.t 18),none⟩,
⟨some 91,.nilc (.t 89),none⟩,
⟨none,.st 3 (.t 91) (.t 90),none⟩] [0,1,2,78,79,80]))) (.reg [⟨some 92,.bin .add .i64 (.t 80) (.c (Go.Value.int Go.IntKind.i64 1)),none⟩,
⟨some 80,.mov (.t 92),none⟩] [0,1,2,78,79,80]))))
def tagtree_Tree_walk_v83_i2:IC:=(.seq (.reg [⟨some 47,.fad 1 (.t 14),none⟩,
⟨some 48,.ld (.sc (.int .i64)) (.t 47),none⟩,
⟨some 49,.mov (.t 3),none⟩,
⟨some 50,.cmp .lss (.t 48) (.t 49),none⟩,
⟨some 51,.mov (.t 50),none⟩,
⟨some 52,.fad 2 (.t 14),some (51,true)⟩,
⟨some 53,.ld (.sc .bool) (.t 52),some (51,true)⟩,
⟨some 54,.lnot (.t 53),some (51,true)⟩,
⟨some 55,.pick (.t 51) (.t 54) (.c (Go.Value.bool false)),none⟩] [0,1,2,3,4,11,13,14,55]) (.cond (.t 55) .skip (.exit 2)))
def tagtree_Tree_walk_v83_i1:IC:=(.seq (.opq 2 [0,1,2,3,4,11,13,14] tagtree_Tree_walk_v83_i2) (.block 3 (.seq (.reg [⟨some 57,.mov (.t 4),none⟩,
⟨some 58,.ld (.agg [(.int .i64),(.int .i64),.bool]) (.t 14),none⟩,
⟨some 59,.calv (.t 57) [(.t 58)] (.tup [(.sc (.int .i64)),(.sc (.int .i64))]),none⟩,
⟨some 56,.mov (.t 59),none⟩,
⟨some 60,.ext 0 (.t 56),none⟩,
⟨some 61,.ext 1 (.t 56),none⟩,
⟨some 15,.mov (.t 60),none⟩,
⟨some 16,.mov (.t 61),none⟩] [0,1,2,3,4,11,13,14,15,16]) (.seq (.seq (.reg [⟨some 62,.mov (.t 16),none⟩,
⟨some 63,.cmp .neq (.t 62) (.c (Go.Value.int Go.IntKind.i64 0)),none⟩] [0,1,2,3,4,11,13,14,15,16,63]) (.cond (.t 63) (.seq (.reg [⟨some 64,.mov (.t 16),none⟩,
⟨some 10,.mov (.t 64),none⟩] [10]) .ret) .skip)) (.seq (.reg [⟨some 65,.mov (.t 15),none⟩,
⟨some 66,.cmp .eql (.t 65) (.c (Go.Value.int Go.IntKind.i64 1)),none⟩] [0,1,2,3,4,11,13,14,66]) (.cond (.t 66) (.reg [⟨some 67,.fad 2 (.t 14),none⟩,
⟨none,.st 1 (.t 67) (.c (Go.Value.bool true)),none⟩] [0,1,2,3,4,11,13,14]) (.reg [⟨some 68,.fad 1 (.t 14),none⟩,
⟨some 69,.ld (.sc (.int .i64)) (.t 68),none⟩,
⟨some 70,.bin .add .i64 (.t 69) (.c (Go.Value.int Go.IntKind.i64 1)),none⟩,
⟨some 71,.fad 1 (.t 14),none⟩,
⟨none,.st 1 (.t 71) (.t 70),none⟩] [0,1,2,3,4,11,13,14])))))))
def tagtree_Tree_walk_v83_i0:IC:=(.seq (.seq (.reg [⟨some 31,.mov (.t 13),none⟩,
⟨some 32,.cmp .geq (.t 31) (.c (Go.Value.int Go.IntKind.i64 0)),none⟩] [0,1,2,3,4,11,12,13,32]) (.cond (.t 32) .skip (.exit 0))) (.seq (.block 1 (.seq (.reg [⟨some 35,.mov (.t 0),none⟩,
⟨some 36,.mov (.t 13),none⟩,
⟨some 37,.mov (.t 1),none⟩,
⟨some 38,.mov (.t 2),none⟩,
⟨some 39,.call 56 [(.t 35),(.t 36),(.t 37),(.t 38)] (.one (.sc .ptr)),none⟩,
⟨some 40,.nilc (.t 39),none⟩,
⟨some 41,.ld (.agg [(.int .i64),(.int .i64),.bool]) (.t 40),none⟩,
⟨some 14,.alc [.int .i64 0,.int .i64 0,.bool false],none⟩,
⟨none,.st 3 (.t 14) (.t 41),none⟩] [0,1,2,3,4,11,12,13,14]) (.seq (.reg [⟨some 42,.fad 1 (.t 14),none⟩,
⟨some 43,.ld (.sc (.int .i64)) (.t 42),none⟩,
⟨some 44,.mov (.t 12),none⟩,
⟨some 45,.mx (.t 43) (.t 44),none⟩,
⟨some 46,.fad 1 (.t 14),none⟩,
⟨none,.st 1 (.t 46) (.t 45),none⟩] [0,1,2,3,4,11,13,14]) (.seq (.block 2 (.opq 1 [0,1,2,3,4,11,13,14] (.loop tagtree_Tree_walk_v83_i1))) (.reg [⟨some 72,.mov (.t 11),none⟩,
⟨some 73,.mov (.t 13),none⟩,
⟨some 74,.fad 1 (.t 14),none⟩,
⟨some 75,.ld (.sc (.int .i64)) (.t 74),none⟩,
⟨some 76,.ld (.agg [(.int .i64),(.int .i64),.bool]) (.t 14),none⟩,
⟨some 12,.mov (.t 75),none⟩,
⟨some 77,.ids 3 (.t 72) (.t 73),none⟩,
⟨none,.st 3 (.t 77) (.t 76),none⟩] [0,1,2,3,4,11,12,13]))))) (.reg [⟨some 33,.mov (.t 13),none⟩,
⟨some 34,.bin .sub .i64 (.t 33) (.c (Go.Value.int Go.IntKind.i64 1)),none⟩,
⟨some 13,.mov (.t 34),none⟩] [0,1,2,3,4,11,12,13])))
def tagtree_Tree_walk_v83_f:IFn:=⟨93,[.t 10],(.seq (.reg [⟨some 10,.mov (.c (Go.Value.int Go.IntKind.i64 0)),none⟩] [0,1,2,3,4]) (.seq (.reg [⟨some 19,.mov (.t 0),none⟩,
⟨some 20,.nilc (.t 19),none⟩,
⟨some 21,.fad 0 (.t 20),none⟩,
⟨some 22,.ld (.sc .slc) (.t 21),none⟩,
⟨some 23,.len false (.t 22),none⟩,
⟨some 24,.mks [.int .i64 0,.int .i64 0,.bool false] 24 (.t 23) (.t 23),none⟩,
⟨some 11,.mov (.t 24),none⟩] [0,1,2,3,4,11]) (.seq (.reg [⟨some 12,.mov (.c (Go.Value.int Go.IntKind.i64 0)),none⟩] [0,1,2,3,4,11,12]) (.seq (.seq (.reg [⟨some 25,.mov (.t 0),none⟩,
⟨some 26,.nilc (.t 25),none⟩,
⟨some 27,.fad 0 (.t 26),none⟩,
⟨some 28,.ld (.sc .slc) (.t 27),none⟩,
⟨some 29,.len false (.t 28),none⟩,
⟨some 30,.bin .sub .i64 (.t 29) (.c (Go.Value.int Go.IntKind.i64 1)),none⟩,
⟨some 13,.mov (.t 30),none⟩] [0,1,2,3,4,11,12,13]) (.block 0 (.opq 0 [0,1,2,3,4,11,12,13] (.loop tagtree_Tree_walk_v83_i0)))) (.seq (.seq (.reg [⟨some 78,.mov (.t 11),none⟩,
⟨some 79,.len false (.t 78),none⟩,
⟨some 80,.mov (.c (Go.Value.int Go.IntKind.i64 0)),none⟩] [0,1,2,78,79,80]) (.block 4 (.opq 3 [0,1,2,78,79,80] (.loop tagtree_Tree_walk_v83_i3)))) (.seq (.reg [⟨some 10,.mov (.c (Go.Value.int Go.IntKind.i64 0)),none⟩] [10]) .ret))))))⟩
theorem tagtree_Tree_walk_v83_e3 {R:Type} (tagtree_Tree_at:tagtree_Tree_at_t R) (tagtree_Tree_Encode_1:tagtree_Tree_Encode_1_t R) (tagtree_Tree_walk_v83_l0:tagtree_Tree_walk_v83_l0_t R) (tagtree_Tree_walk_v83_l1:tagtree_Tree_walk_v83_l1_t R) (tagtree_Tree_walk_v83_p2:tagtree_Tree_walk_v83_p2_t R) (tagtree_Tree_walk_v83_l3:tagtree_Tree_walk_v83_l3_t R) (k n:Nat) (p1061:Oa) (n1062:Int) (n1063:Int) (q1064:Oa) (l1065:Nat) (c1066:Nat) (n1067:Int) (n1068:Int) (H:Heap) (K:Xit → Env → Heap → Option R):evJ (tagtree_Tree_walk_v83_Ct tagtree_Tree_at tagtree_Tree_Encode_1) (tagtree_Tree_walk_v83_Jt k tagtree_Tree_walk_v83_l0 tagtree_Tree_walk_v83_l1 tagtree_Tree_walk_v83_p2 tagtree_Tree_walk_v83_l3) tagtree_Tree_walk_v83_i3 (List.zip [0,1,2,78,79,80] [.pointer p1061,.int .i64 n1062,.int .i64 n1063,.slice q1064 l1065 c1066,.int .i64 n1067,.int .i64 n1068]) H (fun x e' H' => match x with | .normal => tagtree_Tree_walk_v83_aa3 tagtree_Tree_walk_v83_l3 n ((clean e' [0,1,2,78,79,80]).map (·.2)) H' K | x => K x (clean e' ((⟨[],[(4,[])],[]⟩:Out).of x)) H') = tagtree_Tree_walk_v83_l3_b tagtree_Tree_at (tagtree_Tree_walk_v83_l3 (fun H => K (.exit 4) [] H) n) (fun H => K (.exit 4) [] H) k p1061 n1062 n1063 q1064 l1065 c1066 n1067 n1068 H:=by kernel_rfl
theorem tagtree_Tree_walk_v83_j3 {R:Type} (k:Nat):JS Try.prog 93 (tagtree_Tree_walk_v83_a3 R k k) [0,1,2,78,79,80] ⟨[],[(4,[])],[]⟩ (.loop (sel [1,1,1,1,0,1,0,0] (Try.f82.body.getD .skip))) :=
  loop_ok (nt:=93) (c:=(sel [1,1,1,1,0,1,0,0] (Try.f82.body.getD .skip))) (C:=tagtree_Tree_walk_v83_C R k) (an:=An) (t:=(.seq (.reg [0,1,2,78,79,80,81] []) (.seq (.cond .leaf .leaf) (.seq (.node (.seq (.reg [0,1,2,17,18,78,79,80] []) (.reg [0,1,2,78,79,80] [[],[],[],[],[0,1,2,3],[],[0,1,2,3,4,5],[0,1,2,3,4,5,6]]))) (.reg [0,1,2,78,79,80] []))))) (ic:=tagtree_Tree_walk_v83_i3) (tagtree_Tree_walk_v83_S R k) (tagtree_Tree_walk_v83_J R k) (by kernel_rfl) (And.intro True.intro (And.intro (And.intro True.intro True.intro) (And.intro (And.intro True.intro True.intro) True.intro))) (tagtree_Tree_walk_v83_a3 R k) (fun vals H K => by unfold tagtree_Tree_walk_v83_a3 tagtree_Tree_walk_v83_aa3; split <;> rfl)
    (fun n vals H K r h => by
      unfold tagtree_Tree_walk_v83_a3 tagtree_Tree_walk_v83_aa3 at h
      split at h <;> first | (cases h; done) | exact Eq.trans (tagtree_Tree_walk_v83_e3 tagtree_Tree_at (tagtree_Tree_Encode_1 k) (tagtree_Tree_walk_v83_l0 k) (tagtree_Tree_walk_v83_l1 k) (tagtree_Tree_walk_v83_p2 k) (tagtree_Tree_walk_v83_l3 k) k n _ _ _ _ _ _ _ _ H K) h) k
theorem tagtree_Tree_walk_v83_e2 {R:Type} (tagtree_Tree_at:tagtree_Tree_at_t R) (tagtree_Tree_Encode_1:tagtree_Tree_Encode_1_t R) (tagtree_Tree_walk_v83_l0:tagtree_Tree_walk_v83_l0_t R) (tagtree_Tree_walk_v83_l1:tagtree_Tree_walk_v83_l1_t R) (tagtree_Tree_walk_v83_p2:tagtree_Tree_walk_v83_p2_t R) (tagtree_Tree_walk_v83_l3:tagtree_Tree_walk_v83_l3_t R) (k:Nat) (p950:Oa) (n951:Int) (n952:Int) (n953:Int) (p954:Oa) (q955:Oa) (l956:Nat) (c957:Nat) (n958:Int) (p959:Oa) (H:Heap) (K:Xit → Env → Heap → Option R):evJ (tagtree_Tree_walk_v83_Ct tagtree_Tree_at tagtree_Tree_Encode_1) (tagtree_Tree_walk_v83_Jt k tagtree_Tree_walk_v83_l0 tagtree_Tree_walk_v83_l1 tagtree_Tree_walk_v83_p2 tagtree_Tree_walk_v83_l3) tagtree_Tree_walk_v83_i2 (List.zip [0,1,2,3,4,11,13,14] [.pointer p950,.int .i64 n951,.int .i64 n952,.int .i64 n953,.func (.func 83) ⟨[]⟩ ⟨[.pointer p954]⟩,.slice q955 l956 c957,.int .i64 n958,.pointer p959]) H (fun x e' H' => K x (clean e' ((⟨[0,1,2,3,4,11,13,14],[(2,[0,1,2,3,4,11,13,14])],[]⟩:Out).of x)) H') = tagtree_Tree_walk_v83_p2_b k p950 n951 n952 n953 p954 q955 l956 c957 n958 p959 H (fun p1416 n1417 n1418 n1419 p1420 q1421 l1422 c1423 n1424 p1425 => K (.exit 2) [(0,.pointer p1416),(1,.int .i64 n1417),(2,.int .i64 n1418),(3,.int .i64 n1419),(4,.func (.func 83) #[] ⟨[.pointer p1420]⟩),(11,.slice q1421 l1422 c1423),(13,.int .i64 n1424),(14,.pointer p1425)] H) (fun p1426 n1427 n1428 n1429 p1430 q1431 l1432 c1433 n1434 p1435 => K .normal [(0,.pointer p1426),(1,.int .i64 n1427),(2,.int .i64 n1428),(3,.int .i64 n1429),(4,.func (.func 83) #[] ⟨[.pointer p1430]⟩),(11,.slice q1431 l1432 c1433),(13,.int .i64 n1434),(14,.pointer p1435)] H):=by kernel_rfl
theorem tagtree_Tree_walk_v83_j2 {R:Type} (k:Nat):JS Try.prog 93 (tagtree_Tree_walk_v83_a2 R k k) [0,1,2,3,4,11,13,14] ⟨[0,1,2,3,4,11,13,14],[(2,[0,1,2,3,4,11,13,14])],[]⟩ (sel [1,1,1,0,1,0,0,1,0,0,1,1,0,0,0,0] (Try.f82.body.getD .skip)) :=
  piece_ok (nt:=93) (c:=(sel [1,1,1,0,1,0,0,1,0,0,1,1,0,0,0,0] (Try.f82.body.getD .skip))) (C:=tagtree_Tree_walk_v83_C R k) (an:=An) (t:=(.seq (.reg [0,1,2,3,4,11,13,14,55] []) (.cond .leaf .leaf))) (ic:=tagtree_Tree_walk_v83_i2) (tagtree_Tree_walk_v83_S R k) (tagtree_Tree_walk_v83_J R k) (by kernel_rfl) (And.intro True.intro (And.intro True.intro True.intro)) (tagtree_Tree_walk_v83_a2 R k k)
    (fun vals H K r h => by
      unfold tagtree_Tree_walk_v83_a2 tagtree_Tree_walk_v83_aa2 at h
      split at h <;> first | (cases h; done) | exact Eq.trans (tagtree_Tree_walk_v83_e2 tagtree_Tree_at (tagtree_Tree_Encode_1 k) (tagtree_Tree_walk_v83_l0 k) (tagtree_Tree_walk_v83_l1 k) (tagtree_Tree_walk_v83_p2 k) (tagtree_Tree_walk_v83_l3 k) k _ _ _ _ _ _ _ _ _ _ H K) h)
theorem tagtree_Tree_walk_v83_e1 {R:Type} (tagtree_Tree_at:tagtree_Tree_at_t R) (tagtree_Tree_Encode_1:tagtree_Tree_Encode_1_t R) (tagtree_Tree_walk_v83_l0:tagtree_Tree_walk_v83_l0_t R) (tagtree_Tree_walk_v83_l1:tagtree_Tree_walk_v83_l1_t R) (tagtree_Tree_walk_v83_p2:tagtree_Tree_walk_v83_p2_t R) (tagtree_Tree_walk_v83_l3:tagtree_Tree_walk_v83_l3_t R) (k n:Nat) (p940:Oa) (n941:Int) (n942:Int) (n943:Int) (p944:Oa) (q945:Oa) (l946:Nat) (c947:Nat) (n948:Int) (p949:Oa) (H:Heap) (K:Xit → Env → Heap → Option R):evJ (tagtree_Tree_walk_v83_Ct tagtree_Tree_at tagtree_Tree_Encode_1) (tagtree_Tree_walk_v83_Jt k tagtree_Tree_walk_v83_l0 tagtree_Tree_walk_v83_l1 tagtree_Tree_walk_v83_p2 tagtree_Tree_walk_v83_l3) tagtree_Tree_walk_v83_i1 (List.zip [0,1,2,3,4,11,13,14] [.pointer p940,.int .i64 n941,.int .i64 n942,.int .i64 n943,.func (.func 83) ⟨[]⟩ ⟨[.pointer p944]⟩,.slice q945 l946 c947,.int .i64 n948,.pointer p949]) H (fun x e' H' => match x with | .normal => tagtree_Tree_walk_v83_aa1 tagtree_Tree_walk_v83_l1 n ((clean e' [0,1,2,3,4,11,13,14]).map (·.2)) H' K | x => K x (clean e' ((⟨[],[(2,[0,1,2,3,4,11,13,14])],[10]⟩:Out).of x)) H') = tagtree_Tree_walk_v83_l1_b tagtree_Tree_walk_v83_p2 tagtree_Tree_Encode_1 (tagtree_Tree_walk_v83_l1 (fun p1405 n1406 n1407 n1408 p1409 q1410 l1411 c1412 n1413 p1414 H => K (.exit 2) [(0,.pointer p1405),(1,.int .i64 n1406),(2,.int .i64 n1407),(3,.int .i64 n1408),(4,.func (.func 83) #[] ⟨[.pointer p1409]⟩),(11,.slice q1410 l1411 c1412),(13,.int .i64 n1413),(14,.pointer p1414)] H) (fun n1415 H => K .ret [(10,.int .i64 n1415)] H) n) (fun p1405 n1406 n1407 n1408 p1409 q1410 l1411 c1412 n1413 p1414 H => K (.exit 2) [(0,.pointer p1405),(1,.int .i64 n1406),(2,.int .i64 n1407),(3,.int .i64 n1408),(4,.func (.func 83) #[] ⟨[.pointer p1409]⟩),(11,.slice q1410 l1411 c1412),(13,.int .i64 n1413),(14,.pointer p1414)] H) (fun n1415 H => K .ret [(10,.int .i64 n1415)] H) k p940 n941 n942 n943 p944 q945 l946 c947 n948 p949 H:=by kernel_rfl
theorem tagtree_Tree_walk_v83_j1 {R:Type} (k:Nat):JS Try.prog 93 (tagtree_Tree_walk_v83_a1 R k k) [0,1,2,3,4,11,13,14] ⟨[],[(2,[0,1,2,3,4,11,13,14])],[10]⟩ (.loop (sel [1,1,1,0,1,0,0,1,0,0,1,1,0,0,0] (Try.f82.body.getD .skip))) :=
  loop_ok (nt:=93) (c:=(sel [1,1,1,0,1,0,0,1,0,0,1,1,0,0,0] (Try.f82.body.getD .skip))) (C:=tagtree_Tree_walk_v83_C R k) (an:=An) (t:=(.seq (.opq 2 [0,1,2,3,4,11,13,14] ⟨[0,1,2,3,4,11,13,14],[(2,[0,1,2,3,4,11,13,14])],[]⟩ (.seq (.reg [0,1,2,3,4,11,13,14,55] []) (.cond .leaf .leaf))) (.node (.seq (.reg [0,1,2,3,4,11,13,14,15,16] []) (.seq (.seq (.reg [0,1,2,3,4,11,13,14,15,16,63] []) (.cond (.seq (.reg [10] []) .leaf) .leaf)) (.seq (.reg [0,1,2,3,4,11,13,14,66] []) (.cond (.reg [0,1,2,3,4,11,13,14] []) (.reg [0,1,2,3,4,11,13,14] [])))))))) (ic:=tagtree_Tree_walk_v83_i1) (tagtree_Tree_walk_v83_S R k) (tagtree_Tree_walk_v83_J R k) (by kernel_rfl) (And.intro (tagtree_Tree_walk_v83_j2 k) (And.intro True.intro (And.intro (And.intro True.intro (And.intro (And.intro True.intro True.intro) True.intro)) (And.intro True.intro (And.intro True.intro True.intro))))) (tagtree_Tree_walk_v83_a1 R k) (fun vals H K => by unfold tagtree_Tree_walk_v83_a1 tagtree_Tree_walk_v83_aa1; split <;> rfl)
    (fun n vals H K r h => by
      unfold tagtree_Tree_walk_v83_a1 tagtree_Tree_walk_v83_aa1 at h
      split at h <;> first | (cases h; done) | exact Eq.trans (tagtree_Tree_walk_v83_e1 tagtree_Tree_at (tagtree_Tree_Encode_1 k) (tagtree_Tree_walk_v83_l0 k) (tagtree_Tree_walk_v83_l1 k) (tagtree_Tree_walk_v83_p2 k) (tagtree_Tree_walk_v83_l3 k) k n _ _ _ _ _ _ _ _ _ _ H K) h) k
theorem tagtree_Tree_walk_v83_e0 {R:Type} (tagtree_Tree_at:tagtree_Tree_at_t R) (tagtree_Tree_Encode_1:tagtree_Tree_Encode_1_t R) (tagtree_Tree_walk_v83_l0:tagtree_Tree_walk_v83_l0_t R) (tagtree_Tree_walk_v83_l1:tagtree_Tree_walk_v83_l1_t R) (tagtree_Tree_walk_v83_p2:tagtree_Tree_walk_v83_p2_t R) (tagtree_Tree_walk_v83_l3:tagtree_Tree_walk_v83_l3_t R) (k n:Nat) (p918:Oa) (n919:Int) (n920:Int) (n921:Int) (p922:Oa) (q923:Oa) (l924:Nat) (c925:Nat) (n926:Int) (n927:Int) (H:Heap) (K:Xit → Env → Heap → Option R):evJ (tagtree_Tree_walk_v83_Ct tagtree_Tree_at tagtree_Tree_Encode_1) (tagtree_Tree_walk_v83_Jt k tagtree_Tree_walk_v83_l0 tagtree_Tree_walk_v83_l1 tagtree_Tree_walk_v83_p2 tagtree_Tree_walk_v83_l3) tagtree_Tree_walk_v83_i0 (List.zip [0,1,2,3,4,11,12,13] [.pointer p918,.int .i64 n919,.int .i64 n920,.int .i64 n921,.func (.func 83) ⟨[]⟩ ⟨[.pointer p922]⟩,.slice q923 l924 c925,.int .i64 n926,.int .i64 n927]) H (fun x e' H' => match x with | .normal => tagtree_Tree_walk_v83_aa0 tagtree_Tree_walk_v83_l0 n ((clean e' [0,1,2,3,4,11,12,13]).map (·.2)) H' K | x => K x (clean e' ((⟨[],[(0,[0,1,2,11])],[10]⟩:Out).of x)) H') = tagtree_Tree_walk_v83_l0_b tagtree_Tree_at tagtree_Tree_walk_v83_l1 (tagtree_Tree_walk_v83_l0 (fun p1398 n1399 n1400 q1401 l1402 c1403 H => K (.exit 0) [(0,.pointer p1398),(1,.int .i64 n1399),(2,.int .i64 n1400),(11,.slice q1401 l1402 c1403)] H) (fun n1404 H => K .ret [(10,.int .i64 n1404)] H) n) (fun p1398 n1399 n1400 q1401 l1402 c1403 H => K (.exit 0) [(0,.pointer p1398),(1,.int .i64 n1399),(2,.int .i64 n1400),(11,.slice q1401 l1402 c1403)] H) (fun n1404 H => K .ret [(10,.int .i64 n1404)] H) k p918 n919 n920 n921 p922 q923 l924 c925 n926 n927 H:=by kernel_rfl
theorem tagtree_Tree_walk_v83_j0 {R:Type} (k:Nat):JS Try.prog 93 (tagtree_Tree_walk_v83_a0 R k k) [0,1,2,3,4,11,12,13] ⟨[],[(0,[0,1,2,11])],[10]⟩ (.loop (sel [1,1,1,0,1,0,0] (Try.f82.body.getD .skip))) :=
  loop_ok (nt:=93) (c:=(sel [1,1,1,0,1,0,0] (Try.f82.body.getD .skip))) (C:=tagtree_Tree_walk_v83_C R k) (an:=An) (t:=(.seq (.seq (.reg [0,1,2,3,4,11,12,13,32] []) (.cond .leaf .leaf)) (.seq (.node (.seq (.reg [0,1,2,3,4,11,12,13,14] []) (.seq (.reg [0,1,2,3,4,11,13,14] []) (.seq (.node (.opq 1 [0,1,2,3,4,11,13,14] ⟨[],[(2,[0,1,2,3,4,11,13,14])],[10]⟩ (.node (.seq (.opq 2 [0,1,2,3,4,11,13,14] ⟨[0,1,2,3,4,11,13,14],[(2,[0,1,2,3,4,11,13,14])],[]⟩ (.seq (.reg [0,1,2,3,4,11,13,14,55] []) (.cond .leaf .leaf))) (.node (.seq (.reg [0,1,2,3,4,11,13,14,15,16] []) (.seq (.seq (.reg [0,1,2,3,4,11,13,14,15,16,63] []) (.cond (.seq (.reg [10] []) .leaf) .leaf)) (.seq (.reg [0,1,2,3,4,11,13,14,66] []) (.cond (.reg [0,1,2,3,4,11,13,14] []) (.reg [0,1,2,3,4,11,13,14] [])))))))))) (.reg [0,1,2,3,4,11,12,13] [[],[],[],[2],[],[2,3],[0,1,2,3,4,5],[0,1,2,3,4,5,6]]))))) (.reg [0,1,2,3,4,11,12,13] [])))) (ic:=tagtree_Tree_walk_v83_i0) (tagtree_Tree_walk_v83_S R k) (tagtree_Tree_walk_v83_J R k) (by kernel_rfl) (And.intro (And.intro True.intro (And.intro True.intro True.intro)) (And.intro (And.intro True.intro (And.intro True.intro (And.intro (tagtree_Tree_walk_v83_j1 k) True.intro))) True.intro)) (tagtree_Tree_walk_v83_a0 R k) (fun vals H K => by unfold tagtree_Tree_walk_v83_a0 tagtree_Tree_walk_v83_aa0; split <;> rfl)
    (fun n vals H K r h => by
      unfold tagtree_Tree_walk_v83_a0 tagtree_Tree_walk_v83_aa0 at h
      split at h <;> first | (cases h; done) | exact Eq.trans (tagtree_Tree_walk_v83_e0 tagtree_Tree_at (tagtree_Tree_Encode_1 k) (tagtree_Tree_walk_v83_l0 k) (tagtree_Tree_walk_v83_l1 k) (tagtree_Tree_walk_v83_p2 k) (tagtree_Tree_walk_v83_l3 k) k n _ _ _ _ _ _ _ _ _ _ H K) h) k
def tagtree_Tree_walk_v83_ca {R:Type} (f:tagtree_Tree_walk_v83_t R) (args:List Value) (H:Heap) (K:Value → Heap → Option R):Option R :=
  match args with
  | [.pointer p899,.int .i64 n900,.int .i64 n901,.int .i64 n902,.func (.func 83) ⟨[]⟩ ⟨[.pointer p903]⟩] => f p899 n900 n901 n902 p903 H (fun n1436 H => K (.int .i64 n1436) H)
  | _ => none
def tagtree_Tree_walk_v83_c (R:Type) (k:Nat) (args:List Value) (H:Heap) (K:Value → Heap → Option R):Option R:=tagtree_Tree_walk_v83_ca (tagtree_Tree_walk_v83 k) args H K
theorem tagtree_Tree_walk_v83_e {R:Type} (tagtree_Tree_at:tagtree_Tree_at_t R) (tagtree_Tree_Encode_1:tagtree_Tree_Encode_1_t R) (tagtree_Tree_walk_v83_l0:tagtree_Tree_walk_v83_l0_t R) (tagtree_Tree_walk_v83_l1:tagtree_Tree_walk_v83_l1_t R) (tagtree_Tree_walk_v83_p2:tagtree_Tree_walk_v83_p2_t R) (tagtree_Tree_walk_v83_l3:tagtree_Tree_walk_v83_l3_t R) (k:Nat) (p899:Oa) (n900:Int) (n901:Int) (n902:Int) (p903:Oa) (H:Heap) (K:Value → Heap → Option R):evF (tagtree_Tree_walk_v83_Ct tagtree_Tree_at tagtree_Tree_Encode_1) (tagtree_Tree_walk_v83_Jt k tagtree_Tree_walk_v83_l0 tagtree_Tree_walk_v83_l1 tagtree_Tree_walk_v83_p2 tagtree_Tree_walk_v83_l3) tagtree_Tree_walk_v83_f [.pointer p899,.int .i64 n900,.int .i64 n901,.int .i64 n902,.func (.func 83) ⟨[]⟩ ⟨[.pointer p903]⟩] H K = tagtree_Tree_walk_v83_b tagtree_Tree_walk_v83_l0 tagtree_Tree_walk_v83_l3 k p899 n900 n901 n902 p903 H (fun n1436 H => K (.int .i64 n1436) H):=by kernel_rfl
theorem tagtree_Tree_walk_v83_cs (R:Type) (k:Nat):∀ args H K r,tagtree_Tree_walk_v83_c R k args H K = some r → ∃ v H',Tri Try.prog 82 args H v H' ∧ K v H' = some r:=by
  intro args H K r h
  unfold tagtree_Tree_walk_v83_c tagtree_Tree_walk_v83_ca at h
  split at h
  · exact evF_ok (C:=tagtree_Tree_walk_v83_C R k) (an:=An) (t:=tagtree_Tree_walk_v83_at) (fn:=Try.f82) (c:=(Try.f82.body.getD .skip)) (ifn:=tagtree_Tree_walk_v83_f) (tagtree_Tree_walk_v83_S R k) (tagtree_Tree_walk_v83_J R k) Try.func82 (by kernel_rfl) (by kernel_rfl) (And.intro True.intro (And.intro True.intro (And.intro True.intro (And.intro (And.intro True.intro (tagtree_Tree_walk_v83_j0 k)) (And.intro (And.intro True.intro (tagtree_Tree_walk_v83_j3 k)) (And.intro True.intro True.intro)))))) rfl (Eq.trans (tagtree_Tree_walk_v83_e tagtree_Tree_at (tagtree_Tree_Encode_1 k) (tagtree_Tree_walk_v83_l0 k) (tagtree_Tree_walk_v83_l1 k) (tagtree_Tree_walk_v83_p2 k) (tagtree_Tree_walk_v83_l3 k) k _ _ _ _ _ H K) h)
  · cases h
abbrev tagtree_Tree_Encode_p0_t (R:Type):Type:=Oa → Int → Int → Int → Oa → Heap → (Oa → Int → Int → Int → Oa → Heap → Option R) → (Int → Heap → Option R) → Option R
def tagtree_Tree_Encode_p0_b {R:Type} (tagtree_Tree_ok:tagtree_Tree_ok_t R) (bitio_Writer_Bits:bitio_Writer_Bits_t R) (k:Nat) (p833:Oa) (n834:Int) (n835:Int) (n836:Int) (p837:Oa) (H:Heap) (KN:Oa → Int → Int → Int → Oa → Heap → Option R) (KR:Int → Heap → Option R):Option R :=
tagtree_Tree_ok p833 H fun t838 =>
bif (!t838) then (KR 6 H)
 else (hnil p833 fun p839 =>
hfad 2 p839 fun p840 =>
ldB H p840 fun t841 =>
bif t841 then (KR 6 H)
 else (ldP H p837 fun p842 =>
bitio_Writer_Bits p842 0 0 H fun n843 H844 =>
bif (n843 != 0) then (KR 6 H844)
 else (KN p833 n834 n835 n836 p837 H844)))
def tagtree_Tree_Encode_p0 {R:Type} (k:Nat) (p833:Oa) (n834:Int) (n835:Int) (n836:Int) (p837:Oa) (H:Heap) (KN:Oa → Int → Int → Int → Oa → Heap → Option R) (KR:Int → Heap → Option R):Option R:=tagtree_Tree_Encode_p0_b tagtree_Tree_ok (bitio_Writer_Bits k) k p833 n834 n835 n836 p837 H KN KR
abbrev tagtree_Tree_Encode_p1_t (R:Type):Type:=Oa → Int → Int → Int → Oa → Heap → (Oa → Int → Int → Int → Oa → Heap → Option R) → (Int → Heap → Option R) → Option R
def tagtree_Tree_Encode_p1_b {R:Type} (tagtree_Tree_has:tagtree_Tree_has_t R) (k:Nat) (p857:Oa) (n858:Int) (n859:Int) (n860:Int) (p861:Oa) (H:Heap) (KN:Oa → Int → Int → Int → Oa → Heap → Option R) (KR:Int → Heap → Option R):Option R :=
tagtree_Tree_has p857 n858 n859 H fun t862 H863 =>
bif (!t862) then (KR 2 H863)
 else (bif decide (n860 < 0) then (KR 2 H863)
 else (bif decide (n860 > 65536) then (KR 2 H863)
 else (KN p857 n858 n859 n860 p861 H863)))
def tagtree_Tree_Encode_p1 {R:Type} (k:Nat) (p857:Oa) (n858:Int) (n859:Int) (n860:Int) (p861:Oa) (H:Heap) (KN:Oa → Int → Int → Int → Oa → Heap → Option R) (KR:Int → Heap → Option R):Option R:=tagtree_Tree_Encode_p1_b tagtree_Tree_has k p857 n858 n859 n860 p861 H KN KR
abbrev tagtree_Tree_Encode_p2_t (R:Type):Type:=Oa → Int → Int → Int → Oa → Heap → (Oa → Int → Int → Int → Oa → Heap → Option R) → Option R
def tagtree_Tree_Encode_p2_b {R:Type} (tagtree_Tree_minima:tagtree_Tree_minima_t R) (k:Nat) (p876:Oa) (n877:Int) (n878:Int) (n879:Int) (p880:Oa) (H:Heap) (KN:Oa → Int → Int → Int → Oa → Heap → Option R):Option R :=
hnil p876 fun p881 =>
hfad 1 p881 fun p882 =>
ldB H p882 fun t883 =>
bif (!t883) then (hnil p876 fun p884 =>
hfad 1 p884 fun p885 =>
hst1 H p885 (.bool true) fun H886 =>
tagtree_Tree_minima p876 H886 fun H887 =>
KN p876 n877 n878 n879 p880 H887)
 else (KN p876 n877 n878 n879 p880 H)
def tagtree_Tree_Encode_p2 {R:Type} (k:Nat) (p876:Oa) (n877:Int) (n878:Int) (n879:Int) (p880:Oa) (H:Heap) (KN:Oa → Int → Int → Int → Oa → Heap → Option R):Option R:=tagtree_Tree_Encode_p2_b (tagtree_Tree_minima k) k p876 n877 n878 n879 p880 H KN
abbrev tagtree_Tree_Encode_t (R:Type):Type:=Oa → Oa → Int → Int → Int → Heap → (Int → Heap → Option R) → Option R
def tagtree_Tree_Encode_b {R:Type} (tagtree_Tree_Encode_p0:tagtree_Tree_Encode_p0_t R) (tagtree_Tree_Encode_p1:tagtree_Tree_Encode_p1_t R) (tagtree_Tree_Encode_p2:tagtree_Tree_Encode_p2_t R) (tagtree_Tree_walk_v83:tagtree_Tree_walk_v83_t R) (k:Nat) (p826:Oa) (p827:Oa) (n828:Int) (n829:Int) (n830:Int) (H:Heap) (K:Int → Heap → Option R):Option R :=
hal H [.pointer p827] fun p831 H832 =>
tagtree_Tree_Encode_p0 p826 n828 n829 n830 p831 H832 (fun p851 n852 n853 n854 p855 H856 =>
tagtree_Tree_Encode_p1 p851 n852 n853 n854 p855 H856 (fun p870 n871 n872 n873 p874 H875 =>
tagtree_Tree_Encode_p2 p870 n871 n872 n873 p874 H875 (fun p893 n894 n895 n896 p897 H898 =>
tagtree_Tree_walk_v83 p893 n894 n895 n896 p897 H898 fun n899 H900 =>
K n899 H900)) (fun n901 H902 =>
K n901 H902)) (fun n903 H904 =>
K n903 H904)
def tagtree_Tree_Encode {R:Type} (k:Nat) (p826:Oa) (p827:Oa) (n828:Int) (n829:Int) (n830:Int) (H:Heap) (K:Int → Heap → Option R):Option R:=tagtree_Tree_Encode_b (tagtree_Tree_Encode_p0 k) (tagtree_Tree_Encode_p1 k) (tagtree_Tree_Encode_p2 k) (tagtree_Tree_walk_v83 k) k p826 p827 n828 n829 n830 H K
def tagtree_Tree_Encode_Ct {R:Type} (tagtree_Tree_ok:tagtree_Tree_ok_t R) (bitio_Writer_Bits:bitio_Writer_Bits_t R) (tagtree_Tree_has:tagtree_Tree_has_t R) (tagtree_Tree_minima:tagtree_Tree_minima_t R) (tagtree_Tree_walk_v83:tagtree_Tree_walk_v83_t R):Tab R:=tcons 54 (tagtree_Tree_ok_ca tagtree_Tree_ok) <| tcons 64 (bitio_Writer_Bits_ca bitio_Writer_Bits) <| tcons 55 (tagtree_Tree_has_ca tagtree_Tree_has) <| tcons 81 (tagtree_Tree_minima_ca tagtree_Tree_minima) <| tcons 82 (tagtree_Tree_walk_v83_ca tagtree_Tree_walk_v83) <| fun _ _ _ _ => none
def tagtree_Tree_Encode_C (R:Type) (k:Nat):Tab R:=tagtree_Tree_Encode_Ct tagtree_Tree_ok (bitio_Writer_Bits k) tagtree_Tree_has (tagtree_Tree_minima k) (tagtree_Tree_walk_v83 k)
theorem tagtree_Tree_Encode_S (R:Type) (k:Nat):CSound Try.prog (tagtree_Tree_Encode_C R k):=csound_cons (tagtree_Tree_ok_cs R k) <| csound_cons (bitio_Writer_Bits_cs R k) <| csound_cons (tagtree_Tree_has_cs R k) <| csound_cons (tagtree_Tree_minima_cs R k) <| csound_cons (tagtree_Tree_walk_v83_cs R k) <| csound_nil
def tagtree_Tree_Encode_aa0 {R:Type} (f:tagtree_Tree_Encode_p0_t R) (n:Nat) (vals:List Value) (H:Heap) (K:Xit → Env → Heap → Option R):Option R :=
  match vals with
  | [.pointer p833,.int .i64 n834,.int .i64 n835,.int .i64 n836,.pointer p837] => f p833 n834 n835 n836 p837 H (fun p1437 n1438 n1439 n1440 p1441 H => K .normal [(0,.pointer p1437),(2,.int .i64 n1438),(3,.int .i64 n1439),(4,.int .i64 n1440),(6,.pointer p1441)] H) (fun n1442 H => K .ret [(10,.int .i64 n1442)] H)
  | _ => none
def tagtree_Tree_Encode_a0 (R:Type) (k n:Nat) (vals:List Value) (H:Heap) (K:Xit → Env → Heap → Option R):Option R:=tagtree_Tree_Encode_aa0 (tagtree_Tree_Encode_p0 k) n vals H K
def tagtree_Tree_Encode_aa1 {R:Type} (f:tagtree_Tree_Encode_p1_t R) (n:Nat) (vals:List Value) (H:Heap) (K:Xit → Env → Heap → Option R):Option R :=
  match vals with
  | [.pointer p857,.int .i64 n858,.int .i64 n859,.int .i64 n860,.pointer p861] => f p857 n858 n859 n860 p861 H (fun p1443 n1444 n1445 n1446 p1447 H => K .normal [(0,.pointer p1443),(2,.int .i64 n1444),(3,.int .i64 n1445),(4,.int .i64 n1446),(6,.pointer p1447)] H) (fun n1448 H => K .ret [(10,.int .i64 n1448)] H)
  | _ => none
def tagtree_Tree_Encode_a1 (R:Type) (k n:Nat) (vals:List Value) (H:Heap) (K:Xit → Env → Heap → Option R):Option R:=tagtree_Tree_Encode_aa1 (tagtree_Tree_Encode_p1 k) n vals H K
def tagtree_Tree_Encode_aa2 {R:Type} (f:tagtree_Tree_Encode_p2_t R) (n:Nat) (vals:List Value) (H:Heap) (K:Xit → Env → Heap → Option R):Option R :=
  match vals with
  | [.pointer p876,.int .i64 n877,.int .i64 n878,.int .i64 n879,.pointer p880] => f p876 n877 n878 n879 p880 H (fun p1449 n1450 n1451 n1452 p1453 H => K .normal [(0,.pointer p1449),(2,.int .i64 n1450),(3,.int .i64 n1451),(4,.int .i64 n1452),(6,.pointer p1453)] H)
  | _ => none
def tagtree_Tree_Encode_a2 (R:Type) (k n:Nat) (vals:List Value) (H:Heap) (K:Xit → Env → Heap → Option R):Option R:=tagtree_Tree_Encode_aa2 (tagtree_Tree_Encode_p2 k) n vals H K
def tagtree_Tree_Encode_Jt {R:Type} (k:Nat) (tagtree_Tree_Encode_p0:tagtree_Tree_Encode_p0_t R) (tagtree_Tree_Encode_p1:tagtree_Tree_Encode_p1_t R) (tagtree_Tree_Encode_p2:tagtree_Tree_Encode_p2_t R):JTab R:=tcons 0 (tagtree_Tree_Encode_aa0 tagtree_Tree_Encode_p0 k) <| tcons 1 (tagtree_Tree_Encode_aa1 tagtree_Tree_Encode_p1 k) <| tcons 2 (tagtree_Tree_Encode_aa2 tagtree_Tree_Encode_p2 k) <| fun _ _ _ _ => none
def tagtree_Tree_Encode_J (R:Type) (k:Nat):JTab R:=tagtree_Tree_Encode_Jt k (tagtree_Tree_Encode_p0 k) (tagtree_Tree_Encode_p1 k) (tagtree_Tree_Encode_p2 k)
def tagtree_Tree_Encode_at:AT:=(.seq (.reg [0,2,3,4,6] []) (.seq (.opq 0 [0,2,3,4,6] ⟨[0,2,3,4,6],[],[10]⟩ (.seq (.reg [0,2,3,4,6,24] []) (.cond (.seq (.reg [10] []) .leaf) .leaf))) (.seq (.opq 1 [0,2,3,4,6] ⟨[0,2,3,4,6],[],[10]⟩ (.seq (.reg [0,2,3,4,6,37] []) (.cond (.seq (.reg [10] []) .leaf) .leaf))) (.seq (.opq 2 [0,2,3,4,6] ⟨[0,2,3,4,6],[],[]⟩ (.seq (.reg [0,2,3,4,6,42] []) (.cond (.seq (.reg [0,2,3,4,6] []) (.reg [0,2,3,4,6] [])) .leaf))) (.seq (.reg [10] []) .leaf)))))
def tagtree_Tree_Encode_i2:IC:=(.seq (.reg [⟨some 38,.mov (.t 0),none⟩,
⟨some 39,.nilc (.t 38),none⟩,
⟨some 40,.fad 1 (.t 39),none⟩,
⟨some 41,.ld (.sc .bool) (.t 40),none⟩,
⟨some 42,.lnot (.t 41),none⟩] [0,2,3,4,6,42]) (.cond (.t 42) (.seq (.reg [⟨some 43,.mov (.t 0),none⟩,
⟨some 44,.nilc (.t 43),none⟩,
⟨some 45,.fad 1 (.t 44),none⟩,
⟨none,.st 1 (.t 45) (.c (Go.Value.bool true)),none⟩] [0,2,3,4,6]) (.reg [⟨some 46,.mov (.t 0),none⟩,
⟨some 47,.call 81 [(.t 46)] .none,none⟩] [0,2,3,4,6])) .skip))
def tagtree_Tree_Encode_i1:IC:=(.seq (.reg [⟨some 25,.mov (.t 0),none⟩,
⟨some 26,.mov (.t 2),none⟩,
⟨some 27,.mov (.t 3),none⟩,
⟨some 28,.call 55 [(.t 25),(.t 26),(.t 27)] (.one (.sc .bool)),none⟩,
⟨some 29,.lnot (.t 28),none⟩,
⟨some 30,.mov (.t 29),none⟩,
⟨some 31,.mov (.t 4),some (30,false)⟩,
⟨some 32,.cmp .lss (.t 31) (.c (Go.Value.int Go.IntKind.i64 0)),some (30,false)⟩,
⟨some 33,.pick (.t 30) (.c (Go.Value.bool true)) (.t 32),none⟩,
⟨some 34,.mov (.t 33),none⟩,
⟨some 35,.mov (.t 4),some (34,false)⟩,
⟨some 36,.cmp .gtr (.t 35) (.c (Go.Value.int Go.IntKind.i64 65536)),some (34,false)⟩,
⟨some 37,.pick (.t 34) (.c (Go.Value.bool true)) (.t 36),none⟩] [0,2,3,4,6,37]) (.cond (.t 37) (.seq (.reg [⟨some 10,.mov (.c (Go.Value.int Go.IntKind.i64 2)),none⟩] [10]) .ret) .skip))
def tagtree_Tree_Encode_i0:IC:=(.seq (.reg [⟨some 11,.mov (.t 0),none⟩,
⟨some 12,.call 54 [(.t 11)] (.one (.sc .bool)),none⟩,
⟨some 13,.lnot (.t 12),none⟩,
⟨some 14,.mov (.t 13),none⟩,
⟨some 15,.mov (.t 0),some (14,false)⟩,
⟨some 16,.nilc (.t 15),some (14,false)⟩,
⟨some 17,.fad 2 (.t 16),some (14,false)⟩,
⟨some 18,.ld (.sc .bool) (.t 17),some (14,false)⟩,
⟨some 19,.pick (.t 14) (.c (Go.Value.bool true)) (.t 18),none⟩,
⟨some 20,.mov (.t 19),none⟩,
⟨some 21,.ld (.sc .ptr) (.t 6),some (20,false)⟩,
⟨some 22,.call 64 [(.t 21),(.c (Go.Value.int Go.IntKind.i64 0)),(.c (Go.Value.int Go.IntKind.i64 0))] (.one (.sc (.int .i64))),some (20,false)⟩,
⟨some 23,.cmp .neq (.t 22) (.c (Go.Value.int Go.IntKind.i64 0)),some (20,false)⟩,
⟨some 24,.pick (.t 20) (.c (Go.Value.bool true)) (.t 23),none⟩] [0,2,3,4,6,24]) (.cond (.t 24) (.seq (.reg [⟨some 10,.mov (.c (Go.Value.int Go.IntKind.i64 6)),none⟩] [10]) .ret) .skip))
def tagtree_Tree_Encode_f:IFn:=⟨54,[.t 10],(.seq (.reg [⟨some 6,.box (.t 1),none⟩,
⟨some 10,.mov (.c (Go.Value.int Go.IntKind.i64 0)),none⟩] [0,2,3,4,6]) (.seq (.opq 0 [0,2,3,4,6] tagtree_Tree_Encode_i0) (.seq (.opq 1 [0,2,3,4,6] tagtree_Tree_Encode_i1) (.seq (.opq 2 [0,2,3,4,6] tagtree_Tree_Encode_i2) (.seq (.reg [⟨some 48,.mov (.t 0),none⟩,
⟨some 49,.mov (.t 2),none⟩,
⟨some 50,.mov (.t 3),none⟩,
⟨some 51,.mov (.t 4),none⟩,
⟨some 52,.mkf 83 [(.t 6)],none⟩,
⟨some 53,.call 82 [(.t 48),(.t 49),(.t 50),(.t 51),(.t 52)] (.one (.sc (.int .i64))),none⟩,
⟨some 10,.mov (.t 53),none⟩] [10]) .ret)))))⟩
theorem tagtree_Tree_Encode_e2 {R:Type} (tagtree_Tree_ok:tagtree_Tree_ok_t R) (bitio_Writer_Bits:bitio_Writer_Bits_t R) (tagtree_Tree_has:tagtree_Tree_has_t R) (tagtree_Tree_minima:tagtree_Tree_minima_t R) (tagtree_Tree_walk_v83:tagtree_Tree_walk_v83_t R) (tagtree_Tree_Encode_p0:tagtree_Tree_Encode_p0_t R) (tagtree_Tree_Encode_p1:tagtree_Tree_Encode_p1_t R) (tagtree_Tree_Encode_p2:tagtree_Tree_Encode_p2_t R) (k:Nat) (p876:Oa) (n877:Int) (n878:Int) (n879:Int) (p880:Oa) (H:Heap) (K:Xit → Env → Heap → Option R):evJ (tagtree_Tree_Encode_Ct tagtree_Tree_ok bitio_Writer_Bits tagtree_Tree_has tagtree_Tree_minima tagtree_Tree_walk_v83) (tagtree_Tree_Encode_Jt k tagtree_Tree_Encode_p0 tagtree_Tree_Encode_p1 tagtree_Tree_Encode_p2) tagtree_Tree_Encode_i2 (List.zip [0,2,3,4,6] [.pointer p876,.int .i64 n877,.int .i64 n878,.int .i64 n879,.pointer p880]) H (fun x e' H' => K x (clean e' ((⟨[0,2,3,4,6],[],[]⟩:Out).of x)) H') = tagtree_Tree_Encode_p2_b tagtree_Tree_minima k p876 n877 n878 n879 p880 H (fun p1449 n1450 n1451 n1452 p1453 H => K .normal [(0,.pointer p1449),(2,.int .i64 n1450),(3,.int .i64 n1451),(4,.int .i64 n1452),(6,.pointer p1453)] H):=by kernel_rfl
theorem tagtree_Tree_Encode_j2 {R:Type} (k:Nat):JS Try.prog 54 (tagtree_Tree_Encode_a2 R k k) [0,2,3,4,6] ⟨[0,2,3,4,6],[],[]⟩ (sel [1,1,1,0] (Try.f60.body.getD .skip)) :=
  piece_ok (nt:=54) (c:=(sel [1,1,1,0] (Try.f60.body.getD .skip))) (C:=tagtree_Tree_Encode_C R k) (an:=An) (t:=(.seq (.reg [0,2,3,4,6,42] []) (.cond (.seq (.reg [0,2,3,4,6] []) (.reg [0,2,3,4,6] [])) .leaf))) (ic:=tagtree_Tree_Encode_i2) (tagtree_Tree_Encode_S R k) (tagtree_Tree_Encode_J R k) (by kernel_rfl) (And.intro True.intro (And.intro (And.intro True.intro True.intro) True.intro)) (tagtree_Tree_Encode_a2 R k k)
    (fun vals H K r h => by
      unfold tagtree_Tree_Encode_a2 tagtree_Tree_Encode_aa2 at h
      split at h <;> first | (cases h; done) | exact Eq.trans (tagtree_Tree_Encode_e2 tagtree_Tree_ok (bitio_Writer_Bits k) tagtree_Tree_has (tagtree_Tree_minima k) (tagtree_Tree_walk_v83 k) (tagtree_Tree_Encode_p0 k) (tagtree_Tree_Encode_p1 k) (tagtree_Tree_Encode_p2 k) k _ _ _ _ _ H K) h)
theorem tagtree_Tree_Encode_e1 {R:Type} (tagtree_Tree_ok:tagtree_Tree_ok_t R) (bitio_Writer_Bits:bitio_Writer_Bits_t R) (tagtree_Tree_has:tagtree_Tree_has_t R) (tagtree_Tree_minima:tagtree_Tree_minima_t R) (tagtree_Tree_walk_v83:tagtree_Tree_walk_v83_t R) (tagtree_Tree_Encode_p0:tagtree_Tree_Encode_p0_t R) (tagtree_Tree_Encode_p1:tagtree_Tree_Encode_p1_t R) (tagtree_Tree_Encode_p2:tagtree_Tree_Encode_p2_t R) (k:Nat) (p857:Oa) (n858:Int) (n859:Int) (n860:Int) (p861:Oa) (H:Heap) (K:Xit → Env → Heap → Option R):evJ (tagtree_Tree_Encode_Ct tagtree_Tree_ok bitio_Writer_Bits tagtree_Tree_has tagtree_Tree_minima tagtree_Tree_walk_v83) (tagtree_Tree_Encode_Jt k tagtree_Tree_Encode_p0 tagtree_Tree_Encode_p1 tagtree_Tree_Encode_p2) tagtree_Tree_Encode_i1 (List.zip [0,2,3,4,6] [.pointer p857,.int .i64 n858,.int .i64 n859,.int .i64 n860,.pointer p861]) H (fun x e' H' => K x (clean e' ((⟨[0,2,3,4,6],[],[10]⟩:Out).of x)) H') = tagtree_Tree_Encode_p1_b tagtree_Tree_has k p857 n858 n859 n860 p861 H (fun p1443 n1444 n1445 n1446 p1447 H => K .normal [(0,.pointer p1443),(2,.int .i64 n1444),(3,.int .i64 n1445),(4,.int .i64 n1446),(6,.pointer p1447)] H) (fun n1448 H => K .ret [(10,.int .i64 n1448)] H):=by kernel_rfl
theorem tagtree_Tree_Encode_j1 {R:Type} (k:Nat):JS Try.prog 54 (tagtree_Tree_Encode_a1 R k k) [0,2,3,4,6] ⟨[0,2,3,4,6],[],[10]⟩ (sel [1,1,0] (Try.f60.body.getD .skip)) :=
  piece_ok (nt:=54) (c:=(sel [1,1,0] (Try.f60.body.getD .skip))) (C:=tagtree_Tree_Encode_C R k) (an:=An) (t:=(.seq (.reg [0,2,3,4,6,37] []) (.cond (.seq (.reg [10] []) .leaf) .leaf))) (ic:=tagtree_Tree_Encode_i1) (tagtree_Tree_Encode_S R k) (tagtree_Tree_Encode_J R k) (by kernel_rfl) (And.intro True.intro (And.intro (And.intro True.intro True.intro) True.intro)) (tagtree_Tree_Encode_a1 R k k)
    (fun vals H K r h => by
      unfold tagtree_Tree_Encode_a1 tagtree_Tree_Encode_aa1 at h
      split at h <;> first | (cases h; done) | exact Eq.trans (tagtree_Tree_Encode_e1 tagtree_Tree_ok (bitio_Writer_Bits k) tagtree_Tree_has (tagtree_Tree_minima k) (tagtree_Tree_walk_v83 k) (tagtree_Tree_Encode_p0 k) (tagtree_Tree_Encode_p1 k) (tagtree_Tree_Encode_p2 k) k _ _ _ _ _ H K) h)
theorem tagtree_Tree_Encode_e0 {R:Type} (tagtree_Tree_ok:tagtree_Tree_ok_t R) (bitio_Writer_Bits:bitio_Writer_Bits_t R) (tagtree_Tree_has:tagtree_Tree_has_t R) (tagtree_Tree_minima:tagtree_Tree_minima_t R) (tagtree_Tree_walk_v83:tagtree_Tree_walk_v83_t R) (tagtree_Tree_Encode_p0:tagtree_Tree_Encode_p0_t R) (tagtree_Tree_Encode_p1:tagtree_Tree_Encode_p1_t R) (tagtree_Tree_Encode_p2:tagtree_Tree_Encode_p2_t R) (k:Nat) (p833:Oa) (n834:Int) (n835:Int) (n836:Int) (p837:Oa) (H:Heap) (K:Xit → Env → Heap → Option R):evJ (tagtree_Tree_Encode_Ct tagtree_Tree_ok bitio_Writer_Bits tagtree_Tree_has tagtree_Tree_minima tagtree_Tree_walk_v83) (tagtree_Tree_Encode_Jt k tagtree_Tree_Encode_p0 tagtree_Tree_Encode_p1 tagtree_Tree_Encode_p2) tagtree_Tree_Encode_i0 (List.zip [0,2,3,4,6] [.pointer p833,.int .i64 n834,.int .i64 n835,.int .i64 n836,.pointer p837]) H (fun x e' H' => K x (clean e' ((⟨[0,2,3,4,6],[],[10]⟩:Out).of x)) H') = tagtree_Tree_Encode_p0_b tagtree_Tree_ok bitio_Writer_Bits k p833 n834 n835 n836 p837 H (fun p1437 n1438 n1439 n1440 p1441 H => K .normal [(0,.pointer p1437),(2,.int .i64 n1438),(3,.int .i64 n1439),(4,.int .i64 n1440),(6,.pointer p1441)] H) (fun n1442 H => K .ret [(10,.int .i64 n1442)] H):=by kernel_rfl
theorem tagtree_Tree_Encode_j0 {R:Type} (k:Nat):JS Try.prog 54 (tagtree_Tree_Encode_a0 R k k) [0,2,3,4,6] ⟨[0,2,3,4,6],[],[10]⟩ (sel [1,0] (Try.f60.body.getD .skip)) :=
  piece_ok (nt:=54) (c:=(sel [1,0] (Try.f60.body.getD .skip))) (C:=tagtree_Tree_Encode_C R k) (an:=An) (t:=(.seq (.reg [0,2,3,4,6,24] []) (.cond (.seq (.reg [10] []) .leaf) .leaf))) (ic:=tagtree_Tree_Encode_i0) (tagtree_Tree_Encode_S R k) (tagtree_Tree_Encode_J R k) (by kernel_rfl) (And.intro True.intro (And.intro (And.intro True.intro True.intro) True.intro)) (tagtree_Tree_Encode_a0 R k k)
    (fun vals H K r h => by
      unfold tagtree_Tree_Encode_a0 tagtree_Tree_Encode_aa0 at h
      split at h <;> first | (cases h; done) | exact Eq.trans (tagtree_Tree_Encode_e0 tagtree_Tree_ok (bitio_Writer_Bits k) tagtree_Tree_has (tagtree_Tree_minima k) (tagtree_Tree_walk_v83 k) (tagtree_Tree_Encode_p0 k) (tagtree_Tree_Encode_p1 k) (tagtree_Tree_Encode_p2 k) k _ _ _ _ _ H K) h)
def tagtree_Tree_Encode_ca {R:Type} (f:tagtree_Tree_Encode_t R) (args:List Value) (H:Heap) (K:Value → Heap → Option R):Option R :=
  match args with
  | [.pointer p826,.pointer p827,.int .i64 n828,.int .i64 n829,.int .i64 n830] => f p826 p827 n828 n829 n830 H (fun n1454 H => K (.int .i64 n1454) H)
  | _ => none
def tagtree_Tree_Encode_c (R:Type) (k:Nat) (args:List Value) (H:Heap) (K:Value → Heap → Option R):Option R:=tagtree_Tree_Encode_ca (tagtree_Tree_Encode k) args H K
theorem tagtree_Tree_Encode_e {R:Type} (tagtree_Tree_ok:tagtree_Tree_ok_t R) (bitio_Writer_Bits:bitio_Writer_Bits_t R) (tagtree_Tree_has:tagtree_Tree_has_t R) (tagtree_Tree_minima:tagtree_Tree_minima_t R) (tagtree_Tree_walk_v83:tagtree_Tree_walk_v83_t R) (tagtree_Tree_Encode_p0:tagtree_Tree_Encode_p0_t R) (tagtree_Tree_Encode_p1:tagtree_Tree_Encode_p1_t R) (tagtree_Tree_Encode_p2:tagtree_Tree_Encode_p2_t R) (k:Nat) (p826:Oa) (p827:Oa) (n828:Int) (n829:Int) (n830:Int) (H:Heap) (K:Value → Heap → Option R):evF (tagtree_Tree_Encode_Ct tagtree_Tree_ok bitio_Writer_Bits tagtree_Tree_has tagtree_Tree_minima tagtree_Tree_walk_v83) (tagtree_Tree_Encode_Jt k tagtree_Tree_Encode_p0 tagtree_Tree_Encode_p1 tagtree_Tree_Encode_p2) tagtree_Tree_Encode_f [.pointer p826,.pointer p827,.int .i64 n828,.int .i64 n829,.int .i64 n830] H K = tagtree_Tree_Encode_b tagtree_Tree_Encode_p0 tagtree_Tree_Encode_p1 tagtree_Tree_Encode_p2 tagtree_Tree_walk_v83 k p826 p827 n828 n829 n830 H (fun n1454 H => K (.int .i64 n1454) H):=by kernel_rfl
theorem tagtree_Tree_Encode_cs (R:Type) (k:Nat):∀ args H K r,tagtree_Tree_Encode_c R k args H K = some r → ∃ v H',Tri Try.prog 60 args H v H' ∧ K v H' = some r:=by
  intro args H K r h
  unfold tagtree_Tree_Encode_c tagtree_Tree_Encode_ca at h
  split at h
  · exact evF_ok (C:=tagtree_Tree_Encode_C R k) (an:=An) (t:=tagtree_Tree_Encode_at) (fn:=Try.f60) (c:=(Try.f60.body.getD .skip)) (ifn:=tagtree_Tree_Encode_f) (tagtree_Tree_Encode_S R k) (tagtree_Tree_Encode_J R k) Try.func60 (by kernel_rfl) (by kernel_rfl) (And.intro True.intro (And.intro (tagtree_Tree_Encode_j0 k) (And.intro (tagtree_Tree_Encode_j1 k) (And.intro (tagtree_Tree_Encode_j2 k) (And.intro True.intro True.intro))))) rfl (Eq.trans (tagtree_Tree_Encode_e tagtree_Tree_ok (bitio_Writer_Bits k) tagtree_Tree_has (tagtree_Tree_minima k) (tagtree_Tree_walk_v83 k) (tagtree_Tree_Encode_p0 k) (tagtree_Tree_Encode_p1 k) (tagtree_Tree_Encode_p2 k) k _ _ _ _ _ H K) h)
  · cases h
abbrev bitio_Writer_Gamma_p0_t (R:Type):Type:=Oa → Int → (Oa → Int → Option R) → (Int → Option R) → Option R
def bitio_Writer_Gamma_p0_b {R:Type} (k:Nat) (p902:Oa) (n903:Int) (KN:Oa → Int → Option R) (KR:Int → Option R):Option R :=
bif decide (n903 < 1) then (KR 1)
 else (bif decide (n903 ≥ 4294967296) then (KR 1)
 else (KN p902 n903))
def bitio_Writer_Gamma_p0 {R:Type} (k:Nat) (p902:Oa) (n903:Int) (KN:Oa → Int → Option R) (KR:Int → Option R):Option R:=bitio_Writer_Gamma_p0_b k p902 n903 KN KR
abbrev bitio_Writer_Gamma_l1_t (R:Type):Type:=(Oa → Int → Int → Option R) → Nat → Oa → Int → Int → Option R
def bitio_Writer_Gamma_l1_b {R:Type} (rec:Oa → Int → Int → Option R) (KE0:Oa → Int → Int → Option R) (k:Nat) (p909:Oa) (n910:Int) (n911:Int):Option R :=
hbin .shr .i64 n910 (IntKind.wrap .u64 n911) fun n912 =>
bif decide (n912 > 1) then (rec p909 n910 (IntKind.wrap .i64 (n911 + 1)))
 else (KE0 p909 n910 n911)
def bitio_Writer_Gamma_l1 {R:Type} (k:Nat) (KE0:Oa → Int → Int → Option R):Nat → Oa → Int → Int → Option R
  | 0,_,_,_ => none
  | n + 1,p909,n910,n911 => bitio_Writer_Gamma_l1_b (bitio_Writer_Gamma_l1 k KE0 n) KE0 k p909 n910 n911
abbrev bitio_Writer_Gamma_l2_t (R:Type):Type:=(Oa → Int → Int → Heap → Option R) → Nat → Oa → Int → Int → Int → Int → Heap → Option R
def bitio_Writer_Gamma_l2_b {R:Type} (bitio_Writer_put:bitio_Writer_put_t R) (rec:Oa → Int → Int → Int → Int → Heap → Option R) (KE2:Oa → Int → Int → Heap → Option R) (k:Nat) (p919:Oa) (n920:Int) (n921:Int) (n922:Int) (n923:Int) (H:Heap):Option R :=
bif decide (n923 < n922) then (bitio_Writer_put p919 0 H fun H924 =>
rec p919 n920 n921 n922 (IntKind.wrap .i64 (n923 + 1)) H924)
 else (KE2 p919 n920 n921 H)
def bitio_Writer_Gamma_l2 {R:Type} (k:Nat) (KE2:Oa → Int → Int → Heap → Option R):Nat → Oa → Int → Int → Int → Int → Heap → Option R
  | 0,_,_,_,_,_,_ => none
  | n + 1,p919,n920,n921,n922,n923,H => bitio_Writer_Gamma_l2_b (bitio_Writer_put k) (bitio_Writer_Gamma_l2 k KE2 n) KE2 k p919 n920 n921 n922 n923 H
abbrev bitio_Writer_Gamma_t (R:Type):Type:=Oa → Int → Heap → (Int → Heap → Option R) → Option R
def bitio_Writer_Gamma_b {R:Type} (bitio_Writer_ok:bitio_Writer_ok_t R) (bitio_Writer_Gamma_p0:bitio_Writer_Gamma_p0_t R) (bitio_Writer_Gamma_l1:bitio_Writer_Gamma_l1_t R) (bitio_Writer_Gamma_l2:bitio_Writer_Gamma_l2_t R) (bitio_Writer_Bits:bitio_Writer_Bits_t R) (k:Nat) (p899:Oa) (n900:Int) (H:Heap) (K:Int → Heap → Option R):Option R :=
bitio_Writer_ok p899 H fun t901 =>
bif (!t901) then (K 6 H)
 else (bitio_Writer_Gamma_p0 p899 n900 (fun p907 n908 =>
bitio_Writer_Gamma_l1 (fun p916 n917 n918 =>
bitio_Writer_Gamma_l2 (fun p928 n929 n930 H931 =>
bitio_Writer_Bits p928 n929 (IntKind.wrap .i64 (n930 + 1)) H931 fun n932 H933 =>
K n932 H933) k p916 n917 n918 n918 0 H) k p907 n908 0) (fun n934 =>
K n934 H))
def bitio_Writer_Gamma {R:Type} (k:Nat) (p899:Oa) (n900:Int) (H:Heap) (K:Int → Heap → Option R):Option R:=bitio_Writer_Gamma_b bitio_Writer_ok (bitio_Writer_Gamma_p0 k) (bitio_Writer_Gamma_l1 k) (bitio_Writer_Gamma_l2 k) (bitio_Writer_Bits k) k p899 n900 H K
def bitio_Writer_Gamma_Ct {R:Type} (bitio_Writer_ok:bitio_Writer_ok_t R) (bitio_Writer_put:bitio_Writer_put_t R) (bitio_Writer_Bits:bitio_Writer_Bits_t R):Tab R:=tcons 58 (bitio_Writer_ok_ca bitio_Writer_ok) <| tcons 59 (bitio_Writer_put_ca bitio_Writer_put) <| tcons 64 (bitio_Writer_Bits_ca bitio_Writer_Bits) <| fun _ _ _ _ => none
def bitio_Writer_Gamma_C (R:Type) (k:Nat):Tab R:=bitio_Writer_Gamma_Ct bitio_Writer_ok (bitio_Writer_put k) (bitio_Writer_Bits k)
theorem bitio_Writer_Gamma_S (R:Type) (k:Nat):CSound Try.prog (bitio_Writer_Gamma_C R k):=csound_cons (bitio_Writer_ok_cs R k) <| csound_cons (bitio_Writer_put_cs R k) <| csound_cons (bitio_Writer_Bits_cs R k) <| csound_nil
def bitio_Writer_Gamma_aa0 {R:Type} (f:bitio_Writer_Gamma_p0_t R) (n:Nat) (vals:List Value) (H:Heap) (K:Xit → Env → Heap → Option R):Option R :=
  match vals with
  | [.pointer p902,.int .i64 n903] => f p902 n903 (fun p1455 n1456 => K .normal [(0,.pointer p1455),(1,.int .i64 n1456)] H) (fun n1457 => K .ret [(4,.int .i64 n1457)] H)
  | _ => none
def bitio_Writer_Gamma_a0 (R:Type) (k n:Nat) (vals:List Value) (H:Heap) (K:Xit → Env → Heap → Option R):Option R:=bitio_Writer_Gamma_aa0 (bitio_Writer_Gamma_p0 k) n vals H K
def bitio_Writer_Gamma_aa1 {R:Type} (f:bitio_Writer_Gamma_l1_t R) (n:Nat) (vals:List Value) (H:Heap) (K:Xit → Env → Heap → Option R):Option R :=
  match vals with
  | [.pointer p909,.int .i64 n910,.int .i64 n911] => f (fun p1458 n1459 n1460 => K (.exit 0) [(0,.pointer p1458),(1,.int .i64 n1459),(5,.int .i64 n1460)] H) n p909 n910 n911
  | _ => none
def bitio_Writer_Gamma_a1 (R:Type) (k n:Nat) (vals:List Value) (H:Heap) (K:Xit → Env → Heap → Option R):Option R:=bitio_Writer_Gamma_aa1 (bitio_Writer_Gamma_l1 k) n vals H K
def bitio_Writer_Gamma_aa2 {R:Type} (f:bitio_Writer_Gamma_l2_t R) (n:Nat) (vals:List Value) (H:Heap) (K:Xit → Env → Heap → Option R):Option R :=
  match vals with
  | [.pointer p919,.int .i64 n920,.int .i64 n921,.int .i64 n922,.int .i64 n923] => f (fun p1461 n1462 n1463 H => K (.exit 2) [(0,.pointer p1461),(1,.int .i64 n1462),(5,.int .i64 n1463)] H) n p919 n920 n921 n922 n923 H
  | _ => none
def bitio_Writer_Gamma_a2 (R:Type) (k n:Nat) (vals:List Value) (H:Heap) (K:Xit → Env → Heap → Option R):Option R:=bitio_Writer_Gamma_aa2 (bitio_Writer_Gamma_l2 k) n vals H K
def bitio_Writer_Gamma_Jt {R:Type} (k:Nat) (bitio_Writer_Gamma_p0:bitio_Writer_Gamma_p0_t R) (bitio_Writer_Gamma_l1:bitio_Writer_Gamma_l1_t R) (bitio_Writer_Gamma_l2:bitio_Writer_Gamma_l2_t R):JTab R:=tcons 0 (bitio_Writer_Gamma_aa0 bitio_Writer_Gamma_p0 k) <| tcons 1 (bitio_Writer_Gamma_aa1 bitio_Writer_Gamma_l1 k) <| tcons 2 (bitio_Writer_Gamma_aa2 bitio_Writer_Gamma_l2 k) <| fun _ _ _ _ => none
def bitio_Writer_Gamma_J (R:Type) (k:Nat):JTab R:=bitio_Writer_Gamma_Jt k (bitio_Writer_Gamma_p0 k) (bitio_Writer_Gamma_l1 k) (bitio_Writer_Gamma_l2 k)
def bitio_Writer_Gamma_at:AT:=(.seq (.reg [0,1] []) (.seq (.seq (.reg [0,1,8] []) (.cond (.seq (.reg [4] []) .leaf) .leaf)) (.seq (.opq 0 [0,1] ⟨[0,1],[],[4]⟩ (.seq (.reg [0,1,14] []) (.cond (.seq (.reg [4] []) .leaf) .leaf))) (.seq (.reg [0,1,5] []) (.seq (.node (.opq 1 [0,1,5] ⟨[],[(0,[0,1,5])],[]⟩ (.node (.seq (.seq (.reg [0,1,5,19] []) (.cond .leaf .leaf)) (.node (.reg [0,1,5] [])))))) (.seq (.seq (.reg [0,1,5,22,23] []) (.node (.opq 2 [0,1,5,22,23] ⟨[],[(2,[0,1,5])],[]⟩ (.node (.seq (.reg [0,1,5,22,23,24] []) (.seq (.cond .leaf .leaf) (.seq (.node (.reg [0,1,5,22,23] [])) (.reg [0,1,5,22,23] [])))))))) (.seq (.reg [4] []) .leaf)))))))
def bitio_Writer_Gamma_i2:IC:=(.seq (.reg [⟨some 24,.cmp .lss (.t 23) (.t 22),none⟩] [0,1,5,22,23,24]) (.seq (.cond (.t 24) .skip (.exit 2)) (.seq (.block 3 (.reg [⟨some 25,.mov (.t 0),none⟩,
⟨some 26,.call 59 [(.t 25),(.c (Go.Value.int Go.IntKind.i64 0))] .none,none⟩] [0,1,5,22,23])) (.reg [⟨some 27,.bin .add .i64 (.t 23) (.c (Go.Value.int Go.IntKind.i64 1)),none⟩,
⟨some 23,.mov (.t 27),none⟩] [0,1,5,22,23]))))
def bitio_Writer_Gamma_i1:IC:=(.seq (.seq (.reg [⟨some 15,.mov (.t 1),none⟩,
⟨some 16,.mov (.t 5),none⟩,
⟨some 17,.cnv .u64 (.t 16),none⟩,
⟨some 18,.bin .shr .i64 (.t 15) (.t 17),none⟩,
⟨some 19,.cmp .gtr (.t 18) (.c (Go.Value.int Go.IntKind.i64 1)),none⟩] [0,1,5,19]) (.cond (.t 19) .skip (.exit 0))) (.block 1 (.reg [⟨some 20,.mov (.t 5),none⟩,
⟨some 21,.bin .add .i64 (.t 20) (.c (Go.Value.int Go.IntKind.i64 1)),none⟩,
⟨some 5,.mov (.t 21),none⟩] [0,1,5])))
def bitio_Writer_Gamma_i0:IC:=(.seq (.reg [⟨some 9,.mov (.t 1),none⟩,
⟨some 10,.cmp .lss (.t 9) (.c (Go.Value.int Go.IntKind.i64 1)),none⟩,
⟨some 11,.mov (.t 10),none⟩,
⟨some 12,.mov (.t 1),some (11,false)⟩,
⟨some 13,.cmp .geq (.t 12) (.c (Go.Value.int Go.IntKind.i64 4294967296)),some (11,false)⟩,
⟨some 14,.pick (.t 11) (.c (Go.Value.bool true)) (.t 13),none⟩] [0,1,14]) (.cond (.t 14) (.seq (.reg [⟨some 4,.mov (.c (Go.Value.int Go.IntKind.i64 1)),none⟩] [4]) .ret) .skip))
def bitio_Writer_Gamma_f:IFn:=⟨33,[.t 4],(.seq (.reg [⟨some 4,.mov (.c (Go.Value.int Go.IntKind.i64 0)),none⟩] [0,1]) (.seq (.seq (.reg [⟨some 6,.mov (.t 0),none⟩,
⟨some 7,.call 58 [(.t 6)] (.one (.sc .bool)),none⟩,
⟨some 8,.lnot (.t 7),none⟩] [0,1,8]) (.cond (.t 8) (.seq (.reg [⟨some 4,.mov (.c (Go.Value.int Go.IntKind.i64 6)),none⟩] [4]) .ret) .skip)) (.seq (.opq 0 [0,1] bitio_Writer_Gamma_i0) (.seq (.reg [⟨some 5,.mov (.c (Go.Value.int Go.IntKind.i64 0)),none⟩] [0,1,5]) (.seq (.block 0 (.opq 1 [0,1,5] (.loop bitio_Writer_Gamma_i1))) (.seq (.seq (.reg [⟨some 22,.mov (.t 5),none⟩,
⟨some 23,.mov (.c (Go.Value.int Go.IntKind.i64 0)),none⟩] [0,1,5,22,23]) (.block 2 (.opq 2 [0,1,5,22,23] (.loop bitio_Writer_Gamma_i2)))) (.seq (.reg [⟨some 28,.mov (.t 0),none⟩,
⟨some 29,.mov (.t 1),none⟩,
⟨some 30,.mov (.t 5),none⟩,
⟨some 31,.bin .add .i64 (.t 30) (.c (Go.Value.int Go.IntKind.i64 1)),none⟩,
⟨some 32,.call 64 [(.t 28),(.t 29),(.t 31)] (.one (.sc (.int .i64))),none⟩,
⟨some 4,.mov (.t 32),none⟩] [4]) .ret)))))))⟩
theorem bitio_Writer_Gamma_e2 {R:Type} (bitio_Writer_ok:bitio_Writer_ok_t R) (bitio_Writer_put:bitio_Writer_put_t R) (bitio_Writer_Bits:bitio_Writer_Bits_t R) (bitio_Writer_Gamma_p0:bitio_Writer_Gamma_p0_t R) (bitio_Writer_Gamma_l1:bitio_Writer_Gamma_l1_t R) (bitio_Writer_Gamma_l2:bitio_Writer_Gamma_l2_t R) (k n:Nat) (p919:Oa) (n920:Int) (n921:Int) (n922:Int) (n923:Int) (H:Heap) (K:Xit → Env → Heap → Option R):evJ (bitio_Writer_Gamma_Ct bitio_Writer_ok bitio_Writer_put bitio_Writer_Bits) (bitio_Writer_Gamma_Jt k bitio_Writer_Gamma_p0 bitio_Writer_Gamma_l1 bitio_Writer_Gamma_l2) bitio_Writer_Gamma_i2 (List.zip [0,1,5,22,23] [.pointer p919,.int .i64 n920,.int .i64 n921,.int .i64 n922,.int .i64 n923]) H (fun x e' H' => match x with | .normal => bitio_Writer_Gamma_aa2 bitio_Writer_Gamma_l2 n ((clean e' [0,1,5,22,23]).map (·.2)) H' K | x => K x (clean e' ((⟨[],[(2,[0,1,5])],[]⟩:Out).of x)) H') = bitio_Writer_Gamma_l2_b bitio_Writer_put (bitio_Writer_Gamma_l2 (fun p1461 n1462 n1463 H => K (.exit 2) [(0,.pointer p1461),(1,.int .i64 n1462),(5,.int .i64 n1463)] H) n) (fun p1461 n1462 n1463 H => K (.exit 2) [(0,.pointer p1461),(1,.int .i64 n1462),(5,.int .i64 n1463)] H) k p919 n920 n921 n922 n923 H:=by kernel_rfl
theorem bitio_Writer_Gamma_j2 {R:Type} (k:Nat):JS Try.prog 33 (bitio_Writer_Gamma_a2 R k k) [0,1,5,22,23] ⟨[],[(2,[0,1,5])],[]⟩ (.loop (sel [1,1,1,1,1,0,1,0,0] (Try.f61.body.getD .skip))) :=
  loop_ok (nt:=33) (c:=(sel [1,1,1,1,1,0,1,0,0] (Try.f61.body.getD .skip))) (C:=bitio_Writer_Gamma_C R k) (an:=An) (t:=(.seq (.reg [0,1,5,22,23,24] []) (.seq (.cond .leaf .leaf) (.seq (.node (.reg [0,1,5,22,23] [])) (.reg [0,1,5,22,23] []))))) (ic:=bitio_Writer_Gamma_i2) (bitio_Writer_Gamma_S R k) (bitio_Writer_Gamma_J R k) (by kernel_rfl) (And.intro True.intro (And.intro (And.intro True.intro True.intro) (And.intro True.intro True.intro))) (bitio_Writer_Gamma_a2 R k) (fun vals H K => by unfold bitio_Writer_Gamma_a2 bitio_Writer_Gamma_aa2; split <;> rfl)
    (fun n vals H K r h => by
      unfold bitio_Writer_Gamma_a2 bitio_Writer_Gamma_aa2 at h
      split at h <;> first | (cases h; done) | exact Eq.trans (bitio_Writer_Gamma_e2 bitio_Writer_ok (bitio_Writer_put k) (bitio_Writer_Bits k) (bitio_Writer_Gamma_p0 k) (bitio_Writer_Gamma_l1 k) (bitio_Writer_Gamma_l2 k) k n _ _ _ _ _ H K) h) k
theorem bitio_Writer_Gamma_e1 {R:Type} (bitio_Writer_ok:bitio_Writer_ok_t R) (bitio_Writer_put:bitio_Writer_put_t R) (bitio_Writer_Bits:bitio_Writer_Bits_t R) (bitio_Writer_Gamma_p0:bitio_Writer_Gamma_p0_t R) (bitio_Writer_Gamma_l1:bitio_Writer_Gamma_l1_t R) (bitio_Writer_Gamma_l2:bitio_Writer_Gamma_l2_t R) (k n:Nat) (p909:Oa) (n910:Int) (n911:Int) (H:Heap) (K:Xit → Env → Heap → Option R):evJ (bitio_Writer_Gamma_Ct bitio_Writer_ok bitio_Writer_put bitio_Writer_Bits) (bitio_Writer_Gamma_Jt k bitio_Writer_Gamma_p0 bitio_Writer_Gamma_l1 bitio_Writer_Gamma_l2) bitio_Writer_Gamma_i1 (List.zip [0,1,5] [.pointer p909,.int .i64 n910,.int .i64 n911]) H (fun x e' H' => match x with | .normal => bitio_Writer_Gamma_aa1 bitio_Writer_Gamma_l1 n ((clean e' [0,1,5]).map (·.2)) H' K | x => K x (clean e' ((⟨[],[(0,[0,1,5])],[]⟩:Out).of x)) H') = bitio_Writer_Gamma_l1_b (bitio_Writer_Gamma_l1 (fun p1458 n1459 n1460 => K (.exit 0) [(0,.pointer p1458),(1,.int .i64 n1459),(5,.int .i64 n1460)] H) n) (fun p1458 n1459 n1460 => K (.exit 0) [(0,.pointer p1458),(1,.int .i64 n1459),(5,.int .i64 n1460)] H) k p909 n910 n911:=by kernel_rfl
theorem bitio_Writer_Gamma_j1 {R:Type} (k:Nat):JS Try.prog 33 (bitio_Writer_Gamma_a1 R k k) [0,1,5] ⟨[],[(0,[0,1,5])],[]⟩ (.loop (sel [1,1,1,1,0,0,0] (Try.f61.body.getD .skip))) :=
  loop_ok (nt:=33) (c:=(sel [1,1,1,1,0,0,0] (Try.f61.body.getD .skip))) (C:=bitio_Writer_Gamma_C R k) (an:=An) (t:=(.seq (.seq (.reg [0,1,5,19] []) (.cond .leaf .leaf)) (.node (.reg [0,1,5] [])))) (ic:=bitio_Writer_Gamma_i1) (bitio_Writer_Gamma_S R k) (bitio_Writer_Gamma_J R k) (by kernel_rfl) (And.intro (And.intro True.intro (And.intro True.intro True.intro)) True.intro) (bitio_Writer_Gamma_a1 R k) (fun vals H K => by unfold bitio_Writer_Gamma_a1 bitio_Writer_Gamma_aa1; split <;> rfl)
    (fun n vals H K r h => by
      unfold bitio_Writer_Gamma_a1 bitio_Writer_Gamma_aa1 at h
      split at h <;> first | (cases h; done) | exact Eq.trans (bitio_Writer_Gamma_e1 bitio_Writer_ok (bitio_Writer_put k) (bitio_Writer_Bits k) (bitio_Writer_Gamma_p0 k) (bitio_Writer_Gamma_l1 k) (bitio_Writer_Gamma_l2 k) k n _ _ _ H K) h) k
theorem bitio_Writer_Gamma_e0 {R:Type} (bitio_Writer_ok:bitio_Writer_ok_t R) (bitio_Writer_put:bitio_Writer_put_t R) (bitio_Writer_Bits:bitio_Writer_Bits_t R) (bitio_Writer_Gamma_p0:bitio_Writer_Gamma_p0_t R) (bitio_Writer_Gamma_l1:bitio_Writer_Gamma_l1_t R) (bitio_Writer_Gamma_l2:bitio_Writer_Gamma_l2_t R) (k:Nat) (p902:Oa) (n903:Int) (H:Heap) (K:Xit → Env → Heap → Option R):evJ (bitio_Writer_Gamma_Ct bitio_Writer_ok bitio_Writer_put bitio_Writer_Bits) (bitio_Writer_Gamma_Jt k bitio_Writer_Gamma_p0 bitio_Writer_Gamma_l1 bitio_Writer_Gamma_l2) bitio_Writer_Gamma_i0 (List.zip [0,1] [.pointer p902,.int .i64 n903]) H (fun x e' H' => K x (clean e' ((⟨[0,1],[],[4]⟩:Out).of x)) H') = bitio_Writer_Gamma_p0_b k p902 n903 (fun p1455 n1456 => K .normal [(0,.pointer p1455),(1,.int .i64 n1456)] H) (fun n1457 => K .ret [(4,.int .i64 n1457)] H):=by kernel_rfl
theorem bitio_Writer_Gamma_j0 {R:Type} (k:Nat):JS Try.prog 33 (bitio_Writer_Gamma_a0 R k k) [0,1] ⟨[0,1],[],[4]⟩ (sel [1,1,0] (Try.f61.body.getD .skip)) :=
  piece_ok (nt:=33) (c:=(sel [1,1,0] (Try.f61.body.getD .skip))) (C:=bitio_Writer_Gamma_C R k) (an:=An) (t:=(.seq (.reg [0,1,14] []) (.cond (.seq (.reg [4] []) .leaf) .leaf))) (ic:=bitio_Writer_Gamma_i0) (bitio_Writer_Gamma_S R k) (bitio_Writer_Gamma_J R k) (by kernel_rfl) (And.intro True.intro (And.intro (And.intro True.intro True.intro) True.intro)) (bitio_Writer_Gamma_a0 R k k)
    (fun vals H K r h => by
      unfold bitio_Writer_Gamma_a0 bitio_Writer_Gamma_aa0 at h
      split at h <;> first | (cases h; done) | exact Eq.trans (bitio_Writer_Gamma_e0 bitio_Writer_ok (bitio_Writer_put k) (bitio_Writer_Bits k) (bitio_Writer_Gamma_p0 k) (bitio_Writer_Gamma_l1 k) (bitio_Writer_Gamma_l2 k) k _ _ H K) h)
def bitio_Writer_Gamma_ca {R:Type} (f:bitio_Writer_Gamma_t R) (args:List Value) (H:Heap) (K:Value → Heap → Option R):Option R :=
  match args with
  | [.pointer p899,.int .i64 n900] => f p899 n900 H (fun n1464 H => K (.int .i64 n1464) H)
  | _ => none
def bitio_Writer_Gamma_c (R:Type) (k:Nat) (args:List Value) (H:Heap) (K:Value → Heap → Option R):Option R:=bitio_Writer_Gamma_ca (bitio_Writer_Gamma k) args H K
theorem bitio_Writer_Gamma_e {R:Type} (bitio_Writer_ok:bitio_Writer_ok_t R) (bitio_Writer_put:bitio_Writer_put_t R) (bitio_Writer_Bits:bitio_Writer_Bits_t R) (bitio_Writer_Gamma_p0:bitio_Writer_Gamma_p0_t R) (bitio_Writer_Gamma_l1:bitio_Writer_Gamma_l1_t R) (bitio_Writer_Gamma_l2:bitio_Writer_Gamma_l2_t R) (k:Nat) (p899:Oa) (n900:Int) (H:Heap) (K:Value → Heap → Option R):evF (bitio_Writer_Gamma_Ct bitio_Writer_ok bitio_Writer_put bitio_Writer_Bits) (bitio_Writer_Gamma_Jt k bitio_Writer_Gamma_p0 bitio_Writer_Gamma_l1 bitio_Writer_Gamma_l2) bitio_Writer_Gamma_f [.pointer p899,.int .i64 n900] H K = bitio_Writer_Gamma_b bitio_Writer_ok bitio_Writer_Gamma_p0 bitio_Writer_Gamma_l1 bitio_Writer_Gamma_l2 bitio_Writer_Bits k p899 n900 H (fun n1464 H => K (.int .i64 n1464) H):=by kernel_rfl
theorem bitio_Writer_Gamma_cs (R:Type) (k:Nat):∀ args H K r,bitio_Writer_Gamma_c R k args H K = some r → ∃ v H',Tri Try.prog 61 args H v H' ∧ K v H' = some r:=by
  intro args H K r h
  unfold bitio_Writer_Gamma_c bitio_Writer_Gamma_ca at h
  split at h
  · exact evF_ok (C:=bitio_Writer_Gamma_C R k) (an:=An) (t:=bitio_Writer_Gamma_at) (fn:=Try.f61) (c:=(Try.f61.body.getD .skip)) (ifn:=bitio_Writer_Gamma_f) (bitio_Writer_Gamma_S R k) (bitio_Writer_Gamma_J R k) Try.func61 (by kernel_rfl) (by kernel_rfl) (And.intro True.intro (And.intro (And.intro True.intro (And.intro (And.intro True.intro True.intro) True.intro)) (And.intro (bitio_Writer_Gamma_j0 k) (And.intro True.intro (And.intro (bitio_Writer_Gamma_j1 k) (And.intro (And.intro True.intro (bitio_Writer_Gamma_j2 k)) (And.intro True.intro True.intro))))))) rfl (Eq.trans (bitio_Writer_Gamma_e bitio_Writer_ok (bitio_Writer_put k) (bitio_Writer_Bits k) (bitio_Writer_Gamma_p0 k) (bitio_Writer_Gamma_l1 k) (bitio_Writer_Gamma_l2 k) k _ _ H K) h)
  · cases h
abbrev bits_Len64_p0_t (R:Type):Type:=Int → Int → (Int → Int → Option R) → Option R
def bits_Len64_p0_b {R:Type} (k:Nat) (n991:Int) (n992:Int) (KN:Int → Int → Option R):Option R :=
bif decide (n991 ≥ 4294967296) then (KN (Int.fdiv n991 4294967296) 32)
 else (KN n991 n992)
def bits_Len64_p0 {R:Type} (k:Nat) (n991:Int) (n992:Int) (KN:Int → Int → Option R):Option R:=bits_Len64_p0_b k n991 n992 KN
abbrev bits_Len64_p1_t (R:Type):Type:=Int → Int → (Int → Int → Option R) → Option R
def bits_Len64_p1_b {R:Type} (k:Nat) (n997:Int) (n998:Int) (KN:Int → Int → Option R):Option R :=
bif decide (n997 ≥ 65536) then (KN (Int.fdiv n997 65536) (IntKind.wrap .i64 (n998 + 16)))
 else (KN n997 n998)
def bits_Len64_p1 {R:Type} (k:Nat) (n997:Int) (n998:Int) (KN:Int → Int → Option R):Option R:=bits_Len64_p1_b k n997 n998 KN
abbrev bits_Len64_p2_t (R:Type):Type:=Int → Int → (Int → Int → Option R) → Option R
def bits_Len64_p2_b {R:Type} (k:Nat) (n1003:Int) (n1004:Int) (KN:Int → Int → Option R):Option R :=
bif decide (n1003 ≥ 256) then (KN (Int.fdiv n1003 256) (IntKind.wrap .i64 (n1004 + 8)))
 else (KN n1003 n1004)
def bits_Len64_p2 {R:Type} (k:Nat) (n1003:Int) (n1004:Int) (KN:Int → Int → Option R):Option R:=bits_Len64_p2_b k n1003 n1004 KN
abbrev bits_Len64_t (R:Type):Type:=Int → (Int → Option R) → Option R
def bits_Len64_b {R:Type} (bits_Len64_p0:bits_Len64_p0_t R) (bits_Len64_p1:bits_Len64_p1_t R) (bits_Len64_p2:bits_Len64_p2_t R) (k:Nat) (n990:Int) (K:Int → Option R):Option R :=
bits_Len64_p0 n990 0 (fun n995 n996 =>
bits_Len64_p1 n995 n996 (fun n1001 n1002 =>
bits_Len64_p2 n1001 n1002 (fun n1007 n1008 =>
hidt ((ByteArray.mk #[0,1,2,2,3,3,3,3,4,4,4,4,4,4,4,4,5,5,5,5,5,5,5,5,5,5,5,5,5,5,5,5,6,6,6,6,6,6,6,6,6,6,6,6,6,6,6,6,6,6,6,6,6,6,6,6,6,6,6,6,6,6,6,6,7,7,7,7,7,7,7,7,7,7,7,7,7,7,7,7,7,7,7,7,7,7,7,7,7,7,7,7,7,7,7,7,7,7,7,7,7,7,7,7,7,7,7,7,7,7,7,7,7,7,7,7,7,7,7,7,7,7,7,7,7,7,7,7,8,8,8,8,8,8,8,8,8,8,8,8,8,8,8,8,8,8,8,8,8,8,8,8,8,8,8,8,8,8,8,8,8,8,8,8,8,8,8,8,8,8,8,8,8,8,8,8,8,8,8,8,8,8,8,8,8,8,8,8,8,8,8,8,8,8,8,8,8,8,8,8,8,8,8,8,8,8,8,8,8,8,8,8,8,8,8,8,8,8,8,8,8,8,8,8,8,8,8,8,8,8,8,8,8,8,8,8,8,8,8,8,8,8,8,8,8,8,8,8,8,8,8,8,8,8,8,8])) (IntKind.wrap .u8 n1007) fun n1009 =>
K (IntKind.wrap .i64 (n1008 + (IntKind.wrap .i64 n1009))))))
def bits_Len64 {R:Type} (k:Nat) (n990:Int) (K:Int → Option R):Option R:=bits_Len64_b (bits_Len64_p0 k) (bits_Len64_p1 k) (bits_Len64_p2 k) k n990 K
def bits_Len64_Ct {R:Type}:Tab R:=fun _ _ _ _ => none
def bits_Len64_C (R:Type) (k:Nat):Tab R:=bits_Len64_Ct
theorem bits_Len64_S (R:Type) (k:Nat):CSound Try.prog (bits_Len64_C R k):=csound_nil
def bits_Len64_aa0 {R:Type} (f:bits_Len64_p0_t R) (n:Nat) (vals:List Value) (H:Heap) (K:Xit → Env → Heap → Option R):Option R :=
  match vals with
  | [.int .u64 n991,.int .i64 n992] => f n991 n992 (fun n1465 n1466 => K .normal [(0,.int .u64 n1465),(2,.int .i64 n1466)] H)
  | _ => none
def bits_Len64_a0 (R:Type) (k n:Nat) (vals:List Value) (H:Heap) (K:Xit → Env → Heap → Option R):Option R:=bits_Len64_aa0 (bits_Len64_p0 k) n vals H K
def bits_Len64_aa1 {R:Type} (f:bits_Len64_p1_t R) (n:Nat) (vals:List Value) (H:Heap) (K:Xit → Env → Heap → Option R):Option R :=
  match vals with
  | [.int .u64 n997,.int .i64 n998] => f n997 n998 (fun n1467 n1468 => K .normal [(0,.int .u64 n1467),(2,.int .i64 n1468)] H)
  | _ => none
def bits_Len64_a1 (R:Type) (k n:Nat) (vals:List Value) (H:Heap) (K:Xit → Env → Heap → Option R):Option R:=bits_Len64_aa1 (bits_Len64_p1 k) n vals H K
def bits_Len64_aa2 {R:Type} (f:bits_Len64_p2_t R) (n:Nat) (vals:List Value) (H:Heap) (K:Xit → Env → Heap → Option R):Option R :=
  match vals with
  | [.int .u64 n1003,.int .i64 n1004] => f n1003 n1004 (fun n1469 n1470 => K .normal [(0,.int .u64 n1469),(2,.int .i64 n1470)] H)
  | _ => none
def bits_Len64_a2 (R:Type) (k n:Nat) (vals:List Value) (H:Heap) (K:Xit → Env → Heap → Option R):Option R:=bits_Len64_aa2 (bits_Len64_p2 k) n vals H K
def bits_Len64_Jt {R:Type} (k:Nat) (bits_Len64_p0:bits_Len64_p0_t R) (bits_Len64_p1:bits_Len64_p1_t R) (bits_Len64_p2:bits_Len64_p2_t R):JTab R:=tcons 0 (bits_Len64_aa0 bits_Len64_p0 k) <| tcons 1 (bits_Len64_aa1 bits_Len64_p1 k) <| tcons 2 (bits_Len64_aa2 bits_Len64_p2 k) <| fun _ _ _ _ => none
def bits_Len64_J (R:Type) (k:Nat):JTab R:=bits_Len64_Jt k (bits_Len64_p0 k) (bits_Len64_p1 k) (bits_Len64_p2 k)
def bits_Len64_at:AT:=(.seq (.reg [0,2] []) (.seq (.opq 0 [0,2] ⟨[0,2],[],[]⟩ (.seq (.reg [0,2,4] []) (.cond (.seq (.reg [0] []) (.reg [0,2] [])) .leaf))) (.seq (.opq 1 [0,2] ⟨[0,2],[],[]⟩ (.seq (.reg [0,2,8] []) (.cond (.seq (.reg [0,2] []) (.reg [0,2] [])) .leaf))) (.seq (.opq 2 [0,2] ⟨[0,2],[],[]⟩ (.seq (.reg [0,2,14] []) (.cond (.seq (.reg [0,2] []) (.reg [0,2] [])) .leaf))) (.seq (.reg [2] []) .leaf)))))
def bits_Len64_i2:IC:=(.seq (.reg [⟨some 13,.mov (.t 0),none⟩,
⟨some 14,.cmp .geq (.t 13) (.c (Go.Value.int Go.IntKind.u64 256)),none⟩] [0,2,14]) (.cond (.t 14) (.seq (.reg [⟨some 15,.mov (.t 0),none⟩,
⟨some 16,.bin .shr .u64 (.t 15) (.c (Go.Value.int Go.IntKind.u64 8)),none⟩,
⟨some 0,.mov (.t 16),none⟩] [0,2]) (.reg [⟨some 17,.mov (.t 2),none⟩,
⟨some 18,.bin .add .i64 (.t 17) (.c (Go.Value.int Go.IntKind.i64 8)),none⟩,
⟨some 2,.mov (.t 18),none⟩] [0,2])) .skip))
def bits_Len64_i1:IC:=(.seq (.reg [⟨some 7,.mov (.t 0),none⟩,
⟨some 8,.cmp .geq (.t 7) (.c (Go.Value.int Go.IntKind.u64 65536)),none⟩] [0,2,8]) (.cond (.t 8) (.seq (.reg [⟨some 9,.mov (.t 0),none⟩,
⟨some 10,.bin .shr .u64 (.t 9) (.c (Go.Value.int Go.IntKind.u64 16)),none⟩,
⟨some 0,.mov (.t 10),none⟩] [0,2]) (.reg [⟨some 11,.mov (.t 2),none⟩,
⟨some 12,.bin .add .i64 (.t 11) (.c (Go.Value.int Go.IntKind.i64 16)),none⟩,
⟨some 2,.mov (.t 12),none⟩] [0,2])) .skip))
def bits_Len64_i0:IC:=(.seq (.reg [⟨some 3,.mov (.t 0),none⟩,
⟨some 4,.cmp .geq (.t 3) (.c (Go.Value.int Go.IntKind.u64 4294967296)),none⟩] [0,2,4]) (.cond (.t 4) (.seq (.reg [⟨some 5,.mov (.t 0),none⟩,
⟨some 6,.bin .shr .u64 (.t 5) (.c (Go.Value.int Go.IntKind.u64 32)),none⟩,
⟨some 0,.mov (.t 6),none⟩] [0]) (.reg [⟨some 2,.mov (.c (Go.Value.int Go.IntKind.i64 32)),none⟩] [0,2])) .skip))
def bits_Len64_f:IFn:=⟨25,[.t 2],(.seq (.reg [⟨some 2,.mov (.c (Go.Value.int Go.IntKind.i64 0)),none⟩] [0,2]) (.seq (.opq 0 [0,2] bits_Len64_i0) (.seq (.opq 1 [0,2] bits_Len64_i1) (.seq (.opq 2 [0,2] bits_Len64_i2) (.seq (.reg [⟨some 19,.mov (.t 2),none⟩,
⟨some 20,.mov (.t 0),none⟩,
⟨some 21,.cnv .u8 (.t 20),none⟩,
⟨some 22,.idt (.c (Go.Value.string (ByteArray.mk #[0,1,2,2,3,3,3,3,4,4,4,4,4,4,4,4,5,5,5,5,5,5,5,5,5,5,5,5,5,5,5,5,6,6,6,6,6,6,6,6,6,6,6,6,6,6,6,6,6,6,6,6,6,6,6,6,6,6,6,6,6,6,6,6,7,7,7,7,7,7,7,7,7,7,7,7,7,7,7,7,7,7,7,7,7,7,7,7,7,7,7,7,7,7,7,7,7,7,7,7,7,7,7,7,7,7,7,7,7,7,7,7,7,7,7,7,7,7,7,7,7,7,7,7,7,7,7,7,8,8,8,8,8,8,8,8,8,8,8,8,8,8,8,8,8,8,8,8,8,8,8,8,8,8,8,8,8,8,8,8,8,8,8,8,8,8,8,8,8,8,8,8,8,8,8,8,8,8,8,8,8,8,8,8,8,8,8,8,8,8,8,8,8,8,8,8,8,8,8,8,8,8,8,8,8,8,8,8,8,8,8,8,8,8,8,8,8,8,8,8,8,8,8,8,8,8,8,8,8,8,8,8,8,8,8,8,8,8,8,8,8,8,8,8,8,8,8,8,8,8,8,8,8,8,8,8]))) (.t 21),none⟩,
⟨some 23,.cnv .i64 (.t 22),none⟩,
⟨some 24,.bin .add .i64 (.t 19) (.t 23),none⟩,
⟨some 2,.mov (.t 24),none⟩] [2]) .ret)))))⟩
theorem bits_Len64_e2 {R:Type} (bits_Len64_p0:bits_Len64_p0_t R) (bits_Len64_p1:bits_Len64_p1_t R) (bits_Len64_p2:bits_Len64_p2_t R) (k:Nat) (n1003:Int) (n1004:Int) (H:Heap) (K:Xit → Env → Heap → Option R):evJ (bits_Len64_Ct) (bits_Len64_Jt k bits_Len64_p0 bits_Len64_p1 bits_Len64_p2) bits_Len64_i2 (List.zip [0,2] [.int .u64 n1003,.int .i64 n1004]) H (fun x e' H' => K x (clean e' ((⟨[0,2],[],[]⟩:Out).of x)) H') = bits_Len64_p2_b k n1003 n1004 (fun n1469 n1470 => K .normal [(0,.int .u64 n1469),(2,.int .i64 n1470)] H):=by kernel_rfl
theorem bits_Len64_j2 {R:Type} (k:Nat):JS Try.prog 25 (bits_Len64_a2 R k k) [0,2] ⟨[0,2],[],[]⟩ (sel [1,1,1,0] (Try.f98.body.getD .skip)) :=
  piece_ok (nt:=25) (c:=(sel [1,1,1,0] (Try.f98.body.getD .skip))) (C:=bits_Len64_C R k) (an:=An) (t:=(.seq (.reg [0,2,14] []) (.cond (.seq (.reg [0,2] []) (.reg [0,2] [])) .leaf))) (ic:=bits_Len64_i2) (bits_Len64_S R k) (bits_Len64_J R k) (by kernel_rfl) (And.intro True.intro (And.intro (And.intro True.intro True.intro) True.intro)) (bits_Len64_a2 R k k)
    (fun vals H K r h => by
      unfold bits_Len64_a2 bits_Len64_aa2 at h
      split at h <;> first | (cases h; done) | exact Eq.trans (bits_Len64_e2 (bits_Len64_p0 k) (bits_Len64_p1 k) (bits_Len64_p2 k) k _ _ H K) h)
theorem bits_Len64_e1 {R:Type} (bits_Len64_p0:bits_Len64_p0_t R) (bits_Len64_p1:bits_Len64_p1_t R) (bits_Len64_p2:bits_Len64_p2_t R) (k:Nat) (n997:Int) (n998:Int) (H:Heap) (K:Xit → Env → Heap → Option R):evJ (bits_Len64_Ct) (bits_Len64_Jt k bits_Len64_p0 bits_Len64_p1 bits_Len64_p2) bits_Len64_i1 (List.zip [0,2] [.int .u64 n997,.int .i64 n998]) H (fun x e' H' => K x (clean e' ((⟨[0,2],[],[]⟩:Out).of x)) H') = bits_Len64_p1_b k n997 n998 (fun n1467 n1468 => K .normal [(0,.int .u64 n1467),(2,.int .i64 n1468)] H):=by kernel_rfl
theorem bits_Len64_j1 {R:Type} (k:Nat):JS Try.prog 25 (bits_Len64_a1 R k k) [0,2] ⟨[0,2],[],[]⟩ (sel [1,1,0] (Try.f98.body.getD .skip)) :=
  piece_ok (nt:=25) (c:=(sel [1,1,0] (Try.f98.body.getD .skip))) (C:=bits_Len64_C R k) (an:=An) (t:=(.seq (.reg [0,2,8] []) (.cond (.seq (.reg [0,2] []) (.reg [0,2] [])) .leaf))) (ic:=bits_Len64_i1) (bits_Len64_S R k) (bits_Len64_J R k) (by kernel_rfl) (And.intro True.intro (And.intro (And.intro True.intro True.intro) True.intro)) (bits_Len64_a1 R k k)
    (fun vals H K r h => by
      unfold bits_Len64_a1 bits_Len64_aa1 at h
      split at h <;> first | (cases h; done) | exact Eq.trans (bits_Len64_e1 (bits_Len64_p0 k) (bits_Len64_p1 k) (bits_Len64_p2 k) k _ _ H K) h)
theorem bits_Len64_e0 {R:Type} (bits_Len64_p0:bits_Len64_p0_t R) (bits_Len64_p1:bits_Len64_p1_t R) (bits_Len64_p2:bits_Len64_p2_t R) (k:Nat) (n991:Int) (n992:Int) (H:Heap) (K:Xit → Env → Heap → Option R):evJ (bits_Len64_Ct) (bits_Len64_Jt k bits_Len64_p0 bits_Len64_p1 bits_Len64_p2) bits_Len64_i0 (List.zip [0,2] [.int .u64 n991,.int .i64 n992]) H (fun x e' H' => K x (clean e' ((⟨[0,2],[],[]⟩:Out).of x)) H') = bits_Len64_p0_b k n991 n992 (fun n1465 n1466 => K .normal [(0,.int .u64 n1465),(2,.int .i64 n1466)] H):=by kernel_rfl
theorem bits_Len64_j0 {R:Type} (k:Nat):JS Try.prog 25 (bits_Len64_a0 R k k) [0,2] ⟨[0,2],[],[]⟩ (sel [1,0] (Try.f98.body.getD .skip)) :=
  piece_ok (nt:=25) (c:=(sel [1,0] (Try.f98.body.getD .skip))) (C:=bits_Len64_C R k) (an:=An) (t:=(.seq (.reg [0,2,4] []) (.cond (.seq (.reg [0] []) (.reg [0,2] [])) .leaf))) (ic:=bits_Len64_i0) (bits_Len64_S R k) (bits_Len64_J R k) (by kernel_rfl) (And.intro True.intro (And.intro (And.intro True.intro True.intro) True.intro)) (bits_Len64_a0 R k k)
    (fun vals H K r h => by
      unfold bits_Len64_a0 bits_Len64_aa0 at h
      split at h <;> first | (cases h; done) | exact Eq.trans (bits_Len64_e0 (bits_Len64_p0 k) (bits_Len64_p1 k) (bits_Len64_p2 k) k _ _ H K) h)
def bits_Len64_ca {R:Type} (f:bits_Len64_t R) (args:List Value) (H:Heap) (K:Value → Heap → Option R):Option R :=
  match args with
  | [.int .u64 n990] => f n990 (fun n1471 => K (.int .i64 n1471) H)
  | _ => none
def bits_Len64_c (R:Type) (k:Nat) (args:List Value) (H:Heap) (K:Value → Heap → Option R):Option R:=bits_Len64_ca (bits_Len64 k) args H K
theorem bits_Len64_e {R:Type} (bits_Len64_p0:bits_Len64_p0_t R) (bits_Len64_p1:bits_Len64_p1_t R) (bits_Len64_p2:bits_Len64_p2_t R) (k:Nat) (n990:Int) (H:Heap) (K:Value → Heap → Option R):evF (bits_Len64_Ct) (bits_Len64_Jt k bits_Len64_p0 bits_Len64_p1 bits_Len64_p2) bits_Len64_f [.int .u64 n990] H K = bits_Len64_b bits_Len64_p0 bits_Len64_p1 bits_Len64_p2 k n990 (fun n1471 => K (.int .i64 n1471) H):=by kernel_rfl
theorem bits_Len64_cs (R:Type) (k:Nat):∀ args H K r,bits_Len64_c R k args H K = some r → ∃ v H',Tri Try.prog 98 args H v H' ∧ K v H' = some r:=by
  intro args H K r h
  unfold bits_Len64_c bits_Len64_ca at h
  split at h
  · exact evF_ok (C:=bits_Len64_C R k) (an:=An) (t:=bits_Len64_at) (fn:=Try.f98) (c:=(Try.f98.body.getD .skip)) (ifn:=bits_Len64_f) (bits_Len64_S R k) (bits_Len64_J R k) Try.func98 (by kernel_rfl) (by kernel_rfl) (And.intro True.intro (And.intro (bits_Len64_j0 k) (And.intro (bits_Len64_j1 k) (And.intro (bits_Len64_j2 k) (And.intro True.intro True.intro))))) rfl (Eq.trans (bits_Len64_e (bits_Len64_p0 k) (bits_Len64_p1 k) (bits_Len64_p2 k) k _ H K) h)
  · cases h
end Go.Proofs.Ytmanlfonppfhaaa.Sh
