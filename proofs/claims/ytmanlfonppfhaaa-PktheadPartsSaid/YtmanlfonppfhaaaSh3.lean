/- Lean functions that stand for Go's,over an explicit heap,and the proofs that they do (written by this claim's program shallow.py). -/
import Derived.Test.YtmanlfonppfhaaaSh0
import Derived.Test.YtmanlfonppfhaaaSh1
import Derived.Test.YtmanlfonppfhaaaSh2
set_option maxRecDepth 100000
set_option linter.unusedVariables false
set_option linter.unusedSimpArgs false
namespace Go.Proofs.Ytmanlfonppfhaaa.Sh
open Go.Proofs.Ytmanlfonppfhaaa.FW
abbrev bits_Len_t (R:Type):Type:=Int → (Int → Option R) → Option R
def bits_Len_b {R:Type} (bits_Len64:bits_Len64_t R) (k:Nat) (n989:Int) (K:Int → Option R):Option R :=
bits_Len64 n989 fun n990 =>
K n990
def bits_Len {R:Type} (k:Nat) (n989:Int) (K:Int → Option R):Option R:=bits_Len_b (bits_Len64 k) k n989 K
def bits_Len_Ct {R:Type} (bits_Len64:bits_Len64_t R):Tab R:=tcons 98 (bits_Len64_ca bits_Len64) <| fun _ _ _ _ => none
def bits_Len_C (R:Type) (k:Nat):Tab R:=bits_Len_Ct (bits_Len64 k)
theorem bits_Len_S (R:Type) (k:Nat):CSound Try.prog (bits_Len_C R k):=csound_cons (bits_Len64_cs R k) <| csound_nil
def bits_Len_Jt {R:Type} (k:Nat):JTab R:=fun _ _ _ _ => none
def bits_Len_J (R:Type) (k:Nat):JTab R:=bits_Len_Jt k
def bits_Len_at:AT:=(.seq (.reg [0] []) (.seq (.cond (.seq (.reg [2] []) .leaf) .leaf) (.seq (.reg [2] []) .leaf)))
def bits_Len_f:IFn:=⟨8,[.t 2],(.seq (.reg [⟨some 2,.mov (.c (Go.Value.int Go.IntKind.i64 0)),none⟩] [0]) (.seq (.cond (.c (Go.Value.bool false)) (.seq (.reg [⟨some 3,.mov (.t 0),none⟩,
⟨some 4,.cnv .u32 (.t 3),none⟩,
⟨some 5,.call 97 [(.t 4)] (.one (.sc (.int .i64))),none⟩,
⟨some 2,.mov (.t 5),none⟩] [2]) .ret) .skip) (.seq (.reg [⟨some 6,.mov (.t 0),none⟩,
⟨some 7,.call 98 [(.t 6)] (.one (.sc (.int .i64))),none⟩,
⟨some 2,.mov (.t 7),none⟩] [2]) .ret)))⟩
def bits_Len_ca {R:Type} (f:bits_Len_t R) (args:List Value) (H:Heap) (K:Value → Heap → Option R):Option R :=
  match args with
  | [.int .u64 n989] => f n989 (fun n1472 => K (.int .i64 n1472) H)
  | _ => none
def bits_Len_c (R:Type) (k:Nat) (args:List Value) (H:Heap) (K:Value → Heap → Option R):Option R:=bits_Len_ca (bits_Len k) args H K
theorem bits_Len_e {R:Type} (bits_Len64:bits_Len64_t R) (k:Nat) (n989:Int) (H:Heap) (K:Value → Heap → Option R):evF (bits_Len_Ct bits_Len64) (bits_Len_Jt k) bits_Len_f [.int .u64 n989] H K = bits_Len_b bits_Len64 k n989 (fun n1472 => K (.int .i64 n1472) H):=by kernel_rfl
theorem bits_Len_cs (R:Type) (k:Nat):∀ args H K r,bits_Len_c R k args H K = some r → ∃ v H',Tri Try.prog 84 args H v H' ∧ K v H' = some r:=by
  intro args H K r h
  unfold bits_Len_c bits_Len_ca at h
  split at h
  · exact evF_ok (C:=bits_Len_C R k) (an:=An) (t:=bits_Len_at) (fn:=Try.f84) (c:=(Try.f84.body.getD .skip)) (ifn:=bits_Len_f) (bits_Len_S R k) (bits_Len_J R k) Try.func84 (by kernel_rfl) (by kernel_rfl) (And.intro True.intro (And.intro (And.intro (And.intro True.intro True.intro) True.intro) (And.intro True.intro True.intro))) rfl (Eq.trans (bits_Len_e (bits_Len64 k) k _ H K) h)
  · cases h
abbrev pkthead_width_t (R:Type):Type:=Int → (Int → Option R) → Option R
def pkthead_width_b {R:Type} (bits_Len:bits_Len_t R) (k:Nat) (n988:Int) (K:Int → Option R):Option R :=
bits_Len (IntKind.wrap .u64 n988) fun n989 =>
K (IntKind.wrap .i64 (n989 - 1))
def pkthead_width {R:Type} (k:Nat) (n988:Int) (K:Int → Option R):Option R:=pkthead_width_b (bits_Len k) k n988 K
def pkthead_width_Ct {R:Type} (bits_Len:bits_Len_t R):Tab R:=tcons 84 (bits_Len_ca bits_Len) <| fun _ _ _ _ => none
def pkthead_width_C (R:Type) (k:Nat):Tab R:=pkthead_width_Ct (bits_Len k)
theorem pkthead_width_S (R:Type) (k:Nat):CSound Try.prog (pkthead_width_C R k):=csound_cons (bits_Len_cs R k) <| csound_nil
def pkthead_width_Jt {R:Type} (k:Nat):JTab R:=fun _ _ _ _ => none
def pkthead_width_J (R:Type) (k:Nat):JTab R:=pkthead_width_Jt k
def pkthead_width_at:AT:=(.seq (.reg [0] []) (.seq (.reg [2] []) .leaf))
def pkthead_width_f:IFn:=⟨7,[.t 2],(.seq (.reg [⟨some 2,.mov (.c (Go.Value.int Go.IntKind.i64 0)),none⟩] [0]) (.seq (.reg [⟨some 3,.mov (.t 0),none⟩,
⟨some 4,.cnv .u64 (.t 3),none⟩,
⟨some 5,.call 84 [(.t 4)] (.one (.sc (.int .i64))),none⟩,
⟨some 6,.bin .sub .i64 (.t 5) (.c (Go.Value.int Go.IntKind.i64 1)),none⟩,
⟨some 2,.mov (.t 6),none⟩] [2]) .ret))⟩
def pkthead_width_ca {R:Type} (f:pkthead_width_t R) (args:List Value) (H:Heap) (K:Value → Heap → Option R):Option R :=
  match args with
  | [.int .i64 n988] => f n988 (fun n1473 => K (.int .i64 n1473) H)
  | _ => none
def pkthead_width_c (R:Type) (k:Nat) (args:List Value) (H:Heap) (K:Value → Heap → Option R):Option R:=pkthead_width_ca (pkthead_width k) args H K
theorem pkthead_width_e {R:Type} (bits_Len:bits_Len_t R) (k:Nat) (n988:Int) (H:Heap) (K:Value → Heap → Option R):evF (pkthead_width_Ct bits_Len) (pkthead_width_Jt k) pkthead_width_f [.int .i64 n988] H K = pkthead_width_b bits_Len k n988 (fun n1473 => K (.int .i64 n1473) H):=by kernel_rfl
theorem pkthead_width_cs (R:Type) (k:Nat):∀ args H K r,pkthead_width_c R k args H K = some r → ∃ v H',Tri Try.prog 65 args H v H' ∧ K v H' = some r:=by
  intro args H K r h
  unfold pkthead_width_c pkthead_width_ca at h
  split at h
  · exact evF_ok (C:=pkthead_width_C R k) (an:=An) (t:=pkthead_width_at) (fn:=Try.f65) (c:=(Try.f65.body.getD .skip)) (ifn:=pkthead_width_f) (pkthead_width_S R k) (pkthead_width_J R k) Try.func65 (by kernel_rfl) (by kernel_rfl) (And.intro True.intro (And.intro True.intro True.intro)) rfl (Eq.trans (pkthead_width_e (bits_Len k) k _ H K) h)
  · cases h
abbrev pkthead_suffices_l0_t (R:Type):Type:=(Unit → Option R) → (Bool → Option R) → Nat → Int → Oa → Nat → Nat → Oa → Nat → Nat → Int → Int → Heap → Option R
def pkthead_suffices_l0_b {R:Type} (pkthead_width:pkthead_width_t R) (rec:Int → Oa → Nat → Nat → Oa → Nat → Nat → Int → Int → Heap → Option R) (KE0:Unit → Option R) (KR:Bool → Option R) (k:Nat) (n975:Int) (q976:Oa) (l977:Nat) (c978:Nat) (q979:Oa) (l980:Nat) (c981:Nat) (n982:Int) (n983:Int) (H:Heap):Option R :=
bif decide (n983 < n982) then (hidx q979 l980 n983 1 fun p984 =>
ldI .i64 H p984 fun n985 =>
hidx q976 l977 n983 1 fun p986 =>
ldI .i64 H p986 fun n987 =>
pkthead_width n987 fun n988 =>
hbin .shl .i64 1 (IntKind.wrap .i64 (n975 + n988)) fun n989 =>
bif decide (n985 ≥ n989) then (KR false)
 else (rec n975 q976 l977 c978 q979 l980 c981 n982 (IntKind.wrap .i64 (n983 + 1)) H))
 else (KE0 ())
def pkthead_suffices_l0 {R:Type} (k:Nat) (KE0:Unit → Option R) (KR:Bool → Option R):Nat → Int → Oa → Nat → Nat → Oa → Nat → Nat → Int → Int → Heap → Option R
  | 0,_,_,_,_,_,_,_,_,_,_ => none
  | n + 1,n975,q976,l977,c978,q979,l980,c981,n982,n983,H => pkthead_suffices_l0_b (pkthead_width k) (pkthead_suffices_l0 k KE0 KR n) KE0 KR k n975 q976 l977 c978 q979 l980 c981 n982 n983 H
abbrev pkthead_suffices_t (R:Type):Type:=Int → Oa → Nat → Nat → Oa → Nat → Nat → Heap → (Bool → Option R) → Option R
def pkthead_suffices_b {R:Type} (pkthead_suffices_l0:pkthead_suffices_l0_t R) (k:Nat) (n968:Int) (q969:Oa) (l970:Nat) (c971:Nat) (q972:Oa) (l973:Nat) (c974:Nat) (H:Heap) (K:Bool → Option R):Option R :=
pkthead_suffices_l0 (fun (_:Unit) =>
K true) (fun t991 =>
K t991) k n968 q969 l970 c971 q972 l973 c974 ((l973:Nat):Int) 0 H
def pkthead_suffices {R:Type} (k:Nat) (n968:Int) (q969:Oa) (l970:Nat) (c971:Nat) (q972:Oa) (l973:Nat) (c974:Nat) (H:Heap) (K:Bool → Option R):Option R:=pkthead_suffices_b (pkthead_suffices_l0 k) k n968 q969 l970 c971 q972 l973 c974 H K
def pkthead_suffices_Ct {R:Type} (pkthead_width:pkthead_width_t R):Tab R:=tcons 65 (pkthead_width_ca pkthead_width) <| fun _ _ _ _ => none
def pkthead_suffices_C (R:Type) (k:Nat):Tab R:=pkthead_suffices_Ct (pkthead_width k)
theorem pkthead_suffices_S (R:Type) (k:Nat):CSound Try.prog (pkthead_suffices_C R k):=csound_cons (pkthead_width_cs R k) <| csound_nil
def pkthead_suffices_aa0 {R:Type} (f:pkthead_suffices_l0_t R) (n:Nat) (vals:List Value) (H:Heap) (K:Xit → Env → Heap → Option R):Option R :=
  match vals with
  | [.int .i64 n975,.slice q976 l977 c978,.slice q979 l980 c981,.int .i64 n982,.int .i64 n983] => f (fun _ => K (.exit 0) [] H) (fun t1474 => K .ret [(6,.bool t1474)] H) n n975 q976 l977 c978 q979 l980 c981 n982 n983 H
  | _ => none
def pkthead_suffices_a0 (R:Type) (k n:Nat) (vals:List Value) (H:Heap) (K:Xit → Env → Heap → Option R):Option R:=pkthead_suffices_aa0 (pkthead_suffices_l0 k) n vals H K
def pkthead_suffices_Jt {R:Type} (k:Nat) (pkthead_suffices_l0:pkthead_suffices_l0_t R):JTab R:=tcons 0 (pkthead_suffices_aa0 pkthead_suffices_l0 k) <| fun _ _ _ _ => none
def pkthead_suffices_J (R:Type) (k:Nat):JTab R:=pkthead_suffices_Jt k (pkthead_suffices_l0 k)
def pkthead_suffices_at:AT:=(.seq (.reg [0,1,2] []) (.seq (.seq (.reg [0,1,9,10,11] []) (.node (.opq 0 [0,1,9,10,11] ⟨[],[(0,[])],[6]⟩ (.node (.seq (.reg [0,1,9,10,11,12] []) (.seq (.cond .leaf .leaf) (.seq (.node (.seq (.reg [0,1,7,8,9,10,11] []) (.seq (.reg [0,1,9,10,11,25] []) (.cond (.seq (.reg [6] []) .leaf) .leaf)))) (.reg [0,1,9,10,11] [])))))))) (.seq (.reg [6] []) .leaf)))
def pkthead_suffices_i0:IC:=(.seq (.reg [⟨some 12,.cmp .lss (.t 11) (.t 10),none⟩] [0,1,9,10,11,12]) (.seq (.cond (.t 12) .skip (.exit 0)) (.seq (.block 1 (.seq (.reg [⟨some 13,.mov (.t 11),none⟩,
⟨some 14,.ids 1 (.t 9) (.t 11),none⟩,
⟨some 15,.ld (.sc (.int .i64)) (.t 14),none⟩,
⟨some 7,.mov (.t 13),none⟩,
⟨some 8,.mov (.t 15),none⟩] [0,1,7,8,9,10,11]) (.seq (.reg [⟨some 16,.mov (.t 8),none⟩,
⟨some 17,.mov (.t 0),none⟩,
⟨some 18,.mov (.t 1),none⟩,
⟨some 19,.mov (.t 7),none⟩,
⟨some 20,.ids 1 (.t 18) (.t 19),none⟩,
⟨some 21,.ld (.sc (.int .i64)) (.t 20),none⟩,
⟨some 22,.call 65 [(.t 21)] (.one (.sc (.int .i64))),none⟩,
⟨some 23,.bin .add .i64 (.t 17) (.t 22),none⟩,
⟨some 24,.bin .shl .i64 (.c (Go.Value.int Go.IntKind.i64 1)) (.t 23),none⟩,
⟨some 25,.cmp .geq (.t 16) (.t 24),none⟩] [0,1,9,10,11,25]) (.cond (.t 25) (.seq (.reg [⟨some 6,.mov (.c (Go.Value.bool false)),none⟩] [6]) .ret) .skip)))) (.reg [⟨some 26,.bin .add .i64 (.t 11) (.c (Go.Value.int Go.IntKind.i64 1)),none⟩,
⟨some 11,.mov (.t 26),none⟩] [0,1,9,10,11]))))
def pkthead_suffices_f:IFn:=⟨27,[.t 6],(.seq (.reg [⟨some 6,.mov (.c (Go.Value.bool false)),none⟩] [0,1,2]) (.seq (.seq (.reg [⟨some 9,.mov (.t 2),none⟩,
⟨some 10,.len false (.t 9),none⟩,
⟨some 11,.mov (.c (Go.Value.int Go.IntKind.i64 0)),none⟩] [0,1,9,10,11]) (.block 0 (.opq 0 [0,1,9,10,11] (.loop pkthead_suffices_i0)))) (.seq (.reg [⟨some 6,.mov (.c (Go.Value.bool true)),none⟩] [6]) .ret)))⟩
theorem pkthead_suffices_e0 {R:Type} (pkthead_width:pkthead_width_t R) (pkthead_suffices_l0:pkthead_suffices_l0_t R) (k n:Nat) (n975:Int) (q976:Oa) (l977:Nat) (c978:Nat) (q979:Oa) (l980:Nat) (c981:Nat) (n982:Int) (n983:Int) (H:Heap) (K:Xit → Env → Heap → Option R):evJ (pkthead_suffices_Ct pkthead_width) (pkthead_suffices_Jt k pkthead_suffices_l0) pkthead_suffices_i0 (List.zip [0,1,9,10,11] [.int .i64 n975,.slice q976 l977 c978,.slice q979 l980 c981,.int .i64 n982,.int .i64 n983]) H (fun x e' H' => match x with | .normal => pkthead_suffices_aa0 pkthead_suffices_l0 n ((clean e' [0,1,9,10,11]).map (·.2)) H' K | x => K x (clean e' ((⟨[],[(0,[])],[6]⟩:Out).of x)) H') = pkthead_suffices_l0_b pkthead_width (pkthead_suffices_l0 (fun _ => K (.exit 0) [] H) (fun t1474 => K .ret [(6,.bool t1474)] H) n) (fun _ => K (.exit 0) [] H) (fun t1474 => K .ret [(6,.bool t1474)] H) k n975 q976 l977 c978 q979 l980 c981 n982 n983 H:=by kernel_rfl
theorem pkthead_suffices_j0 {R:Type} (k:Nat):JS Try.prog 27 (pkthead_suffices_a0 R k k) [0,1,9,10,11] ⟨[],[(0,[])],[6]⟩ (.loop (sel [1,0,1,0,0] (Try.f62.body.getD .skip))) :=
  loop_ok (nt:=27) (c:=(sel [1,0,1,0,0] (Try.f62.body.getD .skip))) (C:=pkthead_suffices_C R k) (an:=An) (t:=(.seq (.reg [0,1,9,10,11,12] []) (.seq (.cond .leaf .leaf) (.seq (.node (.seq (.reg [0,1,7,8,9,10,11] []) (.seq (.reg [0,1,9,10,11,25] []) (.cond (.seq (.reg [6] []) .leaf) .leaf)))) (.reg [0,1,9,10,11] []))))) (ic:=pkthead_suffices_i0) (pkthead_suffices_S R k) (pkthead_suffices_J R k) (by kernel_rfl) (And.intro True.intro (And.intro (And.intro True.intro True.intro) (And.intro (And.intro True.intro (And.intro True.intro (And.intro (And.intro True.intro True.intro) True.intro))) True.intro))) (pkthead_suffices_a0 R k) (fun vals H K => by unfold pkthead_suffices_a0 pkthead_suffices_aa0; split <;> rfl)
    (fun n vals H K r h => by
      unfold pkthead_suffices_a0 pkthead_suffices_aa0 at h
      split at h <;> first | (cases h; done) | exact Eq.trans (pkthead_suffices_e0 (pkthead_width k) (pkthead_suffices_l0 k) k n _ _ _ _ _ _ _ _ _ H K) h) k
def pkthead_suffices_ca {R:Type} (f:pkthead_suffices_t R) (args:List Value) (H:Heap) (K:Value → Heap → Option R):Option R :=
  match args with
  | [.int .i64 n968,.slice q969 l970 c971,.slice q972 l973 c974] => f n968 q969 l970 c971 q972 l973 c974 H (fun t1475 => K (.bool t1475) H)
  | _ => none
def pkthead_suffices_c (R:Type) (k:Nat) (args:List Value) (H:Heap) (K:Value → Heap → Option R):Option R:=pkthead_suffices_ca (pkthead_suffices k) args H K
theorem pkthead_suffices_e {R:Type} (pkthead_width:pkthead_width_t R) (pkthead_suffices_l0:pkthead_suffices_l0_t R) (k:Nat) (n968:Int) (q969:Oa) (l970:Nat) (c971:Nat) (q972:Oa) (l973:Nat) (c974:Nat) (H:Heap) (K:Value → Heap → Option R):evF (pkthead_suffices_Ct pkthead_width) (pkthead_suffices_Jt k pkthead_suffices_l0) pkthead_suffices_f [.int .i64 n968,.slice q969 l970 c971,.slice q972 l973 c974] H K = pkthead_suffices_b pkthead_suffices_l0 k n968 q969 l970 c971 q972 l973 c974 H (fun t1475 => K (.bool t1475) H):=by kernel_rfl
theorem pkthead_suffices_cs (R:Type) (k:Nat):∀ args H K r,pkthead_suffices_c R k args H K = some r → ∃ v H',Tri Try.prog 62 args H v H' ∧ K v H' = some r:=by
  intro args H K r h
  unfold pkthead_suffices_c pkthead_suffices_ca at h
  split at h
  · exact evF_ok (C:=pkthead_suffices_C R k) (an:=An) (t:=pkthead_suffices_at) (fn:=Try.f62) (c:=(Try.f62.body.getD .skip)) (ifn:=pkthead_suffices_f) (pkthead_suffices_S R k) (pkthead_suffices_J R k) Try.func62 (by kernel_rfl) (by kernel_rfl) (And.intro True.intro (And.intro (And.intro True.intro (pkthead_suffices_j0 k)) (And.intro True.intro True.intro))) rfl (Eq.trans (pkthead_suffices_e (pkthead_width k) (pkthead_suffices_l0 k) k _ _ _ _ _ _ _ H K) h)
  · cases h
abbrev bitio_Writer_Unary_p0_t (R:Type):Type:=Oa → Int → (Oa → Int → Option R) → (Int → Option R) → Option R
def bitio_Writer_Unary_p0_b {R:Type} (k:Nat) (p986:Oa) (n987:Int) (KN:Oa → Int → Option R) (KR:Int → Option R):Option R :=
bif decide (n987 < 0) then (KR 1)
 else (bif decide (n987 > 65535) then (KR 1)
 else (KN p986 n987))
def bitio_Writer_Unary_p0 {R:Type} (k:Nat) (p986:Oa) (n987:Int) (KN:Oa → Int → Option R) (KR:Int → Option R):Option R:=bitio_Writer_Unary_p0_b k p986 n987 KN KR
abbrev bitio_Writer_Unary_l1_t (R:Type):Type:=(Oa → Heap → Option R) → Nat → Oa → Int → Int → Heap → Option R
def bitio_Writer_Unary_l1_b {R:Type} (bitio_Writer_put:bitio_Writer_put_t R) (rec:Oa → Int → Int → Heap → Option R) (KE0:Oa → Heap → Option R) (k:Nat) (p993:Oa) (n994:Int) (n995:Int) (H:Heap):Option R :=
bif decide (n995 < n994) then (bitio_Writer_put p993 1 H fun H996 =>
rec p993 n994 (IntKind.wrap .i64 (n995 + 1)) H996)
 else (KE0 p993 H)
def bitio_Writer_Unary_l1 {R:Type} (k:Nat) (KE0:Oa → Heap → Option R):Nat → Oa → Int → Int → Heap → Option R
  | 0,_,_,_,_ => none
  | n + 1,p993,n994,n995,H => bitio_Writer_Unary_l1_b (bitio_Writer_put k) (bitio_Writer_Unary_l1 k KE0 n) KE0 k p993 n994 n995 H
abbrev bitio_Writer_Unary_t (R:Type):Type:=Oa → Int → Heap → (Int → Heap → Option R) → Option R
def bitio_Writer_Unary_b {R:Type} (bitio_Writer_ok:bitio_Writer_ok_t R) (bitio_Writer_Unary_p0:bitio_Writer_Unary_p0_t R) (bitio_Writer_Unary_l1:bitio_Writer_Unary_l1_t R) (bitio_Writer_put:bitio_Writer_put_t R) (k:Nat) (p983:Oa) (n984:Int) (H:Heap) (K:Int → Heap → Option R):Option R :=
bitio_Writer_ok p983 H fun t985 =>
bif (!t985) then (K 6 H)
 else (bitio_Writer_Unary_p0 p983 n984 (fun p991 n992 =>
bitio_Writer_Unary_l1 (fun p998 H999 =>
bitio_Writer_put p998 0 H999 fun H1000 =>
K 0 H1000) k p991 n992 0 H) (fun n1001 =>
K n1001 H))
def bitio_Writer_Unary {R:Type} (k:Nat) (p983:Oa) (n984:Int) (H:Heap) (K:Int → Heap → Option R):Option R:=bitio_Writer_Unary_b bitio_Writer_ok (bitio_Writer_Unary_p0 k) (bitio_Writer_Unary_l1 k) (bitio_Writer_put k) k p983 n984 H K
def bitio_Writer_Unary_Ct {R:Type} (bitio_Writer_ok:bitio_Writer_ok_t R) (bitio_Writer_put:bitio_Writer_put_t R):Tab R:=tcons 58 (bitio_Writer_ok_ca bitio_Writer_ok) <| tcons 59 (bitio_Writer_put_ca bitio_Writer_put) <| fun _ _ _ _ => none
def bitio_Writer_Unary_C (R:Type) (k:Nat):Tab R:=bitio_Writer_Unary_Ct bitio_Writer_ok (bitio_Writer_put k)
theorem bitio_Writer_Unary_S (R:Type) (k:Nat):CSound Try.prog (bitio_Writer_Unary_C R k):=csound_cons (bitio_Writer_ok_cs R k) <| csound_cons (bitio_Writer_put_cs R k) <| csound_nil
def bitio_Writer_Unary_aa0 {R:Type} (f:bitio_Writer_Unary_p0_t R) (n:Nat) (vals:List Value) (H:Heap) (K:Xit → Env → Heap → Option R):Option R :=
  match vals with
  | [.pointer p986,.int .i64 n987] => f p986 n987 (fun p1476 n1477 => K .normal [(0,.pointer p1476),(1,.int .i64 n1477)] H) (fun n1478 => K .ret [(4,.int .i64 n1478)] H)
  | _ => none
def bitio_Writer_Unary_a0 (R:Type) (k n:Nat) (vals:List Value) (H:Heap) (K:Xit → Env → Heap → Option R):Option R:=bitio_Writer_Unary_aa0 (bitio_Writer_Unary_p0 k) n vals H K
def bitio_Writer_Unary_aa1 {R:Type} (f:bitio_Writer_Unary_l1_t R) (n:Nat) (vals:List Value) (H:Heap) (K:Xit → Env → Heap → Option R):Option R :=
  match vals with
  | [.pointer p993,.int .i64 n994,.int .i64 n995] => f (fun p1479 H => K (.exit 0) [(0,.pointer p1479)] H) n p993 n994 n995 H
  | _ => none
def bitio_Writer_Unary_a1 (R:Type) (k n:Nat) (vals:List Value) (H:Heap) (K:Xit → Env → Heap → Option R):Option R:=bitio_Writer_Unary_aa1 (bitio_Writer_Unary_l1 k) n vals H K
def bitio_Writer_Unary_Jt {R:Type} (k:Nat) (bitio_Writer_Unary_p0:bitio_Writer_Unary_p0_t R) (bitio_Writer_Unary_l1:bitio_Writer_Unary_l1_t R):JTab R:=tcons 0 (bitio_Writer_Unary_aa0 bitio_Writer_Unary_p0 k) <| tcons 1 (bitio_Writer_Unary_aa1 bitio_Writer_Unary_l1 k) <| fun _ _ _ _ => none
def bitio_Writer_Unary_J (R:Type) (k:Nat):JTab R:=bitio_Writer_Unary_Jt k (bitio_Writer_Unary_p0 k) (bitio_Writer_Unary_l1 k)
def bitio_Writer_Unary_at:AT:=(.seq (.reg [0,1] []) (.seq (.seq (.reg [0,1,7] []) (.cond (.seq (.reg [4] []) .leaf) .leaf)) (.seq (.opq 0 [0,1] ⟨[0,1],[],[4]⟩ (.seq (.reg [0,1,13] []) (.cond (.seq (.reg [4] []) .leaf) .leaf))) (.seq (.seq (.reg [0,14,15] []) (.node (.opq 1 [0,14,15] ⟨[],[(0,[0])],[]⟩ (.node (.seq (.reg [0,14,15,16] []) (.seq (.cond .leaf .leaf) (.seq (.node (.reg [0,14,15] [])) (.reg [0,14,15] [])))))))) (.seq (.reg [] []) (.seq (.reg [4] []) .leaf))))))
def bitio_Writer_Unary_i1:IC:=(.seq (.reg [⟨some 16,.cmp .lss (.t 15) (.t 14),none⟩] [0,14,15,16]) (.seq (.cond (.t 16) .skip (.exit 0)) (.seq (.block 1 (.reg [⟨some 17,.mov (.t 0),none⟩,
⟨some 18,.call 59 [(.t 17),(.c (Go.Value.int Go.IntKind.i64 1))] .none,none⟩] [0,14,15])) (.reg [⟨some 19,.bin .add .i64 (.t 15) (.c (Go.Value.int Go.IntKind.i64 1)),none⟩,
⟨some 15,.mov (.t 19),none⟩] [0,14,15]))))
def bitio_Writer_Unary_i0:IC:=(.seq (.reg [⟨some 8,.mov (.t 1),none⟩,
⟨some 9,.cmp .lss (.t 8) (.c (Go.Value.int Go.IntKind.i64 0)),none⟩,
⟨some 10,.mov (.t 9),none⟩,
⟨some 11,.mov (.t 1),some (10,false)⟩,
⟨some 12,.cmp .gtr (.t 11) (.c (Go.Value.int Go.IntKind.i64 65535)),some (10,false)⟩,
⟨some 13,.pick (.t 10) (.c (Go.Value.bool true)) (.t 12),none⟩] [0,1,13]) (.cond (.t 13) (.seq (.reg [⟨some 4,.mov (.c (Go.Value.int Go.IntKind.i64 1)),none⟩] [4]) .ret) .skip))
def bitio_Writer_Unary_f:IFn:=⟨22,[.t 4],(.seq (.reg [⟨some 4,.mov (.c (Go.Value.int Go.IntKind.i64 0)),none⟩] [0,1]) (.seq (.seq (.reg [⟨some 5,.mov (.t 0),none⟩,
⟨some 6,.call 58 [(.t 5)] (.one (.sc .bool)),none⟩,
⟨some 7,.lnot (.t 6),none⟩] [0,1,7]) (.cond (.t 7) (.seq (.reg [⟨some 4,.mov (.c (Go.Value.int Go.IntKind.i64 6)),none⟩] [4]) .ret) .skip)) (.seq (.opq 0 [0,1] bitio_Writer_Unary_i0) (.seq (.seq (.reg [⟨some 14,.mov (.t 1),none⟩,
⟨some 15,.mov (.c (Go.Value.int Go.IntKind.i64 0)),none⟩] [0,14,15]) (.block 0 (.opq 1 [0,14,15] (.loop bitio_Writer_Unary_i1)))) (.seq (.reg [⟨some 20,.mov (.t 0),none⟩,
⟨some 21,.call 59 [(.t 20),(.c (Go.Value.int Go.IntKind.i64 0))] .none,none⟩] []) (.seq (.reg [⟨some 4,.mov (.c (Go.Value.int Go.IntKind.i64 0)),none⟩] [4]) .ret))))))⟩
theorem bitio_Writer_Unary_e1 {R:Type} (bitio_Writer_ok:bitio_Writer_ok_t R) (bitio_Writer_put:bitio_Writer_put_t R) (bitio_Writer_Unary_p0:bitio_Writer_Unary_p0_t R) (bitio_Writer_Unary_l1:bitio_Writer_Unary_l1_t R) (k n:Nat) (p993:Oa) (n994:Int) (n995:Int) (H:Heap) (K:Xit → Env → Heap → Option R):evJ (bitio_Writer_Unary_Ct bitio_Writer_ok bitio_Writer_put) (bitio_Writer_Unary_Jt k bitio_Writer_Unary_p0 bitio_Writer_Unary_l1) bitio_Writer_Unary_i1 (List.zip [0,14,15] [.pointer p993,.int .i64 n994,.int .i64 n995]) H (fun x e' H' => match x with | .normal => bitio_Writer_Unary_aa1 bitio_Writer_Unary_l1 n ((clean e' [0,14,15]).map (·.2)) H' K | x => K x (clean e' ((⟨[],[(0,[0])],[]⟩:Out).of x)) H') = bitio_Writer_Unary_l1_b bitio_Writer_put (bitio_Writer_Unary_l1 (fun p1479 H => K (.exit 0) [(0,.pointer p1479)] H) n) (fun p1479 H => K (.exit 0) [(0,.pointer p1479)] H) k p993 n994 n995 H:=by kernel_rfl
theorem bitio_Writer_Unary_j1 {R:Type} (k:Nat):JS Try.prog 22 (bitio_Writer_Unary_a1 R k k) [0,14,15] ⟨[],[(0,[0])],[]⟩ (.loop (sel [1,1,1,0,1,0,0] (Try.f63.body.getD .skip))) :=
  loop_ok (nt:=22) (c:=(sel [1,1,1,0,1,0,0] (Try.f63.body.getD .skip))) (C:=bitio_Writer_Unary_C R k) (an:=An) (t:=(.seq (.reg [0,14,15,16] []) (.seq (.cond .leaf .leaf) (.seq (.node (.reg [0,14,15] [])) (.reg [0,14,15] []))))) (ic:=bitio_Writer_Unary_i1) (bitio_Writer_Unary_S R k) (bitio_Writer_Unary_J R k) (by kernel_rfl) (And.intro True.intro (And.intro (And.intro True.intro True.intro) (And.intro True.intro True.intro))) (bitio_Writer_Unary_a1 R k) (fun vals H K => by unfold bitio_Writer_Unary_a1 bitio_Writer_Unary_aa1; split <;> rfl)
    (fun n vals H K r h => by
      unfold bitio_Writer_Unary_a1 bitio_Writer_Unary_aa1 at h
      split at h <;> first | (cases h; done) | exact Eq.trans (bitio_Writer_Unary_e1 bitio_Writer_ok (bitio_Writer_put k) (bitio_Writer_Unary_p0 k) (bitio_Writer_Unary_l1 k) k n _ _ _ H K) h) k
theorem bitio_Writer_Unary_e0 {R:Type} (bitio_Writer_ok:bitio_Writer_ok_t R) (bitio_Writer_put:bitio_Writer_put_t R) (bitio_Writer_Unary_p0:bitio_Writer_Unary_p0_t R) (bitio_Writer_Unary_l1:bitio_Writer_Unary_l1_t R) (k:Nat) (p986:Oa) (n987:Int) (H:Heap) (K:Xit → Env → Heap → Option R):evJ (bitio_Writer_Unary_Ct bitio_Writer_ok bitio_Writer_put) (bitio_Writer_Unary_Jt k bitio_Writer_Unary_p0 bitio_Writer_Unary_l1) bitio_Writer_Unary_i0 (List.zip [0,1] [.pointer p986,.int .i64 n987]) H (fun x e' H' => K x (clean e' ((⟨[0,1],[],[4]⟩:Out).of x)) H') = bitio_Writer_Unary_p0_b k p986 n987 (fun p1476 n1477 => K .normal [(0,.pointer p1476),(1,.int .i64 n1477)] H) (fun n1478 => K .ret [(4,.int .i64 n1478)] H):=by kernel_rfl
theorem bitio_Writer_Unary_j0 {R:Type} (k:Nat):JS Try.prog 22 (bitio_Writer_Unary_a0 R k k) [0,1] ⟨[0,1],[],[4]⟩ (sel [1,1,0] (Try.f63.body.getD .skip)) :=
  piece_ok (nt:=22) (c:=(sel [1,1,0] (Try.f63.body.getD .skip))) (C:=bitio_Writer_Unary_C R k) (an:=An) (t:=(.seq (.reg [0,1,13] []) (.cond (.seq (.reg [4] []) .leaf) .leaf))) (ic:=bitio_Writer_Unary_i0) (bitio_Writer_Unary_S R k) (bitio_Writer_Unary_J R k) (by kernel_rfl) (And.intro True.intro (And.intro (And.intro True.intro True.intro) True.intro)) (bitio_Writer_Unary_a0 R k k)
    (fun vals H K r h => by
      unfold bitio_Writer_Unary_a0 bitio_Writer_Unary_aa0 at h
      split at h <;> first | (cases h; done) | exact Eq.trans (bitio_Writer_Unary_e0 bitio_Writer_ok (bitio_Writer_put k) (bitio_Writer_Unary_p0 k) (bitio_Writer_Unary_l1 k) k _ _ H K) h)
def bitio_Writer_Unary_ca {R:Type} (f:bitio_Writer_Unary_t R) (args:List Value) (H:Heap) (K:Value → Heap → Option R):Option R :=
  match args with
  | [.pointer p983,.int .i64 n984] => f p983 n984 H (fun n1480 H => K (.int .i64 n1480) H)
  | _ => none
def bitio_Writer_Unary_c (R:Type) (k:Nat) (args:List Value) (H:Heap) (K:Value → Heap → Option R):Option R:=bitio_Writer_Unary_ca (bitio_Writer_Unary k) args H K
theorem bitio_Writer_Unary_e {R:Type} (bitio_Writer_ok:bitio_Writer_ok_t R) (bitio_Writer_put:bitio_Writer_put_t R) (bitio_Writer_Unary_p0:bitio_Writer_Unary_p0_t R) (bitio_Writer_Unary_l1:bitio_Writer_Unary_l1_t R) (k:Nat) (p983:Oa) (n984:Int) (H:Heap) (K:Value → Heap → Option R):evF (bitio_Writer_Unary_Ct bitio_Writer_ok bitio_Writer_put) (bitio_Writer_Unary_Jt k bitio_Writer_Unary_p0 bitio_Writer_Unary_l1) bitio_Writer_Unary_f [.pointer p983,.int .i64 n984] H K = bitio_Writer_Unary_b bitio_Writer_ok bitio_Writer_Unary_p0 bitio_Writer_Unary_l1 bitio_Writer_put k p983 n984 H (fun n1480 H => K (.int .i64 n1480) H):=by kernel_rfl
theorem bitio_Writer_Unary_cs (R:Type) (k:Nat):∀ args H K r,bitio_Writer_Unary_c R k args H K = some r → ∃ v H',Tri Try.prog 63 args H v H' ∧ K v H' = some r:=by
  intro args H K r h
  unfold bitio_Writer_Unary_c bitio_Writer_Unary_ca at h
  split at h
  · exact evF_ok (C:=bitio_Writer_Unary_C R k) (an:=An) (t:=bitio_Writer_Unary_at) (fn:=Try.f63) (c:=(Try.f63.body.getD .skip)) (ifn:=bitio_Writer_Unary_f) (bitio_Writer_Unary_S R k) (bitio_Writer_Unary_J R k) Try.func63 (by kernel_rfl) (by kernel_rfl) (And.intro True.intro (And.intro (And.intro True.intro (And.intro (And.intro True.intro True.intro) True.intro)) (And.intro (bitio_Writer_Unary_j0 k) (And.intro (And.intro True.intro (bitio_Writer_Unary_j1 k)) (And.intro True.intro (And.intro True.intro True.intro)))))) rfl (Eq.trans (bitio_Writer_Unary_e bitio_Writer_ok (bitio_Writer_put k) (bitio_Writer_Unary_p0 k) (bitio_Writer_Unary_l1 k) k _ _ H K) h)
  · cases h
abbrev pkthead_State_write_p0_t (R:Type):Type:=Oa → Oa → Oa → Oa → Oa → Heap → (Oa → Oa → Oa → Oa → Oa → Heap → Option R) → Option R
def pkthead_State_write_p0_b {R:Type} (bitio_Writer_Put:bitio_Writer_Put_t R) (tagtree_Tree_Encode:tagtree_Tree_Encode_t R) (k:Nat) (p803:Oa) (p804:Oa) (p805:Oa) (p806:Oa) (p807:Oa) (H:Heap) (KN:Oa → Oa → Oa → Oa → Oa → Heap → Option R):Option R :=
hnil p805 fun p808 =>
hfad 3 p808 fun p809 =>
ldB H p809 fun t810 =>
bif t810 then (hfad 1 p806 fun p811 =>
ldI .i64 H p811 fun n812 =>
bitio_Writer_Put p804 (imn n812 1) H fun n813 H814 =>
KN p803 p804 p805 p806 p807 H814)
 else (hfad 1 p807 fun p815 =>
ldP H p815 fun p816 =>
hnil p805 fun p817 =>
hfad 1 p817 fun p818 =>
ldI .i64 H p818 fun n819 =>
hnil p805 fun p820 =>
hfad 2 p820 fun p821 =>
ldI .i64 H p821 fun n822 =>
hnil p803 fun p823 =>
hfad 10 p823 fun p824 =>
ldI .i64 H p824 fun n825 =>
tagtree_Tree_Encode p816 p804 n819 n822 (IntKind.wrap .i64 (n825 + 1)) H fun n826 H827 =>
KN p803 p804 p805 p806 p807 H827)
def pkthead_State_write_p0 {R:Type} (k:Nat) (p803:Oa) (p804:Oa) (p805:Oa) (p806:Oa) (p807:Oa) (H:Heap) (KN:Oa → Oa → Oa → Oa → Oa → Heap → Option R):Option R:=pkthead_State_write_p0_b (bitio_Writer_Put k) (tagtree_Tree_Encode k) k p803 p804 p805 p806 p807 H KN
abbrev pkthead_State_write_l2_t (R:Type):Type:=(Oa → Oa → Oa → Oa → Heap → Option R) → Nat → Oa → Oa → Oa → Oa → Oa → Int → Heap → Option R
def pkthead_State_write_l2_b {R:Type} (tagtree_Tree_Encode:tagtree_Tree_Encode_t R) (rec:Oa → Oa → Oa → Oa → Oa → Int → Heap → Option R) (KE0:Oa → Oa → Oa → Oa → Heap → Option R) (k:Nat) (p849:Oa) (p850:Oa) (p851:Oa) (p852:Oa) (p853:Oa) (n854:Int) (H:Heap):Option R :=
hfad 0 p853 fun p855 =>
ldI .i64 H p855 fun n856 =>
hnil p851 fun p857 =>
hfad 9 p857 fun p858 =>
ldI .i64 H p858 fun n859 =>
bif decide (n854 ≤ (IntKind.wrap .i64 ((IntKind.wrap .i64 (n856 - n859)) + 1))) then (hfad 2 p853 fun p860 =>
ldP H p860 fun p861 =>
hnil p851 fun p862 =>
hfad 1 p862 fun p863 =>
ldI .i64 H p863 fun n864 =>
hnil p851 fun p865 =>
hfad 2 p865 fun p866 =>
ldI .i64 H p866 fun n867 =>
tagtree_Tree_Encode p861 p850 n864 n867 n854 H fun n868 H869 =>
rec p849 p850 p851 p852 p853 (IntKind.wrap .i64 (n854 + 1)) H869)
 else (KE0 p849 p850 p851 p852 H)
def pkthead_State_write_l2 {R:Type} (k:Nat) (KE0:Oa → Oa → Oa → Oa → Heap → Option R):Nat → Oa → Oa → Oa → Oa → Oa → Int → Heap → Option R
  | 0,_,_,_,_,_,_,_ => none
  | n + 1,p849,p850,p851,p852,p853,n854,H => pkthead_State_write_l2_b (tagtree_Tree_Encode k) (pkthead_State_write_l2 k KE0 n) KE0 k p849 p850 p851 p852 p853 n854 H
abbrev pkthead_State_write_p1_t (R:Type):Type:=Oa → Oa → Oa → Oa → Oa → Heap → (Oa → Oa → Oa → Oa → Heap → Option R) → Option R
def pkthead_State_write_p1_b {R:Type} (pkthead_State_write_l2:pkthead_State_write_l2_t R) (k:Nat) (p841:Oa) (p842:Oa) (p843:Oa) (p844:Oa) (p845:Oa) (H:Heap) (KN:Oa → Oa → Oa → Oa → Heap → Option R):Option R :=
hnil p843 fun p846 =>
hfad 3 p846 fun p847 =>
ldB H p847 fun t848 =>
bif (!t848) then (pkthead_State_write_l2 (fun p874 p875 p876 p877 H878 =>
hnil p876 fun p879 =>
hfad 9 p879 fun p880 =>
ldI .i64 H878 p880 fun n881 =>
hnil p876 fun p882 =>
hfad 3 p882 fun p883 =>
hst1 H878 p883 (.bool true) fun H884 =>
hnil p876 fun p885 =>
hfad 4 p885 fun p886 =>
hst1 H884 p886 (.int .i64 n881) fun H887 =>
KN p874 p875 p876 p877 H887) k p841 p842 p843 p844 p845 1 H)
 else (KN p841 p842 p843 p844 H)
def pkthead_State_write_p1 {R:Type} (k:Nat) (p841:Oa) (p842:Oa) (p843:Oa) (p844:Oa) (p845:Oa) (H:Heap) (KN:Oa → Oa → Oa → Oa → Heap → Option R):Option R:=pkthead_State_write_p1_b (pkthead_State_write_l2 k) k p841 p842 p843 p844 p845 H KN
abbrev pkthead_State_write_l3_t (R:Type):Type:=(Oa → Oa → Oa → Oa → Nat → Nat → Int → Option R) → Nat → Oa → Oa → Oa → Oa → Nat → Nat → Int → Heap → Option R
def pkthead_State_write_l3_b {R:Type} (pkthead_suffices:pkthead_suffices_t R) (rec:Oa → Oa → Oa → Oa → Nat → Nat → Int → Heap → Option R) (KE2:Oa → Oa → Oa → Oa → Nat → Nat → Int → Option R) (k:Nat) (p917:Oa) (p918:Oa) (p919:Oa) (q920:Oa) (l921:Nat) (c922:Nat) (n923:Int) (H:Heap):Option R :=
hnil p918 fun p924 =>
hfad 7 p924 fun p925 =>
ldI .i64 H p925 fun n926 =>
hfad 2 p919 fun p927 =>
ldL H p927 fun q928 l929 c930 =>
pkthead_suffices (IntKind.wrap .i64 (n926 + n923)) q920 l921 c922 q928 l929 c930 H fun t931 =>
bif (!t931) then (rec p917 p918 p919 q920 l921 c922 (IntKind.wrap .i64 (n923 + 1)) H)
 else (KE2 p917 p918 p919 q920 l921 c922 n923)
def pkthead_State_write_l3 {R:Type} (k:Nat) (KE2:Oa → Oa → Oa → Oa → Nat → Nat → Int → Option R):Nat → Oa → Oa → Oa → Oa → Nat → Nat → Int → Heap → Option R
  | 0,_,_,_,_,_,_,_,_ => none
  | n + 1,p917,p918,p919,q920,l921,c922,n923,H => pkthead_State_write_l3_b (pkthead_suffices k) (pkthead_State_write_l3 k KE2 n) KE2 k p917 p918 p919 q920 l921 c922 n923 H
abbrev pkthead_State_write_l4_t (R:Type):Type:=(Oa → Oa → Heap → Option R) → Nat → Oa → Oa → Oa → Oa → Nat → Nat → Oa → Nat → Nat → Int → Int → Heap → Option R
def pkthead_State_write_l4_b {R:Type} (pkthead_width:pkthead_width_t R) (bitio_Writer_Bits:bitio_Writer_Bits_t R) (rec:Oa → Oa → Oa → Oa → Nat → Nat → Oa → Nat → Nat → Int → Int → Heap → Option R) (KE4:Oa → Oa → Heap → Option R) (k:Nat) (p958:Oa) (p959:Oa) (p960:Oa) (q961:Oa) (l962:Nat) (c963:Nat) (q964:Oa) (l965:Nat) (c966:Nat) (n967:Int) (n968:Int) (H:Heap):Option R :=
bif decide (n968 < n967) then (hidx q964 l965 n968 1 fun p969 =>
ldI .i64 H p969 fun n970 =>
hnil p959 fun p971 =>
hfad 7 p971 fun p972 =>
ldI .i64 H p972 fun n973 =>
hidx q961 l962 n968 1 fun p974 =>
ldI .i64 H p974 fun n975 =>
pkthead_width n975 fun n976 =>
bitio_Writer_Bits p958 n970 (IntKind.wrap .i64 (n973 + n976)) H fun n977 H978 =>
hnil p959 fun p979 =>
hfad 6 p979 fun p980 =>
ldI .i64 H978 p980 fun n981 =>
hnil p959 fun p982 =>
hfad 6 p982 fun p983 =>
hst1 H978 p983 (.int .i64 (IntKind.wrap .i64 (n981 + n970))) fun H984 =>
rec p958 p959 p960 q961 l962 c963 q964 l965 c966 n967 (IntKind.wrap .i64 (n968 + 1)) H984)
 else (KE4 p959 p960 H)
def pkthead_State_write_l4 {R:Type} (k:Nat) (KE4:Oa → Oa → Heap → Option R):Nat → Oa → Oa → Oa → Oa → Nat → Nat → Oa → Nat → Nat → Int → Int → Heap → Option R
  | 0,_,_,_,_,_,_,_,_,_,_,_,_ => none
  | n + 1,p958,p959,p960,q961,l962,c963,q964,l965,c966,n967,n968,H => pkthead_State_write_l4_b (pkthead_width k) (bitio_Writer_Bits k) (pkthead_State_write_l4 k KE4 n) KE4 k p958 p959 p960 q961 l962 c963 q964 l965 c966 n967 n968 H
abbrev pkthead_State_write_t (R:Type):Type:=Oa → Oa → Oa → Int → Int → Oa → Nat → Nat → Heap → (Heap → Option R) → Option R
def pkthead_State_write_b {R:Type} (pkthead_State_write_p0:pkthead_State_write_p0_t R) (pkthead_State_write_p1:pkthead_State_write_p1_t R) (bitio_Writer_Gamma:bitio_Writer_Gamma_t R) (pkthead_Parts:pkthead_Parts_t R) (pkthead_State_write_l3:pkthead_State_write_l3_t R) (bitio_Writer_Unary:bitio_Writer_Unary_t R) (pkthead_State_write_l4:pkthead_State_write_l4_t R) (k:Nat) (p778:Oa) (p779:Oa) (p780:Oa) (n781:Int) (n782:Int) (q783:Oa) (l784:Nat) (c785:Nat) (H:Heap) (K:Heap → Option R):Option R :=
hal H [.int .i64 n781,.int .i64 n782,.slice q783 l784 c785] fun p786 H787 =>
hnil p778 fun p788 =>
hfad 8 p788 fun p789 =>
ldL H787 p789 fun q790 l791 c792 =>
hnil p780 fun p793 =>
hfad 0 p793 fun p794 =>
ldI .i64 H787 p794 fun n795 =>
hidx q790 l791 n795 3 fun p796 =>
ldI .i64 H787 (pad p796 0) fun n797 =>
ldP H787 (pad p796 1) fun p798 =>
ldP H787 (pad p796 2) fun p799 =>
hal H787 [.int .i64 0,.pointer none,.pointer none] fun p800 H801 =>
hst H801 p800 [.int .i64 n797,.pointer p798,.pointer p799] fun H802 =>
pkthead_State_write_p0 p778 p779 p780 p786 p800 H802 (fun p833 p834 p835 p836 p837 H838 =>
hfad 1 p836 fun p839 =>
ldI .i64 H838 p839 fun n840 =>
bif (n840 == 0) then (K H838)
 else (pkthead_State_write_p1 p833 p834 p835 p836 p837 H838 (fun p892 p893 p894 p895 H896 =>
hfad 1 p895 fun p897 =>
ldI .i64 H896 p897 fun n898 =>
bitio_Writer_Gamma p893 n898 H896 fun n899 H900 =>
hnil p894 fun p901 =>
hfad 5 p901 fun p902 =>
ldI .i64 H900 p902 fun n903 =>
hfad 1 p895 fun p904 =>
ldI .i64 H900 p904 fun n905 =>
hnil p892 fun p906 =>
hfad 3 p906 fun p907 =>
ldB H900 (pad p907 0) fun t908 =>
ldB H900 (pad p907 1) fun t909 =>
ldB H900 (pad p907 2) fun t910 =>
ldB H900 (pad p907 3) fun t911 =>
ldB H900 (pad p907 4) fun t912 =>
pkthead_Parts n903 n905 t908 t909 t910 t911 t912 H900 fun q913 l914 c915 H916 =>
pkthead_State_write_l3 (fun p939 p940 p941 q942 l943 c944 n945 =>
bitio_Writer_Unary p939 n945 H916 fun n946 H947 =>
hnil p940 fun p948 =>
hfad 7 p948 fun p949 =>
ldI .i64 H947 p949 fun n950 =>
hnil p940 fun p951 =>
hfad 7 p951 fun p952 =>
hst1 H947 p952 (.int .i64 (IntKind.wrap .i64 (n950 + n945))) fun H953 =>
hfad 2 p941 fun p954 =>
ldL H953 p954 fun q955 l956 c957 =>
pkthead_State_write_l4 (fun p987 p988 H989 =>
hnil p987 fun p990 =>
hfad 5 p990 fun p991 =>
ldI .i64 H989 p991 fun n992 =>
hfad 1 p988 fun p993 =>
ldI .i64 H989 p993 fun n994 =>
hnil p987 fun p995 =>
hfad 5 p995 fun p996 =>
hst1 H989 p996 (.int .i64 (IntKind.wrap .i64 (n992 + n994))) fun H997 =>
K H997) k p939 p940 p941 q942 l943 c944 q955 l956 c957 ((l956:Nat):Int) 0 H953) k p893 p894 p895 q913 l914 c915 0 H916)))
def pkthead_State_write {R:Type} (k:Nat) (p778:Oa) (p779:Oa) (p780:Oa) (n781:Int) (n782:Int) (q783:Oa) (l784:Nat) (c785:Nat) (H:Heap) (K:Heap → Option R):Option R:=pkthead_State_write_b (pkthead_State_write_p0 k) (pkthead_State_write_p1 k) (bitio_Writer_Gamma k) (pkthead_Parts k) (pkthead_State_write_l3 k) (bitio_Writer_Unary k) (pkthead_State_write_l4 k) k p778 p779 p780 n781 n782 q783 l784 c785 H K
def pkthead_State_write_Ct {R:Type} (bitio_Writer_Put:bitio_Writer_Put_t R) (tagtree_Tree_Encode:tagtree_Tree_Encode_t R) (bitio_Writer_Gamma:bitio_Writer_Gamma_t R) (pkthead_Parts:pkthead_Parts_t R) (pkthead_suffices:pkthead_suffices_t R) (bitio_Writer_Unary:bitio_Writer_Unary_t R) (pkthead_width:pkthead_width_t R) (bitio_Writer_Bits:bitio_Writer_Bits_t R):Tab R:=tcons 40 (bitio_Writer_Put_ca bitio_Writer_Put) <| tcons 60 (tagtree_Tree_Encode_ca tagtree_Tree_Encode) <| tcons 61 (bitio_Writer_Gamma_ca bitio_Writer_Gamma) <| tcons 20 (pkthead_Parts_ca pkthead_Parts) <| tcons 62 (pkthead_suffices_ca pkthead_suffices) <| tcons 63 (bitio_Writer_Unary_ca bitio_Writer_Unary) <| tcons 65 (pkthead_width_ca pkthead_width) <| tcons 64 (bitio_Writer_Bits_ca bitio_Writer_Bits) <| fun _ _ _ _ => none
def pkthead_State_write_C (R:Type) (k:Nat):Tab R:=pkthead_State_write_Ct (bitio_Writer_Put k) (tagtree_Tree_Encode k) (bitio_Writer_Gamma k) (pkthead_Parts k) (pkthead_suffices k) (bitio_Writer_Unary k) (pkthead_width k) (bitio_Writer_Bits k)
theorem pkthead_State_write_S (R:Type) (k:Nat):CSound Try.prog (pkthead_State_write_C R k):=csound_cons (bitio_Writer_Put_cs R k) <| csound_cons (tagtree_Tree_Encode_cs R k) <| csound_cons (bitio_Writer_Gamma_cs R k) <| csound_cons (pkthead_Parts_cs R k) <| csound_cons (pkthead_suffices_cs R k) <| csound_cons (bitio_Writer_Unary_cs R k) <| csound_cons (pkthead_width_cs R k) <| csound_cons (bitio_Writer_Bits_cs R k) <| csound_nil
def pkthead_State_write_aa0 {R:Type} (f:pkthead_State_write_p0_t R) (n:Nat) (vals:List Value) (H:Heap) (K:Xit → Env → Heap → Option R):Option R :=
  match vals with
  | [.pointer p803,.pointer p804,.pointer p805,.pointer p806,.pointer p807] => f p803 p804 p805 p806 p807 H (fun p1481 p1482 p1483 p1484 p1485 H => K .normal [(0,.pointer p1481),(1,.pointer p1482),(2,.pointer p1483),(7,.pointer p1484),(8,.pointer p1485)] H)
  | _ => none
def pkthead_State_write_a0 (R:Type) (k n:Nat) (vals:List Value) (H:Heap) (K:Xit → Env → Heap → Option R):Option R:=pkthead_State_write_aa0 (pkthead_State_write_p0 k) n vals H K
def pkthead_State_write_aa1 {R:Type} (f:pkthead_State_write_p1_t R) (n:Nat) (vals:List Value) (H:Heap) (K:Xit → Env → Heap → Option R):Option R :=
  match vals with
  | [.pointer p841,.pointer p842,.pointer p843,.pointer p844,.pointer p845] => f p841 p842 p843 p844 p845 H (fun p1486 p1487 p1488 p1489 H => K .normal [(0,.pointer p1486),(1,.pointer p1487),(2,.pointer p1488),(7,.pointer p1489)] H)
  | _ => none
def pkthead_State_write_a1 (R:Type) (k n:Nat) (vals:List Value) (H:Heap) (K:Xit → Env → Heap → Option R):Option R:=pkthead_State_write_aa1 (pkthead_State_write_p1 k) n vals H K
def pkthead_State_write_aa2 {R:Type} (f:pkthead_State_write_l2_t R) (n:Nat) (vals:List Value) (H:Heap) (K:Xit → Env → Heap → Option R):Option R :=
  match vals with
  | [.pointer p849,.pointer p850,.pointer p851,.pointer p852,.pointer p853,.int .i64 n854] => f (fun p1490 p1491 p1492 p1493 H => K (.exit 0) [(0,.pointer p1490),(1,.pointer p1491),(2,.pointer p1492),(7,.pointer p1493)] H) n p849 p850 p851 p852 p853 n854 H
  | _ => none
def pkthead_State_write_a2 (R:Type) (k n:Nat) (vals:List Value) (H:Heap) (K:Xit → Env → Heap → Option R):Option R:=pkthead_State_write_aa2 (pkthead_State_write_l2 k) n vals H K
def pkthead_State_write_aa3 {R:Type} (f:pkthead_State_write_l3_t R) (n:Nat) (vals:List Value) (H:Heap) (K:Xit → Env → Heap → Option R):Option R :=
  match vals with
  | [.pointer p917,.pointer p918,.pointer p919,.slice q920 l921 c922,.int .i64 n923] => f (fun p1494 p1495 p1496 q1497 l1498 c1499 n1500 => K (.exit 2) [(1,.pointer p1494),(2,.pointer p1495),(7,.pointer p1496),(10,.slice q1497 l1498 c1499),(11,.int .i64 n1500)] H) n p917 p918 p919 q920 l921 c922 n923 H
  | _ => none
def pkthead_State_write_a3 (R:Type) (k n:Nat) (vals:List Value) (H:Heap) (K:Xit → Env → Heap → Option R):Option R:=pkthead_State_write_aa3 (pkthead_State_write_l3 k) n vals H K
def pkthead_State_write_aa4 {R:Type} (f:pkthead_State_write_l4_t R) (n:Nat) (vals:List Value) (H:Heap) (K:Xit → Env → Heap → Option R):Option R :=
  match vals with
  | [.pointer p958,.pointer p959,.pointer p960,.slice q961 l962 c963,.slice q964 l965 c966,.int .i64 n967,.int .i64 n968] => f (fun p1501 p1502 H => K (.exit 4) [(2,.pointer p1501),(7,.pointer p1502)] H) n p958 p959 p960 q961 l962 c963 q964 l965 c966 n967 n968 H
  | _ => none
def pkthead_State_write_a4 (R:Type) (k n:Nat) (vals:List Value) (H:Heap) (K:Xit → Env → Heap → Option R):Option R:=pkthead_State_write_aa4 (pkthead_State_write_l4 k) n vals H K
def pkthead_State_write_Jt {R:Type} (k:Nat) (pkthead_State_write_p0:pkthead_State_write_p0_t R) (pkthead_State_write_p1:pkthead_State_write_p1_t R) (pkthead_State_write_l2:pkthead_State_write_l2_t R) (pkthead_State_write_l3:pkthead_State_write_l3_t R) (pkthead_State_write_l4:pkthead_State_write_l4_t R):JTab R:=tcons 0 (pkthead_State_write_aa0 pkthead_State_write_p0 k) <| tcons 1 (pkthead_State_write_aa1 pkthead_State_write_p1 k) <| tcons 2 (pkthead_State_write_aa2 pkthead_State_write_l2 k) <| tcons 3 (pkthead_State_write_aa3 pkthead_State_write_l3 k) <| tcons 4 (pkthead_State_write_aa4 pkthead_State_write_l4 k) <| fun _ _ _ _ => none
def pkthead_State_write_J (R:Type) (k:Nat):JTab R:=pkthead_State_write_Jt k (pkthead_State_write_p0 k) (pkthead_State_write_p1 k) (pkthead_State_write_l2 k) (pkthead_State_write_l3 k) (pkthead_State_write_l4 k)
def pkthead_State_write_at:AT:=(.seq (.reg [0,1,2,7] []) (.seq (.reg [0,1,2,7,8] [[],[0],[0,1],[0,1,2],[],[4],[4,5],[4,5,6],[0,1,2,3,4,5,6,7],[0,1,2,3,4,5,6,7,8],[],[0,1,2,3,4,5,6,7,8,9,10]]) (.seq (.opq 0 [0,1,2,7,8] ⟨[0,1,2,7,8],[],[]⟩ (.seq (.reg [0,1,2,7,8,27] []) (.cond (.reg [0,1,2,7,8] []) (.reg [0,1,2,7,8] [[],[0],[],[],[3],[3,4],[3,4,5],[],[7],[7,8],[7,8,9],[],[11],[11,12],[11,12,13],[11,12,13,14],[0,1,2,3,4,5,6,7,8,9,10,11,12,13,14,15]])))) (.seq (.seq (.reg [0,1,2,7,8,52] []) (.cond .leaf .leaf)) (.seq (.opq 1 [0,1,2,7,8] ⟨[0,1,2,7],[],[]⟩ (.seq (.reg [0,1,2,7,8,57] []) (.cond (.seq (.seq (.reg [0,1,2,7,8,9] []) (.node (.opq 2 [0,1,2,7,8,9] ⟨[],[(0,[0,1,2,7])],[]⟩ (.node (.seq (.seq (.reg [0,1,2,7,8,9,67] [[],[],[1],[],[3],[3,4],[3,4,5],[1,2,3,4,5,6],[1,2,3,4,5,6,7],[0,1,2,3,4,5,6,7,8]]) (.cond .leaf .leaf)) (.seq (.node (.reg [0,1,2,7,8,9] [[],[0],[],[],[3],[3,4],[3,4,5],[],[7],[7,8],[7,8,9],[],[0,1,2,3,4,5,6,7,8,9,10,11]])) (.reg [0,1,2,7,8,9] []))))))) (.reg [0,1,2,7] [])) .leaf))) (.seq (.reg [0,1,2,7] []) (.seq (.reg [1,2,7,10] [[],[0],[0,1],[0,1,2],[],[4],[],[6],[6,7],[6,7,8],[0,1,2,3,4,5,6,7,8,9],[0,1,2,3,4,5,6,7,8,9,10]]) (.seq (.reg [1,2,7,10,11] []) (.seq (.node (.opq 3 [1,2,7,10,11] ⟨[],[(2,[1,2,7,10,11])],[]⟩ (.node (.seq (.seq (.reg [1,2,7,10,11,118] [[],[0],[0,1],[0,1,2],[],[0,1,2,3,4],[],[],[7],[0,1,2,3,4,5,6,7,8],[0,1,2,3,4,5,6,7,8,9]]) (.cond .leaf .leaf)) (.node (.reg [1,2,7,10,11] [])))))) (.seq (.reg [1,2,7,10,11] []) (.seq (.reg [1,2,7,10] []) (.seq (.seq (.reg [1,2,7,10,133,134,135] []) (.node (.opq 4 [1,2,7,10,133,134,135] ⟨[],[(4,[2,7])],[]⟩ (.node (.seq (.reg [1,2,7,10,133,134,135,136] []) (.seq (.cond .leaf .leaf) (.seq (.node (.seq (.reg [1,2,7,10,12,13,133,134,135] []) (.seq (.reg [1,2,7,10,13,133,134,135] [[],[],[],[2],[2,3],[2,3,4],[],[],[6,7],[6,7,8],[6,7,8,9],[2,3,4,5,6,7,8,9,10],[0,1,2,3,4,5,6,7,8,9,10,11]]) (.reg [1,2,7,10,133,134,135] [])))) (.reg [1,2,7,10,133,134,135] [])))))))) (.reg [] [[],[0],[0,1],[0,1,2],[],[4],[0,1,2,3,4,5],[0,1,2,3,4,5,6],[0,1,2,3,4,5,6,7],[0,1,2,3,4,5,6,7,8]])))))))))))))
def pkthead_State_write_i4:IC:=(.seq (.reg [⟨some 136,.cmp .lss (.t 135) (.t 134),none⟩] [1,2,7,10,133,134,135,136]) (.seq (.cond (.t 136) .skip (.exit 4)) (.seq (.block 5 (.seq (.reg [⟨some 137,.mov (.t 135),none⟩,
⟨some 138,.ids 1 (.t 133) (.t 135),none⟩,
⟨some 139,.ld (.sc (.int .i64)) (.t 138),none⟩,
⟨some 12,.mov (.t 137),none⟩,
⟨some 13,.mov (.t 139),none⟩] [1,2,7,10,12,13,133,134,135]) (.seq (.reg [⟨some 140,.mov (.t 1),none⟩,
⟨some 141,.mov (.t 13),none⟩,
⟨some 142,.mov (.t 2),none⟩,
⟨some 143,.nilc (.t 142),none⟩,
⟨some 144,.fad 7 (.t 143),none⟩,
⟨some 145,.ld (.sc (.int .i64)) (.t 144),none⟩,
⟨some 146,.mov (.t 10),none⟩,
⟨some 147,.mov (.t 12),none⟩,
⟨some 148,.ids 1 (.t 146) (.t 147),none⟩,
⟨some 149,.ld (.sc (.int .i64)) (.t 148),none⟩,
⟨some 150,.calp 65 [(.t 149)] (.one (.sc (.int .i64))),none⟩,
⟨some 151,.bin .add .i64 (.t 145) (.t 150),none⟩,
⟨some 152,.call 64 [(.t 140),(.t 141),(.t 151)] (.one (.sc (.int .i64))),none⟩] [1,2,7,10,13,133,134,135]) (.reg [⟨some 153,.mov (.t 2),none⟩,
⟨some 154,.nilc (.t 153),none⟩,
⟨some 155,.fad 6 (.t 154),none⟩,
⟨some 156,.ld (.sc (.int .i64)) (.t 155),none⟩,
⟨some 157,.mov (.t 13),none⟩,
⟨some 158,.bin .add .i64 (.t 156) (.t 157),none⟩,
⟨some 159,.nilc (.t 153),none⟩,
⟨some 160,.fad 6 (.t 159),none⟩,
⟨none,.st 1 (.t 160) (.t 158),none⟩] [1,2,7,10,133,134,135])))) (.reg [⟨some 161,.bin .add .i64 (.t 135) (.c (Go.Value.int Go.IntKind.i64 1)),none⟩,
⟨some 135,.mov (.t 161),none⟩] [1,2,7,10,133,134,135]))))
def pkthead_State_write_i3:IC:=(.seq (.seq (.reg [⟨some 108,.mov (.t 2),none⟩,
⟨some 109,.nilc (.t 108),none⟩,
⟨some 110,.fad 7 (.t 109),none⟩,
⟨some 111,.ld (.sc (.int .i64)) (.t 110),none⟩,
⟨some 112,.mov (.t 11),none⟩,
⟨some 113,.bin .add .i64 (.t 111) (.t 112),none⟩,
⟨some 114,.mov (.t 10),none⟩,
⟨some 115,.fad 2 (.t 7),none⟩,
⟨some 116,.ld (.sc .slc) (.t 115),none⟩,
⟨some 117,.call 62 [(.t 113),(.t 114),(.t 116)] (.one (.sc .bool)),none⟩,
⟨some 118,.lnot (.t 117),none⟩] [1,2,7,10,11,118]) (.cond (.t 118) .skip (.exit 2))) (.block 3 (.reg [⟨some 119,.mov (.t 11),none⟩,
⟨some 120,.bin .add .i64 (.t 119) (.c (Go.Value.int Go.IntKind.i64 1)),none⟩,
⟨some 11,.mov (.t 120),none⟩] [1,2,7,10,11])))
def pkthead_State_write_i2:IC:=(.seq (.seq (.reg [⟨some 58,.mov (.t 9),none⟩,
⟨some 59,.fad 0 (.t 8),none⟩,
⟨some 60,.ld (.sc (.int .i64)) (.t 59),none⟩,
⟨some 61,.mov (.t 2),none⟩,
⟨some 62,.nilc (.t 61),none⟩,
⟨some 63,.fad 9 (.t 62),none⟩,
⟨some 64,.ld (.sc (.int .i64)) (.t 63),none⟩,
⟨some 65,.bin .sub .i64 (.t 60) (.t 64),none⟩,
⟨some 66,.bin .add .i64 (.t 65) (.c (Go.Value.int Go.IntKind.i64 1)),none⟩,
⟨some 67,.cmp .leq (.t 58) (.t 66),none⟩] [0,1,2,7,8,9,67]) (.cond (.t 67) .skip (.exit 0))) (.seq (.block 1 (.reg [⟨some 70,.fad 2 (.t 8),none⟩,
⟨some 71,.ld (.sc .ptr) (.t 70),none⟩,
⟨some 72,.mov (.t 1),none⟩,
⟨some 73,.mov (.t 2),none⟩,
⟨some 74,.nilc (.t 73),none⟩,
⟨some 75,.fad 1 (.t 74),none⟩,
⟨some 76,.ld (.sc (.int .i64)) (.t 75),none⟩,
⟨some 77,.mov (.t 2),none⟩,
⟨some 78,.nilc (.t 77),none⟩,
⟨some 79,.fad 2 (.t 78),none⟩,
⟨some 80,.ld (.sc (.int .i64)) (.t 79),none⟩,
⟨some 81,.mov (.t 9),none⟩,
⟨some 82,.call 60 [(.t 71),(.t 72),(.t 76),(.t 80),(.t 81)] (.one (.sc (.int .i64))),none⟩] [0,1,2,7,8,9])) (.reg [⟨some 68,.mov (.t 9),none⟩,
⟨some 69,.bin .add .i64 (.t 68) (.c (Go.Value.int Go.IntKind.i64 1)),none⟩,
⟨some 9,.mov (.t 69),none⟩] [0,1,2,7,8,9])))
def pkthead_State_write_i1:IC:=(.seq (.reg [⟨some 53,.mov (.t 2),none⟩,
⟨some 54,.nilc (.t 53),none⟩,
⟨some 55,.fad 3 (.t 54),none⟩,
⟨some 56,.ld (.sc .bool) (.t 55),none⟩,
⟨some 57,.lnot (.t 56),none⟩] [0,1,2,7,8,57]) (.cond (.t 57) (.seq (.seq (.reg [⟨some 9,.mov (.c (Go.Value.int Go.IntKind.i64 1)),none⟩] [0,1,2,7,8,9]) (.block 0 (.opq 2 [0,1,2,7,8,9] (.loop pkthead_State_write_i2)))) (.reg [⟨some 83,.mov (.t 2),none⟩,
⟨some 84,.mov (.t 2),none⟩,
⟨some 85,.mov (.t 2),none⟩,
⟨some 86,.nilc (.t 85),none⟩,
⟨some 87,.fad 9 (.t 86),none⟩,
⟨some 88,.ld (.sc (.int .i64)) (.t 87),none⟩,
⟨some 89,.nilc (.t 83),none⟩,
⟨some 90,.fad 3 (.t 89),none⟩,
⟨none,.st 1 (.t 90) (.c (Go.Value.bool true)),none⟩,
⟨some 91,.nilc (.t 84),none⟩,
⟨some 92,.fad 4 (.t 91),none⟩,
⟨none,.st 1 (.t 92) (.t 88),none⟩] [0,1,2,7])) .skip))
def pkthead_State_write_i0:IC:=(.seq (.reg [⟨some 24,.mov (.t 2),none⟩,
⟨some 25,.nilc (.t 24),none⟩,
⟨some 26,.fad 3 (.t 25),none⟩,
⟨some 27,.ld (.sc .bool) (.t 26),none⟩] [0,1,2,7,8,27]) (.cond (.t 27) (.reg [⟨some 28,.mov (.t 1),none⟩,
⟨some 29,.fad 1 (.t 7),none⟩,
⟨some 30,.ld (.sc (.int .i64)) (.t 29),none⟩,
⟨some 31,.mn (.t 30) (.c (Go.Value.int Go.IntKind.i64 1)),none⟩,
⟨some 32,.call 40 [(.t 28),(.t 31)] (.one (.sc (.int .i64))),none⟩] [0,1,2,7,8]) (.reg [⟨some 33,.fad 1 (.t 8),none⟩,
⟨some 34,.ld (.sc .ptr) (.t 33),none⟩,
⟨some 35,.mov (.t 1),none⟩,
⟨some 36,.mov (.t 2),none⟩,
⟨some 37,.nilc (.t 36),none⟩,
⟨some 38,.fad 1 (.t 37),none⟩,
⟨some 39,.ld (.sc (.int .i64)) (.t 38),none⟩,
⟨some 40,.mov (.t 2),none⟩,
⟨some 41,.nilc (.t 40),none⟩,
⟨some 42,.fad 2 (.t 41),none⟩,
⟨some 43,.ld (.sc (.int .i64)) (.t 42),none⟩,
⟨some 44,.mov (.t 0),none⟩,
⟨some 45,.nilc (.t 44),none⟩,
⟨some 46,.fad 10 (.t 45),none⟩,
⟨some 47,.ld (.sc (.int .i64)) (.t 46),none⟩,
⟨some 48,.bin .add .i64 (.t 47) (.c (Go.Value.int Go.IntKind.i64 1)),none⟩,
⟨some 49,.call 60 [(.t 34),(.t 35),(.t 39),(.t 43),(.t 48)] (.one (.sc (.int .i64))),none⟩] [0,1,2,7,8])))
def pkthead_State_write_f:IFn:=⟨171,[],(.seq (.reg [⟨some 7,.box (.t 3),none⟩] [0,1,2,7]) (.seq (.reg [⟨some 14,.mov (.t 0),none⟩,
⟨some 15,.nilc (.t 14),none⟩,
⟨some 16,.fad 8 (.t 15),none⟩,
⟨some 17,.ld (.sc .slc) (.t 16),none⟩,
⟨some 18,.mov (.t 2),none⟩,
⟨some 19,.nilc (.t 18),none⟩,
⟨some 20,.fad 0 (.t 19),none⟩,
⟨some 21,.ld (.sc (.int .i64)) (.t 20),none⟩,
⟨some 22,.ids 3 (.t 17) (.t 21),none⟩,
⟨some 23,.ld (.agg [(.int .i64),.ptr,.ptr]) (.t 22),none⟩,
⟨some 8,.alc [.int .i64 0,.pointer none,.pointer none],none⟩,
⟨none,.st 3 (.t 8) (.t 23),none⟩] [0,1,2,7,8]) (.seq (.opq 0 [0,1,2,7,8] pkthead_State_write_i0) (.seq (.seq (.reg [⟨some 50,.fad 1 (.t 7),none⟩,
⟨some 51,.ld (.sc (.int .i64)) (.t 50),none⟩,
⟨some 52,.cmp .eql (.t 51) (.c (Go.Value.int Go.IntKind.i64 0)),none⟩] [0,1,2,7,8,52]) (.cond (.t 52) .ret .skip)) (.seq (.opq 1 [0,1,2,7,8] pkthead_State_write_i1) (.seq (.reg [⟨some 93,.mov (.t 1),none⟩,
⟨some 94,.fad 1 (.t 7),none⟩,
⟨some 95,.ld (.sc (.int .i64)) (.t 94),none⟩,
⟨some 96,.call 61 [(.t 93),(.t 95)] (.one (.sc (.int .i64))),none⟩] [0,1,2,7]) (.seq (.reg [⟨some 97,.mov (.t 2),none⟩,
⟨some 98,.nilc (.t 97),none⟩,
⟨some 99,.fad 5 (.t 98),none⟩,
⟨some 100,.ld (.sc (.int .i64)) (.t 99),none⟩,
⟨some 101,.fad 1 (.t 7),none⟩,
⟨some 102,.ld (.sc (.int .i64)) (.t 101),none⟩,
⟨some 103,.mov (.t 0),none⟩,
⟨some 104,.nilc (.t 103),none⟩,
⟨some 105,.fad 3 (.t 104),none⟩,
⟨some 106,.ld (.agg [.bool,.bool,.bool,.bool,.bool]) (.t 105),none⟩,
⟨some 107,.call 20 [(.t 100),(.t 102),(.t 106)] (.one (.sc .slc)),none⟩,
⟨some 10,.mov (.t 107),none⟩] [1,2,7,10]) (.seq (.reg [⟨some 11,.mov (.c (Go.Value.int Go.IntKind.i64 0)),none⟩] [1,2,7,10,11]) (.seq (.block 2 (.opq 3 [1,2,7,10,11] (.loop pkthead_State_write_i3))) (.seq (.reg [⟨some 121,.mov (.t 1),none⟩,
⟨some 122,.mov (.t 11),none⟩,
⟨some 123,.call 63 [(.t 121),(.t 122)] (.one (.sc (.int .i64))),none⟩] [1,2,7,10,11]) (.seq (.reg [⟨some 124,.mov (.t 2),none⟩,
⟨some 125,.nilc (.t 124),none⟩,
⟨some 126,.fad 7 (.t 125),none⟩,
⟨some 127,.ld (.sc (.int .i64)) (.t 126),none⟩,
⟨some 128,.mov (.t 11),none⟩,
⟨some 129,.bin .add .i64 (.t 127) (.t 128),none⟩,
⟨some 130,.nilc (.t 124),none⟩,
⟨some 131,.fad 7 (.t 130),none⟩,
⟨none,.st 1 (.t 131) (.t 129),none⟩] [1,2,7,10]) (.seq (.seq (.reg [⟨some 132,.fad 2 (.t 7),none⟩,
⟨some 133,.ld (.sc .slc) (.t 132),none⟩,
⟨some 134,.len false (.t 133),none⟩,
⟨some 135,.mov (.c (Go.Value.int Go.IntKind.i64 0)),none⟩] [1,2,7,10,133,134,135]) (.block 4 (.opq 4 [1,2,7,10,133,134,135] (.loop pkthead_State_write_i4)))) (.reg [⟨some 162,.mov (.t 2),none⟩,
⟨some 163,.nilc (.t 162),none⟩,
⟨some 164,.fad 5 (.t 163),none⟩,
⟨some 165,.ld (.sc (.int .i64)) (.t 164),none⟩,
⟨some 166,.fad 1 (.t 7),none⟩,
⟨some 167,.ld (.sc (.int .i64)) (.t 166),none⟩,
⟨some 168,.bin .add .i64 (.t 165) (.t 167),none⟩,
⟨some 169,.nilc (.t 162),none⟩,
⟨some 170,.fad 5 (.t 169),none⟩,
⟨none,.st 1 (.t 170) (.t 168),none⟩] [])))))))))))))⟩
theorem pkthead_State_write_e4 {R:Type} (bitio_Writer_Put:bitio_Writer_Put_t R) (tagtree_Tree_Encode:tagtree_Tree_Encode_t R) (bitio_Writer_Gamma:bitio_Writer_Gamma_t R) (pkthead_Parts:pkthead_Parts_t R) (pkthead_suffices:pkthead_suffices_t R) (bitio_Writer_Unary:bitio_Writer_Unary_t R) (pkthead_width:pkthead_width_t R) (bitio_Writer_Bits:bitio_Writer_Bits_t R) (pkthead_State_write_p0:pkthead_State_write_p0_t R) (pkthead_State_write_p1:pkthead_State_write_p1_t R) (pkthead_State_write_l2:pkthead_State_write_l2_t R) (pkthead_State_write_l3:pkthead_State_write_l3_t R) (pkthead_State_write_l4:pkthead_State_write_l4_t R) (k n:Nat) (p958:Oa) (p959:Oa) (p960:Oa) (q961:Oa) (l962:Nat) (c963:Nat) (q964:Oa) (l965:Nat) (c966:Nat) (n967:Int) (n968:Int) (H:Heap) (K:Xit → Env → Heap → Option R):evJ (pkthead_State_write_Ct bitio_Writer_Put tagtree_Tree_Encode bitio_Writer_Gamma pkthead_Parts pkthead_suffices bitio_Writer_Unary pkthead_width bitio_Writer_Bits) (pkthead_State_write_Jt k pkthead_State_write_p0 pkthead_State_write_p1 pkthead_State_write_l2 pkthead_State_write_l3 pkthead_State_write_l4) pkthead_State_write_i4 (List.zip [1,2,7,10,133,134,135] [.pointer p958,.pointer p959,.pointer p960,.slice q961 l962 c963,.slice q964 l965 c966,.int .i64 n967,.int .i64 n968]) H (fun x e' H' => match x with | .normal => pkthead_State_write_aa4 pkthead_State_write_l4 n ((clean e' [1,2,7,10,133,134,135]).map (·.2)) H' K | x => K x (clean e' ((⟨[],[(4,[2,7])],[]⟩:Out).of x)) H') = pkthead_State_write_l4_b pkthead_width bitio_Writer_Bits (pkthead_State_write_l4 (fun p1501 p1502 H => K (.exit 4) [(2,.pointer p1501),(7,.pointer p1502)] H) n) (fun p1501 p1502 H => K (.exit 4) [(2,.pointer p1501),(7,.pointer p1502)] H) k p958 p959 p960 q961 l962 c963 q964 l965 c966 n967 n968 H:=by kernel_rfl
theorem pkthead_State_write_j4 {R:Type} (k:Nat):JS Try.prog 171 (pkthead_State_write_a4 R k k) [1,2,7,10,133,134,135] ⟨[],[(4,[2,7])],[]⟩ (.loop (sel [1,1,1,1,1,1,1,1,1,1,1,0,1,0,0] (Try.f41.body.getD .skip))) :=
  loop_ok (nt:=171) (c:=(sel [1,1,1,1,1,1,1,1,1,1,1,0,1,0,0] (Try.f41.body.getD .skip))) (C:=pkthead_State_write_C R k) (an:=An) (t:=(.seq (.reg [1,2,7,10,133,134,135,136] []) (.seq (.cond .leaf .leaf) (.seq (.node (.seq (.reg [1,2,7,10,12,13,133,134,135] []) (.seq (.reg [1,2,7,10,13,133,134,135] [[],[],[],[2],[2,3],[2,3,4],[],[],[6,7],[6,7,8],[6,7,8,9],[2,3,4,5,6,7,8,9,10],[0,1,2,3,4,5,6,7,8,9,10,11]]) (.reg [1,2,7,10,133,134,135] [])))) (.reg [1,2,7,10,133,134,135] []))))) (ic:=pkthead_State_write_i4) (pkthead_State_write_S R k) (pkthead_State_write_J R k) (by kernel_rfl) (And.intro True.intro (And.intro (And.intro True.intro True.intro) (And.intro (And.intro True.intro (And.intro True.intro True.intro)) True.intro))) (pkthead_State_write_a4 R k) (fun vals H K => by unfold pkthead_State_write_a4 pkthead_State_write_aa4; split <;> rfl)
    (fun n vals H K r h => by
      unfold pkthead_State_write_a4 pkthead_State_write_aa4 at h
      split at h <;> first | (cases h; done) | exact Eq.trans (pkthead_State_write_e4 (bitio_Writer_Put k) (tagtree_Tree_Encode k) (bitio_Writer_Gamma k) (pkthead_Parts k) (pkthead_suffices k) (bitio_Writer_Unary k) (pkthead_width k) (bitio_Writer_Bits k) (pkthead_State_write_p0 k) (pkthead_State_write_p1 k) (pkthead_State_write_l2 k) (pkthead_State_write_l3 k) (pkthead_State_write_l4 k) k n _ _ _ _ _ _ _ _ _ _ _ H K) h) k
theorem pkthead_State_write_e3 {R:Type} (bitio_Writer_Put:bitio_Writer_Put_t R) (tagtree_Tree_Encode:tagtree_Tree_Encode_t R) (bitio_Writer_Gamma:bitio_Writer_Gamma_t R) (pkthead_Parts:pkthead_Parts_t R) (pkthead_suffices:pkthead_suffices_t R) (bitio_Writer_Unary:bitio_Writer_Unary_t R) (pkthead_width:pkthead_width_t R) (bitio_Writer_Bits:bitio_Writer_Bits_t R) (pkthead_State_write_p0:pkthead_State_write_p0_t R) (pkthead_State_write_p1:pkthead_State_write_p1_t R) (pkthead_State_write_l2:pkthead_State_write_l2_t R) (pkthead_State_write_l3:pkthead_State_write_l3_t R) (pkthead_State_write_l4:pkthead_State_write_l4_t R) (k n:Nat) (p917:Oa) (p918:Oa) (p919:Oa) (q920:Oa) (l921:Nat) (c922:Nat) (n923:Int) (H:Heap) (K:Xit → Env → Heap → Option R):evJ (pkthead_State_write_Ct bitio_Writer_Put tagtree_Tree_Encode bitio_Writer_Gamma pkthead_Parts pkthead_suffices bitio_Writer_Unary pkthead_width bitio_Writer_Bits) (pkthead_State_write_Jt k pkthead_State_write_p0 pkthead_State_write_p1 pkthead_State_write_l2 pkthead_State_write_l3 pkthead_State_write_l4) pkthead_State_write_i3 (List.zip [1,2,7,10,11] [.pointer p917,.pointer p918,.pointer p919,.slice q920 l921 c922,.int .i64 n923]) H (fun x e' H' => match x with | .normal => pkthead_State_write_aa3 pkthead_State_write_l3 n ((clean e' [1,2,7,10,11]).map (·.2)) H' K | x => K x (clean e' ((⟨[],[(2,[1,2,7,10,11])],[]⟩:Out).of x)) H') = pkthead_State_write_l3_b pkthead_suffices (pkthead_State_write_l3 (fun p1494 p1495 p1496 q1497 l1498 c1499 n1500 => K (.exit 2) [(1,.pointer p1494),(2,.pointer p1495),(7,.pointer p1496),(10,.slice q1497 l1498 c1499),(11,.int .i64 n1500)] H) n) (fun p1494 p1495 p1496 q1497 l1498 c1499 n1500 => K (.exit 2) [(1,.pointer p1494),(2,.pointer p1495),(7,.pointer p1496),(10,.slice q1497 l1498 c1499),(11,.int .i64 n1500)] H) k p917 p918 p919 q920 l921 c922 n923 H:=by kernel_rfl
theorem pkthead_State_write_j3 {R:Type} (k:Nat):JS Try.prog 171 (pkthead_State_write_a3 R k k) [1,2,7,10,11] ⟨[],[(2,[1,2,7,10,11])],[]⟩ (.loop (sel [1,1,1,1,1,1,1,1,0,0,0] (Try.f41.body.getD .skip))) :=
  loop_ok (nt:=171) (c:=(sel [1,1,1,1,1,1,1,1,0,0,0] (Try.f41.body.getD .skip))) (C:=pkthead_State_write_C R k) (an:=An) (t:=(.seq (.seq (.reg [1,2,7,10,11,118] [[],[0],[0,1],[0,1,2],[],[0,1,2,3,4],[],[],[7],[0,1,2,3,4,5,6,7,8],[0,1,2,3,4,5,6,7,8,9]]) (.cond .leaf .leaf)) (.node (.reg [1,2,7,10,11] [])))) (ic:=pkthead_State_write_i3) (pkthead_State_write_S R k) (pkthead_State_write_J R k) (by kernel_rfl) (And.intro (And.intro True.intro (And.intro True.intro True.intro)) True.intro) (pkthead_State_write_a3 R k) (fun vals H K => by unfold pkthead_State_write_a3 pkthead_State_write_aa3; split <;> rfl)
    (fun n vals H K r h => by
      unfold pkthead_State_write_a3 pkthead_State_write_aa3 at h
      split at h <;> first | (cases h; done) | exact Eq.trans (pkthead_State_write_e3 (bitio_Writer_Put k) (tagtree_Tree_Encode k) (bitio_Writer_Gamma k) (pkthead_Parts k) (pkthead_suffices k) (bitio_Writer_Unary k) (pkthead_width k) (bitio_Writer_Bits k) (pkthead_State_write_p0 k) (pkthead_State_write_p1 k) (pkthead_State_write_l2 k) (pkthead_State_write_l3 k) (pkthead_State_write_l4 k) k n _ _ _ _ _ _ _ H K) h) k
theorem pkthead_State_write_e2 {R:Type} (bitio_Writer_Put:bitio_Writer_Put_t R) (tagtree_Tree_Encode:tagtree_Tree_Encode_t R) (bitio_Writer_Gamma:bitio_Writer_Gamma_t R) (pkthead_Parts:pkthead_Parts_t R) (pkthead_suffices:pkthead_suffices_t R) (bitio_Writer_Unary:bitio_Writer_Unary_t R) (pkthead_width:pkthead_width_t R) (bitio_Writer_Bits:bitio_Writer_Bits_t R) (pkthead_State_write_p0:pkthead_State_write_p0_t R) (pkthead_State_write_p1:pkthead_State_write_p1_t R) (pkthead_State_write_l2:pkthead_State_write_l2_t R) (pkthead_State_write_l3:pkthead_State_write_l3_t R) (pkthead_State_write_l4:pkthead_State_write_l4_t R) (k n:Nat) (p849:Oa) (p850:Oa) (p851:Oa) (p852:Oa) (p853:Oa) (n854:Int) (H:Heap) (K:Xit → Env → Heap → Option R):evJ (pkthead_State_write_Ct bitio_Writer_Put tagtree_Tree_Encode bitio_Writer_Gamma pkthead_Parts pkthead_suffices bitio_Writer_Unary pkthead_width bitio_Writer_Bits) (pkthead_State_write_Jt k pkthead_State_write_p0 pkthead_State_write_p1 pkthead_State_write_l2 pkthead_State_write_l3 pkthead_State_write_l4) pkthead_State_write_i2 (List.zip [0,1,2,7,8,9] [.pointer p849,.pointer p850,.pointer p851,.pointer p852,.pointer p853,.int .i64 n854]) H (fun x e' H' => match x with | .normal => pkthead_State_write_aa2 pkthead_State_write_l2 n ((clean e' [0,1,2,7,8,9]).map (·.2)) H' K | x => K x (clean e' ((⟨[],[(0,[0,1,2,7])],[]⟩:Out).of x)) H') = pkthead_State_write_l2_b tagtree_Tree_Encode (pkthead_State_write_l2 (fun p1490 p1491 p1492 p1493 H => K (.exit 0) [(0,.pointer p1490),(1,.pointer p1491),(2,.pointer p1492),(7,.pointer p1493)] H) n) (fun p1490 p1491 p1492 p1493 H => K (.exit 0) [(0,.pointer p1490),(1,.pointer p1491),(2,.pointer p1492),(7,.pointer p1493)] H) k p849 p850 p851 p852 p853 n854 H:=by kernel_rfl
theorem pkthead_State_write_j2 {R:Type} (k:Nat):JS Try.prog 171 (pkthead_State_write_a2 R k k) [0,1,2,7,8,9] ⟨[],[(0,[0,1,2,7])],[]⟩ (.loop (sel [1,1,1,1,0,1,0,0,1,0,0] (Try.f41.body.getD .skip))) :=
  loop_ok (nt:=171) (c:=(sel [1,1,1,1,0,1,0,0,1,0,0] (Try.f41.body.getD .skip))) (C:=pkthead_State_write_C R k) (an:=An) (t:=(.seq (.seq (.reg [0,1,2,7,8,9,67] [[],[],[1],[],[3],[3,4],[3,4,5],[1,2,3,4,5,6],[1,2,3,4,5,6,7],[0,1,2,3,4,5,6,7,8]]) (.cond .leaf .leaf)) (.seq (.node (.reg [0,1,2,7,8,9] [[],[0],[],[],[3],[3,4],[3,4,5],[],[7],[7,8],[7,8,9],[],[0,1,2,3,4,5,6,7,8,9,10,11]])) (.reg [0,1,2,7,8,9] [])))) (ic:=pkthead_State_write_i2) (pkthead_State_write_S R k) (pkthead_State_write_J R k) (by kernel_rfl) (And.intro (And.intro True.intro (And.intro True.intro True.intro)) (And.intro True.intro True.intro)) (pkthead_State_write_a2 R k) (fun vals H K => by unfold pkthead_State_write_a2 pkthead_State_write_aa2; split <;> rfl)
    (fun n vals H K r h => by
      unfold pkthead_State_write_a2 pkthead_State_write_aa2 at h
      split at h <;> first | (cases h; done) | exact Eq.trans (pkthead_State_write_e2 (bitio_Writer_Put k) (tagtree_Tree_Encode k) (bitio_Writer_Gamma k) (pkthead_Parts k) (pkthead_suffices k) (bitio_Writer_Unary k) (pkthead_width k) (bitio_Writer_Bits k) (pkthead_State_write_p0 k) (pkthead_State_write_p1 k) (pkthead_State_write_l2 k) (pkthead_State_write_l3 k) (pkthead_State_write_l4 k) k n _ _ _ _ _ _ H K) h) k
theorem pkthead_State_write_e1 {R:Type} (bitio_Writer_Put:bitio_Writer_Put_t R) (tagtree_Tree_Encode:tagtree_Tree_Encode_t R) (bitio_Writer_Gamma:bitio_Writer_Gamma_t R) (pkthead_Parts:pkthead_Parts_t R) (pkthead_suffices:pkthead_suffices_t R) (bitio_Writer_Unary:bitio_Writer_Unary_t R) (pkthead_width:pkthead_width_t R) (bitio_Writer_Bits:bitio_Writer_Bits_t R) (pkthead_State_write_p0:pkthead_State_write_p0_t R) (pkthead_State_write_p1:pkthead_State_write_p1_t R) (pkthead_State_write_l2:pkthead_State_write_l2_t R) (pkthead_State_write_l3:pkthead_State_write_l3_t R) (pkthead_State_write_l4:pkthead_State_write_l4_t R) (k:Nat) (p841:Oa) (p842:Oa) (p843:Oa) (p844:Oa) (p845:Oa) (H:Heap) (K:Xit → Env → Heap → Option R):evJ (pkthead_State_write_Ct bitio_Writer_Put tagtree_Tree_Encode bitio_Writer_Gamma pkthead_Parts pkthead_suffices bitio_Writer_Unary pkthead_width bitio_Writer_Bits) (pkthead_State_write_Jt k pkthead_State_write_p0 pkthead_State_write_p1 pkthead_State_write_l2 pkthead_State_write_l3 pkthead_State_write_l4) pkthead_State_write_i1 (List.zip [0,1,2,7,8] [.pointer p841,.pointer p842,.pointer p843,.pointer p844,.pointer p845]) H (fun x e' H' => K x (clean e' ((⟨[0,1,2,7],[],[]⟩:Out).of x)) H') = pkthead_State_write_p1_b pkthead_State_write_l2 k p841 p842 p843 p844 p845 H (fun p1486 p1487 p1488 p1489 H => K .normal [(0,.pointer p1486),(1,.pointer p1487),(2,.pointer p1488),(7,.pointer p1489)] H):=by kernel_rfl
theorem pkthead_State_write_j1 {R:Type} (k:Nat):JS Try.prog 171 (pkthead_State_write_a1 R k k) [0,1,2,7,8] ⟨[0,1,2,7],[],[]⟩ (sel [1,1,1,1,0] (Try.f41.body.getD .skip)) :=
  piece_ok (nt:=171) (c:=(sel [1,1,1,1,0] (Try.f41.body.getD .skip))) (C:=pkthead_State_write_C R k) (an:=An) (t:=(.seq (.reg [0,1,2,7,8,57] []) (.cond (.seq (.seq (.reg [0,1,2,7,8,9] []) (.node (.opq 2 [0,1,2,7,8,9] ⟨[],[(0,[0,1,2,7])],[]⟩ (.node (.seq (.seq (.reg [0,1,2,7,8,9,67] [[],[],[1],[],[3],[3,4],[3,4,5],[1,2,3,4,5,6],[1,2,3,4,5,6,7],[0,1,2,3,4,5,6,7,8]]) (.cond .leaf .leaf)) (.seq (.node (.reg [0,1,2,7,8,9] [[],[0],[],[],[3],[3,4],[3,4,5],[],[7],[7,8],[7,8,9],[],[0,1,2,3,4,5,6,7,8,9,10,11]])) (.reg [0,1,2,7,8,9] []))))))) (.reg [0,1,2,7] [])) .leaf))) (ic:=pkthead_State_write_i1) (pkthead_State_write_S R k) (pkthead_State_write_J R k) (by kernel_rfl) (And.intro True.intro (And.intro (And.intro (And.intro True.intro (pkthead_State_write_j2 k)) True.intro) True.intro)) (pkthead_State_write_a1 R k k)
    (fun vals H K r h => by
      unfold pkthead_State_write_a1 pkthead_State_write_aa1 at h
      split at h <;> first | (cases h; done) | exact Eq.trans (pkthead_State_write_e1 (bitio_Writer_Put k) (tagtree_Tree_Encode k) (bitio_Writer_Gamma k) (pkthead_Parts k) (pkthead_suffices k) (bitio_Writer_Unary k) (pkthead_width k) (bitio_Writer_Bits k) (pkthead_State_write_p0 k) (pkthead_State_write_p1 k) (pkthead_State_write_l2 k) (pkthead_State_write_l3 k) (pkthead_State_write_l4 k) k _ _ _ _ _ H K) h)
theorem pkthead_State_write_e0 {R:Type} (bitio_Writer_Put:bitio_Writer_Put_t R) (tagtree_Tree_Encode:tagtree_Tree_Encode_t R) (bitio_Writer_Gamma:bitio_Writer_Gamma_t R) (pkthead_Parts:pkthead_Parts_t R) (pkthead_suffices:pkthead_suffices_t R) (bitio_Writer_Unary:bitio_Writer_Unary_t R) (pkthead_width:pkthead_width_t R) (bitio_Writer_Bits:bitio_Writer_Bits_t R) (pkthead_State_write_p0:pkthead_State_write_p0_t R) (pkthead_State_write_p1:pkthead_State_write_p1_t R) (pkthead_State_write_l2:pkthead_State_write_l2_t R) (pkthead_State_write_l3:pkthead_State_write_l3_t R) (pkthead_State_write_l4:pkthead_State_write_l4_t R) (k:Nat) (p803:Oa) (p804:Oa) (p805:Oa) (p806:Oa) (p807:Oa) (H:Heap) (K:Xit → Env → Heap → Option R):evJ (pkthead_State_write_Ct bitio_Writer_Put tagtree_Tree_Encode bitio_Writer_Gamma pkthead_Parts pkthead_suffices bitio_Writer_Unary pkthead_width bitio_Writer_Bits) (pkthead_State_write_Jt k pkthead_State_write_p0 pkthead_State_write_p1 pkthead_State_write_l2 pkthead_State_write_l3 pkthead_State_write_l4) pkthead_State_write_i0 (List.zip [0,1,2,7,8] [.pointer p803,.pointer p804,.pointer p805,.pointer p806,.pointer p807]) H (fun x e' H' => K x (clean e' ((⟨[0,1,2,7,8],[],[]⟩:Out).of x)) H') = pkthead_State_write_p0_b bitio_Writer_Put tagtree_Tree_Encode k p803 p804 p805 p806 p807 H (fun p1481 p1482 p1483 p1484 p1485 H => K .normal [(0,.pointer p1481),(1,.pointer p1482),(2,.pointer p1483),(7,.pointer p1484),(8,.pointer p1485)] H):=by kernel_rfl
theorem pkthead_State_write_j0 {R:Type} (k:Nat):JS Try.prog 171 (pkthead_State_write_a0 R k k) [0,1,2,7,8] ⟨[0,1,2,7,8],[],[]⟩ (sel [1,1,0] (Try.f41.body.getD .skip)) :=
  piece_ok (nt:=171) (c:=(sel [1,1,0] (Try.f41.body.getD .skip))) (C:=pkthead_State_write_C R k) (an:=An) (t:=(.seq (.reg [0,1,2,7,8,27] []) (.cond (.reg [0,1,2,7,8] []) (.reg [0,1,2,7,8] [[],[0],[],[],[3],[3,4],[3,4,5],[],[7],[7,8],[7,8,9],[],[11],[11,12],[11,12,13],[11,12,13,14],[0,1,2,3,4,5,6,7,8,9,10,11,12,13,14,15]])))) (ic:=pkthead_State_write_i0) (pkthead_State_write_S R k) (pkthead_State_write_J R k) (by kernel_rfl) (And.intro True.intro (And.intro True.intro True.intro)) (pkthead_State_write_a0 R k k)
    (fun vals H K r h => by
      unfold pkthead_State_write_a0 pkthead_State_write_aa0 at h
      split at h <;> first | (cases h; done) | exact Eq.trans (pkthead_State_write_e0 (bitio_Writer_Put k) (tagtree_Tree_Encode k) (bitio_Writer_Gamma k) (pkthead_Parts k) (pkthead_suffices k) (bitio_Writer_Unary k) (pkthead_width k) (bitio_Writer_Bits k) (pkthead_State_write_p0 k) (pkthead_State_write_p1 k) (pkthead_State_write_l2 k) (pkthead_State_write_l3 k) (pkthead_State_write_l4 k) k _ _ _ _ _ H K) h)
def pkthead_State_write_ca {R:Type} (f:pkthead_State_write_t R) (args:List Value) (H:Heap) (K:Value → Heap → Option R):Option R :=
  match args with
  | [.pointer p778,.pointer p779,.pointer p780,.agg ⟨[.int .i64 n781,.int .i64 n782,.slice q783 l784 c785]⟩] => f p778 p779 p780 n781 n782 q783 l784 c785 H (fun H => K (undef) H)
  | _ => none
def pkthead_State_write_c (R:Type) (k:Nat) (args:List Value) (H:Heap) (K:Value → Heap → Option R):Option R:=pkthead_State_write_ca (pkthead_State_write k) args H K
theorem pkthead_State_write_e {R:Type} (bitio_Writer_Put:bitio_Writer_Put_t R) (tagtree_Tree_Encode:tagtree_Tree_Encode_t R) (bitio_Writer_Gamma:bitio_Writer_Gamma_t R) (pkthead_Parts:pkthead_Parts_t R) (pkthead_suffices:pkthead_suffices_t R) (bitio_Writer_Unary:bitio_Writer_Unary_t R) (pkthead_width:pkthead_width_t R) (bitio_Writer_Bits:bitio_Writer_Bits_t R) (pkthead_State_write_p0:pkthead_State_write_p0_t R) (pkthead_State_write_p1:pkthead_State_write_p1_t R) (pkthead_State_write_l2:pkthead_State_write_l2_t R) (pkthead_State_write_l3:pkthead_State_write_l3_t R) (pkthead_State_write_l4:pkthead_State_write_l4_t R) (k:Nat) (p778:Oa) (p779:Oa) (p780:Oa) (n781:Int) (n782:Int) (q783:Oa) (l784:Nat) (c785:Nat) (H:Heap) (K:Value → Heap → Option R):evF (pkthead_State_write_Ct bitio_Writer_Put tagtree_Tree_Encode bitio_Writer_Gamma pkthead_Parts pkthead_suffices bitio_Writer_Unary pkthead_width bitio_Writer_Bits) (pkthead_State_write_Jt k pkthead_State_write_p0 pkthead_State_write_p1 pkthead_State_write_l2 pkthead_State_write_l3 pkthead_State_write_l4) pkthead_State_write_f [.pointer p778,.pointer p779,.pointer p780,.agg ⟨[.int .i64 n781,.int .i64 n782,.slice q783 l784 c785]⟩] H K = pkthead_State_write_b pkthead_State_write_p0 pkthead_State_write_p1 bitio_Writer_Gamma pkthead_Parts pkthead_State_write_l3 bitio_Writer_Unary pkthead_State_write_l4 k p778 p779 p780 n781 n782 q783 l784 c785 H (fun H => K (undef) H):=by kernel_rfl
theorem pkthead_State_write_cs (R:Type) (k:Nat):∀ args H K r,pkthead_State_write_c R k args H K = some r → ∃ v H',Tri Try.prog 41 args H v H' ∧ K v H' = some r:=by
  intro args H K r h
  unfold pkthead_State_write_c pkthead_State_write_ca at h
  split at h
  · exact evF_ok (C:=pkthead_State_write_C R k) (an:=An) (t:=pkthead_State_write_at) (fn:=Try.f41) (c:=(Try.f41.body.getD .skip)) (ifn:=pkthead_State_write_f) (pkthead_State_write_S R k) (pkthead_State_write_J R k) Try.func41 (by kernel_rfl) (by kernel_rfl) (And.intro True.intro (And.intro True.intro (And.intro (pkthead_State_write_j0 k) (And.intro (And.intro True.intro (And.intro True.intro True.intro)) (And.intro (pkthead_State_write_j1 k) (And.intro True.intro (And.intro True.intro (And.intro True.intro (And.intro (pkthead_State_write_j3 k) (And.intro True.intro (And.intro True.intro (And.intro (And.intro True.intro (pkthead_State_write_j4 k)) True.intro)))))))))))) rfl (Eq.trans (pkthead_State_write_e (bitio_Writer_Put k) (tagtree_Tree_Encode k) (bitio_Writer_Gamma k) (pkthead_Parts k) (pkthead_suffices k) (bitio_Writer_Unary k) (pkthead_width k) (bitio_Writer_Bits k) (pkthead_State_write_p0 k) (pkthead_State_write_p1 k) (pkthead_State_write_l2 k) (pkthead_State_write_l3 k) (pkthead_State_write_l4 k) k _ _ _ _ _ _ _ _ H K) h)
  · cases h
abbrev bitio_Writer_Bytes_p0_t (R:Type):Type:=Oa → Oa → Nat → Nat → Heap → (Oa → Nat → Nat → Heap → Option R) → Option R
def bitio_Writer_Bytes_p0_b {R:Type} (k:Nat) (p815:Oa) (q816:Oa) (l817:Nat) (c818:Nat) (H:Heap) (KN:Oa → Nat → Nat → Heap → Option R):Option R :=
hnil p815 fun p819 =>
hfad 3 p819 fun p820 =>
ldI .i64 H p820 fun n821 =>
bif decide (n821 > 0) then (hnil p815 fun p822 =>
hfad 2 p822 fun p823 =>
ldI .u8 H p823 fun n824 =>
hnil p815 fun p825 =>
hfad 4 p825 fun p826 =>
ldI .i64 H p826 fun n827 =>
hnil p815 fun p828 =>
hfad 3 p828 fun p829 =>
ldI .i64 H p829 fun n830 =>
hbin .shl .u8 n824 (IntKind.wrap .u64 (IntKind.wrap .i64 (n827 - n830))) fun n831 =>
hal H [.int .u8 n831] fun p832 H833 =>
happS 1 1 H833 q816 l817 c818 p832 1 fun q834 l835 c836 H837 =>
KN q834 l835 c836 H837)
 else (hnil p815 fun p838 =>
hfad 4 p838 fun p839 =>
ldI .i64 H p839 fun n840 =>
bif (n840 == 7) then (hal H [.int .u8 0] fun p841 H842 =>
happS 1 1 H842 q816 l817 c818 p841 1 fun q843 l844 c845 H846 =>
KN q843 l844 c845 H846)
 else (KN q816 l817 c818 H))
def bitio_Writer_Bytes_p0 {R:Type} (k:Nat) (p815:Oa) (q816:Oa) (l817:Nat) (c818:Nat) (H:Heap) (KN:Oa → Nat → Nat → Heap → Option R):Option R:=bitio_Writer_Bytes_p0_b k p815 q816 l817 c818 H KN
abbrev bitio_Writer_Bytes_t (R:Type):Type:=Oa → Heap → (Oa → Nat → Nat → Heap → Option R) → Option R
def bitio_Writer_Bytes_b {R:Type} (bitio_Writer_ok:bitio_Writer_ok_t R) (bitio_Writer_Bytes_p0:bitio_Writer_Bytes_p0_t R) (k:Nat) (p795:Oa) (H:Heap) (K:Oa → Nat → Nat → Heap → Option R):Option R :=
bitio_Writer_ok p795 H fun t796 =>
bif (!t796) then (K none 0 0 H)
 else (hnil p795 fun p797 =>
hfad 1 p797 fun p798 =>
ldL H p798 fun q799 l800 c801 =>
hmk [.int .u8 0] 1 H 0 (IntKind.wrap .i64 (((l800:Nat):Int) + 1)) fun q802 l803 c804 H805 =>
hnil p795 fun p806 =>
hfad 1 p806 fun p807 =>
ldL H805 p807 fun q808 l809 c810 =>
happS 1 1 H805 q802 l803 c804 q808 l809 fun q811 l812 c813 H814 =>
bitio_Writer_Bytes_p0 p795 q811 l812 c813 H814 (fun q850 l851 c852 H853 =>
hslc 1 q850 l851 c852 none (some ((l851:Nat):Int)) (some ((l851:Nat):Int)) fun q854 l855 c856 =>
K q854 l855 c856 H853))
def bitio_Writer_Bytes {R:Type} (k:Nat) (p795:Oa) (H:Heap) (K:Oa → Nat → Nat → Heap → Option R):Option R:=bitio_Writer_Bytes_b bitio_Writer_ok (bitio_Writer_Bytes_p0 k) k p795 H K
def bitio_Writer_Bytes_Ct {R:Type} (bitio_Writer_ok:bitio_Writer_ok_t R):Tab R:=tcons 58 (bitio_Writer_ok_ca bitio_Writer_ok) <| fun _ _ _ _ => none
def bitio_Writer_Bytes_C (R:Type) (k:Nat):Tab R:=bitio_Writer_Bytes_Ct bitio_Writer_ok
theorem bitio_Writer_Bytes_S (R:Type) (k:Nat):CSound Try.prog (bitio_Writer_Bytes_C R k):=csound_cons (bitio_Writer_ok_cs R k) <| csound_nil
def bitio_Writer_Bytes_aa0 {R:Type} (f:bitio_Writer_Bytes_p0_t R) (n:Nat) (vals:List Value) (H:Heap) (K:Xit → Env → Heap → Option R):Option R :=
  match vals with
  | [.pointer p815,.slice q816 l817 c818] => f p815 q816 l817 c818 H (fun q1503 l1504 c1505 H => K .normal [(3,.slice q1503 l1504 c1505)] H)
  | _ => none
def bitio_Writer_Bytes_a0 (R:Type) (k n:Nat) (vals:List Value) (H:Heap) (K:Xit → Env → Heap → Option R):Option R:=bitio_Writer_Bytes_aa0 (bitio_Writer_Bytes_p0 k) n vals H K
def bitio_Writer_Bytes_Jt {R:Type} (k:Nat) (bitio_Writer_Bytes_p0:bitio_Writer_Bytes_p0_t R):JTab R:=tcons 0 (bitio_Writer_Bytes_aa0 bitio_Writer_Bytes_p0 k) <| fun _ _ _ _ => none
def bitio_Writer_Bytes_J (R:Type) (k:Nat):JTab R:=bitio_Writer_Bytes_Jt k (bitio_Writer_Bytes_p0 k)
def bitio_Writer_Bytes_at:AT:=(.seq (.reg [0] []) (.seq (.seq (.reg [0,6] []) (.cond (.seq (.reg [2] []) .leaf) .leaf)) (.seq (.reg [0,3] [[],[0],[0,1],[0,1,2],[0,1,2,3],[0,1,2,3,4],[0,1,2,3,4,5],[],[7],[7,8],[7,8,9],[0,1,2,3,4,5,6,7,8,9,10],[0,1,2,3,4,5,6,7,8,9,10,11]]) (.seq (.opq 0 [0,3] ⟨[3],[],[]⟩ (.node (.seq (.reg [0,3,19] []) (.cond (.reg [3] [[],[],[1],[1,2],[1,2,3],[],[5],[5,6],[5,6,7],[],[9],[9,10],[9,10,11],[5,6,7,8,9,10,11,12],[5,6,7,8,9,10,11,12,13],[1,2,3,4,5,6,7,8,9,10,11,12,13,14],[1,2,3,4,5,6,7,8,9,10,11,12,13,14,15],[0,1,2,3,4,5,6,7,8,9,10,11,12,13,14,15,16],[0,1,2,3,4,5,6,7,8,9,10,11,12,13,14,15,16,17]]) (.seq (.reg [3,43] []) (.cond (.reg [3] []) .leaf)))))) (.seq (.reg [2] []) .leaf)))))
def bitio_Writer_Bytes_i0:IC:=(.block 0 (.seq (.reg [⟨some 20,.mov (.t 0),none⟩,
⟨some 21,.nilc (.t 20),none⟩,
⟨some 22,.fad 3 (.t 21),none⟩,
⟨some 23,.ld (.sc (.int .i64)) (.t 22),none⟩,
⟨some 24,.cmp .gtr (.t 23) (.c (Go.Value.int Go.IntKind.i64 0)),none⟩,
⟨some 19,.mov (.t 24),none⟩] [0,3,19]) (.cond (.t 19) (.reg [⟨some 25,.mov (.t 3),none⟩,
⟨some 26,.mov (.t 0),none⟩,
⟨some 27,.nilc (.t 26),none⟩,
⟨some 28,.fad 2 (.t 27),none⟩,
⟨some 29,.ld (.sc (.int .u8)) (.t 28),none⟩,
⟨some 30,.mov (.t 0),none⟩,
⟨some 31,.nilc (.t 30),none⟩,
⟨some 32,.fad 4 (.t 31),none⟩,
⟨some 33,.ld (.sc (.int .i64)) (.t 32),none⟩,
⟨some 34,.mov (.t 0),none⟩,
⟨some 35,.nilc (.t 34),none⟩,
⟨some 36,.fad 3 (.t 35),none⟩,
⟨some 37,.ld (.sc (.int .i64)) (.t 36),none⟩,
⟨some 38,.bin .sub .i64 (.t 33) (.t 37),none⟩,
⟨some 39,.cnv .u64 (.t 38),none⟩,
⟨some 40,.bin .shl .u8 (.t 29) (.t 39),none⟩,
⟨some 41,.bls 1 [.int .u8 0] [(0,1,(.t 40))],none⟩,
⟨some 42,.app [.int .u8 0] 1 (.t 25) (.t 41),none⟩,
⟨some 3,.mov (.t 42),none⟩] [3]) (.seq (.reg [⟨some 44,.mov (.t 0),none⟩,
⟨some 45,.nilc (.t 44),none⟩,
⟨some 46,.fad 4 (.t 45),none⟩,
⟨some 47,.ld (.sc (.int .i64)) (.t 46),none⟩,
⟨some 48,.cmp .eql (.t 47) (.c (Go.Value.int Go.IntKind.i64 7)),none⟩,
⟨some 43,.mov (.t 48),none⟩] [3,43]) (.cond (.t 43) (.reg [⟨some 49,.mov (.t 3),none⟩,
⟨some 50,.bls 1 [.int .u8 0] [(0,1,(.c (Go.Value.int Go.IntKind.u8 0)))],none⟩,
⟨some 51,.app [.int .u8 0] 1 (.t 49) (.t 50),none⟩,
⟨some 3,.mov (.t 51),none⟩] [3]) .skip)))))
def bitio_Writer_Bytes_f:IFn:=⟨58,[.t 2],(.seq (.reg [⟨some 2,.mov (.c (Go.Value.slice none 0 0)),none⟩] [0]) (.seq (.seq (.reg [⟨some 4,.mov (.t 0),none⟩,
⟨some 5,.call 58 [(.t 4)] (.one (.sc .bool)),none⟩,
⟨some 6,.lnot (.t 5),none⟩] [0,6]) (.cond (.t 6) (.seq (.reg [⟨some 2,.mov (.c (Go.Value.slice none 0 0)),none⟩] [2]) .ret) .skip)) (.seq (.reg [⟨some 7,.mov (.t 0),none⟩,
⟨some 8,.nilc (.t 7),none⟩,
⟨some 9,.fad 1 (.t 8),none⟩,
⟨some 10,.ld (.sc .slc) (.t 9),none⟩,
⟨some 11,.len false (.t 10),none⟩,
⟨some 12,.bin .add .i64 (.t 11) (.c (Go.Value.int Go.IntKind.i64 1)),none⟩,
⟨some 13,.mks [.int .u8 0] 1 (.c (Go.Value.int Go.IntKind.i64 0)) (.t 12),none⟩,
⟨some 14,.mov (.t 0),none⟩,
⟨some 15,.nilc (.t 14),none⟩,
⟨some 16,.fad 1 (.t 15),none⟩,
⟨some 17,.ld (.sc .slc) (.t 16),none⟩,
⟨some 18,.app [.int .u8 0] 1 (.t 13) (.t 17),none⟩,
⟨some 3,.mov (.t 18),none⟩] [0,3]) (.seq (.opq 0 [0,3] bitio_Writer_Bytes_i0) (.seq (.reg [⟨some 52,.mov (.t 3),none⟩,
⟨some 53,.mov (.t 3),none⟩,
⟨some 54,.len false (.t 53),none⟩,
⟨some 55,.mov (.t 3),none⟩,
⟨some 56,.len false (.t 55),none⟩,
⟨some 57,.slc 1 (.t 52) none (some (.t 54)) (some (.t 56)),none⟩,
⟨some 2,.mov (.t 57),none⟩] [2]) .ret)))))⟩
theorem bitio_Writer_Bytes_e0 {R:Type} (bitio_Writer_ok:bitio_Writer_ok_t R) (bitio_Writer_Bytes_p0:bitio_Writer_Bytes_p0_t R) (k:Nat) (p815:Oa) (q816:Oa) (l817:Nat) (c818:Nat) (H:Heap) (K:Xit → Env → Heap → Option R):evJ (bitio_Writer_Bytes_Ct bitio_Writer_ok) (bitio_Writer_Bytes_Jt k bitio_Writer_Bytes_p0) bitio_Writer_Bytes_i0 (List.zip [0,3] [.pointer p815,.slice q816 l817 c818]) H (fun x e' H' => K x (clean e' ((⟨[3],[],[]⟩:Out).of x)) H') = bitio_Writer_Bytes_p0_b k p815 q816 l817 c818 H (fun q1503 l1504 c1505 H => K .normal [(3,.slice q1503 l1504 c1505)] H):=by kernel_rfl
theorem bitio_Writer_Bytes_j0 {R:Type} (k:Nat):JS Try.prog 58 (bitio_Writer_Bytes_a0 R k k) [0,3] ⟨[3],[],[]⟩ (sel [1,1,1,0] (Try.f42.body.getD .skip)) :=
  piece_ok (nt:=58) (c:=(sel [1,1,1,0] (Try.f42.body.getD .skip))) (C:=bitio_Writer_Bytes_C R k) (an:=An) (t:=(.node (.seq (.reg [0,3,19] []) (.cond (.reg [3] [[],[],[1],[1,2],[1,2,3],[],[5],[5,6],[5,6,7],[],[9],[9,10],[9,10,11],[5,6,7,8,9,10,11,12],[5,6,7,8,9,10,11,12,13],[1,2,3,4,5,6,7,8,9,10,11,12,13,14],[1,2,3,4,5,6,7,8,9,10,11,12,13,14,15],[0,1,2,3,4,5,6,7,8,9,10,11,12,13,14,15,16],[0,1,2,3,4,5,6,7,8,9,10,11,12,13,14,15,16,17]]) (.seq (.reg [3,43] []) (.cond (.reg [3] []) .leaf)))))) (ic:=bitio_Writer_Bytes_i0) (bitio_Writer_Bytes_S R k) (bitio_Writer_Bytes_J R k) (by kernel_rfl) (And.intro True.intro (And.intro True.intro (And.intro True.intro (And.intro True.intro True.intro)))) (bitio_Writer_Bytes_a0 R k k)
    (fun vals H K r h => by
      unfold bitio_Writer_Bytes_a0 bitio_Writer_Bytes_aa0 at h
      split at h <;> first | (cases h; done) | exact Eq.trans (bitio_Writer_Bytes_e0 bitio_Writer_ok (bitio_Writer_Bytes_p0 k) k _ _ _ _ H K) h)
def bitio_Writer_Bytes_ca {R:Type} (f:bitio_Writer_Bytes_t R) (args:List Value) (H:Heap) (K:Value → Heap → Option R):Option R :=
  match args with
  | [.pointer p795] => f p795 H (fun q1506 l1507 c1508 H => K (.slice q1506 l1507 c1508) H)
  | _ => none
def bitio_Writer_Bytes_c (R:Type) (k:Nat) (args:List Value) (H:Heap) (K:Value → Heap → Option R):Option R:=bitio_Writer_Bytes_ca (bitio_Writer_Bytes k) args H K
theorem bitio_Writer_Bytes_e {R:Type} (bitio_Writer_ok:bitio_Writer_ok_t R) (bitio_Writer_Bytes_p0:bitio_Writer_Bytes_p0_t R) (k:Nat) (p795:Oa) (H:Heap) (K:Value → Heap → Option R):evF (bitio_Writer_Bytes_Ct bitio_Writer_ok) (bitio_Writer_Bytes_Jt k bitio_Writer_Bytes_p0) bitio_Writer_Bytes_f [.pointer p795] H K = bitio_Writer_Bytes_b bitio_Writer_ok bitio_Writer_Bytes_p0 k p795 H (fun q1506 l1507 c1508 H => K (.slice q1506 l1507 c1508) H):=by kernel_rfl
theorem bitio_Writer_Bytes_cs (R:Type) (k:Nat):∀ args H K r,bitio_Writer_Bytes_c R k args H K = some r → ∃ v H',Tri Try.prog 42 args H v H' ∧ K v H' = some r:=by
  intro args H K r h
  unfold bitio_Writer_Bytes_c bitio_Writer_Bytes_ca at h
  split at h
  · exact evF_ok (C:=bitio_Writer_Bytes_C R k) (an:=An) (t:=bitio_Writer_Bytes_at) (fn:=Try.f42) (c:=(Try.f42.body.getD .skip)) (ifn:=bitio_Writer_Bytes_f) (bitio_Writer_Bytes_S R k) (bitio_Writer_Bytes_J R k) Try.func42 (by kernel_rfl) (by kernel_rfl) (And.intro True.intro (And.intro (And.intro True.intro (And.intro (And.intro True.intro True.intro) True.intro)) (And.intro True.intro (And.intro (bitio_Writer_Bytes_j0 k) (And.intro True.intro True.intro))))) rfl (Eq.trans (bitio_Writer_Bytes_e bitio_Writer_ok (bitio_Writer_Bytes_p0 k) k _ H K) h)
  · cases h
abbrev pkthead_State_Encode_p0_t (R:Type):Type:=Oa → Oa → Nat → Nat → Heap → (Oa → Oa → Nat → Nat → Option R) → (Oa → Nat → Nat → Int → Option R) → Option R
def pkthead_State_Encode_p0_b {R:Type} (k:Nat) (p477:Oa) (q478:Oa) (l479:Nat) (c480:Nat) (H:Heap) (KN:Oa → Oa → Nat → Nat → Option R) (KR:Oa → Nat → Nat → Int → Option R):Option R :=
bif p477.isNone then (KR none 0 0 6)
 else (hnil p477 fun p481 =>
hfad 1 p481 fun p482 =>
ldB H p482 fun t483 =>
bif (!t483) then (KR none 0 0 6)
 else (hnil p477 fun p484 =>
hfad 10 p484 fun p485 =>
ldI .i64 H p485 fun n486 =>
bif decide (n486 ≥ 16) then (KR none 0 0 6)
 else (KN p477 q478 l479 c480)))
def pkthead_State_Encode_p0 {R:Type} (k:Nat) (p477:Oa) (q478:Oa) (l479:Nat) (c480:Nat) (H:Heap) (KN:Oa → Oa → Nat → Nat → Option R) (KR:Oa → Nat → Nat → Int → Option R):Option R:=pkthead_State_Encode_p0_b k p477 q478 l479 c480 H KN KR
abbrev pkthead_State_Encode_l1_t (R:Type):Type:=(Oa → Oa → Nat → Nat → Oa → Int → Heap → Option R) → Nat → Oa → Oa → Nat → Nat → Oa → Int → Oa → Nat → Nat → Int → Int → Heap → Option R
def pkthead_State_Encode_l1_b {R:Type} (rec:Oa → Oa → Nat → Nat → Oa → Int → Oa → Nat → Nat → Int → Int → Heap → Option R) (KE0:Oa → Oa → Nat → Nat → Oa → Int → Heap → Option R) (k:Nat) (p503:Oa) (q504:Oa) (l505:Nat) (c506:Nat) (p507:Oa) (n508:Int) (q509:Oa) (l510:Nat) (c511:Nat) (n512:Int) (n513:Int) (H:Heap):Option R :=
bif decide (n513 < n512) then (hidx q509 l510 n513 3 fun p514 =>
ldI .i64 H (pad p514 0) fun n515 =>
ldI .i64 H (pad p514 1) fun n516 =>
ldL H (pad p514 2) fun q517 l518 c519 =>
hal H [.int .i64 0,.int .i64 0,.slice none 0 0] fun p520 H521 =>
hst H521 p520 [.int .i64 n515,.int .i64 n516,.slice q517 l518 c519] fun H522 =>
hfad 1 p520 fun p523 =>
ldI .i64 H522 p523 fun n524 =>
rec p503 q504 l505 c506 p507 (imx n508 (imn n524 1)) q509 l510 c511 n512 (IntKind.wrap .i64 (n513 + 1)) H522)
 else (KE0 p503 q504 l505 c506 p507 n508 H)
def pkthead_State_Encode_l1 {R:Type} (k:Nat) (KE0:Oa → Oa → Nat → Nat → Oa → Int → Heap → Option R):Nat → Oa → Oa → Nat → Nat → Oa → Int → Oa → Nat → Nat → Int → Int → Heap → Option R
  | 0,_,_,_,_,_,_,_,_,_,_,_,_ => none
  | n + 1,p503,q504,l505,c506,p507,n508,q509,l510,c511,n512,n513,H => pkthead_State_Encode_l1_b (pkthead_State_Encode_l1 k KE0 n) KE0 k p503 q504 l505 c506 p507 n508 q509 l510 c511 n512 n513 H
abbrev pkthead_State_Encode_l3_t (R:Type):Type:=(Oa → Oa → Heap → Option R) → Nat → Oa → Oa → Nat → Nat → Oa → Int → Int → Heap → Option R
def pkthead_State_Encode_l3_b {R:Type} (pkthead_State_write:pkthead_State_write_t R) (rec:Oa → Oa → Nat → Nat → Oa → Int → Int → Heap → Option R) (KE2:Oa → Oa → Heap → Option R) (k:Nat) (p551:Oa) (q552:Oa) (l553:Nat) (c554:Nat) (p555:Oa) (n556:Int) (n557:Int) (H:Heap):Option R :=
bif decide (n557 < n556) then (hnil p551 fun p558 =>
hfad 9 p558 fun p559 =>
ldL H p559 fun q560 l561 c562 =>
hidx q560 l561 n557 10 fun p563 =>
hidx q552 l553 n557 3 fun p564 =>
ldI .i64 H (pad p564 0) fun n565 =>
ldI .i64 H (pad p564 1) fun n566 =>
ldL H (pad p564 2) fun q567 l568 c569 =>
pkthead_State_write p551 p555 p563 n565 n566 q567 l568 c569 H fun H570 =>
rec p551 q552 l553 c554 p555 n556 (IntKind.wrap .i64 (n557 + 1)) H570)
 else (KE2 p551 p555 H)
def pkthead_State_Encode_l3 {R:Type} (k:Nat) (KE2:Oa → Oa → Heap → Option R):Nat → Oa → Oa → Nat → Nat → Oa → Int → Int → Heap → Option R
  | 0,_,_,_,_,_,_,_,_ => none
  | n + 1,p551,q552,l553,c554,p555,n556,n557,H => pkthead_State_Encode_l3_b (pkthead_State_write k) (pkthead_State_Encode_l3 k KE2 n) KE2 k p551 q552 l553 c554 p555 n556 n557 H
abbrev pkthead_State_Encode_p2_t (R:Type):Type:=Oa → Oa → Nat → Nat → Oa → Int → Heap → (Oa → Oa → Heap → Option R) → Option R
def pkthead_State_Encode_p2_b {R:Type} (pkthead_State_Encode_l3:pkthead_State_Encode_l3_t R) (k:Nat) (p540:Oa) (q541:Oa) (l542:Nat) (c543:Nat) (p544:Oa) (n545:Int) (H:Heap) (KN:Oa → Oa → Heap → Option R):Option R :=
bif (n545 == 1) then (hnil p540 fun p546 =>
hfad 9 p546 fun p547 =>
ldL H p547 fun q548 l549 c550 =>
pkthead_State_Encode_l3 (fun p573 p574 H575 =>
KN p573 p574 H575) k p540 q541 l542 c543 p544 ((l549:Nat):Int) 0 H)
 else (KN p540 p544 H)
def pkthead_State_Encode_p2 {R:Type} (k:Nat) (p540:Oa) (q541:Oa) (l542:Nat) (c543:Nat) (p544:Oa) (n545:Int) (H:Heap) (KN:Oa → Oa → Heap → Option R):Option R:=pkthead_State_Encode_p2_b (pkthead_State_Encode_l3 k) k p540 q541 l542 c543 p544 n545 H KN
abbrev pkthead_State_Encode_t (R:Type):Type:=Oa → Oa → Nat → Nat → Heap → (Oa → Nat → Nat → Int → Heap → Option R) → Option R
def pkthead_State_Encode_b {R:Type} (pkthead_State_Encode_p0:pkthead_State_Encode_p0_t R) (pkthead_State_check:pkthead_State_check_t R) (bitio_NewWriter:bitio_NewWriter_t R) (pkthead_State_Encode_l1:pkthead_State_Encode_l1_t R) (bitio_Writer_Put:bitio_Writer_Put_t R) (pkthead_State_Encode_p2:pkthead_State_Encode_p2_t R) (bitio_Writer_Bytes:bitio_Writer_Bytes_t R) (k:Nat) (p473:Oa) (q474:Oa) (l475:Nat) (c476:Nat) (H:Heap) (K:Oa → Nat → Nat → Int → Heap → Option R):Option R :=
pkthead_State_Encode_p0 p473 q474 l475 c476 H (fun p495 q496 l497 c498 =>
pkthead_State_check p495 q496 l497 c498 H fun n499 H500 =>
bif (n499 != 0) then (K none 0 0 n499 H500)
 else (bitio_NewWriter H500 fun p501 H502 =>
pkthead_State_Encode_l1 (fun p531 q532 l533 c534 p535 n536 H537 =>
bitio_Writer_Put p535 n536 H537 fun n538 H539 =>
pkthead_State_Encode_p2 p531 q532 l533 c534 p535 n536 H539 (fun p578 p579 H580 =>
hnil p578 fun p581 =>
hfad 10 p581 fun p582 =>
ldI .i64 H580 p582 fun n583 =>
hnil p578 fun p584 =>
hfad 10 p584 fun p585 =>
hst1 H580 p585 (.int .i64 (IntKind.wrap .i64 (n583 + 1))) fun H586 =>
bitio_Writer_Bytes p579 H586 fun q587 l588 c589 H590 =>
K q587 l588 c589 0 H590)) k p495 q496 l497 c498 p501 0 q496 l497 c498 ((l497:Nat):Int) 0 H502)) (fun q591 l592 c593 n594 =>
K q591 l592 c593 n594 H)
def pkthead_State_Encode {R:Type} (k:Nat) (p473:Oa) (q474:Oa) (l475:Nat) (c476:Nat) (H:Heap) (K:Oa → Nat → Nat → Int → Heap → Option R):Option R:=pkthead_State_Encode_b (pkthead_State_Encode_p0 k) (pkthead_State_check k) bitio_NewWriter (pkthead_State_Encode_l1 k) (bitio_Writer_Put k) (pkthead_State_Encode_p2 k) (bitio_Writer_Bytes k) k p473 q474 l475 c476 H K
def pkthead_State_Encode_Ct {R:Type} (pkthead_State_check:pkthead_State_check_t R) (bitio_NewWriter:bitio_NewWriter_t R) (bitio_Writer_Put:bitio_Writer_Put_t R) (pkthead_State_write:pkthead_State_write_t R) (bitio_Writer_Bytes:bitio_Writer_Bytes_t R):Tab R:=tcons 38 (pkthead_State_check_ca pkthead_State_check) <| tcons 39 (bitio_NewWriter_ca bitio_NewWriter) <| tcons 40 (bitio_Writer_Put_ca bitio_Writer_Put) <| tcons 41 (pkthead_State_write_ca pkthead_State_write) <| tcons 42 (bitio_Writer_Bytes_ca bitio_Writer_Bytes) <| fun _ _ _ _ => none
def pkthead_State_Encode_C (R:Type) (k:Nat):Tab R:=pkthead_State_Encode_Ct (pkthead_State_check k) bitio_NewWriter (bitio_Writer_Put k) (pkthead_State_write k) (bitio_Writer_Bytes k)
theorem pkthead_State_Encode_S (R:Type) (k:Nat):CSound Try.prog (pkthead_State_Encode_C R k):=csound_cons (pkthead_State_check_cs R k) <| csound_cons (bitio_NewWriter_cs R k) <| csound_cons (bitio_Writer_Put_cs R k) <| csound_cons (pkthead_State_write_cs R k) <| csound_cons (bitio_Writer_Bytes_cs R k) <| csound_nil
def pkthead_State_Encode_aa0 {R:Type} (f:pkthead_State_Encode_p0_t R) (n:Nat) (vals:List Value) (H:Heap) (K:Xit → Env → Heap → Option R):Option R :=
  match vals with
  | [.pointer p477,.slice q478 l479 c480] => f p477 q478 l479 c480 H (fun p1509 q1510 l1511 c1512 => K .normal [(0,.pointer p1509),(1,.slice q1510 l1511 c1512)] H) (fun q1513 l1514 c1515 n1516 => K .ret [(4,.slice q1513 l1514 c1515),(5,.int .i64 n1516)] H)
  | _ => none
def pkthead_State_Encode_a0 (R:Type) (k n:Nat) (vals:List Value) (H:Heap) (K:Xit → Env → Heap → Option R):Option R:=pkthead_State_Encode_aa0 (pkthead_State_Encode_p0 k) n vals H K
def pkthead_State_Encode_aa1 {R:Type} (f:pkthead_State_Encode_l1_t R) (n:Nat) (vals:List Value) (H:Heap) (K:Xit → Env → Heap → Option R):Option R :=
  match vals with
  | [.pointer p503,.slice q504 l505 c506,.pointer p507,.int .i64 n508,.slice q509 l510 c511,.int .i64 n512,.int .i64 n513] => f (fun p1517 q1518 l1519 c1520 p1521 n1522 H => K (.exit 0) [(0,.pointer p1517),(1,.slice q1518 l1519 c1520),(7,.pointer p1521),(8,.int .i64 n1522)] H) n p503 q504 l505 c506 p507 n508 q509 l510 c511 n512 n513 H
  | _ => none
def pkthead_State_Encode_a1 (R:Type) (k n:Nat) (vals:List Value) (H:Heap) (K:Xit → Env → Heap → Option R):Option R:=pkthead_State_Encode_aa1 (pkthead_State_Encode_l1 k) n vals H K
def pkthead_State_Encode_aa2 {R:Type} (f:pkthead_State_Encode_p2_t R) (n:Nat) (vals:List Value) (H:Heap) (K:Xit → Env → Heap → Option R):Option R :=
  match vals with
  | [.pointer p540,.slice q541 l542 c543,.pointer p544,.int .i64 n545] => f p540 q541 l542 c543 p544 n545 H (fun p1523 p1524 H => K .normal [(0,.pointer p1523),(7,.pointer p1524)] H)
  | _ => none
def pkthead_State_Encode_a2 (R:Type) (k n:Nat) (vals:List Value) (H:Heap) (K:Xit → Env → Heap → Option R):Option R:=pkthead_State_Encode_aa2 (pkthead_State_Encode_p2 k) n vals H K
def pkthead_State_Encode_aa3 {R:Type} (f:pkthead_State_Encode_l3_t R) (n:Nat) (vals:List Value) (H:Heap) (K:Xit → Env → Heap → Option R):Option R :=
  match vals with
  | [.pointer p551,.slice q552 l553 c554,.pointer p555,.int .i64 n556,.int .i64 n557] => f (fun p1525 p1526 H => K (.exit 2) [(0,.pointer p1525),(7,.pointer p1526)] H) n p551 q552 l553 c554 p555 n556 n557 H
  | _ => none
def pkthead_State_Encode_a3 (R:Type) (k n:Nat) (vals:List Value) (H:Heap) (K:Xit → Env → Heap → Option R):Option R:=pkthead_State_Encode_aa3 (pkthead_State_Encode_l3 k) n vals H K
def pkthead_State_Encode_Jt {R:Type} (k:Nat) (pkthead_State_Encode_p0:pkthead_State_Encode_p0_t R) (pkthead_State_Encode_l1:pkthead_State_Encode_l1_t R) (pkthead_State_Encode_p2:pkthead_State_Encode_p2_t R) (pkthead_State_Encode_l3:pkthead_State_Encode_l3_t R):JTab R:=tcons 0 (pkthead_State_Encode_aa0 pkthead_State_Encode_p0 k) <| tcons 1 (pkthead_State_Encode_aa1 pkthead_State_Encode_l1 k) <| tcons 2 (pkthead_State_Encode_aa2 pkthead_State_Encode_p2 k) <| tcons 3 (pkthead_State_Encode_aa3 pkthead_State_Encode_l3 k) <| fun _ _ _ _ => none
def pkthead_State_Encode_J (R:Type) (k:Nat):JTab R:=pkthead_State_Encode_Jt k (pkthead_State_Encode_p0 k) (pkthead_State_Encode_l1 k) (pkthead_State_Encode_p2 k) (pkthead_State_Encode_l3 k)
def pkthead_State_Encode_at:AT:=(.seq (.reg [0,1] []) (.seq (.opq 0 [0,1] ⟨[0,1],[],[4,5]⟩ (.seq (.reg [0,1,27] []) (.cond (.seq (.reg [4,5] []) .leaf) .leaf))) (.seq (.seq (.reg [0,1,6] []) (.seq (.reg [0,1,6,32] []) (.cond (.seq (.reg [4,5] []) .leaf) .leaf))) (.seq (.reg [0,1,7] []) (.seq (.reg [0,1,7,8] []) (.seq (.seq (.reg [0,1,7,8,35,36,37] []) (.node (.opq 1 [0,1,7,8,35,36,37] ⟨[],[(0,[0,1,7,8])],[]⟩ (.node (.seq (.reg [0,1,7,8,35,36,37,38] []) (.seq (.cond .leaf .leaf) (.seq (.node (.seq (.reg [0,1,7,8,10,35,36,37] []) (.reg [0,1,7,8,35,36,37] []))) (.reg [0,1,7,8,35,36,37] [])))))))) (.seq (.reg [0,1,7,8] []) (.seq (.opq 2 [0,1,7,8] ⟨[0,7],[],[]⟩ (.seq (.reg [0,1,7,51] []) (.cond (.seq (.reg [0,1,7,56,57] []) (.node (.opq 3 [0,1,7,56,57] ⟨[],[(2,[0,7])],[]⟩ (.node (.seq (.reg [0,1,7,56,57,58] []) (.seq (.cond .leaf .leaf) (.seq (.node (.seq (.reg [0,1,7,11,56,57] []) (.reg [0,1,7,56,57] [[],[],[],[2],[2,3],[2,3,4],[],[2,3,4,5,6],[],[],[8,9],[8,9,10],[0,1,2,3,4,5,6,7,8,9,10,11]]))) (.reg [0,1,7,56,57] [])))))))) .leaf))) (.seq (.reg [7] []) (.seq (.reg [4,5] []) .leaf))))))))))
def pkthead_State_Encode_i3:IC:=(.seq (.reg [⟨some 58,.cmp .lss (.t 57) (.t 56),none⟩] [0,1,7,56,57,58]) (.seq (.cond (.t 58) .skip (.exit 2)) (.seq (.block 3 (.seq (.reg [⟨some 59,.mov (.t 57),none⟩,
⟨some 11,.mov (.t 59),none⟩] [0,1,7,11,56,57]) (.reg [⟨some 60,.mov (.t 0),none⟩,
⟨some 61,.mov (.t 7),none⟩,
⟨some 62,.mov (.t 0),none⟩,
⟨some 63,.nilc (.t 62),none⟩,
⟨some 64,.fad 9 (.t 63),none⟩,
⟨some 65,.ld (.sc .slc) (.t 64),none⟩,
⟨some 66,.mov (.t 11),none⟩,
⟨some 67,.ids 10 (.t 65) (.t 66),none⟩,
⟨some 68,.mov (.t 1),none⟩,
⟨some 69,.mov (.t 11),none⟩,
⟨some 70,.ids 3 (.t 68) (.t 69),none⟩,
⟨some 71,.ld (.agg [(.int .i64),(.int .i64),.slc]) (.t 70),none⟩,
⟨some 72,.call 41 [(.t 60),(.t 61),(.t 67),(.t 71)] .none,none⟩] [0,1,7,56,57]))) (.reg [⟨some 73,.bin .add .i64 (.t 57) (.c (Go.Value.int Go.IntKind.i64 1)),none⟩,
⟨some 57,.mov (.t 73),none⟩] [0,1,7,56,57]))))
def pkthead_State_Encode_i2:IC:=(.seq (.reg [⟨some 50,.mov (.t 8),none⟩,
⟨some 51,.cmp .eql (.t 50) (.c (Go.Value.int Go.IntKind.i64 1)),none⟩] [0,1,7,51]) (.cond (.t 51) (.seq (.reg [⟨some 52,.mov (.t 0),none⟩,
⟨some 53,.nilc (.t 52),none⟩,
⟨some 54,.fad 9 (.t 53),none⟩,
⟨some 55,.ld (.sc .slc) (.t 54),none⟩,
⟨some 56,.len false (.t 55),none⟩,
⟨some 57,.mov (.c (Go.Value.int Go.IntKind.i64 0)),none⟩] [0,1,7,56,57]) (.block 2 (.opq 3 [0,1,7,56,57] (.loop pkthead_State_Encode_i3)))) .skip))
def pkthead_State_Encode_i1:IC:=(.seq (.reg [⟨some 38,.cmp .lss (.t 37) (.t 36),none⟩] [0,1,7,8,35,36,37,38]) (.seq (.cond (.t 38) .skip (.exit 0)) (.seq (.block 1 (.seq (.reg [⟨some 39,.ids 3 (.t 35) (.t 37),none⟩,
⟨some 40,.ld (.agg [(.int .i64),(.int .i64),.slc]) (.t 39),none⟩,
⟨some 10,.alc [.int .i64 0,.int .i64 0,.slice none 0 0],none⟩,
⟨none,.st 3 (.t 10) (.t 40),none⟩] [0,1,7,8,10,35,36,37]) (.reg [⟨some 41,.mov (.t 8),none⟩,
⟨some 42,.fad 1 (.t 10),none⟩,
⟨some 43,.ld (.sc (.int .i64)) (.t 42),none⟩,
⟨some 44,.mn (.t 43) (.c (Go.Value.int Go.IntKind.i64 1)),none⟩,
⟨some 45,.mx (.t 41) (.t 44),none⟩,
⟨some 8,.mov (.t 45),none⟩] [0,1,7,8,35,36,37]))) (.reg [⟨some 46,.bin .add .i64 (.t 37) (.c (Go.Value.int Go.IntKind.i64 1)),none⟩,
⟨some 37,.mov (.t 46),none⟩] [0,1,7,8,35,36,37]))))
def pkthead_State_Encode_i0:IC:=(.seq (.reg [⟨some 12,.mov (.t 0),none⟩,
⟨some 13,.eqnil (.t 12) false 0,none⟩,
⟨some 14,.mov (.t 13),none⟩,
⟨some 15,.mov (.t 0),some (14,false)⟩,
⟨some 16,.nilc (.t 15),some (14,false)⟩,
⟨some 17,.fad 1 (.t 16),some (14,false)⟩,
⟨some 18,.ld (.sc .bool) (.t 17),some (14,false)⟩,
⟨some 19,.lnot (.t 18),some (14,false)⟩,
⟨some 20,.pick (.t 14) (.c (Go.Value.bool true)) (.t 19),none⟩,
⟨some 21,.mov (.t 20),none⟩,
⟨some 22,.mov (.t 0),some (21,false)⟩,
⟨some 23,.nilc (.t 22),some (21,false)⟩,
⟨some 24,.fad 10 (.t 23),some (21,false)⟩,
⟨some 25,.ld (.sc (.int .i64)) (.t 24),some (21,false)⟩,
⟨some 26,.cmp .geq (.t 25) (.c (Go.Value.int Go.IntKind.i64 16)),some (21,false)⟩,
⟨some 27,.pick (.t 21) (.c (Go.Value.bool true)) (.t 26),none⟩] [0,1,27]) (.cond (.t 27) (.seq (.reg [⟨some 4,.mov (.c (Go.Value.slice none 0 0)),none⟩,
⟨some 5,.mov (.c (Go.Value.int Go.IntKind.i64 6)),none⟩] [4,5]) .ret) .skip))
def pkthead_State_Encode_f:IFn:=⟨83,[.t 4,.t 5],(.seq (.reg [⟨some 4,.mov (.c (Go.Value.slice none 0 0)),none⟩,
⟨some 5,.mov (.c (Go.Value.int Go.IntKind.i64 0)),none⟩] [0,1]) (.seq (.opq 0 [0,1] pkthead_State_Encode_i0) (.seq (.seq (.reg [⟨some 28,.mov (.t 0),none⟩,
⟨some 29,.mov (.t 1),none⟩,
⟨some 30,.call 38 [(.t 28),(.t 29)] (.one (.sc (.int .i64))),none⟩,
⟨some 6,.mov (.t 30),none⟩] [0,1,6]) (.seq (.reg [⟨some 31,.mov (.t 6),none⟩,
⟨some 32,.cmp .neq (.t 31) (.c (Go.Value.int Go.IntKind.i64 0)),none⟩] [0,1,6,32]) (.cond (.t 32) (.seq (.reg [⟨some 33,.mov (.t 6),none⟩,
⟨some 4,.mov (.c (Go.Value.slice none 0 0)),none⟩,
⟨some 5,.mov (.t 33),none⟩] [4,5]) .ret) .skip))) (.seq (.reg [⟨some 34,.call 39 [] (.one (.sc .ptr)),none⟩,
⟨some 7,.mov (.t 34),none⟩] [0,1,7]) (.seq (.reg [⟨some 8,.mov (.c (Go.Value.int Go.IntKind.i64 0)),none⟩] [0,1,7,8]) (.seq (.seq (.reg [⟨some 35,.mov (.t 1),none⟩,
⟨some 36,.len false (.t 35),none⟩,
⟨some 37,.mov (.c (Go.Value.int Go.IntKind.i64 0)),none⟩] [0,1,7,8,35,36,37]) (.block 0 (.opq 1 [0,1,7,8,35,36,37] (.loop pkthead_State_Encode_i1)))) (.seq (.reg [⟨some 47,.mov (.t 7),none⟩,
⟨some 48,.mov (.t 8),none⟩,
⟨some 49,.call 40 [(.t 47),(.t 48)] (.one (.sc (.int .i64))),none⟩] [0,1,7,8]) (.seq (.opq 2 [0,1,7,8] pkthead_State_Encode_i2) (.seq (.reg [⟨some 74,.mov (.t 0),none⟩,
⟨some 75,.nilc (.t 74),none⟩,
⟨some 76,.fad 10 (.t 75),none⟩,
⟨some 77,.ld (.sc (.int .i64)) (.t 76),none⟩,
⟨some 78,.bin .add .i64 (.t 77) (.c (Go.Value.int Go.IntKind.i64 1)),none⟩,
⟨some 79,.nilc (.t 74),none⟩,
⟨some 80,.fad 10 (.t 79),none⟩,
⟨none,.st 1 (.t 80) (.t 78),none⟩] [7]) (.seq (.reg [⟨some 81,.mov (.t 7),none⟩,
⟨some 82,.call 42 [(.t 81)] (.one (.sc .slc)),none⟩,
⟨some 4,.mov (.t 82),none⟩,
⟨some 5,.mov (.c (Go.Value.int Go.IntKind.i64 0)),none⟩] [4,5]) .ret))))))))))⟩
theorem pkthead_State_Encode_e3 {R:Type} (pkthead_State_check:pkthead_State_check_t R) (bitio_NewWriter:bitio_NewWriter_t R) (bitio_Writer_Put:bitio_Writer_Put_t R) (pkthead_State_write:pkthead_State_write_t R) (bitio_Writer_Bytes:bitio_Writer_Bytes_t R) (pkthead_State_Encode_p0:pkthead_State_Encode_p0_t R) (pkthead_State_Encode_l1:pkthead_State_Encode_l1_t R) (pkthead_State_Encode_p2:pkthead_State_Encode_p2_t R) (pkthead_State_Encode_l3:pkthead_State_Encode_l3_t R) (k n:Nat) (p551:Oa) (q552:Oa) (l553:Nat) (c554:Nat) (p555:Oa) (n556:Int) (n557:Int) (H:Heap) (K:Xit → Env → Heap → Option R):evJ (pkthead_State_Encode_Ct pkthead_State_check bitio_NewWriter bitio_Writer_Put pkthead_State_write bitio_Writer_Bytes) (pkthead_State_Encode_Jt k pkthead_State_Encode_p0 pkthead_State_Encode_l1 pkthead_State_Encode_p2 pkthead_State_Encode_l3) pkthead_State_Encode_i3 (List.zip [0,1,7,56,57] [.pointer p551,.slice q552 l553 c554,.pointer p555,.int .i64 n556,.int .i64 n557]) H (fun x e' H' => match x with | .normal => pkthead_State_Encode_aa3 pkthead_State_Encode_l3 n ((clean e' [0,1,7,56,57]).map (·.2)) H' K | x => K x (clean e' ((⟨[],[(2,[0,7])],[]⟩:Out).of x)) H') = pkthead_State_Encode_l3_b pkthead_State_write (pkthead_State_Encode_l3 (fun p1525 p1526 H => K (.exit 2) [(0,.pointer p1525),(7,.pointer p1526)] H) n) (fun p1525 p1526 H => K (.exit 2) [(0,.pointer p1525),(7,.pointer p1526)] H) k p551 q552 l553 c554 p555 n556 n557 H:=by kernel_rfl
theorem pkthead_State_Encode_j3 {R:Type} (k:Nat):JS Try.prog 83 (pkthead_State_Encode_a3 R k k) [0,1,7,56,57] ⟨[],[(2,[0,7])],[]⟩ (.loop (sel [1,1,1,1,1,1,1,0,1,0,1,0,0] (Try.f23.body.getD .skip))) :=
  loop_ok (nt:=83) (c:=(sel [1,1,1,1,1,1,1,0,1,0,1,0,0] (Try.f23.body.getD .skip))) (C:=pkthead_State_Encode_C R k) (an:=An) (t:=(.seq (.reg [0,1,7,56,57,58] []) (.seq (.cond .leaf .leaf) (.seq (.node (.seq (.reg [0,1,7,11,56,57] []) (.reg [0,1,7,56,57] [[],[],[],[2],[2,3],[2,3,4],[],[2,3,4,5,6],[],[],[8,9],[8,9,10],[0,1,2,3,4,5,6,7,8,9,10,11]]))) (.reg [0,1,7,56,57] []))))) (ic:=pkthead_State_Encode_i3) (pkthead_State_Encode_S R k) (pkthead_State_Encode_J R k) (by kernel_rfl) (And.intro True.intro (And.intro (And.intro True.intro True.intro) (And.intro (And.intro True.intro True.intro) True.intro))) (pkthead_State_Encode_a3 R k) (fun vals H K => by unfold pkthead_State_Encode_a3 pkthead_State_Encode_aa3; split <;> rfl)
    (fun n vals H K r h => by
      unfold pkthead_State_Encode_a3 pkthead_State_Encode_aa3 at h
      split at h <;> first | (cases h; done) | exact Eq.trans (pkthead_State_Encode_e3 (pkthead_State_check k) bitio_NewWriter (bitio_Writer_Put k) (pkthead_State_write k) (bitio_Writer_Bytes k) (pkthead_State_Encode_p0 k) (pkthead_State_Encode_l1 k) (pkthead_State_Encode_p2 k) (pkthead_State_Encode_l3 k) k n _ _ _ _ _ _ _ H K) h) k
theorem pkthead_State_Encode_e2 {R:Type} (pkthead_State_check:pkthead_State_check_t R) (bitio_NewWriter:bitio_NewWriter_t R) (bitio_Writer_Put:bitio_Writer_Put_t R) (pkthead_State_write:pkthead_State_write_t R) (bitio_Writer_Bytes:bitio_Writer_Bytes_t R) (pkthead_State_Encode_p0:pkthead_State_Encode_p0_t R) (pkthead_State_Encode_l1:pkthead_State_Encode_l1_t R) (pkthead_State_Encode_p2:pkthead_State_Encode_p2_t R) (pkthead_State_Encode_l3:pkthead_State_Encode_l3_t R) (k:Nat) (p540:Oa) (q541:Oa) (l542:Nat) (c543:Nat) (p544:Oa) (n545:Int) (H:Heap) (K:Xit → Env → Heap → Option R):evJ (pkthead_State_Encode_Ct pkthead_State_check bitio_NewWriter bitio_Writer_Put pkthead_State_write bitio_Writer_Bytes) (pkthead_State_Encode_Jt k pkthead_State_Encode_p0 pkthead_State_Encode_l1 pkthead_State_Encode_p2 pkthead_State_Encode_l3) pkthead_State_Encode_i2 (List.zip [0,1,7,8] [.pointer p540,.slice q541 l542 c543,.pointer p544,.int .i64 n545]) H (fun x e' H' => K x (clean e' ((⟨[0,7],[],[]⟩:Out).of x)) H') = pkthead_State_Encode_p2_b pkthead_State_Encode_l3 k p540 q541 l542 c543 p544 n545 H (fun p1523 p1524 H => K .normal [(0,.pointer p1523),(7,.pointer p1524)] H):=by kernel_rfl
theorem pkthead_State_Encode_j2 {R:Type} (k:Nat):JS Try.prog 83 (pkthead_State_Encode_a2 R k k) [0,1,7,8] ⟨[0,7],[],[]⟩ (sel [1,1,1,1,1,1,1,0] (Try.f23.body.getD .skip)) :=
  piece_ok (nt:=83) (c:=(sel [1,1,1,1,1,1,1,0] (Try.f23.body.getD .skip))) (C:=pkthead_State_Encode_C R k) (an:=An) (t:=(.seq (.reg [0,1,7,51] []) (.cond (.seq (.reg [0,1,7,56,57] []) (.node (.opq 3 [0,1,7,56,57] ⟨[],[(2,[0,7])],[]⟩ (.node (.seq (.reg [0,1,7,56,57,58] []) (.seq (.cond .leaf .leaf) (.seq (.node (.seq (.reg [0,1,7,11,56,57] []) (.reg [0,1,7,56,57] [[],[],[],[2],[2,3],[2,3,4],[],[2,3,4,5,6],[],[],[8,9],[8,9,10],[0,1,2,3,4,5,6,7,8,9,10,11]]))) (.reg [0,1,7,56,57] [])))))))) .leaf))) (ic:=pkthead_State_Encode_i2) (pkthead_State_Encode_S R k) (pkthead_State_Encode_J R k) (by kernel_rfl) (And.intro True.intro (And.intro (And.intro True.intro (pkthead_State_Encode_j3 k)) True.intro)) (pkthead_State_Encode_a2 R k k)
    (fun vals H K r h => by
      unfold pkthead_State_Encode_a2 pkthead_State_Encode_aa2 at h
      split at h <;> first | (cases h; done) | exact Eq.trans (pkthead_State_Encode_e2 (pkthead_State_check k) bitio_NewWriter (bitio_Writer_Put k) (pkthead_State_write k) (bitio_Writer_Bytes k) (pkthead_State_Encode_p0 k) (pkthead_State_Encode_l1 k) (pkthead_State_Encode_p2 k) (pkthead_State_Encode_l3 k) k _ _ _ _ _ _ H K) h)
theorem pkthead_State_Encode_e1 {R:Type} (pkthead_State_check:pkthead_State_check_t R) (bitio_NewWriter:bitio_NewWriter_t R) (bitio_Writer_Put:bitio_Writer_Put_t R) (pkthead_State_write:pkthead_State_write_t R) (bitio_Writer_Bytes:bitio_Writer_Bytes_t R) (pkthead_State_Encode_p0:pkthead_State_Encode_p0_t R) (pkthead_State_Encode_l1:pkthead_State_Encode_l1_t R) (pkthead_State_Encode_p2:pkthead_State_Encode_p2_t R) (pkthead_State_Encode_l3:pkthead_State_Encode_l3_t R) (k n:Nat) (p503:Oa) (q504:Oa) (l505:Nat) (c506:Nat) (p507:Oa) (n508:Int) (q509:Oa) (l510:Nat) (c511:Nat) (n512:Int) (n513:Int) (H:Heap) (K:Xit → Env → Heap → Option R):evJ (pkthead_State_Encode_Ct pkthead_State_check bitio_NewWriter bitio_Writer_Put pkthead_State_write bitio_Writer_Bytes) (pkthead_State_Encode_Jt k pkthead_State_Encode_p0 pkthead_State_Encode_l1 pkthead_State_Encode_p2 pkthead_State_Encode_l3) pkthead_State_Encode_i1 (List.zip [0,1,7,8,35,36,37] [.pointer p503,.slice q504 l505 c506,.pointer p507,.int .i64 n508,.slice q509 l510 c511,.int .i64 n512,.int .i64 n513]) H (fun x e' H' => match x with | .normal => pkthead_State_Encode_aa1 pkthead_State_Encode_l1 n ((clean e' [0,1,7,8,35,36,37]).map (·.2)) H' K | x => K x (clean e' ((⟨[],[(0,[0,1,7,8])],[]⟩:Out).of x)) H') = pkthead_State_Encode_l1_b (pkthead_State_Encode_l1 (fun p1517 q1518 l1519 c1520 p1521 n1522 H => K (.exit 0) [(0,.pointer p1517),(1,.slice q1518 l1519 c1520),(7,.pointer p1521),(8,.int .i64 n1522)] H) n) (fun p1517 q1518 l1519 c1520 p1521 n1522 H => K (.exit 0) [(0,.pointer p1517),(1,.slice q1518 l1519 c1520),(7,.pointer p1521),(8,.int .i64 n1522)] H) k p503 q504 l505 c506 p507 n508 q509 l510 c511 n512 n513 H:=by kernel_rfl
theorem pkthead_State_Encode_j1 {R:Type} (k:Nat):JS Try.prog 83 (pkthead_State_Encode_a1 R k k) [0,1,7,8,35,36,37] ⟨[],[(0,[0,1,7,8])],[]⟩ (.loop (sel [1,1,1,1,1,0,1,0,0] (Try.f23.body.getD .skip))) :=
  loop_ok (nt:=83) (c:=(sel [1,1,1,1,1,0,1,0,0] (Try.f23.body.getD .skip))) (C:=pkthead_State_Encode_C R k) (an:=An) (t:=(.seq (.reg [0,1,7,8,35,36,37,38] []) (.seq (.cond .leaf .leaf) (.seq (.node (.seq (.reg [0,1,7,8,10,35,36,37] []) (.reg [0,1,7,8,35,36,37] []))) (.reg [0,1,7,8,35,36,37] []))))) (ic:=pkthead_State_Encode_i1) (pkthead_State_Encode_S R k) (pkthead_State_Encode_J R k) (by kernel_rfl) (And.intro True.intro (And.intro (And.intro True.intro True.intro) (And.intro (And.intro True.intro True.intro) True.intro))) (pkthead_State_Encode_a1 R k) (fun vals H K => by unfold pkthead_State_Encode_a1 pkthead_State_Encode_aa1; split <;> rfl)
    (fun n vals H K r h => by
      unfold pkthead_State_Encode_a1 pkthead_State_Encode_aa1 at h
      split at h <;> first | (cases h; done) | exact Eq.trans (pkthead_State_Encode_e1 (pkthead_State_check k) bitio_NewWriter (bitio_Writer_Put k) (pkthead_State_write k) (bitio_Writer_Bytes k) (pkthead_State_Encode_p0 k) (pkthead_State_Encode_l1 k) (pkthead_State_Encode_p2 k) (pkthead_State_Encode_l3 k) k n _ _ _ _ _ _ _ _ _ _ _ H K) h) k
theorem pkthead_State_Encode_e0 {R:Type} (pkthead_State_check:pkthead_State_check_t R) (bitio_NewWriter:bitio_NewWriter_t R) (bitio_Writer_Put:bitio_Writer_Put_t R) (pkthead_State_write:pkthead_State_write_t R) (bitio_Writer_Bytes:bitio_Writer_Bytes_t R) (pkthead_State_Encode_p0:pkthead_State_Encode_p0_t R) (pkthead_State_Encode_l1:pkthead_State_Encode_l1_t R) (pkthead_State_Encode_p2:pkthead_State_Encode_p2_t R) (pkthead_State_Encode_l3:pkthead_State_Encode_l3_t R) (k:Nat) (p477:Oa) (q478:Oa) (l479:Nat) (c480:Nat) (H:Heap) (K:Xit → Env → Heap → Option R):evJ (pkthead_State_Encode_Ct pkthead_State_check bitio_NewWriter bitio_Writer_Put pkthead_State_write bitio_Writer_Bytes) (pkthead_State_Encode_Jt k pkthead_State_Encode_p0 pkthead_State_Encode_l1 pkthead_State_Encode_p2 pkthead_State_Encode_l3) pkthead_State_Encode_i0 (List.zip [0,1] [.pointer p477,.slice q478 l479 c480]) H (fun x e' H' => K x (clean e' ((⟨[0,1],[],[4,5]⟩:Out).of x)) H') = pkthead_State_Encode_p0_b k p477 q478 l479 c480 H (fun p1509 q1510 l1511 c1512 => K .normal [(0,.pointer p1509),(1,.slice q1510 l1511 c1512)] H) (fun q1513 l1514 c1515 n1516 => K .ret [(4,.slice q1513 l1514 c1515),(5,.int .i64 n1516)] H):=by kernel_rfl
theorem pkthead_State_Encode_j0 {R:Type} (k:Nat):JS Try.prog 83 (pkthead_State_Encode_a0 R k k) [0,1] ⟨[0,1],[],[4,5]⟩ (sel [1,0] (Try.f23.body.getD .skip)) :=
  piece_ok (nt:=83) (c:=(sel [1,0] (Try.f23.body.getD .skip))) (C:=pkthead_State_Encode_C R k) (an:=An) (t:=(.seq (.reg [0,1,27] []) (.cond (.seq (.reg [4,5] []) .leaf) .leaf))) (ic:=pkthead_State_Encode_i0) (pkthead_State_Encode_S R k) (pkthead_State_Encode_J R k) (by kernel_rfl) (And.intro True.intro (And.intro (And.intro True.intro True.intro) True.intro)) (pkthead_State_Encode_a0 R k k)
    (fun vals H K r h => by
      unfold pkthead_State_Encode_a0 pkthead_State_Encode_aa0 at h
      split at h <;> first | (cases h; done) | exact Eq.trans (pkthead_State_Encode_e0 (pkthead_State_check k) bitio_NewWriter (bitio_Writer_Put k) (pkthead_State_write k) (bitio_Writer_Bytes k) (pkthead_State_Encode_p0 k) (pkthead_State_Encode_l1 k) (pkthead_State_Encode_p2 k) (pkthead_State_Encode_l3 k) k _ _ _ _ H K) h)
def pkthead_State_Encode_ca {R:Type} (f:pkthead_State_Encode_t R) (args:List Value) (H:Heap) (K:Value → Heap → Option R):Option R :=
  match args with
  | [.pointer p473,.slice q474 l475 c476] => f p473 q474 l475 c476 H (fun q1527 l1528 c1529 n1530 H => K (.tuple ⟨[.slice q1527 l1528 c1529,.int .i64 n1530]⟩) H)
  | _ => none
def pkthead_State_Encode_c (R:Type) (k:Nat) (args:List Value) (H:Heap) (K:Value → Heap → Option R):Option R:=pkthead_State_Encode_ca (pkthead_State_Encode k) args H K
theorem pkthead_State_Encode_e {R:Type} (pkthead_State_check:pkthead_State_check_t R) (bitio_NewWriter:bitio_NewWriter_t R) (bitio_Writer_Put:bitio_Writer_Put_t R) (pkthead_State_write:pkthead_State_write_t R) (bitio_Writer_Bytes:bitio_Writer_Bytes_t R) (pkthead_State_Encode_p0:pkthead_State_Encode_p0_t R) (pkthead_State_Encode_l1:pkthead_State_Encode_l1_t R) (pkthead_State_Encode_p2:pkthead_State_Encode_p2_t R) (pkthead_State_Encode_l3:pkthead_State_Encode_l3_t R) (k:Nat) (p473:Oa) (q474:Oa) (l475:Nat) (c476:Nat) (H:Heap) (K:Value → Heap → Option R):evF (pkthead_State_Encode_Ct pkthead_State_check bitio_NewWriter bitio_Writer_Put pkthead_State_write bitio_Writer_Bytes) (pkthead_State_Encode_Jt k pkthead_State_Encode_p0 pkthead_State_Encode_l1 pkthead_State_Encode_p2 pkthead_State_Encode_l3) pkthead_State_Encode_f [.pointer p473,.slice q474 l475 c476] H K = pkthead_State_Encode_b pkthead_State_Encode_p0 pkthead_State_check bitio_NewWriter pkthead_State_Encode_l1 bitio_Writer_Put pkthead_State_Encode_p2 bitio_Writer_Bytes k p473 q474 l475 c476 H (fun q1527 l1528 c1529 n1530 H => K (.tuple ⟨[.slice q1527 l1528 c1529,.int .i64 n1530]⟩) H):=by kernel_rfl
theorem pkthead_State_Encode_cs (R:Type) (k:Nat):∀ args H K r,pkthead_State_Encode_c R k args H K = some r → ∃ v H',Tri Try.prog 23 args H v H' ∧ K v H' = some r:=by
  intro args H K r h
  unfold pkthead_State_Encode_c pkthead_State_Encode_ca at h
  split at h
  · exact evF_ok (C:=pkthead_State_Encode_C R k) (an:=An) (t:=pkthead_State_Encode_at) (fn:=Try.f23) (c:=(Try.f23.body.getD .skip)) (ifn:=pkthead_State_Encode_f) (pkthead_State_Encode_S R k) (pkthead_State_Encode_J R k) Try.func23 (by kernel_rfl) (by kernel_rfl) (And.intro True.intro (And.intro (pkthead_State_Encode_j0 k) (And.intro (And.intro True.intro (And.intro True.intro (And.intro (And.intro True.intro True.intro) True.intro))) (And.intro True.intro (And.intro True.intro (And.intro (And.intro True.intro (pkthead_State_Encode_j1 k)) (And.intro True.intro (And.intro (pkthead_State_Encode_j2 k) (And.intro True.intro (And.intro True.intro True.intro)))))))))) rfl (Eq.trans (pkthead_State_Encode_e (pkthead_State_check k) bitio_NewWriter (bitio_Writer_Put k) (pkthead_State_write k) (bitio_Writer_Bytes k) (pkthead_State_Encode_p0 k) (pkthead_State_Encode_l1 k) (pkthead_State_Encode_p2 k) (pkthead_State_Encode_l3 k) k _ _ _ _ H K) h)
  · cases h
abbrev R09_SameBytes_t (R:Type):Type:=Oa → Nat → Nat → Oa → Nat → Nat → Heap → (Bool → Option R) → Option R
def R09_SameBytes_b {R:Type} (k:Nat) (q612:Oa) (l613:Nat) (c614:Nat) (q615:Oa) (l616:Nat) (c617:Nat) (H:Heap) (K:Bool → Option R):Option R :=
hb2s H q612 l613 fun s618 =>
hb2s H q615 l616 fun s619 =>
K (s618 == s619)
def R09_SameBytes {R:Type} (q612:Oa) (l613:Nat) (c614:Nat) (q615:Oa) (l616:Nat) (c617:Nat) (H:Heap) (K:Bool → Option R):Option R:=R09_SameBytes_b 0 q612 l613 c614 q615 l616 c617 H K
def R09_SameBytes_Ct {R:Type}:Tab R:=fun _ _ _ _ => none
def R09_SameBytes_C (R:Type) (k:Nat):Tab R:=R09_SameBytes_Ct
theorem R09_SameBytes_S (R:Type) (k:Nat):CSound Try.prog (R09_SameBytes_C R k):=csound_nil
def R09_SameBytes_Jt {R:Type} (k:Nat):JTab R:=fun _ _ _ _ => none
def R09_SameBytes_J (R:Type) (k:Nat):JTab R:=R09_SameBytes_Jt k
def R09_SameBytes_at:AT:=(.seq (.reg [0,1] []) (.seq (.reg [4] []) .leaf))
def R09_SameBytes_f:IFn:=⟨10,[.t 4],(.seq (.reg [⟨some 4,.mov (.c (Go.Value.bool false)),none⟩] [0,1]) (.seq (.reg [⟨some 5,.mov (.t 0),none⟩,
⟨some 6,.b2s (.t 5),none⟩,
⟨some 7,.mov (.t 1),none⟩,
⟨some 8,.b2s (.t 7),none⟩,
⟨some 9,.eqT (.t 6) (.t 8) false,none⟩,
⟨some 4,.mov (.t 9),none⟩] [4]) .ret))⟩
def R09_SameBytes_ca {R:Type} (f:R09_SameBytes_t R) (args:List Value) (H:Heap) (K:Value → Heap → Option R):Option R :=
  match args with
  | [.slice q612 l613 c614,.slice q615 l616 c617] => f q612 l613 c614 q615 l616 c617 H (fun t1531 => K (.bool t1531) H)
  | _ => none
def R09_SameBytes_c (R:Type) (k:Nat) (args:List Value) (H:Heap) (K:Value → Heap → Option R):Option R:=R09_SameBytes_ca R09_SameBytes args H K
theorem R09_SameBytes_e {R:Type} (k:Nat) (q612:Oa) (l613:Nat) (c614:Nat) (q615:Oa) (l616:Nat) (c617:Nat) (H:Heap) (K:Value → Heap → Option R):evF (R09_SameBytes_Ct) (R09_SameBytes_Jt k) R09_SameBytes_f [.slice q612 l613 c614,.slice q615 l616 c617] H K = R09_SameBytes_b k q612 l613 c614 q615 l616 c617 H (fun t1531 => K (.bool t1531) H):=by kernel_rfl
theorem R09_SameBytes_cs (R:Type) (k:Nat):∀ args H K r,R09_SameBytes_c R k args H K = some r → ∃ v H',Tri Try.prog 24 args H v H' ∧ K v H' = some r:=by
  intro args H K r h
  unfold R09_SameBytes_c R09_SameBytes_ca at h
  split at h
  · exact evF_ok (C:=R09_SameBytes_C R 0) (an:=An) (t:=R09_SameBytes_at) (fn:=Try.f24) (c:=(Try.f24.body.getD .skip)) (ifn:=R09_SameBytes_f) (R09_SameBytes_S R 0) (R09_SameBytes_J R 0) Try.func24 (by kernel_rfl) (by kernel_rfl) (And.intro True.intro (And.intro True.intro True.intro)) rfl (Eq.trans (R09_SameBytes_e 0 _ _ _ _ _ _ H K) h)
  · cases h
end Go.Proofs.Ytmanlfonppfhaaa.Sh
