/- Lean functions that stand for Go's,over an explicit heap,and the proofs that they do (written by this claim's program shallow.py). -/
import Derived.Test.YtmanlfonppfhaaaSh0
import Derived.Test.YtmanlfonppfhaaaSh4
set_option maxRecDepth 100000
set_option linter.unusedVariables false
set_option linter.unusedSimpArgs false
namespace Go.Proofs.Ytmanlfonppfhaaa.Sh
open Go.Proofs.Ytmanlfonppfhaaa.FW
abbrev bitio_Reader_count_l0_t (R:Type):Type:=(Int → Int → Heap → Option R) → Nat → Oa → Int → Int → Int → Heap → Option R
def bitio_Reader_count_l0_b {R:Type} (bitio_Reader_get:bitio_Reader_get_t R) (rec:Oa → Int → Int → Int → Heap → Option R) (KR:Int → Int → Heap → Option R) (k:Nat) (p974:Oa) (n975:Int) (n976:Int) (n977:Int) (H:Heap):Option R :=
bitio_Reader_get p974 H fun n978 n979 H980 =>
bif (n979 != 0) then (KR 0 n979 H980)
 else (bif (n978 != n975) then (KR n977 0 H980)
 else (bif ((IntKind.wrap .i64 (n977 + 1)) == n976) then (KR 0 8 H980)
 else (rec p974 n975 n976 (IntKind.wrap .i64 (n977 + 1)) H980)))
def bitio_Reader_count_l0 {R:Type} (k:Nat) (KR:Int → Int → Heap → Option R):Nat → Oa → Int → Int → Int → Heap → Option R
  | 0,_,_,_,_,_ => none
  | n + 1,p974,n975,n976,n977,H => bitio_Reader_count_l0_b (bitio_Reader_get k) (bitio_Reader_count_l0 k KR n) KR k p974 n975 n976 n977 H
abbrev bitio_Reader_count_t (R:Type):Type:=Oa → Int → Int → Heap → (Int → Int → Heap → Option R) → Option R
def bitio_Reader_count_b {R:Type} (bitio_Reader_count_l0:bitio_Reader_count_l0_t R) (k:Nat) (p971:Oa) (n972:Int) (n973:Int) (H:Heap) (K:Int → Int → Heap → Option R):Option R :=
bitio_Reader_count_l0 (fun n983 n984 H985 =>
K n983 n984 H985) k p971 n972 n973 0 H
def bitio_Reader_count {R:Type} (k:Nat) (p971:Oa) (n972:Int) (n973:Int) (H:Heap) (K:Int → Int → Heap → Option R):Option R:=bitio_Reader_count_b (bitio_Reader_count_l0 k) k p971 n972 n973 H K
def bitio_Reader_count_Ct {R:Type} (bitio_Reader_get:bitio_Reader_get_t R):Tab R:=tcons 67 (bitio_Reader_get_ca bitio_Reader_get) <| fun _ _ _ _ => none
def bitio_Reader_count_C (R:Type) (k:Nat):Tab R:=bitio_Reader_count_Ct (bitio_Reader_get k)
theorem bitio_Reader_count_S (R:Type) (k:Nat):CSound Try.prog (bitio_Reader_count_C R k):=csound_cons (bitio_Reader_get_cs R k) <| csound_nil
def bitio_Reader_count_aa0 {R:Type} (f:bitio_Reader_count_l0_t R) (n:Nat) (vals:List Value) (H:Heap) (K:Xit → Env → Heap → Option R):Option R :=
  match vals with
  | [.pointer p974,.int .i64 n975,.int .i64 n976,.int .i64 n977] => f (fun n1652 n1653 H => K .ret [(6,.int .i64 n1652),(7,.int .i64 n1653)] H) n p974 n975 n976 n977 H
  | _ => none
def bitio_Reader_count_a0 (R:Type) (k n:Nat) (vals:List Value) (H:Heap) (K:Xit → Env → Heap → Option R):Option R:=bitio_Reader_count_aa0 (bitio_Reader_count_l0 k) n vals H K
def bitio_Reader_count_Jt {R:Type} (k:Nat) (bitio_Reader_count_l0:bitio_Reader_count_l0_t R):JTab R:=tcons 0 (bitio_Reader_count_aa0 bitio_Reader_count_l0 k) <| fun _ _ _ _ => none
def bitio_Reader_count_J (R:Type) (k:Nat):JTab R:=bitio_Reader_count_Jt k (bitio_Reader_count_l0 k)
def bitio_Reader_count_at:AT:=(.seq (.reg [0,1,2] []) (.seq (.reg [0,1,2,8] []) (.node (.opq 0 [0,1,2,8] ⟨[],[],[6,7]⟩ (.node (.node (.seq (.reg [0,1,2,8,9,10] []) (.seq (.seq (.reg [0,1,2,8,9,10,17] []) (.cond (.seq (.reg [6,7] []) .leaf) .leaf)) (.seq (.seq (.reg [0,1,2,8,21] []) (.cond (.seq (.reg [6,7] []) .leaf) .leaf)) (.seq (.reg [0,1,2,8] []) (.seq (.reg [0,1,2,8,27] []) (.cond (.seq (.reg [6,7] []) .leaf) .leaf))))))))))))
def bitio_Reader_count_i0:IC:=(.block 1 (.seq (.reg [⟨some 12,.mov (.t 0),none⟩,
⟨some 13,.call 67 [(.t 12)] (.tup [(.sc (.int .i64)),(.sc (.int .i64))]),none⟩,
⟨some 11,.mov (.t 13),none⟩,
⟨some 14,.ext 0 (.t 11),none⟩,
⟨some 15,.ext 1 (.t 11),none⟩,
⟨some 9,.mov (.t 14),none⟩,
⟨some 10,.mov (.t 15),none⟩] [0,1,2,8,9,10]) (.seq (.seq (.reg [⟨some 16,.mov (.t 10),none⟩,
⟨some 17,.cmp .neq (.t 16) (.c (Go.Value.int Go.IntKind.i64 0)),none⟩] [0,1,2,8,9,10,17]) (.cond (.t 17) (.seq (.reg [⟨some 18,.mov (.t 10),none⟩,
⟨some 6,.mov (.c (Go.Value.int Go.IntKind.i64 0)),none⟩,
⟨some 7,.mov (.t 18),none⟩] [6,7]) .ret) .skip)) (.seq (.seq (.reg [⟨some 19,.mov (.t 9),none⟩,
⟨some 20,.mov (.t 1),none⟩,
⟨some 21,.cmp .neq (.t 19) (.t 20),none⟩] [0,1,2,8,21]) (.cond (.t 21) (.seq (.reg [⟨some 22,.mov (.t 8),none⟩,
⟨some 6,.mov (.t 22),none⟩,
⟨some 7,.mov (.c (Go.Value.int Go.IntKind.i64 0)),none⟩] [6,7]) .ret) .skip)) (.seq (.reg [⟨some 23,.mov (.t 8),none⟩,
⟨some 24,.bin .add .i64 (.t 23) (.c (Go.Value.int Go.IntKind.i64 1)),none⟩,
⟨some 8,.mov (.t 24),none⟩] [0,1,2,8]) (.seq (.reg [⟨some 25,.mov (.t 8),none⟩,
⟨some 26,.mov (.t 2),none⟩,
⟨some 27,.cmp .eql (.t 25) (.t 26),none⟩] [0,1,2,8,27]) (.cond (.t 27) (.seq (.reg [⟨some 6,.mov (.c (Go.Value.int Go.IntKind.i64 0)),none⟩,
⟨some 7,.mov (.c (Go.Value.int Go.IntKind.i64 8)),none⟩] [6,7]) .ret) .skip)))))))
def bitio_Reader_count_f:IFn:=⟨28,[.t 6,.t 7],(.seq (.reg [⟨some 6,.mov (.c (Go.Value.int Go.IntKind.i64 0)),none⟩,
⟨some 7,.mov (.c (Go.Value.int Go.IntKind.i64 0)),none⟩] [0,1,2]) (.seq (.reg [⟨some 8,.mov (.c (Go.Value.int Go.IntKind.i64 0)),none⟩] [0,1,2,8]) (.block 0 (.opq 0 [0,1,2,8] (.loop bitio_Reader_count_i0)))))⟩
theorem bitio_Reader_count_e0 {R:Type} (bitio_Reader_get:bitio_Reader_get_t R) (bitio_Reader_count_l0:bitio_Reader_count_l0_t R) (k n:Nat) (p974:Oa) (n975:Int) (n976:Int) (n977:Int) (H:Heap) (K:Xit → Env → Heap → Option R):evJ (bitio_Reader_count_Ct bitio_Reader_get) (bitio_Reader_count_Jt k bitio_Reader_count_l0) bitio_Reader_count_i0 (List.zip [0,1,2,8] [.pointer p974,.int .i64 n975,.int .i64 n976,.int .i64 n977]) H (fun x e' H' => match x with | .normal => bitio_Reader_count_aa0 bitio_Reader_count_l0 n ((clean e' [0,1,2,8]).map (·.2)) H' K | x => K x (clean e' ((⟨[],[],[6,7]⟩:Out).of x)) H') = bitio_Reader_count_l0_b bitio_Reader_get (bitio_Reader_count_l0 (fun n1652 n1653 H => K .ret [(6,.int .i64 n1652),(7,.int .i64 n1653)] H) n) (fun n1652 n1653 H => K .ret [(6,.int .i64 n1652),(7,.int .i64 n1653)] H) k p974 n975 n976 n977 H:=by kernel_rfl
theorem bitio_Reader_count_j0 {R:Type} (k:Nat):JS Try.prog 28 (bitio_Reader_count_a0 R k k) [0,1,2,8] ⟨[],[],[6,7]⟩ (.loop (sel [1,1,0,0] (Try.f88.body.getD .skip))) :=
  loop_ok (nt:=28) (c:=(sel [1,1,0,0] (Try.f88.body.getD .skip))) (C:=bitio_Reader_count_C R k) (an:=An) (t:=(.node (.seq (.reg [0,1,2,8,9,10] []) (.seq (.seq (.reg [0,1,2,8,9,10,17] []) (.cond (.seq (.reg [6,7] []) .leaf) .leaf)) (.seq (.seq (.reg [0,1,2,8,21] []) (.cond (.seq (.reg [6,7] []) .leaf) .leaf)) (.seq (.reg [0,1,2,8] []) (.seq (.reg [0,1,2,8,27] []) (.cond (.seq (.reg [6,7] []) .leaf) .leaf)))))))) (ic:=bitio_Reader_count_i0) (bitio_Reader_count_S R k) (bitio_Reader_count_J R k) (by kernel_rfl) (And.intro True.intro (And.intro (And.intro True.intro (And.intro (And.intro True.intro True.intro) True.intro)) (And.intro (And.intro True.intro (And.intro (And.intro True.intro True.intro) True.intro)) (And.intro True.intro (And.intro True.intro (And.intro (And.intro True.intro True.intro) True.intro)))))) (bitio_Reader_count_a0 R k) (fun vals H K => by unfold bitio_Reader_count_a0 bitio_Reader_count_aa0; split <;> rfl)
    (fun n vals H K r h => by
      unfold bitio_Reader_count_a0 bitio_Reader_count_aa0 at h
      split at h <;> first | (cases h; done) | exact Eq.trans (bitio_Reader_count_e0 (bitio_Reader_get k) (bitio_Reader_count_l0 k) k n _ _ _ _ H K) h) k
def bitio_Reader_count_ca {R:Type} (f:bitio_Reader_count_t R) (args:List Value) (H:Heap) (K:Value → Heap → Option R):Option R :=
  match args with
  | [.pointer p971,.int .i64 n972,.int .i64 n973] => f p971 n972 n973 H (fun n1654 n1655 H => K (.tuple ⟨[.int .i64 n1654,.int .i64 n1655]⟩) H)
  | _ => none
def bitio_Reader_count_c (R:Type) (k:Nat) (args:List Value) (H:Heap) (K:Value → Heap → Option R):Option R:=bitio_Reader_count_ca (bitio_Reader_count k) args H K
theorem bitio_Reader_count_e {R:Type} (bitio_Reader_get:bitio_Reader_get_t R) (bitio_Reader_count_l0:bitio_Reader_count_l0_t R) (k:Nat) (p971:Oa) (n972:Int) (n973:Int) (H:Heap) (K:Value → Heap → Option R):evF (bitio_Reader_count_Ct bitio_Reader_get) (bitio_Reader_count_Jt k bitio_Reader_count_l0) bitio_Reader_count_f [.pointer p971,.int .i64 n972,.int .i64 n973] H K = bitio_Reader_count_b bitio_Reader_count_l0 k p971 n972 n973 H (fun n1654 n1655 H => K (.tuple ⟨[.int .i64 n1654,.int .i64 n1655]⟩) H):=by kernel_rfl
theorem bitio_Reader_count_cs (R:Type) (k:Nat):∀ args H K r,bitio_Reader_count_c R k args H K = some r → ∃ v H',Tri Try.prog 88 args H v H' ∧ K v H' = some r:=by
  intro args H K r h
  unfold bitio_Reader_count_c bitio_Reader_count_ca at h
  split at h
  · exact evF_ok (C:=bitio_Reader_count_C R k) (an:=An) (t:=bitio_Reader_count_at) (fn:=Try.f88) (c:=(Try.f88.body.getD .skip)) (ifn:=bitio_Reader_count_f) (bitio_Reader_count_S R k) (bitio_Reader_count_J R k) Try.func88 (by kernel_rfl) (by kernel_rfl) (And.intro True.intro (And.intro True.intro (bitio_Reader_count_j0 k))) rfl (Eq.trans (bitio_Reader_count_e (bitio_Reader_get k) (bitio_Reader_count_l0 k) k _ _ _ H K) h)
  · cases h
abbrev bitio_Reader_Gamma_1_t (R:Type):Type:=Oa → Heap → (Int → Int → Heap → Option R) → Option R
def bitio_Reader_Gamma_1_b {R:Type} (bitio_Reader_count:bitio_Reader_count_t R) (bitio_Reader_bits:bitio_Reader_bits_t R) (k:Nat) (p969:Oa) (H:Heap) (K:Int → Int → Heap → Option R):Option R :=
ldP H p969 fun p970 =>
bitio_Reader_count p970 0 32 H fun n971 n972 H973 =>
bif (n972 != 0) then (K 0 n972 H973)
 else (ldP H973 p969 fun p974 =>
bitio_Reader_bits p974 n971 H973 fun n975 n976 H977 =>
hbin .shl .i64 1 (IntKind.wrap .u64 n971) fun n978 =>
hbin .or .i64 n978 n975 fun n979 =>
K n979 n976 H977)
def bitio_Reader_Gamma_1 {R:Type} (k:Nat) (p969:Oa) (H:Heap) (K:Int → Int → Heap → Option R):Option R:=bitio_Reader_Gamma_1_b (bitio_Reader_count k) (bitio_Reader_bits k) k p969 H K
def bitio_Reader_Gamma_1_Ct {R:Type} (bitio_Reader_count:bitio_Reader_count_t R) (bitio_Reader_bits:bitio_Reader_bits_t R):Tab R:=tcons 88 (bitio_Reader_count_ca bitio_Reader_count) <| tcons 89 (bitio_Reader_bits_ca bitio_Reader_bits) <| fun _ _ _ _ => none
def bitio_Reader_Gamma_1_C (R:Type) (k:Nat):Tab R:=bitio_Reader_Gamma_1_Ct (bitio_Reader_count k) (bitio_Reader_bits k)
theorem bitio_Reader_Gamma_1_S (R:Type) (k:Nat):CSound Try.prog (bitio_Reader_Gamma_1_C R k):=csound_cons (bitio_Reader_count_cs R k) <| csound_cons (bitio_Reader_bits_cs R k) <| csound_nil
def bitio_Reader_Gamma_1_Jt {R:Type} (k:Nat):JTab R:=fun _ _ _ _ => none
def bitio_Reader_Gamma_1_J (R:Type) (k:Nat):JTab R:=bitio_Reader_Gamma_1_Jt k
def bitio_Reader_Gamma_1_at:AT:=(.seq (.reg [0] []) (.seq (.reg [0,3,4] []) (.seq (.seq (.reg [0,3,4,12] []) (.cond (.seq (.reg [1,2] []) .leaf) .leaf)) (.seq (.reg [3,4,5] []) (.seq (.reg [1,2] []) .leaf)))))
def bitio_Reader_Gamma_1_f:IFn:=⟨26,[.t 1,.t 2],(.seq (.reg [⟨some 1,.mov (.c (Go.Value.int Go.IntKind.i64 0)),none⟩,
⟨some 2,.mov (.c (Go.Value.int Go.IntKind.i64 0)),none⟩] [0]) (.seq (.reg [⟨some 7,.ld (.sc .ptr) (.t 0),none⟩,
⟨some 8,.call 88 [(.t 7),(.c (Go.Value.int Go.IntKind.i64 0)),(.c (Go.Value.int Go.IntKind.i64 32))] (.tup [(.sc (.int .i64)),(.sc (.int .i64))]),none⟩,
⟨some 6,.mov (.t 8),none⟩,
⟨some 9,.ext 0 (.t 6),none⟩,
⟨some 10,.ext 1 (.t 6),none⟩,
⟨some 3,.mov (.t 9),none⟩,
⟨some 4,.mov (.t 10),none⟩] [0,3,4]) (.seq (.seq (.reg [⟨some 11,.mov (.t 4),none⟩,
⟨some 12,.cmp .neq (.t 11) (.c (Go.Value.int Go.IntKind.i64 0)),none⟩] [0,3,4,12]) (.cond (.t 12) (.seq (.reg [⟨some 13,.mov (.t 4),none⟩,
⟨some 1,.mov (.c (Go.Value.int Go.IntKind.i64 0)),none⟩,
⟨some 2,.mov (.t 13),none⟩] [1,2]) .ret) .skip)) (.seq (.reg [⟨some 15,.ld (.sc .ptr) (.t 0),none⟩,
⟨some 16,.mov (.t 3),none⟩,
⟨some 17,.call 89 [(.t 15),(.t 16)] (.tup [(.sc (.int .i64)),(.sc (.int .i64))]),none⟩,
⟨some 14,.mov (.t 17),none⟩,
⟨some 18,.ext 0 (.t 14),none⟩,
⟨some 19,.ext 1 (.t 14),none⟩,
⟨some 5,.mov (.t 18),none⟩,
⟨some 4,.mov (.t 19),none⟩] [3,4,5]) (.seq (.reg [⟨some 20,.mov (.t 3),none⟩,
⟨some 21,.cnv .u64 (.t 20),none⟩,
⟨some 22,.bin .shl .i64 (.c (Go.Value.int Go.IntKind.i64 1)) (.t 21),none⟩,
⟨some 23,.mov (.t 5),none⟩,
⟨some 24,.bin .or .i64 (.t 22) (.t 23),none⟩,
⟨some 25,.mov (.t 4),none⟩,
⟨some 1,.mov (.t 24),none⟩,
⟨some 2,.mov (.t 25),none⟩] [1,2]) .ret)))))⟩
def bitio_Reader_Gamma_1_ca {R:Type} (f:bitio_Reader_Gamma_1_t R) (args:List Value) (H:Heap) (K:Value → Heap → Option R):Option R :=
  match args with
  | [.pointer p969] => f p969 H (fun n1656 n1657 H => K (.tuple ⟨[.int .i64 n1656,.int .i64 n1657]⟩) H)
  | _ => none
def bitio_Reader_Gamma_1_c (R:Type) (k:Nat) (args:List Value) (H:Heap) (K:Value → Heap → Option R):Option R:=bitio_Reader_Gamma_1_ca (bitio_Reader_Gamma_1 k) args H K
theorem bitio_Reader_Gamma_1_e {R:Type} (bitio_Reader_count:bitio_Reader_count_t R) (bitio_Reader_bits:bitio_Reader_bits_t R) (k:Nat) (p969:Oa) (H:Heap) (K:Value → Heap → Option R):evF (bitio_Reader_Gamma_1_Ct bitio_Reader_count bitio_Reader_bits) (bitio_Reader_Gamma_1_Jt k) bitio_Reader_Gamma_1_f [.pointer p969] H K = bitio_Reader_Gamma_1_b bitio_Reader_count bitio_Reader_bits k p969 H (fun n1656 n1657 H => K (.tuple ⟨[.int .i64 n1656,.int .i64 n1657]⟩) H):=by kernel_rfl
theorem bitio_Reader_Gamma_1_cs (R:Type) (k:Nat):∀ args H K r,bitio_Reader_Gamma_1_c R k args H K = some r → ∃ v H',Tri Try.prog 87 args H v H' ∧ K v H' = some r:=by
  intro args H K r h
  unfold bitio_Reader_Gamma_1_c bitio_Reader_Gamma_1_ca at h
  split at h
  · exact evF_ok (C:=bitio_Reader_Gamma_1_C R k) (an:=An) (t:=bitio_Reader_Gamma_1_at) (fn:=Try.f87) (c:=(Try.f87.body.getD .skip)) (ifn:=bitio_Reader_Gamma_1_f) (bitio_Reader_Gamma_1_S R k) (bitio_Reader_Gamma_1_J R k) Try.func87 (by kernel_rfl) (by kernel_rfl) (And.intro True.intro (And.intro True.intro (And.intro (And.intro True.intro (And.intro (And.intro True.intro True.intro) True.intro)) (And.intro True.intro (And.intro True.intro True.intro))))) rfl (Eq.trans (bitio_Reader_Gamma_1_e (bitio_Reader_count k) (bitio_Reader_bits k) k _ H K) h)
  · cases h
abbrev bitio_Reader_whole_v87_t (R:Type):Type:=Oa → Oa → Heap → (Int → Int → Heap → Option R) → Option R
def bitio_Reader_whole_v87_b {R:Type} (bitio_Reader_Gamma_1:bitio_Reader_Gamma_1_t R) (k:Nat) (p961:Oa) (p962:Oa) (H:Heap) (K:Int → Int → Heap → Option R):Option R :=
hnil p961 fun p963 =>
hfad 2 p963 fun p964 =>
ldI .i64 H p964 fun n965 =>
hnil p961 fun p966 =>
hfad 3 p966 fun p967 =>
ldI .i64 H p967 fun n968 =>
bitio_Reader_Gamma_1 p962 H fun n969 n970 H971 =>
bif (n970 != 0) then (hnil p961 fun p972 =>
hfad 2 p972 fun p973 =>
hst1 H971 p973 (.int .i64 n965) fun H974 =>
hnil p961 fun p975 =>
hfad 3 p975 fun p976 =>
hst1 H974 p976 (.int .i64 n968) fun H977 =>
K 0 n970 H977)
 else (K n969 0 H971)
def bitio_Reader_whole_v87 {R:Type} (k:Nat) (p961:Oa) (p962:Oa) (H:Heap) (K:Int → Int → Heap → Option R):Option R:=bitio_Reader_whole_v87_b (bitio_Reader_Gamma_1 k) k p961 p962 H K
def bitio_Reader_whole_v87_Ct {R:Type} (bitio_Reader_Gamma_1:bitio_Reader_Gamma_1_t R):Tab R:=tcons 87 (bitio_Reader_Gamma_1_ca bitio_Reader_Gamma_1) <| fun _ _ _ _ => none
def bitio_Reader_whole_v87_C (R:Type) (k:Nat):Tab R:=bitio_Reader_whole_v87_Ct (bitio_Reader_Gamma_1 k)
theorem bitio_Reader_whole_v87_S (R:Type) (k:Nat):CSound Try.prog (bitio_Reader_whole_v87_C R k):=csound_cons (bitio_Reader_Gamma_1_cs R k) <| csound_nil
def bitio_Reader_whole_v87_Jt {R:Type} (k:Nat):JTab R:=fun _ _ _ _ => none
def bitio_Reader_whole_v87_J (R:Type) (k:Nat):JTab R:=bitio_Reader_whole_v87_Jt k
def bitio_Reader_whole_v87_at:AT:=(.seq (.reg [0,1] []) (.seq (.reg [0,1,6,7] [[],[0],[0,1],[0,1,2],[],[4],[4,5],[4,5,6],[0,1,2,3],[0,1,2,3,4,5,6,7,8]]) (.seq (.reg [0,6,7,8,9] []) (.seq (.seq (.reg [0,6,7,8,9,24] []) (.cond (.seq (.reg [9] []) (.seq (.reg [4,5] []) .leaf)) .leaf)) (.seq (.reg [4,5] []) .leaf)))))
def bitio_Reader_whole_v87_f:IFn:=⟨35,[.t 4,.t 5],(.seq (.reg [⟨some 4,.mov (.c (Go.Value.int Go.IntKind.i64 0)),none⟩,
⟨some 5,.mov (.c (Go.Value.int Go.IntKind.i64 0)),none⟩] [0,1]) (.seq (.reg [⟨some 10,.mov (.t 0),none⟩,
⟨some 11,.nilc (.t 10),none⟩,
⟨some 12,.fad 2 (.t 11),none⟩,
⟨some 13,.ld (.sc (.int .i64)) (.t 12),none⟩,
⟨some 14,.mov (.t 0),none⟩,
⟨some 15,.nilc (.t 14),none⟩,
⟨some 16,.fad 3 (.t 15),none⟩,
⟨some 17,.ld (.sc (.int .i64)) (.t 16),none⟩,
⟨some 6,.mov (.t 13),none⟩,
⟨some 7,.mov (.t 17),none⟩] [0,1,6,7]) (.seq (.reg [⟨some 19,.mov (.t 1),none⟩,
⟨some 20,.calv (.t 19) [] (.tup [(.sc (.int .i64)),(.sc (.int .i64))]),none⟩,
⟨some 18,.mov (.t 20),none⟩,
⟨some 21,.ext 0 (.t 18),none⟩,
⟨some 22,.ext 1 (.t 18),none⟩,
⟨some 8,.mov (.t 21),none⟩,
⟨some 9,.mov (.t 22),none⟩] [0,6,7,8,9]) (.seq (.seq (.reg [⟨some 23,.mov (.t 9),none⟩,
⟨some 24,.cmp .neq (.t 23) (.c (Go.Value.int Go.IntKind.i64 0)),none⟩] [0,6,7,8,9,24]) (.cond (.t 24) (.seq (.reg [⟨some 25,.mov (.t 0),none⟩,
⟨some 26,.mov (.t 0),none⟩,
⟨some 27,.mov (.t 6),none⟩,
⟨some 28,.mov (.t 7),none⟩,
⟨some 29,.nilc (.t 25),none⟩,
⟨some 30,.fad 2 (.t 29),none⟩,
⟨none,.st 1 (.t 30) (.t 27),none⟩,
⟨some 31,.nilc (.t 26),none⟩,
⟨some 32,.fad 3 (.t 31),none⟩,
⟨none,.st 1 (.t 32) (.t 28),none⟩] [9]) (.seq (.reg [⟨some 33,.mov (.t 9),none⟩,
⟨some 4,.mov (.c (Go.Value.int Go.IntKind.i64 0)),none⟩,
⟨some 5,.mov (.t 33),none⟩] [4,5]) .ret)) .skip)) (.seq (.reg [⟨some 34,.mov (.t 8),none⟩,
⟨some 4,.mov (.t 34),none⟩,
⟨some 5,.mov (.c (Go.Value.int Go.IntKind.i64 0)),none⟩] [4,5]) .ret)))))⟩
def bitio_Reader_whole_v87_ca {R:Type} (f:bitio_Reader_whole_v87_t R) (args:List Value) (H:Heap) (K:Value → Heap → Option R):Option R :=
  match args with
  | [.pointer p961,.func (.func 87) ⟨[]⟩ ⟨[.pointer p962]⟩] => f p961 p962 H (fun n1658 n1659 H => K (.tuple ⟨[.int .i64 n1658,.int .i64 n1659]⟩) H)
  | _ => none
def bitio_Reader_whole_v87_c (R:Type) (k:Nat) (args:List Value) (H:Heap) (K:Value → Heap → Option R):Option R:=bitio_Reader_whole_v87_ca (bitio_Reader_whole_v87 k) args H K
theorem bitio_Reader_whole_v87_e {R:Type} (bitio_Reader_Gamma_1:bitio_Reader_Gamma_1_t R) (k:Nat) (p961:Oa) (p962:Oa) (H:Heap) (K:Value → Heap → Option R):evF (bitio_Reader_whole_v87_Ct bitio_Reader_Gamma_1) (bitio_Reader_whole_v87_Jt k) bitio_Reader_whole_v87_f [.pointer p961,.func (.func 87) ⟨[]⟩ ⟨[.pointer p962]⟩] H K = bitio_Reader_whole_v87_b bitio_Reader_Gamma_1 k p961 p962 H (fun n1658 n1659 H => K (.tuple ⟨[.int .i64 n1658,.int .i64 n1659]⟩) H):=by kernel_rfl
theorem bitio_Reader_whole_v87_cs (R:Type) (k:Nat):∀ args H K r,bitio_Reader_whole_v87_c R k args H K = some r → ∃ v H',Tri Try.prog 86 args H v H' ∧ K v H' = some r:=by
  intro args H K r h
  unfold bitio_Reader_whole_v87_c bitio_Reader_whole_v87_ca at h
  split at h
  · exact evF_ok (C:=bitio_Reader_whole_v87_C R k) (an:=An) (t:=bitio_Reader_whole_v87_at) (fn:=Try.f86) (c:=(Try.f86.body.getD .skip)) (ifn:=bitio_Reader_whole_v87_f) (bitio_Reader_whole_v87_S R k) (bitio_Reader_whole_v87_J R k) Try.func86 (by kernel_rfl) (by kernel_rfl) (And.intro True.intro (And.intro True.intro (And.intro True.intro (And.intro (And.intro True.intro (And.intro (And.intro True.intro (And.intro True.intro True.intro)) True.intro)) (And.intro True.intro True.intro))))) rfl (Eq.trans (bitio_Reader_whole_v87_e (bitio_Reader_Gamma_1 k) k _ _ H K) h)
  · cases h
abbrev bitio_Reader_Gamma_t (R:Type):Type:=Oa → Heap → (Int → Int → Heap → Option R) → Option R
def bitio_Reader_Gamma_b {R:Type} (bitio_Reader_ok:bitio_Reader_ok_t R) (bitio_Reader_whole_v87:bitio_Reader_whole_v87_t R) (k:Nat) (p955:Oa) (H:Heap) (K:Int → Int → Heap → Option R):Option R :=
hal H [.pointer p955] fun p956 H957 =>
ldP H957 p956 fun p958 =>
bitio_Reader_ok p958 H957 fun t959 =>
bif (!t959) then (K 0 6 H957)
 else (ldP H957 p956 fun p960 =>
bitio_Reader_whole_v87 p960 p956 H957 fun n961 n962 H963 =>
K n961 n962 H963)
def bitio_Reader_Gamma {R:Type} (k:Nat) (p955:Oa) (H:Heap) (K:Int → Int → Heap → Option R):Option R:=bitio_Reader_Gamma_b bitio_Reader_ok (bitio_Reader_whole_v87 k) k p955 H K
def bitio_Reader_Gamma_Ct {R:Type} (bitio_Reader_ok:bitio_Reader_ok_t R) (bitio_Reader_whole_v87:bitio_Reader_whole_v87_t R):Tab R:=tcons 66 (bitio_Reader_ok_ca bitio_Reader_ok) <| tcons 86 (bitio_Reader_whole_v87_ca bitio_Reader_whole_v87) <| fun _ _ _ _ => none
def bitio_Reader_Gamma_C (R:Type) (k:Nat):Tab R:=bitio_Reader_Gamma_Ct bitio_Reader_ok (bitio_Reader_whole_v87 k)
theorem bitio_Reader_Gamma_S (R:Type) (k:Nat):CSound Try.prog (bitio_Reader_Gamma_C R k):=csound_cons (bitio_Reader_ok_cs R k) <| csound_cons (bitio_Reader_whole_v87_cs R k) <| csound_nil
def bitio_Reader_Gamma_Jt {R:Type} (k:Nat):JTab R:=fun _ _ _ _ => none
def bitio_Reader_Gamma_J (R:Type) (k:Nat):JTab R:=bitio_Reader_Gamma_Jt k
def bitio_Reader_Gamma_at:AT:=(.seq (.reg [1] []) (.seq (.seq (.reg [1,6] []) (.cond (.seq (.reg [2,3] []) .leaf) .leaf)) (.seq (.reg [2,3] []) .leaf)))
def bitio_Reader_Gamma_f:IFn:=⟨12,[.t 2,.t 3],(.seq (.reg [⟨some 1,.box (.t 0),none⟩,
⟨some 2,.mov (.c (Go.Value.int Go.IntKind.i64 0)),none⟩,
⟨some 3,.mov (.c (Go.Value.int Go.IntKind.i64 0)),none⟩] [1]) (.seq (.seq (.reg [⟨some 4,.ld (.sc .ptr) (.t 1),none⟩,
⟨some 5,.call 66 [(.t 4)] (.one (.sc .bool)),none⟩,
⟨some 6,.lnot (.t 5),none⟩] [1,6]) (.cond (.t 6) (.seq (.reg [⟨some 2,.mov (.c (Go.Value.int Go.IntKind.i64 0)),none⟩,
⟨some 3,.mov (.c (Go.Value.int Go.IntKind.i64 6)),none⟩] [2,3]) .ret) .skip)) (.seq (.reg [⟨some 7,.ld (.sc .ptr) (.t 1),none⟩,
⟨some 8,.mkf 87 [(.t 1)],none⟩,
⟨some 9,.call 86 [(.t 7),(.t 8)] (.tup [(.sc (.int .i64)),(.sc (.int .i64))]),none⟩,
⟨some 10,.ext 0 (.t 9),none⟩,
⟨some 11,.ext 1 (.t 9),none⟩,
⟨some 2,.mov (.t 10),none⟩,
⟨some 3,.mov (.t 11),none⟩] [2,3]) .ret)))⟩
def bitio_Reader_Gamma_ca {R:Type} (f:bitio_Reader_Gamma_t R) (args:List Value) (H:Heap) (K:Value → Heap → Option R):Option R :=
  match args with
  | [.pointer p955] => f p955 H (fun n1660 n1661 H => K (.tuple ⟨[.int .i64 n1660,.int .i64 n1661]⟩) H)
  | _ => none
def bitio_Reader_Gamma_c (R:Type) (k:Nat) (args:List Value) (H:Heap) (K:Value → Heap → Option R):Option R:=bitio_Reader_Gamma_ca (bitio_Reader_Gamma k) args H K
theorem bitio_Reader_Gamma_e {R:Type} (bitio_Reader_ok:bitio_Reader_ok_t R) (bitio_Reader_whole_v87:bitio_Reader_whole_v87_t R) (k:Nat) (p955:Oa) (H:Heap) (K:Value → Heap → Option R):evF (bitio_Reader_Gamma_Ct bitio_Reader_ok bitio_Reader_whole_v87) (bitio_Reader_Gamma_Jt k) bitio_Reader_Gamma_f [.pointer p955] H K = bitio_Reader_Gamma_b bitio_Reader_ok bitio_Reader_whole_v87 k p955 H (fun n1660 n1661 H => K (.tuple ⟨[.int .i64 n1660,.int .i64 n1661]⟩) H):=by kernel_rfl
theorem bitio_Reader_Gamma_cs (R:Type) (k:Nat):∀ args H K r,bitio_Reader_Gamma_c R k args H K = some r → ∃ v H',Tri Try.prog 70 args H v H' ∧ K v H' = some r:=by
  intro args H K r h
  unfold bitio_Reader_Gamma_c bitio_Reader_Gamma_ca at h
  split at h
  · exact evF_ok (C:=bitio_Reader_Gamma_C R k) (an:=An) (t:=bitio_Reader_Gamma_at) (fn:=Try.f70) (c:=(Try.f70.body.getD .skip)) (ifn:=bitio_Reader_Gamma_f) (bitio_Reader_Gamma_S R k) (bitio_Reader_Gamma_J R k) Try.func70 (by kernel_rfl) (by kernel_rfl) (And.intro True.intro (And.intro (And.intro True.intro (And.intro (And.intro True.intro True.intro) True.intro)) (And.intro True.intro True.intro))) rfl (Eq.trans (bitio_Reader_Gamma_e bitio_Reader_ok (bitio_Reader_whole_v87 k) k _ H K) h)
  · cases h
abbrev bitio_Reader_Unary_1_t (R:Type):Type:=Oa → Oa → Heap → (Int → Int → Heap → Option R) → Option R
def bitio_Reader_Unary_1_b {R:Type} (bitio_Reader_count:bitio_Reader_count_t R) (k:Nat) (p1027:Oa) (p1028:Oa) (H:Heap) (K:Int → Int → Heap → Option R):Option R :=
ldP H p1027 fun p1029 =>
ldI .i64 H p1028 fun n1030 =>
bitio_Reader_count p1029 1 (IntKind.wrap .i64 (n1030 + 1)) H fun n1031 n1032 H1033 =>
K n1031 n1032 H1033
def bitio_Reader_Unary_1 {R:Type} (k:Nat) (p1027:Oa) (p1028:Oa) (H:Heap) (K:Int → Int → Heap → Option R):Option R:=bitio_Reader_Unary_1_b (bitio_Reader_count k) k p1027 p1028 H K
def bitio_Reader_Unary_1_Ct {R:Type} (bitio_Reader_count:bitio_Reader_count_t R):Tab R:=tcons 88 (bitio_Reader_count_ca bitio_Reader_count) <| fun _ _ _ _ => none
def bitio_Reader_Unary_1_C (R:Type) (k:Nat):Tab R:=bitio_Reader_Unary_1_Ct (bitio_Reader_count k)
theorem bitio_Reader_Unary_1_S (R:Type) (k:Nat):CSound Try.prog (bitio_Reader_Unary_1_C R k):=csound_cons (bitio_Reader_count_cs R k) <| csound_nil
def bitio_Reader_Unary_1_Jt {R:Type} (k:Nat):JTab R:=fun _ _ _ _ => none
def bitio_Reader_Unary_1_J (R:Type) (k:Nat):JTab R:=bitio_Reader_Unary_1_Jt k
def bitio_Reader_Unary_1_at:AT:=(.seq (.reg [0,1] []) (.seq (.reg [2,3] []) .leaf))
def bitio_Reader_Unary_1_f:IFn:=⟨10,[.t 2,.t 3],(.seq (.reg [⟨some 2,.mov (.c (Go.Value.int Go.IntKind.i64 0)),none⟩,
⟨some 3,.mov (.c (Go.Value.int Go.IntKind.i64 0)),none⟩] [0,1]) (.seq (.reg [⟨some 4,.ld (.sc .ptr) (.t 0),none⟩,
⟨some 5,.ld (.sc (.int .i64)) (.t 1),none⟩,
⟨some 6,.bin .add .i64 (.t 5) (.c (Go.Value.int Go.IntKind.i64 1)),none⟩,
⟨some 7,.call 88 [(.t 4),(.c (Go.Value.int Go.IntKind.i64 1)),(.t 6)] (.tup [(.sc (.int .i64)),(.sc (.int .i64))]),none⟩,
⟨some 8,.ext 0 (.t 7),none⟩,
⟨some 9,.ext 1 (.t 7),none⟩,
⟨some 2,.mov (.t 8),none⟩,
⟨some 3,.mov (.t 9),none⟩] [2,3]) .ret))⟩
def bitio_Reader_Unary_1_ca {R:Type} (f:bitio_Reader_Unary_1_t R) (args:List Value) (H:Heap) (K:Value → Heap → Option R):Option R :=
  match args with
  | [.pointer p1027,.pointer p1028] => f p1027 p1028 H (fun n1662 n1663 H => K (.tuple ⟨[.int .i64 n1662,.int .i64 n1663]⟩) H)
  | _ => none
def bitio_Reader_Unary_1_c (R:Type) (k:Nat) (args:List Value) (H:Heap) (K:Value → Heap → Option R):Option R:=bitio_Reader_Unary_1_ca (bitio_Reader_Unary_1 k) args H K
theorem bitio_Reader_Unary_1_e {R:Type} (bitio_Reader_count:bitio_Reader_count_t R) (k:Nat) (p1027:Oa) (p1028:Oa) (H:Heap) (K:Value → Heap → Option R):evF (bitio_Reader_Unary_1_Ct bitio_Reader_count) (bitio_Reader_Unary_1_Jt k) bitio_Reader_Unary_1_f [.pointer p1027,.pointer p1028] H K = bitio_Reader_Unary_1_b bitio_Reader_count k p1027 p1028 H (fun n1662 n1663 H => K (.tuple ⟨[.int .i64 n1662,.int .i64 n1663]⟩) H):=by kernel_rfl
theorem bitio_Reader_Unary_1_cs (R:Type) (k:Nat):∀ args H K r,bitio_Reader_Unary_1_c R k args H K = some r → ∃ v H',Tri Try.prog 90 args H v H' ∧ K v H' = some r:=by
  intro args H K r h
  unfold bitio_Reader_Unary_1_c bitio_Reader_Unary_1_ca at h
  split at h
  · exact evF_ok (C:=bitio_Reader_Unary_1_C R k) (an:=An) (t:=bitio_Reader_Unary_1_at) (fn:=Try.f90) (c:=(Try.f90.body.getD .skip)) (ifn:=bitio_Reader_Unary_1_f) (bitio_Reader_Unary_1_S R k) (bitio_Reader_Unary_1_J R k) Try.func90 (by kernel_rfl) (by kernel_rfl) (And.intro True.intro (And.intro True.intro True.intro)) rfl (Eq.trans (bitio_Reader_Unary_1_e (bitio_Reader_count k) k _ _ H K) h)
  · cases h
abbrev bitio_Reader_whole_v90_t (R:Type):Type:=Oa → Oa → Oa → Heap → (Int → Int → Heap → Option R) → Option R
def bitio_Reader_whole_v90_b {R:Type} (bitio_Reader_Unary_1:bitio_Reader_Unary_1_t R) (k:Nat) (p1018:Oa) (p1019:Oa) (p1020:Oa) (H:Heap) (K:Int → Int → Heap → Option R):Option R :=
hnil p1018 fun p1021 =>
hfad 2 p1021 fun p1022 =>
ldI .i64 H p1022 fun n1023 =>
hnil p1018 fun p1024 =>
hfad 3 p1024 fun p1025 =>
ldI .i64 H p1025 fun n1026 =>
bitio_Reader_Unary_1 p1019 p1020 H fun n1027 n1028 H1029 =>
bif (n1028 != 0) then (hnil p1018 fun p1030 =>
hfad 2 p1030 fun p1031 =>
hst1 H1029 p1031 (.int .i64 n1023) fun H1032 =>
hnil p1018 fun p1033 =>
hfad 3 p1033 fun p1034 =>
hst1 H1032 p1034 (.int .i64 n1026) fun H1035 =>
K 0 n1028 H1035)
 else (K n1027 0 H1029)
def bitio_Reader_whole_v90 {R:Type} (k:Nat) (p1018:Oa) (p1019:Oa) (p1020:Oa) (H:Heap) (K:Int → Int → Heap → Option R):Option R:=bitio_Reader_whole_v90_b (bitio_Reader_Unary_1 k) k p1018 p1019 p1020 H K
def bitio_Reader_whole_v90_Ct {R:Type} (bitio_Reader_Unary_1:bitio_Reader_Unary_1_t R):Tab R:=tcons 90 (bitio_Reader_Unary_1_ca bitio_Reader_Unary_1) <| fun _ _ _ _ => none
def bitio_Reader_whole_v90_C (R:Type) (k:Nat):Tab R:=bitio_Reader_whole_v90_Ct (bitio_Reader_Unary_1 k)
theorem bitio_Reader_whole_v90_S (R:Type) (k:Nat):CSound Try.prog (bitio_Reader_whole_v90_C R k):=csound_cons (bitio_Reader_Unary_1_cs R k) <| csound_nil
def bitio_Reader_whole_v90_Jt {R:Type} (k:Nat):JTab R:=fun _ _ _ _ => none
def bitio_Reader_whole_v90_J (R:Type) (k:Nat):JTab R:=bitio_Reader_whole_v90_Jt k
def bitio_Reader_whole_v90_at:AT:=(.seq (.reg [0,1] []) (.seq (.reg [0,1,6,7] [[],[0],[0,1],[0,1,2],[],[4],[4,5],[4,5,6],[0,1,2,3],[0,1,2,3,4,5,6,7,8]]) (.seq (.reg [0,6,7,8,9] []) (.seq (.seq (.reg [0,6,7,8,9,24] []) (.cond (.seq (.reg [9] []) (.seq (.reg [4,5] []) .leaf)) .leaf)) (.seq (.reg [4,5] []) .leaf)))))
def bitio_Reader_whole_v90_f:IFn:=⟨35,[.t 4,.t 5],(.seq (.reg [⟨some 4,.mov (.c (Go.Value.int Go.IntKind.i64 0)),none⟩,
⟨some 5,.mov (.c (Go.Value.int Go.IntKind.i64 0)),none⟩] [0,1]) (.seq (.reg [⟨some 10,.mov (.t 0),none⟩,
⟨some 11,.nilc (.t 10),none⟩,
⟨some 12,.fad 2 (.t 11),none⟩,
⟨some 13,.ld (.sc (.int .i64)) (.t 12),none⟩,
⟨some 14,.mov (.t 0),none⟩,
⟨some 15,.nilc (.t 14),none⟩,
⟨some 16,.fad 3 (.t 15),none⟩,
⟨some 17,.ld (.sc (.int .i64)) (.t 16),none⟩,
⟨some 6,.mov (.t 13),none⟩,
⟨some 7,.mov (.t 17),none⟩] [0,1,6,7]) (.seq (.reg [⟨some 19,.mov (.t 1),none⟩,
⟨some 20,.calv (.t 19) [] (.tup [(.sc (.int .i64)),(.sc (.int .i64))]),none⟩,
⟨some 18,.mov (.t 20),none⟩,
⟨some 21,.ext 0 (.t 18),none⟩,
⟨some 22,.ext 1 (.t 18),none⟩,
⟨some 8,.mov (.t 21),none⟩,
⟨some 9,.mov (.t 22),none⟩] [0,6,7,8,9]) (.seq (.seq (.reg [⟨some 23,.mov (.t 9),none⟩,
⟨some 24,.cmp .neq (.t 23) (.c (Go.Value.int Go.IntKind.i64 0)),none⟩] [0,6,7,8,9,24]) (.cond (.t 24) (.seq (.reg [⟨some 25,.mov (.t 0),none⟩,
⟨some 26,.mov (.t 0),none⟩,
⟨some 27,.mov (.t 6),none⟩,
⟨some 28,.mov (.t 7),none⟩,
⟨some 29,.nilc (.t 25),none⟩,
⟨some 30,.fad 2 (.t 29),none⟩,
⟨none,.st 1 (.t 30) (.t 27),none⟩,
⟨some 31,.nilc (.t 26),none⟩,
⟨some 32,.fad 3 (.t 31),none⟩,
⟨none,.st 1 (.t 32) (.t 28),none⟩] [9]) (.seq (.reg [⟨some 33,.mov (.t 9),none⟩,
⟨some 4,.mov (.c (Go.Value.int Go.IntKind.i64 0)),none⟩,
⟨some 5,.mov (.t 33),none⟩] [4,5]) .ret)) .skip)) (.seq (.reg [⟨some 34,.mov (.t 8),none⟩,
⟨some 4,.mov (.t 34),none⟩,
⟨some 5,.mov (.c (Go.Value.int Go.IntKind.i64 0)),none⟩] [4,5]) .ret)))))⟩
def bitio_Reader_whole_v90_ca {R:Type} (f:bitio_Reader_whole_v90_t R) (args:List Value) (H:Heap) (K:Value → Heap → Option R):Option R :=
  match args with
  | [.pointer p1018,.func (.func 90) ⟨[]⟩ ⟨[.pointer p1019,.pointer p1020]⟩] => f p1018 p1019 p1020 H (fun n1664 n1665 H => K (.tuple ⟨[.int .i64 n1664,.int .i64 n1665]⟩) H)
  | _ => none
def bitio_Reader_whole_v90_c (R:Type) (k:Nat) (args:List Value) (H:Heap) (K:Value → Heap → Option R):Option R:=bitio_Reader_whole_v90_ca (bitio_Reader_whole_v90 k) args H K
theorem bitio_Reader_whole_v90_e {R:Type} (bitio_Reader_Unary_1:bitio_Reader_Unary_1_t R) (k:Nat) (p1018:Oa) (p1019:Oa) (p1020:Oa) (H:Heap) (K:Value → Heap → Option R):evF (bitio_Reader_whole_v90_Ct bitio_Reader_Unary_1) (bitio_Reader_whole_v90_Jt k) bitio_Reader_whole_v90_f [.pointer p1018,.func (.func 90) ⟨[]⟩ ⟨[.pointer p1019,.pointer p1020]⟩] H K = bitio_Reader_whole_v90_b bitio_Reader_Unary_1 k p1018 p1019 p1020 H (fun n1664 n1665 H => K (.tuple ⟨[.int .i64 n1664,.int .i64 n1665]⟩) H):=by kernel_rfl
theorem bitio_Reader_whole_v90_cs (R:Type) (k:Nat):∀ args H K r,bitio_Reader_whole_v90_c R k args H K = some r → ∃ v H',Tri Try.prog 86 args H v H' ∧ K v H' = some r:=by
  intro args H K r h
  unfold bitio_Reader_whole_v90_c bitio_Reader_whole_v90_ca at h
  split at h
  · exact evF_ok (C:=bitio_Reader_whole_v90_C R k) (an:=An) (t:=bitio_Reader_whole_v90_at) (fn:=Try.f86) (c:=(Try.f86.body.getD .skip)) (ifn:=bitio_Reader_whole_v90_f) (bitio_Reader_whole_v90_S R k) (bitio_Reader_whole_v90_J R k) Try.func86 (by kernel_rfl) (by kernel_rfl) (And.intro True.intro (And.intro True.intro (And.intro True.intro (And.intro (And.intro True.intro (And.intro (And.intro True.intro (And.intro True.intro True.intro)) True.intro)) (And.intro True.intro True.intro))))) rfl (Eq.trans (bitio_Reader_whole_v90_e (bitio_Reader_Unary_1 k) k _ _ _ H K) h)
  · cases h
abbrev bitio_Reader_Unary_p0_t (R:Type):Type:=Oa → Oa → Heap → (Oa → Oa → Option R) → (Int → Int → Option R) → Option R
def bitio_Reader_Unary_p0_b {R:Type} (k:Nat) (p1007:Oa) (p1008:Oa) (H:Heap) (KN:Oa → Oa → Option R) (KR:Int → Int → Option R):Option R :=
ldI .i64 H p1008 fun n1009 =>
bif decide (n1009 < 0) then (KR 0 1)
 else (ldI .i64 H p1008 fun n1010 =>
bif decide (n1010 > 65535) then (KR 0 1)
 else (KN p1007 p1008))
def bitio_Reader_Unary_p0 {R:Type} (k:Nat) (p1007:Oa) (p1008:Oa) (H:Heap) (KN:Oa → Oa → Option R) (KR:Int → Int → Option R):Option R:=bitio_Reader_Unary_p0_b k p1007 p1008 H KN KR
abbrev bitio_Reader_Unary_t (R:Type):Type:=Oa → Int → Heap → (Int → Int → Heap → Option R) → Option R
def bitio_Reader_Unary_b {R:Type} (bitio_Reader_ok:bitio_Reader_ok_t R) (bitio_Reader_Unary_p0:bitio_Reader_Unary_p0_t R) (bitio_Reader_whole_v90:bitio_Reader_whole_v90_t R) (k:Nat) (p999:Oa) (n1000:Int) (H:Heap) (K:Int → Int → Heap → Option R):Option R :=
hal H [.pointer p999] fun p1001 H1002 =>
hal H1002 [.int .i64 n1000] fun p1003 H1004 =>
ldP H1004 p1001 fun p1005 =>
bitio_Reader_ok p1005 H1004 fun t1006 =>
bif (!t1006) then (K 0 6 H1004)
 else (bitio_Reader_Unary_p0 p1001 p1003 H1004 (fun p1015 p1016 =>
ldP H1004 p1015 fun p1017 =>
bitio_Reader_whole_v90 p1017 p1015 p1016 H1004 fun n1018 n1019 H1020 =>
K n1018 n1019 H1020) (fun n1021 n1022 =>
K n1021 n1022 H1004))
def bitio_Reader_Unary {R:Type} (k:Nat) (p999:Oa) (n1000:Int) (H:Heap) (K:Int → Int → Heap → Option R):Option R:=bitio_Reader_Unary_b bitio_Reader_ok (bitio_Reader_Unary_p0 k) (bitio_Reader_whole_v90 k) k p999 n1000 H K
def bitio_Reader_Unary_Ct {R:Type} (bitio_Reader_ok:bitio_Reader_ok_t R) (bitio_Reader_whole_v90:bitio_Reader_whole_v90_t R):Tab R:=tcons 66 (bitio_Reader_ok_ca bitio_Reader_ok) <| tcons 86 (bitio_Reader_whole_v90_ca bitio_Reader_whole_v90) <| fun _ _ _ _ => none
def bitio_Reader_Unary_C (R:Type) (k:Nat):Tab R:=bitio_Reader_Unary_Ct bitio_Reader_ok (bitio_Reader_whole_v90 k)
theorem bitio_Reader_Unary_S (R:Type) (k:Nat):CSound Try.prog (bitio_Reader_Unary_C R k):=csound_cons (bitio_Reader_ok_cs R k) <| csound_cons (bitio_Reader_whole_v90_cs R k) <| csound_nil
def bitio_Reader_Unary_aa0 {R:Type} (f:bitio_Reader_Unary_p0_t R) (n:Nat) (vals:List Value) (H:Heap) (K:Xit → Env → Heap → Option R):Option R :=
  match vals with
  | [.pointer p1007,.pointer p1008] => f p1007 p1008 H (fun p1666 p1667 => K .normal [(2,.pointer p1666),(3,.pointer p1667)] H) (fun n1668 n1669 => K .ret [(4,.int .i64 n1668),(5,.int .i64 n1669)] H)
  | _ => none
def bitio_Reader_Unary_a0 (R:Type) (k n:Nat) (vals:List Value) (H:Heap) (K:Xit → Env → Heap → Option R):Option R:=bitio_Reader_Unary_aa0 (bitio_Reader_Unary_p0 k) n vals H K
def bitio_Reader_Unary_Jt {R:Type} (k:Nat) (bitio_Reader_Unary_p0:bitio_Reader_Unary_p0_t R):JTab R:=tcons 0 (bitio_Reader_Unary_aa0 bitio_Reader_Unary_p0 k) <| fun _ _ _ _ => none
def bitio_Reader_Unary_J (R:Type) (k:Nat):JTab R:=bitio_Reader_Unary_Jt k (bitio_Reader_Unary_p0 k)
def bitio_Reader_Unary_at:AT:=(.seq (.reg [2,3] []) (.seq (.seq (.reg [2,3,8] []) (.cond (.seq (.reg [4,5] []) .leaf) .leaf)) (.seq (.opq 0 [2,3] ⟨[2,3],[],[4,5]⟩ (.seq (.reg [2,3,14] []) (.cond (.seq (.reg [4,5] []) .leaf) .leaf))) (.seq (.reg [4,5] []) .leaf))))
def bitio_Reader_Unary_i0:IC:=(.seq (.reg [⟨some 9,.ld (.sc (.int .i64)) (.t 3),none⟩,
⟨some 10,.cmp .lss (.t 9) (.c (Go.Value.int Go.IntKind.i64 0)),none⟩,
⟨some 11,.mov (.t 10),none⟩,
⟨some 12,.ld (.sc (.int .i64)) (.t 3),some (11,false)⟩,
⟨some 13,.cmp .gtr (.t 12) (.c (Go.Value.int Go.IntKind.i64 65535)),some (11,false)⟩,
⟨some 14,.pick (.t 11) (.c (Go.Value.bool true)) (.t 13),none⟩] [2,3,14]) (.cond (.t 14) (.seq (.reg [⟨some 4,.mov (.c (Go.Value.int Go.IntKind.i64 0)),none⟩,
⟨some 5,.mov (.c (Go.Value.int Go.IntKind.i64 1)),none⟩] [4,5]) .ret) .skip))
def bitio_Reader_Unary_f:IFn:=⟨20,[.t 4,.t 5],(.seq (.reg [⟨some 2,.box (.t 0),none⟩,
⟨some 3,.box (.t 1),none⟩,
⟨some 4,.mov (.c (Go.Value.int Go.IntKind.i64 0)),none⟩,
⟨some 5,.mov (.c (Go.Value.int Go.IntKind.i64 0)),none⟩] [2,3]) (.seq (.seq (.reg [⟨some 6,.ld (.sc .ptr) (.t 2),none⟩,
⟨some 7,.call 66 [(.t 6)] (.one (.sc .bool)),none⟩,
⟨some 8,.lnot (.t 7),none⟩] [2,3,8]) (.cond (.t 8) (.seq (.reg [⟨some 4,.mov (.c (Go.Value.int Go.IntKind.i64 0)),none⟩,
⟨some 5,.mov (.c (Go.Value.int Go.IntKind.i64 6)),none⟩] [4,5]) .ret) .skip)) (.seq (.opq 0 [2,3] bitio_Reader_Unary_i0) (.seq (.reg [⟨some 15,.ld (.sc .ptr) (.t 2),none⟩,
⟨some 16,.mkf 90 [(.t 2),(.t 3)],none⟩,
⟨some 17,.call 86 [(.t 15),(.t 16)] (.tup [(.sc (.int .i64)),(.sc (.int .i64))]),none⟩,
⟨some 18,.ext 0 (.t 17),none⟩,
⟨some 19,.ext 1 (.t 17),none⟩,
⟨some 4,.mov (.t 18),none⟩,
⟨some 5,.mov (.t 19),none⟩] [4,5]) .ret))))⟩
theorem bitio_Reader_Unary_e0 {R:Type} (bitio_Reader_ok:bitio_Reader_ok_t R) (bitio_Reader_whole_v90:bitio_Reader_whole_v90_t R) (bitio_Reader_Unary_p0:bitio_Reader_Unary_p0_t R) (k:Nat) (p1007:Oa) (p1008:Oa) (H:Heap) (K:Xit → Env → Heap → Option R):evJ (bitio_Reader_Unary_Ct bitio_Reader_ok bitio_Reader_whole_v90) (bitio_Reader_Unary_Jt k bitio_Reader_Unary_p0) bitio_Reader_Unary_i0 (List.zip [2,3] [.pointer p1007,.pointer p1008]) H (fun x e' H' => K x (clean e' ((⟨[2,3],[],[4,5]⟩:Out).of x)) H') = bitio_Reader_Unary_p0_b k p1007 p1008 H (fun p1666 p1667 => K .normal [(2,.pointer p1666),(3,.pointer p1667)] H) (fun n1668 n1669 => K .ret [(4,.int .i64 n1668),(5,.int .i64 n1669)] H):=by kernel_rfl
theorem bitio_Reader_Unary_j0 {R:Type} (k:Nat):JS Try.prog 20 (bitio_Reader_Unary_a0 R k k) [2,3] ⟨[2,3],[],[4,5]⟩ (sel [1,1,0] (Try.f71.body.getD .skip)) :=
  piece_ok (nt:=20) (c:=(sel [1,1,0] (Try.f71.body.getD .skip))) (C:=bitio_Reader_Unary_C R k) (an:=An) (t:=(.seq (.reg [2,3,14] []) (.cond (.seq (.reg [4,5] []) .leaf) .leaf))) (ic:=bitio_Reader_Unary_i0) (bitio_Reader_Unary_S R k) (bitio_Reader_Unary_J R k) (by kernel_rfl) (And.intro True.intro (And.intro (And.intro True.intro True.intro) True.intro)) (bitio_Reader_Unary_a0 R k k)
    (fun vals H K r h => by
      unfold bitio_Reader_Unary_a0 bitio_Reader_Unary_aa0 at h
      split at h <;> first | (cases h; done) | exact Eq.trans (bitio_Reader_Unary_e0 bitio_Reader_ok (bitio_Reader_whole_v90 k) (bitio_Reader_Unary_p0 k) k _ _ H K) h)
def bitio_Reader_Unary_ca {R:Type} (f:bitio_Reader_Unary_t R) (args:List Value) (H:Heap) (K:Value → Heap → Option R):Option R :=
  match args with
  | [.pointer p999,.int .i64 n1000] => f p999 n1000 H (fun n1670 n1671 H => K (.tuple ⟨[.int .i64 n1670,.int .i64 n1671]⟩) H)
  | _ => none
def bitio_Reader_Unary_c (R:Type) (k:Nat) (args:List Value) (H:Heap) (K:Value → Heap → Option R):Option R:=bitio_Reader_Unary_ca (bitio_Reader_Unary k) args H K
theorem bitio_Reader_Unary_e {R:Type} (bitio_Reader_ok:bitio_Reader_ok_t R) (bitio_Reader_whole_v90:bitio_Reader_whole_v90_t R) (bitio_Reader_Unary_p0:bitio_Reader_Unary_p0_t R) (k:Nat) (p999:Oa) (n1000:Int) (H:Heap) (K:Value → Heap → Option R):evF (bitio_Reader_Unary_Ct bitio_Reader_ok bitio_Reader_whole_v90) (bitio_Reader_Unary_Jt k bitio_Reader_Unary_p0) bitio_Reader_Unary_f [.pointer p999,.int .i64 n1000] H K = bitio_Reader_Unary_b bitio_Reader_ok bitio_Reader_Unary_p0 bitio_Reader_whole_v90 k p999 n1000 H (fun n1670 n1671 H => K (.tuple ⟨[.int .i64 n1670,.int .i64 n1671]⟩) H):=by kernel_rfl
theorem bitio_Reader_Unary_cs (R:Type) (k:Nat):∀ args H K r,bitio_Reader_Unary_c R k args H K = some r → ∃ v H',Tri Try.prog 71 args H v H' ∧ K v H' = some r:=by
  intro args H K r h
  unfold bitio_Reader_Unary_c bitio_Reader_Unary_ca at h
  split at h
  · exact evF_ok (C:=bitio_Reader_Unary_C R k) (an:=An) (t:=bitio_Reader_Unary_at) (fn:=Try.f71) (c:=(Try.f71.body.getD .skip)) (ifn:=bitio_Reader_Unary_f) (bitio_Reader_Unary_S R k) (bitio_Reader_Unary_J R k) Try.func71 (by kernel_rfl) (by kernel_rfl) (And.intro True.intro (And.intro (And.intro True.intro (And.intro (And.intro True.intro True.intro) True.intro)) (And.intro (bitio_Reader_Unary_j0 k) (And.intro True.intro True.intro)))) rfl (Eq.trans (bitio_Reader_Unary_e bitio_Reader_ok (bitio_Reader_whole_v90 k) (bitio_Reader_Unary_p0 k) k _ _ H K) h)
  · cases h
abbrev pkthead_State_lengths_1_t (R:Type):Type:=Int → Oa → Oa → Heap → (Heap → Option R) → Option R
def pkthead_State_lengths_1_b {R:Type} (k:Nat) (n1103:Int) (p1104:Oa) (p1105:Oa) (H:Heap) (K:Heap → Option R):Option R :=
hfad 2 p1104 fun p1106 =>
ldL H p1106 fun q1107 l1108 c1109 =>
hal H [.int .i64 n1103] fun p1110 H1111 =>
happS 1 8 H1111 q1107 l1108 c1109 p1110 1 fun q1112 l1113 c1114 H1115 =>
hfad 2 p1104 fun p1116 =>
hst1 H1115 p1116 (.slice q1112 l1113 c1114) fun H1117 =>
ldP H1117 p1105 fun p1118 =>
hnil p1118 fun p1119 =>
hfad 6 p1119 fun p1120 =>
ldI .i64 H1117 p1120 fun n1121 =>
hnil p1118 fun p1122 =>
hfad 6 p1122 fun p1123 =>
hst1 H1117 p1123 (.int .i64 (IntKind.wrap .i64 (n1121 + n1103))) fun H1124 =>
K H1124
def pkthead_State_lengths_1 {R:Type} (n1103:Int) (p1104:Oa) (p1105:Oa) (H:Heap) (K:Heap → Option R):Option R:=pkthead_State_lengths_1_b 0 n1103 p1104 p1105 H K
def pkthead_State_lengths_1_Ct {R:Type}:Tab R:=fun _ _ _ _ => none
def pkthead_State_lengths_1_C (R:Type) (k:Nat):Tab R:=pkthead_State_lengths_1_Ct
theorem pkthead_State_lengths_1_S (R:Type) (k:Nat):CSound Try.prog (pkthead_State_lengths_1_C R k):=csound_nil
def pkthead_State_lengths_1_Jt {R:Type} (k:Nat):JTab R:=fun _ _ _ _ => none
def pkthead_State_lengths_1_J (R:Type) (k:Nat):JTab R:=pkthead_State_lengths_1_Jt k
def pkthead_State_lengths_1_at:AT:=(.seq (.reg [0,2] []) (.reg [] []))
def pkthead_State_lengths_1_f:IFn:=⟨18,[],(.seq (.reg [⟨some 4,.fad 2 (.t 1),none⟩,
⟨some 5,.ld (.sc .slc) (.t 4),none⟩,
⟨some 6,.mov (.t 0),none⟩,
⟨some 7,.bls 1 [.int .i64 0] [(0,1,(.t 6))],none⟩,
⟨some 8,.app [.int .i64 0] 8 (.t 5) (.t 7),none⟩,
⟨some 9,.fad 2 (.t 1),none⟩,
⟨none,.st 1 (.t 9) (.t 8),none⟩] [0,2]) (.reg [⟨some 10,.ld (.sc .ptr) (.t 2),none⟩,
⟨some 11,.nilc (.t 10),none⟩,
⟨some 12,.fad 6 (.t 11),none⟩,
⟨some 13,.ld (.sc (.int .i64)) (.t 12),none⟩,
⟨some 14,.mov (.t 0),none⟩,
⟨some 15,.bin .add .i64 (.t 13) (.t 14),none⟩,
⟨some 16,.nilc (.t 10),none⟩,
⟨some 17,.fad 6 (.t 16),none⟩,
⟨none,.st 1 (.t 17) (.t 15),none⟩] []))⟩
def pkthead_State_lengths_1_ca {R:Type} (f:pkthead_State_lengths_1_t R) (args:List Value) (H:Heap) (K:Value → Heap → Option R):Option R :=
  match args with
  | [.int .i64 n1103,.pointer p1104,.pointer p1105] => f n1103 p1104 p1105 H (fun H => K (undef) H)
  | _ => none
def pkthead_State_lengths_1_c (R:Type) (k:Nat) (args:List Value) (H:Heap) (K:Value → Heap → Option R):Option R:=pkthead_State_lengths_1_ca pkthead_State_lengths_1 args H K
theorem pkthead_State_lengths_1_e {R:Type} (k:Nat) (n1103:Int) (p1104:Oa) (p1105:Oa) (H:Heap) (K:Value → Heap → Option R):evF (pkthead_State_lengths_1_Ct) (pkthead_State_lengths_1_Jt k) pkthead_State_lengths_1_f [.int .i64 n1103,.pointer p1104,.pointer p1105] H K = pkthead_State_lengths_1_b k n1103 p1104 p1105 H (fun H => K (undef) H):=by kernel_rfl
theorem pkthead_State_lengths_1_cs (R:Type) (k:Nat):∀ args H K r,pkthead_State_lengths_1_c R k args H K = some r → ∃ v H',Tri Try.prog 72 args H v H' ∧ K v H' = some r:=by
  intro args H K r h
  unfold pkthead_State_lengths_1_c pkthead_State_lengths_1_ca at h
  split at h
  · exact evF_ok (C:=pkthead_State_lengths_1_C R 0) (an:=An) (t:=pkthead_State_lengths_1_at) (fn:=Try.f72) (c:=(Try.f72.body.getD .skip)) (ifn:=pkthead_State_lengths_1_f) (pkthead_State_lengths_1_S R 0) (pkthead_State_lengths_1_J R 0) Try.func72 (by kernel_rfl) (by kernel_rfl) (And.intro True.intro True.intro) rfl (Eq.trans (pkthead_State_lengths_1_e 0 _ _ _ H K) h)
  · cases h
end Go.Proofs.Ytmanlfonppfhaaa.Sh
