/- Lean functions that stand for Go's,over an explicit heap,and the proofs that they do (written by this claim's program shallow.py). -/
import Derived.Test.YtmanlfonppfhaaaProg
import Derived.Test.YtmanlfonppfhaaaFwL
set_option maxRecDepth 100000
set_option linter.unusedVariables false
set_option linter.unusedSimpArgs false
namespace Go.Proofs.Ytmanlfonppfhaaa.Sh
open Go.Proofs.Ytmanlfonppfhaaa.FW
abbrev Oa:=Option Addr
def An:Ann:=⟨[],[3,5,7,9,12,13,14,15,18,19,24,26,30,38,44,54,55,57,58,62,65,66,69,78,79,84,93,97,98,99,101,102,103,104,105,106,107,108,109,110,111,112,113,114,115,116,117,118],[10,11,16,17,20,21,23,25,27,28,29,31,32,33,34,35,36,39,42,43,47,49,50,52,56,100],[4,6,8,16,17,22,23,31,34,37,40,41,45,46,47,48,51,52,53,59,60,61,63,64,67,68,70,71,72,73,74,75,76,77,80,81,82,83,85,86,87,88,89,90,91,92,94,95,96]⟩
abbrev tagtree_valid_p0_t (R:Type):Type:=Int → Int → (Int → Int → Option R) → (Int → Option R) → Option R
def tagtree_valid_p0_b {R:Type} (k:Nat) (n324:Int) (n325:Int) (KN:Int → Int → Option R) (KR:Int → Option R):Option R :=
bif decide (n324 < 1) then (KR 2)
 else (bif decide (n325 < 1) then (KR 2)
 else (KN n324 n325))
def tagtree_valid_p0 {R:Type} (k:Nat) (n324:Int) (n325:Int) (KN:Int → Int → Option R) (KR:Int → Option R):Option R:=tagtree_valid_p0_b k n324 n325 KN KR
abbrev tagtree_valid_t (R:Type):Type:=Int → Int → (Int → Option R) → Option R
def tagtree_valid_b {R:Type} (tagtree_valid_p0:tagtree_valid_p0_t R) (k:Nat) (n322:Int) (n323:Int) (K:Int → Option R):Option R :=
tagtree_valid_p0 n322 n323 (fun n329 n330 =>
bif decide (n329 > 65536) then (K 5)
 else (bif decide (n330 > 65536) then (K 5)
 else (bif decide ((IntKind.wrap .i64 (n329 * n330)) > 65536) then (K 5)
 else (K 0)))) (fun n331 =>
K n331)
def tagtree_valid {R:Type} (k:Nat) (n322:Int) (n323:Int) (K:Int → Option R):Option R:=tagtree_valid_b (tagtree_valid_p0 k) k n322 n323 K
def tagtree_valid_Ct {R:Type}:Tab R:=fun _ _ _ _ => none
def tagtree_valid_C (R:Type) (k:Nat):Tab R:=tagtree_valid_Ct
theorem tagtree_valid_S (R:Type) (k:Nat):CSound Try.prog (tagtree_valid_C R k):=csound_nil
def tagtree_valid_aa0 {R:Type} (f:tagtree_valid_p0_t R) (n:Nat) (vals:List Value) (H:Heap) (K:Xit → Env → Heap → Option R):Option R :=
  match vals with
  | [.int .i64 n324,.int .i64 n325] => f n324 n325 (fun n1092 n1093 => K .normal [(0,.int .i64 n1092),(1,.int .i64 n1093)] H) (fun n1094 => K .ret [(4,.int .i64 n1094)] H)
  | _ => none
def tagtree_valid_a0 (R:Type) (k n:Nat) (vals:List Value) (H:Heap) (K:Xit → Env → Heap → Option R):Option R:=tagtree_valid_aa0 (tagtree_valid_p0 k) n vals H K
def tagtree_valid_Jt {R:Type} (k:Nat) (tagtree_valid_p0:tagtree_valid_p0_t R):JTab R:=tcons 0 (tagtree_valid_aa0 tagtree_valid_p0 k) <| fun _ _ _ _ => none
def tagtree_valid_J (R:Type) (k:Nat):JTab R:=tagtree_valid_Jt k (tagtree_valid_p0 k)
def tagtree_valid_at:AT:=(.seq (.reg [0,1] []) (.seq (.opq 0 [0,1] ⟨[0,1],[],[4]⟩ (.seq (.reg [0,1,10] []) (.cond (.seq (.reg [4] []) .leaf) .leaf))) (.seq (.seq (.reg [22] []) (.cond (.seq (.reg [4] []) .leaf) .leaf)) (.seq (.reg [4] []) .leaf))))
def tagtree_valid_i0:IC:=(.seq (.reg [⟨some 5,.mov (.t 0),none⟩,
⟨some 6,.cmp .lss (.t 5) (.c (Go.Value.int Go.IntKind.i64 1)),none⟩,
⟨some 7,.mov (.t 6),none⟩,
⟨some 8,.mov (.t 1),some (7,false)⟩,
⟨some 9,.cmp .lss (.t 8) (.c (Go.Value.int Go.IntKind.i64 1)),some (7,false)⟩,
⟨some 10,.pick (.t 7) (.c (Go.Value.bool true)) (.t 9),none⟩] [0,1,10]) (.cond (.t 10) (.seq (.reg [⟨some 4,.mov (.c (Go.Value.int Go.IntKind.i64 2)),none⟩] [4]) .ret) .skip))
def tagtree_valid_f:IFn:=⟨23,[.t 4],(.seq (.reg [⟨some 4,.mov (.c (Go.Value.int Go.IntKind.i64 0)),none⟩] [0,1]) (.seq (.opq 0 [0,1] tagtree_valid_i0) (.seq (.seq (.reg [⟨some 11,.mov (.t 0),none⟩,
⟨some 12,.cmp .gtr (.t 11) (.c (Go.Value.int Go.IntKind.i64 65536)),none⟩,
⟨some 13,.mov (.t 12),none⟩,
⟨some 14,.mov (.t 1),some (13,false)⟩,
⟨some 15,.cmp .gtr (.t 14) (.c (Go.Value.int Go.IntKind.i64 65536)),some (13,false)⟩,
⟨some 16,.pick (.t 13) (.c (Go.Value.bool true)) (.t 15),none⟩,
⟨some 17,.mov (.t 16),none⟩,
⟨some 18,.mov (.t 0),some (17,false)⟩,
⟨some 19,.mov (.t 1),some (17,false)⟩,
⟨some 20,.bin .mul .i64 (.t 18) (.t 19),some (17,false)⟩,
⟨some 21,.cmp .gtr (.t 20) (.c (Go.Value.int Go.IntKind.i64 65536)),some (17,false)⟩,
⟨some 22,.pick (.t 17) (.c (Go.Value.bool true)) (.t 21),none⟩] [22]) (.cond (.t 22) (.seq (.reg [⟨some 4,.mov (.c (Go.Value.int Go.IntKind.i64 5)),none⟩] [4]) .ret) .skip)) (.seq (.reg [⟨some 4,.mov (.c (Go.Value.int Go.IntKind.i64 0)),none⟩] [4]) .ret))))⟩
theorem tagtree_valid_e0 {R:Type} (tagtree_valid_p0:tagtree_valid_p0_t R) (k:Nat) (n324:Int) (n325:Int) (H:Heap) (K:Xit → Env → Heap → Option R):evJ (tagtree_valid_Ct) (tagtree_valid_Jt k tagtree_valid_p0) tagtree_valid_i0 (List.zip [0,1] [.int .i64 n324,.int .i64 n325]) H (fun x e' H' => K x (clean e' ((⟨[0,1],[],[4]⟩:Out).of x)) H') = tagtree_valid_p0_b k n324 n325 (fun n1092 n1093 => K .normal [(0,.int .i64 n1092),(1,.int .i64 n1093)] H) (fun n1094 => K .ret [(4,.int .i64 n1094)] H):=by kernel_rfl
theorem tagtree_valid_j0 {R:Type} (k:Nat):JS Try.prog 23 (tagtree_valid_a0 R k k) [0,1] ⟨[0,1],[],[4]⟩ (sel [1,0] (Try.f44.body.getD .skip)) :=
  piece_ok (nt:=23) (c:=(sel [1,0] (Try.f44.body.getD .skip))) (C:=tagtree_valid_C R k) (an:=An) (t:=(.seq (.reg [0,1,10] []) (.cond (.seq (.reg [4] []) .leaf) .leaf))) (ic:=tagtree_valid_i0) (tagtree_valid_S R k) (tagtree_valid_J R k) (by kernel_rfl) (And.intro True.intro (And.intro (And.intro True.intro True.intro) True.intro)) (tagtree_valid_a0 R k k)
    (fun vals H K r h => by
      unfold tagtree_valid_a0 tagtree_valid_aa0 at h
      split at h <;> first | (cases h; done) | exact Eq.trans (tagtree_valid_e0 (tagtree_valid_p0 k) k _ _ H K) h)
def tagtree_valid_ca {R:Type} (f:tagtree_valid_t R) (args:List Value) (H:Heap) (K:Value → Heap → Option R):Option R :=
  match args with
  | [.int .i64 n322,.int .i64 n323] => f n322 n323 (fun n1095 => K (.int .i64 n1095) H)
  | _ => none
def tagtree_valid_c (R:Type) (k:Nat) (args:List Value) (H:Heap) (K:Value → Heap → Option R):Option R:=tagtree_valid_ca (tagtree_valid k) args H K
theorem tagtree_valid_e {R:Type} (tagtree_valid_p0:tagtree_valid_p0_t R) (k:Nat) (n322:Int) (n323:Int) (H:Heap) (K:Value → Heap → Option R):evF (tagtree_valid_Ct) (tagtree_valid_Jt k tagtree_valid_p0) tagtree_valid_f [.int .i64 n322,.int .i64 n323] H K = tagtree_valid_b tagtree_valid_p0 k n322 n323 (fun n1095 => K (.int .i64 n1095) H):=by kernel_rfl
theorem tagtree_valid_cs (R:Type) (k:Nat):∀ args H K r,tagtree_valid_c R k args H K = some r → ∃ v H',Tri Try.prog 44 args H v H' ∧ K v H' = some r:=by
  intro args H K r h
  unfold tagtree_valid_c tagtree_valid_ca at h
  split at h
  · exact evF_ok (C:=tagtree_valid_C R k) (an:=An) (t:=tagtree_valid_at) (fn:=Try.f44) (c:=(Try.f44.body.getD .skip)) (ifn:=tagtree_valid_f) (tagtree_valid_S R k) (tagtree_valid_J R k) Try.func44 (by kernel_rfl) (by kernel_rfl) (And.intro True.intro (And.intro (tagtree_valid_j0 k) (And.intro (And.intro True.intro (And.intro (And.intro True.intro True.intro) True.intro)) (And.intro True.intro True.intro)))) rfl (Eq.trans (tagtree_valid_e (tagtree_valid_p0 k) k _ _ H K) h)
  · cases h
abbrev tagtree_New_p1_t (R:Type):Type:=Int → Int → Oa → (Int → Int → Oa → Option R) → (Oa → Int → Option R) → Option R
def tagtree_New_p1_b {R:Type} (k:Nat) (n346:Int) (n347:Int) (p348:Oa) (KN:Int → Int → Oa → Option R) (KR:Oa → Int → Option R):Option R :=
bif (n346 == 1) then (bif (n347 == 1) then (KR p348 0)
 else (KN n346 n347 p348))
 else (KN n346 n347 p348)
def tagtree_New_p1 {R:Type} (k:Nat) (n346:Int) (n347:Int) (p348:Oa) (KN:Int → Int → Oa → Option R) (KR:Oa → Int → Option R):Option R:=tagtree_New_p1_b k n346 n347 p348 KN KR
abbrev tagtree_New_l0_t (R:Type):Type:=(Oa → Int → Heap → Option R) → Nat → Int → Int → Oa → Heap → Option R
def tagtree_New_l0_b {R:Type} (tagtree_New_p1:tagtree_New_p1_t R) (rec:Int → Int → Oa → Heap → Option R) (KR:Oa → Int → Heap → Option R) (k:Nat) (n325:Int) (n326:Int) (p327:Oa) (H:Heap):Option R :=
hnil p327 fun p328 =>
hfad 0 p328 fun p329 =>
ldL H p329 fun q330 l331 c332 =>
hmk [.int .i64 0,.int .i64 0,.bool false] 24 H (IntKind.wrap .i64 (n325 * n326)) (IntKind.wrap .i64 (n325 * n326)) fun q333 l334 c335 H336 =>
hal H336 [.int .i64 n325,.int .i64 n326,.slice q333 l334 c335] fun p337 H338 =>
happS 3 40 H338 q330 l331 c332 p337 1 fun q339 l340 c341 H342 =>
hnil p327 fun p343 =>
hfad 0 p343 fun p344 =>
hst1 H342 p344 (.slice q339 l340 c341) fun H345 =>
tagtree_New_p1 n325 n326 p327 (fun n354 n355 p356 =>
rec (IntKind.wrap .i64 (Int.tdiv (IntKind.wrap .i64 (n354 + 1)) 2)) (IntKind.wrap .i64 (Int.tdiv (IntKind.wrap .i64 (n355 + 1)) 2)) p356 H345) (fun p357 n358 =>
KR p357 n358 H345)
def tagtree_New_l0 {R:Type} (k:Nat) (KR:Oa → Int → Heap → Option R):Nat → Int → Int → Oa → Heap → Option R
  | 0,_,_,_,_ => none
  | n + 1,n325,n326,p327,H => tagtree_New_l0_b (tagtree_New_p1 k) (tagtree_New_l0 k KR n) KR k n325 n326 p327 H
abbrev tagtree_New_t (R:Type):Type:=Int → Int → Heap → (Oa → Int → Heap → Option R) → Option R
def tagtree_New_b {R:Type} (tagtree_valid:tagtree_valid_t R) (tagtree_New_l0:tagtree_New_l0_t R) (k:Nat) (n320:Int) (n321:Int) (H:Heap) (K:Oa → Int → Heap → Option R):Option R :=
tagtree_valid n320 n321 fun n322 =>
bif (n322 != 0) then (K none n322 H)
 else (hal H [.slice none 0 0,.bool false,.bool false] fun p323 H324 =>
tagtree_New_l0 (fun p361 n362 H363 =>
K p361 n362 H363) k n320 n321 p323 H324)
def tagtree_New {R:Type} (k:Nat) (n320:Int) (n321:Int) (H:Heap) (K:Oa → Int → Heap → Option R):Option R:=tagtree_New_b (tagtree_valid k) (tagtree_New_l0 k) k n320 n321 H K
def tagtree_New_Ct {R:Type} (tagtree_valid:tagtree_valid_t R):Tab R:=tcons 44 (tagtree_valid_ca tagtree_valid) <| fun _ _ _ _ => none
def tagtree_New_C (R:Type) (k:Nat):Tab R:=tagtree_New_Ct (tagtree_valid k)
theorem tagtree_New_S (R:Type) (k:Nat):CSound Try.prog (tagtree_New_C R k):=csound_cons (tagtree_valid_cs R k) <| csound_nil
def tagtree_New_aa0 {R:Type} (f:tagtree_New_l0_t R) (n:Nat) (vals:List Value) (H:Heap) (K:Xit → Env → Heap → Option R):Option R :=
  match vals with
  | [.int .i64 n325,.int .i64 n326,.pointer p327] => f (fun p1096 n1097 H => K .ret [(4,.pointer p1096),(5,.int .i64 n1097)] H) n n325 n326 p327 H
  | _ => none
def tagtree_New_a0 (R:Type) (k n:Nat) (vals:List Value) (H:Heap) (K:Xit → Env → Heap → Option R):Option R:=tagtree_New_aa0 (tagtree_New_l0 k) n vals H K
def tagtree_New_aa1 {R:Type} (f:tagtree_New_p1_t R) (n:Nat) (vals:List Value) (H:Heap) (K:Xit → Env → Heap → Option R):Option R :=
  match vals with
  | [.int .i64 n346,.int .i64 n347,.pointer p348] => f n346 n347 p348 (fun n1098 n1099 p1100 => K .normal [(0,.int .i64 n1098),(1,.int .i64 n1099),(7,.pointer p1100)] H) (fun p1101 n1102 => K .ret [(4,.pointer p1101),(5,.int .i64 n1102)] H)
  | _ => none
def tagtree_New_a1 (R:Type) (k n:Nat) (vals:List Value) (H:Heap) (K:Xit → Env → Heap → Option R):Option R:=tagtree_New_aa1 (tagtree_New_p1 k) n vals H K
def tagtree_New_Jt {R:Type} (k:Nat) (tagtree_New_l0:tagtree_New_l0_t R) (tagtree_New_p1:tagtree_New_p1_t R):JTab R:=tcons 0 (tagtree_New_aa0 tagtree_New_l0 k) <| tcons 1 (tagtree_New_aa1 tagtree_New_p1 k) <| fun _ _ _ _ => none
def tagtree_New_J (R:Type) (k:Nat):JTab R:=tagtree_New_Jt k (tagtree_New_l0 k) (tagtree_New_p1 k)
def tagtree_New_at:AT:=(.seq (.reg [0,1] []) (.seq (.seq (.reg [0,1,6] []) (.seq (.reg [0,1,6,12] []) (.cond (.seq (.reg [4,5] []) .leaf) .leaf))) (.seq (.reg [0,1,7] []) (.node (.opq 0 [0,1,7] ⟨[],[],[4,5]⟩ (.node (.node (.seq (.reg [0,1,7] [[],[],[1],[1,2],[1,2,3],[],[],[],[],[7,8],[7,8,9],[5,6,7,8,9,10],[5,6,7,8,9,10,11],[1,2,3,4,5,6,7,8,9,10,11,12],[0,1,2,3,4,5,6,7,8,9,10,11,12,13],[0,1,2,3,4,5,6,7,8,9,10,11,12,13,14],[0,1,2,3,4,5,6,7,8,9,10,11,12,13,14,15]]) (.seq (.opq 1 [0,1,7] ⟨[0,1,7],[],[4,5]⟩ (.seq (.reg [0,1,7,37] []) (.cond (.seq (.reg [4,5] []) .leaf) .leaf))) (.reg [0,1,7] []))))))))))
def tagtree_New_i1:IC:=(.seq (.reg [⟨some 32,.mov (.t 0),none⟩,
⟨some 33,.cmp .eql (.t 32) (.c (Go.Value.int Go.IntKind.i64 1)),none⟩,
⟨some 34,.mov (.t 33),none⟩,
⟨some 35,.mov (.t 1),some (34,true)⟩,
⟨some 36,.cmp .eql (.t 35) (.c (Go.Value.int Go.IntKind.i64 1)),some (34,true)⟩,
⟨some 37,.pick (.t 34) (.t 36) (.c (Go.Value.bool false)),none⟩] [0,1,7,37]) (.cond (.t 37) (.seq (.reg [⟨some 38,.mov (.t 7),none⟩,
⟨some 4,.mov (.t 38),none⟩,
⟨some 5,.mov (.c (Go.Value.int Go.IntKind.i64 0)),none⟩] [4,5]) .ret) .skip))
def tagtree_New_i0:IC:=(.block 1 (.seq (.reg [⟨some 16,.mov (.t 7),none⟩,
⟨some 17,.mov (.t 7),none⟩,
⟨some 18,.nilc (.t 17),none⟩,
⟨some 19,.fad 0 (.t 18),none⟩,
⟨some 20,.ld (.sc .slc) (.t 19),none⟩,
⟨some 21,.mov (.t 0),none⟩,
⟨some 22,.mov (.t 1),none⟩,
⟨some 23,.mov (.t 0),none⟩,
⟨some 24,.mov (.t 1),none⟩,
⟨some 25,.bin .mul .i64 (.t 23) (.t 24),none⟩,
⟨some 26,.mks [.int .i64 0,.int .i64 0,.bool false] 24 (.t 25) (.t 25),none⟩,
⟨some 27,.bld [.int .i64 0,.int .i64 0,.slice none 0 0] [(0,1,(.t 21)),(1,1,(.t 22)),(2,1,(.t 26))],none⟩,
⟨some 28,.bls 1 [.int .i64 0,.int .i64 0,.slice none 0 0] [(0,3,(.t 27))],none⟩,
⟨some 29,.app [.int .i64 0,.int .i64 0,.slice none 0 0] 40 (.t 20) (.t 28),none⟩,
⟨some 30,.nilc (.t 16),none⟩,
⟨some 31,.fad 0 (.t 30),none⟩,
⟨none,.st 1 (.t 31) (.t 29),none⟩] [0,1,7]) (.seq (.opq 1 [0,1,7] tagtree_New_i1) (.reg [⟨some 39,.mov (.t 0),none⟩,
⟨some 40,.bin .add .i64 (.t 39) (.c (Go.Value.int Go.IntKind.i64 1)),none⟩,
⟨some 41,.bin .quo .i64 (.t 40) (.c (Go.Value.int Go.IntKind.i64 2)),none⟩,
⟨some 42,.mov (.t 1),none⟩,
⟨some 43,.bin .add .i64 (.t 42) (.c (Go.Value.int Go.IntKind.i64 1)),none⟩,
⟨some 44,.bin .quo .i64 (.t 43) (.c (Go.Value.int Go.IntKind.i64 2)),none⟩,
⟨some 0,.mov (.t 41),none⟩,
⟨some 1,.mov (.t 44),none⟩] [0,1,7]))))
def tagtree_New_f:IFn:=⟨45,[.t 4,.t 5],(.seq (.reg [⟨some 4,.mov (.c (Go.Value.pointer none)),none⟩,
⟨some 5,.mov (.c (Go.Value.int Go.IntKind.i64 0)),none⟩] [0,1]) (.seq (.seq (.reg [⟨some 8,.mov (.t 0),none⟩,
⟨some 9,.mov (.t 1),none⟩,
⟨some 10,.call 44 [(.t 8),(.t 9)] (.one (.sc (.int .i64))),none⟩,
⟨some 6,.mov (.t 10),none⟩] [0,1,6]) (.seq (.reg [⟨some 11,.mov (.t 6),none⟩,
⟨some 12,.cmp .neq (.t 11) (.c (Go.Value.int Go.IntKind.i64 0)),none⟩] [0,1,6,12]) (.cond (.t 12) (.seq (.reg [⟨some 13,.mov (.t 6),none⟩,
⟨some 4,.mov (.c (Go.Value.pointer none)),none⟩,
⟨some 5,.mov (.t 13),none⟩] [4,5]) .ret) .skip))) (.seq (.reg [⟨some 14,.bld [.slice none 0 0,.bool false,.bool false] [],none⟩,
⟨some 15,.box (.t 14),none⟩,
⟨some 7,.mov (.t 15),none⟩] [0,1,7]) (.block 0 (.opq 0 [0,1,7] (.loop tagtree_New_i0))))))⟩
theorem tagtree_New_e1 {R:Type} (tagtree_valid:tagtree_valid_t R) (tagtree_New_l0:tagtree_New_l0_t R) (tagtree_New_p1:tagtree_New_p1_t R) (k:Nat) (n346:Int) (n347:Int) (p348:Oa) (H:Heap) (K:Xit → Env → Heap → Option R):evJ (tagtree_New_Ct tagtree_valid) (tagtree_New_Jt k tagtree_New_l0 tagtree_New_p1) tagtree_New_i1 (List.zip [0,1,7] [.int .i64 n346,.int .i64 n347,.pointer p348]) H (fun x e' H' => K x (clean e' ((⟨[0,1,7],[],[4,5]⟩:Out).of x)) H') = tagtree_New_p1_b k n346 n347 p348 (fun n1098 n1099 p1100 => K .normal [(0,.int .i64 n1098),(1,.int .i64 n1099),(7,.pointer p1100)] H) (fun p1101 n1102 => K .ret [(4,.pointer p1101),(5,.int .i64 n1102)] H):=by kernel_rfl
theorem tagtree_New_j1 {R:Type} (k:Nat):JS Try.prog 45 (tagtree_New_a1 R k k) [0,1,7] ⟨[0,1,7],[],[4,5]⟩ (sel [1,1,1,0,0,0,1,0] (Try.f28.body.getD .skip)) :=
  piece_ok (nt:=45) (c:=(sel [1,1,1,0,0,0,1,0] (Try.f28.body.getD .skip))) (C:=tagtree_New_C R k) (an:=An) (t:=(.seq (.reg [0,1,7,37] []) (.cond (.seq (.reg [4,5] []) .leaf) .leaf))) (ic:=tagtree_New_i1) (tagtree_New_S R k) (tagtree_New_J R k) (by kernel_rfl) (And.intro True.intro (And.intro (And.intro True.intro True.intro) True.intro)) (tagtree_New_a1 R k k)
    (fun vals H K r h => by
      unfold tagtree_New_a1 tagtree_New_aa1 at h
      split at h <;> first | (cases h; done) | exact Eq.trans (tagtree_New_e1 (tagtree_valid k) (tagtree_New_l0 k) (tagtree_New_p1 k) k _ _ _ H K) h)
theorem tagtree_New_e0 {R:Type} (tagtree_valid:tagtree_valid_t R) (tagtree_New_l0:tagtree_New_l0_t R) (tagtree_New_p1:tagtree_New_p1_t R) (k n:Nat) (n325:Int) (n326:Int) (p327:Oa) (H:Heap) (K:Xit → Env → Heap → Option R):evJ (tagtree_New_Ct tagtree_valid) (tagtree_New_Jt k tagtree_New_l0 tagtree_New_p1) tagtree_New_i0 (List.zip [0,1,7] [.int .i64 n325,.int .i64 n326,.pointer p327]) H (fun x e' H' => match x with | .normal => tagtree_New_aa0 tagtree_New_l0 n ((clean e' [0,1,7]).map (·.2)) H' K | x => K x (clean e' ((⟨[],[],[4,5]⟩:Out).of x)) H') = tagtree_New_l0_b tagtree_New_p1 (tagtree_New_l0 (fun p1096 n1097 H => K .ret [(4,.pointer p1096),(5,.int .i64 n1097)] H) n) (fun p1096 n1097 H => K .ret [(4,.pointer p1096),(5,.int .i64 n1097)] H) k n325 n326 p327 H:=by kernel_rfl
theorem tagtree_New_j0 {R:Type} (k:Nat):JS Try.prog 45 (tagtree_New_a0 R k k) [0,1,7] ⟨[],[],[4,5]⟩ (.loop (sel [1,1,1,0,0] (Try.f28.body.getD .skip))) :=
  loop_ok (nt:=45) (c:=(sel [1,1,1,0,0] (Try.f28.body.getD .skip))) (C:=tagtree_New_C R k) (an:=An) (t:=(.node (.seq (.reg [0,1,7] [[],[],[1],[1,2],[1,2,3],[],[],[],[],[7,8],[7,8,9],[5,6,7,8,9,10],[5,6,7,8,9,10,11],[1,2,3,4,5,6,7,8,9,10,11,12],[0,1,2,3,4,5,6,7,8,9,10,11,12,13],[0,1,2,3,4,5,6,7,8,9,10,11,12,13,14],[0,1,2,3,4,5,6,7,8,9,10,11,12,13,14,15]]) (.seq (.opq 1 [0,1,7] ⟨[0,1,7],[],[4,5]⟩ (.seq (.reg [0,1,7,37] []) (.cond (.seq (.reg [4,5] []) .leaf) .leaf))) (.reg [0,1,7] []))))) (ic:=tagtree_New_i0) (tagtree_New_S R k) (tagtree_New_J R k) (by kernel_rfl) (And.intro True.intro (And.intro (tagtree_New_j1 k) True.intro)) (tagtree_New_a0 R k) (fun vals H K => by unfold tagtree_New_a0 tagtree_New_aa0; split <;> rfl)
    (fun n vals H K r h => by
      unfold tagtree_New_a0 tagtree_New_aa0 at h
      split at h <;> first | (cases h; done) | exact Eq.trans (tagtree_New_e0 (tagtree_valid k) (tagtree_New_l0 k) (tagtree_New_p1 k) k n _ _ _ H K) h) k
def tagtree_New_ca {R:Type} (f:tagtree_New_t R) (args:List Value) (H:Heap) (K:Value → Heap → Option R):Option R :=
  match args with
  | [.int .i64 n320,.int .i64 n321] => f n320 n321 H (fun p1103 n1104 H => K (.tuple ⟨[.pointer p1103,.int .i64 n1104]⟩) H)
  | _ => none
def tagtree_New_c (R:Type) (k:Nat) (args:List Value) (H:Heap) (K:Value → Heap → Option R):Option R:=tagtree_New_ca (tagtree_New k) args H K
theorem tagtree_New_e {R:Type} (tagtree_valid:tagtree_valid_t R) (tagtree_New_l0:tagtree_New_l0_t R) (tagtree_New_p1:tagtree_New_p1_t R) (k:Nat) (n320:Int) (n321:Int) (H:Heap) (K:Value → Heap → Option R):evF (tagtree_New_Ct tagtree_valid) (tagtree_New_Jt k tagtree_New_l0 tagtree_New_p1) tagtree_New_f [.int .i64 n320,.int .i64 n321] H K = tagtree_New_b tagtree_valid tagtree_New_l0 k n320 n321 H (fun p1103 n1104 H => K (.tuple ⟨[.pointer p1103,.int .i64 n1104]⟩) H):=by kernel_rfl
theorem tagtree_New_cs (R:Type) (k:Nat):∀ args H K r,tagtree_New_c R k args H K = some r → ∃ v H',Tri Try.prog 28 args H v H' ∧ K v H' = some r:=by
  intro args H K r h
  unfold tagtree_New_c tagtree_New_ca at h
  split at h
  · exact evF_ok (C:=tagtree_New_C R k) (an:=An) (t:=tagtree_New_at) (fn:=Try.f28) (c:=(Try.f28.body.getD .skip)) (ifn:=tagtree_New_f) (tagtree_New_S R k) (tagtree_New_J R k) Try.func28 (by kernel_rfl) (by kernel_rfl) (And.intro True.intro (And.intro (And.intro True.intro (And.intro True.intro (And.intro (And.intro True.intro True.intro) True.intro))) (And.intro True.intro (tagtree_New_j0 k)))) rfl (Eq.trans (tagtree_New_e (tagtree_valid k) (tagtree_New_l0 k) (tagtree_New_p1 k) k _ _ H K) h)
  · cases h
abbrev pkthead_New_p0_t (R:Type):Type:=Oa → Nat → Nat → Oa → Nat → Nat → Oa → (Oa → Nat → Nat → Oa → Nat → Nat → Oa → Option R) → (Oa → Int → Option R) → Option R
def pkthead_New_p0_b {R:Type} (k:Nat) (q44:Oa) (l45:Nat) (c46:Nat) (q47:Oa) (l48:Nat) (c49:Nat) (p50:Oa) (KN:Oa → Nat → Nat → Oa → Nat → Nat → Oa → Option R) (KR:Oa → Int → Option R):Option R :=
bif (((l45:Nat):Int) != ((l48:Nat):Int)) then (KR none 4)
 else (bif decide (((l45:Nat):Int) > 3) then (KR none 4)
 else (KN q44 l45 c46 q47 l48 c49 p50))
def pkthead_New_p0 {R:Type} (k:Nat) (q44:Oa) (l45:Nat) (c46:Nat) (q47:Oa) (l48:Nat) (c49:Nat) (p50:Oa) (KN:Oa → Nat → Nat → Oa → Nat → Nat → Oa → Option R) (KR:Oa → Int → Option R):Option R:=pkthead_New_p0_b k q44 l45 c46 q47 l48 c49 p50 KN KR
abbrev pkthead_New_p2_t (R:Type):Type:=Oa → Nat → Nat → Oa → Nat → Nat → Oa → Int → Int → Oa → Oa → Nat → Nat → Int → Int → Heap → (Oa → Nat → Nat → Oa → Nat → Nat → Oa → Int → Int → Oa → Bool → Oa → Nat → Nat → Int → Int → Option R) → Option R
def pkthead_New_p2_b {R:Type} (k:Nat) (q86:Oa) (l87:Nat) (c88:Nat) (q89:Oa) (l90:Nat) (c91:Nat) (p92:Oa) (n93:Int) (n94:Int) (p95:Oa) (q96:Oa) (l97:Nat) (c98:Nat) (n99:Int) (n100:Int) (H:Heap) (KN:Oa → Nat → Nat → Oa → Nat → Nat → Oa → Int → Int → Oa → Bool → Oa → Nat → Nat → Int → Int → Option R):Option R :=
hfad 0 p95 fun p101 =>
ldI .i64 H p101 fun n102 =>
bif (n102 == 0) then (hfad 1 p95 fun p103 =>
ldI .i64 H p103 fun n104 =>
KN q86 l87 c88 q89 l90 c91 p92 n93 n94 p95 (n104 == 0) q96 l97 c98 n99 n100)
 else (KN q86 l87 c88 q89 l90 c91 p92 n93 n94 p95 false q96 l97 c98 n99 n100)
def pkthead_New_p2 {R:Type} (k:Nat) (q86:Oa) (l87:Nat) (c88:Nat) (q89:Oa) (l90:Nat) (c91:Nat) (p92:Oa) (n93:Int) (n94:Int) (p95:Oa) (q96:Oa) (l97:Nat) (c98:Nat) (n99:Int) (n100:Int) (H:Heap) (KN:Oa → Nat → Nat → Oa → Nat → Nat → Oa → Int → Int → Oa → Bool → Oa → Nat → Nat → Int → Int → Option R):Option R:=pkthead_New_p2_b k q86 l87 c88 q89 l90 c91 p92 n93 n94 p95 q96 l97 c98 n99 n100 H KN
abbrev pkthead_New_p3_t (R:Type):Type:=Oa → Nat → Nat → Oa → Nat → Nat → Oa → Int → Int → Oa → Bool → Oa → Nat → Nat → Int → Int → Heap → (Oa → Nat → Nat → Oa → Nat → Nat → Oa → Int → Int → Oa → Bool → Bool → Oa → Nat → Nat → Int → Int → Option R) → Option R
def pkthead_New_p3_b {R:Type} (k:Nat) (q137:Oa) (l138:Nat) (c139:Nat) (q140:Oa) (l141:Nat) (c142:Nat) (p143:Oa) (n144:Int) (n145:Int) (p146:Oa) (t147:Bool) (q148:Oa) (l149:Nat) (c150:Nat) (n151:Int) (n152:Int) (H:Heap) (KN:Oa → Nat → Nat → Oa → Nat → Nat → Oa → Int → Int → Oa → Bool → Bool → Oa → Nat → Nat → Int → Int → Option R):Option R :=
hfad 0 p146 fun p153 =>
ldI .i64 H p153 fun n154 =>
bif decide (n154 ≥ 1) then (hfad 0 p146 fun p155 =>
ldI .i64 H p155 fun n156 =>
bif decide (n156 ≤ 4096) then (hfad 1 p146 fun p157 =>
ldI .i64 H p157 fun n158 =>
bif decide (n158 ≥ 1) then (hfad 1 p146 fun p159 =>
ldI .i64 H p159 fun n160 =>
KN q137 l138 c139 q140 l141 c142 p143 n144 n145 p146 t147 (decide (n160 ≤ 4096)) q148 l149 c150 n151 n152)
 else (KN q137 l138 c139 q140 l141 c142 p143 n144 n145 p146 t147 false q148 l149 c150 n151 n152))
 else (KN q137 l138 c139 q140 l141 c142 p143 n144 n145 p146 t147 false q148 l149 c150 n151 n152))
 else (KN q137 l138 c139 q140 l141 c142 p143 n144 n145 p146 t147 false q148 l149 c150 n151 n152)
def pkthead_New_p3 {R:Type} (k:Nat) (q137:Oa) (l138:Nat) (c139:Nat) (q140:Oa) (l141:Nat) (c142:Nat) (p143:Oa) (n144:Int) (n145:Int) (p146:Oa) (t147:Bool) (q148:Oa) (l149:Nat) (c150:Nat) (n151:Int) (n152:Int) (H:Heap) (KN:Oa → Nat → Nat → Oa → Nat → Nat → Oa → Int → Int → Oa → Bool → Bool → Oa → Nat → Nat → Int → Int → Option R):Option R:=pkthead_New_p3_b k q137 l138 c139 q140 l141 c142 p143 n144 n145 p146 t147 q148 l149 c150 n151 n152 H KN
abbrev pkthead_New_p4_t (R:Type):Type:=Oa → Nat → Nat → Oa → Nat → Nat → Oa → Int → Int → Oa → Bool → Bool → Oa → Nat → Nat → Int → Int → Heap → (Oa → Nat → Nat → Oa → Nat → Nat → Oa → Int → Oa → Oa → Nat → Nat → Int → Int → Option R) → (Oa → Int → Option R) → Option R
def pkthead_New_p4_b {R:Type} (k:Nat) (q195:Oa) (l196:Nat) (c197:Nat) (q198:Oa) (l199:Nat) (c200:Nat) (p201:Oa) (n202:Int) (n203:Int) (p204:Oa) (t205:Bool) (t206:Bool) (q207:Oa) (l208:Nat) (c209:Nat) (n210:Int) (n211:Int) (H:Heap) (KN:Oa → Nat → Nat → Oa → Nat → Nat → Oa → Int → Oa → Oa → Nat → Nat → Int → Int → Option R) (KR:Oa → Int → Option R):Option R :=
bif (!t205) then (bif (!t206) then (KR none 2)
 else (hidx q198 l199 n203 1 fun p212 =>
ldI .i64 H p212 fun n213 =>
bif decide (n213 < 0) then (KR none 2)
 else (hidx q198 l199 n203 1 fun p214 =>
ldI .i64 H p214 fun n215 =>
bif decide (n215 > 60) then (KR none 2)
 else (KN q195 l196 c197 q198 l199 c200 p201 n202 p204 q207 l208 c209 n210 n211))))
 else (hidx q198 l199 n203 1 fun p216 =>
ldI .i64 H p216 fun n217 =>
bif decide (n217 < 0) then (KR none 2)
 else (hidx q198 l199 n203 1 fun p218 =>
ldI .i64 H p218 fun n219 =>
bif decide (n219 > 60) then (KR none 2)
 else (KN q195 l196 c197 q198 l199 c200 p201 n202 p204 q207 l208 c209 n210 n211)))
def pkthead_New_p4 {R:Type} (k:Nat) (q195:Oa) (l196:Nat) (c197:Nat) (q198:Oa) (l199:Nat) (c200:Nat) (p201:Oa) (n202:Int) (n203:Int) (p204:Oa) (t205:Bool) (t206:Bool) (q207:Oa) (l208:Nat) (c209:Nat) (n210:Int) (n211:Int) (H:Heap) (KN:Oa → Nat → Nat → Oa → Nat → Nat → Oa → Int → Oa → Oa → Nat → Nat → Int → Int → Option R) (KR:Oa → Int → Option R):Option R:=pkthead_New_p4_b k q195 l196 c197 q198 l199 c200 p201 n202 n203 p204 t205 t206 q207 l208 c209 n210 n211 H KN KR
abbrev pkthead_New_l1_t (R:Type):Type:=(Oa → Nat → Nat → Oa → Nat → Nat → Oa → Int → Heap → Option R) → (Oa → Int → Heap → Option R) → Nat → Oa → Nat → Nat → Oa → Nat → Nat → Oa → Int → Oa → Nat → Nat → Int → Int → Heap → Option R
def pkthead_New_l1_b {R:Type} (pkthead_New_p2:pkthead_New_p2_t R) (pkthead_New_p3:pkthead_New_p3_t R) (pkthead_New_p4:pkthead_New_p4_t R) (rec:Oa → Nat → Nat → Oa → Nat → Nat → Oa → Int → Oa → Nat → Nat → Int → Int → Heap → Option R) (KE0:Oa → Nat → Nat → Oa → Nat → Nat → Oa → Int → Heap → Option R) (KR:Oa → Int → Heap → Option R) (k:Nat) (q67:Oa) (l68:Nat) (c69:Nat) (q70:Oa) (l71:Nat) (c72:Nat) (p73:Oa) (n74:Int) (q75:Oa) (l76:Nat) (c77:Nat) (n78:Int) (n79:Int) (H:Heap):Option R :=
bif decide (n79 < n78) then (hidx q75 l76 n79 2 fun p80 =>
ldI .i64 H (pad p80 0) fun n81 =>
ldI .i64 H (pad p80 1) fun n82 =>
hal H [.int .i64 0,.int .i64 0] fun p83 H84 =>
hst H84 p83 [.int .i64 n81,.int .i64 n82] fun H85 =>
pkthead_New_p2 q67 l68 c69 q70 l71 c72 p73 n74 n79 p83 q75 l76 c77 n78 n79 H85 (fun q121 l122 c123 q124 l125 c126 p127 n128 n129 p130 t131 q132 l133 c134 n135 n136 =>
pkthead_New_p3 q121 l122 c123 q124 l125 c126 p127 n128 n129 p130 t131 q132 l133 c134 n135 n136 H85 (fun q178 l179 c180 q181 l182 c183 p184 n185 n186 p187 t188 t189 q190 l191 c192 n193 n194 =>
pkthead_New_p4 q178 l179 c180 q181 l182 c183 p184 n185 n186 p187 t188 t189 q190 l191 c192 n193 n194 H85 (fun q236 l237 c238 q239 l240 c241 p242 n243 p244 q245 l246 c247 n248 n249 =>
hfad 0 p244 fun p250 =>
ldI .i64 H85 p250 fun n251 =>
hfad 1 p244 fun p252 =>
ldI .i64 H85 p252 fun n253 =>
rec q236 l237 c238 q239 l240 c241 p242 (IntKind.wrap .i64 (n243 + (IntKind.wrap .i64 (n251 * n253)))) q245 l246 c247 n248 (IntKind.wrap .i64 (n249 + 1)) H85) (fun p254 n255 =>
KR p254 n255 H85))))
 else (KE0 q67 l68 c69 q70 l71 c72 p73 n74 H)
def pkthead_New_l1 {R:Type} (k:Nat) (KE0:Oa → Nat → Nat → Oa → Nat → Nat → Oa → Int → Heap → Option R) (KR:Oa → Int → Heap → Option R):Nat → Oa → Nat → Nat → Oa → Nat → Nat → Oa → Int → Oa → Nat → Nat → Int → Int → Heap → Option R
  | 0,_,_,_,_,_,_,_,_,_,_,_,_,_,_ => none
  | n + 1,q67,l68,c69,q70,l71,c72,p73,n74,q75,l76,c77,n78,n79,H => pkthead_New_l1_b (pkthead_New_p2 k) (pkthead_New_p3 k) (pkthead_New_p4 k) (pkthead_New_l1 k KE0 KR n) KE0 KR k q67 l68 c69 q70 l71 c72 p73 n74 q75 l76 c77 n78 n79 H
abbrev pkthead_New_p6_t (R:Type):Type:=Oa → Nat → Nat → Oa → Int → Oa → Oa → Oa → Nat → Nat → Int → Int → Heap → (Oa → Nat → Nat → Oa → Int → Oa → Oa → Oa → Nat → Nat → Int → Int → Heap → Option R) → Option R
def pkthead_New_p6_b {R:Type} (tagtree_New:tagtree_New_t R) (k:Nat) (q302:Oa) (l303:Nat) (c304:Nat) (p305:Oa) (n306:Int) (p307:Oa) (p308:Oa) (q309:Oa) (l310:Nat) (c311:Nat) (n312:Int) (n313:Int) (H:Heap) (KN:Oa → Nat → Nat → Oa → Int → Oa → Oa → Oa → Nat → Nat → Int → Int → Heap → Option R):Option R :=
hfad 0 p307 fun p314 =>
ldI .i64 H p314 fun n315 =>
bif decide (n315 > 0) then (hfad 0 p307 fun p316 =>
ldI .i64 H p316 fun n317 =>
hfad 1 p307 fun p318 =>
ldI .i64 H p318 fun n319 =>
tagtree_New n317 n319 H fun p320 n321 H322 =>
hfad 1 p308 fun p323 =>
hst1 H322 p323 (.pointer p320) fun H324 =>
hfad 0 p307 fun p325 =>
ldI .i64 H324 p325 fun n326 =>
hfad 1 p307 fun p327 =>
ldI .i64 H324 p327 fun n328 =>
tagtree_New n326 n328 H324 fun p329 n330 H331 =>
hfad 2 p308 fun p332 =>
hst1 H331 p332 (.pointer p329) fun H333 =>
KN q302 l303 c304 p305 n306 p307 p308 q309 l310 c311 n312 n313 H333)
 else (KN q302 l303 c304 p305 n306 p307 p308 q309 l310 c311 n312 n313 H)
def pkthead_New_p6 {R:Type} (k:Nat) (q302:Oa) (l303:Nat) (c304:Nat) (p305:Oa) (n306:Int) (p307:Oa) (p308:Oa) (q309:Oa) (l310:Nat) (c311:Nat) (n312:Int) (n313:Int) (H:Heap) (KN:Oa → Nat → Nat → Oa → Int → Oa → Oa → Oa → Nat → Nat → Int → Int → Heap → Option R):Option R:=pkthead_New_p6_b (tagtree_New k) k q302 l303 c304 p305 n306 p307 p308 q309 l310 c311 n312 n313 H KN
abbrev pkthead_New_l7_t (R:Type):Type:=(Oa → Nat → Nat → Oa → Oa → Nat → Nat → Int → Int → Heap → Option R) → Nat → Oa → Nat → Nat → Oa → Int → Oa → Oa → Nat → Nat → Int → Int → Int → Int → Heap → Option R
def pkthead_New_l7_b {R:Type} (rec:Oa → Nat → Nat → Oa → Int → Oa → Oa → Nat → Nat → Int → Int → Int → Int → Heap → Option R) (KE4:Oa → Nat → Nat → Oa → Oa → Nat → Nat → Int → Int → Heap → Option R) (k:Nat) (q380:Oa) (l381:Nat) (c382:Nat) (p383:Oa) (n384:Int) (p385:Oa) (q386:Oa) (l387:Nat) (c388:Nat) (n389:Int) (n390:Int) (n391:Int) (n392:Int) (H:Heap):Option R :=
bif decide (n392 < n391) then (hnil p383 fun p393 =>
hfad 9 p393 fun p394 =>
ldL H p394 fun q395 l396 c397 =>
hfad 0 p385 fun p398 =>
ldI .i64 H p398 fun n399 =>
hbin .rem .i64 n392 n399 fun n400 =>
hfad 0 p385 fun p401 =>
ldI .i64 H p401 fun n402 =>
hbin .quo .i64 n392 n402 fun n403 =>
hal H [.int .i64 n384,.int .i64 n400,.int .i64 n403,.bool false,.int .i64 0,.int .i64 0,.int .i64 0,.int .i64 3,.int .i64 0,.int .i64 0] fun p404 H405 =>
happS 10 80 H405 q395 l396 c397 p404 1 fun q406 l407 c408 H409 =>
hnil p383 fun p410 =>
hfad 9 p410 fun p411 =>
hst1 H409 p411 (.slice q406 l407 c408) fun H412 =>
rec q380 l381 c382 p383 n384 p385 q386 l387 c388 n389 n390 n391 (IntKind.wrap .i64 (n392 + 1)) H412)
 else (KE4 q380 l381 c382 p383 q386 l387 c388 n389 n390 H)
def pkthead_New_l7 {R:Type} (k:Nat) (KE4:Oa → Nat → Nat → Oa → Oa → Nat → Nat → Int → Int → Heap → Option R):Nat → Oa → Nat → Nat → Oa → Int → Oa → Oa → Nat → Nat → Int → Int → Int → Int → Heap → Option R
  | 0,_,_,_,_,_,_,_,_,_,_,_,_,_,_ => none
  | n + 1,q380,l381,c382,p383,n384,p385,q386,l387,c388,n389,n390,n391,n392,H => pkthead_New_l7_b (pkthead_New_l7 k KE4 n) KE4 k q380 l381 c382 p383 n384 p385 q386 l387 c388 n389 n390 n391 n392 H
abbrev pkthead_New_l5_t (R:Type):Type:=(Oa → Heap → Option R) → Nat → Oa → Nat → Nat → Oa → Oa → Nat → Nat → Int → Int → Heap → Option R
def pkthead_New_l5_b {R:Type} (pkthead_New_p6:pkthead_New_p6_t R) (pkthead_New_l7:pkthead_New_l7_t R) (rec:Oa → Nat → Nat → Oa → Oa → Nat → Nat → Int → Int → Heap → Option R) (KE2:Oa → Heap → Option R) (k:Nat) (q282:Oa) (l283:Nat) (c284:Nat) (p285:Oa) (q286:Oa) (l287:Nat) (c288:Nat) (n289:Int) (n290:Int) (H:Heap):Option R :=
bif decide (n290 < n289) then (hidx q286 l287 n290 2 fun p291 =>
ldI .i64 H (pad p291 0) fun n292 =>
ldI .i64 H (pad p291 1) fun n293 =>
hal H [.int .i64 0,.int .i64 0] fun p294 H295 =>
hst H295 p294 [.int .i64 n292,.int .i64 n293] fun H296 =>
hidx q282 l283 n290 1 fun p297 =>
ldI .i64 H296 p297 fun n298 =>
hal H296 [.int .i64 0,.pointer none,.pointer none] fun p299 H300 =>
hst H300 p299 [.int .i64 n298,.pointer none,.pointer none] fun H301 =>
pkthead_New_p6 q282 l283 c284 p285 n290 p294 p299 q286 l287 c288 n289 n290 H301 (fun q346 l347 c348 p349 n350 p351 p352 q353 l354 c355 n356 n357 H358 =>
hnil p349 fun p359 =>
hfad 8 p359 fun p360 =>
ldL H358 p360 fun q361 l362 c363 =>
ldI .i64 H358 (pad p352 0) fun n364 =>
ldP H358 (pad p352 1) fun p365 =>
ldP H358 (pad p352 2) fun p366 =>
hal H358 [.int .i64 n364,.pointer p365,.pointer p366] fun p367 H368 =>
happS 3 24 H368 q361 l362 c363 p367 1 fun q369 l370 c371 H372 =>
hnil p349 fun p373 =>
hfad 8 p373 fun p374 =>
hst1 H372 p374 (.slice q369 l370 c371) fun H375 =>
hfad 0 p351 fun p376 =>
ldI .i64 H375 p376 fun n377 =>
hfad 1 p351 fun p378 =>
ldI .i64 H375 p378 fun n379 =>
pkthead_New_l7 (fun q422 l423 c424 p425 q426 l427 c428 n429 n430 H431 =>
rec q422 l423 c424 p425 q426 l427 c428 n429 (IntKind.wrap .i64 (n430 + 1)) H431) k q346 l347 c348 p349 n350 p351 q353 l354 c355 n356 n357 (IntKind.wrap .i64 (n377 * n379)) 0 H375))
 else (KE2 p285 H)
def pkthead_New_l5 {R:Type} (k:Nat) (KE2:Oa → Heap → Option R):Nat → Oa → Nat → Nat → Oa → Oa → Nat → Nat → Int → Int → Heap → Option R
  | 0,_,_,_,_,_,_,_,_,_,_ => none
  | n + 1,q282,l283,c284,p285,q286,l287,c288,n289,n290,H => pkthead_New_l5_b (pkthead_New_p6 k) (pkthead_New_l7 k) (pkthead_New_l5 k KE2 n) KE2 k q282 l283 c284 p285 q286 l287 c288 n289 n290 H
abbrev pkthead_New_t (R:Type):Type:=Oa → Nat → Nat → Oa → Nat → Nat → Bool → Bool → Bool → Bool → Bool → Heap → (Oa → Int → Heap → Option R) → Option R
def pkthead_New_b {R:Type} (pkthead_New_p0:pkthead_New_p0_t R) (pkthead_New_l1:pkthead_New_l1_t R) (pkthead_New_l5:pkthead_New_l5_t R) (k:Nat) (q31:Oa) (l32:Nat) (c33:Nat) (q34:Oa) (l35:Nat) (c36:Nat) (t37:Bool) (t38:Bool) (t39:Bool) (t40:Bool) (t41:Bool) (H:Heap) (K:Oa → Int → Heap → Option R):Option R :=
hal H [.bool t37,.bool t38,.bool t39,.bool t40,.bool t41] fun p42 H43 =>
pkthead_New_p0 q31 l32 c33 q34 l35 c36 p42 (fun q60 l61 c62 q63 l64 c65 p66 =>
pkthead_New_l1 (fun q266 l267 c268 q269 l270 c271 p272 n273 H274 =>
bif decide (n273 > 65536) then (K none 5 H274)
 else (ldB H274 (pad p272 0) fun t275 =>
ldB H274 (pad p272 1) fun t276 =>
ldB H274 (pad p272 2) fun t277 =>
ldB H274 (pad p272 3) fun t278 =>
ldB H274 (pad p272 4) fun t279 =>
hal H274 [.bool true,.bool false,.bool false,.bool t275,.bool t276,.bool t277,.bool t278,.bool t279,.slice none 0 0,.slice none 0 0,.int .i64 0] fun p280 H281 =>
pkthead_New_l5 (fun p433 H434 =>
K p433 0 H434) k q269 l270 c271 p280 q266 l267 c268 ((l267:Nat):Int) 0 H281)) (fun p435 n436 H437 =>
K p435 n436 H437) k q60 l61 c62 q63 l64 c65 p66 0 q60 l61 c62 ((l61:Nat):Int) 0 H43) (fun p438 n439 =>
K p438 n439 H43)
def pkthead_New {R:Type} (k:Nat) (q31:Oa) (l32:Nat) (c33:Nat) (q34:Oa) (l35:Nat) (c36:Nat) (t37:Bool) (t38:Bool) (t39:Bool) (t40:Bool) (t41:Bool) (H:Heap) (K:Oa → Int → Heap → Option R):Option R:=pkthead_New_b (pkthead_New_p0 k) (pkthead_New_l1 k) (pkthead_New_l5 k) k q31 l32 c33 q34 l35 c36 t37 t38 t39 t40 t41 H K
def pkthead_New_Ct {R:Type} (tagtree_New:tagtree_New_t R):Tab R:=tcons 28 (tagtree_New_ca tagtree_New) <| fun _ _ _ _ => none
def pkthead_New_C (R:Type) (k:Nat):Tab R:=pkthead_New_Ct (tagtree_New k)
theorem pkthead_New_S (R:Type) (k:Nat):CSound Try.prog (pkthead_New_C R k):=csound_cons (tagtree_New_cs R k) <| csound_nil
def pkthead_New_aa0 {R:Type} (f:pkthead_New_p0_t R) (n:Nat) (vals:List Value) (H:Heap) (K:Xit → Env → Heap → Option R):Option R :=
  match vals with
  | [.slice q44 l45 c46,.slice q47 l48 c49,.pointer p50] => f q44 l45 c46 q47 l48 c49 p50 (fun q1105 l1106 c1107 q1108 l1109 c1110 p1111 => K .normal [(0,.slice q1105 l1106 c1107),(1,.slice q1108 l1109 c1110),(5,.pointer p1111)] H) (fun p1112 n1113 => K .ret [(6,.pointer p1112),(7,.int .i64 n1113)] H)
  | _ => none
def pkthead_New_a0 (R:Type) (k n:Nat) (vals:List Value) (H:Heap) (K:Xit → Env → Heap → Option R):Option R:=pkthead_New_aa0 (pkthead_New_p0 k) n vals H K
def pkthead_New_aa1 {R:Type} (f:pkthead_New_l1_t R) (n:Nat) (vals:List Value) (H:Heap) (K:Xit → Env → Heap → Option R):Option R :=
  match vals with
  | [.slice q67 l68 c69,.slice q70 l71 c72,.pointer p73,.int .i64 n74,.slice q75 l76 c77,.int .i64 n78,.int .i64 n79] => f (fun q1114 l1115 c1116 q1117 l1118 c1119 p1120 n1121 H => K (.exit 0) [(0,.slice q1114 l1115 c1116),(1,.slice q1117 l1118 c1119),(5,.pointer p1120),(8,.int .i64 n1121)] H) (fun p1122 n1123 H => K .ret [(6,.pointer p1122),(7,.int .i64 n1123)] H) n q67 l68 c69 q70 l71 c72 p73 n74 q75 l76 c77 n78 n79 H
  | _ => none
def pkthead_New_a1 (R:Type) (k n:Nat) (vals:List Value) (H:Heap) (K:Xit → Env → Heap → Option R):Option R:=pkthead_New_aa1 (pkthead_New_l1 k) n vals H K
def pkthead_New_aa2 {R:Type} (f:pkthead_New_p2_t R) (n:Nat) (vals:List Value) (H:Heap) (K:Xit → Env → Heap → Option R):Option R :=
  match vals with
  | [.slice q86 l87 c88,.slice q89 l90 c91,.pointer p92,.int .i64 n93,.int .i64 n94,.pointer p95,.slice q96 l97 c98,.int .i64 n99,.int .i64 n100] => f q86 l87 c88 q89 l90 c91 p92 n93 n94 p95 q96 l97 c98 n99 n100 H (fun q1124 l1125 c1126 q1127 l1128 c1129 p1130 n1131 n1132 p1133 t1134 q1135 l1136 c1137 n1138 n1139 => K .normal [(0,.slice q1124 l1125 c1126),(1,.slice q1127 l1128 c1129),(5,.pointer p1130),(8,.int .i64 n1131),(9,.int .i64 n1132),(10,.pointer p1133),(11,.bool t1134),(28,.slice q1135 l1136 c1137),(29,.int .i64 n1138),(30,.int .i64 n1139)] H)
  | _ => none
def pkthead_New_a2 (R:Type) (k n:Nat) (vals:List Value) (H:Heap) (K:Xit → Env → Heap → Option R):Option R:=pkthead_New_aa2 (pkthead_New_p2 k) n vals H K
def pkthead_New_aa3 {R:Type} (f:pkthead_New_p3_t R) (n:Nat) (vals:List Value) (H:Heap) (K:Xit → Env → Heap → Option R):Option R :=
  match vals with
  | [.slice q137 l138 c139,.slice q140 l141 c142,.pointer p143,.int .i64 n144,.int .i64 n145,.pointer p146,.bool t147,.slice q148 l149 c150,.int .i64 n151,.int .i64 n152] => f q137 l138 c139 q140 l141 c142 p143 n144 n145 p146 t147 q148 l149 c150 n151 n152 H (fun q1140 l1141 c1142 q1143 l1144 c1145 p1146 n1147 n1148 p1149 t1150 t1151 q1152 l1153 c1154 n1155 n1156 => K .normal [(0,.slice q1140 l1141 c1142),(1,.slice q1143 l1144 c1145),(5,.pointer p1146),(8,.int .i64 n1147),(9,.int .i64 n1148),(10,.pointer p1149),(11,.bool t1150),(12,.bool t1151),(28,.slice q1152 l1153 c1154),(29,.int .i64 n1155),(30,.int .i64 n1156)] H)
  | _ => none
def pkthead_New_a3 (R:Type) (k n:Nat) (vals:List Value) (H:Heap) (K:Xit → Env → Heap → Option R):Option R:=pkthead_New_aa3 (pkthead_New_p3 k) n vals H K
def pkthead_New_aa4 {R:Type} (f:pkthead_New_p4_t R) (n:Nat) (vals:List Value) (H:Heap) (K:Xit → Env → Heap → Option R):Option R :=
  match vals with
  | [.slice q195 l196 c197,.slice q198 l199 c200,.pointer p201,.int .i64 n202,.int .i64 n203,.pointer p204,.bool t205,.bool t206,.slice q207 l208 c209,.int .i64 n210,.int .i64 n211] => f q195 l196 c197 q198 l199 c200 p201 n202 n203 p204 t205 t206 q207 l208 c209 n210 n211 H (fun q1157 l1158 c1159 q1160 l1161 c1162 p1163 n1164 p1165 q1166 l1167 c1168 n1169 n1170 => K .normal [(0,.slice q1157 l1158 c1159),(1,.slice q1160 l1161 c1162),(5,.pointer p1163),(8,.int .i64 n1164),(10,.pointer p1165),(28,.slice q1166 l1167 c1168),(29,.int .i64 n1169),(30,.int .i64 n1170)] H) (fun p1171 n1172 => K .ret [(6,.pointer p1171),(7,.int .i64 n1172)] H)
  | _ => none
def pkthead_New_a4 (R:Type) (k n:Nat) (vals:List Value) (H:Heap) (K:Xit → Env → Heap → Option R):Option R:=pkthead_New_aa4 (pkthead_New_p4 k) n vals H K
def pkthead_New_aa5 {R:Type} (f:pkthead_New_l5_t R) (n:Nat) (vals:List Value) (H:Heap) (K:Xit → Env → Heap → Option R):Option R :=
  match vals with
  | [.slice q282 l283 c284,.pointer p285,.slice q286 l287 c288,.int .i64 n289,.int .i64 n290] => f (fun p1173 H => K (.exit 2) [(13,.pointer p1173)] H) n q282 l283 c284 p285 q286 l287 c288 n289 n290 H
  | _ => none
def pkthead_New_a5 (R:Type) (k n:Nat) (vals:List Value) (H:Heap) (K:Xit → Env → Heap → Option R):Option R:=pkthead_New_aa5 (pkthead_New_l5 k) n vals H K
def pkthead_New_aa6 {R:Type} (f:pkthead_New_p6_t R) (n:Nat) (vals:List Value) (H:Heap) (K:Xit → Env → Heap → Option R):Option R :=
  match vals with
  | [.slice q302 l303 c304,.pointer p305,.int .i64 n306,.pointer p307,.pointer p308,.slice q309 l310 c311,.int .i64 n312,.int .i64 n313] => f q302 l303 c304 p305 n306 p307 p308 q309 l310 c311 n312 n313 H (fun q1174 l1175 c1176 p1177 n1178 p1179 p1180 q1181 l1182 c1183 n1184 n1185 H => K .normal [(1,.slice q1174 l1175 c1176),(13,.pointer p1177),(14,.int .i64 n1178),(15,.pointer p1179),(16,.pointer p1180),(94,.slice q1181 l1182 c1183),(95,.int .i64 n1184),(96,.int .i64 n1185)] H)
  | _ => none
def pkthead_New_a6 (R:Type) (k n:Nat) (vals:List Value) (H:Heap) (K:Xit → Env → Heap → Option R):Option R:=pkthead_New_aa6 (pkthead_New_p6 k) n vals H K
def pkthead_New_aa7 {R:Type} (f:pkthead_New_l7_t R) (n:Nat) (vals:List Value) (H:Heap) (K:Xit → Env → Heap → Option R):Option R :=
  match vals with
  | [.slice q380 l381 c382,.pointer p383,.int .i64 n384,.pointer p385,.slice q386 l387 c388,.int .i64 n389,.int .i64 n390,.int .i64 n391,.int .i64 n392] => f (fun q1186 l1187 c1188 p1189 q1190 l1191 c1192 n1193 n1194 H => K (.exit 4) [(1,.slice q1186 l1187 c1188),(13,.pointer p1189),(94,.slice q1190 l1191 c1192),(95,.int .i64 n1193),(96,.int .i64 n1194)] H) n q380 l381 c382 p383 n384 p385 q386 l387 c388 n389 n390 n391 n392 H
  | _ => none
def pkthead_New_a7 (R:Type) (k n:Nat) (vals:List Value) (H:Heap) (K:Xit → Env → Heap → Option R):Option R:=pkthead_New_aa7 (pkthead_New_l7 k) n vals H K
def pkthead_New_Jt {R:Type} (k:Nat) (pkthead_New_p0:pkthead_New_p0_t R) (pkthead_New_l1:pkthead_New_l1_t R) (pkthead_New_p2:pkthead_New_p2_t R) (pkthead_New_p3:pkthead_New_p3_t R) (pkthead_New_p4:pkthead_New_p4_t R) (pkthead_New_l5:pkthead_New_l5_t R) (pkthead_New_p6:pkthead_New_p6_t R) (pkthead_New_l7:pkthead_New_l7_t R):JTab R:=tcons 0 (pkthead_New_aa0 pkthead_New_p0 k) <| tcons 1 (pkthead_New_aa1 pkthead_New_l1 k) <| tcons 2 (pkthead_New_aa2 pkthead_New_p2 k) <| tcons 3 (pkthead_New_aa3 pkthead_New_p3 k) <| tcons 4 (pkthead_New_aa4 pkthead_New_p4 k) <| tcons 5 (pkthead_New_aa5 pkthead_New_l5 k) <| tcons 6 (pkthead_New_aa6 pkthead_New_p6 k) <| tcons 7 (pkthead_New_aa7 pkthead_New_l7 k) <| fun _ _ _ _ => none
def pkthead_New_J (R:Type) (k:Nat):JTab R:=pkthead_New_Jt k (pkthead_New_p0 k) (pkthead_New_l1 k) (pkthead_New_p2 k) (pkthead_New_p3 k) (pkthead_New_p4 k) (pkthead_New_l5 k) (pkthead_New_p6 k) (pkthead_New_l7 k)
def pkthead_New_at:AT:=(.seq (.reg [0,1,5] []) (.seq (.opq 0 [0,1,5] ⟨[0,1,5],[],[6,7]⟩ (.seq (.reg [0,1,5,27] []) (.cond (.seq (.reg [6,7] []) .leaf) .leaf))) (.seq (.reg [0,1,5,8] []) (.seq (.seq (.reg [0,1,5,8,28,29,30] []) (.node (.opq 1 [0,1,5,8,28,29,30] ⟨[],[(0,[0,1,5,8])],[6,7]⟩ (.node (.seq (.reg [0,1,5,8,28,29,30,31] []) (.seq (.cond .leaf .leaf) (.seq (.node (.seq (.reg [0,1,5,8,9,10,28,29,30] []) (.seq (.opq 2 [0,1,5,8,9,10,28,29,30] ⟨[0,1,5,8,9,10,11,28,29,30],[],[]⟩ (.reg [0,1,5,8,9,10,11,28,29,30] [])) (.seq (.opq 3 [0,1,5,8,9,10,11,28,29,30] ⟨[0,1,5,8,9,10,11,12,28,29,30],[],[]⟩ (.reg [0,1,5,8,9,10,11,12,28,29,30] [])) (.seq (.opq 4 [0,1,5,8,9,10,11,12,28,29,30] ⟨[0,1,5,8,10,28,29,30],[],[6,7]⟩ (.seq (.reg [0,1,5,8,10,28,29,30,80] []) (.cond (.seq (.reg [6,7] []) .leaf) .leaf))) (.reg [0,1,5,8,28,29,30] [])))))) (.reg [0,1,5,8,28,29,30] [])))))))) (.seq (.seq (.reg [0,1,5,90] []) (.cond (.seq (.reg [6,7] []) .leaf) .leaf)) (.seq (.reg [0,1,13] []) (.seq (.seq (.reg [1,13,94,95,96] []) (.node (.opq 5 [1,13,94,95,96] ⟨[],[(2,[13])],[]⟩ (.node (.seq (.reg [1,13,94,95,96,97] []) (.seq (.cond .leaf .leaf) (.seq (.node (.seq (.reg [1,13,14,15,94,95,96] []) (.seq (.reg [1,13,14,15,16,94,95,96] []) (.seq (.opq 6 [1,13,14,15,16,94,95,96] ⟨[1,13,14,15,16,94,95,96],[],[]⟩ (.seq (.reg [1,13,14,15,16,94,95,96,108] []) (.cond (.seq (.reg [1,13,14,15,16,94,95,96] []) (.reg [1,13,14,15,16,94,95,96] [])) .leaf))) (.seq (.reg [1,13,14,15,94,95,96] [[],[],[1],[1,2],[1,2,3],[],[5],[1,2,3,4,5,6],[0,1,2,3,4,5,6,7],[0,1,2,3,4,5,6,7,8],[0,1,2,3,4,5,6,7,8,9]]) (.seq (.reg [1,13,14,15,94,95,96,141,142] []) (.node (.opq 7 [1,13,14,15,94,95,96,141,142] ⟨[],[(4,[1,13,94,95,96])],[]⟩ (.node (.seq (.reg [1,13,14,15,94,95,96,141,142,143] []) (.seq (.cond .leaf .leaf) (.seq (.node (.seq (.reg [1,13,14,15,17,94,95,96,141,142] []) (.reg [1,13,14,15,94,95,96,141,142] [[],[],[1],[1,2],[1,2,3],[],[],[],[7],[6,7,8],[],[],[11],[10,11,12],[5,6,7,8,9,10,11,12,13],[5,6,7,8,9,10,11,12,13,14],[1,2,3,4,5,6,7,8,9,10,11,12,13,14,15],[0,1,2,3,4,5,6,7,8,9,10,11,12,13,14,15,16],[0,1,2,3,4,5,6,7,8,9,10,11,12,13,14,15,16,17],[0,1,2,3,4,5,6,7,8,9,10,11,12,13,14,15,16,17,18]]))) (.reg [1,13,14,15,94,95,96,141,142] []))))))))))))) (.reg [1,13,94,95,96] [])))))))) (.seq (.reg [6,7] []) .leaf))))))))
def pkthead_New_i7:IC:=(.seq (.reg [⟨some 143,.cmp .lss (.t 142) (.t 141),none⟩] [1,13,14,15,94,95,96,141,142,143]) (.seq (.cond (.t 143) .skip (.exit 4)) (.seq (.block 5 (.seq (.reg [⟨some 144,.mov (.t 142),none⟩,
⟨some 17,.mov (.t 144),none⟩] [1,13,14,15,17,94,95,96,141,142]) (.reg [⟨some 145,.mov (.t 13),none⟩,
⟨some 146,.mov (.t 13),none⟩,
⟨some 147,.nilc (.t 146),none⟩,
⟨some 148,.fad 9 (.t 147),none⟩,
⟨some 149,.ld (.sc .slc) (.t 148),none⟩,
⟨some 150,.mov (.t 14),none⟩,
⟨some 151,.mov (.t 17),none⟩,
⟨some 152,.fad 0 (.t 15),none⟩,
⟨some 153,.ld (.sc (.int .i64)) (.t 152),none⟩,
⟨some 154,.bin .rem .i64 (.t 151) (.t 153),none⟩,
⟨some 155,.mov (.t 17),none⟩,
⟨some 156,.fad 0 (.t 15),none⟩,
⟨some 157,.ld (.sc (.int .i64)) (.t 156),none⟩,
⟨some 158,.bin .quo .i64 (.t 155) (.t 157),none⟩,
⟨some 159,.bld [.int .i64 0,.int .i64 0,.int .i64 0,.bool false,.int .i64 0,.int .i64 0,.int .i64 0,.int .i64 0,.int .i64 0,.int .i64 0] [(0,1,(.t 150)),(1,1,(.t 154)),(2,1,(.t 158)),(7,1,(.c (Go.Value.int Go.IntKind.i64 3)))],none⟩,
⟨some 160,.bls 1 [.int .i64 0,.int .i64 0,.int .i64 0,.bool false,.int .i64 0,.int .i64 0,.int .i64 0,.int .i64 0,.int .i64 0,.int .i64 0] [(0,10,(.t 159))],none⟩,
⟨some 161,.app [.int .i64 0,.int .i64 0,.int .i64 0,.bool false,.int .i64 0,.int .i64 0,.int .i64 0,.int .i64 0,.int .i64 0,.int .i64 0] 80 (.t 149) (.t 160),none⟩,
⟨some 162,.nilc (.t 145),none⟩,
⟨some 163,.fad 9 (.t 162),none⟩,
⟨none,.st 1 (.t 163) (.t 161),none⟩] [1,13,14,15,94,95,96,141,142]))) (.reg [⟨some 164,.bin .add .i64 (.t 142) (.c (Go.Value.int Go.IntKind.i64 1)),none⟩,
⟨some 142,.mov (.t 164),none⟩] [1,13,14,15,94,95,96,141,142]))))
def pkthead_New_i6:IC:=(.seq (.reg [⟨some 106,.fad 0 (.t 15),none⟩,
⟨some 107,.ld (.sc (.int .i64)) (.t 106),none⟩,
⟨some 108,.cmp .gtr (.t 107) (.c (Go.Value.int Go.IntKind.i64 0)),none⟩] [1,13,14,15,16,94,95,96,108]) (.cond (.t 108) (.seq (.reg [⟨some 110,.fad 0 (.t 15),none⟩,
⟨some 111,.ld (.sc (.int .i64)) (.t 110),none⟩,
⟨some 112,.fad 1 (.t 15),none⟩,
⟨some 113,.ld (.sc (.int .i64)) (.t 112),none⟩,
⟨some 114,.call 28 [(.t 111),(.t 113)] (.tup [(.sc .ptr),(.sc (.int .i64))]),none⟩,
⟨some 109,.mov (.t 114),none⟩,
⟨some 115,.ext 0 (.t 109),none⟩,
⟨some 116,.ext 1 (.t 109),none⟩,
⟨some 117,.fad 1 (.t 16),none⟩,
⟨none,.st 1 (.t 117) (.t 115),none⟩] [1,13,14,15,16,94,95,96]) (.reg [⟨some 119,.fad 0 (.t 15),none⟩,
⟨some 120,.ld (.sc (.int .i64)) (.t 119),none⟩,
⟨some 121,.fad 1 (.t 15),none⟩,
⟨some 122,.ld (.sc (.int .i64)) (.t 121),none⟩,
⟨some 123,.call 28 [(.t 120),(.t 122)] (.tup [(.sc .ptr),(.sc (.int .i64))]),none⟩,
⟨some 118,.mov (.t 123),none⟩,
⟨some 124,.ext 0 (.t 118),none⟩,
⟨some 125,.ext 1 (.t 118),none⟩,
⟨some 126,.fad 2 (.t 16),none⟩,
⟨none,.st 1 (.t 126) (.t 124),none⟩] [1,13,14,15,16,94,95,96])) .skip))
def pkthead_New_i5:IC:=(.seq (.reg [⟨some 97,.cmp .lss (.t 96) (.t 95),none⟩] [1,13,94,95,96,97]) (.seq (.cond (.t 97) .skip (.exit 2)) (.seq (.block 3 (.seq (.reg [⟨some 98,.mov (.t 96),none⟩,
⟨some 99,.ids 2 (.t 94) (.t 96),none⟩,
⟨some 100,.ld (.agg [(.int .i64),(.int .i64)]) (.t 99),none⟩,
⟨some 15,.alc [.int .i64 0,.int .i64 0],none⟩,
⟨some 14,.mov (.t 98),none⟩,
⟨none,.st 2 (.t 15) (.t 100),none⟩] [1,13,14,15,94,95,96]) (.seq (.reg [⟨some 101,.mov (.t 1),none⟩,
⟨some 102,.mov (.t 14),none⟩,
⟨some 103,.ids 1 (.t 101) (.t 102),none⟩,
⟨some 104,.ld (.sc (.int .i64)) (.t 103),none⟩,
⟨some 105,.bld [.int .i64 0,.pointer none,.pointer none] [(0,1,(.t 104))],none⟩,
⟨some 16,.alc [.int .i64 0,.pointer none,.pointer none],none⟩,
⟨none,.st 3 (.t 16) (.t 105),none⟩] [1,13,14,15,16,94,95,96]) (.seq (.opq 6 [1,13,14,15,16,94,95,96] pkthead_New_i6) (.seq (.reg [⟨some 127,.mov (.t 13),none⟩,
⟨some 128,.mov (.t 13),none⟩,
⟨some 129,.nilc (.t 128),none⟩,
⟨some 130,.fad 8 (.t 129),none⟩,
⟨some 131,.ld (.sc .slc) (.t 130),none⟩,
⟨some 132,.ld (.agg [(.int .i64),.ptr,.ptr]) (.t 16),none⟩,
⟨some 133,.bls 1 [.int .i64 0,.pointer none,.pointer none] [(0,3,(.t 132))],none⟩,
⟨some 134,.app [.int .i64 0,.pointer none,.pointer none] 24 (.t 131) (.t 133),none⟩,
⟨some 135,.nilc (.t 127),none⟩,
⟨some 136,.fad 8 (.t 135),none⟩,
⟨none,.st 1 (.t 136) (.t 134),none⟩] [1,13,14,15,94,95,96]) (.seq (.reg [⟨some 137,.fad 0 (.t 15),none⟩,
⟨some 138,.ld (.sc (.int .i64)) (.t 137),none⟩,
⟨some 139,.fad 1 (.t 15),none⟩,
⟨some 140,.ld (.sc (.int .i64)) (.t 139),none⟩,
⟨some 141,.bin .mul .i64 (.t 138) (.t 140),none⟩,
⟨some 142,.mov (.c (Go.Value.int Go.IntKind.i64 0)),none⟩] [1,13,14,15,94,95,96,141,142]) (.block 4 (.opq 7 [1,13,14,15,94,95,96,141,142] (.loop pkthead_New_i7))))))))) (.reg [⟨some 165,.bin .add .i64 (.t 96) (.c (Go.Value.int Go.IntKind.i64 1)),none⟩,
⟨some 96,.mov (.t 165),none⟩] [1,13,94,95,96]))))
def pkthead_New_i4:IC:=(.seq (.reg [⟨some 61,.mov (.t 11),none⟩,
⟨some 62,.lnot (.t 61),none⟩,
⟨some 63,.mov (.t 62),none⟩,
⟨some 64,.mov (.t 12),some (63,true)⟩,
⟨some 65,.lnot (.t 64),some (63,true)⟩,
⟨some 66,.pick (.t 63) (.t 65) (.c (Go.Value.bool false)),none⟩,
⟨some 67,.mov (.t 66),none⟩,
⟨some 68,.mov (.t 1),some (67,false)⟩,
⟨some 69,.mov (.t 9),some (67,false)⟩,
⟨some 70,.ids 1 (.t 68) (.t 69),some (67,false)⟩,
⟨some 71,.ld (.sc (.int .i64)) (.t 70),some (67,false)⟩,
⟨some 72,.cmp .lss (.t 71) (.c (Go.Value.int Go.IntKind.i64 0)),some (67,false)⟩,
⟨some 73,.pick (.t 67) (.c (Go.Value.bool true)) (.t 72),none⟩,
⟨some 74,.mov (.t 73),none⟩,
⟨some 75,.mov (.t 1),some (74,false)⟩,
⟨some 76,.mov (.t 9),some (74,false)⟩,
⟨some 77,.ids 1 (.t 75) (.t 76),some (74,false)⟩,
⟨some 78,.ld (.sc (.int .i64)) (.t 77),some (74,false)⟩,
⟨some 79,.cmp .gtr (.t 78) (.c (Go.Value.int Go.IntKind.i64 60)),some (74,false)⟩,
⟨some 80,.pick (.t 74) (.c (Go.Value.bool true)) (.t 79),none⟩] [0,1,5,8,10,28,29,30,80]) (.cond (.t 80) (.seq (.reg [⟨some 6,.mov (.c (Go.Value.pointer none)),none⟩,
⟨some 7,.mov (.c (Go.Value.int Go.IntKind.i64 2)),none⟩] [6,7]) .ret) .skip))
def pkthead_New_i3:IC:=(.reg [⟨some 43,.fad 0 (.t 10),none⟩,
⟨some 44,.ld (.sc (.int .i64)) (.t 43),none⟩,
⟨some 45,.cmp .geq (.t 44) (.c (Go.Value.int Go.IntKind.i64 1)),none⟩,
⟨some 46,.mov (.t 45),none⟩,
⟨some 47,.fad 0 (.t 10),some (46,true)⟩,
⟨some 48,.ld (.sc (.int .i64)) (.t 47),some (46,true)⟩,
⟨some 49,.cmp .leq (.t 48) (.c (Go.Value.int Go.IntKind.i64 4096)),some (46,true)⟩,
⟨some 50,.pick (.t 46) (.t 49) (.c (Go.Value.bool false)),none⟩,
⟨some 51,.mov (.t 50),none⟩,
⟨some 52,.fad 1 (.t 10),some (51,true)⟩,
⟨some 53,.ld (.sc (.int .i64)) (.t 52),some (51,true)⟩,
⟨some 54,.cmp .geq (.t 53) (.c (Go.Value.int Go.IntKind.i64 1)),some (51,true)⟩,
⟨some 55,.pick (.t 51) (.t 54) (.c (Go.Value.bool false)),none⟩,
⟨some 56,.mov (.t 55),none⟩,
⟨some 57,.fad 1 (.t 10),some (56,true)⟩,
⟨some 58,.ld (.sc (.int .i64)) (.t 57),some (56,true)⟩,
⟨some 59,.cmp .leq (.t 58) (.c (Go.Value.int Go.IntKind.i64 4096)),some (56,true)⟩,
⟨some 60,.pick (.t 56) (.t 59) (.c (Go.Value.bool false)),none⟩,
⟨some 12,.mov (.t 60),none⟩] [0,1,5,8,9,10,11,12,28,29,30])
def pkthead_New_i2:IC:=(.reg [⟨some 35,.fad 0 (.t 10),none⟩,
⟨some 36,.ld (.sc (.int .i64)) (.t 35),none⟩,
⟨some 37,.cmp .eql (.t 36) (.c (Go.Value.int Go.IntKind.i64 0)),none⟩,
⟨some 38,.mov (.t 37),none⟩,
⟨some 39,.fad 1 (.t 10),some (38,true)⟩,
⟨some 40,.ld (.sc (.int .i64)) (.t 39),some (38,true)⟩,
⟨some 41,.cmp .eql (.t 40) (.c (Go.Value.int Go.IntKind.i64 0)),some (38,true)⟩,
⟨some 42,.pick (.t 38) (.t 41) (.c (Go.Value.bool false)),none⟩,
⟨some 11,.mov (.t 42),none⟩] [0,1,5,8,9,10,11,28,29,30])
def pkthead_New_i1:IC:=(.seq (.reg [⟨some 31,.cmp .lss (.t 30) (.t 29),none⟩] [0,1,5,8,28,29,30,31]) (.seq (.cond (.t 31) .skip (.exit 0)) (.seq (.block 1 (.seq (.reg [⟨some 32,.mov (.t 30),none⟩,
⟨some 33,.ids 2 (.t 28) (.t 30),none⟩,
⟨some 34,.ld (.agg [(.int .i64),(.int .i64)]) (.t 33),none⟩,
⟨some 10,.alc [.int .i64 0,.int .i64 0],none⟩,
⟨some 9,.mov (.t 32),none⟩,
⟨none,.st 2 (.t 10) (.t 34),none⟩] [0,1,5,8,9,10,28,29,30]) (.seq (.opq 2 [0,1,5,8,9,10,28,29,30] pkthead_New_i2) (.seq (.opq 3 [0,1,5,8,9,10,11,28,29,30] pkthead_New_i3) (.seq (.opq 4 [0,1,5,8,9,10,11,12,28,29,30] pkthead_New_i4) (.reg [⟨some 81,.mov (.t 8),none⟩,
⟨some 82,.fad 0 (.t 10),none⟩,
⟨some 83,.ld (.sc (.int .i64)) (.t 82),none⟩,
⟨some 84,.fad 1 (.t 10),none⟩,
⟨some 85,.ld (.sc (.int .i64)) (.t 84),none⟩,
⟨some 86,.bin .mul .i64 (.t 83) (.t 85),none⟩,
⟨some 87,.bin .add .i64 (.t 81) (.t 86),none⟩,
⟨some 8,.mov (.t 87),none⟩] [0,1,5,8,28,29,30])))))) (.reg [⟨some 88,.bin .add .i64 (.t 30) (.c (Go.Value.int Go.IntKind.i64 1)),none⟩,
⟨some 30,.mov (.t 88),none⟩] [0,1,5,8,28,29,30]))))
def pkthead_New_i0:IC:=(.seq (.reg [⟨some 18,.mov (.t 0),none⟩,
⟨some 19,.len false (.t 18),none⟩,
⟨some 20,.mov (.t 1),none⟩,
⟨some 21,.len false (.t 20),none⟩,
⟨some 22,.cmp .neq (.t 19) (.t 21),none⟩,
⟨some 23,.mov (.t 22),none⟩,
⟨some 24,.mov (.t 0),some (23,false)⟩,
⟨some 25,.len false (.t 24),some (23,false)⟩,
⟨some 26,.cmp .gtr (.t 25) (.c (Go.Value.int Go.IntKind.i64 3)),some (23,false)⟩,
⟨some 27,.pick (.t 23) (.c (Go.Value.bool true)) (.t 26),none⟩] [0,1,5,27]) (.cond (.t 27) (.seq (.reg [⟨some 6,.mov (.c (Go.Value.pointer none)),none⟩,
⟨some 7,.mov (.c (Go.Value.int Go.IntKind.i64 4)),none⟩] [6,7]) .ret) .skip))
def pkthead_New_f:IFn:=⟨167,[.t 6,.t 7],(.seq (.reg [⟨some 5,.box (.t 2),none⟩,
⟨some 6,.mov (.c (Go.Value.pointer none)),none⟩,
⟨some 7,.mov (.c (Go.Value.int Go.IntKind.i64 0)),none⟩] [0,1,5]) (.seq (.opq 0 [0,1,5] pkthead_New_i0) (.seq (.reg [⟨some 8,.mov (.c (Go.Value.int Go.IntKind.i64 0)),none⟩] [0,1,5,8]) (.seq (.seq (.reg [⟨some 28,.mov (.t 0),none⟩,
⟨some 29,.len false (.t 28),none⟩,
⟨some 30,.mov (.c (Go.Value.int Go.IntKind.i64 0)),none⟩] [0,1,5,8,28,29,30]) (.block 0 (.opq 1 [0,1,5,8,28,29,30] (.loop pkthead_New_i1)))) (.seq (.seq (.reg [⟨some 89,.mov (.t 8),none⟩,
⟨some 90,.cmp .gtr (.t 89) (.c (Go.Value.int Go.IntKind.i64 65536)),none⟩] [0,1,5,90]) (.cond (.t 90) (.seq (.reg [⟨some 6,.mov (.c (Go.Value.pointer none)),none⟩,
⟨some 7,.mov (.c (Go.Value.int Go.IntKind.i64 5)),none⟩] [6,7]) .ret) .skip)) (.seq (.reg [⟨some 91,.ld (.agg [.bool,.bool,.bool,.bool,.bool]) (.t 5),none⟩,
⟨some 92,.bld [.bool false,.bool false,.bool false,.bool false,.bool false,.bool false,.bool false,.bool false,.slice none 0 0,.slice none 0 0,.int .i64 0] [(0,1,(.c (Go.Value.bool true))),(3,5,(.t 91))],none⟩,
⟨some 93,.box (.t 92),none⟩,
⟨some 13,.mov (.t 93),none⟩] [0,1,13]) (.seq (.seq (.reg [⟨some 94,.mov (.t 0),none⟩,
⟨some 95,.len false (.t 94),none⟩,
⟨some 96,.mov (.c (Go.Value.int Go.IntKind.i64 0)),none⟩] [1,13,94,95,96]) (.block 2 (.opq 5 [1,13,94,95,96] (.loop pkthead_New_i5)))) (.seq (.reg [⟨some 166,.mov (.t 13),none⟩,
⟨some 6,.mov (.t 166),none⟩,
⟨some 7,.mov (.c (Go.Value.int Go.IntKind.i64 0)),none⟩] [6,7]) .ret))))))))⟩
theorem pkthead_New_e7 {R:Type} (tagtree_New:tagtree_New_t R) (pkthead_New_p0:pkthead_New_p0_t R) (pkthead_New_l1:pkthead_New_l1_t R) (pkthead_New_p2:pkthead_New_p2_t R) (pkthead_New_p3:pkthead_New_p3_t R) (pkthead_New_p4:pkthead_New_p4_t R) (pkthead_New_l5:pkthead_New_l5_t R) (pkthead_New_p6:pkthead_New_p6_t R) (pkthead_New_l7:pkthead_New_l7_t R) (k n:Nat) (q380:Oa) (l381:Nat) (c382:Nat) (p383:Oa) (n384:Int) (p385:Oa) (q386:Oa) (l387:Nat) (c388:Nat) (n389:Int) (n390:Int) (n391:Int) (n392:Int) (H:Heap) (K:Xit → Env → Heap → Option R):evJ (pkthead_New_Ct tagtree_New) (pkthead_New_Jt k pkthead_New_p0 pkthead_New_l1 pkthead_New_p2 pkthead_New_p3 pkthead_New_p4 pkthead_New_l5 pkthead_New_p6 pkthead_New_l7) pkthead_New_i7 (List.zip [1,13,14,15,94,95,96,141,142] [.slice q380 l381 c382,.pointer p383,.int .i64 n384,.pointer p385,.slice q386 l387 c388,.int .i64 n389,.int .i64 n390,.int .i64 n391,.int .i64 n392]) H (fun x e' H' => match x with | .normal => pkthead_New_aa7 pkthead_New_l7 n ((clean e' [1,13,14,15,94,95,96,141,142]).map (·.2)) H' K | x => K x (clean e' ((⟨[],[(4,[1,13,94,95,96])],[]⟩:Out).of x)) H') = pkthead_New_l7_b (pkthead_New_l7 (fun q1186 l1187 c1188 p1189 q1190 l1191 c1192 n1193 n1194 H => K (.exit 4) [(1,.slice q1186 l1187 c1188),(13,.pointer p1189),(94,.slice q1190 l1191 c1192),(95,.int .i64 n1193),(96,.int .i64 n1194)] H) n) (fun q1186 l1187 c1188 p1189 q1190 l1191 c1192 n1193 n1194 H => K (.exit 4) [(1,.slice q1186 l1187 c1188),(13,.pointer p1189),(94,.slice q1190 l1191 c1192),(95,.int .i64 n1193),(96,.int .i64 n1194)] H) k q380 l381 c382 p383 n384 p385 q386 l387 c388 n389 n390 n391 n392 H:=by kernel_rfl
theorem pkthead_New_j7 {R:Type} (k:Nat):JS Try.prog 167 (pkthead_New_a7 R k k) [1,13,14,15,94,95,96,141,142] ⟨[],[(4,[1,13,94,95,96])],[]⟩ (.loop (sel [1,1,1,1,1,1,0,1,0,0,1,1,0,0,1,1,1,1,1,0,0] (Try.f10.body.getD .skip))) :=
  loop_ok (nt:=167) (c:=(sel [1,1,1,1,1,1,0,1,0,0,1,1,0,0,1,1,1,1,1,0,0] (Try.f10.body.getD .skip))) (C:=pkthead_New_C R k) (an:=An) (t:=(.seq (.reg [1,13,14,15,94,95,96,141,142,143] []) (.seq (.cond .leaf .leaf) (.seq (.node (.seq (.reg [1,13,14,15,17,94,95,96,141,142] []) (.reg [1,13,14,15,94,95,96,141,142] [[],[],[1],[1,2],[1,2,3],[],[],[],[7],[6,7,8],[],[],[11],[10,11,12],[5,6,7,8,9,10,11,12,13],[5,6,7,8,9,10,11,12,13,14],[1,2,3,4,5,6,7,8,9,10,11,12,13,14,15],[0,1,2,3,4,5,6,7,8,9,10,11,12,13,14,15,16],[0,1,2,3,4,5,6,7,8,9,10,11,12,13,14,15,16,17],[0,1,2,3,4,5,6,7,8,9,10,11,12,13,14,15,16,17,18]]))) (.reg [1,13,14,15,94,95,96,141,142] []))))) (ic:=pkthead_New_i7) (pkthead_New_S R k) (pkthead_New_J R k) (by kernel_rfl) (And.intro True.intro (And.intro (And.intro True.intro True.intro) (And.intro (And.intro True.intro True.intro) True.intro))) (pkthead_New_a7 R k) (fun vals H K => by unfold pkthead_New_a7 pkthead_New_aa7; split <;> rfl)
    (fun n vals H K r h => by
      unfold pkthead_New_a7 pkthead_New_aa7 at h
      split at h <;> first | (cases h; done) | exact Eq.trans (pkthead_New_e7 (tagtree_New k) (pkthead_New_p0 k) (pkthead_New_l1 k) (pkthead_New_p2 k) (pkthead_New_p3 k) (pkthead_New_p4 k) (pkthead_New_l5 k) (pkthead_New_p6 k) (pkthead_New_l7 k) k n _ _ _ _ _ _ _ _ _ _ _ _ _ H K) h) k
theorem pkthead_New_e6 {R:Type} (tagtree_New:tagtree_New_t R) (pkthead_New_p0:pkthead_New_p0_t R) (pkthead_New_l1:pkthead_New_l1_t R) (pkthead_New_p2:pkthead_New_p2_t R) (pkthead_New_p3:pkthead_New_p3_t R) (pkthead_New_p4:pkthead_New_p4_t R) (pkthead_New_l5:pkthead_New_l5_t R) (pkthead_New_p6:pkthead_New_p6_t R) (pkthead_New_l7:pkthead_New_l7_t R) (k:Nat) (q302:Oa) (l303:Nat) (c304:Nat) (p305:Oa) (n306:Int) (p307:Oa) (p308:Oa) (q309:Oa) (l310:Nat) (c311:Nat) (n312:Int) (n313:Int) (H:Heap) (K:Xit → Env → Heap → Option R):evJ (pkthead_New_Ct tagtree_New) (pkthead_New_Jt k pkthead_New_p0 pkthead_New_l1 pkthead_New_p2 pkthead_New_p3 pkthead_New_p4 pkthead_New_l5 pkthead_New_p6 pkthead_New_l7) pkthead_New_i6 (List.zip [1,13,14,15,16,94,95,96] [.slice q302 l303 c304,.pointer p305,.int .i64 n306,.pointer p307,.pointer p308,.slice q309 l310 c311,.int .i64 n312,.int .i64 n313]) H (fun x e' H' => K x (clean e' ((⟨[1,13,14,15,16,94,95,96],[],[]⟩:Out).of x)) H') = pkthead_New_p6_b tagtree_New k q302 l303 c304 p305 n306 p307 p308 q309 l310 c311 n312 n313 H (fun q1174 l1175 c1176 p1177 n1178 p1179 p1180 q1181 l1182 c1183 n1184 n1185 H => K .normal [(1,.slice q1174 l1175 c1176),(13,.pointer p1177),(14,.int .i64 n1178),(15,.pointer p1179),(16,.pointer p1180),(94,.slice q1181 l1182 c1183),(95,.int .i64 n1184),(96,.int .i64 n1185)] H):=by kernel_rfl
theorem pkthead_New_j6 {R:Type} (k:Nat):JS Try.prog 167 (pkthead_New_a6 R k k) [1,13,14,15,16,94,95,96] ⟨[1,13,14,15,16,94,95,96],[],[]⟩ (sel [1,1,1,1,1,1,0,1,0,0,1,1,0,0,1,1,0] (Try.f10.body.getD .skip)) :=
  piece_ok (nt:=167) (c:=(sel [1,1,1,1,1,1,0,1,0,0,1,1,0,0,1,1,0] (Try.f10.body.getD .skip))) (C:=pkthead_New_C R k) (an:=An) (t:=(.seq (.reg [1,13,14,15,16,94,95,96,108] []) (.cond (.seq (.reg [1,13,14,15,16,94,95,96] []) (.reg [1,13,14,15,16,94,95,96] [])) .leaf))) (ic:=pkthead_New_i6) (pkthead_New_S R k) (pkthead_New_J R k) (by kernel_rfl) (And.intro True.intro (And.intro (And.intro True.intro True.intro) True.intro)) (pkthead_New_a6 R k k)
    (fun vals H K r h => by
      unfold pkthead_New_a6 pkthead_New_aa6 at h
      split at h <;> first | (cases h; done) | exact Eq.trans (pkthead_New_e6 (tagtree_New k) (pkthead_New_p0 k) (pkthead_New_l1 k) (pkthead_New_p2 k) (pkthead_New_p3 k) (pkthead_New_p4 k) (pkthead_New_l5 k) (pkthead_New_p6 k) (pkthead_New_l7 k) k _ _ _ _ _ _ _ _ _ _ _ _ H K) h)
theorem pkthead_New_e5 {R:Type} (tagtree_New:tagtree_New_t R) (pkthead_New_p0:pkthead_New_p0_t R) (pkthead_New_l1:pkthead_New_l1_t R) (pkthead_New_p2:pkthead_New_p2_t R) (pkthead_New_p3:pkthead_New_p3_t R) (pkthead_New_p4:pkthead_New_p4_t R) (pkthead_New_l5:pkthead_New_l5_t R) (pkthead_New_p6:pkthead_New_p6_t R) (pkthead_New_l7:pkthead_New_l7_t R) (k n:Nat) (q282:Oa) (l283:Nat) (c284:Nat) (p285:Oa) (q286:Oa) (l287:Nat) (c288:Nat) (n289:Int) (n290:Int) (H:Heap) (K:Xit → Env → Heap → Option R):evJ (pkthead_New_Ct tagtree_New) (pkthead_New_Jt k pkthead_New_p0 pkthead_New_l1 pkthead_New_p2 pkthead_New_p3 pkthead_New_p4 pkthead_New_l5 pkthead_New_p6 pkthead_New_l7) pkthead_New_i5 (List.zip [1,13,94,95,96] [.slice q282 l283 c284,.pointer p285,.slice q286 l287 c288,.int .i64 n289,.int .i64 n290]) H (fun x e' H' => match x with | .normal => pkthead_New_aa5 pkthead_New_l5 n ((clean e' [1,13,94,95,96]).map (·.2)) H' K | x => K x (clean e' ((⟨[],[(2,[13])],[]⟩:Out).of x)) H') = pkthead_New_l5_b pkthead_New_p6 pkthead_New_l7 (pkthead_New_l5 (fun p1173 H => K (.exit 2) [(13,.pointer p1173)] H) n) (fun p1173 H => K (.exit 2) [(13,.pointer p1173)] H) k q282 l283 c284 p285 q286 l287 c288 n289 n290 H:=by kernel_rfl
theorem pkthead_New_j5 {R:Type} (k:Nat):JS Try.prog 167 (pkthead_New_a5 R k k) [1,13,94,95,96] ⟨[],[(2,[13])],[]⟩ (.loop (sel [1,1,1,1,1,1,0,1,0,0] (Try.f10.body.getD .skip))) :=
  loop_ok (nt:=167) (c:=(sel [1,1,1,1,1,1,0,1,0,0] (Try.f10.body.getD .skip))) (C:=pkthead_New_C R k) (an:=An) (t:=(.seq (.reg [1,13,94,95,96,97] []) (.seq (.cond .leaf .leaf) (.seq (.node (.seq (.reg [1,13,14,15,94,95,96] []) (.seq (.reg [1,13,14,15,16,94,95,96] []) (.seq (.opq 6 [1,13,14,15,16,94,95,96] ⟨[1,13,14,15,16,94,95,96],[],[]⟩ (.seq (.reg [1,13,14,15,16,94,95,96,108] []) (.cond (.seq (.reg [1,13,14,15,16,94,95,96] []) (.reg [1,13,14,15,16,94,95,96] [])) .leaf))) (.seq (.reg [1,13,14,15,94,95,96] [[],[],[1],[1,2],[1,2,3],[],[5],[1,2,3,4,5,6],[0,1,2,3,4,5,6,7],[0,1,2,3,4,5,6,7,8],[0,1,2,3,4,5,6,7,8,9]]) (.seq (.reg [1,13,14,15,94,95,96,141,142] []) (.node (.opq 7 [1,13,14,15,94,95,96,141,142] ⟨[],[(4,[1,13,94,95,96])],[]⟩ (.node (.seq (.reg [1,13,14,15,94,95,96,141,142,143] []) (.seq (.cond .leaf .leaf) (.seq (.node (.seq (.reg [1,13,14,15,17,94,95,96,141,142] []) (.reg [1,13,14,15,94,95,96,141,142] [[],[],[1],[1,2],[1,2,3],[],[],[],[7],[6,7,8],[],[],[11],[10,11,12],[5,6,7,8,9,10,11,12,13],[5,6,7,8,9,10,11,12,13,14],[1,2,3,4,5,6,7,8,9,10,11,12,13,14,15],[0,1,2,3,4,5,6,7,8,9,10,11,12,13,14,15,16],[0,1,2,3,4,5,6,7,8,9,10,11,12,13,14,15,16,17],[0,1,2,3,4,5,6,7,8,9,10,11,12,13,14,15,16,17,18]]))) (.reg [1,13,14,15,94,95,96,141,142] []))))))))))))) (.reg [1,13,94,95,96] []))))) (ic:=pkthead_New_i5) (pkthead_New_S R k) (pkthead_New_J R k) (by kernel_rfl) (And.intro True.intro (And.intro (And.intro True.intro True.intro) (And.intro (And.intro True.intro (And.intro True.intro (And.intro (pkthead_New_j6 k) (And.intro True.intro (And.intro True.intro (pkthead_New_j7 k)))))) True.intro))) (pkthead_New_a5 R k) (fun vals H K => by unfold pkthead_New_a5 pkthead_New_aa5; split <;> rfl)
    (fun n vals H K r h => by
      unfold pkthead_New_a5 pkthead_New_aa5 at h
      split at h <;> first | (cases h; done) | exact Eq.trans (pkthead_New_e5 (tagtree_New k) (pkthead_New_p0 k) (pkthead_New_l1 k) (pkthead_New_p2 k) (pkthead_New_p3 k) (pkthead_New_p4 k) (pkthead_New_l5 k) (pkthead_New_p6 k) (pkthead_New_l7 k) k n _ _ _ _ _ _ _ _ _ H K) h) k
theorem pkthead_New_e4 {R:Type} (tagtree_New:tagtree_New_t R) (pkthead_New_p0:pkthead_New_p0_t R) (pkthead_New_l1:pkthead_New_l1_t R) (pkthead_New_p2:pkthead_New_p2_t R) (pkthead_New_p3:pkthead_New_p3_t R) (pkthead_New_p4:pkthead_New_p4_t R) (pkthead_New_l5:pkthead_New_l5_t R) (pkthead_New_p6:pkthead_New_p6_t R) (pkthead_New_l7:pkthead_New_l7_t R) (k:Nat) (q195:Oa) (l196:Nat) (c197:Nat) (q198:Oa) (l199:Nat) (c200:Nat) (p201:Oa) (n202:Int) (n203:Int) (p204:Oa) (t205:Bool) (t206:Bool) (q207:Oa) (l208:Nat) (c209:Nat) (n210:Int) (n211:Int) (H:Heap) (K:Xit → Env → Heap → Option R):evJ (pkthead_New_Ct tagtree_New) (pkthead_New_Jt k pkthead_New_p0 pkthead_New_l1 pkthead_New_p2 pkthead_New_p3 pkthead_New_p4 pkthead_New_l5 pkthead_New_p6 pkthead_New_l7) pkthead_New_i4 (List.zip [0,1,5,8,9,10,11,12,28,29,30] [.slice q195 l196 c197,.slice q198 l199 c200,.pointer p201,.int .i64 n202,.int .i64 n203,.pointer p204,.bool t205,.bool t206,.slice q207 l208 c209,.int .i64 n210,.int .i64 n211]) H (fun x e' H' => K x (clean e' ((⟨[0,1,5,8,10,28,29,30],[],[6,7]⟩:Out).of x)) H') = pkthead_New_p4_b k q195 l196 c197 q198 l199 c200 p201 n202 n203 p204 t205 t206 q207 l208 c209 n210 n211 H (fun q1157 l1158 c1159 q1160 l1161 c1162 p1163 n1164 p1165 q1166 l1167 c1168 n1169 n1170 => K .normal [(0,.slice q1157 l1158 c1159),(1,.slice q1160 l1161 c1162),(5,.pointer p1163),(8,.int .i64 n1164),(10,.pointer p1165),(28,.slice q1166 l1167 c1168),(29,.int .i64 n1169),(30,.int .i64 n1170)] H) (fun p1171 n1172 => K .ret [(6,.pointer p1171),(7,.int .i64 n1172)] H):=by kernel_rfl
theorem pkthead_New_j4 {R:Type} (k:Nat):JS Try.prog 167 (pkthead_New_a4 R k k) [0,1,5,8,9,10,11,12,28,29,30] ⟨[0,1,5,8,10,28,29,30],[],[6,7]⟩ (sel [1,1,1,0,1,0,0,1,1,0,0,1,1,1,0] (Try.f10.body.getD .skip)) :=
  piece_ok (nt:=167) (c:=(sel [1,1,1,0,1,0,0,1,1,0,0,1,1,1,0] (Try.f10.body.getD .skip))) (C:=pkthead_New_C R k) (an:=An) (t:=(.seq (.reg [0,1,5,8,10,28,29,30,80] []) (.cond (.seq (.reg [6,7] []) .leaf) .leaf))) (ic:=pkthead_New_i4) (pkthead_New_S R k) (pkthead_New_J R k) (by kernel_rfl) (And.intro True.intro (And.intro (And.intro True.intro True.intro) True.intro)) (pkthead_New_a4 R k k)
    (fun vals H K r h => by
      unfold pkthead_New_a4 pkthead_New_aa4 at h
      split at h <;> first | (cases h; done) | exact Eq.trans (pkthead_New_e4 (tagtree_New k) (pkthead_New_p0 k) (pkthead_New_l1 k) (pkthead_New_p2 k) (pkthead_New_p3 k) (pkthead_New_p4 k) (pkthead_New_l5 k) (pkthead_New_p6 k) (pkthead_New_l7 k) k _ _ _ _ _ _ _ _ _ _ _ _ _ _ _ _ _ H K) h)
theorem pkthead_New_e3 {R:Type} (tagtree_New:tagtree_New_t R) (pkthead_New_p0:pkthead_New_p0_t R) (pkthead_New_l1:pkthead_New_l1_t R) (pkthead_New_p2:pkthead_New_p2_t R) (pkthead_New_p3:pkthead_New_p3_t R) (pkthead_New_p4:pkthead_New_p4_t R) (pkthead_New_l5:pkthead_New_l5_t R) (pkthead_New_p6:pkthead_New_p6_t R) (pkthead_New_l7:pkthead_New_l7_t R) (k:Nat) (q137:Oa) (l138:Nat) (c139:Nat) (q140:Oa) (l141:Nat) (c142:Nat) (p143:Oa) (n144:Int) (n145:Int) (p146:Oa) (t147:Bool) (q148:Oa) (l149:Nat) (c150:Nat) (n151:Int) (n152:Int) (H:Heap) (K:Xit → Env → Heap → Option R):evJ (pkthead_New_Ct tagtree_New) (pkthead_New_Jt k pkthead_New_p0 pkthead_New_l1 pkthead_New_p2 pkthead_New_p3 pkthead_New_p4 pkthead_New_l5 pkthead_New_p6 pkthead_New_l7) pkthead_New_i3 (List.zip [0,1,5,8,9,10,11,28,29,30] [.slice q137 l138 c139,.slice q140 l141 c142,.pointer p143,.int .i64 n144,.int .i64 n145,.pointer p146,.bool t147,.slice q148 l149 c150,.int .i64 n151,.int .i64 n152]) H (fun x e' H' => K x (clean e' ((⟨[0,1,5,8,9,10,11,12,28,29,30],[],[]⟩:Out).of x)) H') = pkthead_New_p3_b k q137 l138 c139 q140 l141 c142 p143 n144 n145 p146 t147 q148 l149 c150 n151 n152 H (fun q1140 l1141 c1142 q1143 l1144 c1145 p1146 n1147 n1148 p1149 t1150 t1151 q1152 l1153 c1154 n1155 n1156 => K .normal [(0,.slice q1140 l1141 c1142),(1,.slice q1143 l1144 c1145),(5,.pointer p1146),(8,.int .i64 n1147),(9,.int .i64 n1148),(10,.pointer p1149),(11,.bool t1150),(12,.bool t1151),(28,.slice q1152 l1153 c1154),(29,.int .i64 n1155),(30,.int .i64 n1156)] H):=by kernel_rfl
theorem pkthead_New_j3 {R:Type} (k:Nat):JS Try.prog 167 (pkthead_New_a3 R k k) [0,1,5,8,9,10,11,28,29,30] ⟨[0,1,5,8,9,10,11,12,28,29,30],[],[]⟩ (sel [1,1,1,0,1,0,0,1,1,0,0,1,1,0] (Try.f10.body.getD .skip)) :=
  piece_ok (nt:=167) (c:=(sel [1,1,1,0,1,0,0,1,1,0,0,1,1,0] (Try.f10.body.getD .skip))) (C:=pkthead_New_C R k) (an:=An) (t:=(.reg [0,1,5,8,9,10,11,12,28,29,30] [])) (ic:=pkthead_New_i3) (pkthead_New_S R k) (pkthead_New_J R k) (by kernel_rfl) True.intro (pkthead_New_a3 R k k)
    (fun vals H K r h => by
      unfold pkthead_New_a3 pkthead_New_aa3 at h
      split at h <;> first | (cases h; done) | exact Eq.trans (pkthead_New_e3 (tagtree_New k) (pkthead_New_p0 k) (pkthead_New_l1 k) (pkthead_New_p2 k) (pkthead_New_p3 k) (pkthead_New_p4 k) (pkthead_New_l5 k) (pkthead_New_p6 k) (pkthead_New_l7 k) k _ _ _ _ _ _ _ _ _ _ _ _ _ _ _ _ H K) h)
theorem pkthead_New_e2 {R:Type} (tagtree_New:tagtree_New_t R) (pkthead_New_p0:pkthead_New_p0_t R) (pkthead_New_l1:pkthead_New_l1_t R) (pkthead_New_p2:pkthead_New_p2_t R) (pkthead_New_p3:pkthead_New_p3_t R) (pkthead_New_p4:pkthead_New_p4_t R) (pkthead_New_l5:pkthead_New_l5_t R) (pkthead_New_p6:pkthead_New_p6_t R) (pkthead_New_l7:pkthead_New_l7_t R) (k:Nat) (q86:Oa) (l87:Nat) (c88:Nat) (q89:Oa) (l90:Nat) (c91:Nat) (p92:Oa) (n93:Int) (n94:Int) (p95:Oa) (q96:Oa) (l97:Nat) (c98:Nat) (n99:Int) (n100:Int) (H:Heap) (K:Xit → Env → Heap → Option R):evJ (pkthead_New_Ct tagtree_New) (pkthead_New_Jt k pkthead_New_p0 pkthead_New_l1 pkthead_New_p2 pkthead_New_p3 pkthead_New_p4 pkthead_New_l5 pkthead_New_p6 pkthead_New_l7) pkthead_New_i2 (List.zip [0,1,5,8,9,10,28,29,30] [.slice q86 l87 c88,.slice q89 l90 c91,.pointer p92,.int .i64 n93,.int .i64 n94,.pointer p95,.slice q96 l97 c98,.int .i64 n99,.int .i64 n100]) H (fun x e' H' => K x (clean e' ((⟨[0,1,5,8,9,10,11,28,29,30],[],[]⟩:Out).of x)) H') = pkthead_New_p2_b k q86 l87 c88 q89 l90 c91 p92 n93 n94 p95 q96 l97 c98 n99 n100 H (fun q1124 l1125 c1126 q1127 l1128 c1129 p1130 n1131 n1132 p1133 t1134 q1135 l1136 c1137 n1138 n1139 => K .normal [(0,.slice q1124 l1125 c1126),(1,.slice q1127 l1128 c1129),(5,.pointer p1130),(8,.int .i64 n1131),(9,.int .i64 n1132),(10,.pointer p1133),(11,.bool t1134),(28,.slice q1135 l1136 c1137),(29,.int .i64 n1138),(30,.int .i64 n1139)] H):=by kernel_rfl
theorem pkthead_New_j2 {R:Type} (k:Nat):JS Try.prog 167 (pkthead_New_a2 R k k) [0,1,5,8,9,10,28,29,30] ⟨[0,1,5,8,9,10,11,28,29,30],[],[]⟩ (sel [1,1,1,0,1,0,0,1,1,0,0,1,0] (Try.f10.body.getD .skip)) :=
  piece_ok (nt:=167) (c:=(sel [1,1,1,0,1,0,0,1,1,0,0,1,0] (Try.f10.body.getD .skip))) (C:=pkthead_New_C R k) (an:=An) (t:=(.reg [0,1,5,8,9,10,11,28,29,30] [])) (ic:=pkthead_New_i2) (pkthead_New_S R k) (pkthead_New_J R k) (by kernel_rfl) True.intro (pkthead_New_a2 R k k)
    (fun vals H K r h => by
      unfold pkthead_New_a2 pkthead_New_aa2 at h
      split at h <;> first | (cases h; done) | exact Eq.trans (pkthead_New_e2 (tagtree_New k) (pkthead_New_p0 k) (pkthead_New_l1 k) (pkthead_New_p2 k) (pkthead_New_p3 k) (pkthead_New_p4 k) (pkthead_New_l5 k) (pkthead_New_p6 k) (pkthead_New_l7 k) k _ _ _ _ _ _ _ _ _ _ _ _ _ _ _ H K) h)
theorem pkthead_New_e1 {R:Type} (tagtree_New:tagtree_New_t R) (pkthead_New_p0:pkthead_New_p0_t R) (pkthead_New_l1:pkthead_New_l1_t R) (pkthead_New_p2:pkthead_New_p2_t R) (pkthead_New_p3:pkthead_New_p3_t R) (pkthead_New_p4:pkthead_New_p4_t R) (pkthead_New_l5:pkthead_New_l5_t R) (pkthead_New_p6:pkthead_New_p6_t R) (pkthead_New_l7:pkthead_New_l7_t R) (k n:Nat) (q67:Oa) (l68:Nat) (c69:Nat) (q70:Oa) (l71:Nat) (c72:Nat) (p73:Oa) (n74:Int) (q75:Oa) (l76:Nat) (c77:Nat) (n78:Int) (n79:Int) (H:Heap) (K:Xit → Env → Heap → Option R):evJ (pkthead_New_Ct tagtree_New) (pkthead_New_Jt k pkthead_New_p0 pkthead_New_l1 pkthead_New_p2 pkthead_New_p3 pkthead_New_p4 pkthead_New_l5 pkthead_New_p6 pkthead_New_l7) pkthead_New_i1 (List.zip [0,1,5,8,28,29,30] [.slice q67 l68 c69,.slice q70 l71 c72,.pointer p73,.int .i64 n74,.slice q75 l76 c77,.int .i64 n78,.int .i64 n79]) H (fun x e' H' => match x with | .normal => pkthead_New_aa1 pkthead_New_l1 n ((clean e' [0,1,5,8,28,29,30]).map (·.2)) H' K | x => K x (clean e' ((⟨[],[(0,[0,1,5,8])],[6,7]⟩:Out).of x)) H') = pkthead_New_l1_b pkthead_New_p2 pkthead_New_p3 pkthead_New_p4 (pkthead_New_l1 (fun q1114 l1115 c1116 q1117 l1118 c1119 p1120 n1121 H => K (.exit 0) [(0,.slice q1114 l1115 c1116),(1,.slice q1117 l1118 c1119),(5,.pointer p1120),(8,.int .i64 n1121)] H) (fun p1122 n1123 H => K .ret [(6,.pointer p1122),(7,.int .i64 n1123)] H) n) (fun q1114 l1115 c1116 q1117 l1118 c1119 p1120 n1121 H => K (.exit 0) [(0,.slice q1114 l1115 c1116),(1,.slice q1117 l1118 c1119),(5,.pointer p1120),(8,.int .i64 n1121)] H) (fun p1122 n1123 H => K .ret [(6,.pointer p1122),(7,.int .i64 n1123)] H) k q67 l68 c69 q70 l71 c72 p73 n74 q75 l76 c77 n78 n79 H:=by kernel_rfl
theorem pkthead_New_j1 {R:Type} (k:Nat):JS Try.prog 167 (pkthead_New_a1 R k k) [0,1,5,8,28,29,30] ⟨[],[(0,[0,1,5,8])],[6,7]⟩ (.loop (sel [1,1,1,0,1,0,0] (Try.f10.body.getD .skip))) :=
  loop_ok (nt:=167) (c:=(sel [1,1,1,0,1,0,0] (Try.f10.body.getD .skip))) (C:=pkthead_New_C R k) (an:=An) (t:=(.seq (.reg [0,1,5,8,28,29,30,31] []) (.seq (.cond .leaf .leaf) (.seq (.node (.seq (.reg [0,1,5,8,9,10,28,29,30] []) (.seq (.opq 2 [0,1,5,8,9,10,28,29,30] ⟨[0,1,5,8,9,10,11,28,29,30],[],[]⟩ (.reg [0,1,5,8,9,10,11,28,29,30] [])) (.seq (.opq 3 [0,1,5,8,9,10,11,28,29,30] ⟨[0,1,5,8,9,10,11,12,28,29,30],[],[]⟩ (.reg [0,1,5,8,9,10,11,12,28,29,30] [])) (.seq (.opq 4 [0,1,5,8,9,10,11,12,28,29,30] ⟨[0,1,5,8,10,28,29,30],[],[6,7]⟩ (.seq (.reg [0,1,5,8,10,28,29,30,80] []) (.cond (.seq (.reg [6,7] []) .leaf) .leaf))) (.reg [0,1,5,8,28,29,30] [])))))) (.reg [0,1,5,8,28,29,30] []))))) (ic:=pkthead_New_i1) (pkthead_New_S R k) (pkthead_New_J R k) (by kernel_rfl) (And.intro True.intro (And.intro (And.intro True.intro True.intro) (And.intro (And.intro True.intro (And.intro (pkthead_New_j2 k) (And.intro (pkthead_New_j3 k) (And.intro (pkthead_New_j4 k) True.intro)))) True.intro))) (pkthead_New_a1 R k) (fun vals H K => by unfold pkthead_New_a1 pkthead_New_aa1; split <;> rfl)
    (fun n vals H K r h => by
      unfold pkthead_New_a1 pkthead_New_aa1 at h
      split at h <;> first | (cases h; done) | exact Eq.trans (pkthead_New_e1 (tagtree_New k) (pkthead_New_p0 k) (pkthead_New_l1 k) (pkthead_New_p2 k) (pkthead_New_p3 k) (pkthead_New_p4 k) (pkthead_New_l5 k) (pkthead_New_p6 k) (pkthead_New_l7 k) k n _ _ _ _ _ _ _ _ _ _ _ _ _ H K) h) k
theorem pkthead_New_e0 {R:Type} (tagtree_New:tagtree_New_t R) (pkthead_New_p0:pkthead_New_p0_t R) (pkthead_New_l1:pkthead_New_l1_t R) (pkthead_New_p2:pkthead_New_p2_t R) (pkthead_New_p3:pkthead_New_p3_t R) (pkthead_New_p4:pkthead_New_p4_t R) (pkthead_New_l5:pkthead_New_l5_t R) (pkthead_New_p6:pkthead_New_p6_t R) (pkthead_New_l7:pkthead_New_l7_t R) (k:Nat) (q44:Oa) (l45:Nat) (c46:Nat) (q47:Oa) (l48:Nat) (c49:Nat) (p50:Oa) (H:Heap) (K:Xit → Env → Heap → Option R):evJ (pkthead_New_Ct tagtree_New) (pkthead_New_Jt k pkthead_New_p0 pkthead_New_l1 pkthead_New_p2 pkthead_New_p3 pkthead_New_p4 pkthead_New_l5 pkthead_New_p6 pkthead_New_l7) pkthead_New_i0 (List.zip [0,1,5] [.slice q44 l45 c46,.slice q47 l48 c49,.pointer p50]) H (fun x e' H' => K x (clean e' ((⟨[0,1,5],[],[6,7]⟩:Out).of x)) H') = pkthead_New_p0_b k q44 l45 c46 q47 l48 c49 p50 (fun q1105 l1106 c1107 q1108 l1109 c1110 p1111 => K .normal [(0,.slice q1105 l1106 c1107),(1,.slice q1108 l1109 c1110),(5,.pointer p1111)] H) (fun p1112 n1113 => K .ret [(6,.pointer p1112),(7,.int .i64 n1113)] H):=by kernel_rfl
theorem pkthead_New_j0 {R:Type} (k:Nat):JS Try.prog 167 (pkthead_New_a0 R k k) [0,1,5] ⟨[0,1,5],[],[6,7]⟩ (sel [1,0] (Try.f10.body.getD .skip)) :=
  piece_ok (nt:=167) (c:=(sel [1,0] (Try.f10.body.getD .skip))) (C:=pkthead_New_C R k) (an:=An) (t:=(.seq (.reg [0,1,5,27] []) (.cond (.seq (.reg [6,7] []) .leaf) .leaf))) (ic:=pkthead_New_i0) (pkthead_New_S R k) (pkthead_New_J R k) (by kernel_rfl) (And.intro True.intro (And.intro (And.intro True.intro True.intro) True.intro)) (pkthead_New_a0 R k k)
    (fun vals H K r h => by
      unfold pkthead_New_a0 pkthead_New_aa0 at h
      split at h <;> first | (cases h; done) | exact Eq.trans (pkthead_New_e0 (tagtree_New k) (pkthead_New_p0 k) (pkthead_New_l1 k) (pkthead_New_p2 k) (pkthead_New_p3 k) (pkthead_New_p4 k) (pkthead_New_l5 k) (pkthead_New_p6 k) (pkthead_New_l7 k) k _ _ _ _ _ _ _ H K) h)
def pkthead_New_ca {R:Type} (f:pkthead_New_t R) (args:List Value) (H:Heap) (K:Value → Heap → Option R):Option R :=
  match args with
  | [.slice q31 l32 c33,.slice q34 l35 c36,.agg ⟨[.bool t37,.bool t38,.bool t39,.bool t40,.bool t41]⟩] => f q31 l32 c33 q34 l35 c36 t37 t38 t39 t40 t41 H (fun p1195 n1196 H => K (.tuple ⟨[.pointer p1195,.int .i64 n1196]⟩) H)
  | _ => none
def pkthead_New_c (R:Type) (k:Nat) (args:List Value) (H:Heap) (K:Value → Heap → Option R):Option R:=pkthead_New_ca (pkthead_New k) args H K
theorem pkthead_New_e {R:Type} (tagtree_New:tagtree_New_t R) (pkthead_New_p0:pkthead_New_p0_t R) (pkthead_New_l1:pkthead_New_l1_t R) (pkthead_New_p2:pkthead_New_p2_t R) (pkthead_New_p3:pkthead_New_p3_t R) (pkthead_New_p4:pkthead_New_p4_t R) (pkthead_New_l5:pkthead_New_l5_t R) (pkthead_New_p6:pkthead_New_p6_t R) (pkthead_New_l7:pkthead_New_l7_t R) (k:Nat) (q31:Oa) (l32:Nat) (c33:Nat) (q34:Oa) (l35:Nat) (c36:Nat) (t37:Bool) (t38:Bool) (t39:Bool) (t40:Bool) (t41:Bool) (H:Heap) (K:Value → Heap → Option R):evF (pkthead_New_Ct tagtree_New) (pkthead_New_Jt k pkthead_New_p0 pkthead_New_l1 pkthead_New_p2 pkthead_New_p3 pkthead_New_p4 pkthead_New_l5 pkthead_New_p6 pkthead_New_l7) pkthead_New_f [.slice q31 l32 c33,.slice q34 l35 c36,.agg ⟨[.bool t37,.bool t38,.bool t39,.bool t40,.bool t41]⟩] H K = pkthead_New_b pkthead_New_p0 pkthead_New_l1 pkthead_New_l5 k q31 l32 c33 q34 l35 c36 t37 t38 t39 t40 t41 H (fun p1195 n1196 H => K (.tuple ⟨[.pointer p1195,.int .i64 n1196]⟩) H):=by kernel_rfl
theorem pkthead_New_cs (R:Type) (k:Nat):∀ args H K r,pkthead_New_c R k args H K = some r → ∃ v H',Tri Try.prog 10 args H v H' ∧ K v H' = some r:=by
  intro args H K r h
  unfold pkthead_New_c pkthead_New_ca at h
  split at h
  · exact evF_ok (C:=pkthead_New_C R k) (an:=An) (t:=pkthead_New_at) (fn:=Try.f10) (c:=(Try.f10.body.getD .skip)) (ifn:=pkthead_New_f) (pkthead_New_S R k) (pkthead_New_J R k) Try.func10 (by kernel_rfl) (by kernel_rfl) (And.intro True.intro (And.intro (pkthead_New_j0 k) (And.intro True.intro (And.intro (And.intro True.intro (pkthead_New_j1 k)) (And.intro (And.intro True.intro (And.intro (And.intro True.intro True.intro) True.intro)) (And.intro True.intro (And.intro (And.intro True.intro (pkthead_New_j5 k)) (And.intro True.intro True.intro)))))))) rfl (Eq.trans (pkthead_New_e (tagtree_New k) (pkthead_New_p0 k) (pkthead_New_l1 k) (pkthead_New_p2 k) (pkthead_New_p3 k) (pkthead_New_p4 k) (pkthead_New_l5 k) (pkthead_New_p6 k) (pkthead_New_l7 k) k _ _ _ _ _ _ _ _ _ _ _ H K) h)
  · cases h
abbrev pkthead_State_Blocks_t (R:Type):Type:=Oa → Heap → (Int → Option R) → Option R
def pkthead_State_Blocks_b {R:Type} (k:Nat) (p456:Oa) (H:Heap) (K:Int → Option R):Option R :=
bif p456.isNone then (K 0)
 else (hnil p456 fun p457 =>
hfad 9 p457 fun p458 =>
ldL H p458 fun q459 l460 c461 =>
K ((l460:Nat):Int))
def pkthead_State_Blocks {R:Type} (p456:Oa) (H:Heap) (K:Int → Option R):Option R:=pkthead_State_Blocks_b 0 p456 H K
def pkthead_State_Blocks_Ct {R:Type}:Tab R:=fun _ _ _ _ => none
def pkthead_State_Blocks_C (R:Type) (k:Nat):Tab R:=pkthead_State_Blocks_Ct
theorem pkthead_State_Blocks_S (R:Type) (k:Nat):CSound Try.prog (pkthead_State_Blocks_C R k):=csound_nil
def pkthead_State_Blocks_Jt {R:Type} (k:Nat):JTab R:=fun _ _ _ _ => none
def pkthead_State_Blocks_J (R:Type) (k:Nat):JTab R:=pkthead_State_Blocks_Jt k
def pkthead_State_Blocks_at:AT:=(.seq (.reg [0] []) (.seq (.seq (.reg [0,4] []) (.cond (.seq (.reg [2] []) .leaf) .leaf)) (.seq (.reg [2] []) .leaf)))
def pkthead_State_Blocks_f:IFn:=⟨10,[.t 2],(.seq (.reg [⟨some 2,.mov (.c (Go.Value.int Go.IntKind.i64 0)),none⟩] [0]) (.seq (.seq (.reg [⟨some 3,.mov (.t 0),none⟩,
⟨some 4,.eqnil (.t 3) false 0,none⟩] [0,4]) (.cond (.t 4) (.seq (.reg [⟨some 2,.mov (.c (Go.Value.int Go.IntKind.i64 0)),none⟩] [2]) .ret) .skip)) (.seq (.reg [⟨some 5,.mov (.t 0),none⟩,
⟨some 6,.nilc (.t 5),none⟩,
⟨some 7,.fad 9 (.t 6),none⟩,
⟨some 8,.ld (.sc .slc) (.t 7),none⟩,
⟨some 9,.len false (.t 8),none⟩,
⟨some 2,.mov (.t 9),none⟩] [2]) .ret)))⟩
def pkthead_State_Blocks_ca {R:Type} (f:pkthead_State_Blocks_t R) (args:List Value) (H:Heap) (K:Value → Heap → Option R):Option R :=
  match args with
  | [.pointer p456] => f p456 H (fun n1197 => K (.int .i64 n1197) H)
  | _ => none
def pkthead_State_Blocks_c (R:Type) (k:Nat) (args:List Value) (H:Heap) (K:Value → Heap → Option R):Option R:=pkthead_State_Blocks_ca pkthead_State_Blocks args H K
theorem pkthead_State_Blocks_e {R:Type} (k:Nat) (p456:Oa) (H:Heap) (K:Value → Heap → Option R):evF (pkthead_State_Blocks_Ct) (pkthead_State_Blocks_Jt k) pkthead_State_Blocks_f [.pointer p456] H K = pkthead_State_Blocks_b k p456 H (fun n1197 => K (.int .i64 n1197) H):=by kernel_rfl
theorem pkthead_State_Blocks_cs (R:Type) (k:Nat):∀ args H K r,pkthead_State_Blocks_c R k args H K = some r → ∃ v H',Tri Try.prog 12 args H v H' ∧ K v H' = some r:=by
  intro args H K r h
  unfold pkthead_State_Blocks_c pkthead_State_Blocks_ca at h
  split at h
  · exact evF_ok (C:=pkthead_State_Blocks_C R 0) (an:=An) (t:=pkthead_State_Blocks_at) (fn:=Try.f12) (c:=(Try.f12.body.getD .skip)) (ifn:=pkthead_State_Blocks_f) (pkthead_State_Blocks_S R 0) (pkthead_State_Blocks_J R 0) Try.func12 (by kernel_rfl) (by kernel_rfl) (And.intro True.intro (And.intro (And.intro True.intro (And.intro (And.intro True.intro True.intro) True.intro)) (And.intro True.intro True.intro))) rfl (Eq.trans (pkthead_State_Blocks_e 0 _ H K) h)
  · cases h
abbrev tagtree_Tree_ok_t (R:Type):Type:=Oa → Heap → (Bool → Option R) → Option R
def tagtree_Tree_ok_b {R:Type} (k:Nat) (p747:Oa) (H:Heap) (K:Bool → Option R):Option R :=
bif p747.isSome then (hnil p747 fun p748 =>
hfad 0 p748 fun p749 =>
ldL H p749 fun q750 l751 c752 =>
K (decide (((l751:Nat):Int) > 0)))
 else (K false)
def tagtree_Tree_ok {R:Type} (p747:Oa) (H:Heap) (K:Bool → Option R):Option R:=tagtree_Tree_ok_b 0 p747 H K
def tagtree_Tree_ok_Ct {R:Type}:Tab R:=fun _ _ _ _ => none
def tagtree_Tree_ok_C (R:Type) (k:Nat):Tab R:=tagtree_Tree_ok_Ct
theorem tagtree_Tree_ok_S (R:Type) (k:Nat):CSound Try.prog (tagtree_Tree_ok_C R k):=csound_nil
def tagtree_Tree_ok_Jt {R:Type} (k:Nat):JTab R:=fun _ _ _ _ => none
def tagtree_Tree_ok_J (R:Type) (k:Nat):JTab R:=tagtree_Tree_ok_Jt k
def tagtree_Tree_ok_at:AT:=(.seq (.reg [0] []) (.seq (.reg [2] []) .leaf))
def tagtree_Tree_ok_f:IFn:=⟨13,[.t 2],(.seq (.reg [⟨some 2,.mov (.c (Go.Value.bool false)),none⟩] [0]) (.seq (.reg [⟨some 3,.mov (.t 0),none⟩,
⟨some 4,.eqnil (.t 3) true 0,none⟩,
⟨some 5,.mov (.t 4),none⟩,
⟨some 6,.mov (.t 0),some (5,true)⟩,
⟨some 7,.nilc (.t 6),some (5,true)⟩,
⟨some 8,.fad 0 (.t 7),some (5,true)⟩,
⟨some 9,.ld (.sc .slc) (.t 8),some (5,true)⟩,
⟨some 10,.len false (.t 9),some (5,true)⟩,
⟨some 11,.cmp .gtr (.t 10) (.c (Go.Value.int Go.IntKind.i64 0)),some (5,true)⟩,
⟨some 12,.pick (.t 5) (.t 11) (.c (Go.Value.bool false)),none⟩,
⟨some 2,.mov (.t 12),none⟩] [2]) .ret))⟩
def tagtree_Tree_ok_ca {R:Type} (f:tagtree_Tree_ok_t R) (args:List Value) (H:Heap) (K:Value → Heap → Option R):Option R :=
  match args with
  | [.pointer p747] => f p747 H (fun t1198 => K (.bool t1198) H)
  | _ => none
def tagtree_Tree_ok_c (R:Type) (k:Nat) (args:List Value) (H:Heap) (K:Value → Heap → Option R):Option R:=tagtree_Tree_ok_ca tagtree_Tree_ok args H K
theorem tagtree_Tree_ok_e {R:Type} (k:Nat) (p747:Oa) (H:Heap) (K:Value → Heap → Option R):evF (tagtree_Tree_ok_Ct) (tagtree_Tree_ok_Jt k) tagtree_Tree_ok_f [.pointer p747] H K = tagtree_Tree_ok_b k p747 H (fun t1198 => K (.bool t1198) H):=by kernel_rfl
theorem tagtree_Tree_ok_cs (R:Type) (k:Nat):∀ args H K r,tagtree_Tree_ok_c R k args H K = some r → ∃ v H',Tri Try.prog 54 args H v H' ∧ K v H' = some r:=by
  intro args H K r h
  unfold tagtree_Tree_ok_c tagtree_Tree_ok_ca at h
  split at h
  · exact evF_ok (C:=tagtree_Tree_ok_C R 0) (an:=An) (t:=tagtree_Tree_ok_at) (fn:=Try.f54) (c:=(Try.f54.body.getD .skip)) (ifn:=tagtree_Tree_ok_f) (tagtree_Tree_ok_S R 0) (tagtree_Tree_ok_J R 0) Try.func54 (by kernel_rfl) (by kernel_rfl) (And.intro True.intro (And.intro True.intro True.intro)) rfl (Eq.trans (tagtree_Tree_ok_e 0 _ H K) h)
  · cases h
abbrev tagtree_Tree_has_t (R:Type):Type:=Oa → Int → Int → Heap → (Bool → Heap → Option R) → Option R
def tagtree_Tree_has_b {R:Type} (k:Nat) (p767:Oa) (n768:Int) (n769:Int) (H:Heap) (K:Bool → Heap → Option R):Option R :=
hnil p767 fun p770 =>
hfad 0 p770 fun p771 =>
ldL H p771 fun q772 l773 c774 =>
hidx q772 l773 0 3 fun p775 =>
ldI .i64 H (pad p775 0) fun n776 =>
ldI .i64 H (pad p775 1) fun n777 =>
ldL H (pad p775 2) fun q778 l779 c780 =>
hal H [.int .i64 0,.int .i64 0,.slice none 0 0] fun p781 H782 =>
hst H782 p781 [.int .i64 n776,.int .i64 n777,.slice q778 l779 c780] fun H783 =>
bif decide (n768 ≥ 0) then (bif decide (n769 ≥ 0) then (hfad 0 p781 fun p784 =>
ldI .i64 H783 p784 fun n785 =>
bif decide (n768 < n785) then (hfad 1 p781 fun p786 =>
ldI .i64 H783 p786 fun n787 =>
K (decide (n769 < n787)) H783)
 else (K false H783))
 else (K false H783))
 else (K false H783)
def tagtree_Tree_has {R:Type} (p767:Oa) (n768:Int) (n769:Int) (H:Heap) (K:Bool → Heap → Option R):Option R:=tagtree_Tree_has_b 0 p767 n768 n769 H K
def tagtree_Tree_has_Ct {R:Type}:Tab R:=fun _ _ _ _ => none
def tagtree_Tree_has_C (R:Type) (k:Nat):Tab R:=tagtree_Tree_has_Ct
theorem tagtree_Tree_has_S (R:Type) (k:Nat):CSound Try.prog (tagtree_Tree_has_C R k):=csound_nil
def tagtree_Tree_has_Jt {R:Type} (k:Nat):JTab R:=fun _ _ _ _ => none
def tagtree_Tree_has_J (R:Type) (k:Nat):JTab R:=tagtree_Tree_has_Jt k
def tagtree_Tree_has_at:AT:=(.seq (.reg [0,1,2] []) (.seq (.reg [1,2,7] []) (.seq (.reg [6] []) .leaf)))
def tagtree_Tree_has_f:IFn:=⟨32,[.t 6],(.seq (.reg [⟨some 6,.mov (.c (Go.Value.bool false)),none⟩] [0,1,2]) (.seq (.reg [⟨some 8,.mov (.t 0),none⟩,
⟨some 9,.nilc (.t 8),none⟩,
⟨some 10,.fad 0 (.t 9),none⟩,
⟨some 11,.ld (.sc .slc) (.t 10),none⟩,
⟨some 12,.ids 3 (.t 11) (.c (Go.Value.int Go.IntKind.i64 0)),none⟩,
⟨some 13,.ld (.agg [(.int .i64),(.int .i64),.slc]) (.t 12),none⟩,
⟨some 7,.alc [.int .i64 0,.int .i64 0,.slice none 0 0],none⟩,
⟨none,.st 3 (.t 7) (.t 13),none⟩] [1,2,7]) (.seq (.reg [⟨some 14,.mov (.t 1),none⟩,
⟨some 15,.cmp .geq (.t 14) (.c (Go.Value.int Go.IntKind.i64 0)),none⟩,
⟨some 16,.mov (.t 15),none⟩,
⟨some 17,.mov (.t 2),some (16,true)⟩,
⟨some 18,.cmp .geq (.t 17) (.c (Go.Value.int Go.IntKind.i64 0)),some (16,true)⟩,
⟨some 19,.pick (.t 16) (.t 18) (.c (Go.Value.bool false)),none⟩,
⟨some 20,.mov (.t 19),none⟩,
⟨some 21,.mov (.t 1),some (20,true)⟩,
⟨some 22,.fad 0 (.t 7),some (20,true)⟩,
⟨some 23,.ld (.sc (.int .i64)) (.t 22),some (20,true)⟩,
⟨some 24,.cmp .lss (.t 21) (.t 23),some (20,true)⟩,
⟨some 25,.pick (.t 20) (.t 24) (.c (Go.Value.bool false)),none⟩,
⟨some 26,.mov (.t 25),none⟩,
⟨some 27,.mov (.t 2),some (26,true)⟩,
⟨some 28,.fad 1 (.t 7),some (26,true)⟩,
⟨some 29,.ld (.sc (.int .i64)) (.t 28),some (26,true)⟩,
⟨some 30,.cmp .lss (.t 27) (.t 29),some (26,true)⟩,
⟨some 31,.pick (.t 26) (.t 30) (.c (Go.Value.bool false)),none⟩,
⟨some 6,.mov (.t 31),none⟩] [6]) .ret)))⟩
def tagtree_Tree_has_ca {R:Type} (f:tagtree_Tree_has_t R) (args:List Value) (H:Heap) (K:Value → Heap → Option R):Option R :=
  match args with
  | [.pointer p767,.int .i64 n768,.int .i64 n769] => f p767 n768 n769 H (fun t1199 H => K (.bool t1199) H)
  | _ => none
def tagtree_Tree_has_c (R:Type) (k:Nat) (args:List Value) (H:Heap) (K:Value → Heap → Option R):Option R:=tagtree_Tree_has_ca tagtree_Tree_has args H K
theorem tagtree_Tree_has_e {R:Type} (k:Nat) (p767:Oa) (n768:Int) (n769:Int) (H:Heap) (K:Value → Heap → Option R):evF (tagtree_Tree_has_Ct) (tagtree_Tree_has_Jt k) tagtree_Tree_has_f [.pointer p767,.int .i64 n768,.int .i64 n769] H K = tagtree_Tree_has_b k p767 n768 n769 H (fun t1199 H => K (.bool t1199) H):=by kernel_rfl
theorem tagtree_Tree_has_cs (R:Type) (k:Nat):∀ args H K r,tagtree_Tree_has_c R k args H K = some r → ∃ v H',Tri Try.prog 55 args H v H' ∧ K v H' = some r:=by
  intro args H K r h
  unfold tagtree_Tree_has_c tagtree_Tree_has_ca at h
  split at h
  · exact evF_ok (C:=tagtree_Tree_has_C R 0) (an:=An) (t:=tagtree_Tree_has_at) (fn:=Try.f55) (c:=(Try.f55.body.getD .skip)) (ifn:=tagtree_Tree_has_f) (tagtree_Tree_has_S R 0) (tagtree_Tree_has_J R 0) Try.func55 (by kernel_rfl) (by kernel_rfl) (And.intro True.intro (And.intro True.intro (And.intro True.intro True.intro))) rfl (Eq.trans (tagtree_Tree_has_e 0 _ _ _ H K) h)
  · cases h
abbrev tagtree_Tree_at_t (R:Type):Type:=Oa → Int → Int → Int → Heap → (Oa → Option R) → Option R
def tagtree_Tree_at_b {R:Type} (k:Nat) (p779:Oa) (n780:Int) (n781:Int) (n782:Int) (H:Heap) (K:Oa → Option R):Option R :=
hnil p779 fun p783 =>
hfad 0 p783 fun p784 =>
ldL H p784 fun q785 l786 c787 =>
hidx q785 l786 n780 3 fun p788 =>
hnil p788 fun p789 =>
hfad 2 p789 fun p790 =>
ldL H p790 fun q791 l792 c793 =>
hbin .shr .i64 n782 (IntKind.wrap .u64 n780) fun n794 =>
hnil p788 fun p795 =>
hfad 0 p795 fun p796 =>
ldI .i64 H p796 fun n797 =>
hbin .shr .i64 n781 (IntKind.wrap .u64 n780) fun n798 =>
hidx q791 l792 (IntKind.wrap .i64 ((IntKind.wrap .i64 (n794 * n797)) + n798)) 3 fun p799 =>
K p799
def tagtree_Tree_at {R:Type} (p779:Oa) (n780:Int) (n781:Int) (n782:Int) (H:Heap) (K:Oa → Option R):Option R:=tagtree_Tree_at_b 0 p779 n780 n781 n782 H K
def tagtree_Tree_at_Ct {R:Type}:Tab R:=fun _ _ _ _ => none
def tagtree_Tree_at_C (R:Type) (k:Nat):Tab R:=tagtree_Tree_at_Ct
theorem tagtree_Tree_at_S (R:Type) (k:Nat):CSound Try.prog (tagtree_Tree_at_C R k):=csound_nil
def tagtree_Tree_at_Jt {R:Type} (k:Nat):JTab R:=fun _ _ _ _ => none
def tagtree_Tree_at_J (R:Type) (k:Nat):JTab R:=tagtree_Tree_at_Jt k
def tagtree_Tree_at_at:AT:=(.seq (.reg [0,1,2,3] []) (.seq (.reg [1,2,3,9] []) (.seq (.reg [8] [[],[0],[0,1],[0,1,2],[],[],[5],[4,5,6],[],[8],[8,9],[8,9,10],[4,5,6,7,8,9,10,11],[],[],[14],[13,14,15],[4,5,6,7,8,9,10,11,12,13,14,15,16],[0,1,2,3,4,5,6,7,8,9,10,11,12,13,14,15,16,17],[0,1,2,3,4,5,6,7,8,9,10,11,12,13,14,15,16,17,18]]) .leaf)))
def tagtree_Tree_at_f:IFn:=⟨35,[.t 8],(.seq (.reg [⟨some 8,.mov (.c (Go.Value.pointer none)),none⟩] [0,1,2,3]) (.seq (.reg [⟨some 10,.mov (.t 0),none⟩,
⟨some 11,.nilc (.t 10),none⟩,
⟨some 12,.fad 0 (.t 11),none⟩,
⟨some 13,.ld (.sc .slc) (.t 12),none⟩,
⟨some 14,.mov (.t 1),none⟩,
⟨some 15,.ids 3 (.t 13) (.t 14),none⟩,
⟨some 9,.mov (.t 15),none⟩] [1,2,3,9]) (.seq (.reg [⟨some 16,.mov (.t 9),none⟩,
⟨some 17,.nilc (.t 16),none⟩,
⟨some 18,.fad 2 (.t 17),none⟩,
⟨some 19,.ld (.sc .slc) (.t 18),none⟩,
⟨some 20,.mov (.t 3),none⟩,
⟨some 21,.mov (.t 1),none⟩,
⟨some 22,.cnv .u64 (.t 21),none⟩,
⟨some 23,.bin .shr .i64 (.t 20) (.t 22),none⟩,
⟨some 24,.mov (.t 9),none⟩,
⟨some 25,.nilc (.t 24),none⟩,
⟨some 26,.fad 0 (.t 25),none⟩,
⟨some 27,.ld (.sc (.int .i64)) (.t 26),none⟩,
⟨some 28,.bin .mul .i64 (.t 23) (.t 27),none⟩,
⟨some 29,.mov (.t 2),none⟩,
⟨some 30,.mov (.t 1),none⟩,
⟨some 31,.cnv .u64 (.t 30),none⟩,
⟨some 32,.bin .shr .i64 (.t 29) (.t 31),none⟩,
⟨some 33,.bin .add .i64 (.t 28) (.t 32),none⟩,
⟨some 34,.ids 3 (.t 19) (.t 33),none⟩,
⟨some 8,.mov (.t 34),none⟩] [8]) .ret)))⟩
def tagtree_Tree_at_ca {R:Type} (f:tagtree_Tree_at_t R) (args:List Value) (H:Heap) (K:Value → Heap → Option R):Option R :=
  match args with
  | [.pointer p779,.int .i64 n780,.int .i64 n781,.int .i64 n782] => f p779 n780 n781 n782 H (fun p1200 => K (.pointer p1200) H)
  | _ => none
def tagtree_Tree_at_c (R:Type) (k:Nat) (args:List Value) (H:Heap) (K:Value → Heap → Option R):Option R:=tagtree_Tree_at_ca tagtree_Tree_at args H K
theorem tagtree_Tree_at_e {R:Type} (k:Nat) (p779:Oa) (n780:Int) (n781:Int) (n782:Int) (H:Heap) (K:Value → Heap → Option R):evF (tagtree_Tree_at_Ct) (tagtree_Tree_at_Jt k) tagtree_Tree_at_f [.pointer p779,.int .i64 n780,.int .i64 n781,.int .i64 n782] H K = tagtree_Tree_at_b k p779 n780 n781 n782 H (fun p1200 => K (.pointer p1200) H):=by kernel_rfl
theorem tagtree_Tree_at_cs (R:Type) (k:Nat):∀ args H K r,tagtree_Tree_at_c R k args H K = some r → ∃ v H',Tri Try.prog 56 args H v H' ∧ K v H' = some r:=by
  intro args H K r h
  unfold tagtree_Tree_at_c tagtree_Tree_at_ca at h
  split at h
  · exact evF_ok (C:=tagtree_Tree_at_C R 0) (an:=An) (t:=tagtree_Tree_at_at) (fn:=Try.f56) (c:=(Try.f56.body.getD .skip)) (ifn:=tagtree_Tree_at_f) (tagtree_Tree_at_S R 0) (tagtree_Tree_at_J R 0) Try.func56 (by kernel_rfl) (by kernel_rfl) (And.intro True.intro (And.intro True.intro (And.intro True.intro True.intro))) rfl (Eq.trans (tagtree_Tree_at_e 0 _ _ _ _ H K) h)
  · cases h
abbrev tagtree_Tree_Set_p0_t (R:Type):Type:=Oa → Int → Int → Int → Heap → (Oa → Int → Int → Int → Option R) → (Int → Option R) → Option R
def tagtree_Tree_Set_p0_b {R:Type} (tagtree_Tree_ok:tagtree_Tree_ok_t R) (k:Nat) (p743:Oa) (n744:Int) (n745:Int) (n746:Int) (H:Heap) (KN:Oa → Int → Int → Int → Option R) (KR:Int → Option R):Option R :=
tagtree_Tree_ok p743 H fun t747 =>
bif (!t747) then (KR 6)
 else (hnil p743 fun p748 =>
hfad 1 p748 fun p749 =>
ldB H p749 fun t750 =>
bif t750 then (KR 6)
 else (hnil p743 fun p751 =>
hfad 2 p751 fun p752 =>
ldB H p752 fun t753 =>
bif t753 then (KR 6)
 else (KN p743 n744 n745 n746)))
def tagtree_Tree_Set_p0 {R:Type} (k:Nat) (p743:Oa) (n744:Int) (n745:Int) (n746:Int) (H:Heap) (KN:Oa → Int → Int → Int → Option R) (KR:Int → Option R):Option R:=tagtree_Tree_Set_p0_b tagtree_Tree_ok k p743 n744 n745 n746 H KN KR
abbrev tagtree_Tree_Set_p1_t (R:Type):Type:=Oa → Int → Int → Int → Heap → (Oa → Int → Int → Int → Heap → Option R) → (Int → Heap → Option R) → Option R
def tagtree_Tree_Set_p1_b {R:Type} (tagtree_Tree_has:tagtree_Tree_has_t R) (k:Nat) (p763:Oa) (n764:Int) (n765:Int) (n766:Int) (H:Heap) (KN:Oa → Int → Int → Int → Heap → Option R) (KR:Int → Heap → Option R):Option R :=
tagtree_Tree_has p763 n764 n765 H fun t767 H768 =>
bif (!t767) then (KR 2 H768)
 else (bif decide (n766 < 0) then (KR 2 H768)
 else (bif decide (n766 > 65535) then (KR 2 H768)
 else (KN p763 n764 n765 n766 H768)))
def tagtree_Tree_Set_p1 {R:Type} (k:Nat) (p763:Oa) (n764:Int) (n765:Int) (n766:Int) (H:Heap) (KN:Oa → Int → Int → Int → Heap → Option R) (KR:Int → Heap → Option R):Option R:=tagtree_Tree_Set_p1_b tagtree_Tree_has k p763 n764 n765 n766 H KN KR
abbrev tagtree_Tree_Set_t (R:Type):Type:=Oa → Int → Int → Int → Heap → (Int → Heap → Option R) → Option R
def tagtree_Tree_Set_b {R:Type} (tagtree_Tree_Set_p0:tagtree_Tree_Set_p0_t R) (tagtree_Tree_Set_p1:tagtree_Tree_Set_p1_t R) (tagtree_Tree_at:tagtree_Tree_at_t R) (k:Nat) (p739:Oa) (n740:Int) (n741:Int) (n742:Int) (H:Heap) (K:Int → Heap → Option R):Option R :=
tagtree_Tree_Set_p0 p739 n740 n741 n742 H (fun p759 n760 n761 n762 =>
tagtree_Tree_Set_p1 p759 n760 n761 n762 H (fun p774 n775 n776 n777 H778 =>
tagtree_Tree_at p774 0 n775 n776 H778 fun p779 =>
hnil p779 fun p780 =>
hfad 0 p780 fun p781 =>
hst1 H778 p781 (.int .i64 n777) fun H782 =>
K 0 H782) (fun n783 H784 =>
K n783 H784)) (fun n785 =>
K n785 H)
def tagtree_Tree_Set {R:Type} (k:Nat) (p739:Oa) (n740:Int) (n741:Int) (n742:Int) (H:Heap) (K:Int → Heap → Option R):Option R:=tagtree_Tree_Set_b (tagtree_Tree_Set_p0 k) (tagtree_Tree_Set_p1 k) tagtree_Tree_at k p739 n740 n741 n742 H K
def tagtree_Tree_Set_Ct {R:Type} (tagtree_Tree_ok:tagtree_Tree_ok_t R) (tagtree_Tree_has:tagtree_Tree_has_t R) (tagtree_Tree_at:tagtree_Tree_at_t R):Tab R:=tcons 54 (tagtree_Tree_ok_ca tagtree_Tree_ok) <| tcons 55 (tagtree_Tree_has_ca tagtree_Tree_has) <| tcons 56 (tagtree_Tree_at_ca tagtree_Tree_at) <| fun _ _ _ _ => none
def tagtree_Tree_Set_C (R:Type) (k:Nat):Tab R:=tagtree_Tree_Set_Ct tagtree_Tree_ok tagtree_Tree_has tagtree_Tree_at
theorem tagtree_Tree_Set_S (R:Type) (k:Nat):CSound Try.prog (tagtree_Tree_Set_C R k):=csound_cons (tagtree_Tree_ok_cs R k) <| csound_cons (tagtree_Tree_has_cs R k) <| csound_cons (tagtree_Tree_at_cs R k) <| csound_nil
def tagtree_Tree_Set_aa0 {R:Type} (f:tagtree_Tree_Set_p0_t R) (n:Nat) (vals:List Value) (H:Heap) (K:Xit → Env → Heap → Option R):Option R :=
  match vals with
  | [.pointer p743,.int .i64 n744,.int .i64 n745,.int .i64 n746] => f p743 n744 n745 n746 H (fun p1201 n1202 n1203 n1204 => K .normal [(0,.pointer p1201),(1,.int .i64 n1202),(2,.int .i64 n1203),(3,.int .i64 n1204)] H) (fun n1205 => K .ret [(8,.int .i64 n1205)] H)
  | _ => none
def tagtree_Tree_Set_a0 (R:Type) (k n:Nat) (vals:List Value) (H:Heap) (K:Xit → Env → Heap → Option R):Option R:=tagtree_Tree_Set_aa0 (tagtree_Tree_Set_p0 k) n vals H K
def tagtree_Tree_Set_aa1 {R:Type} (f:tagtree_Tree_Set_p1_t R) (n:Nat) (vals:List Value) (H:Heap) (K:Xit → Env → Heap → Option R):Option R :=
  match vals with
  | [.pointer p763,.int .i64 n764,.int .i64 n765,.int .i64 n766] => f p763 n764 n765 n766 H (fun p1206 n1207 n1208 n1209 H => K .normal [(0,.pointer p1206),(1,.int .i64 n1207),(2,.int .i64 n1208),(3,.int .i64 n1209)] H) (fun n1210 H => K .ret [(8,.int .i64 n1210)] H)
  | _ => none
def tagtree_Tree_Set_a1 (R:Type) (k n:Nat) (vals:List Value) (H:Heap) (K:Xit → Env → Heap → Option R):Option R:=tagtree_Tree_Set_aa1 (tagtree_Tree_Set_p1 k) n vals H K
def tagtree_Tree_Set_Jt {R:Type} (k:Nat) (tagtree_Tree_Set_p0:tagtree_Tree_Set_p0_t R) (tagtree_Tree_Set_p1:tagtree_Tree_Set_p1_t R):JTab R:=tcons 0 (tagtree_Tree_Set_aa0 tagtree_Tree_Set_p0 k) <| tcons 1 (tagtree_Tree_Set_aa1 tagtree_Tree_Set_p1 k) <| fun _ _ _ _ => none
def tagtree_Tree_Set_J (R:Type) (k:Nat):JTab R:=tagtree_Tree_Set_Jt k (tagtree_Tree_Set_p0 k) (tagtree_Tree_Set_p1 k)
def tagtree_Tree_Set_at:AT:=(.seq (.reg [0,1,2,3] []) (.seq (.opq 0 [0,1,2,3] ⟨[0,1,2,3],[],[8]⟩ (.seq (.reg [0,1,2,3,23] []) (.cond (.seq (.reg [8] []) .leaf) .leaf))) (.seq (.opq 1 [0,1,2,3] ⟨[0,1,2,3],[],[8]⟩ (.seq (.reg [0,1,2,3,36] []) (.cond (.seq (.reg [8] []) .leaf) .leaf))) (.seq (.reg [] []) (.seq (.reg [8] []) .leaf)))))
def tagtree_Tree_Set_i1:IC:=(.seq (.reg [⟨some 24,.mov (.t 0),none⟩,
⟨some 25,.mov (.t 1),none⟩,
⟨some 26,.mov (.t 2),none⟩,
⟨some 27,.call 55 [(.t 24),(.t 25),(.t 26)] (.one (.sc .bool)),none⟩,
⟨some 28,.lnot (.t 27),none⟩,
⟨some 29,.mov (.t 28),none⟩,
⟨some 30,.mov (.t 3),some (29,false)⟩,
⟨some 31,.cmp .lss (.t 30) (.c (Go.Value.int Go.IntKind.i64 0)),some (29,false)⟩,
⟨some 32,.pick (.t 29) (.c (Go.Value.bool true)) (.t 31),none⟩,
⟨some 33,.mov (.t 32),none⟩,
⟨some 34,.mov (.t 3),some (33,false)⟩,
⟨some 35,.cmp .gtr (.t 34) (.c (Go.Value.int Go.IntKind.i64 65535)),some (33,false)⟩,
⟨some 36,.pick (.t 33) (.c (Go.Value.bool true)) (.t 35),none⟩] [0,1,2,3,36]) (.cond (.t 36) (.seq (.reg [⟨some 8,.mov (.c (Go.Value.int Go.IntKind.i64 2)),none⟩] [8]) .ret) .skip))
def tagtree_Tree_Set_i0:IC:=(.seq (.reg [⟨some 9,.mov (.t 0),none⟩,
⟨some 10,.call 54 [(.t 9)] (.one (.sc .bool)),none⟩,
⟨some 11,.lnot (.t 10),none⟩,
⟨some 12,.mov (.t 11),none⟩,
⟨some 13,.mov (.t 0),some (12,false)⟩,
⟨some 14,.nilc (.t 13),some (12,false)⟩,
⟨some 15,.fad 1 (.t 14),some (12,false)⟩,
⟨some 16,.ld (.sc .bool) (.t 15),some (12,false)⟩,
⟨some 17,.pick (.t 12) (.c (Go.Value.bool true)) (.t 16),none⟩,
⟨some 18,.mov (.t 17),none⟩,
⟨some 19,.mov (.t 0),some (18,false)⟩,
⟨some 20,.nilc (.t 19),some (18,false)⟩,
⟨some 21,.fad 2 (.t 20),some (18,false)⟩,
⟨some 22,.ld (.sc .bool) (.t 21),some (18,false)⟩,
⟨some 23,.pick (.t 18) (.c (Go.Value.bool true)) (.t 22),none⟩] [0,1,2,3,23]) (.cond (.t 23) (.seq (.reg [⟨some 8,.mov (.c (Go.Value.int Go.IntKind.i64 6)),none⟩] [8]) .ret) .skip))
def tagtree_Tree_Set_f:IFn:=⟨44,[.t 8],(.seq (.reg [⟨some 8,.mov (.c (Go.Value.int Go.IntKind.i64 0)),none⟩] [0,1,2,3]) (.seq (.opq 0 [0,1,2,3] tagtree_Tree_Set_i0) (.seq (.opq 1 [0,1,2,3] tagtree_Tree_Set_i1) (.seq (.reg [⟨some 37,.mov (.t 0),none⟩,
⟨some 38,.mov (.t 1),none⟩,
⟨some 39,.mov (.t 2),none⟩,
⟨some 40,.call 56 [(.t 37),(.c (Go.Value.int Go.IntKind.i64 0)),(.t 38),(.t 39)] (.one (.sc .ptr)),none⟩,
⟨some 41,.mov (.t 3),none⟩,
⟨some 42,.nilc (.t 40),none⟩,
⟨some 43,.fad 0 (.t 42),none⟩,
⟨none,.st 1 (.t 43) (.t 41),none⟩] []) (.seq (.reg [⟨some 8,.mov (.c (Go.Value.int Go.IntKind.i64 0)),none⟩] [8]) .ret)))))⟩
theorem tagtree_Tree_Set_e1 {R:Type} (tagtree_Tree_ok:tagtree_Tree_ok_t R) (tagtree_Tree_has:tagtree_Tree_has_t R) (tagtree_Tree_at:tagtree_Tree_at_t R) (tagtree_Tree_Set_p0:tagtree_Tree_Set_p0_t R) (tagtree_Tree_Set_p1:tagtree_Tree_Set_p1_t R) (k:Nat) (p763:Oa) (n764:Int) (n765:Int) (n766:Int) (H:Heap) (K:Xit → Env → Heap → Option R):evJ (tagtree_Tree_Set_Ct tagtree_Tree_ok tagtree_Tree_has tagtree_Tree_at) (tagtree_Tree_Set_Jt k tagtree_Tree_Set_p0 tagtree_Tree_Set_p1) tagtree_Tree_Set_i1 (List.zip [0,1,2,3] [.pointer p763,.int .i64 n764,.int .i64 n765,.int .i64 n766]) H (fun x e' H' => K x (clean e' ((⟨[0,1,2,3],[],[8]⟩:Out).of x)) H') = tagtree_Tree_Set_p1_b tagtree_Tree_has k p763 n764 n765 n766 H (fun p1206 n1207 n1208 n1209 H => K .normal [(0,.pointer p1206),(1,.int .i64 n1207),(2,.int .i64 n1208),(3,.int .i64 n1209)] H) (fun n1210 H => K .ret [(8,.int .i64 n1210)] H):=by kernel_rfl
theorem tagtree_Tree_Set_j1 {R:Type} (k:Nat):JS Try.prog 44 (tagtree_Tree_Set_a1 R k k) [0,1,2,3] ⟨[0,1,2,3],[],[8]⟩ (sel [1,1,0] (Try.f37.body.getD .skip)) :=
  piece_ok (nt:=44) (c:=(sel [1,1,0] (Try.f37.body.getD .skip))) (C:=tagtree_Tree_Set_C R k) (an:=An) (t:=(.seq (.reg [0,1,2,3,36] []) (.cond (.seq (.reg [8] []) .leaf) .leaf))) (ic:=tagtree_Tree_Set_i1) (tagtree_Tree_Set_S R k) (tagtree_Tree_Set_J R k) (by kernel_rfl) (And.intro True.intro (And.intro (And.intro True.intro True.intro) True.intro)) (tagtree_Tree_Set_a1 R k k)
    (fun vals H K r h => by
      unfold tagtree_Tree_Set_a1 tagtree_Tree_Set_aa1 at h
      split at h <;> first | (cases h; done) | exact Eq.trans (tagtree_Tree_Set_e1 tagtree_Tree_ok tagtree_Tree_has tagtree_Tree_at (tagtree_Tree_Set_p0 k) (tagtree_Tree_Set_p1 k) k _ _ _ _ H K) h)
theorem tagtree_Tree_Set_e0 {R:Type} (tagtree_Tree_ok:tagtree_Tree_ok_t R) (tagtree_Tree_has:tagtree_Tree_has_t R) (tagtree_Tree_at:tagtree_Tree_at_t R) (tagtree_Tree_Set_p0:tagtree_Tree_Set_p0_t R) (tagtree_Tree_Set_p1:tagtree_Tree_Set_p1_t R) (k:Nat) (p743:Oa) (n744:Int) (n745:Int) (n746:Int) (H:Heap) (K:Xit → Env → Heap → Option R):evJ (tagtree_Tree_Set_Ct tagtree_Tree_ok tagtree_Tree_has tagtree_Tree_at) (tagtree_Tree_Set_Jt k tagtree_Tree_Set_p0 tagtree_Tree_Set_p1) tagtree_Tree_Set_i0 (List.zip [0,1,2,3] [.pointer p743,.int .i64 n744,.int .i64 n745,.int .i64 n746]) H (fun x e' H' => K x (clean e' ((⟨[0,1,2,3],[],[8]⟩:Out).of x)) H') = tagtree_Tree_Set_p0_b tagtree_Tree_ok k p743 n744 n745 n746 H (fun p1201 n1202 n1203 n1204 => K .normal [(0,.pointer p1201),(1,.int .i64 n1202),(2,.int .i64 n1203),(3,.int .i64 n1204)] H) (fun n1205 => K .ret [(8,.int .i64 n1205)] H):=by kernel_rfl
theorem tagtree_Tree_Set_j0 {R:Type} (k:Nat):JS Try.prog 44 (tagtree_Tree_Set_a0 R k k) [0,1,2,3] ⟨[0,1,2,3],[],[8]⟩ (sel [1,0] (Try.f37.body.getD .skip)) :=
  piece_ok (nt:=44) (c:=(sel [1,0] (Try.f37.body.getD .skip))) (C:=tagtree_Tree_Set_C R k) (an:=An) (t:=(.seq (.reg [0,1,2,3,23] []) (.cond (.seq (.reg [8] []) .leaf) .leaf))) (ic:=tagtree_Tree_Set_i0) (tagtree_Tree_Set_S R k) (tagtree_Tree_Set_J R k) (by kernel_rfl) (And.intro True.intro (And.intro (And.intro True.intro True.intro) True.intro)) (tagtree_Tree_Set_a0 R k k)
    (fun vals H K r h => by
      unfold tagtree_Tree_Set_a0 tagtree_Tree_Set_aa0 at h
      split at h <;> first | (cases h; done) | exact Eq.trans (tagtree_Tree_Set_e0 tagtree_Tree_ok tagtree_Tree_has tagtree_Tree_at (tagtree_Tree_Set_p0 k) (tagtree_Tree_Set_p1 k) k _ _ _ _ H K) h)
def tagtree_Tree_Set_ca {R:Type} (f:tagtree_Tree_Set_t R) (args:List Value) (H:Heap) (K:Value → Heap → Option R):Option R :=
  match args with
  | [.pointer p739,.int .i64 n740,.int .i64 n741,.int .i64 n742] => f p739 n740 n741 n742 H (fun n1211 H => K (.int .i64 n1211) H)
  | _ => none
def tagtree_Tree_Set_c (R:Type) (k:Nat) (args:List Value) (H:Heap) (K:Value → Heap → Option R):Option R:=tagtree_Tree_Set_ca (tagtree_Tree_Set k) args H K
theorem tagtree_Tree_Set_e {R:Type} (tagtree_Tree_ok:tagtree_Tree_ok_t R) (tagtree_Tree_has:tagtree_Tree_has_t R) (tagtree_Tree_at:tagtree_Tree_at_t R) (tagtree_Tree_Set_p0:tagtree_Tree_Set_p0_t R) (tagtree_Tree_Set_p1:tagtree_Tree_Set_p1_t R) (k:Nat) (p739:Oa) (n740:Int) (n741:Int) (n742:Int) (H:Heap) (K:Value → Heap → Option R):evF (tagtree_Tree_Set_Ct tagtree_Tree_ok tagtree_Tree_has tagtree_Tree_at) (tagtree_Tree_Set_Jt k tagtree_Tree_Set_p0 tagtree_Tree_Set_p1) tagtree_Tree_Set_f [.pointer p739,.int .i64 n740,.int .i64 n741,.int .i64 n742] H K = tagtree_Tree_Set_b tagtree_Tree_Set_p0 tagtree_Tree_Set_p1 tagtree_Tree_at k p739 n740 n741 n742 H (fun n1211 H => K (.int .i64 n1211) H):=by kernel_rfl
theorem tagtree_Tree_Set_cs (R:Type) (k:Nat):∀ args H K r,tagtree_Tree_Set_c R k args H K = some r → ∃ v H',Tri Try.prog 37 args H v H' ∧ K v H' = some r:=by
  intro args H K r h
  unfold tagtree_Tree_Set_c tagtree_Tree_Set_ca at h
  split at h
  · exact evF_ok (C:=tagtree_Tree_Set_C R k) (an:=An) (t:=tagtree_Tree_Set_at) (fn:=Try.f37) (c:=(Try.f37.body.getD .skip)) (ifn:=tagtree_Tree_Set_f) (tagtree_Tree_Set_S R k) (tagtree_Tree_Set_J R k) Try.func37 (by kernel_rfl) (by kernel_rfl) (And.intro True.intro (And.intro (tagtree_Tree_Set_j0 k) (And.intro (tagtree_Tree_Set_j1 k) (And.intro True.intro (And.intro True.intro True.intro))))) rfl (Eq.trans (tagtree_Tree_Set_e tagtree_Tree_ok tagtree_Tree_has tagtree_Tree_at (tagtree_Tree_Set_p0 k) (tagtree_Tree_Set_p1 k) k _ _ _ _ H K) h)
  · cases h
end Go.Proofs.Ytmanlfonppfhaaa.Sh
