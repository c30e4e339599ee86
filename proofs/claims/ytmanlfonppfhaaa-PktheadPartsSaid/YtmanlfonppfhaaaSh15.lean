/- Lean functions that stand for Go's,over an explicit heap,and the proofs that they do (written by this claim's program shallow.py). -/
import Derived.Test.YtmanlfonppfhaaaSh0
import Derived.Test.YtmanlfonppfhaaaSh1
import Derived.Test.YtmanlfonppfhaaaSh7
import Derived.Test.YtmanlfonppfhaaaSh9
set_option maxRecDepth 100000
set_option linter.unusedVariables false
set_option linter.unusedSimpArgs false
namespace Go.Proofs.Ytmanlfonppfhaaa.Sh
open Go.Proofs.Ytmanlfonppfhaaa.FW
abbrev L_PktheadParts_t (R:Type):Type:=Int → Int → Bool → Bool → Bool → Bool → Bool → Heap → (Bool → Heap → Option R) → Option R
def L_PktheadParts_b {R:Type} (pkthead_Parts:pkthead_Parts_t R) (R26_Parts:R26_Parts_t R) (R02_SameInts:R02_SameInts_t R) (L_exampleHoldsq:L_exampleHoldsq_t R) (k:Nat) (n148:Int) (n149:Int) (t150:Bool) (t151:Bool) (t152:Bool) (t153:Bool) (t154:Bool) (H:Heap) (K:Bool → Heap → Option R):Option R :=
hal H [.bool t150,.bool t151,.bool t152,.bool t153,.bool t154] fun p155 H156 =>
ldB H156 (pad p155 0) fun t157 =>
ldB H156 (pad p155 1) fun t158 =>
ldB H156 (pad p155 2) fun t159 =>
ldB H156 (pad p155 3) fun t160 =>
ldB H156 (pad p155 4) fun t161 =>
pkthead_Parts n148 n149 t157 t158 t159 t160 t161 (roH H156) fun q162 l163 c164 H165 =>
ldB (H156 ++ H165.drop H156.length) (pad p155 0) fun t166 =>
ldB (H156 ++ H165.drop H156.length) (pad p155 1) fun t167 =>
ldB (H156 ++ H165.drop H156.length) (pad p155 2) fun t168 =>
ldB (H156 ++ H165.drop H156.length) (pad p155 3) fun t169 =>
ldB (H156 ++ H165.drop H156.length) (pad p155 4) fun t170 =>
R26_Parts n148 n149 t166 t167 t168 t169 t170 (H156 ++ H165.drop H156.length) fun q171 l172 c173 H174 =>
R02_SameInts q162 l163 c164 q171 l172 c173 H174 fun t175 =>
bif t175 then (L_exampleHoldsq fun t176 =>
K t176 H174)
 else (K false H174)
def L_PktheadParts {R:Type} (k:Nat) (n148:Int) (n149:Int) (t150:Bool) (t151:Bool) (t152:Bool) (t153:Bool) (t154:Bool) (H:Heap) (K:Bool → Heap → Option R):Option R:=L_PktheadParts_b (pkthead_Parts k) (R26_Parts k) (R02_SameInts k) L_exampleHoldsq k n148 n149 t150 t151 t152 t153 t154 H K
def L_PktheadParts_Ct {R:Type} (pkthead_Parts:pkthead_Parts_t R) (R26_Parts:R26_Parts_t R) (R02_SameInts:R02_SameInts_t R) (L_exampleHoldsq:L_exampleHoldsq_t R):Tab R:=tcons 20 (pkthead_Parts_ca pkthead_Parts) <| tcons 21 (R26_Parts_ca R26_Parts) <| tcons 19 (R02_SameInts_ca R02_SameInts) <| tcons 9 (L_exampleHoldsq_ca L_exampleHoldsq) <| fun _ _ _ _ => none
def L_PktheadParts_C (R:Type) (k:Nat):Tab R:=L_PktheadParts_Ct (pkthead_Parts k) (R26_Parts k) (R02_SameInts k) L_exampleHoldsq
theorem L_PktheadParts_S (R:Type) (k:Nat):CSound Try.prog (L_PktheadParts_C R k):=csound_cons (pkthead_Parts_cs R k) <| csound_cons (R26_Parts_cs R k) <| csound_cons (R02_SameInts_cs R k) <| csound_cons (L_exampleHoldsq_cs R k) <| csound_nil
def L_PktheadParts_Jt {R:Type} (k:Nat):JTab R:=fun _ _ _ _ => none
def L_PktheadParts_J (R:Type) (k:Nat):JTab R:=L_PktheadParts_Jt k
def L_PktheadParts_at:AT:=(.seq (.reg [0,1,5] []) (.seq (.reg [6] [[],[],[],[0,1,2],[],[],[],[0,1,2,3,4,5,6],[0,1,2,3,4,5,6,7],[0,1,2,3,4,5,6,7,8],[0,1,2,3,4,5,6,7,8,9],[0,1,2,3,4,5,6,7,8,9,10],[0,1,2,3,4,5,6,7,8,9,10,11]]) .leaf))
def L_PktheadParts_f:IFn:=⟨19,[.t 6],(.seq (.reg [⟨some 5,.box (.t 2),none⟩,
⟨some 6,.mov (.c (Go.Value.bool false)),none⟩] [0,1,5]) (.seq (.reg [⟨some 7,.mov (.t 0),none⟩,
⟨some 8,.mov (.t 1),none⟩,
⟨some 9,.ld (.agg [.bool,.bool,.bool,.bool,.bool]) (.t 5),none⟩,
⟨some 10,.calf 20 [(.t 7),(.t 8),(.t 9)] [] (.one (.sc .slc)),none⟩,
⟨some 11,.mov (.t 0),none⟩,
⟨some 12,.mov (.t 1),none⟩,
⟨some 13,.ld (.agg [.bool,.bool,.bool,.bool,.bool]) (.t 5),none⟩,
⟨some 14,.call 21 [(.t 11),(.t 12),(.t 13)] (.one (.sc .slc)),none⟩,
⟨some 15,.call 19 [(.t 10),(.t 14)] (.one (.sc .bool)),none⟩,
⟨some 16,.mov (.t 15),none⟩,
⟨some 17,.call 9 [] (.one (.sc .bool)),some (16,true)⟩,
⟨some 18,.pick (.t 16) (.t 17) (.c (Go.Value.bool false)),none⟩,
⟨some 6,.mov (.t 18),none⟩] [6]) .ret))⟩
def L_PktheadParts_ca {R:Type} (f:L_PktheadParts_t R) (args:List Value) (H:Heap) (K:Value → Heap → Option R):Option R :=
  match args with
  | [.int .i64 n148,.int .i64 n149,.agg ⟨[.bool t150,.bool t151,.bool t152,.bool t153,.bool t154]⟩] => f n148 n149 t150 t151 t152 t153 t154 H (fun t2203 H => K (.bool t2203) H)
  | _ => none
def L_PktheadParts_c (R:Type) (k:Nat) (args:List Value) (H:Heap) (K:Value → Heap → Option R):Option R:=L_PktheadParts_ca (L_PktheadParts k) args H K
theorem L_PktheadParts_e {R:Type} (pkthead_Parts:pkthead_Parts_t R) (R26_Parts:R26_Parts_t R) (R02_SameInts:R02_SameInts_t R) (L_exampleHoldsq:L_exampleHoldsq_t R) (k:Nat) (n148:Int) (n149:Int) (t150:Bool) (t151:Bool) (t152:Bool) (t153:Bool) (t154:Bool) (H:Heap) (K:Value → Heap → Option R):evF (L_PktheadParts_Ct pkthead_Parts R26_Parts R02_SameInts L_exampleHoldsq) (L_PktheadParts_Jt k) L_PktheadParts_f [.int .i64 n148,.int .i64 n149,.agg ⟨[.bool t150,.bool t151,.bool t152,.bool t153,.bool t154]⟩] H K = L_PktheadParts_b pkthead_Parts R26_Parts R02_SameInts L_exampleHoldsq k n148 n149 t150 t151 t152 t153 t154 H (fun t2203 H => K (.bool t2203) H):=by kernel_rfl
theorem L_PktheadParts_cs (R:Type) (k:Nat):∀ args H K r,L_PktheadParts_c R k args H K = some r → ∃ v H',Tri Try.prog 5 args H v H' ∧ K v H' = some r:=by
  intro args H K r h
  unfold L_PktheadParts_c L_PktheadParts_ca at h
  split at h
  · exact evF_ok (C:=L_PktheadParts_C R k) (an:=An) (t:=L_PktheadParts_at) (fn:=Try.f5) (c:=(Try.f5.body.getD .skip)) (ifn:=L_PktheadParts_f) (L_PktheadParts_S R k) (L_PktheadParts_J R k) Try.func5 (by kernel_rfl) (by kernel_rfl) (And.intro True.intro (And.intro True.intro True.intro)) rfl (Eq.trans (L_PktheadParts_e (pkthead_Parts k) (R26_Parts k) (R02_SameInts k) L_exampleHoldsq k _ _ _ _ _ _ _ H K) h)
  · cases h
end Go.Proofs.Ytmanlfonppfhaaa.Sh
