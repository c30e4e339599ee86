/- Lean functions that stand for Go's, over an explicit heap, and the proofs that they do (written by this claim's program shallow.py). -/
import Derived.Test.YtblkejnciinaeaaSh0
import Derived.Test.YtblkejnciinaeaaSh1
import Derived.Test.YtblkejnciinaeaaSh2
import Derived.Test.YtblkejnciinaeaaSh4
import Derived.Test.YtblkejnciinaeaaSh5
import Derived.Test.YtblkejnciinaeaaSh8
set_option maxRecDepth 100000
set_option linter.unusedVariables false
set_option linter.unusedSimpArgs false
namespace Go.Proofs.Ytblkejnciinaeaa.Sh
open Go.Proofs.Ytblkejnciinaeaa.FW
/-! ### L_TagtreeNobody: function 10 -/
abbrev L_TagtreeNobody_p0_t (R : Type) : Type := Int → Int → Int → Bool → Oa → Heap → (Int → Int → Int → Oa → Heap → Option R) → Option R
def L_TagtreeNobody_p0_b {R : Type} (k : Nat) (n1294 : Int) (n1295 : Int) (n1296 : Int) (t1297 : Bool) (p1298 : Oa) (H : Heap) (KN : Int → Int → Int → Oa → Heap → Option R) : Option R :=
bif t1297 then (hal H [.slice none 0 0, .bool false, .bool false] fun p1299 H1300 =>
KN n1294 n1295 n1296 p1299 H1300)
 else (KN n1294 n1295 n1296 p1298 H)
def L_TagtreeNobody_p0 {R : Type} (k : Nat) (n1294 : Int) (n1295 : Int) (n1296 : Int) (t1297 : Bool) (p1298 : Oa) (H : Heap) (KN : Int → Int → Int → Oa → Heap → Option R) : Option R := L_TagtreeNobody_p0_b k n1294 n1295 n1296 t1297 p1298 H KN

abbrev L_TagtreeNobody_t (R : Type) : Type := Int → Int → Int → Bool → Heap → (Bool → Heap → Option R) → Option R

def L_TagtreeNobody_b {R : Type} (L_TagtreeNobody_p0 : L_TagtreeNobody_p0_t R) (bitio_NewWriter : bitio_NewWriter_t R) (bitio_NewReader : bitio_NewReader_t R) (tagtree_Tree_Value : tagtree_Tree_Value_t R) (tagtree_Tree_Decode : tagtree_Tree_Decode_t R) (tagtree_Tree_Set : tagtree_Tree_Set_t R) (tagtree_Tree_Encode : tagtree_Tree_Encode_t R) (bitio_Writer_Len : bitio_Writer_Len_t R) (tagtree_Tree_Clone : tagtree_Tree_Clone_t R) (L_exampleHoldsq : L_exampleHoldsq_t R) (k : Nat) (n1290 : Int) (n1291 : Int) (n1292 : Int) (t1293 : Bool) (H : Heap) (K : Bool → Heap → Option R) : Option R :=
L_TagtreeNobody_p0 n1290 n1291 n1292 t1293 none H (fun n1305 n1306 n1307 p1308 H1309 =>
bitio_NewWriter H1309 fun p1310 H1311 =>
hal H1311 [.int .u8 255] fun p1312 H1313 =>
bitio_NewReader p1312 1 1 H1313 fun p1314 H1315 =>
tagtree_Tree_Value p1308 n1305 n1306 H1315 fun n1316 t1317 H1318 =>
tagtree_Tree_Decode p1308 p1314 n1305 n1306 n1307 H1318 fun t1319 n1320 H1321 =>
tagtree_Tree_Set p1308 n1305 n1306 n1307 H1321 fun n1322 H1323 =>
bif (n1322 == 6) then (tagtree_Tree_Encode p1308 p1310 n1305 n1306 n1307 H1323 fun n1324 H1325 =>
bif (n1324 == 6) then (bitio_Writer_Len p1310 H1325 fun n1326 =>
bif (n1326 == 0) then (bif (n1320 == 6) then (bif (!t1319) then (bif (n1316 == 0) then (bif (!t1317) then (tagtree_Tree_Clone p1308 H1325 fun p1327 H1328 =>
bif p1327.isNone then (L_exampleHoldsq fun t1329 =>
K t1329 H1328)
 else (K false H1328))
 else (K false H1325))
 else (K false H1325))
 else (K false H1325))
 else (K false H1325))
 else (K false H1325))
 else (K false H1325))
 else (K false H1323))

def L_TagtreeNobody {R : Type} (k : Nat) (n1290 : Int) (n1291 : Int) (n1292 : Int) (t1293 : Bool) (H : Heap) (K : Bool → Heap → Option R) : Option R := L_TagtreeNobody_b (L_TagtreeNobody_p0 k) bitio_NewWriter bitio_NewReader (tagtree_Tree_Value k) (tagtree_Tree_Decode k) (tagtree_Tree_Set k) (tagtree_Tree_Encode k) bitio_Writer_Len (tagtree_Tree_Clone k) L_exampleHoldsq k n1290 n1291 n1292 t1293 H K

def L_TagtreeNobody_Ct {R : Type} (bitio_NewWriter : bitio_NewWriter_t R) (bitio_NewReader : bitio_NewReader_t R) (tagtree_Tree_Value : tagtree_Tree_Value_t R) (tagtree_Tree_Decode : tagtree_Tree_Decode_t R) (tagtree_Tree_Set : tagtree_Tree_Set_t R) (tagtree_Tree_Encode : tagtree_Tree_Encode_t R) (bitio_Writer_Len : bitio_Writer_Len_t R) (tagtree_Tree_Clone : tagtree_Tree_Clone_t R) (L_exampleHoldsq : L_exampleHoldsq_t R) : Tab R := tcons 17 (bitio_NewWriter_ca bitio_NewWriter) <| tcons 30 (bitio_NewReader_ca bitio_NewReader) <| tcons 25 (tagtree_Tree_Value_ca tagtree_Tree_Value) <| tcons 32 (tagtree_Tree_Decode_ca tagtree_Tree_Decode) <| tcons 19 (tagtree_Tree_Set_ca tagtree_Tree_Set) <| tcons 21 (tagtree_Tree_Encode_ca tagtree_Tree_Encode) <| tcons 23 (bitio_Writer_Len_ca bitio_Writer_Len) <| tcons 35 (tagtree_Tree_Clone_ca tagtree_Tree_Clone) <| tcons 15 (L_exampleHoldsq_ca L_exampleHoldsq) <| fun _ _ _ _ => none
def L_TagtreeNobody_C (R : Type) (k : Nat) : Tab R := L_TagtreeNobody_Ct bitio_NewWriter bitio_NewReader (tagtree_Tree_Value k) (tagtree_Tree_Decode k) (tagtree_Tree_Set k) (tagtree_Tree_Encode k) bitio_Writer_Len (tagtree_Tree_Clone k) L_exampleHoldsq
theorem L_TagtreeNobody_S (R : Type) (k : Nat) : CSound Try.prog (L_TagtreeNobody_C R k) := csound_cons (bitio_NewWriter_cs R k) <| csound_cons (bitio_NewReader_cs R k) <| csound_cons (tagtree_Tree_Value_cs R k) <| csound_cons (tagtree_Tree_Decode_cs R k) <| csound_cons (tagtree_Tree_Set_cs R k) <| csound_cons (tagtree_Tree_Encode_cs R k) <| csound_cons (bitio_Writer_Len_cs R k) <| csound_cons (tagtree_Tree_Clone_cs R k) <| csound_cons (L_exampleHoldsq_cs R k) <| csound_nil
def L_TagtreeNobody_aa0 {R : Type} (f : L_TagtreeNobody_p0_t R) (n : Nat) (vals : List Value) (H : Heap) (K : Xit → Env → Heap → Option R) : Option R :=
  match vals with
  | [.int .i64 n1294, .int .i64 n1295, .int .i64 n1296, .bool t1297, .pointer p1298] => f n1294 n1295 n1296 t1297 p1298 H (fun n2111 n2112 n2113 p2114 H => K .normal [(0, .int .i64 n2111), (1, .int .i64 n2112), (2, .int .i64 n2113), (9, .pointer p2114)] H)
  | _ => none
def L_TagtreeNobody_a0 (R : Type) (k n : Nat) (vals : List Value) (H : Heap) (K : Xit → Env → Heap → Option R) : Option R := L_TagtreeNobody_aa0 (L_TagtreeNobody_p0 k) n vals H K
def L_TagtreeNobody_Jt {R : Type} (k : Nat) (L_TagtreeNobody_p0 : L_TagtreeNobody_p0_t R) : JTab R := tcons 0 (L_TagtreeNobody_aa0 L_TagtreeNobody_p0 k) <| fun _ _ _ _ => none
def L_TagtreeNobody_J (R : Type) (k : Nat) : JTab R := L_TagtreeNobody_Jt k (L_TagtreeNobody_p0 k)
def L_TagtreeNobody_at : AT := (.seq (.reg [0, 1, 2, 3] []) (.seq (.reg [0, 1, 2, 3, 9] []) (.seq (.opq 0 [0, 1, 2, 3, 9] ⟨[0, 1, 2, 9], [], []⟩ (.seq (.reg [0, 1, 2, 9, 16] []) (.cond (.reg [0, 1, 2, 9] []) .leaf))) (.seq (.reg [0, 1, 2, 9, 10, 11] []) (.seq (.reg [0, 1, 2, 9, 10, 11, 12, 13] []) (.seq (.reg [0, 1, 2, 9, 10, 12, 13, 14, 15] []) (.seq (.reg [8] []) .leaf)))))))
def L_TagtreeNobody_i0 : IC := (.seq (.reg [⟨some 16, .mov (.t 3), none⟩] [0, 1, 2, 9, 16]) (.cond (.t 16) (.reg [⟨some 17, .bld [.slice none 0 0, .bool false, .bool false] [], none⟩,
 ⟨some 18, .box (.t 17), none⟩,
 ⟨some 9, .mov (.t 18), none⟩] [0, 1, 2, 9]) .skip))
def L_TagtreeNobody_f : IFn := ⟨82, [.t 8], (.seq (.reg [⟨some 8, .mov (.c (Go.Value.bool false)), none⟩] [0, 1, 2, 3]) (.seq (.reg [⟨some 9, .mov (.c (Go.Value.pointer none)), none⟩] [0, 1, 2, 3, 9]) (.seq (.opq 0 [0, 1, 2, 3, 9] L_TagtreeNobody_i0) (.seq (.reg [⟨some 19, .call 17 [] (.one (.sc .ptr)), none⟩,
 ⟨some 20, .bls 1 [.int .u8 0] [(0, 1, (.c (Go.Value.int Go.IntKind.u8 255)))], none⟩,
 ⟨some 21, .call 30 [(.t 20)] (.one (.sc .ptr)), none⟩,
 ⟨some 10, .mov (.t 19), none⟩,
 ⟨some 11, .mov (.t 21), none⟩] [0, 1, 2, 9, 10, 11]) (.seq (.reg [⟨some 23, .mov (.t 9), none⟩,
 ⟨some 24, .mov (.t 0), none⟩,
 ⟨some 25, .mov (.t 1), none⟩,
 ⟨some 26, .call 25 [(.t 23), (.t 24), (.t 25)] (.tup [(.sc (.int .i64)), (.sc .bool)]), none⟩,
 ⟨some 22, .mov (.t 26), none⟩,
 ⟨some 27, .ext 0 (.t 22), none⟩,
 ⟨some 28, .ext 1 (.t 22), none⟩,
 ⟨some 12, .mov (.t 27), none⟩,
 ⟨some 13, .mov (.t 28), none⟩] [0, 1, 2, 9, 10, 11, 12, 13]) (.seq (.reg [⟨some 30, .mov (.t 9), none⟩,
 ⟨some 31, .mov (.t 11), none⟩,
 ⟨some 32, .mov (.t 0), none⟩,
 ⟨some 33, .mov (.t 1), none⟩,
 ⟨some 34, .mov (.t 2), none⟩,
 ⟨some 35, .call 32 [(.t 30), (.t 31), (.t 32), (.t 33), (.t 34)] (.tup [(.sc .bool), (.sc (.int .i64))]), none⟩,
 ⟨some 29, .mov (.t 35), none⟩,
 ⟨some 36, .ext 0 (.t 29), none⟩,
 ⟨some 37, .ext 1 (.t 29), none⟩,
 ⟨some 14, .mov (.t 36), none⟩,
 ⟨some 15, .mov (.t 37), none⟩] [0, 1, 2, 9, 10, 12, 13, 14, 15]) (.seq (.reg [⟨some 38, .mov (.t 9), none⟩,
 ⟨some 39, .mov (.t 0), none⟩,
 ⟨some 40, .mov (.t 1), none⟩,
 ⟨some 41, .mov (.t 2), none⟩,
 ⟨some 42, .call 19 [(.t 38), (.t 39), (.t 40), (.t 41)] (.one (.sc (.int .i64))), none⟩,
 ⟨some 43, .cmp .eql (.t 42) (.c (Go.Value.int Go.IntKind.i64 6)), none⟩,
 ⟨some 44, .mov (.t 43), none⟩,
 ⟨some 45, .mov (.t 9), some (44, true)⟩,
 ⟨some 46, .mov (.t 10), some (44, true)⟩,
 ⟨some 47, .mov (.t 0), some (44, true)⟩,
 ⟨some 48, .mov (.t 1), some (44, true)⟩,
 ⟨some 49, .mov (.t 2), some (44, true)⟩,
 ⟨some 50, .call 21 [(.t 45), (.t 46), (.t 47), (.t 48), (.t 49)] (.one (.sc (.int .i64))), some (44, true)⟩,
 ⟨some 51, .cmp .eql (.t 50) (.c (Go.Value.int Go.IntKind.i64 6)), some (44, true)⟩,
 ⟨some 52, .pick (.t 44) (.t 51) (.c (Go.Value.bool false)), none⟩,
 ⟨some 53, .mov (.t 52), none⟩,
 ⟨some 54, .mov (.t 10), some (53, true)⟩,
 ⟨some 55, .call 23 [(.t 54)] (.one (.sc (.int .i64))), some (53, true)⟩,
 ⟨some 56, .cmp .eql (.t 55) (.c (Go.Value.int Go.IntKind.i64 0)), some (53, true)⟩,
 ⟨some 57, .pick (.t 53) (.t 56) (.c (Go.Value.bool false)), none⟩,
 ⟨some 58, .mov (.t 57), none⟩,
 ⟨some 59, .mov (.t 15), some (58, true)⟩,
 ⟨some 60, .cmp .eql (.t 59) (.c (Go.Value.int Go.IntKind.i64 6)), some (58, true)⟩,
 ⟨some 61, .pick (.t 58) (.t 60) (.c (Go.Value.bool false)), none⟩,
 ⟨some 62, .mov (.t 61), none⟩,
 ⟨some 63, .mov (.t 14), some (62, true)⟩,
 ⟨some 64, .lnot (.t 63), some (62, true)⟩,
 ⟨some 65, .pick (.t 62) (.t 64) (.c (Go.Value.bool false)), none⟩,
 ⟨some 66, .mov (.t 65), none⟩,
 ⟨some 67, .mov (.t 12), some (66, true)⟩,
 ⟨some 68, .cmp .eql (.t 67) (.c (Go.Value.int Go.IntKind.i64 0)), some (66, true)⟩,
 ⟨some 69, .pick (.t 66) (.t 68) (.c (Go.Value.bool false)), none⟩,
 ⟨some 70, .mov (.t 69), none⟩,
 ⟨some 71, .mov (.t 13), some (70, true)⟩,
 ⟨some 72, .lnot (.t 71), some (70, true)⟩,
 ⟨some 73, .pick (.t 70) (.t 72) (.c (Go.Value.bool false)), none⟩,
 ⟨some 74, .mov (.t 73), none⟩,
 ⟨some 75, .mov (.t 9), some (74, true)⟩,
 ⟨some 76, .call 35 [(.t 75)] (.one (.sc .ptr)), some (74, true)⟩,
 ⟨some 77, .eqnil (.t 76) false 0, some (74, true)⟩,
 ⟨some 78, .pick (.t 74) (.t 77) (.c (Go.Value.bool false)), none⟩,
 ⟨some 79, .mov (.t 78), none⟩,
 ⟨some 80, .call 15 [] (.one (.sc .bool)), some (79, true)⟩,
 ⟨some 81, .pick (.t 79) (.t 80) (.c (Go.Value.bool false)), none⟩,
 ⟨some 8, .mov (.t 81), none⟩] [8]) .ret)))))))⟩
theorem L_TagtreeNobody_e0 {R : Type} (bitio_NewWriter : bitio_NewWriter_t R) (bitio_NewReader : bitio_NewReader_t R) (tagtree_Tree_Value : tagtree_Tree_Value_t R) (tagtree_Tree_Decode : tagtree_Tree_Decode_t R) (tagtree_Tree_Set : tagtree_Tree_Set_t R) (tagtree_Tree_Encode : tagtree_Tree_Encode_t R) (bitio_Writer_Len : bitio_Writer_Len_t R) (tagtree_Tree_Clone : tagtree_Tree_Clone_t R) (L_exampleHoldsq : L_exampleHoldsq_t R) (L_TagtreeNobody_p0 : L_TagtreeNobody_p0_t R) (k : Nat) (n1294 : Int) (n1295 : Int) (n1296 : Int) (t1297 : Bool) (p1298 : Oa) (H : Heap) (K : Xit → Env → Heap → Option R) : evJ (L_TagtreeNobody_Ct bitio_NewWriter bitio_NewReader tagtree_Tree_Value tagtree_Tree_Decode tagtree_Tree_Set tagtree_Tree_Encode bitio_Writer_Len tagtree_Tree_Clone L_exampleHoldsq) (L_TagtreeNobody_Jt k L_TagtreeNobody_p0) L_TagtreeNobody_i0 (List.zip [0, 1, 2, 3, 9] [.int .i64 n1294, .int .i64 n1295, .int .i64 n1296, .bool t1297, .pointer p1298]) H (fun x e' H' => K x (clean e' ((⟨[0, 1, 2, 9], [], []⟩ : Out).of x)) H') = L_TagtreeNobody_p0_b k n1294 n1295 n1296 t1297 p1298 H (fun n2111 n2112 n2113 p2114 H => K .normal [(0, .int .i64 n2111), (1, .int .i64 n2112), (2, .int .i64 n2113), (9, .pointer p2114)] H) := by kernel_rfl
theorem L_TagtreeNobody_j0 {R : Type} (k : Nat) : JS Try.prog 82 (L_TagtreeNobody_a0 R k k) [0, 1, 2, 3, 9] ⟨[0, 1, 2, 9], [], []⟩ (sel [1, 1, 0] (Try.f10.body.getD .skip)) :=
  piece_ok (nt := 82) (c := (sel [1, 1, 0] (Try.f10.body.getD .skip))) (C := L_TagtreeNobody_C R k) (an := An) (t := (.seq (.reg [0, 1, 2, 9, 16] []) (.cond (.reg [0, 1, 2, 9] []) .leaf))) (ic := L_TagtreeNobody_i0) (L_TagtreeNobody_S R k) (L_TagtreeNobody_J R k) (by kernel_rfl) (And.intro True.intro (And.intro True.intro True.intro)) (L_TagtreeNobody_a0 R k k)
    (fun vals H K r h => by
      unfold L_TagtreeNobody_a0 L_TagtreeNobody_aa0 at h
      split at h <;> first | (cases h; done) | exact Eq.trans (L_TagtreeNobody_e0 bitio_NewWriter bitio_NewReader (tagtree_Tree_Value k) (tagtree_Tree_Decode k) (tagtree_Tree_Set k) (tagtree_Tree_Encode k) bitio_Writer_Len (tagtree_Tree_Clone k) L_exampleHoldsq (L_TagtreeNobody_p0 k) k _ _ _ _ _ H K) h)
def L_TagtreeNobody_ca {R : Type} (f : L_TagtreeNobody_t R) (args : List Value) (H : Heap) (K : Value → Heap → Option R) : Option R :=
  match args with
  | [.int .i64 n1290, .int .i64 n1291, .int .i64 n1292, .bool t1293] => f n1290 n1291 n1292 t1293 H (fun t2115 H => K (.bool t2115) H)
  | _ => none
def L_TagtreeNobody_c (R : Type) (k : Nat) (args : List Value) (H : Heap) (K : Value → Heap → Option R) : Option R := L_TagtreeNobody_ca (L_TagtreeNobody k) args H K
theorem L_TagtreeNobody_e {R : Type} (bitio_NewWriter : bitio_NewWriter_t R) (bitio_NewReader : bitio_NewReader_t R) (tagtree_Tree_Value : tagtree_Tree_Value_t R) (tagtree_Tree_Decode : tagtree_Tree_Decode_t R) (tagtree_Tree_Set : tagtree_Tree_Set_t R) (tagtree_Tree_Encode : tagtree_Tree_Encode_t R) (bitio_Writer_Len : bitio_Writer_Len_t R) (tagtree_Tree_Clone : tagtree_Tree_Clone_t R) (L_exampleHoldsq : L_exampleHoldsq_t R) (L_TagtreeNobody_p0 : L_TagtreeNobody_p0_t R) (k : Nat) (n1290 : Int) (n1291 : Int) (n1292 : Int) (t1293 : Bool) (H : Heap) (K : Value → Heap → Option R) : evF (L_TagtreeNobody_Ct bitio_NewWriter bitio_NewReader tagtree_Tree_Value tagtree_Tree_Decode tagtree_Tree_Set tagtree_Tree_Encode bitio_Writer_Len tagtree_Tree_Clone L_exampleHoldsq) (L_TagtreeNobody_Jt k L_TagtreeNobody_p0) L_TagtreeNobody_f [.int .i64 n1290, .int .i64 n1291, .int .i64 n1292, .bool t1293] H K = L_TagtreeNobody_b L_TagtreeNobody_p0 bitio_NewWriter bitio_NewReader tagtree_Tree_Value tagtree_Tree_Decode tagtree_Tree_Set tagtree_Tree_Encode bitio_Writer_Len tagtree_Tree_Clone L_exampleHoldsq k n1290 n1291 n1292 t1293 H (fun t2115 H => K (.bool t2115) H) := by kernel_rfl
theorem L_TagtreeNobody_cs (R : Type) (k : Nat) : ∀ args H K r, L_TagtreeNobody_c R k args H K = some r → ∃ v H', Tri Try.prog 10 args H v H' ∧ K v H' = some r := by
  intro args H K r h
  unfold L_TagtreeNobody_c L_TagtreeNobody_ca at h
  split at h
  · exact evF_ok (C := L_TagtreeNobody_C R k) (an := An) (t := L_TagtreeNobody_at) (fn := Try.f10) (c := (Try.f10.body.getD .skip)) (ifn := L_TagtreeNobody_f) (L_TagtreeNobody_S R k) (L_TagtreeNobody_J R k) Try.func10 (by kernel_rfl) (by kernel_rfl) (And.intro True.intro (And.intro True.intro (And.intro (L_TagtreeNobody_j0 k) (And.intro True.intro (And.intro True.intro (And.intro True.intro (And.intro True.intro True.intro))))))) rfl (Eq.trans (L_TagtreeNobody_e bitio_NewWriter bitio_NewReader (tagtree_Tree_Value k) (tagtree_Tree_Decode k) (tagtree_Tree_Set k) (tagtree_Tree_Encode k) bitio_Writer_Len (tagtree_Tree_Clone k) L_exampleHoldsq (L_TagtreeNobody_p0 k) k _ _ _ _ H K) h)
  · cases h
end Go.Proofs.Ytblkejnciinaeaa.Sh
