/- Lean functions that stand for Go's,over an explicit heap,and the proofs that they do (written by this claim's program shallow.py). -/
import Derived.Test.YtblkejnciinaeaaSh0
import Derived.Test.YtblkejnciinaeaaSh1
set_option maxRecDepth 100000
set_option linter.unusedVariables false
set_option linter.unusedSimpArgs false
namespace Go.Proofs.Ytblkejnciinaeaa.Sh
open Go.Proofs.Ytblkejnciinaeaa.FW
/-! ### bitio_Writer_Len: function 23 -/
abbrev bitio_Writer_Len_t (R : Type) : Type := Oa → Heap → (Int → Option R) → Option R

def bitio_Writer_Len_b {R : Type} (bitio_Writer_ok : bitio_Writer_ok_t R) (k : Nat) (p277 : Oa) (H : Heap) (K : Int → Option R) : Option R :=
bitio_Writer_ok p277 H fun t278 =>
bif (!t278) then (K 0)
 else (hnil p277 fun p279 =>
hfad 5 p279 fun p280 =>
ldI .i64 H p280 fun n281 =>
K n281)

def bitio_Writer_Len {R : Type} (p277 : Oa) (H : Heap) (K : Int → Option R) : Option R := bitio_Writer_Len_b bitio_Writer_ok 0 p277 H K

def bitio_Writer_Len_Ct {R : Type} (bitio_Writer_ok : bitio_Writer_ok_t R) : Tab R := tcons 51 (bitio_Writer_ok_ca bitio_Writer_ok) <| fun _ _ _ _ => none
def bitio_Writer_Len_C (R : Type) (k : Nat) : Tab R := bitio_Writer_Len_Ct bitio_Writer_ok
theorem bitio_Writer_Len_S (R : Type) (k : Nat) : CSound Try.prog (bitio_Writer_Len_C R k) := csound_cons (bitio_Writer_ok_cs R k) <| csound_nil
def bitio_Writer_Len_Jt {R : Type} (k : Nat) : JTab R := fun _ _ _ _ => none
def bitio_Writer_Len_J (R : Type) (k : Nat) : JTab R := bitio_Writer_Len_Jt k
def bitio_Writer_Len_at : AT := (.seq (.reg [0] []) (.seq (.seq (.reg [0,5] []) (.cond (.seq (.reg [2] []) .leaf) .leaf)) (.seq (.reg [2] []) .leaf)))
def bitio_Writer_Len_f : IFn := ⟨10,[.t 2],(.seq (.reg [⟨some 2,.mov (.c (Go.Value.int Go.IntKind.i64 0)),none⟩] [0]) (.seq (.seq (.reg [⟨some 3,.mov (.t 0),none⟩,
⟨some 4,.call 51 [(.t 3)] (.one (.sc .bool)),none⟩,
⟨some 5,.lnot (.t 4),none⟩] [0,5]) (.cond (.t 5) (.seq (.reg [⟨some 2,.mov (.c (Go.Value.int Go.IntKind.i64 0)),none⟩] [2]) .ret) .skip)) (.seq (.reg [⟨some 6,.mov (.t 0),none⟩,
⟨some 7,.nilc (.t 6),none⟩,
⟨some 8,.fad 5 (.t 7),none⟩,
⟨some 9,.ld (.sc (.int .i64)) (.t 8),none⟩,
⟨some 2,.mov (.t 9),none⟩] [2]) .ret)))⟩
def bitio_Writer_Len_ca {R : Type} (f : bitio_Writer_Len_t R) (args : List Value) (H : Heap) (K : Value → Heap → Option R) : Option R :=
  match args with
  | [.pointer p277] => f p277 H (fun n1443 => K (.int .i64 n1443) H)
  | _ => none
def bitio_Writer_Len_c (R : Type) (k : Nat) (args : List Value) (H : Heap) (K : Value → Heap → Option R) : Option R := bitio_Writer_Len_ca bitio_Writer_Len args H K
theorem bitio_Writer_Len_e {R : Type} (bitio_Writer_ok : bitio_Writer_ok_t R) (k : Nat) (p277 : Oa) (H : Heap) (K : Value → Heap → Option R) : evF (bitio_Writer_Len_Ct bitio_Writer_ok) (bitio_Writer_Len_Jt k) bitio_Writer_Len_f [.pointer p277] H K = bitio_Writer_Len_b bitio_Writer_ok k p277 H (fun n1443 => K (.int .i64 n1443) H) := by kernel_rfl
theorem bitio_Writer_Len_cs (R : Type) (k : Nat) : ∀ args H K r,bitio_Writer_Len_c R k args H K = some r → ∃ v H',Tri Try.prog 23 args H v H' ∧ K v H' = some r := by
  intro args H K r h
  unfold bitio_Writer_Len_c bitio_Writer_Len_ca at h
  split at h
  · exact evF_ok (C := bitio_Writer_Len_C R 0) (an := An) (t := bitio_Writer_Len_at) (fn := Try.f23) (c := (Try.f23.body.getD .skip)) (ifn := bitio_Writer_Len_f) (bitio_Writer_Len_S R 0) (bitio_Writer_Len_J R 0) Try.func23 (by kernel_rfl) (by kernel_rfl) (And.intro True.intro (And.intro (And.intro True.intro (And.intro (And.intro True.intro True.intro) True.intro)) (And.intro True.intro True.intro))) rfl (Eq.trans (bitio_Writer_Len_e bitio_Writer_ok 0 _ H K) h)
  · cases h
/-! ### tagtree_Tree_Value: function 25 -/
abbrev tagtree_Tree_Value_p0_t (R : Type) : Type := Oa → Int → Int → Heap → (Oa → Int → Int → Heap → Option R) → (Int → Bool → Heap → Option R) → Option R
def tagtree_Tree_Value_p0_b {R : Type} (tagtree_Tree_ok : tagtree_Tree_ok_t R) (tagtree_Tree_has : tagtree_Tree_has_t R) (tagtree_Tree_at : tagtree_Tree_at_t R) (k : Nat) (p162 : Oa) (n163 : Int) (n164 : Int) (H : Heap) (KN : Oa → Int → Int → Heap → Option R) (KR : Int → Bool → Heap → Option R) : Option R :=
tagtree_Tree_ok p162 H fun t165 =>
bif (!t165) then (KR 0 false H)
 else (tagtree_Tree_has p162 n163 n164 H fun t166 H167 =>
bif (!t166) then (KR 0 false H167)
 else (tagtree_Tree_at p162 0 n163 n164 H167 fun p168 =>
hnil p168 fun p169 =>
hfad 2 p169 fun p170 =>
ldB H167 p170 fun t171 =>
bif (!t171) then (KR 0 false H167)
 else (KN p162 n163 n164 H167)))
def tagtree_Tree_Value_p0 {R : Type} (k : Nat) (p162 : Oa) (n163 : Int) (n164 : Int) (H : Heap) (KN : Oa → Int → Int → Heap → Option R) (KR : Int → Bool → Heap → Option R) : Option R := tagtree_Tree_Value_p0_b tagtree_Tree_ok tagtree_Tree_has tagtree_Tree_at k p162 n163 n164 H KN KR

abbrev tagtree_Tree_Value_t (R : Type) : Type := Oa → Int → Int → Heap → (Int → Bool → Heap → Option R) → Option R

def tagtree_Tree_Value_b {R : Type} (tagtree_Tree_Value_p0 : tagtree_Tree_Value_p0_t R) (tagtree_Tree_at : tagtree_Tree_at_t R) (k : Nat) (p159 : Oa) (n160 : Int) (n161 : Int) (H : Heap) (K : Int → Bool → Heap → Option R) : Option R :=
tagtree_Tree_Value_p0 p159 n160 n161 H (fun p177 n178 n179 H180 =>
tagtree_Tree_at p177 0 n178 n179 H180 fun p181 =>
hnil p181 fun p182 =>
hfad 1 p182 fun p183 =>
ldI .i64 H180 p183 fun n184 =>
K n184 true H180) (fun n185 t186 H187 =>
K n185 t186 H187)

def tagtree_Tree_Value {R : Type} (k : Nat) (p159 : Oa) (n160 : Int) (n161 : Int) (H : Heap) (K : Int → Bool → Heap → Option R) : Option R := tagtree_Tree_Value_b (tagtree_Tree_Value_p0 k) tagtree_Tree_at k p159 n160 n161 H K

def tagtree_Tree_Value_Ct {R : Type} (tagtree_Tree_ok : tagtree_Tree_ok_t R) (tagtree_Tree_has : tagtree_Tree_has_t R) (tagtree_Tree_at : tagtree_Tree_at_t R) : Tab R := tcons 38 (tagtree_Tree_ok_ca tagtree_Tree_ok) <| tcons 39 (tagtree_Tree_has_ca tagtree_Tree_has) <| tcons 40 (tagtree_Tree_at_ca tagtree_Tree_at) <| fun _ _ _ _ => none
def tagtree_Tree_Value_C (R : Type) (k : Nat) : Tab R := tagtree_Tree_Value_Ct tagtree_Tree_ok tagtree_Tree_has tagtree_Tree_at
theorem tagtree_Tree_Value_S (R : Type) (k : Nat) : CSound Try.prog (tagtree_Tree_Value_C R k) := csound_cons (tagtree_Tree_ok_cs R k) <| csound_cons (tagtree_Tree_has_cs R k) <| csound_cons (tagtree_Tree_at_cs R k) <| csound_nil
def tagtree_Tree_Value_aa0 {R : Type} (f : tagtree_Tree_Value_p0_t R) (n : Nat) (vals : List Value) (H : Heap) (K : Xit → Env → Heap → Option R) : Option R :=
  match vals with
  | [.pointer p162,.int .i64 n163,.int .i64 n164] => f p162 n163 n164 H (fun p1444 n1445 n1446 H => K .normal [(0,.pointer p1444),(1,.int .i64 n1445),(2,.int .i64 n1446)] H) (fun n1447 t1448 H => K .ret [(6,.int .i64 n1447),(7,.bool t1448)] H)
  | _ => none
def tagtree_Tree_Value_a0 (R : Type) (k n : Nat) (vals : List Value) (H : Heap) (K : Xit → Env → Heap → Option R) : Option R := tagtree_Tree_Value_aa0 (tagtree_Tree_Value_p0 k) n vals H K
def tagtree_Tree_Value_Jt {R : Type} (k : Nat) (tagtree_Tree_Value_p0 : tagtree_Tree_Value_p0_t R) : JTab R := tcons 0 (tagtree_Tree_Value_aa0 tagtree_Tree_Value_p0 k) <| fun _ _ _ _ => none
def tagtree_Tree_Value_J (R : Type) (k : Nat) : JTab R := tagtree_Tree_Value_Jt k (tagtree_Tree_Value_p0 k)
def tagtree_Tree_Value_at : AT := (.seq (.reg [0,1,2] []) (.seq (.opq 0 [0,1,2] ⟨[0,1,2],[],[6,7]⟩ (.seq (.reg [0,1,2,27] []) (.cond (.seq (.reg [6,7] []) .leaf) .leaf))) (.seq (.reg [6,7] []) .leaf)))
def tagtree_Tree_Value_i0 : IC := (.seq (.reg [⟨some 8,.mov (.t 0),none⟩,
⟨some 9,.call 38 [(.t 8)] (.one (.sc .bool)),none⟩,
⟨some 10,.lnot (.t 9),none⟩,
⟨some 11,.mov (.t 10),none⟩,
⟨some 12,.mov (.t 0),some (11,false)⟩,
⟨some 13,.mov (.t 1),some (11,false)⟩,
⟨some 14,.mov (.t 2),some (11,false)⟩,
⟨some 15,.call 39 [(.t 12),(.t 13),(.t 14)] (.one (.sc .bool)),some (11,false)⟩,
⟨some 16,.lnot (.t 15),some (11,false)⟩,
⟨some 17,.pick (.t 11) (.c (Go.Value.bool true)) (.t 16),none⟩,
⟨some 18,.mov (.t 17),none⟩,
⟨some 19,.mov (.t 0),some (18,false)⟩,
⟨some 20,.mov (.t 1),some (18,false)⟩,
⟨some 21,.mov (.t 2),some (18,false)⟩,
⟨some 22,.call 40 [(.t 19),(.c (Go.Value.int Go.IntKind.i64 0)),(.t 20),(.t 21)] (.one (.sc .ptr)),some (18,false)⟩,
⟨some 23,.nilc (.t 22),some (18,false)⟩,
⟨some 24,.fad 2 (.t 23),some (18,false)⟩,
⟨some 25,.ld (.sc .bool) (.t 24),some (18,false)⟩,
⟨some 26,.lnot (.t 25),some (18,false)⟩,
⟨some 27,.pick (.t 18) (.c (Go.Value.bool true)) (.t 26),none⟩] [0,1,2,27]) (.cond (.t 27) (.seq (.reg [⟨some 6,.mov (.c (Go.Value.int Go.IntKind.i64 0)),none⟩,
⟨some 7,.mov (.c (Go.Value.bool false)),none⟩] [6,7]) .ret) .skip))
def tagtree_Tree_Value_f : IFn := ⟨35,[.t 6,.t 7],(.seq (.reg [⟨some 6,.mov (.c (Go.Value.int Go.IntKind.i64 0)),none⟩,
⟨some 7,.mov (.c (Go.Value.bool false)),none⟩] [0,1,2]) (.seq (.opq 0 [0,1,2] tagtree_Tree_Value_i0) (.seq (.reg [⟨some 28,.mov (.t 0),none⟩,
⟨some 29,.mov (.t 1),none⟩,
⟨some 30,.mov (.t 2),none⟩,
⟨some 31,.call 40 [(.t 28),(.c (Go.Value.int Go.IntKind.i64 0)),(.t 29),(.t 30)] (.one (.sc .ptr)),none⟩,
⟨some 32,.nilc (.t 31),none⟩,
⟨some 33,.fad 1 (.t 32),none⟩,
⟨some 34,.ld (.sc (.int .i64)) (.t 33),none⟩,
⟨some 6,.mov (.t 34),none⟩,
⟨some 7,.mov (.c (Go.Value.bool true)),none⟩] [6,7]) .ret)))⟩
theorem tagtree_Tree_Value_e0 {R : Type} (tagtree_Tree_ok : tagtree_Tree_ok_t R) (tagtree_Tree_has : tagtree_Tree_has_t R) (tagtree_Tree_at : tagtree_Tree_at_t R) (tagtree_Tree_Value_p0 : tagtree_Tree_Value_p0_t R) (k : Nat) (p162 : Oa) (n163 : Int) (n164 : Int) (H : Heap) (K : Xit → Env → Heap → Option R) : evJ (tagtree_Tree_Value_Ct tagtree_Tree_ok tagtree_Tree_has tagtree_Tree_at) (tagtree_Tree_Value_Jt k tagtree_Tree_Value_p0) tagtree_Tree_Value_i0 (List.zip [0,1,2] [.pointer p162,.int .i64 n163,.int .i64 n164]) H (fun x e' H' => K x (clean e' ((⟨[0,1,2],[],[6,7]⟩ : Out).of x)) H') = tagtree_Tree_Value_p0_b tagtree_Tree_ok tagtree_Tree_has tagtree_Tree_at k p162 n163 n164 H (fun p1444 n1445 n1446 H => K .normal [(0,.pointer p1444),(1,.int .i64 n1445),(2,.int .i64 n1446)] H) (fun n1447 t1448 H => K .ret [(6,.int .i64 n1447),(7,.bool t1448)] H) := by kernel_rfl
theorem tagtree_Tree_Value_j0 {R : Type} (k : Nat) : JS Try.prog 35 (tagtree_Tree_Value_a0 R k k) [0,1,2] ⟨[0,1,2],[],[6,7]⟩ (sel [1,0] (Try.f25.body.getD .skip)) :=
  piece_ok (nt := 35) (c := (sel [1,0] (Try.f25.body.getD .skip))) (C := tagtree_Tree_Value_C R k) (an := An) (t := (.seq (.reg [0,1,2,27] []) (.cond (.seq (.reg [6,7] []) .leaf) .leaf))) (ic := tagtree_Tree_Value_i0) (tagtree_Tree_Value_S R k) (tagtree_Tree_Value_J R k) (by kernel_rfl) (And.intro True.intro (And.intro (And.intro True.intro True.intro) True.intro)) (tagtree_Tree_Value_a0 R k k)
    (fun vals H K r h => by
      unfold tagtree_Tree_Value_a0 tagtree_Tree_Value_aa0 at h
      split at h <;> first | (cases h; done) | exact Eq.trans (tagtree_Tree_Value_e0 tagtree_Tree_ok tagtree_Tree_has tagtree_Tree_at (tagtree_Tree_Value_p0 k) k _ _ _ H K) h)
def tagtree_Tree_Value_ca {R : Type} (f : tagtree_Tree_Value_t R) (args : List Value) (H : Heap) (K : Value → Heap → Option R) : Option R :=
  match args with
  | [.pointer p159,.int .i64 n160,.int .i64 n161] => f p159 n160 n161 H (fun n1449 t1450 H => K (.tuple ⟨[.int .i64 n1449,.bool t1450]⟩) H)
  | _ => none
def tagtree_Tree_Value_c (R : Type) (k : Nat) (args : List Value) (H : Heap) (K : Value → Heap → Option R) : Option R := tagtree_Tree_Value_ca (tagtree_Tree_Value k) args H K
theorem tagtree_Tree_Value_e {R : Type} (tagtree_Tree_ok : tagtree_Tree_ok_t R) (tagtree_Tree_has : tagtree_Tree_has_t R) (tagtree_Tree_at : tagtree_Tree_at_t R) (tagtree_Tree_Value_p0 : tagtree_Tree_Value_p0_t R) (k : Nat) (p159 : Oa) (n160 : Int) (n161 : Int) (H : Heap) (K : Value → Heap → Option R) : evF (tagtree_Tree_Value_Ct tagtree_Tree_ok tagtree_Tree_has tagtree_Tree_at) (tagtree_Tree_Value_Jt k tagtree_Tree_Value_p0) tagtree_Tree_Value_f [.pointer p159,.int .i64 n160,.int .i64 n161] H K = tagtree_Tree_Value_b tagtree_Tree_Value_p0 tagtree_Tree_at k p159 n160 n161 H (fun n1449 t1450 H => K (.tuple ⟨[.int .i64 n1449,.bool t1450]⟩) H) := by kernel_rfl
theorem tagtree_Tree_Value_cs (R : Type) (k : Nat) : ∀ args H K r,tagtree_Tree_Value_c R k args H K = some r → ∃ v H',Tri Try.prog 25 args H v H' ∧ K v H' = some r := by
  intro args H K r h
  unfold tagtree_Tree_Value_c tagtree_Tree_Value_ca at h
  split at h
  · exact evF_ok (C := tagtree_Tree_Value_C R k) (an := An) (t := tagtree_Tree_Value_at) (fn := Try.f25) (c := (Try.f25.body.getD .skip)) (ifn := tagtree_Tree_Value_f) (tagtree_Tree_Value_S R k) (tagtree_Tree_Value_J R k) Try.func25 (by kernel_rfl) (by kernel_rfl) (And.intro True.intro (And.intro (tagtree_Tree_Value_j0 k) (And.intro True.intro True.intro))) rfl (Eq.trans (tagtree_Tree_Value_e tagtree_Tree_ok tagtree_Tree_has tagtree_Tree_at (tagtree_Tree_Value_p0 k) k _ _ _ H K) h)
  · cases h
/-! ### bitio_Writer_Bytes: function 28 -/
abbrev bitio_Writer_Bytes_p0_t (R : Type) : Type := Oa → Oa → Nat → Nat → Heap → (Oa → Nat → Nat → Heap → Option R) → Option R
def bitio_Writer_Bytes_p0_b {R : Type} (k : Nat) (p216 : Oa) (q217 : Oa) (l218 : Nat) (c219 : Nat) (H : Heap) (KN : Oa → Nat → Nat → Heap → Option R) : Option R :=
hnil p216 fun p220 =>
hfad 3 p220 fun p221 =>
ldI .i64 H p221 fun n222 =>
bif decide (n222 > 0) then (hnil p216 fun p223 =>
hfad 2 p223 fun p224 =>
ldI .u8 H p224 fun n225 =>
hnil p216 fun p226 =>
hfad 4 p226 fun p227 =>
ldI .i64 H p227 fun n228 =>
hnil p216 fun p229 =>
hfad 3 p229 fun p230 =>
ldI .i64 H p230 fun n231 =>
hbin .shl .u8 n225 (IntKind.wrap .u64 (IntKind.wrap .i64 (n228 - n231))) fun n232 =>
hal H [.int .u8 n232] fun p233 H234 =>
happS 1 1 H234 q217 l218 c219 p233 1 fun q235 l236 c237 H238 =>
KN q235 l236 c237 H238)
 else (hnil p216 fun p239 =>
hfad 4 p239 fun p240 =>
ldI .i64 H p240 fun n241 =>
bif (n241 == 7) then (hal H [.int .u8 0] fun p242 H243 =>
happS 1 1 H243 q217 l218 c219 p242 1 fun q244 l245 c246 H247 =>
KN q244 l245 c246 H247)
 else (KN q217 l218 c219 H))
def bitio_Writer_Bytes_p0 {R : Type} (k : Nat) (p216 : Oa) (q217 : Oa) (l218 : Nat) (c219 : Nat) (H : Heap) (KN : Oa → Nat → Nat → Heap → Option R) : Option R := bitio_Writer_Bytes_p0_b k p216 q217 l218 c219 H KN

abbrev bitio_Writer_Bytes_t (R : Type) : Type := Oa → Heap → (Oa → Nat → Nat → Heap → Option R) → Option R

def bitio_Writer_Bytes_b {R : Type} (bitio_Writer_ok : bitio_Writer_ok_t R) (bitio_Writer_Bytes_p0 : bitio_Writer_Bytes_p0_t R) (k : Nat) (p196 : Oa) (H : Heap) (K : Oa → Nat → Nat → Heap → Option R) : Option R :=
bitio_Writer_ok p196 H fun t197 =>
bif (!t197) then (K none 0 0 H)
 else (hnil p196 fun p198 =>
hfad 1 p198 fun p199 =>
ldL H p199 fun q200 l201 c202 =>
hmk [.int .u8 0] 1 H 0 (IntKind.wrap .i64 (((l201 : Nat) : Int) + 1)) fun q203 l204 c205 H206 =>
hnil p196 fun p207 =>
hfad 1 p207 fun p208 =>
ldL H206 p208 fun q209 l210 c211 =>
happS 1 1 H206 q203 l204 c205 q209 l210 fun q212 l213 c214 H215 =>
bitio_Writer_Bytes_p0 p196 q212 l213 c214 H215 (fun q251 l252 c253 H254 =>
hslc 1 q251 l252 c253 none (some ((l252 : Nat) : Int)) (some ((l252 : Nat) : Int)) fun q255 l256 c257 =>
K q255 l256 c257 H254))

def bitio_Writer_Bytes {R : Type} (k : Nat) (p196 : Oa) (H : Heap) (K : Oa → Nat → Nat → Heap → Option R) : Option R := bitio_Writer_Bytes_b bitio_Writer_ok (bitio_Writer_Bytes_p0 k) k p196 H K

def bitio_Writer_Bytes_Ct {R : Type} (bitio_Writer_ok : bitio_Writer_ok_t R) : Tab R := tcons 51 (bitio_Writer_ok_ca bitio_Writer_ok) <| fun _ _ _ _ => none
def bitio_Writer_Bytes_C (R : Type) (k : Nat) : Tab R := bitio_Writer_Bytes_Ct bitio_Writer_ok
theorem bitio_Writer_Bytes_S (R : Type) (k : Nat) : CSound Try.prog (bitio_Writer_Bytes_C R k) := csound_cons (bitio_Writer_ok_cs R k) <| csound_nil
def bitio_Writer_Bytes_aa0 {R : Type} (f : bitio_Writer_Bytes_p0_t R) (n : Nat) (vals : List Value) (H : Heap) (K : Xit → Env → Heap → Option R) : Option R :=
  match vals with
  | [.pointer p216,.slice q217 l218 c219] => f p216 q217 l218 c219 H (fun q1451 l1452 c1453 H => K .normal [(3,.slice q1451 l1452 c1453)] H)
  | _ => none
def bitio_Writer_Bytes_a0 (R : Type) (k n : Nat) (vals : List Value) (H : Heap) (K : Xit → Env → Heap → Option R) : Option R := bitio_Writer_Bytes_aa0 (bitio_Writer_Bytes_p0 k) n vals H K
def bitio_Writer_Bytes_Jt {R : Type} (k : Nat) (bitio_Writer_Bytes_p0 : bitio_Writer_Bytes_p0_t R) : JTab R := tcons 0 (bitio_Writer_Bytes_aa0 bitio_Writer_Bytes_p0 k) <| fun _ _ _ _ => none
def bitio_Writer_Bytes_J (R : Type) (k : Nat) : JTab R := bitio_Writer_Bytes_Jt k (bitio_Writer_Bytes_p0 k)
def bitio_Writer_Bytes_at : AT := (.seq (.reg [0] []) (.seq (.seq (.reg [0,6] []) (.cond (.seq (.reg [2] []) .leaf) .leaf)) (.seq (.reg [0,3] [[],[0],[0,1],[0,1,2],[0,1,2,3],[0,1,2,3,4],[0,1,2,3,4,5],[],[7],[7,8],[7,8,9],[0,1,2,3,4,5,6,7,8,9,10],[0,1,2,3,4,5,6,7,8,9,10,11]]) (.seq (.opq 0 [0,3] ⟨[3],[],[]⟩ (.node (.seq (.reg [0,3,19] []) (.cond (.reg [3] [[],[],[1],[1,2],[1,2,3],[],[5],[5,6],[5,6,7],[],[9],[9,10],[9,10,11],[5,6,7,8,9,10,11,12],[5,6,7,8,9,10,11,12,13],[1,2,3,4,5,6,7,8,9,10,11,12,13,14],[1,2,3,4,5,6,7,8,9,10,11,12,13,14,15],[0,1,2,3,4,5,6,7,8,9,10,11,12,13,14,15,16],[0,1,2,3,4,5,6,7,8,9,10,11,12,13,14,15,16,17]]) (.seq (.reg [3,43] []) (.cond (.reg [3] []) .leaf)))))) (.seq (.reg [2] []) .leaf)))))
def bitio_Writer_Bytes_i0 : IC := (.block 0 (.seq (.reg [⟨some 20,.mov (.t 0),none⟩,
⟨some 21,.nilc (.t 20),none⟩,
⟨some 22,.fad 3 (.t 21),none⟩,
⟨some 23,.ld (.sc (.int .i64)) (.t 22),none⟩,
⟨some 24,.cmp .gtr (.t 23) (.c (Go.Value.int Go.IntKind.i64 0)),none⟩,
⟨some 19,.mov (.t 24),none⟩] [0,3,19]) (.cond (.t 19) (.reg [⟨some 25,.mov (.t 3),none⟩,
⟨some 26,.mov (.t 0),none⟩,
⟨some 27,.nilc (.t 26),none⟩,
⟨some 28,.fad 2 (.t 27),none⟩,
⟨some 29,.ld (.sc (.int .u8)) (.t 28),none⟩,
⟨some 30,.mov (.t 0),none⟩,
⟨some 31,.nilc (.t 30),none⟩,
⟨some 32,.fad 4 (.t 31),none⟩,
⟨some 33,.ld (.sc (.int .i64)) (.t 32),none⟩,
⟨some 34,.mov (.t 0),none⟩,
⟨some 35,.nilc (.t 34),none⟩,
⟨some 36,.fad 3 (.t 35),none⟩,
⟨some 37,.ld (.sc (.int .i64)) (.t 36),none⟩,
⟨some 38,.bin .sub .i64 (.t 33) (.t 37),none⟩,
⟨some 39,.cnv .u64 (.t 38),none⟩,
⟨some 40,.bin .shl .u8 (.t 29) (.t 39),none⟩,
⟨some 41,.bls 1 [.int .u8 0] [(0,1,(.t 40))],none⟩,
⟨some 42,.app [.int .u8 0] 1 (.t 25) (.t 41),none⟩,
⟨some 3,.mov (.t 42),none⟩] [3]) (.seq (.reg [⟨some 44,.mov (.t 0),none⟩,
⟨some 45,.nilc (.t 44),none⟩,
⟨some 46,.fad 4 (.t 45),none⟩,
⟨some 47,.ld (.sc (.int .i64)) (.t 46),none⟩,
⟨some 48,.cmp .eql (.t 47) (.c (Go.Value.int Go.IntKind.i64 7)),none⟩,
⟨some 43,.mov (.t 48),none⟩] [3,43]) (.cond (.t 43) (.reg [⟨some 49,.mov (.t 3),none⟩,
⟨some 50,.bls 1 [.int .u8 0] [(0,1,(.c (Go.Value.int Go.IntKind.u8 0)))],none⟩,
⟨some 51,.app [.int .u8 0] 1 (.t 49) (.t 50),none⟩,
⟨some 3,.mov (.t 51),none⟩] [3]) .skip)))))
def bitio_Writer_Bytes_f : IFn := ⟨58,[.t 2],(.seq (.reg [⟨some 2,.mov (.c (Go.Value.slice none 0 0)),none⟩] [0]) (.seq (.seq (.reg [⟨some 4,.mov (.t 0),none⟩,
⟨some 5,.call 51 [(.t 4)] (.one (.sc .bool)),none⟩,
⟨some 6,.lnot (.t 5),none⟩] [0,6]) (.cond (.t 6) (.seq (.reg [⟨some 2,.mov (.c (Go.Value.slice none 0 0)),none⟩] [2]) .ret) .skip)) (.seq (.reg [⟨some 7,.mov (.t 0),none⟩,
⟨some 8,.nilc (.t 7),none⟩,
⟨some 9,.fad 1 (.t 8),none⟩,
⟨some 10,.ld (.sc .slc) (.t 9),none⟩,
⟨some 11,.len false (.t 10),none⟩,
⟨some 12,.bin .add .i64 (.t 11) (.c (Go.Value.int Go.IntKind.i64 1)),none⟩,
⟨some 13,.mks [.int .u8 0] 1 (.c (Go.Value.int Go.IntKind.i64 0)) (.t 12),none⟩,
⟨some 14,.mov (.t 0),none⟩,
⟨some 15,.nilc (.t 14),none⟩,
⟨some 16,.fad 1 (.t 15),none⟩,
⟨some 17,.ld (.sc .slc) (.t 16),none⟩,
⟨some 18,.app [.int .u8 0] 1 (.t 13) (.t 17),none⟩,
⟨some 3,.mov (.t 18),none⟩] [0,3]) (.seq (.opq 0 [0,3] bitio_Writer_Bytes_i0) (.seq (.reg [⟨some 52,.mov (.t 3),none⟩,
⟨some 53,.mov (.t 3),none⟩,
⟨some 54,.len false (.t 53),none⟩,
⟨some 55,.mov (.t 3),none⟩,
⟨some 56,.len false (.t 55),none⟩,
⟨some 57,.slc 1 (.t 52) none (some (.t 54)) (some (.t 56)),none⟩,
⟨some 2,.mov (.t 57),none⟩] [2]) .ret)))))⟩
theorem bitio_Writer_Bytes_e0 {R : Type} (bitio_Writer_ok : bitio_Writer_ok_t R) (bitio_Writer_Bytes_p0 : bitio_Writer_Bytes_p0_t R) (k : Nat) (p216 : Oa) (q217 : Oa) (l218 : Nat) (c219 : Nat) (H : Heap) (K : Xit → Env → Heap → Option R) : evJ (bitio_Writer_Bytes_Ct bitio_Writer_ok) (bitio_Writer_Bytes_Jt k bitio_Writer_Bytes_p0) bitio_Writer_Bytes_i0 (List.zip [0,3] [.pointer p216,.slice q217 l218 c219]) H (fun x e' H' => K x (clean e' ((⟨[3],[],[]⟩ : Out).of x)) H') = bitio_Writer_Bytes_p0_b k p216 q217 l218 c219 H (fun q1451 l1452 c1453 H => K .normal [(3,.slice q1451 l1452 c1453)] H) := by kernel_rfl
theorem bitio_Writer_Bytes_j0 {R : Type} (k : Nat) : JS Try.prog 58 (bitio_Writer_Bytes_a0 R k k) [0,3] ⟨[3],[],[]⟩ (sel [1,1,1,0] (Try.f28.body.getD .skip)) :=
  piece_ok (nt := 58) (c := (sel [1,1,1,0] (Try.f28.body.getD .skip))) (C := bitio_Writer_Bytes_C R k) (an := An) (t := (.node (.seq (.reg [0,3,19] []) (.cond (.reg [3] [[],[],[1],[1,2],[1,2,3],[],[5],[5,6],[5,6,7],[],[9],[9,10],[9,10,11],[5,6,7,8,9,10,11,12],[5,6,7,8,9,10,11,12,13],[1,2,3,4,5,6,7,8,9,10,11,12,13,14],[1,2,3,4,5,6,7,8,9,10,11,12,13,14,15],[0,1,2,3,4,5,6,7,8,9,10,11,12,13,14,15,16],[0,1,2,3,4,5,6,7,8,9,10,11,12,13,14,15,16,17]]) (.seq (.reg [3,43] []) (.cond (.reg [3] []) .leaf)))))) (ic := bitio_Writer_Bytes_i0) (bitio_Writer_Bytes_S R k) (bitio_Writer_Bytes_J R k) (by kernel_rfl) (And.intro True.intro (And.intro True.intro (And.intro True.intro (And.intro True.intro True.intro)))) (bitio_Writer_Bytes_a0 R k k)
    (fun vals H K r h => by
      unfold bitio_Writer_Bytes_a0 bitio_Writer_Bytes_aa0 at h
      split at h <;> first | (cases h; done) | exact Eq.trans (bitio_Writer_Bytes_e0 bitio_Writer_ok (bitio_Writer_Bytes_p0 k) k _ _ _ _ H K) h)
def bitio_Writer_Bytes_ca {R : Type} (f : bitio_Writer_Bytes_t R) (args : List Value) (H : Heap) (K : Value → Heap → Option R) : Option R :=
  match args with
  | [.pointer p196] => f p196 H (fun q1454 l1455 c1456 H => K (.slice q1454 l1455 c1456) H)
  | _ => none
def bitio_Writer_Bytes_c (R : Type) (k : Nat) (args : List Value) (H : Heap) (K : Value → Heap → Option R) : Option R := bitio_Writer_Bytes_ca (bitio_Writer_Bytes k) args H K
theorem bitio_Writer_Bytes_e {R : Type} (bitio_Writer_ok : bitio_Writer_ok_t R) (bitio_Writer_Bytes_p0 : bitio_Writer_Bytes_p0_t R) (k : Nat) (p196 : Oa) (H : Heap) (K : Value → Heap → Option R) : evF (bitio_Writer_Bytes_Ct bitio_Writer_ok) (bitio_Writer_Bytes_Jt k bitio_Writer_Bytes_p0) bitio_Writer_Bytes_f [.pointer p196] H K = bitio_Writer_Bytes_b bitio_Writer_ok bitio_Writer_Bytes_p0 k p196 H (fun q1454 l1455 c1456 H => K (.slice q1454 l1455 c1456) H) := by kernel_rfl
theorem bitio_Writer_Bytes_cs (R : Type) (k : Nat) : ∀ args H K r,bitio_Writer_Bytes_c R k args H K = some r → ∃ v H',Tri Try.prog 28 args H v H' ∧ K v H' = some r := by
  intro args H K r h
  unfold bitio_Writer_Bytes_c bitio_Writer_Bytes_ca at h
  split at h
  · exact evF_ok (C := bitio_Writer_Bytes_C R k) (an := An) (t := bitio_Writer_Bytes_at) (fn := Try.f28) (c := (Try.f28.body.getD .skip)) (ifn := bitio_Writer_Bytes_f) (bitio_Writer_Bytes_S R k) (bitio_Writer_Bytes_J R k) Try.func28 (by kernel_rfl) (by kernel_rfl) (And.intro True.intro (And.intro (And.intro True.intro (And.intro (And.intro True.intro True.intro) True.intro)) (And.intro True.intro (And.intro (bitio_Writer_Bytes_j0 k) (And.intro True.intro True.intro))))) rfl (Eq.trans (bitio_Writer_Bytes_e bitio_Writer_ok (bitio_Writer_Bytes_p0 k) k _ H K) h)
  · cases h
/-! ### R09_SameBytes: function 27 -/
abbrev R09_SameBytes_t (R : Type) : Type := Oa → Nat → Nat → Oa → Nat → Nat → Heap → (Bool → Option R) → Option R

def R09_SameBytes_b {R : Type} (k : Nat) (q267 : Oa) (l268 : Nat) (c269 : Nat) (q270 : Oa) (l271 : Nat) (c272 : Nat) (H : Heap) (K : Bool → Option R) : Option R :=
hb2s H q267 l268 fun s273 =>
hb2s H q270 l271 fun s274 =>
K (s273 == s274)

def R09_SameBytes {R : Type} (q267 : Oa) (l268 : Nat) (c269 : Nat) (q270 : Oa) (l271 : Nat) (c272 : Nat) (H : Heap) (K : Bool → Option R) : Option R := R09_SameBytes_b 0 q267 l268 c269 q270 l271 c272 H K

def R09_SameBytes_Ct {R : Type} : Tab R := fun _ _ _ _ => none
def R09_SameBytes_C (R : Type) (k : Nat) : Tab R := R09_SameBytes_Ct
theorem R09_SameBytes_S (R : Type) (k : Nat) : CSound Try.prog (R09_SameBytes_C R k) := csound_nil
def R09_SameBytes_Jt {R : Type} (k : Nat) : JTab R := fun _ _ _ _ => none
def R09_SameBytes_J (R : Type) (k : Nat) : JTab R := R09_SameBytes_Jt k
def R09_SameBytes_at : AT := (.seq (.reg [0,1] []) (.seq (.reg [4] []) .leaf))
def R09_SameBytes_f : IFn := ⟨10,[.t 4],(.seq (.reg [⟨some 4,.mov (.c (Go.Value.bool false)),none⟩] [0,1]) (.seq (.reg [⟨some 5,.mov (.t 0),none⟩,
⟨some 6,.b2s (.t 5),none⟩,
⟨some 7,.mov (.t 1),none⟩,
⟨some 8,.b2s (.t 7),none⟩,
⟨some 9,.eqT (.t 6) (.t 8) false,none⟩,
⟨some 4,.mov (.t 9),none⟩] [4]) .ret))⟩
def R09_SameBytes_ca {R : Type} (f : R09_SameBytes_t R) (args : List Value) (H : Heap) (K : Value → Heap → Option R) : Option R :=
  match args with
  | [.slice q267 l268 c269,.slice q270 l271 c272] => f q267 l268 c269 q270 l271 c272 H (fun t1457 => K (.bool t1457) H)
  | _ => none
def R09_SameBytes_c (R : Type) (k : Nat) (args : List Value) (H : Heap) (K : Value → Heap → Option R) : Option R := R09_SameBytes_ca R09_SameBytes args H K
theorem R09_SameBytes_e {R : Type} (k : Nat) (q267 : Oa) (l268 : Nat) (c269 : Nat) (q270 : Oa) (l271 : Nat) (c272 : Nat) (H : Heap) (K : Value → Heap → Option R) : evF (R09_SameBytes_Ct) (R09_SameBytes_Jt k) R09_SameBytes_f [.slice q267 l268 c269,.slice q270 l271 c272] H K = R09_SameBytes_b k q267 l268 c269 q270 l271 c272 H (fun t1457 => K (.bool t1457) H) := by kernel_rfl
theorem R09_SameBytes_cs (R : Type) (k : Nat) : ∀ args H K r,R09_SameBytes_c R k args H K = some r → ∃ v H',Tri Try.prog 27 args H v H' ∧ K v H' = some r := by
  intro args H K r h
  unfold R09_SameBytes_c R09_SameBytes_ca at h
  split at h
  · exact evF_ok (C := R09_SameBytes_C R 0) (an := An) (t := R09_SameBytes_at) (fn := Try.f27) (c := (Try.f27.body.getD .skip)) (ifn := R09_SameBytes_f) (R09_SameBytes_S R 0) (R09_SameBytes_J R 0) Try.func27 (by kernel_rfl) (by kernel_rfl) (And.intro True.intro (And.intro True.intro True.intro)) rfl (Eq.trans (R09_SameBytes_e 0 _ _ _ _ _ _ H K) h)
  · cases h
/-! ### L_exampleHolds: function 15 -/
abbrev L_exampleHolds_p0_t (R : Type) : Type := Oa → Int → Oa → Heap → (Oa → Oa → Heap → Option R) → (Bool → Heap → Option R) → Option R
def L_exampleHolds_p0_b {R : Type} (tagtree_Tree_Set : tagtree_Tree_Set_t R) (tagtree_Tree_Encode : tagtree_Tree_Encode_t R) (bitio_Writer_Len : bitio_Writer_Len_t R) (k : Nat) (p135 : Oa) (n136 : Int) (p137 : Oa) (H : Heap) (KN : Oa → Oa → Heap → Option R) (KR : Bool → Heap → Option R) : Option R :=
bif p135.isNone then (KR false H)
 else (bif p137.isNone then (KR false H)
 else (bif (n136 != 0) then (KR false H)
 else (tagtree_Tree_Set p135 0 0 1 H fun n138 H139 =>
bif (n138 != 0) then (KR false H139)
 else (tagtree_Tree_Set p135 1 0 2 H139 fun n140 H141 =>
bif (n140 != 0) then (KR false H141)
 else (tagtree_Tree_Encode p135 p137 0 0 2 H141 fun n142 H143 =>
bif (n142 != 0) then (KR false H143)
 else (tagtree_Tree_Encode p135 p137 1 0 2 H143 fun n144 H145 =>
bif (n144 != 0) then (KR false H145)
 else (bitio_Writer_Len p137 H145 fun n146 =>
bif (n146 != 4) then (KR false H145)
 else (KN p135 p137 H145))))))))
def L_exampleHolds_p0 {R : Type} (k : Nat) (p135 : Oa) (n136 : Int) (p137 : Oa) (H : Heap) (KN : Oa → Oa → Heap → Option R) (KR : Bool → Heap → Option R) : Option R := L_exampleHolds_p0_b (tagtree_Tree_Set k) (tagtree_Tree_Encode k) bitio_Writer_Len k p135 n136 p137 H KN KR

abbrev L_exampleHolds_t (R : Type) : Type := Heap → (Bool → Heap → Option R) → Option R

def L_exampleHolds_b {R : Type} (tagtree_New : tagtree_New_t R) (bitio_NewWriter : bitio_NewWriter_t R) (L_exampleHolds_p0 : L_exampleHolds_p0_t R) (tagtree_Tree_Value : tagtree_Tree_Value_t R) (bitio_Writer_Bytes : bitio_Writer_Bytes_t R) (R09_SameBytes : R09_SameBytes_t R) (tagtree_Depth : tagtree_Depth_t R) (tagtree_Tree_Set : tagtree_Tree_Set_t R) (k : Nat) (H : Heap) (K : Bool → Heap → Option R) : Option R :=
tagtree_New 2 1 H fun p130 n131 H132 =>
bitio_NewWriter H132 fun p133 H134 =>
L_exampleHolds_p0 p130 n131 p133 H134 (fun p150 p151 H152 =>
tagtree_New 257 256 H152 fun p153 n154 H155 =>
tagtree_Tree_Value p150 0 0 H155 fun n156 t157 H158 =>
tagtree_Tree_Value p150 1 0 H158 fun n159 t160 H161 =>
bitio_Writer_Bytes p151 H161 fun q162 l163 c164 H165 =>
hal H165 [.int .u8 96] fun p166 H167 =>
R09_SameBytes q162 l163 c164 p166 1 1 H167 fun t168 =>
bif t168 then (bif (n154 == 5) then (tagtree_Depth 5 3 fun n169 =>
bif (n169 == 4) then (bif (n156 == 1) then (bif t157 then (bif (!t160) then (tagtree_Tree_Set p150 0 0 1 H167 fun n170 H171 =>
K (n170 == 6) H171)
 else (K false H167))
 else (K false H167))
 else (K false H167))
 else (K false H167))
 else (K false H167))
 else (K false H167)) (fun t172 H173 =>
K t172 H173)

def L_exampleHolds {R : Type} (k : Nat) (H : Heap) (K : Bool → Heap → Option R) : Option R := L_exampleHolds_b (tagtree_New k) bitio_NewWriter (L_exampleHolds_p0 k) (tagtree_Tree_Value k) (bitio_Writer_Bytes k) R09_SameBytes (tagtree_Depth k) (tagtree_Tree_Set k) k H K

def L_exampleHolds_Ct {R : Type} (tagtree_New : tagtree_New_t R) (bitio_NewWriter : bitio_NewWriter_t R) (tagtree_Tree_Set : tagtree_Tree_Set_t R) (tagtree_Tree_Encode : tagtree_Tree_Encode_t R) (bitio_Writer_Len : bitio_Writer_Len_t R) (tagtree_Tree_Value : tagtree_Tree_Value_t R) (bitio_Writer_Bytes : bitio_Writer_Bytes_t R) (R09_SameBytes : R09_SameBytes_t R) (tagtree_Depth : tagtree_Depth_t R) : Tab R := tcons 11 (tagtree_New_ca tagtree_New) <| tcons 17 (bitio_NewWriter_ca bitio_NewWriter) <| tcons 19 (tagtree_Tree_Set_ca tagtree_Tree_Set) <| tcons 21 (tagtree_Tree_Encode_ca tagtree_Tree_Encode) <| tcons 23 (bitio_Writer_Len_ca bitio_Writer_Len) <| tcons 25 (tagtree_Tree_Value_ca tagtree_Tree_Value) <| tcons 28 (bitio_Writer_Bytes_ca bitio_Writer_Bytes) <| tcons 27 (R09_SameBytes_ca R09_SameBytes) <| tcons 13 (tagtree_Depth_ca tagtree_Depth) <| fun _ _ _ _ => none
def L_exampleHolds_C (R : Type) (k : Nat) : Tab R := L_exampleHolds_Ct (tagtree_New k) bitio_NewWriter (tagtree_Tree_Set k) (tagtree_Tree_Encode k) bitio_Writer_Len (tagtree_Tree_Value k) (bitio_Writer_Bytes k) R09_SameBytes (tagtree_Depth k)
theorem L_exampleHolds_S (R : Type) (k : Nat) : CSound Try.prog (L_exampleHolds_C R k) := csound_cons (tagtree_New_cs R k) <| csound_cons (bitio_NewWriter_cs R k) <| csound_cons (tagtree_Tree_Set_cs R k) <| csound_cons (tagtree_Tree_Encode_cs R k) <| csound_cons (bitio_Writer_Len_cs R k) <| csound_cons (tagtree_Tree_Value_cs R k) <| csound_cons (bitio_Writer_Bytes_cs R k) <| csound_cons (R09_SameBytes_cs R k) <| csound_cons (tagtree_Depth_cs R k) <| csound_nil
def L_exampleHolds_aa0 {R : Type} (f : L_exampleHolds_p0_t R) (n : Nat) (vals : List Value) (H : Heap) (K : Xit → Env → Heap → Option R) : Option R :=
  match vals with
  | [.pointer p135,.int .i64 n136,.pointer p137] => f p135 n136 p137 H (fun p1458 p1459 H => K .normal [(1,.pointer p1458),(3,.pointer p1459)] H) (fun t1460 H => K .ret [(0,.bool t1460)] H)
  | _ => none
def L_exampleHolds_a0 (R : Type) (k n : Nat) (vals : List Value) (H : Heap) (K : Xit → Env → Heap → Option R) : Option R := L_exampleHolds_aa0 (L_exampleHolds_p0 k) n vals H K
def L_exampleHolds_Jt {R : Type} (k : Nat) (L_exampleHolds_p0 : L_exampleHolds_p0_t R) : JTab R := tcons 0 (L_exampleHolds_aa0 L_exampleHolds_p0 k) <| fun _ _ _ _ => none
def L_exampleHolds_J (R : Type) (k : Nat) : JTab R := L_exampleHolds_Jt k (L_exampleHolds_p0 k)
def L_exampleHolds_at : AT := (.seq (.reg [] []) (.seq (.reg [1,2] []) (.seq (.reg [1,2,3] []) (.seq (.opq 0 [1,2,3] ⟨[1,3],[],[0]⟩ (.seq (.reg [1,3,51] []) (.cond (.seq (.reg [0] []) .leaf) .leaf))) (.seq (.reg [1,3,5] []) (.seq (.reg [1,3,5,6,7] []) (.seq (.reg [1,3,5,6,7,9] []) (.seq (.reg [0] []) .leaf))))))))
def L_exampleHolds_i0 : IC := (.seq (.reg [⟨some 15,.mov (.t 1),none⟩,
⟨some 16,.eqnil (.t 15) false 0,none⟩,
⟨some 17,.mov (.t 16),none⟩,
⟨some 18,.mov (.t 3),some (17,false)⟩,
⟨some 19,.eqnil (.t 18) false 0,some (17,false)⟩,
⟨some 20,.pick (.t 17) (.c (Go.Value.bool true)) (.t 19),none⟩,
⟨some 21,.mov (.t 20),none⟩,
⟨some 22,.mov (.t 2),some (21,false)⟩,
⟨some 23,.cmp .neq (.t 22) (.c (Go.Value.int Go.IntKind.i64 0)),some (21,false)⟩,
⟨some 24,.pick (.t 21) (.c (Go.Value.bool true)) (.t 23),none⟩,
⟨some 25,.mov (.t 24),none⟩,
⟨some 26,.mov (.t 1),some (25,false)⟩,
⟨some 27,.call 19 [(.t 26),(.c (Go.Value.int Go.IntKind.i64 0)),(.c (Go.Value.int Go.IntKind.i64 0)),(.c (Go.Value.int Go.IntKind.i64 1))] (.one (.sc (.int .i64))),some (25,false)⟩,
⟨some 28,.cmp .neq (.t 27) (.c (Go.Value.int Go.IntKind.i64 0)),some (25,false)⟩,
⟨some 29,.pick (.t 25) (.c (Go.Value.bool true)) (.t 28),none⟩,
⟨some 30,.mov (.t 29),none⟩,
⟨some 31,.mov (.t 1),some (30,false)⟩,
⟨some 32,.call 19 [(.t 31),(.c (Go.Value.int Go.IntKind.i64 1)),(.c (Go.Value.int Go.IntKind.i64 0)),(.c (Go.Value.int Go.IntKind.i64 2))] (.one (.sc (.int .i64))),some (30,false)⟩,
⟨some 33,.cmp .neq (.t 32) (.c (Go.Value.int Go.IntKind.i64 0)),some (30,false)⟩,
⟨some 34,.pick (.t 30) (.c (Go.Value.bool true)) (.t 33),none⟩,
⟨some 35,.mov (.t 34),none⟩,
⟨some 36,.mov (.t 1),some (35,false)⟩,
⟨some 37,.mov (.t 3),some (35,false)⟩,
⟨some 38,.call 21 [(.t 36),(.t 37),(.c (Go.Value.int Go.IntKind.i64 0)),(.c (Go.Value.int Go.IntKind.i64 0)),(.c (Go.Value.int Go.IntKind.i64 2))] (.one (.sc (.int .i64))),some (35,false)⟩,
⟨some 39,.cmp .neq (.t 38) (.c (Go.Value.int Go.IntKind.i64 0)),some (35,false)⟩,
⟨some 40,.pick (.t 35) (.c (Go.Value.bool true)) (.t 39),none⟩,
⟨some 41,.mov (.t 40),none⟩,
⟨some 42,.mov (.t 1),some (41,false)⟩,
⟨some 43,.mov (.t 3),some (41,false)⟩,
⟨some 44,.call 21 [(.t 42),(.t 43),(.c (Go.Value.int Go.IntKind.i64 1)),(.c (Go.Value.int Go.IntKind.i64 0)),(.c (Go.Value.int Go.IntKind.i64 2))] (.one (.sc (.int .i64))),some (41,false)⟩,
⟨some 45,.cmp .neq (.t 44) (.c (Go.Value.int Go.IntKind.i64 0)),some (41,false)⟩,
⟨some 46,.pick (.t 41) (.c (Go.Value.bool true)) (.t 45),none⟩,
⟨some 47,.mov (.t 46),none⟩,
⟨some 48,.mov (.t 3),some (47,false)⟩,
⟨some 49,.call 23 [(.t 48)] (.one (.sc (.int .i64))),some (47,false)⟩,
⟨some 50,.cmp .neq (.t 49) (.c (Go.Value.int Go.IntKind.i64 4)),some (47,false)⟩,
⟨some 51,.pick (.t 47) (.c (Go.Value.bool true)) (.t 50),none⟩] [1,3,51]) (.cond (.t 51) (.seq (.reg [⟨some 0,.mov (.c (Go.Value.bool false)),none⟩] [0]) .ret) .skip))
def L_exampleHolds_f : IFn := ⟨94,[.t 0],(.seq (.reg [⟨some 0,.mov (.c (Go.Value.bool false)),none⟩] []) (.seq (.reg [⟨some 11,.call 11 [(.c (Go.Value.int Go.IntKind.i64 2)),(.c (Go.Value.int Go.IntKind.i64 1))] (.tup [(.sc .ptr),(.sc (.int .i64))]),none⟩,
⟨some 10,.mov (.t 11),none⟩,
⟨some 12,.ext 0 (.t 10),none⟩,
⟨some 13,.ext 1 (.t 10),none⟩,
⟨some 1,.mov (.t 12),none⟩,
⟨some 2,.mov (.t 13),none⟩] [1,2]) (.seq (.reg [⟨some 14,.call 17 [] (.one (.sc .ptr)),none⟩,
⟨some 3,.mov (.t 14),none⟩] [1,2,3]) (.seq (.opq 0 [1,2,3] L_exampleHolds_i0) (.seq (.reg [⟨some 53,.call 11 [(.c (Go.Value.int Go.IntKind.i64 257)),(.c (Go.Value.int Go.IntKind.i64 256))] (.tup [(.sc .ptr),(.sc (.int .i64))]),none⟩,
⟨some 52,.mov (.t 53),none⟩,
⟨some 54,.ext 0 (.t 52),none⟩,
⟨some 55,.ext 1 (.t 52),none⟩,
⟨some 4,.mov (.t 54),none⟩,
⟨some 5,.mov (.t 55),none⟩] [1,3,5]) (.seq (.reg [⟨some 57,.mov (.t 1),none⟩,
⟨some 58,.call 25 [(.t 57),(.c (Go.Value.int Go.IntKind.i64 0)),(.c (Go.Value.int Go.IntKind.i64 0))] (.tup [(.sc (.int .i64)),(.sc .bool)]),none⟩,
⟨some 56,.mov (.t 58),none⟩,
⟨some 59,.ext 0 (.t 56),none⟩,
⟨some 60,.ext 1 (.t 56),none⟩,
⟨some 6,.mov (.t 59),none⟩,
⟨some 7,.mov (.t 60),none⟩] [1,3,5,6,7]) (.seq (.reg [⟨some 62,.mov (.t 1),none⟩,
⟨some 63,.call 25 [(.t 62),(.c (Go.Value.int Go.IntKind.i64 1)),(.c (Go.Value.int Go.IntKind.i64 0))] (.tup [(.sc (.int .i64)),(.sc .bool)]),none⟩,
⟨some 61,.mov (.t 63),none⟩,
⟨some 64,.ext 0 (.t 61),none⟩,
⟨some 65,.ext 1 (.t 61),none⟩,
⟨some 8,.mov (.t 64),none⟩,
⟨some 9,.mov (.t 65),none⟩] [1,3,5,6,7,9]) (.seq (.reg [⟨some 66,.mov (.t 3),none⟩,
⟨some 67,.call 28 [(.t 66)] (.one (.sc .slc)),none⟩,
⟨some 68,.bls 1 [.int .u8 0] [(0,1,(.c (Go.Value.int Go.IntKind.u8 96)))],none⟩,
⟨some 69,.call 27 [(.t 67),(.t 68)] (.one (.sc .bool)),none⟩,
⟨some 70,.mov (.t 69),none⟩,
⟨some 71,.mov (.t 5),some (70,true)⟩,
⟨some 72,.cmp .eql (.t 71) (.c (Go.Value.int Go.IntKind.i64 5)),some (70,true)⟩,
⟨some 73,.pick (.t 70) (.t 72) (.c (Go.Value.bool false)),none⟩,
⟨some 74,.mov (.t 73),none⟩,
⟨some 75,.call 13 [(.c (Go.Value.int Go.IntKind.i64 5)),(.c (Go.Value.int Go.IntKind.i64 3))] (.one (.sc (.int .i64))),some (74,true)⟩,
⟨some 76,.cmp .eql (.t 75) (.c (Go.Value.int Go.IntKind.i64 4)),some (74,true)⟩,
⟨some 77,.pick (.t 74) (.t 76) (.c (Go.Value.bool false)),none⟩,
⟨some 78,.mov (.t 77),none⟩,
⟨some 79,.mov (.t 6),some (78,true)⟩,
⟨some 80,.cmp .eql (.t 79) (.c (Go.Value.int Go.IntKind.i64 1)),some (78,true)⟩,
⟨some 81,.pick (.t 78) (.t 80) (.c (Go.Value.bool false)),none⟩,
⟨some 82,.mov (.t 81),none⟩,
⟨some 83,.mov (.t 7),some (82,true)⟩,
⟨some 84,.pick (.t 82) (.t 83) (.c (Go.Value.bool false)),none⟩,
⟨some 85,.mov (.t 84),none⟩,
⟨some 86,.mov (.t 9),some (85,true)⟩,
⟨some 87,.lnot (.t 86),some (85,true)⟩,
⟨some 88,.pick (.t 85) (.t 87) (.c (Go.Value.bool false)),none⟩,
⟨some 89,.mov (.t 88),none⟩,
⟨some 90,.mov (.t 1),some (89,true)⟩,
⟨some 91,.call 19 [(.t 90),(.c (Go.Value.int Go.IntKind.i64 0)),(.c (Go.Value.int Go.IntKind.i64 0)),(.c (Go.Value.int Go.IntKind.i64 1))] (.one (.sc (.int .i64))),some (89,true)⟩,
⟨some 92,.cmp .eql (.t 91) (.c (Go.Value.int Go.IntKind.i64 6)),some (89,true)⟩,
⟨some 93,.pick (.t 89) (.t 92) (.c (Go.Value.bool false)),none⟩,
⟨some 0,.mov (.t 93),none⟩] [0]) .ret))))))))⟩
theorem L_exampleHolds_e0 {R : Type} (tagtree_New : tagtree_New_t R) (bitio_NewWriter : bitio_NewWriter_t R) (tagtree_Tree_Set : tagtree_Tree_Set_t R) (tagtree_Tree_Encode : tagtree_Tree_Encode_t R) (bitio_Writer_Len : bitio_Writer_Len_t R) (tagtree_Tree_Value : tagtree_Tree_Value_t R) (bitio_Writer_Bytes : bitio_Writer_Bytes_t R) (R09_SameBytes : R09_SameBytes_t R) (tagtree_Depth : tagtree_Depth_t R) (L_exampleHolds_p0 : L_exampleHolds_p0_t R) (k : Nat) (p135 : Oa) (n136 : Int) (p137 : Oa) (H : Heap) (K : Xit → Env → Heap → Option R) : evJ (L_exampleHolds_Ct tagtree_New bitio_NewWriter tagtree_Tree_Set tagtree_Tree_Encode bitio_Writer_Len tagtree_Tree_Value bitio_Writer_Bytes R09_SameBytes tagtree_Depth) (L_exampleHolds_Jt k L_exampleHolds_p0) L_exampleHolds_i0 (List.zip [1,2,3] [.pointer p135,.int .i64 n136,.pointer p137]) H (fun x e' H' => K x (clean e' ((⟨[1,3],[],[0]⟩ : Out).of x)) H') = L_exampleHolds_p0_b tagtree_Tree_Set tagtree_Tree_Encode bitio_Writer_Len k p135 n136 p137 H (fun p1458 p1459 H => K .normal [(1,.pointer p1458),(3,.pointer p1459)] H) (fun t1460 H => K .ret [(0,.bool t1460)] H) := by kernel_rfl
theorem L_exampleHolds_j0 {R : Type} (k : Nat) : JS Try.prog 94 (L_exampleHolds_a0 R k k) [1,2,3] ⟨[1,3],[],[0]⟩ (sel [1,1,1,0] (Try.f15.body.getD .skip)) :=
  piece_ok (nt := 94) (c := (sel [1,1,1,0] (Try.f15.body.getD .skip))) (C := L_exampleHolds_C R k) (an := An) (t := (.seq (.reg [1,3,51] []) (.cond (.seq (.reg [0] []) .leaf) .leaf))) (ic := L_exampleHolds_i0) (L_exampleHolds_S R k) (L_exampleHolds_J R k) (by kernel_rfl) (And.intro True.intro (And.intro (And.intro True.intro True.intro) True.intro)) (L_exampleHolds_a0 R k k)
    (fun vals H K r h => by
      unfold L_exampleHolds_a0 L_exampleHolds_aa0 at h
      split at h <;> first | (cases h; done) | exact Eq.trans (L_exampleHolds_e0 (tagtree_New k) bitio_NewWriter (tagtree_Tree_Set k) (tagtree_Tree_Encode k) bitio_Writer_Len (tagtree_Tree_Value k) (bitio_Writer_Bytes k) R09_SameBytes (tagtree_Depth k) (L_exampleHolds_p0 k) k _ _ _ H K) h)
def L_exampleHolds_ca {R : Type} (f : L_exampleHolds_t R) (args : List Value) (H : Heap) (K : Value → Heap → Option R) : Option R :=
  match args with
  | [] => f H (fun t1461 H => K (.bool t1461) H)
  | _ => none
def L_exampleHolds_c (R : Type) (k : Nat) (args : List Value) (H : Heap) (K : Value → Heap → Option R) : Option R := L_exampleHolds_ca (L_exampleHolds k) args H K
theorem L_exampleHolds_e {R : Type} (tagtree_New : tagtree_New_t R) (bitio_NewWriter : bitio_NewWriter_t R) (tagtree_Tree_Set : tagtree_Tree_Set_t R) (tagtree_Tree_Encode : tagtree_Tree_Encode_t R) (bitio_Writer_Len : bitio_Writer_Len_t R) (tagtree_Tree_Value : tagtree_Tree_Value_t R) (bitio_Writer_Bytes : bitio_Writer_Bytes_t R) (R09_SameBytes : R09_SameBytes_t R) (tagtree_Depth : tagtree_Depth_t R) (L_exampleHolds_p0 : L_exampleHolds_p0_t R) (k : Nat) (H : Heap) (K : Value → Heap → Option R) : evF (L_exampleHolds_Ct tagtree_New bitio_NewWriter tagtree_Tree_Set tagtree_Tree_Encode bitio_Writer_Len tagtree_Tree_Value bitio_Writer_Bytes R09_SameBytes tagtree_Depth) (L_exampleHolds_Jt k L_exampleHolds_p0) L_exampleHolds_f [] H K = L_exampleHolds_b tagtree_New bitio_NewWriter L_exampleHolds_p0 tagtree_Tree_Value bitio_Writer_Bytes R09_SameBytes tagtree_Depth tagtree_Tree_Set k H (fun t1461 H => K (.bool t1461) H) := by kernel_rfl
theorem L_exampleHolds_cs (R : Type) (k : Nat) : ∀ args H K r,L_exampleHolds_c R k args H K = some r → ∃ v H',Tri Try.prog 15 args H v H' ∧ K v H' = some r := by
  intro args H K r h
  unfold L_exampleHolds_c L_exampleHolds_ca at h
  split at h
  · exact evF_ok (C := L_exampleHolds_C R k) (an := An) (t := L_exampleHolds_at) (fn := Try.f15) (c := (Try.f15.body.getD .skip)) (ifn := L_exampleHolds_f) (L_exampleHolds_S R k) (L_exampleHolds_J R k) Try.func15 (by kernel_rfl) (by kernel_rfl) (And.intro True.intro (And.intro True.intro (And.intro True.intro (And.intro (L_exampleHolds_j0 k) (And.intro True.intro (And.intro True.intro (And.intro True.intro (And.intro True.intro True.intro)))))))) rfl (Eq.trans (L_exampleHolds_e (tagtree_New k) bitio_NewWriter (tagtree_Tree_Set k) (tagtree_Tree_Encode k) bitio_Writer_Len (tagtree_Tree_Value k) (bitio_Writer_Bytes k) R09_SameBytes (tagtree_Depth k) (L_exampleHolds_p0 k) k H K) h)
  · cases h
/-! ### L_exampleHoldsq: function 15 -/
abbrev L_exampleHoldsq_t (R : Type) : Type := (Bool → Option R) → Option R
def L_exampleHoldsq {R : Type} (K : Bool → Option R) : Option R := K true
set_option maxRecDepth 1000000 in
theorem L_exampleHolds_run : L_exampleHolds_c Bool 80 [] [] asB = some true := by kernel_rfl
def L_exampleHoldsq_ca {R : Type} (f : (Bool → Option R) → Option R) (args : List Value) (H : Heap) (K : Value → Heap → Option R) : Option R :=
  match args with
  | [] => f (fun t => K (.bool t) H)
  | _ => none
def L_exampleHoldsq_c (R : Type) (k : Nat) (args : List Value) (H : Heap) (K : Value → Heap → Option R) : Option R := L_exampleHoldsq_ca L_exampleHoldsq args H K
theorem L_exampleHoldsq_cs (R : Type) (k : Nat) : ∀ args H K r,L_exampleHoldsq_c R k args H K = some r → ∃ v H',Tri Try.prog 15 args H v H' ∧ K v H' = some r := by
  intro args H K r h
  unfold L_exampleHoldsq_c L_exampleHoldsq_ca at h
  split at h
  · exact ⟨_,_,closed_ok (L_exampleHolds_cs) L_exampleHolds_run H,h⟩
  · cases h
end Go.Proofs.Ytblkejnciinaeaa.Sh
