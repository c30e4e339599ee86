/- Lean functions that stand for Go's,over an explicit heap,and the proofs that they do (written by this claim's program shallow.py). -/
import Derived.Test.YtblkejnciinaeaaSh0
set_option maxRecDepth 100000
set_option linter.unusedVariables false
set_option linter.unusedSimpArgs false
namespace Go.Proofs.Ytblkejnciinaeaa.Sh
open Go.Proofs.Ytblkejnciinaeaa.FW
/-! ### bitio_Writer_ok: function 51 -/
abbrev bitio_Writer_ok_t (R : Type) : Type := Oa → Heap → (Bool → Option R) → Option R

def bitio_Writer_ok_b {R : Type} (k : Nat) (p213 : Oa) (H : Heap) (K : Bool → Option R) : Option R :=
bif p213.isSome then (hnil p213 fun p214 =>
hfad 0 p214 fun p215 =>
ldB H p215 fun t216 =>
K t216)
 else (K false)

def bitio_Writer_ok {R : Type} (p213 : Oa) (H : Heap) (K : Bool → Option R) : Option R := bitio_Writer_ok_b 0 p213 H K

def bitio_Writer_ok_Ct {R : Type} : Tab R := fun _ _ _ _ => none
def bitio_Writer_ok_C (R : Type) (k : Nat) : Tab R := bitio_Writer_ok_Ct
theorem bitio_Writer_ok_S (R : Type) (k : Nat) : CSound Try.prog (bitio_Writer_ok_C R k) := csound_nil
def bitio_Writer_ok_Jt {R : Type} (k : Nat) : JTab R := fun _ _ _ _ => none
def bitio_Writer_ok_J (R : Type) (k : Nat) : JTab R := bitio_Writer_ok_Jt k
def bitio_Writer_ok_at : AT := (.seq (.reg [0] []) (.seq (.reg [2] []) .leaf))
def bitio_Writer_ok_f : IFn := ⟨11,[.t 2],(.seq (.reg [⟨some 2,.mov (.c (Go.Value.bool false)),none⟩] [0]) (.seq (.reg [⟨some 3,.mov (.t 0),none⟩,
⟨some 4,.eqnil (.t 3) true 0,none⟩,
⟨some 5,.mov (.t 4),none⟩,
⟨some 6,.mov (.t 0),some (5,true)⟩,
⟨some 7,.nilc (.t 6),some (5,true)⟩,
⟨some 8,.fad 0 (.t 7),some (5,true)⟩,
⟨some 9,.ld (.sc .bool) (.t 8),some (5,true)⟩,
⟨some 10,.pick (.t 5) (.t 9) (.c (Go.Value.bool false)),none⟩,
⟨some 2,.mov (.t 10),none⟩] [2]) .ret))⟩
def bitio_Writer_ok_ca {R : Type} (f : bitio_Writer_ok_t R) (args : List Value) (H : Heap) (K : Value → Heap → Option R) : Option R :=
  match args with
  | [.pointer p213] => f p213 H (fun t1365 => K (.bool t1365) H)
  | _ => none
def bitio_Writer_ok_c (R : Type) (k : Nat) (args : List Value) (H : Heap) (K : Value → Heap → Option R) : Option R := bitio_Writer_ok_ca bitio_Writer_ok args H K
theorem bitio_Writer_ok_e {R : Type} (k : Nat) (p213 : Oa) (H : Heap) (K : Value → Heap → Option R) : evF (bitio_Writer_ok_Ct) (bitio_Writer_ok_Jt k) bitio_Writer_ok_f [.pointer p213] H K = bitio_Writer_ok_b k p213 H (fun t1365 => K (.bool t1365) H) := by kernel_rfl
theorem bitio_Writer_ok_cs (R : Type) (k : Nat) : ∀ args H K r,bitio_Writer_ok_c R k args H K = some r → ∃ v H',Tri Try.prog 51 args H v H' ∧ K v H' = some r := by
  intro args H K r h
  unfold bitio_Writer_ok_c bitio_Writer_ok_ca at h
  split at h
  · exact evF_ok (C := bitio_Writer_ok_C R 0) (an := An) (t := bitio_Writer_ok_at) (fn := Try.f51) (c := (Try.f51.body.getD .skip)) (ifn := bitio_Writer_ok_f) (bitio_Writer_ok_S R 0) (bitio_Writer_ok_J R 0) Try.func51 (by kernel_rfl) (by kernel_rfl) (And.intro True.intro (And.intro True.intro True.intro)) rfl (Eq.trans (bitio_Writer_ok_e 0 _ H K) h)
  · cases h
/-! ### bitio_Writer_put: function 57 -/
abbrev bitio_Writer_put_p0_t (R : Type) : Type := Oa → Heap → (Oa → Heap → Option R) → Option R
def bitio_Writer_put_p0_b {R : Type} (k : Nat) (p282 : Oa) (H : Heap) (KN : Oa → Heap → Option R) : Option R :=
hnil p282 fun p283 =>
hfad 2 p283 fun p284 =>
ldI .u8 H p284 fun n285 =>
bif (n285 == 255) then (hnil p282 fun p286 =>
hfad 4 p286 fun p287 =>
hst1 H p287 (.int .i64 7) fun H288 =>
KN p282 H288)
 else (KN p282 H)
def bitio_Writer_put_p0 {R : Type} (k : Nat) (p282 : Oa) (H : Heap) (KN : Oa → Heap → Option R) : Option R := bitio_Writer_put_p0_b k p282 H KN

abbrev bitio_Writer_put_t (R : Type) : Type := Oa → Int → Heap → (Heap → Option R) → Option R

def bitio_Writer_put_b {R : Type} (bitio_Writer_put_p0 : bitio_Writer_put_p0_t R) (k : Nat) (p235 : Oa) (n236 : Int) (H : Heap) (K : Heap → Option R) : Option R :=
hnil p235 fun p237 =>
hfad 2 p237 fun p238 =>
ldI .u8 H p238 fun n239 =>
hbin .or .u8 (IntKind.wrap .u8 (n239 * 2)) (IntKind.wrap .u8 n236) fun n240 =>
hnil p235 fun p241 =>
hfad 2 p241 fun p242 =>
hst1 H p242 (.int .u8 n240) fun H243 =>
hnil p235 fun p244 =>
hfad 3 p244 fun p245 =>
ldI .i64 H243 p245 fun n246 =>
hnil p235 fun p247 =>
hfad 3 p247 fun p248 =>
hst1 H243 p248 (.int .i64 (IntKind.wrap .i64 (n246 + 1))) fun H249 =>
hnil p235 fun p250 =>
hfad 5 p250 fun p251 =>
ldI .i64 H249 p251 fun n252 =>
hnil p235 fun p253 =>
hfad 5 p253 fun p254 =>
hst1 H249 p254 (.int .i64 (IntKind.wrap .i64 (n252 + 1))) fun H255 =>
hnil p235 fun p256 =>
hfad 3 p256 fun p257 =>
ldI .i64 H255 p257 fun n258 =>
hnil p235 fun p259 =>
hfad 4 p259 fun p260 =>
ldI .i64 H255 p260 fun n261 =>
bif decide (n258 < n261) then (K H255)
 else (hnil p235 fun p262 =>
hfad 1 p262 fun p263 =>
ldL H255 p263 fun q264 l265 c266 =>
hnil p235 fun p267 =>
hfad 2 p267 fun p268 =>
ldI .u8 H255 p268 fun n269 =>
hal H255 [.int .u8 n269] fun p270 H271 =>
happS 1 1 H271 q264 l265 c266 p270 1 fun q272 l273 c274 H275 =>
hnil p235 fun p276 =>
hfad 1 p276 fun p277 =>
hst1 H275 p277 (.slice q272 l273 c274) fun H278 =>
hnil p235 fun p279 =>
hfad 4 p279 fun p280 =>
hst1 H278 p280 (.int .i64 8) fun H281 =>
bitio_Writer_put_p0 p235 H281 (fun p290 H291 =>
hnil p290 fun p292 =>
hfad 2 p292 fun p293 =>
hst1 H291 p293 (.int .u8 0) fun H294 =>
hnil p290 fun p295 =>
hfad 3 p295 fun p296 =>
hst1 H294 p296 (.int .i64 0) fun H297 =>
K H297))

def bitio_Writer_put {R : Type} (k : Nat) (p235 : Oa) (n236 : Int) (H : Heap) (K : Heap → Option R) : Option R := bitio_Writer_put_b (bitio_Writer_put_p0 k) k p235 n236 H K

def bitio_Writer_put_Ct {R : Type} : Tab R := fun _ _ _ _ => none
def bitio_Writer_put_C (R : Type) (k : Nat) : Tab R := bitio_Writer_put_Ct
theorem bitio_Writer_put_S (R : Type) (k : Nat) : CSound Try.prog (bitio_Writer_put_C R k) := csound_nil
def bitio_Writer_put_aa0 {R : Type} (f : bitio_Writer_put_p0_t R) (n : Nat) (vals : List Value) (H : Heap) (K : Xit → Env → Heap → Option R) : Option R :=
  match vals with
  | [.pointer p282] => f p282 H (fun p1366 H => K .normal [(0,.pointer p1366)] H)
  | _ => none
def bitio_Writer_put_a0 (R : Type) (k n : Nat) (vals : List Value) (H : Heap) (K : Xit → Env → Heap → Option R) : Option R := bitio_Writer_put_aa0 (bitio_Writer_put_p0 k) n vals H K
def bitio_Writer_put_Jt {R : Type} (k : Nat) (bitio_Writer_put_p0 : bitio_Writer_put_p0_t R) : JTab R := tcons 0 (bitio_Writer_put_aa0 bitio_Writer_put_p0 k) <| fun _ _ _ _ => none
def bitio_Writer_put_J (R : Type) (k : Nat) : JTab R := bitio_Writer_put_Jt k (bitio_Writer_put_p0 k)
def bitio_Writer_put_at : AT := (.seq (.reg [0] []) (.seq (.reg [0] []) (.seq (.reg [0] []) (.seq (.seq (.reg [0,37] [[],[0],[0,1],[0,1,2],[],[4],[4,5],[4,5,6],[0,1,2,3,4,5,6,7]]) (.cond .leaf .leaf)) (.seq (.reg [0] [[],[],[1],[1,2],[1,2,3],[],[5],[5,6],[5,6,7],[5,6,7,8],[1,2,3,4,5,6,7,8,9],[0,1,2,3,4,5,6,7,8,9,10],[0,1,2,3,4,5,6,7,8,9,10,11],[0,1,2,3,4,5,6,7,8,9,10,11,12]]) (.seq (.reg [0] []) (.seq (.opq 0 [0] ⟨[0],[],[]⟩ (.seq (.reg [0,58] []) (.cond (.reg [0] []) .leaf))) (.reg [] []))))))))
def bitio_Writer_put_i0 : IC := (.seq (.reg [⟨some 54,.mov (.t 0),none⟩,
⟨some 55,.nilc (.t 54),none⟩,
⟨some 56,.fad 2 (.t 55),none⟩,
⟨some 57,.ld (.sc (.int .u8)) (.t 56),none⟩,
⟨some 58,.cmp .eql (.t 57) (.c (Go.Value.int Go.IntKind.u8 255)),none⟩] [0,58]) (.cond (.t 58) (.reg [⟨some 59,.mov (.t 0),none⟩,
⟨some 60,.nilc (.t 59),none⟩,
⟨some 61,.fad 4 (.t 60),none⟩,
⟨none,.st 1 (.t 61) (.c (Go.Value.int Go.IntKind.i64 7)),none⟩] [0]) .skip))
def bitio_Writer_put_f : IFn := ⟨68,[],(.seq (.reg [⟨some 4,.mov (.t 0),none⟩,
⟨some 5,.mov (.t 0),none⟩,
⟨some 6,.nilc (.t 5),none⟩,
⟨some 7,.fad 2 (.t 6),none⟩,
⟨some 8,.ld (.sc (.int .u8)) (.t 7),none⟩,
⟨some 9,.bin .shl .u8 (.t 8) (.c (Go.Value.int Go.IntKind.u64 1)),none⟩,
⟨some 10,.mov (.t 1),none⟩,
⟨some 11,.cnv .u8 (.t 10),none⟩,
⟨some 12,.bin .or .u8 (.t 9) (.t 11),none⟩,
⟨some 13,.nilc (.t 4),none⟩,
⟨some 14,.fad 2 (.t 13),none⟩,
⟨none,.st 1 (.t 14) (.t 12),none⟩] [0]) (.seq (.reg [⟨some 15,.mov (.t 0),none⟩,
⟨some 16,.nilc (.t 15),none⟩,
⟨some 17,.fad 3 (.t 16),none⟩,
⟨some 18,.ld (.sc (.int .i64)) (.t 17),none⟩,
⟨some 19,.bin .add .i64 (.t 18) (.c (Go.Value.int Go.IntKind.i64 1)),none⟩,
⟨some 20,.nilc (.t 15),none⟩,
⟨some 21,.fad 3 (.t 20),none⟩,
⟨none,.st 1 (.t 21) (.t 19),none⟩] [0]) (.seq (.reg [⟨some 22,.mov (.t 0),none⟩,
⟨some 23,.nilc (.t 22),none⟩,
⟨some 24,.fad 5 (.t 23),none⟩,
⟨some 25,.ld (.sc (.int .i64)) (.t 24),none⟩,
⟨some 26,.bin .add .i64 (.t 25) (.c (Go.Value.int Go.IntKind.i64 1)),none⟩,
⟨some 27,.nilc (.t 22),none⟩,
⟨some 28,.fad 5 (.t 27),none⟩,
⟨none,.st 1 (.t 28) (.t 26),none⟩] [0]) (.seq (.seq (.reg [⟨some 29,.mov (.t 0),none⟩,
⟨some 30,.nilc (.t 29),none⟩,
⟨some 31,.fad 3 (.t 30),none⟩,
⟨some 32,.ld (.sc (.int .i64)) (.t 31),none⟩,
⟨some 33,.mov (.t 0),none⟩,
⟨some 34,.nilc (.t 33),none⟩,
⟨some 35,.fad 4 (.t 34),none⟩,
⟨some 36,.ld (.sc (.int .i64)) (.t 35),none⟩,
⟨some 37,.cmp .lss (.t 32) (.t 36),none⟩] [0,37]) (.cond (.t 37) .ret .skip)) (.seq (.reg [⟨some 38,.mov (.t 0),none⟩,
⟨some 39,.mov (.t 0),none⟩,
⟨some 40,.nilc (.t 39),none⟩,
⟨some 41,.fad 1 (.t 40),none⟩,
⟨some 42,.ld (.sc .slc) (.t 41),none⟩,
⟨some 43,.mov (.t 0),none⟩,
⟨some 44,.nilc (.t 43),none⟩,
⟨some 45,.fad 2 (.t 44),none⟩,
⟨some 46,.ld (.sc (.int .u8)) (.t 45),none⟩,
⟨some 47,.bls 1 [.int .u8 0] [(0,1,(.t 46))],none⟩,
⟨some 48,.app [.int .u8 0] 1 (.t 42) (.t 47),none⟩,
⟨some 49,.nilc (.t 38),none⟩,
⟨some 50,.fad 1 (.t 49),none⟩,
⟨none,.st 1 (.t 50) (.t 48),none⟩] [0]) (.seq (.reg [⟨some 51,.mov (.t 0),none⟩,
⟨some 52,.nilc (.t 51),none⟩,
⟨some 53,.fad 4 (.t 52),none⟩,
⟨none,.st 1 (.t 53) (.c (Go.Value.int Go.IntKind.i64 8)),none⟩] [0]) (.seq (.opq 0 [0] bitio_Writer_put_i0) (.reg [⟨some 62,.mov (.t 0),none⟩,
⟨some 63,.mov (.t 0),none⟩,
⟨some 64,.nilc (.t 62),none⟩,
⟨some 65,.fad 2 (.t 64),none⟩,
⟨none,.st 1 (.t 65) (.c (Go.Value.int Go.IntKind.u8 0)),none⟩,
⟨some 66,.nilc (.t 63),none⟩,
⟨some 67,.fad 3 (.t 66),none⟩,
⟨none,.st 1 (.t 67) (.c (Go.Value.int Go.IntKind.i64 0)),none⟩] []))))))))⟩
theorem bitio_Writer_put_e0 {R : Type} (bitio_Writer_put_p0 : bitio_Writer_put_p0_t R) (k : Nat) (p282 : Oa) (H : Heap) (K : Xit → Env → Heap → Option R) : evJ (bitio_Writer_put_Ct) (bitio_Writer_put_Jt k bitio_Writer_put_p0) bitio_Writer_put_i0 (List.zip [0] [.pointer p282]) H (fun x e' H' => K x (clean e' ((⟨[0],[],[]⟩ : Out).of x)) H') = bitio_Writer_put_p0_b k p282 H (fun p1366 H => K .normal [(0,.pointer p1366)] H) := by kernel_rfl
theorem bitio_Writer_put_j0 {R : Type} (k : Nat) : JS Try.prog 68 (bitio_Writer_put_a0 R k k) [0] ⟨[0],[],[]⟩ (sel [1,1,1,1,1,1,0] (Try.f57.body.getD .skip)) :=
  piece_ok (nt := 68) (c := (sel [1,1,1,1,1,1,0] (Try.f57.body.getD .skip))) (C := bitio_Writer_put_C R k) (an := An) (t := (.seq (.reg [0,58] []) (.cond (.reg [0] []) .leaf))) (ic := bitio_Writer_put_i0) (bitio_Writer_put_S R k) (bitio_Writer_put_J R k) (by kernel_rfl) (And.intro True.intro (And.intro True.intro True.intro)) (bitio_Writer_put_a0 R k k)
    (fun vals H K r h => by
      unfold bitio_Writer_put_a0 bitio_Writer_put_aa0 at h
      split at h <;> first | (cases h; done) | exact Eq.trans (bitio_Writer_put_e0 (bitio_Writer_put_p0 k) k _ H K) h)
def bitio_Writer_put_ca {R : Type} (f : bitio_Writer_put_t R) (args : List Value) (H : Heap) (K : Value → Heap → Option R) : Option R :=
  match args with
  | [.pointer p235,.int .i64 n236] => f p235 n236 H (fun H => K (undef) H)
  | _ => none
def bitio_Writer_put_c (R : Type) (k : Nat) (args : List Value) (H : Heap) (K : Value → Heap → Option R) : Option R := bitio_Writer_put_ca (bitio_Writer_put k) args H K
theorem bitio_Writer_put_e {R : Type} (bitio_Writer_put_p0 : bitio_Writer_put_p0_t R) (k : Nat) (p235 : Oa) (n236 : Int) (H : Heap) (K : Value → Heap → Option R) : evF (bitio_Writer_put_Ct) (bitio_Writer_put_Jt k bitio_Writer_put_p0) bitio_Writer_put_f [.pointer p235,.int .i64 n236] H K = bitio_Writer_put_b bitio_Writer_put_p0 k p235 n236 H (fun H => K (undef) H) := by kernel_rfl
theorem bitio_Writer_put_cs (R : Type) (k : Nat) : ∀ args H K r,bitio_Writer_put_c R k args H K = some r → ∃ v H',Tri Try.prog 57 args H v H' ∧ K v H' = some r := by
  intro args H K r h
  unfold bitio_Writer_put_c bitio_Writer_put_ca at h
  split at h
  · exact evF_ok (C := bitio_Writer_put_C R k) (an := An) (t := bitio_Writer_put_at) (fn := Try.f57) (c := (Try.f57.body.getD .skip)) (ifn := bitio_Writer_put_f) (bitio_Writer_put_S R k) (bitio_Writer_put_J R k) Try.func57 (by kernel_rfl) (by kernel_rfl) (And.intro True.intro (And.intro True.intro (And.intro True.intro (And.intro (And.intro True.intro (And.intro True.intro True.intro)) (And.intro True.intro (And.intro True.intro (And.intro (bitio_Writer_put_j0 k) True.intro))))))) rfl (Eq.trans (bitio_Writer_put_e (bitio_Writer_put_p0 k) k _ _ H K) h)
  · cases h
/-! ### bitio_Writer_Bits: function 42 -/
abbrev bitio_Writer_Bits_p0_t (R : Type) : Type := Oa → Int → Int → (Oa → Int → Int → Option R) → (Int → Option R) → Option R
def bitio_Writer_Bits_p0_b {R : Type} (k : Nat) (p214 : Oa) (n215 : Int) (n216 : Int) (KN : Oa → Int → Int → Option R) (KR : Int → Option R) : Option R :=
bif decide (n216 < 0) then (KR 1)
 else (bif decide (n216 > 32) then (KR 1)
 else (bif decide (n215 < 0) then (KR 1)
 else (hbin .shl .i64 1 (IntKind.wrap .u64 n216) fun n217 =>
bif decide (n215 ≥ n217) then (KR 1)
 else (KN p214 n215 n216))))
def bitio_Writer_Bits_p0 {R : Type} (k : Nat) (p214 : Oa) (n215 : Int) (n216 : Int) (KN : Oa → Int → Int → Option R) (KR : Int → Option R) : Option R := bitio_Writer_Bits_p0_b k p214 n215 n216 KN KR

abbrev bitio_Writer_Bits_l1_t (R : Type) : Type := (Heap → Option R) → Nat → Oa → Int → Int → Heap → Option R
def bitio_Writer_Bits_l1_b {R : Type} (bitio_Writer_put : bitio_Writer_put_t R) (rec : Oa → Int → Int → Heap → Option R) (KE0 : Heap → Option R) (k : Nat) (p225 : Oa) (n226 : Int) (n227 : Int) (H : Heap) : Option R :=
bif decide (n227 ≥ 0) then (hbin .shr .i64 n226 (IntKind.wrap .u64 n227) fun n228 =>
hbin .and .i64 n228 1 fun n229 =>
bitio_Writer_put p225 n229 H fun H230 =>
rec p225 n226 (IntKind.wrap .i64 (n227 - 1)) H230)
 else (KE0 H)
def bitio_Writer_Bits_l1 {R : Type} (k : Nat) (KE0 : Heap → Option R) : Nat → Oa → Int → Int → Heap → Option R
  | 0,_,_,_,_ => none
  | n + 1,p225,n226,n227,H => bitio_Writer_Bits_l1_b (bitio_Writer_put k) (bitio_Writer_Bits_l1 k KE0 n) KE0 k p225 n226 n227 H

abbrev bitio_Writer_Bits_t (R : Type) : Type := Oa → Int → Int → Heap → (Int → Heap → Option R) → Option R

def bitio_Writer_Bits_b {R : Type} (bitio_Writer_ok : bitio_Writer_ok_t R) (bitio_Writer_Bits_p0 : bitio_Writer_Bits_p0_t R) (bitio_Writer_Bits_l1 : bitio_Writer_Bits_l1_t R) (k : Nat) (p210 : Oa) (n211 : Int) (n212 : Int) (H : Heap) (K : Int → Heap → Option R) : Option R :=
bitio_Writer_ok p210 H fun t213 =>
bif (!t213) then (K 6 H)
 else (bitio_Writer_Bits_p0 p210 n211 n212 (fun p222 n223 n224 =>
bitio_Writer_Bits_l1 (fun H231 =>
K 0 H231) k p222 n223 (IntKind.wrap .i64 (n224 - 1)) H) (fun n232 =>
K n232 H))

def bitio_Writer_Bits {R : Type} (k : Nat) (p210 : Oa) (n211 : Int) (n212 : Int) (H : Heap) (K : Int → Heap → Option R) : Option R := bitio_Writer_Bits_b bitio_Writer_ok (bitio_Writer_Bits_p0 k) (bitio_Writer_Bits_l1 k) k p210 n211 n212 H K

def bitio_Writer_Bits_Ct {R : Type} (bitio_Writer_ok : bitio_Writer_ok_t R) (bitio_Writer_put : bitio_Writer_put_t R) : Tab R := tcons 51 (bitio_Writer_ok_ca bitio_Writer_ok) <| tcons 57 (bitio_Writer_put_ca bitio_Writer_put) <| fun _ _ _ _ => none
def bitio_Writer_Bits_C (R : Type) (k : Nat) : Tab R := bitio_Writer_Bits_Ct bitio_Writer_ok (bitio_Writer_put k)
theorem bitio_Writer_Bits_S (R : Type) (k : Nat) : CSound Try.prog (bitio_Writer_Bits_C R k) := csound_cons (bitio_Writer_ok_cs R k) <| csound_cons (bitio_Writer_put_cs R k) <| csound_nil
def bitio_Writer_Bits_aa0 {R : Type} (f : bitio_Writer_Bits_p0_t R) (n : Nat) (vals : List Value) (H : Heap) (K : Xit → Env → Heap → Option R) : Option R :=
  match vals with
  | [.pointer p214,.int .i64 n215,.int .i64 n216] => f p214 n215 n216 (fun p1367 n1368 n1369 => K .normal [(0,.pointer p1367),(1,.int .i64 n1368),(2,.int .i64 n1369)] H) (fun n1370 => K .ret [(6,.int .i64 n1370)] H)
  | _ => none
def bitio_Writer_Bits_a0 (R : Type) (k n : Nat) (vals : List Value) (H : Heap) (K : Xit → Env → Heap → Option R) : Option R := bitio_Writer_Bits_aa0 (bitio_Writer_Bits_p0 k) n vals H K
def bitio_Writer_Bits_aa1 {R : Type} (f : bitio_Writer_Bits_l1_t R) (n : Nat) (vals : List Value) (H : Heap) (K : Xit → Env → Heap → Option R) : Option R :=
  match vals with
  | [.pointer p225,.int .i64 n226,.int .i64 n227] => f (fun H => K (.exit 0) [] H) n p225 n226 n227 H
  | _ => none
def bitio_Writer_Bits_a1 (R : Type) (k n : Nat) (vals : List Value) (H : Heap) (K : Xit → Env → Heap → Option R) : Option R := bitio_Writer_Bits_aa1 (bitio_Writer_Bits_l1 k) n vals H K
def bitio_Writer_Bits_Jt {R : Type} (k : Nat) (bitio_Writer_Bits_p0 : bitio_Writer_Bits_p0_t R) (bitio_Writer_Bits_l1 : bitio_Writer_Bits_l1_t R) : JTab R := tcons 0 (bitio_Writer_Bits_aa0 bitio_Writer_Bits_p0 k) <| tcons 1 (bitio_Writer_Bits_aa1 bitio_Writer_Bits_l1 k) <| fun _ _ _ _ => none
def bitio_Writer_Bits_J (R : Type) (k : Nat) : JTab R := bitio_Writer_Bits_Jt k (bitio_Writer_Bits_p0 k) (bitio_Writer_Bits_l1 k)
def bitio_Writer_Bits_at : AT := (.seq (.reg [0,1,2] []) (.seq (.seq (.reg [0,1,2,10] []) (.cond (.seq (.reg [6] []) .leaf) .leaf)) (.seq (.opq 0 [0,1,2] ⟨[0,1,2],[],[6]⟩ (.seq (.reg [0,1,2,27] []) (.cond (.seq (.reg [6] []) .leaf) .leaf))) (.seq (.seq (.reg [0,1,7] []) (.node (.opq 1 [0,1,7] ⟨[],[(0,[])],[]⟩ (.node (.seq (.seq (.reg [0,1,7,31] []) (.cond .leaf .leaf)) (.seq (.node (.reg [0,1,7] [])) (.reg [0,1,7] []))))))) (.seq (.reg [6] []) .leaf)))))
def bitio_Writer_Bits_i1 : IC := (.seq (.seq (.reg [⟨some 30,.mov (.t 7),none⟩,
⟨some 31,.cmp .geq (.t 30) (.c (Go.Value.int Go.IntKind.i64 0)),none⟩] [0,1,7,31]) (.cond (.t 31) .skip (.exit 0))) (.seq (.block 1 (.reg [⟨some 34,.mov (.t 0),none⟩,
⟨some 35,.mov (.t 1),none⟩,
⟨some 36,.mov (.t 7),none⟩,
⟨some 37,.cnv .u64 (.t 36),none⟩,
⟨some 38,.bin .shr .i64 (.t 35) (.t 37),none⟩,
⟨some 39,.bin .and .i64 (.t 38) (.c (Go.Value.int Go.IntKind.i64 1)),none⟩,
⟨some 40,.call 57 [(.t 34),(.t 39)] .none,none⟩] [0,1,7])) (.reg [⟨some 32,.mov (.t 7),none⟩,
⟨some 33,.bin .sub .i64 (.t 32) (.c (Go.Value.int Go.IntKind.i64 1)),none⟩,
⟨some 7,.mov (.t 33),none⟩] [0,1,7])))
def bitio_Writer_Bits_i0 : IC := (.seq (.reg [⟨some 11,.mov (.t 2),none⟩,
⟨some 12,.cmp .lss (.t 11) (.c (Go.Value.int Go.IntKind.i64 0)),none⟩,
⟨some 13,.mov (.t 12),none⟩,
⟨some 14,.mov (.t 2),some (13,false)⟩,
⟨some 15,.cmp .gtr (.t 14) (.c (Go.Value.int Go.IntKind.i64 32)),some (13,false)⟩,
⟨some 16,.pick (.t 13) (.c (Go.Value.bool true)) (.t 15),none⟩,
⟨some 17,.mov (.t 16),none⟩,
⟨some 18,.mov (.t 1),some (17,false)⟩,
⟨some 19,.cmp .lss (.t 18) (.c (Go.Value.int Go.IntKind.i64 0)),some (17,false)⟩,
⟨some 20,.pick (.t 17) (.c (Go.Value.bool true)) (.t 19),none⟩,
⟨some 21,.mov (.t 20),none⟩,
⟨some 22,.mov (.t 1),some (21,false)⟩,
⟨some 23,.mov (.t 2),some (21,false)⟩,
⟨some 24,.cnv .u64 (.t 23),some (21,false)⟩,
⟨some 25,.bin .shl .i64 (.c (Go.Value.int Go.IntKind.i64 1)) (.t 24),some (21,false)⟩,
⟨some 26,.cmp .geq (.t 22) (.t 25),some (21,false)⟩,
⟨some 27,.pick (.t 21) (.c (Go.Value.bool true)) (.t 26),none⟩] [0,1,2,27]) (.cond (.t 27) (.seq (.reg [⟨some 6,.mov (.c (Go.Value.int Go.IntKind.i64 1)),none⟩] [6]) .ret) .skip))
def bitio_Writer_Bits_f : IFn := ⟨41,[.t 6],(.seq (.reg [⟨some 6,.mov (.c (Go.Value.int Go.IntKind.i64 0)),none⟩] [0,1,2]) (.seq (.seq (.reg [⟨some 8,.mov (.t 0),none⟩,
⟨some 9,.call 51 [(.t 8)] (.one (.sc .bool)),none⟩,
⟨some 10,.lnot (.t 9),none⟩] [0,1,2,10]) (.cond (.t 10) (.seq (.reg [⟨some 6,.mov (.c (Go.Value.int Go.IntKind.i64 6)),none⟩] [6]) .ret) .skip)) (.seq (.opq 0 [0,1,2] bitio_Writer_Bits_i0) (.seq (.seq (.reg [⟨some 28,.mov (.t 2),none⟩,
⟨some 29,.bin .sub .i64 (.t 28) (.c (Go.Value.int Go.IntKind.i64 1)),none⟩,
⟨some 7,.mov (.t 29),none⟩] [0,1,7]) (.block 0 (.opq 1 [0,1,7] (.loop bitio_Writer_Bits_i1)))) (.seq (.reg [⟨some 6,.mov (.c (Go.Value.int Go.IntKind.i64 0)),none⟩] [6]) .ret)))))⟩
theorem bitio_Writer_Bits_e1 {R : Type} (bitio_Writer_ok : bitio_Writer_ok_t R) (bitio_Writer_put : bitio_Writer_put_t R) (bitio_Writer_Bits_p0 : bitio_Writer_Bits_p0_t R) (bitio_Writer_Bits_l1 : bitio_Writer_Bits_l1_t R) (k n : Nat) (p225 : Oa) (n226 : Int) (n227 : Int) (H : Heap) (K : Xit → Env → Heap → Option R) : evJ (bitio_Writer_Bits_Ct bitio_Writer_ok bitio_Writer_put) (bitio_Writer_Bits_Jt k bitio_Writer_Bits_p0 bitio_Writer_Bits_l1) bitio_Writer_Bits_i1 (List.zip [0,1,7] [.pointer p225,.int .i64 n226,.int .i64 n227]) H (fun x e' H' => match x with | .normal => bitio_Writer_Bits_aa1 bitio_Writer_Bits_l1 n ((clean e' [0,1,7]).map (·.2)) H' K | x => K x (clean e' ((⟨[],[(0,[])],[]⟩ : Out).of x)) H') = bitio_Writer_Bits_l1_b bitio_Writer_put (bitio_Writer_Bits_l1 (fun H => K (.exit 0) [] H) n) (fun H => K (.exit 0) [] H) k p225 n226 n227 H := by kernel_rfl
theorem bitio_Writer_Bits_j1 {R : Type} (k : Nat) : JS Try.prog 41 (bitio_Writer_Bits_a1 R k k) [0,1,7] ⟨[],[(0,[])],[]⟩ (.loop (sel [1,1,1,0,1,0,0] (Try.f42.body.getD .skip))) :=
  loop_ok (nt := 41) (c := (sel [1,1,1,0,1,0,0] (Try.f42.body.getD .skip))) (C := bitio_Writer_Bits_C R k) (an := An) (t := (.seq (.seq (.reg [0,1,7,31] []) (.cond .leaf .leaf)) (.seq (.node (.reg [0,1,7] [])) (.reg [0,1,7] [])))) (ic := bitio_Writer_Bits_i1) (bitio_Writer_Bits_S R k) (bitio_Writer_Bits_J R k) (by kernel_rfl) (And.intro (And.intro True.intro (And.intro True.intro True.intro)) (And.intro True.intro True.intro)) (bitio_Writer_Bits_a1 R k) (fun vals H K => by unfold bitio_Writer_Bits_a1 bitio_Writer_Bits_aa1; split <;> rfl)
    (fun n vals H K r h => by
      unfold bitio_Writer_Bits_a1 bitio_Writer_Bits_aa1 at h
      split at h <;> first | (cases h; done) | exact Eq.trans (bitio_Writer_Bits_e1 bitio_Writer_ok (bitio_Writer_put k) (bitio_Writer_Bits_p0 k) (bitio_Writer_Bits_l1 k) k n _ _ _ H K) h) k
theorem bitio_Writer_Bits_e0 {R : Type} (bitio_Writer_ok : bitio_Writer_ok_t R) (bitio_Writer_put : bitio_Writer_put_t R) (bitio_Writer_Bits_p0 : bitio_Writer_Bits_p0_t R) (bitio_Writer_Bits_l1 : bitio_Writer_Bits_l1_t R) (k : Nat) (p214 : Oa) (n215 : Int) (n216 : Int) (H : Heap) (K : Xit → Env → Heap → Option R) : evJ (bitio_Writer_Bits_Ct bitio_Writer_ok bitio_Writer_put) (bitio_Writer_Bits_Jt k bitio_Writer_Bits_p0 bitio_Writer_Bits_l1) bitio_Writer_Bits_i0 (List.zip [0,1,2] [.pointer p214,.int .i64 n215,.int .i64 n216]) H (fun x e' H' => K x (clean e' ((⟨[0,1,2],[],[6]⟩ : Out).of x)) H') = bitio_Writer_Bits_p0_b k p214 n215 n216 (fun p1367 n1368 n1369 => K .normal [(0,.pointer p1367),(1,.int .i64 n1368),(2,.int .i64 n1369)] H) (fun n1370 => K .ret [(6,.int .i64 n1370)] H) := by kernel_rfl
theorem bitio_Writer_Bits_j0 {R : Type} (k : Nat) : JS Try.prog 41 (bitio_Writer_Bits_a0 R k k) [0,1,2] ⟨[0,1,2],[],[6]⟩ (sel [1,1,0] (Try.f42.body.getD .skip)) :=
  piece_ok (nt := 41) (c := (sel [1,1,0] (Try.f42.body.getD .skip))) (C := bitio_Writer_Bits_C R k) (an := An) (t := (.seq (.reg [0,1,2,27] []) (.cond (.seq (.reg [6] []) .leaf) .leaf))) (ic := bitio_Writer_Bits_i0) (bitio_Writer_Bits_S R k) (bitio_Writer_Bits_J R k) (by kernel_rfl) (And.intro True.intro (And.intro (And.intro True.intro True.intro) True.intro)) (bitio_Writer_Bits_a0 R k k)
    (fun vals H K r h => by
      unfold bitio_Writer_Bits_a0 bitio_Writer_Bits_aa0 at h
      split at h <;> first | (cases h; done) | exact Eq.trans (bitio_Writer_Bits_e0 bitio_Writer_ok (bitio_Writer_put k) (bitio_Writer_Bits_p0 k) (bitio_Writer_Bits_l1 k) k _ _ _ H K) h)
def bitio_Writer_Bits_ca {R : Type} (f : bitio_Writer_Bits_t R) (args : List Value) (H : Heap) (K : Value → Heap → Option R) : Option R :=
  match args with
  | [.pointer p210,.int .i64 n211,.int .i64 n212] => f p210 n211 n212 H (fun n1371 H => K (.int .i64 n1371) H)
  | _ => none
def bitio_Writer_Bits_c (R : Type) (k : Nat) (args : List Value) (H : Heap) (K : Value → Heap → Option R) : Option R := bitio_Writer_Bits_ca (bitio_Writer_Bits k) args H K
theorem bitio_Writer_Bits_e {R : Type} (bitio_Writer_ok : bitio_Writer_ok_t R) (bitio_Writer_put : bitio_Writer_put_t R) (bitio_Writer_Bits_p0 : bitio_Writer_Bits_p0_t R) (bitio_Writer_Bits_l1 : bitio_Writer_Bits_l1_t R) (k : Nat) (p210 : Oa) (n211 : Int) (n212 : Int) (H : Heap) (K : Value → Heap → Option R) : evF (bitio_Writer_Bits_Ct bitio_Writer_ok bitio_Writer_put) (bitio_Writer_Bits_Jt k bitio_Writer_Bits_p0 bitio_Writer_Bits_l1) bitio_Writer_Bits_f [.pointer p210,.int .i64 n211,.int .i64 n212] H K = bitio_Writer_Bits_b bitio_Writer_ok bitio_Writer_Bits_p0 bitio_Writer_Bits_l1 k p210 n211 n212 H (fun n1371 H => K (.int .i64 n1371) H) := by kernel_rfl
theorem bitio_Writer_Bits_cs (R : Type) (k : Nat) : ∀ args H K r,bitio_Writer_Bits_c R k args H K = some r → ∃ v H',Tri Try.prog 42 args H v H' ∧ K v H' = some r := by
  intro args H K r h
  unfold bitio_Writer_Bits_c bitio_Writer_Bits_ca at h
  split at h
  · exact evF_ok (C := bitio_Writer_Bits_C R k) (an := An) (t := bitio_Writer_Bits_at) (fn := Try.f42) (c := (Try.f42.body.getD .skip)) (ifn := bitio_Writer_Bits_f) (bitio_Writer_Bits_S R k) (bitio_Writer_Bits_J R k) Try.func42 (by kernel_rfl) (by kernel_rfl) (And.intro True.intro (And.intro (And.intro True.intro (And.intro (And.intro True.intro True.intro) True.intro)) (And.intro (bitio_Writer_Bits_j0 k) (And.intro (And.intro True.intro (bitio_Writer_Bits_j1 k)) (And.intro True.intro True.intro))))) rfl (Eq.trans (bitio_Writer_Bits_e bitio_Writer_ok (bitio_Writer_put k) (bitio_Writer_Bits_p0 k) (bitio_Writer_Bits_l1 k) k _ _ _ H K) h)
  · cases h
/-! ### tagtree_Tree_minima: function 43 -/
abbrev tagtree_Tree_minima_l1_t (R : Type) : Type := (Oa → Int → Oa → Oa → Heap → Option R) → Nat → Oa → Int → Oa → Oa → Int → Int → Heap → Option R
def tagtree_Tree_minima_l1_b {R : Type} (rec : Oa → Int → Oa → Oa → Int → Int → Heap → Option R) (KE2 : Oa → Int → Oa → Oa → Heap → Option R) (k : Nat) (p279 : Oa) (n280 : Int) (p281 : Oa) (p282 : Oa) (n283 : Int) (n284 : Int) (H : Heap) : Option R :=
bif decide (n284 < n283) then (hnil p282 fun p285 =>
hfad 2 p285 fun p286 =>
ldL H p286 fun q287 l288 c289 =>
hidx q287 l288 n284 3 fun p290 =>
hfad 0 p290 fun p291 =>
hst1 H p291 (.int .i64 65535) fun H292 =>
rec p279 n280 p281 p282 n283 (IntKind.wrap .i64 (n284 + 1)) H292)
 else (KE2 p279 n280 p281 p282 H)
def tagtree_Tree_minima_l1 {R : Type} (k : Nat) (KE2 : Oa → Int → Oa → Oa → Heap → Option R) : Nat → Oa → Int → Oa → Oa → Int → Int → Heap → Option R
  | 0,_,_,_,_,_,_,_ => none
  | n + 1,p279,n280,p281,p282,n283,n284,H => tagtree_Tree_minima_l1_b (tagtree_Tree_minima_l1 k KE2 n) KE2 k p279 n280 p281 p282 n283 n284 H

abbrev tagtree_Tree_minima_l2_t (R : Type) : Type := (Oa → Int → Heap → Option R) → Nat → Oa → Int → Oa → Oa → Oa → Nat → Nat → Int → Int → Heap → Option R
def tagtree_Tree_minima_l2_b {R : Type} (rec : Oa → Int → Oa → Oa → Oa → Nat → Nat → Int → Int → Heap → Option R) (KE4 : Oa → Int → Heap → Option R) (k : Nat) (p307 : Oa) (n308 : Int) (p309 : Oa) (p310 : Oa) (q311 : Oa) (l312 : Nat) (c313 : Nat) (n314 : Int) (n315 : Int) (H : Heap) : Option R :=
bif decide (n315 < n314) then (hidx q311 l312 n315 3 fun p316 =>
ldI .i64 H (pad p316 0) fun n317 =>
ldI .i64 H (pad p316 1) fun n318 =>
ldB H (pad p316 2) fun t319 =>
hal H [.int .i64 0,.int .i64 0,.bool false] fun p320 H321 =>
hst H321 p320 [.int .i64 n317,.int .i64 n318,.bool t319] fun H322 =>
hnil p310 fun p323 =>
hfad 2 p323 fun p324 =>
ldL H322 p324 fun q325 l326 c327 =>
hnil p309 fun p328 =>
hfad 0 p328 fun p329 =>
ldI .i64 H322 p329 fun n330 =>
hbin .quo .i64 n315 n330 fun n331 =>
hnil p310 fun p332 =>
hfad 0 p332 fun p333 =>
ldI .i64 H322 p333 fun n334 =>
hnil p309 fun p335 =>
hfad 0 p335 fun p336 =>
ldI .i64 H322 p336 fun n337 =>
hbin .rem .i64 n315 n337 fun n338 =>
hidx q325 l326 (IntKind.wrap .i64 ((IntKind.wrap .i64 ((IntKind.wrap .i64 (Int.tdiv n331 2)) * n334)) + (IntKind.wrap .i64 (Int.tdiv n338 2)))) 3 fun p339 =>
hnil p339 fun p340 =>
hfad 0 p340 fun p341 =>
ldI .i64 H322 p341 fun n342 =>
hfad 0 p320 fun p343 =>
ldI .i64 H322 p343 fun n344 =>
hnil p339 fun p345 =>
hfad 0 p345 fun p346 =>
hst1 H322 p346 (.int .i64 (imn n342 n344)) fun H347 =>
rec p307 n308 p309 p310 q311 l312 c313 n314 (IntKind.wrap .i64 (n315 + 1)) H347)
 else (KE4 p307 n308 H)
def tagtree_Tree_minima_l2 {R : Type} (k : Nat) (KE4 : Oa → Int → Heap → Option R) : Nat → Oa → Int → Oa → Oa → Oa → Nat → Nat → Int → Int → Heap → Option R
  | 0,_,_,_,_,_,_,_,_,_,_ => none
  | n + 1,p307,n308,p309,p310,q311,l312,c313,n314,n315,H => tagtree_Tree_minima_l2_b (tagtree_Tree_minima_l2 k KE4 n) KE4 k p307 n308 p309 p310 q311 l312 c313 n314 n315 H

abbrev tagtree_Tree_minima_l0_t (R : Type) : Type := (Heap → Option R) → Nat → Oa → Int → Heap → Option R
def tagtree_Tree_minima_l0_b {R : Type} (tagtree_Tree_minima_l1 : tagtree_Tree_minima_l1_t R) (tagtree_Tree_minima_l2 : tagtree_Tree_minima_l2_t R) (rec : Oa → Int → Heap → Option R) (KE0 : Heap → Option R) (k : Nat) (p255 : Oa) (n256 : Int) (H : Heap) : Option R :=
hnil p255 fun p257 =>
hfad 0 p257 fun p258 =>
ldL H p258 fun q259 l260 c261 =>
bif decide (n256 < ((l260 : Nat) : Int)) then (hnil p255 fun p262 =>
hfad 0 p262 fun p263 =>
ldL H p263 fun q264 l265 c266 =>
hidx q264 l265 (IntKind.wrap .i64 (n256 - 1)) 3 fun p267 =>
hnil p255 fun p268 =>
hfad 0 p268 fun p269 =>
ldL H p269 fun q270 l271 c272 =>
hidx q270 l271 n256 3 fun p273 =>
hnil p273 fun p274 =>
hfad 2 p274 fun p275 =>
ldL H p275 fun q276 l277 c278 =>
tagtree_Tree_minima_l1 (fun p297 n298 p299 p300 H301 =>
hnil p299 fun p302 =>
hfad 2 p302 fun p303 =>
ldL H301 p303 fun q304 l305 c306 =>
tagtree_Tree_minima_l2 (fun p350 n351 H352 =>
rec p350 (IntKind.wrap .i64 (n351 + 1)) H352) k p297 n298 p299 p300 q304 l305 c306 ((l305 : Nat) : Int) 0 H301) k p255 n256 p267 p273 ((l277 : Nat) : Int) 0 H)
 else (KE0 H)
def tagtree_Tree_minima_l0 {R : Type} (k : Nat) (KE0 : Heap → Option R) : Nat → Oa → Int → Heap → Option R
  | 0,_,_,_ => none
  | n + 1,p255,n256,H => tagtree_Tree_minima_l0_b (tagtree_Tree_minima_l1 k) (tagtree_Tree_minima_l2 k) (tagtree_Tree_minima_l0 k KE0 n) KE0 k p255 n256 H

abbrev tagtree_Tree_minima_t (R : Type) : Type := Oa → Heap → (Heap → Option R) → Option R

def tagtree_Tree_minima_b {R : Type} (tagtree_Tree_minima_l0 : tagtree_Tree_minima_l0_t R) (k : Nat) (p254 : Oa) (H : Heap) (K : Heap → Option R) : Option R :=
tagtree_Tree_minima_l0 (fun H353 =>
K H353) k p254 1 H

def tagtree_Tree_minima {R : Type} (k : Nat) (p254 : Oa) (H : Heap) (K : Heap → Option R) : Option R := tagtree_Tree_minima_b (tagtree_Tree_minima_l0 k) k p254 H K

def tagtree_Tree_minima_Ct {R : Type} : Tab R := fun _ _ _ _ => none
def tagtree_Tree_minima_C (R : Type) (k : Nat) : Tab R := tagtree_Tree_minima_Ct
theorem tagtree_Tree_minima_S (R : Type) (k : Nat) : CSound Try.prog (tagtree_Tree_minima_C R k) := csound_nil
def tagtree_Tree_minima_aa0 {R : Type} (f : tagtree_Tree_minima_l0_t R) (n : Nat) (vals : List Value) (H : Heap) (K : Xit → Env → Heap → Option R) : Option R :=
  match vals with
  | [.pointer p255,.int .i64 n256] => f (fun H => K (.exit 0) [] H) n p255 n256 H
  | _ => none
def tagtree_Tree_minima_a0 (R : Type) (k n : Nat) (vals : List Value) (H : Heap) (K : Xit → Env → Heap → Option R) : Option R := tagtree_Tree_minima_aa0 (tagtree_Tree_minima_l0 k) n vals H K
def tagtree_Tree_minima_aa1 {R : Type} (f : tagtree_Tree_minima_l1_t R) (n : Nat) (vals : List Value) (H : Heap) (K : Xit → Env → Heap → Option R) : Option R :=
  match vals with
  | [.pointer p279,.int .i64 n280,.pointer p281,.pointer p282,.int .i64 n283,.int .i64 n284] => f (fun p1372 n1373 p1374 p1375 H => K (.exit 2) [(0,.pointer p1372),(2,.int .i64 n1373),(3,.pointer p1374),(4,.pointer p1375)] H) n p279 n280 p281 p282 n283 n284 H
  | _ => none
def tagtree_Tree_minima_a1 (R : Type) (k n : Nat) (vals : List Value) (H : Heap) (K : Xit → Env → Heap → Option R) : Option R := tagtree_Tree_minima_aa1 (tagtree_Tree_minima_l1 k) n vals H K
def tagtree_Tree_minima_aa2 {R : Type} (f : tagtree_Tree_minima_l2_t R) (n : Nat) (vals : List Value) (H : Heap) (K : Xit → Env → Heap → Option R) : Option R :=
  match vals with
  | [.pointer p307,.int .i64 n308,.pointer p309,.pointer p310,.slice q311 l312 c313,.int .i64 n314,.int .i64 n315] => f (fun p1376 n1377 H => K (.exit 4) [(0,.pointer p1376),(2,.int .i64 n1377)] H) n p307 n308 p309 p310 q311 l312 c313 n314 n315 H
  | _ => none
def tagtree_Tree_minima_a2 (R : Type) (k n : Nat) (vals : List Value) (H : Heap) (K : Xit → Env → Heap → Option R) : Option R := tagtree_Tree_minima_aa2 (tagtree_Tree_minima_l2 k) n vals H K
def tagtree_Tree_minima_Jt {R : Type} (k : Nat) (tagtree_Tree_minima_l0 : tagtree_Tree_minima_l0_t R) (tagtree_Tree_minima_l1 : tagtree_Tree_minima_l1_t R) (tagtree_Tree_minima_l2 : tagtree_Tree_minima_l2_t R) : JTab R := tcons 0 (tagtree_Tree_minima_aa0 tagtree_Tree_minima_l0 k) <| tcons 1 (tagtree_Tree_minima_aa1 tagtree_Tree_minima_l1 k) <| tcons 2 (tagtree_Tree_minima_aa2 tagtree_Tree_minima_l2 k) <| fun _ _ _ _ => none
def tagtree_Tree_minima_J (R : Type) (k : Nat) : JTab R := tagtree_Tree_minima_Jt k (tagtree_Tree_minima_l0 k) (tagtree_Tree_minima_l1 k) (tagtree_Tree_minima_l2 k)
def tagtree_Tree_minima_at : AT := (.seq (.reg [0,2] []) (.node (.opq 0 [0,2] ⟨[],[(0,[])],[]⟩ (.node (.seq (.seq (.reg [0,2,15] []) (.cond .leaf .leaf)) (.seq (.node (.seq (.reg [0,2,3,4] [[],[0],[0,1],[0,1,2],[],[4],[0,1,2,3,4,5],[],[7],[7,8],[7,8,9],[],[7,8,9,10,11],[0,1,2,3,4,5,6],[0,1,2,3,4,5,6,7,8,9,10,11,12,13]]) (.seq (.seq (.reg [0,2,3,4,35,36] []) (.node (.opq 1 [0,2,3,4,35,36] ⟨[],[(2,[0,2,3,4])],[]⟩ (.node (.seq (.reg [0,2,3,4,35,36,37] []) (.seq (.cond .leaf .leaf) (.seq (.node (.seq (.reg [0,2,3,4,5,35,36] []) (.reg [0,2,3,4,35,36] []))) (.reg [0,2,3,4,35,36] [])))))))) (.seq (.reg [0,2,3,4,50,51,52] []) (.node (.opq 2 [0,2,3,4,50,51,52] ⟨[],[(4,[0,2])],[]⟩ (.node (.seq (.reg [0,2,3,4,50,51,52,53] []) (.seq (.cond .leaf .leaf) (.seq (.node (.seq (.reg [0,2,3,4,6,7,50,51,52] []) (.seq (.reg [0,2,3,4,7,8,50,51,52] [[],[0],[0,1],[0,1,2],[],[],[5],[5,6],[5,6,7],[4,5,6,7,8],[4,5,6,7,8,9],[],[11],[11,12],[11,12,13],[4,5,6,7,8,9,10,11,12,13,14],[],[],[17],[17,18],[17,18,19],[16,17,18,19,20],[16,17,18,19,20,21],[4,5,6,7,8,9,10,11,12,13,14,15,16,17,18,19,20,21,22],[0,1,2,3,4,5,6,7,8,9,10,11,12,13,14,15,16,17,18,19,20,21,22,23],[0,1,2,3,4,5,6,7,8,9,10,11,12,13,14,15,16,17,18,19,20,21,22,23,24]]) (.reg [0,2,3,4,50,51,52] [[],[],[1],[1,2],[1,2,3],[],[5],[1,2,3,4,5,6],[0,1,2,3,4,5,6,7],[0,1,2,3,4,5,6,7,8],[0,1,2,3,4,5,6,7,8,9]])))) (.reg [0,2,3,4,50,51,52] []))))))))))) (.reg [0,2] [])))))))
def tagtree_Tree_minima_i2 : IC := (.seq (.reg [⟨some 53,.cmp .lss (.t 52) (.t 51),none⟩] [0,2,3,4,50,51,52,53]) (.seq (.cond (.t 53) .skip (.exit 4)) (.seq (.block 5 (.seq (.reg [⟨some 54,.mov (.t 52),none⟩,
⟨some 55,.ids 3 (.t 50) (.t 52),none⟩,
⟨some 56,.ld (.agg [(.int .i64),(.int .i64),.bool]) (.t 55),none⟩,
⟨some 7,.alc [.int .i64 0,.int .i64 0,.bool false],none⟩,
⟨some 6,.mov (.t 54),none⟩,
⟨none,.st 3 (.t 7) (.t 56),none⟩] [0,2,3,4,6,7,50,51,52]) (.seq (.reg [⟨some 57,.mov (.t 4),none⟩,
⟨some 58,.nilc (.t 57),none⟩,
⟨some 59,.fad 2 (.t 58),none⟩,
⟨some 60,.ld (.sc .slc) (.t 59),none⟩,
⟨some 61,.mov (.t 6),none⟩,
⟨some 62,.mov (.t 3),none⟩,
⟨some 63,.nilc (.t 62),none⟩,
⟨some 64,.fad 0 (.t 63),none⟩,
⟨some 65,.ld (.sc (.int .i64)) (.t 64),none⟩,
⟨some 66,.bin .quo .i64 (.t 61) (.t 65),none⟩,
⟨some 67,.bin .quo .i64 (.t 66) (.c (Go.Value.int Go.IntKind.i64 2)),none⟩,
⟨some 68,.mov (.t 4),none⟩,
⟨some 69,.nilc (.t 68),none⟩,
⟨some 70,.fad 0 (.t 69),none⟩,
⟨some 71,.ld (.sc (.int .i64)) (.t 70),none⟩,
⟨some 72,.bin .mul .i64 (.t 67) (.t 71),none⟩,
⟨some 73,.mov (.t 6),none⟩,
⟨some 74,.mov (.t 3),none⟩,
⟨some 75,.nilc (.t 74),none⟩,
⟨some 76,.fad 0 (.t 75),none⟩,
⟨some 77,.ld (.sc (.int .i64)) (.t 76),none⟩,
⟨some 78,.bin .rem .i64 (.t 73) (.t 77),none⟩,
⟨some 79,.bin .quo .i64 (.t 78) (.c (Go.Value.int Go.IntKind.i64 2)),none⟩,
⟨some 80,.bin .add .i64 (.t 72) (.t 79),none⟩,
⟨some 81,.ids 3 (.t 60) (.t 80),none⟩,
⟨some 8,.mov (.t 81),none⟩] [0,2,3,4,7,8,50,51,52]) (.reg [⟨some 82,.mov (.t 8),none⟩,
⟨some 83,.mov (.t 8),none⟩,
⟨some 84,.nilc (.t 83),none⟩,
⟨some 85,.fad 0 (.t 84),none⟩,
⟨some 86,.ld (.sc (.int .i64)) (.t 85),none⟩,
⟨some 87,.fad 0 (.t 7),none⟩,
⟨some 88,.ld (.sc (.int .i64)) (.t 87),none⟩,
⟨some 89,.mn (.t 86) (.t 88),none⟩,
⟨some 90,.nilc (.t 82),none⟩,
⟨some 91,.fad 0 (.t 90),none⟩,
⟨none,.st 1 (.t 91) (.t 89),none⟩] [0,2,3,4,50,51,52])))) (.reg [⟨some 92,.bin .add .i64 (.t 52) (.c (Go.Value.int Go.IntKind.i64 1)),none⟩,
⟨some 52,.mov (.t 92),none⟩] [0,2,3,4,50,51,52]))))
def tagtree_Tree_minima_i1 : IC := (.seq (.reg [⟨some 37,.cmp .lss (.t 36) (.t 35),none⟩] [0,2,3,4,35,36,37]) (.seq (.cond (.t 37) .skip (.exit 2)) (.seq (.block 3 (.seq (.reg [⟨some 38,.mov (.t 36),none⟩,
⟨some 5,.mov (.t 38),none⟩] [0,2,3,4,5,35,36]) (.reg [⟨some 39,.mov (.t 4),none⟩,
⟨some 40,.nilc (.t 39),none⟩,
⟨some 41,.fad 2 (.t 40),none⟩,
⟨some 42,.ld (.sc .slc) (.t 41),none⟩,
⟨some 43,.mov (.t 5),none⟩,
⟨some 44,.ids 3 (.t 42) (.t 43),none⟩,
⟨some 45,.fad 0 (.t 44),none⟩,
⟨none,.st 1 (.t 45) (.c (Go.Value.int Go.IntKind.i64 65535)),none⟩] [0,2,3,4,35,36]))) (.reg [⟨some 46,.bin .add .i64 (.t 36) (.c (Go.Value.int Go.IntKind.i64 1)),none⟩,
⟨some 36,.mov (.t 46),none⟩] [0,2,3,4,35,36]))))
def tagtree_Tree_minima_i0 : IC := (.seq (.seq (.reg [⟨some 9,.mov (.t 2),none⟩,
⟨some 10,.mov (.t 0),none⟩,
⟨some 11,.nilc (.t 10),none⟩,
⟨some 12,.fad 0 (.t 11),none⟩,
⟨some 13,.ld (.sc .slc) (.t 12),none⟩,
⟨some 14,.len false (.t 13),none⟩,
⟨some 15,.cmp .lss (.t 9) (.t 14),none⟩] [0,2,15]) (.cond (.t 15) .skip (.exit 0))) (.seq (.block 1 (.seq (.reg [⟨some 18,.mov (.t 0),none⟩,
⟨some 19,.nilc (.t 18),none⟩,
⟨some 20,.fad 0 (.t 19),none⟩,
⟨some 21,.ld (.sc .slc) (.t 20),none⟩,
⟨some 22,.mov (.t 2),none⟩,
⟨some 23,.bin .sub .i64 (.t 22) (.c (Go.Value.int Go.IntKind.i64 1)),none⟩,
⟨some 24,.ids 3 (.t 21) (.t 23),none⟩,
⟨some 25,.mov (.t 0),none⟩,
⟨some 26,.nilc (.t 25),none⟩,
⟨some 27,.fad 0 (.t 26),none⟩,
⟨some 28,.ld (.sc .slc) (.t 27),none⟩,
⟨some 29,.mov (.t 2),none⟩,
⟨some 30,.ids 3 (.t 28) (.t 29),none⟩,
⟨some 3,.mov (.t 24),none⟩,
⟨some 4,.mov (.t 30),none⟩] [0,2,3,4]) (.seq (.seq (.reg [⟨some 31,.mov (.t 4),none⟩,
⟨some 32,.nilc (.t 31),none⟩,
⟨some 33,.fad 2 (.t 32),none⟩,
⟨some 34,.ld (.sc .slc) (.t 33),none⟩,
⟨some 35,.len false (.t 34),none⟩,
⟨some 36,.mov (.c (Go.Value.int Go.IntKind.i64 0)),none⟩] [0,2,3,4,35,36]) (.block 2 (.opq 1 [0,2,3,4,35,36] (.loop tagtree_Tree_minima_i1)))) (.seq (.reg [⟨some 47,.mov (.t 3),none⟩,
⟨some 48,.nilc (.t 47),none⟩,
⟨some 49,.fad 2 (.t 48),none⟩,
⟨some 50,.ld (.sc .slc) (.t 49),none⟩,
⟨some 51,.len false (.t 50),none⟩,
⟨some 52,.mov (.c (Go.Value.int Go.IntKind.i64 0)),none⟩] [0,2,3,4,50,51,52]) (.block 4 (.opq 2 [0,2,3,4,50,51,52] (.loop tagtree_Tree_minima_i2))))))) (.reg [⟨some 16,.mov (.t 2),none⟩,
⟨some 17,.bin .add .i64 (.t 16) (.c (Go.Value.int Go.IntKind.i64 1)),none⟩,
⟨some 2,.mov (.t 17),none⟩] [0,2])))
def tagtree_Tree_minima_f : IFn := ⟨93,[],(.seq (.reg [⟨some 2,.mov (.c (Go.Value.int Go.IntKind.i64 1)),none⟩] [0,2]) (.block 0 (.opq 0 [0,2] (.loop tagtree_Tree_minima_i0))))⟩
theorem tagtree_Tree_minima_e2 {R : Type} (tagtree_Tree_minima_l0 : tagtree_Tree_minima_l0_t R) (tagtree_Tree_minima_l1 : tagtree_Tree_minima_l1_t R) (tagtree_Tree_minima_l2 : tagtree_Tree_minima_l2_t R) (k n : Nat) (p307 : Oa) (n308 : Int) (p309 : Oa) (p310 : Oa) (q311 : Oa) (l312 : Nat) (c313 : Nat) (n314 : Int) (n315 : Int) (H : Heap) (K : Xit → Env → Heap → Option R) : evJ (tagtree_Tree_minima_Ct) (tagtree_Tree_minima_Jt k tagtree_Tree_minima_l0 tagtree_Tree_minima_l1 tagtree_Tree_minima_l2) tagtree_Tree_minima_i2 (List.zip [0,2,3,4,50,51,52] [.pointer p307,.int .i64 n308,.pointer p309,.pointer p310,.slice q311 l312 c313,.int .i64 n314,.int .i64 n315]) H (fun x e' H' => match x with | .normal => tagtree_Tree_minima_aa2 tagtree_Tree_minima_l2 n ((clean e' [0,2,3,4,50,51,52]).map (·.2)) H' K | x => K x (clean e' ((⟨[],[(4,[0,2])],[]⟩ : Out).of x)) H') = tagtree_Tree_minima_l2_b (tagtree_Tree_minima_l2 (fun p1376 n1377 H => K (.exit 4) [(0,.pointer p1376),(2,.int .i64 n1377)] H) n) (fun p1376 n1377 H => K (.exit 4) [(0,.pointer p1376),(2,.int .i64 n1377)] H) k p307 n308 p309 p310 q311 l312 c313 n314 n315 H := by kernel_rfl
theorem tagtree_Tree_minima_j2 {R : Type} (k : Nat) : JS Try.prog 93 (tagtree_Tree_minima_a2 R k k) [0,2,3,4,50,51,52] ⟨[],[(4,[0,2])],[]⟩ (.loop (sel [1,0,0,1,0,0,1,1,1,0,0] (Try.f43.body.getD .skip))) :=
  loop_ok (nt := 93) (c := (sel [1,0,0,1,0,0,1,1,1,0,0] (Try.f43.body.getD .skip))) (C := tagtree_Tree_minima_C R k) (an := An) (t := (.seq (.reg [0,2,3,4,50,51,52,53] []) (.seq (.cond .leaf .leaf) (.seq (.node (.seq (.reg [0,2,3,4,6,7,50,51,52] []) (.seq (.reg [0,2,3,4,7,8,50,51,52] [[],[0],[0,1],[0,1,2],[],[],[5],[5,6],[5,6,7],[4,5,6,7,8],[4,5,6,7,8,9],[],[11],[11,12],[11,12,13],[4,5,6,7,8,9,10,11,12,13,14],[],[],[17],[17,18],[17,18,19],[16,17,18,19,20],[16,17,18,19,20,21],[4,5,6,7,8,9,10,11,12,13,14,15,16,17,18,19,20,21,22],[0,1,2,3,4,5,6,7,8,9,10,11,12,13,14,15,16,17,18,19,20,21,22,23],[0,1,2,3,4,5,6,7,8,9,10,11,12,13,14,15,16,17,18,19,20,21,22,23,24]]) (.reg [0,2,3,4,50,51,52] [[],[],[1],[1,2],[1,2,3],[],[5],[1,2,3,4,5,6],[0,1,2,3,4,5,6,7],[0,1,2,3,4,5,6,7,8],[0,1,2,3,4,5,6,7,8,9]])))) (.reg [0,2,3,4,50,51,52] []))))) (ic := tagtree_Tree_minima_i2) (tagtree_Tree_minima_S R k) (tagtree_Tree_minima_J R k) (by kernel_rfl) (And.intro True.intro (And.intro (And.intro True.intro True.intro) (And.intro (And.intro True.intro (And.intro True.intro True.intro)) True.intro))) (tagtree_Tree_minima_a2 R k) (fun vals H K => by unfold tagtree_Tree_minima_a2 tagtree_Tree_minima_aa2; split <;> rfl)
    (fun n vals H K r h => by
      unfold tagtree_Tree_minima_a2 tagtree_Tree_minima_aa2 at h
      split at h <;> first | (cases h; done) | exact Eq.trans (tagtree_Tree_minima_e2 (tagtree_Tree_minima_l0 k) (tagtree_Tree_minima_l1 k) (tagtree_Tree_minima_l2 k) k n _ _ _ _ _ _ _ _ _ H K) h) k
theorem tagtree_Tree_minima_e1 {R : Type} (tagtree_Tree_minima_l0 : tagtree_Tree_minima_l0_t R) (tagtree_Tree_minima_l1 : tagtree_Tree_minima_l1_t R) (tagtree_Tree_minima_l2 : tagtree_Tree_minima_l2_t R) (k n : Nat) (p279 : Oa) (n280 : Int) (p281 : Oa) (p282 : Oa) (n283 : Int) (n284 : Int) (H : Heap) (K : Xit → Env → Heap → Option R) : evJ (tagtree_Tree_minima_Ct) (tagtree_Tree_minima_Jt k tagtree_Tree_minima_l0 tagtree_Tree_minima_l1 tagtree_Tree_minima_l2) tagtree_Tree_minima_i1 (List.zip [0,2,3,4,35,36] [.pointer p279,.int .i64 n280,.pointer p281,.pointer p282,.int .i64 n283,.int .i64 n284]) H (fun x e' H' => match x with | .normal => tagtree_Tree_minima_aa1 tagtree_Tree_minima_l1 n ((clean e' [0,2,3,4,35,36]).map (·.2)) H' K | x => K x (clean e' ((⟨[],[(2,[0,2,3,4])],[]⟩ : Out).of x)) H') = tagtree_Tree_minima_l1_b (tagtree_Tree_minima_l1 (fun p1372 n1373 p1374 p1375 H => K (.exit 2) [(0,.pointer p1372),(2,.int .i64 n1373),(3,.pointer p1374),(4,.pointer p1375)] H) n) (fun p1372 n1373 p1374 p1375 H => K (.exit 2) [(0,.pointer p1372),(2,.int .i64 n1373),(3,.pointer p1374),(4,.pointer p1375)] H) k p279 n280 p281 p282 n283 n284 H := by kernel_rfl
theorem tagtree_Tree_minima_j1 {R : Type} (k : Nat) : JS Try.prog 93 (tagtree_Tree_minima_a1 R k k) [0,2,3,4,35,36] ⟨[],[(2,[0,2,3,4])],[]⟩ (.loop (sel [1,0,0,1,0,0,1,0,1,0,0] (Try.f43.body.getD .skip))) :=
  loop_ok (nt := 93) (c := (sel [1,0,0,1,0,0,1,0,1,0,0] (Try.f43.body.getD .skip))) (C := tagtree_Tree_minima_C R k) (an := An) (t := (.seq (.reg [0,2,3,4,35,36,37] []) (.seq (.cond .leaf .leaf) (.seq (.node (.seq (.reg [0,2,3,4,5,35,36] []) (.reg [0,2,3,4,35,36] []))) (.reg [0,2,3,4,35,36] []))))) (ic := tagtree_Tree_minima_i1) (tagtree_Tree_minima_S R k) (tagtree_Tree_minima_J R k) (by kernel_rfl) (And.intro True.intro (And.intro (And.intro True.intro True.intro) (And.intro (And.intro True.intro True.intro) True.intro))) (tagtree_Tree_minima_a1 R k) (fun vals H K => by unfold tagtree_Tree_minima_a1 tagtree_Tree_minima_aa1; split <;> rfl)
    (fun n vals H K r h => by
      unfold tagtree_Tree_minima_a1 tagtree_Tree_minima_aa1 at h
      split at h <;> first | (cases h; done) | exact Eq.trans (tagtree_Tree_minima_e1 (tagtree_Tree_minima_l0 k) (tagtree_Tree_minima_l1 k) (tagtree_Tree_minima_l2 k) k n _ _ _ _ _ _ H K) h) k
theorem tagtree_Tree_minima_e0 {R : Type} (tagtree_Tree_minima_l0 : tagtree_Tree_minima_l0_t R) (tagtree_Tree_minima_l1 : tagtree_Tree_minima_l1_t R) (tagtree_Tree_minima_l2 : tagtree_Tree_minima_l2_t R) (k n : Nat) (p255 : Oa) (n256 : Int) (H : Heap) (K : Xit → Env → Heap → Option R) : evJ (tagtree_Tree_minima_Ct) (tagtree_Tree_minima_Jt k tagtree_Tree_minima_l0 tagtree_Tree_minima_l1 tagtree_Tree_minima_l2) tagtree_Tree_minima_i0 (List.zip [0,2] [.pointer p255,.int .i64 n256]) H (fun x e' H' => match x with | .normal => tagtree_Tree_minima_aa0 tagtree_Tree_minima_l0 n ((clean e' [0,2]).map (·.2)) H' K | x => K x (clean e' ((⟨[],[(0,[])],[]⟩ : Out).of x)) H') = tagtree_Tree_minima_l0_b tagtree_Tree_minima_l1 tagtree_Tree_minima_l2 (tagtree_Tree_minima_l0 (fun H => K (.exit 0) [] H) n) (fun H => K (.exit 0) [] H) k p255 n256 H := by kernel_rfl
theorem tagtree_Tree_minima_j0 {R : Type} (k : Nat) : JS Try.prog 93 (tagtree_Tree_minima_a0 R k k) [0,2] ⟨[],[(0,[])],[]⟩ (.loop (sel [1,0,0] (Try.f43.body.getD .skip))) :=
  loop_ok (nt := 93) (c := (sel [1,0,0] (Try.f43.body.getD .skip))) (C := tagtree_Tree_minima_C R k) (an := An) (t := (.seq (.seq (.reg [0,2,15] []) (.cond .leaf .leaf)) (.seq (.node (.seq (.reg [0,2,3,4] [[],[0],[0,1],[0,1,2],[],[4],[0,1,2,3,4,5],[],[7],[7,8],[7,8,9],[],[7,8,9,10,11],[0,1,2,3,4,5,6],[0,1,2,3,4,5,6,7,8,9,10,11,12,13]]) (.seq (.seq (.reg [0,2,3,4,35,36] []) (.node (.opq 1 [0,2,3,4,35,36] ⟨[],[(2,[0,2,3,4])],[]⟩ (.node (.seq (.reg [0,2,3,4,35,36,37] []) (.seq (.cond .leaf .leaf) (.seq (.node (.seq (.reg [0,2,3,4,5,35,36] []) (.reg [0,2,3,4,35,36] []))) (.reg [0,2,3,4,35,36] [])))))))) (.seq (.reg [0,2,3,4,50,51,52] []) (.node (.opq 2 [0,2,3,4,50,51,52] ⟨[],[(4,[0,2])],[]⟩ (.node (.seq (.reg [0,2,3,4,50,51,52,53] []) (.seq (.cond .leaf .leaf) (.seq (.node (.seq (.reg [0,2,3,4,6,7,50,51,52] []) (.seq (.reg [0,2,3,4,7,8,50,51,52] [[],[0],[0,1],[0,1,2],[],[],[5],[5,6],[5,6,7],[4,5,6,7,8],[4,5,6,7,8,9],[],[11],[11,12],[11,12,13],[4,5,6,7,8,9,10,11,12,13,14],[],[],[17],[17,18],[17,18,19],[16,17,18,19,20],[16,17,18,19,20,21],[4,5,6,7,8,9,10,11,12,13,14,15,16,17,18,19,20,21,22],[0,1,2,3,4,5,6,7,8,9,10,11,12,13,14,15,16,17,18,19,20,21,22,23],[0,1,2,3,4,5,6,7,8,9,10,11,12,13,14,15,16,17,18,19,20,21,22,23,24]]) (.reg [0,2,3,4,50,51,52] [[],[],[1],[1,2],[1,2,3],[],[5],[1,2,3,4,5,6],[0,1,2,3,4,5,6,7],[0,1,2,3,4,5,6,7,8],[0,1,2,3,4,5,6,7,8,9]])))) (.reg [0,2,3,4,50,51,52] []))))))))))) (.reg [0,2] [])))) (ic := tagtree_Tree_minima_i0) (tagtree_Tree_minima_S R k) (tagtree_Tree_minima_J R k) (by kernel_rfl) (And.intro (And.intro True.intro (And.intro True.intro True.intro)) (And.intro (And.intro True.intro (And.intro (And.intro True.intro (tagtree_Tree_minima_j1 k)) (And.intro True.intro (tagtree_Tree_minima_j2 k)))) True.intro)) (tagtree_Tree_minima_a0 R k) (fun vals H K => by unfold tagtree_Tree_minima_a0 tagtree_Tree_minima_aa0; split <;> rfl)
    (fun n vals H K r h => by
      unfold tagtree_Tree_minima_a0 tagtree_Tree_minima_aa0 at h
      split at h <;> first | (cases h; done) | exact Eq.trans (tagtree_Tree_minima_e0 (tagtree_Tree_minima_l0 k) (tagtree_Tree_minima_l1 k) (tagtree_Tree_minima_l2 k) k n _ _ H K) h) k
def tagtree_Tree_minima_ca {R : Type} (f : tagtree_Tree_minima_t R) (args : List Value) (H : Heap) (K : Value → Heap → Option R) : Option R :=
  match args with
  | [.pointer p254] => f p254 H (fun H => K (undef) H)
  | _ => none
def tagtree_Tree_minima_c (R : Type) (k : Nat) (args : List Value) (H : Heap) (K : Value → Heap → Option R) : Option R := tagtree_Tree_minima_ca (tagtree_Tree_minima k) args H K
theorem tagtree_Tree_minima_e {R : Type} (tagtree_Tree_minima_l0 : tagtree_Tree_minima_l0_t R) (tagtree_Tree_minima_l1 : tagtree_Tree_minima_l1_t R) (tagtree_Tree_minima_l2 : tagtree_Tree_minima_l2_t R) (k : Nat) (p254 : Oa) (H : Heap) (K : Value → Heap → Option R) : evF (tagtree_Tree_minima_Ct) (tagtree_Tree_minima_Jt k tagtree_Tree_minima_l0 tagtree_Tree_minima_l1 tagtree_Tree_minima_l2) tagtree_Tree_minima_f [.pointer p254] H K = tagtree_Tree_minima_b tagtree_Tree_minima_l0 k p254 H (fun H => K (undef) H) := by kernel_rfl
theorem tagtree_Tree_minima_cs (R : Type) (k : Nat) : ∀ args H K r,tagtree_Tree_minima_c R k args H K = some r → ∃ v H',Tri Try.prog 43 args H v H' ∧ K v H' = some r := by
  intro args H K r h
  unfold tagtree_Tree_minima_c tagtree_Tree_minima_ca at h
  split at h
  · exact evF_ok (C := tagtree_Tree_minima_C R k) (an := An) (t := tagtree_Tree_minima_at) (fn := Try.f43) (c := (Try.f43.body.getD .skip)) (ifn := tagtree_Tree_minima_f) (tagtree_Tree_minima_S R k) (tagtree_Tree_minima_J R k) Try.func43 (by kernel_rfl) (by kernel_rfl) (And.intro True.intro (tagtree_Tree_minima_j0 k)) rfl (Eq.trans (tagtree_Tree_minima_e (tagtree_Tree_minima_l0 k) (tagtree_Tree_minima_l1 k) (tagtree_Tree_minima_l2 k) k _ H K) h)
  · cases h
/-! ### bitio_Writer_Put: function 46 -/
abbrev bitio_Writer_Put_p0_t (R : Type) : Type := Oa → Int → (Oa → Int → Option R) → (Int → Option R) → Option R
def bitio_Writer_Put_p0_b {R : Type} (k : Nat) (p395 : Oa) (n396 : Int) (KN : Oa → Int → Option R) (KR : Int → Option R) : Option R :=
bif (n396 != 0) then (bif (n396 != 1) then (KR 1)
 else (KN p395 n396))
 else (KN p395 n396)
def bitio_Writer_Put_p0 {R : Type} (k : Nat) (p395 : Oa) (n396 : Int) (KN : Oa → Int → Option R) (KR : Int → Option R) : Option R := bitio_Writer_Put_p0_b k p395 n396 KN KR

abbrev bitio_Writer_Put_t (R : Type) : Type := Oa → Int → Heap → (Int → Heap → Option R) → Option R

def bitio_Writer_Put_b {R : Type} (bitio_Writer_ok : bitio_Writer_ok_t R) (bitio_Writer_Put_p0 : bitio_Writer_Put_p0_t R) (bitio_Writer_put : bitio_Writer_put_t R) (k : Nat) (p392 : Oa) (n393 : Int) (H : Heap) (K : Int → Heap → Option R) : Option R :=
bitio_Writer_ok p392 H fun t394 =>
bif (!t394) then (K 6 H)
 else (bitio_Writer_Put_p0 p392 n393 (fun p400 n401 =>
bitio_Writer_put p400 n401 H fun H402 =>
K 0 H402) (fun n403 =>
K n403 H))

def bitio_Writer_Put {R : Type} (k : Nat) (p392 : Oa) (n393 : Int) (H : Heap) (K : Int → Heap → Option R) : Option R := bitio_Writer_Put_b bitio_Writer_ok (bitio_Writer_Put_p0 k) (bitio_Writer_put k) k p392 n393 H K

def bitio_Writer_Put_Ct {R : Type} (bitio_Writer_ok : bitio_Writer_ok_t R) (bitio_Writer_put : bitio_Writer_put_t R) : Tab R := tcons 51 (bitio_Writer_ok_ca bitio_Writer_ok) <| tcons 57 (bitio_Writer_put_ca bitio_Writer_put) <| fun _ _ _ _ => none
def bitio_Writer_Put_C (R : Type) (k : Nat) : Tab R := bitio_Writer_Put_Ct bitio_Writer_ok (bitio_Writer_put k)
theorem bitio_Writer_Put_S (R : Type) (k : Nat) : CSound Try.prog (bitio_Writer_Put_C R k) := csound_cons (bitio_Writer_ok_cs R k) <| csound_cons (bitio_Writer_put_cs R k) <| csound_nil
def bitio_Writer_Put_aa0 {R : Type} (f : bitio_Writer_Put_p0_t R) (n : Nat) (vals : List Value) (H : Heap) (K : Xit → Env → Heap → Option R) : Option R :=
  match vals with
  | [.pointer p395,.int .i64 n396] => f p395 n396 (fun p1378 n1379 => K .normal [(0,.pointer p1378),(1,.int .i64 n1379)] H) (fun n1380 => K .ret [(4,.int .i64 n1380)] H)
  | _ => none
def bitio_Writer_Put_a0 (R : Type) (k n : Nat) (vals : List Value) (H : Heap) (K : Xit → Env → Heap → Option R) : Option R := bitio_Writer_Put_aa0 (bitio_Writer_Put_p0 k) n vals H K
def bitio_Writer_Put_Jt {R : Type} (k : Nat) (bitio_Writer_Put_p0 : bitio_Writer_Put_p0_t R) : JTab R := tcons 0 (bitio_Writer_Put_aa0 bitio_Writer_Put_p0 k) <| fun _ _ _ _ => none
def bitio_Writer_Put_J (R : Type) (k : Nat) : JTab R := bitio_Writer_Put_Jt k (bitio_Writer_Put_p0 k)
def bitio_Writer_Put_at : AT := (.seq (.reg [0,1] []) (.seq (.seq (.reg [0,1,7] []) (.cond (.seq (.reg [4] []) .leaf) .leaf)) (.seq (.opq 0 [0,1] ⟨[0,1],[],[4]⟩ (.seq (.reg [0,1,13] []) (.cond (.seq (.reg [4] []) .leaf) .leaf))) (.seq (.reg [] []) (.seq (.reg [4] []) .leaf)))))
def bitio_Writer_Put_i0 : IC := (.seq (.reg [⟨some 8,.mov (.t 1),none⟩,
⟨some 9,.cmp .neq (.t 8) (.c (Go.Value.int Go.IntKind.i64 0)),none⟩,
⟨some 10,.mov (.t 9),none⟩,
⟨some 11,.mov (.t 1),some (10,true)⟩,
⟨some 12,.cmp .neq (.t 11) (.c (Go.Value.int Go.IntKind.i64 1)),some (10,true)⟩,
⟨some 13,.pick (.t 10) (.t 12) (.c (Go.Value.bool false)),none⟩] [0,1,13]) (.cond (.t 13) (.seq (.reg [⟨some 4,.mov (.c (Go.Value.int Go.IntKind.i64 1)),none⟩] [4]) .ret) .skip))
def bitio_Writer_Put_f : IFn := ⟨17,[.t 4],(.seq (.reg [⟨some 4,.mov (.c (Go.Value.int Go.IntKind.i64 0)),none⟩] [0,1]) (.seq (.seq (.reg [⟨some 5,.mov (.t 0),none⟩,
⟨some 6,.call 51 [(.t 5)] (.one (.sc .bool)),none⟩,
⟨some 7,.lnot (.t 6),none⟩] [0,1,7]) (.cond (.t 7) (.seq (.reg [⟨some 4,.mov (.c (Go.Value.int Go.IntKind.i64 6)),none⟩] [4]) .ret) .skip)) (.seq (.opq 0 [0,1] bitio_Writer_Put_i0) (.seq (.reg [⟨some 14,.mov (.t 0),none⟩,
⟨some 15,.mov (.t 1),none⟩,
⟨some 16,.call 57 [(.t 14),(.t 15)] .none,none⟩] []) (.seq (.reg [⟨some 4,.mov (.c (Go.Value.int Go.IntKind.i64 0)),none⟩] [4]) .ret)))))⟩
theorem bitio_Writer_Put_e0 {R : Type} (bitio_Writer_ok : bitio_Writer_ok_t R) (bitio_Writer_put : bitio_Writer_put_t R) (bitio_Writer_Put_p0 : bitio_Writer_Put_p0_t R) (k : Nat) (p395 : Oa) (n396 : Int) (H : Heap) (K : Xit → Env → Heap → Option R) : evJ (bitio_Writer_Put_Ct bitio_Writer_ok bitio_Writer_put) (bitio_Writer_Put_Jt k bitio_Writer_Put_p0) bitio_Writer_Put_i0 (List.zip [0,1] [.pointer p395,.int .i64 n396]) H (fun x e' H' => K x (clean e' ((⟨[0,1],[],[4]⟩ : Out).of x)) H') = bitio_Writer_Put_p0_b k p395 n396 (fun p1378 n1379 => K .normal [(0,.pointer p1378),(1,.int .i64 n1379)] H) (fun n1380 => K .ret [(4,.int .i64 n1380)] H) := by kernel_rfl
theorem bitio_Writer_Put_j0 {R : Type} (k : Nat) : JS Try.prog 17 (bitio_Writer_Put_a0 R k k) [0,1] ⟨[0,1],[],[4]⟩ (sel [1,1,0] (Try.f46.body.getD .skip)) :=
  piece_ok (nt := 17) (c := (sel [1,1,0] (Try.f46.body.getD .skip))) (C := bitio_Writer_Put_C R k) (an := An) (t := (.seq (.reg [0,1,13] []) (.cond (.seq (.reg [4] []) .leaf) .leaf))) (ic := bitio_Writer_Put_i0) (bitio_Writer_Put_S R k) (bitio_Writer_Put_J R k) (by kernel_rfl) (And.intro True.intro (And.intro (And.intro True.intro True.intro) True.intro)) (bitio_Writer_Put_a0 R k k)
    (fun vals H K r h => by
      unfold bitio_Writer_Put_a0 bitio_Writer_Put_aa0 at h
      split at h <;> first | (cases h; done) | exact Eq.trans (bitio_Writer_Put_e0 bitio_Writer_ok (bitio_Writer_put k) (bitio_Writer_Put_p0 k) k _ _ H K) h)
def bitio_Writer_Put_ca {R : Type} (f : bitio_Writer_Put_t R) (args : List Value) (H : Heap) (K : Value → Heap → Option R) : Option R :=
  match args with
  | [.pointer p392,.int .i64 n393] => f p392 n393 H (fun n1381 H => K (.int .i64 n1381) H)
  | _ => none
def bitio_Writer_Put_c (R : Type) (k : Nat) (args : List Value) (H : Heap) (K : Value → Heap → Option R) : Option R := bitio_Writer_Put_ca (bitio_Writer_Put k) args H K
theorem bitio_Writer_Put_e {R : Type} (bitio_Writer_ok : bitio_Writer_ok_t R) (bitio_Writer_put : bitio_Writer_put_t R) (bitio_Writer_Put_p0 : bitio_Writer_Put_p0_t R) (k : Nat) (p392 : Oa) (n393 : Int) (H : Heap) (K : Value → Heap → Option R) : evF (bitio_Writer_Put_Ct bitio_Writer_ok bitio_Writer_put) (bitio_Writer_Put_Jt k bitio_Writer_Put_p0) bitio_Writer_Put_f [.pointer p392,.int .i64 n393] H K = bitio_Writer_Put_b bitio_Writer_ok bitio_Writer_Put_p0 bitio_Writer_put k p392 n393 H (fun n1381 H => K (.int .i64 n1381) H) := by kernel_rfl
theorem bitio_Writer_Put_cs (R : Type) (k : Nat) : ∀ args H K r,bitio_Writer_Put_c R k args H K = some r → ∃ v H',Tri Try.prog 46 args H v H' ∧ K v H' = some r := by
  intro args H K r h
  unfold bitio_Writer_Put_c bitio_Writer_Put_ca at h
  split at h
  · exact evF_ok (C := bitio_Writer_Put_C R k) (an := An) (t := bitio_Writer_Put_at) (fn := Try.f46) (c := (Try.f46.body.getD .skip)) (ifn := bitio_Writer_Put_f) (bitio_Writer_Put_S R k) (bitio_Writer_Put_J R k) Try.func46 (by kernel_rfl) (by kernel_rfl) (And.intro True.intro (And.intro (And.intro True.intro (And.intro (And.intro True.intro True.intro) True.intro)) (And.intro (bitio_Writer_Put_j0 k) (And.intro True.intro (And.intro True.intro True.intro))))) rfl (Eq.trans (bitio_Writer_Put_e bitio_Writer_ok (bitio_Writer_put k) (bitio_Writer_Put_p0 k) k _ _ H K) h)
  · cases h
/-! ### tagtree_Tree_Encode_1: function 45 -/
abbrev tagtree_Tree_Encode_1_p0_t (R : Type) : Type := Oa → Oa → Int → Heap → (Oa → Int → Option R) → Option R
def tagtree_Tree_Encode_1_p0_b {R : Type} (k : Nat) (p380 : Oa) (p381 : Oa) (n382 : Int) (H : Heap) (KN : Oa → Int → Option R) : Option R :=
hfad 0 p381 fun p383 =>
ldI .i64 H p383 fun n384 =>
hfad 1 p381 fun p385 =>
ldI .i64 H p385 fun n386 =>
bif (n384 == n386) then (KN p380 1)
 else (KN p380 n382)
def tagtree_Tree_Encode_1_p0 {R : Type} (k : Nat) (p380 : Oa) (p381 : Oa) (n382 : Int) (H : Heap) (KN : Oa → Int → Option R) : Option R := tagtree_Tree_Encode_1_p0_b k p380 p381 n382 H KN

abbrev tagtree_Tree_Encode_1_t (R : Type) : Type := Int → Int → Bool → Oa → Heap → (Int → Int → Heap → Option R) → Option R

def tagtree_Tree_Encode_1_b {R : Type} (tagtree_Tree_Encode_1_p0 : tagtree_Tree_Encode_1_p0_t R) (bitio_Writer_Put : bitio_Writer_Put_t R) (k : Nat) (n374 : Int) (n375 : Int) (t376 : Bool) (p377 : Oa) (H : Heap) (K : Int → Int → Heap → Option R) : Option R :=
hal H [.int .i64 n374,.int .i64 n375,.bool t376] fun p378 H379 =>
tagtree_Tree_Encode_1_p0 p377 p378 0 H379 (fun p389 n390 =>
ldP H379 p389 fun p391 =>
bitio_Writer_Put p391 n390 H379 fun n392 H393 =>
K n390 n392 H393)

def tagtree_Tree_Encode_1 {R : Type} (k : Nat) (n374 : Int) (n375 : Int) (t376 : Bool) (p377 : Oa) (H : Heap) (K : Int → Int → Heap → Option R) : Option R := tagtree_Tree_Encode_1_b (tagtree_Tree_Encode_1_p0 k) (bitio_Writer_Put k) k n374 n375 t376 p377 H K

def tagtree_Tree_Encode_1_Ct {R : Type} (bitio_Writer_Put : bitio_Writer_Put_t R) : Tab R := tcons 46 (bitio_Writer_Put_ca bitio_Writer_Put) <| fun _ _ _ _ => none
def tagtree_Tree_Encode_1_C (R : Type) (k : Nat) : Tab R := tagtree_Tree_Encode_1_Ct (bitio_Writer_Put k)
theorem tagtree_Tree_Encode_1_S (R : Type) (k : Nat) : CSound Try.prog (tagtree_Tree_Encode_1_C R k) := csound_cons (bitio_Writer_Put_cs R k) <| csound_nil
def tagtree_Tree_Encode_1_aa0 {R : Type} (f : tagtree_Tree_Encode_1_p0_t R) (n : Nat) (vals : List Value) (H : Heap) (K : Xit → Env → Heap → Option R) : Option R :=
  match vals with
  | [.pointer p380,.pointer p381,.int .i64 n382] => f p380 p381 n382 H (fun p1382 n1383 => K .normal [(1,.pointer p1382),(5,.int .i64 n1383)] H)
  | _ => none
def tagtree_Tree_Encode_1_a0 (R : Type) (k n : Nat) (vals : List Value) (H : Heap) (K : Xit → Env → Heap → Option R) : Option R := tagtree_Tree_Encode_1_aa0 (tagtree_Tree_Encode_1_p0 k) n vals H K
def tagtree_Tree_Encode_1_Jt {R : Type} (k : Nat) (tagtree_Tree_Encode_1_p0 : tagtree_Tree_Encode_1_p0_t R) : JTab R := tcons 0 (tagtree_Tree_Encode_1_aa0 tagtree_Tree_Encode_1_p0 k) <| fun _ _ _ _ => none
def tagtree_Tree_Encode_1_J (R : Type) (k : Nat) : JTab R := tagtree_Tree_Encode_1_Jt k (tagtree_Tree_Encode_1_p0 k)
def tagtree_Tree_Encode_1_at : AT := (.seq (.reg [1,2] []) (.seq (.reg [1,2,5] []) (.seq (.opq 0 [1,2,5] ⟨[1,5],[],[]⟩ (.seq (.reg [1,5,10] []) (.cond (.reg [1,5] []) .leaf))) (.seq (.reg [3,4] []) .leaf))))
def tagtree_Tree_Encode_1_i0 : IC := (.seq (.reg [⟨some 6,.fad 0 (.t 2),none⟩,
⟨some 7,.ld (.sc (.int .i64)) (.t 6),none⟩,
⟨some 8,.fad 1 (.t 2),none⟩,
⟨some 9,.ld (.sc (.int .i64)) (.t 8),none⟩,
⟨some 10,.cmp .eql (.t 7) (.t 9),none⟩] [1,5,10]) (.cond (.t 10) (.reg [⟨some 5,.mov (.c (Go.Value.int Go.IntKind.i64 1)),none⟩] [1,5]) .skip))
def tagtree_Tree_Encode_1_f : IFn := ⟨15,[.t 3,.t 4],(.seq (.reg [⟨some 2,.box (.t 0),none⟩,
⟨some 3,.mov (.c (Go.Value.int Go.IntKind.i64 0)),none⟩,
⟨some 4,.mov (.c (Go.Value.int Go.IntKind.i64 0)),none⟩] [1,2]) (.seq (.reg [⟨some 5,.mov (.c (Go.Value.int Go.IntKind.i64 0)),none⟩] [1,2,5]) (.seq (.opq 0 [1,2,5] tagtree_Tree_Encode_1_i0) (.seq (.reg [⟨some 11,.mov (.t 5),none⟩,
⟨some 12,.ld (.sc .ptr) (.t 1),none⟩,
⟨some 13,.mov (.t 5),none⟩,
⟨some 14,.call 46 [(.t 12),(.t 13)] (.one (.sc (.int .i64))),none⟩,
⟨some 3,.mov (.t 11),none⟩,
⟨some 4,.mov (.t 14),none⟩] [3,4]) .ret))))⟩
theorem tagtree_Tree_Encode_1_e0 {R : Type} (bitio_Writer_Put : bitio_Writer_Put_t R) (tagtree_Tree_Encode_1_p0 : tagtree_Tree_Encode_1_p0_t R) (k : Nat) (p380 : Oa) (p381 : Oa) (n382 : Int) (H : Heap) (K : Xit → Env → Heap → Option R) : evJ (tagtree_Tree_Encode_1_Ct bitio_Writer_Put) (tagtree_Tree_Encode_1_Jt k tagtree_Tree_Encode_1_p0) tagtree_Tree_Encode_1_i0 (List.zip [1,2,5] [.pointer p380,.pointer p381,.int .i64 n382]) H (fun x e' H' => K x (clean e' ((⟨[1,5],[],[]⟩ : Out).of x)) H') = tagtree_Tree_Encode_1_p0_b k p380 p381 n382 H (fun p1382 n1383 => K .normal [(1,.pointer p1382),(5,.int .i64 n1383)] H) := by kernel_rfl
theorem tagtree_Tree_Encode_1_j0 {R : Type} (k : Nat) : JS Try.prog 15 (tagtree_Tree_Encode_1_a0 R k k) [1,2,5] ⟨[1,5],[],[]⟩ (sel [1,1,0] (Try.f45.body.getD .skip)) :=
  piece_ok (nt := 15) (c := (sel [1,1,0] (Try.f45.body.getD .skip))) (C := tagtree_Tree_Encode_1_C R k) (an := An) (t := (.seq (.reg [1,5,10] []) (.cond (.reg [1,5] []) .leaf))) (ic := tagtree_Tree_Encode_1_i0) (tagtree_Tree_Encode_1_S R k) (tagtree_Tree_Encode_1_J R k) (by kernel_rfl) (And.intro True.intro (And.intro True.intro True.intro)) (tagtree_Tree_Encode_1_a0 R k k)
    (fun vals H K r h => by
      unfold tagtree_Tree_Encode_1_a0 tagtree_Tree_Encode_1_aa0 at h
      split at h <;> first | (cases h; done) | exact Eq.trans (tagtree_Tree_Encode_1_e0 (bitio_Writer_Put k) (tagtree_Tree_Encode_1_p0 k) k _ _ _ H K) h)
def tagtree_Tree_Encode_1_ca {R : Type} (f : tagtree_Tree_Encode_1_t R) (args : List Value) (H : Heap) (K : Value → Heap → Option R) : Option R :=
  match args with
  | [.agg ⟨[.int .i64 n374,.int .i64 n375,.bool t376]⟩,.pointer p377] => f n374 n375 t376 p377 H (fun n1384 n1385 H => K (.tuple ⟨[.int .i64 n1384,.int .i64 n1385]⟩) H)
  | _ => none
def tagtree_Tree_Encode_1_c (R : Type) (k : Nat) (args : List Value) (H : Heap) (K : Value → Heap → Option R) : Option R := tagtree_Tree_Encode_1_ca (tagtree_Tree_Encode_1 k) args H K
theorem tagtree_Tree_Encode_1_e {R : Type} (bitio_Writer_Put : bitio_Writer_Put_t R) (tagtree_Tree_Encode_1_p0 : tagtree_Tree_Encode_1_p0_t R) (k : Nat) (n374 : Int) (n375 : Int) (t376 : Bool) (p377 : Oa) (H : Heap) (K : Value → Heap → Option R) : evF (tagtree_Tree_Encode_1_Ct bitio_Writer_Put) (tagtree_Tree_Encode_1_Jt k tagtree_Tree_Encode_1_p0) tagtree_Tree_Encode_1_f [.agg ⟨[.int .i64 n374,.int .i64 n375,.bool t376]⟩,.pointer p377] H K = tagtree_Tree_Encode_1_b tagtree_Tree_Encode_1_p0 bitio_Writer_Put k n374 n375 t376 p377 H (fun n1384 n1385 H => K (.tuple ⟨[.int .i64 n1384,.int .i64 n1385]⟩) H) := by kernel_rfl
theorem tagtree_Tree_Encode_1_cs (R : Type) (k : Nat) : ∀ args H K r,tagtree_Tree_Encode_1_c R k args H K = some r → ∃ v H',Tri Try.prog 45 args H v H' ∧ K v H' = some r := by
  intro args H K r h
  unfold tagtree_Tree_Encode_1_c tagtree_Tree_Encode_1_ca at h
  split at h
  · exact evF_ok (C := tagtree_Tree_Encode_1_C R k) (an := An) (t := tagtree_Tree_Encode_1_at) (fn := Try.f45) (c := (Try.f45.body.getD .skip)) (ifn := tagtree_Tree_Encode_1_f) (tagtree_Tree_Encode_1_S R k) (tagtree_Tree_Encode_1_J R k) Try.func45 (by kernel_rfl) (by kernel_rfl) (And.intro True.intro (And.intro True.intro (And.intro (tagtree_Tree_Encode_1_j0 k) (And.intro True.intro True.intro)))) rfl (Eq.trans (tagtree_Tree_Encode_1_e (bitio_Writer_Put k) (tagtree_Tree_Encode_1_p0 k) k _ _ _ _ H K) h)
  · cases h
/-! ### tagtree_Tree_walk_v45: function 44 -/
abbrev tagtree_Tree_walk_v45_p2_t (R : Type) : Type := Oa → Int → Int → Int → Oa → Oa → Nat → Nat → Int → Oa → Heap → (Oa → Int → Int → Int → Oa → Oa → Nat → Nat → Int → Oa → Option R) → (Oa → Int → Int → Int → Oa → Oa → Nat → Nat → Int → Oa → Option R) → Option R
def tagtree_Tree_walk_v45_p2_b {R : Type} (k : Nat) (p317 : Oa) (n318 : Int) (n319 : Int) (n320 : Int) (p321 : Oa) (q322 : Oa) (l323 : Nat) (c324 : Nat) (n325 : Int) (p326 : Oa) (H : Heap) (KE2 : Oa → Int → Int → Int → Oa → Oa → Nat → Nat → Int → Oa → Option R) (KN : Oa → Int → Int → Int → Oa → Oa → Nat → Nat → Int → Oa → Option R) : Option R :=
hfad 1 p326 fun p327 =>
ldI .i64 H p327 fun n328 =>
bif decide (n328 < n320) then (hfad 2 p326 fun p329 =>
ldB H p329 fun t330 =>
bif (!t330) then (KN p317 n318 n319 n320 p321 q322 l323 c324 n325 p326)
 else (KE2 p317 n318 n319 n320 p321 q322 l323 c324 n325 p326))
 else (KE2 p317 n318 n319 n320 p321 q322 l323 c324 n325 p326)
def tagtree_Tree_walk_v45_p2 {R : Type} (k : Nat) (p317 : Oa) (n318 : Int) (n319 : Int) (n320 : Int) (p321 : Oa) (q322 : Oa) (l323 : Nat) (c324 : Nat) (n325 : Int) (p326 : Oa) (H : Heap) (KE2 : Oa → Int → Int → Int → Oa → Oa → Nat → Nat → Int → Oa → Option R) (KN : Oa → Int → Int → Int → Oa → Oa → Nat → Nat → Int → Oa → Option R) : Option R := tagtree_Tree_walk_v45_p2_b k p317 n318 n319 n320 p321 q322 l323 c324 n325 p326 H KE2 KN

abbrev tagtree_Tree_walk_v45_l1_t (R : Type) : Type := (Oa → Int → Int → Int → Oa → Oa → Nat → Nat → Int → Oa → Heap → Option R) → (Int → Heap → Option R) → Nat → Oa → Int → Int → Int → Oa → Oa → Nat → Nat → Int → Oa → Heap → Option R
def tagtree_Tree_walk_v45_l1_b {R : Type} (tagtree_Tree_walk_v45_p2 : tagtree_Tree_walk_v45_p2_t R) (tagtree_Tree_Encode_1 : tagtree_Tree_Encode_1_t R) (rec : Oa → Int → Int → Int → Oa → Oa → Nat → Nat → Int → Oa → Heap → Option R) (KE2 : Oa → Int → Int → Int → Oa → Oa → Nat → Nat → Int → Oa → Heap → Option R) (KR : Int → Heap → Option R) (k : Nat) (p307 : Oa) (n308 : Int) (n309 : Int) (n310 : Int) (p311 : Oa) (q312 : Oa) (l313 : Nat) (c314 : Nat) (n315 : Int) (p316 : Oa) (H : Heap) : Option R :=
tagtree_Tree_walk_v45_p2 p307 n308 n309 n310 p311 q312 l313 c314 n315 p316 H (fun p351 n352 n353 n354 p355 q356 l357 c358 n359 p360 =>
KE2 p351 n352 n353 n354 p355 q356 l357 c358 n359 p360 H) (fun p361 n362 n363 n364 p365 q366 l367 c368 n369 p370 =>
ldI .i64 H (pad p370 0) fun n371 =>
ldI .i64 H (pad p370 1) fun n372 =>
ldB H (pad p370 2) fun t373 =>
tagtree_Tree_Encode_1 n371 n372 t373 p365 H fun n374 n375 H376 =>
bif (n375 != 0) then (KR n375 H376)
 else (bif (n374 == 1) then (hfad 2 p370 fun p377 =>
hst1 H376 p377 (.bool true) fun H378 =>
rec p361 n362 n363 n364 p365 q366 l367 c368 n369 p370 H378)
 else (hfad 1 p370 fun p379 =>
ldI .i64 H376 p379 fun n380 =>
hfad 1 p370 fun p381 =>
hst1 H376 p381 (.int .i64 (IntKind.wrap .i64 (n380 + 1))) fun H382 =>
rec p361 n362 n363 n364 p365 q366 l367 c368 n369 p370 H382)))
def tagtree_Tree_walk_v45_l1 {R : Type} (k : Nat) (KE2 : Oa → Int → Int → Int → Oa → Oa → Nat → Nat → Int → Oa → Heap → Option R) (KR : Int → Heap → Option R) : Nat → Oa → Int → Int → Int → Oa → Oa → Nat → Nat → Int → Oa → Heap → Option R
  | 0,_,_,_,_,_,_,_,_,_,_,_ => none
  | n + 1,p307,n308,n309,n310,p311,q312,l313,c314,n315,p316,H => tagtree_Tree_walk_v45_l1_b (tagtree_Tree_walk_v45_p2 k) (tagtree_Tree_Encode_1 k) (tagtree_Tree_walk_v45_l1 k KE2 KR n) KE2 KR k p307 n308 n309 n310 p311 q312 l313 c314 n315 p316 H

abbrev tagtree_Tree_walk_v45_l0_t (R : Type) : Type := (Oa → Int → Int → Oa → Nat → Nat → Heap → Option R) → (Int → Heap → Option R) → Nat → Oa → Int → Int → Int → Oa → Oa → Nat → Nat → Int → Int → Heap → Option R
def tagtree_Tree_walk_v45_l0_b {R : Type} (tagtree_Tree_at : tagtree_Tree_at_t R) (tagtree_Tree_walk_v45_l1 : tagtree_Tree_walk_v45_l1_t R) (rec : Oa → Int → Int → Int → Oa → Oa → Nat → Nat → Int → Int → Heap → Option R) (KE0 : Oa → Int → Int → Oa → Nat → Nat → Heap → Option R) (KR : Int → Heap → Option R) (k : Nat) (p285 : Oa) (n286 : Int) (n287 : Int) (n288 : Int) (p289 : Oa) (q290 : Oa) (l291 : Nat) (c292 : Nat) (n293 : Int) (n294 : Int) (H : Heap) : Option R :=
bif decide (n294 ≥ 0) then (tagtree_Tree_at p285 n294 n286 n287 H fun p295 =>
hnil p295 fun p296 =>
ldI .i64 H (pad p296 0) fun n297 =>
ldI .i64 H (pad p296 1) fun n298 =>
ldB H (pad p296 2) fun t299 =>
hal H [.int .i64 0,.int .i64 0,.bool false] fun p300 H301 =>
hst H301 p300 [.int .i64 n297,.int .i64 n298,.bool t299] fun H302 =>
hfad 1 p300 fun p303 =>
ldI .i64 H302 p303 fun n304 =>
hfad 1 p300 fun p305 =>
hst1 H302 p305 (.int .i64 (imx n304 n293)) fun H306 =>
tagtree_Tree_walk_v45_l1 (fun p394 n395 n396 n397 p398 q399 l400 c401 n402 p403 H404 =>
hfad 1 p403 fun p405 =>
ldI .i64 H404 p405 fun n406 =>
ldI .i64 H404 (pad p403 0) fun n407 =>
ldI .i64 H404 (pad p403 1) fun n408 =>
ldB H404 (pad p403 2) fun t409 =>
hidx q399 l400 n402 3 fun p410 =>
hst H404 p410 [.int .i64 n407,.int .i64 n408,.bool t409] fun H411 =>
rec p394 n395 n396 n397 p398 q399 l400 c401 n406 (IntKind.wrap .i64 (n402 - 1)) H411) (fun n412 H413 =>
KR n412 H413) k p285 n286 n287 n288 p289 q290 l291 c292 n294 p300 H306)
 else (KE0 p285 n286 n287 q290 l291 c292 H)
def tagtree_Tree_walk_v45_l0 {R : Type} (k : Nat) (KE0 : Oa → Int → Int → Oa → Nat → Nat → Heap → Option R) (KR : Int → Heap → Option R) : Nat → Oa → Int → Int → Int → Oa → Oa → Nat → Nat → Int → Int → Heap → Option R
  | 0,_,_,_,_,_,_,_,_,_,_,_ => none
  | n + 1,p285,n286,n287,n288,p289,q290,l291,c292,n293,n294,H => tagtree_Tree_walk_v45_l0_b tagtree_Tree_at (tagtree_Tree_walk_v45_l1 k) (tagtree_Tree_walk_v45_l0 k KE0 KR n) KE0 KR k p285 n286 n287 n288 p289 q290 l291 c292 n293 n294 H

abbrev tagtree_Tree_walk_v45_l3_t (R : Type) : Type := (Heap → Option R) → Nat → Oa → Int → Int → Oa → Nat → Nat → Int → Int → Heap → Option R
def tagtree_Tree_walk_v45_l3_b {R : Type} (tagtree_Tree_at : tagtree_Tree_at_t R) (rec : Oa → Int → Int → Oa → Nat → Nat → Int → Int → Heap → Option R) (KE4 : Heap → Option R) (k : Nat) (p428 : Oa) (n429 : Int) (n430 : Int) (q431 : Oa) (l432 : Nat) (c433 : Nat) (n434 : Int) (n435 : Int) (H : Heap) : Option R :=
bif decide (n435 < n434) then (hidx q431 l432 n435 3 fun p436 =>
ldI .i64 H (pad p436 0) fun n437 =>
ldI .i64 H (pad p436 1) fun n438 =>
ldB H (pad p436 2) fun t439 =>
hal H [.int .i64 0,.int .i64 0,.bool false] fun p440 H441 =>
hst H441 p440 [.int .i64 n437,.int .i64 n438,.bool t439] fun H442 =>
tagtree_Tree_at p428 n435 n429 n430 (roH H442) fun p443 =>
ldI .i64 (H442 ++ (roH H442).drop H442.length) (pad p440 0) fun n444 =>
ldI .i64 (H442 ++ (roH H442).drop H442.length) (pad p440 1) fun n445 =>
ldB (H442 ++ (roH H442).drop H442.length) (pad p440 2) fun t446 =>
hnil p443 fun p447 =>
hst (H442 ++ (roH H442).drop H442.length) p447 [.int .i64 n444,.int .i64 n445,.bool t446] fun H448 =>
rec p428 n429 n430 q431 l432 c433 n434 (IntKind.wrap .i64 (n435 + 1)) H448)
 else (KE4 H)
def tagtree_Tree_walk_v45_l3 {R : Type} (k : Nat) (KE4 : Heap → Option R) : Nat → Oa → Int → Int → Oa → Nat → Nat → Int → Int → Heap → Option R
  | 0,_,_,_,_,_,_,_,_,_ => none
  | n + 1,p428,n429,n430,q431,l432,c433,n434,n435,H => tagtree_Tree_walk_v45_l3_b tagtree_Tree_at (tagtree_Tree_walk_v45_l3 k KE4 n) KE4 k p428 n429 n430 q431 l432 c433 n434 n435 H

abbrev tagtree_Tree_walk_v45_t (R : Type) : Type := Oa → Int → Int → Int → Oa → Heap → (Int → Heap → Option R) → Option R

def tagtree_Tree_walk_v45_b {R : Type} (tagtree_Tree_walk_v45_l0 : tagtree_Tree_walk_v45_l0_t R) (tagtree_Tree_walk_v45_l3 : tagtree_Tree_walk_v45_l3_t R) (k : Nat) (p266 : Oa) (n267 : Int) (n268 : Int) (n269 : Int) (p270 : Oa) (H : Heap) (K : Int → Heap → Option R) : Option R :=
hnil p266 fun p271 =>
hfad 0 p271 fun p272 =>
ldL H p272 fun q273 l274 c275 =>
hmk [.int .i64 0,.int .i64 0,.bool false] 24 H ((l274 : Nat) : Int) ((l274 : Nat) : Int) fun q276 l277 c278 H279 =>
hnil p266 fun p280 =>
hfad 0 p280 fun p281 =>
ldL H279 p281 fun q282 l283 c284 =>
tagtree_Tree_walk_v45_l0 (fun p421 n422 n423 q424 l425 c426 H427 =>
tagtree_Tree_walk_v45_l3 (fun H449 =>
K 0 H449) k p421 n422 n423 q424 l425 c426 ((l425 : Nat) : Int) 0 H427) (fun n450 H451 =>
K n450 H451) k p266 n267 n268 n269 p270 q276 l277 c278 0 (IntKind.wrap .i64 (((l283 : Nat) : Int) - 1)) H279

def tagtree_Tree_walk_v45 {R : Type} (k : Nat) (p266 : Oa) (n267 : Int) (n268 : Int) (n269 : Int) (p270 : Oa) (H : Heap) (K : Int → Heap → Option R) : Option R := tagtree_Tree_walk_v45_b (tagtree_Tree_walk_v45_l0 k) (tagtree_Tree_walk_v45_l3 k) k p266 n267 n268 n269 p270 H K

def tagtree_Tree_walk_v45_Ct {R : Type} (tagtree_Tree_at : tagtree_Tree_at_t R) (tagtree_Tree_Encode_1 : tagtree_Tree_Encode_1_t R) : Tab R := tcons 40 (tagtree_Tree_at_ca tagtree_Tree_at) <| tcons 45 (tagtree_Tree_Encode_1_ca tagtree_Tree_Encode_1) <| fun _ _ _ _ => none
def tagtree_Tree_walk_v45_C (R : Type) (k : Nat) : Tab R := tagtree_Tree_walk_v45_Ct tagtree_Tree_at (tagtree_Tree_Encode_1 k)
theorem tagtree_Tree_walk_v45_S (R : Type) (k : Nat) : CSound Try.prog (tagtree_Tree_walk_v45_C R k) := csound_cons (tagtree_Tree_at_cs R k) <| csound_cons (tagtree_Tree_Encode_1_cs R k) <| csound_nil
def tagtree_Tree_walk_v45_aa0 {R : Type} (f : tagtree_Tree_walk_v45_l0_t R) (n : Nat) (vals : List Value) (H : Heap) (K : Xit → Env → Heap → Option R) : Option R :=
  match vals with
  | [.pointer p285,.int .i64 n286,.int .i64 n287,.int .i64 n288,.func (.func 45) ⟨[]⟩ ⟨[.pointer p289]⟩,.slice q290 l291 c292,.int .i64 n293,.int .i64 n294] => f (fun p1386 n1387 n1388 q1389 l1390 c1391 H => K (.exit 0) [(0,.pointer p1386),(1,.int .i64 n1387),(2,.int .i64 n1388),(11,.slice q1389 l1390 c1391)] H) (fun n1392 H => K .ret [(10,.int .i64 n1392)] H) n p285 n286 n287 n288 p289 q290 l291 c292 n293 n294 H
  | _ => none
def tagtree_Tree_walk_v45_a0 (R : Type) (k n : Nat) (vals : List Value) (H : Heap) (K : Xit → Env → Heap → Option R) : Option R := tagtree_Tree_walk_v45_aa0 (tagtree_Tree_walk_v45_l0 k) n vals H K
def tagtree_Tree_walk_v45_aa1 {R : Type} (f : tagtree_Tree_walk_v45_l1_t R) (n : Nat) (vals : List Value) (H : Heap) (K : Xit → Env → Heap → Option R) : Option R :=
  match vals with
  | [.pointer p307,.int .i64 n308,.int .i64 n309,.int .i64 n310,.func (.func 45) ⟨[]⟩ ⟨[.pointer p311]⟩,.slice q312 l313 c314,.int .i64 n315,.pointer p316] => f (fun p1393 n1394 n1395 n1396 p1397 q1398 l1399 c1400 n1401 p1402 H => K (.exit 2) [(0,.pointer p1393),(1,.int .i64 n1394),(2,.int .i64 n1395),(3,.int .i64 n1396),(4,.func (.func 45) #[] ⟨[.pointer p1397]⟩),(11,.slice q1398 l1399 c1400),(13,.int .i64 n1401),(14,.pointer p1402)] H) (fun n1403 H => K .ret [(10,.int .i64 n1403)] H) n p307 n308 n309 n310 p311 q312 l313 c314 n315 p316 H
  | _ => none
def tagtree_Tree_walk_v45_a1 (R : Type) (k n : Nat) (vals : List Value) (H : Heap) (K : Xit → Env → Heap → Option R) : Option R := tagtree_Tree_walk_v45_aa1 (tagtree_Tree_walk_v45_l1 k) n vals H K
def tagtree_Tree_walk_v45_aa2 {R : Type} (f : tagtree_Tree_walk_v45_p2_t R) (n : Nat) (vals : List Value) (H : Heap) (K : Xit → Env → Heap → Option R) : Option R :=
  match vals with
  | [.pointer p317,.int .i64 n318,.int .i64 n319,.int .i64 n320,.func (.func 45) ⟨[]⟩ ⟨[.pointer p321]⟩,.slice q322 l323 c324,.int .i64 n325,.pointer p326] => f p317 n318 n319 n320 p321 q322 l323 c324 n325 p326 H (fun p1404 n1405 n1406 n1407 p1408 q1409 l1410 c1411 n1412 p1413 => K (.exit 2) [(0,.pointer p1404),(1,.int .i64 n1405),(2,.int .i64 n1406),(3,.int .i64 n1407),(4,.func (.func 45) #[] ⟨[.pointer p1408]⟩),(11,.slice q1409 l1410 c1411),(13,.int .i64 n1412),(14,.pointer p1413)] H) (fun p1414 n1415 n1416 n1417 p1418 q1419 l1420 c1421 n1422 p1423 => K .normal [(0,.pointer p1414),(1,.int .i64 n1415),(2,.int .i64 n1416),(3,.int .i64 n1417),(4,.func (.func 45) #[] ⟨[.pointer p1418]⟩),(11,.slice q1419 l1420 c1421),(13,.int .i64 n1422),(14,.pointer p1423)] H)
  | _ => none
def tagtree_Tree_walk_v45_a2 (R : Type) (k n : Nat) (vals : List Value) (H : Heap) (K : Xit → Env → Heap → Option R) : Option R := tagtree_Tree_walk_v45_aa2 (tagtree_Tree_walk_v45_p2 k) n vals H K
def tagtree_Tree_walk_v45_aa3 {R : Type} (f : tagtree_Tree_walk_v45_l3_t R) (n : Nat) (vals : List Value) (H : Heap) (K : Xit → Env → Heap → Option R) : Option R :=
  match vals with
  | [.pointer p428,.int .i64 n429,.int .i64 n430,.slice q431 l432 c433,.int .i64 n434,.int .i64 n435] => f (fun H => K (.exit 4) [] H) n p428 n429 n430 q431 l432 c433 n434 n435 H
  | _ => none
def tagtree_Tree_walk_v45_a3 (R : Type) (k n : Nat) (vals : List Value) (H : Heap) (K : Xit → Env → Heap → Option R) : Option R := tagtree_Tree_walk_v45_aa3 (tagtree_Tree_walk_v45_l3 k) n vals H K
def tagtree_Tree_walk_v45_Jt {R : Type} (k : Nat) (tagtree_Tree_walk_v45_l0 : tagtree_Tree_walk_v45_l0_t R) (tagtree_Tree_walk_v45_l1 : tagtree_Tree_walk_v45_l1_t R) (tagtree_Tree_walk_v45_p2 : tagtree_Tree_walk_v45_p2_t R) (tagtree_Tree_walk_v45_l3 : tagtree_Tree_walk_v45_l3_t R) : JTab R := tcons 0 (tagtree_Tree_walk_v45_aa0 tagtree_Tree_walk_v45_l0 k) <| tcons 1 (tagtree_Tree_walk_v45_aa1 tagtree_Tree_walk_v45_l1 k) <| tcons 2 (tagtree_Tree_walk_v45_aa2 tagtree_Tree_walk_v45_p2 k) <| tcons 3 (tagtree_Tree_walk_v45_aa3 tagtree_Tree_walk_v45_l3 k) <| fun _ _ _ _ => none
def tagtree_Tree_walk_v45_J (R : Type) (k : Nat) : JTab R := tagtree_Tree_walk_v45_Jt k (tagtree_Tree_walk_v45_l0 k) (tagtree_Tree_walk_v45_l1 k) (tagtree_Tree_walk_v45_p2 k) (tagtree_Tree_walk_v45_l3 k)
def tagtree_Tree_walk_v45_at : AT := (.seq (.reg [0,1,2,3,4] []) (.seq (.reg [0,1,2,3,4,11] []) (.seq (.reg [0,1,2,3,4,11,12] []) (.seq (.seq (.reg [0,1,2,3,4,11,12,13] []) (.node (.opq 0 [0,1,2,3,4,11,12,13] ⟨[],[(0,[0,1,2,11])],[10]⟩ (.node (.seq (.seq (.reg [0,1,2,3,4,11,12,13,32] []) (.cond .leaf .leaf)) (.seq (.node (.seq (.reg [0,1,2,3,4,11,12,13,14] []) (.seq (.reg [0,1,2,3,4,11,13,14] []) (.seq (.node (.opq 1 [0,1,2,3,4,11,13,14] ⟨[],[(2,[0,1,2,3,4,11,13,14])],[10]⟩ (.node (.seq (.opq 2 [0,1,2,3,4,11,13,14] ⟨[0,1,2,3,4,11,13,14],[(2,[0,1,2,3,4,11,13,14])],[]⟩ (.seq (.reg [0,1,2,3,4,11,13,14,55] []) (.cond .leaf .leaf))) (.node (.seq (.reg [0,1,2,3,4,11,13,14,15,16] []) (.seq (.seq (.reg [0,1,2,3,4,11,13,14,15,16,63] []) (.cond (.seq (.reg [10] []) .leaf) .leaf)) (.seq (.reg [0,1,2,3,4,11,13,14,66] []) (.cond (.reg [0,1,2,3,4,11,13,14] []) (.reg [0,1,2,3,4,11,13,14] [])))))))))) (.reg [0,1,2,3,4,11,12,13] [[],[],[],[2],[],[2,3],[0,1,2,3,4,5],[0,1,2,3,4,5,6]]))))) (.reg [0,1,2,3,4,11,12,13] []))))))) (.seq (.seq (.reg [0,1,2,78,79,80] []) (.node (.opq 3 [0,1,2,78,79,80] ⟨[],[(4,[])],[]⟩ (.node (.seq (.reg [0,1,2,78,79,80,81] []) (.seq (.cond .leaf .leaf) (.seq (.node (.seq (.reg [0,1,2,17,18,78,79,80] []) (.reg [0,1,2,78,79,80] [[],[],[],[],[0,1,2,3],[],[0,1,2,3,4,5],[0,1,2,3,4,5,6]]))) (.reg [0,1,2,78,79,80] [])))))))) (.seq (.reg [10] []) .leaf))))))
def tagtree_Tree_walk_v45_i3 : IC := (.seq (.reg [⟨some 81,.cmp .lss (.t 80) (.t 79),none⟩] [0,1,2,78,79,80,81]) (.seq (.cond (.t 81) .skip (.exit 4)) (.seq (.block 5 (.seq (.reg [⟨some 82,.mov (.t 80),none⟩,
⟨some 83,.ids 3 (.t 78) (.t 80),none⟩,
⟨some 84,.ld (.agg [(.int .i64),(.int .i64),.bool]) (.t 83),none⟩,
⟨some 18,.alc [.int .i64 0,.int .i64 0,.bool false],none⟩,
⟨some 17,.mov (.t 82),none⟩,
⟨none,.st 3 (.t 18) (.t 84),none⟩] [0,1,2,17,18,78,79,80]) (.reg [⟨some 85,.mov (.t 0),none⟩,
⟨some 86,.mov (.t 17),none⟩,
⟨some 87,.mov (.t 1),none⟩,
⟨some 88,.mov (.t 2),none⟩,
⟨some 89,.calf 40 [(.t 85),(.t 86),(.t 87),(.t 88)] [] (.one (.sc .ptr)),none⟩,
⟨some 90,.ld (.agg [(.int .i64),(.int .i64),.bool]) (.t 18),none⟩,
⟨some 91,.nilc (.t 89),none⟩,
⟨none,.st 3 (.t 91) (.t 90),none⟩] [0,1,2,78,79,80]))) (.reg [⟨some 92,.bin .add .i64 (.t 80) (.c (Go.Value.int Go.IntKind.i64 1)),none⟩,
⟨some 80,.mov (.t 92),none⟩] [0,1,2,78,79,80]))))
def tagtree_Tree_walk_v45_i2 : IC := (.seq (.reg [⟨some 47,.fad 1 (.t 14),none⟩,
⟨some 48,.ld (.sc (.int .i64)) (.t 47),none⟩,
⟨some 49,.mov (.t 3),none⟩,
⟨some 50,.cmp .lss (.t 48) (.t 49),none⟩,
⟨some 51,.mov (.t 50),none⟩,
⟨some 52,.fad 2 (.t 14),some (51,true)⟩,
⟨some 53,.ld (.sc .bool) (.t 52),some (51,true)⟩,
⟨some 54,.lnot (.t 53),some (51,true)⟩,
⟨some 55,.pick (.t 51) (.t 54) (.c (Go.Value.bool false)),none⟩] [0,1,2,3,4,11,13,14,55]) (.cond (.t 55) .skip (.exit 2)))
def tagtree_Tree_walk_v45_i1 : IC := (.seq (.opq 2 [0,1,2,3,4,11,13,14] tagtree_Tree_walk_v45_i2) (.block 3 (.seq (.reg [⟨some 57,.mov (.t 4),none⟩,
⟨some 58,.ld (.agg [(.int .i64),(.int .i64),.bool]) (.t 14),none⟩,
⟨some 59,.calv (.t 57) [(.t 58)] (.tup [(.sc (.int .i64)),(.sc (.int .i64))]),none⟩,
⟨some 56,.mov (.t 59),none⟩,
⟨some 60,.ext 0 (.t 56),none⟩,
⟨some 61,.ext 1 (.t 56),none⟩,
⟨some 15,.mov (.t 60),none⟩,
⟨some 16,.mov (.t 61),none⟩] [0,1,2,3,4,11,13,14,15,16]) (.seq (.seq (.reg [⟨some 62,.mov (.t 16),none⟩,
⟨some 63,.cmp .neq (.t 62) (.c (Go.Value.int Go.IntKind.i64 0)),none⟩] [0,1,2,3,4,11,13,14,15,16,63]) (.cond (.t 63) (.seq (.reg [⟨some 64,.mov (.t 16),none⟩,
⟨some 10,.mov (.t 64),none⟩] [10]) .ret) .skip)) (.seq (.reg [⟨some 65,.mov (.t 15),none⟩,
⟨some 66,.cmp .eql (.t 65) (.c (Go.Value.int Go.IntKind.i64 1)),none⟩] [0,1,2,3,4,11,13,14,66]) (.cond (.t 66) (.reg [⟨some 67,.fad 2 (.t 14),none⟩,
⟨none,.st 1 (.t 67) (.c (Go.Value.bool true)),none⟩] [0,1,2,3,4,11,13,14]) (.reg [⟨some 68,.fad 1 (.t 14),none⟩,
⟨some 69,.ld (.sc (.int .i64)) (.t 68),none⟩,
⟨some 70,.bin .add .i64 (.t 69) (.c (Go.Value.int Go.IntKind.i64 1)),none⟩,
⟨some 71,.fad 1 (.t 14),none⟩,
⟨none,.st 1 (.t 71) (.t 70),none⟩] [0,1,2,3,4,11,13,14])))))))
def tagtree_Tree_walk_v45_i0 : IC := (.seq (.seq (.reg [⟨some 31,.mov (.t 13),none⟩,
⟨some 32,.cmp .geq (.t 31) (.c (Go.Value.int Go.IntKind.i64 0)),none⟩] [0,1,2,3,4,11,12,13,32]) (.cond (.t 32) .skip (.exit 0))) (.seq (.block 1 (.seq (.reg [⟨some 35,.mov (.t 0),none⟩,
⟨some 36,.mov (.t 13),none⟩,
⟨some 37,.mov (.t 1),none⟩,
⟨some 38,.mov (.t 2),none⟩,
⟨some 39,.call 40 [(.t 35),(.t 36),(.t 37),(.t 38)] (.one (.sc .ptr)),none⟩,
⟨some 40,.nilc (.t 39),none⟩,
⟨some 41,.ld (.agg [(.int .i64),(.int .i64),.bool]) (.t 40),none⟩,
⟨some 14,.alc [.int .i64 0,.int .i64 0,.bool false],none⟩,
⟨none,.st 3 (.t 14) (.t 41),none⟩] [0,1,2,3,4,11,12,13,14]) (.seq (.reg [⟨some 42,.fad 1 (.t 14),none⟩,
⟨some 43,.ld (.sc (.int .i64)) (.t 42),none⟩,
⟨some 44,.mov (.t 12),none⟩,
⟨some 45,.mx (.t 43) (.t 44),none⟩,
⟨some 46,.fad 1 (.t 14),none⟩,
⟨none,.st 1 (.t 46) (.t 45),none⟩] [0,1,2,3,4,11,13,14]) (.seq (.block 2 (.opq 1 [0,1,2,3,4,11,13,14] (.loop tagtree_Tree_walk_v45_i1))) (.reg [⟨some 72,.mov (.t 11),none⟩,
⟨some 73,.mov (.t 13),none⟩,
⟨some 74,.fad 1 (.t 14),none⟩,
⟨some 75,.ld (.sc (.int .i64)) (.t 74),none⟩,
⟨some 76,.ld (.agg [(.int .i64),(.int .i64),.bool]) (.t 14),none⟩,
⟨some 12,.mov (.t 75),none⟩,
⟨some 77,.ids 3 (.t 72) (.t 73),none⟩,
⟨none,.st 3 (.t 77) (.t 76),none⟩] [0,1,2,3,4,11,12,13]))))) (.reg [⟨some 33,.mov (.t 13),none⟩,
⟨some 34,.bin .sub .i64 (.t 33) (.c (Go.Value.int Go.IntKind.i64 1)),none⟩,
⟨some 13,.mov (.t 34),none⟩] [0,1,2,3,4,11,12,13])))
def tagtree_Tree_walk_v45_f : IFn := ⟨93,[.t 10],(.seq (.reg [⟨some 10,.mov (.c (Go.Value.int Go.IntKind.i64 0)),none⟩] [0,1,2,3,4]) (.seq (.reg [⟨some 19,.mov (.t 0),none⟩,
⟨some 20,.nilc (.t 19),none⟩,
⟨some 21,.fad 0 (.t 20),none⟩,
⟨some 22,.ld (.sc .slc) (.t 21),none⟩,
⟨some 23,.len false (.t 22),none⟩,
⟨some 24,.mks [.int .i64 0,.int .i64 0,.bool false] 24 (.t 23) (.t 23),none⟩,
⟨some 11,.mov (.t 24),none⟩] [0,1,2,3,4,11]) (.seq (.reg [⟨some 12,.mov (.c (Go.Value.int Go.IntKind.i64 0)),none⟩] [0,1,2,3,4,11,12]) (.seq (.seq (.reg [⟨some 25,.mov (.t 0),none⟩,
⟨some 26,.nilc (.t 25),none⟩,
⟨some 27,.fad 0 (.t 26),none⟩,
⟨some 28,.ld (.sc .slc) (.t 27),none⟩,
⟨some 29,.len false (.t 28),none⟩,
⟨some 30,.bin .sub .i64 (.t 29) (.c (Go.Value.int Go.IntKind.i64 1)),none⟩,
⟨some 13,.mov (.t 30),none⟩] [0,1,2,3,4,11,12,13]) (.block 0 (.opq 0 [0,1,2,3,4,11,12,13] (.loop tagtree_Tree_walk_v45_i0)))) (.seq (.seq (.reg [⟨some 78,.mov (.t 11),none⟩,
⟨some 79,.len false (.t 78),none⟩,
⟨some 80,.mov (.c (Go.Value.int Go.IntKind.i64 0)),none⟩] [0,1,2,78,79,80]) (.block 4 (.opq 3 [0,1,2,78,79,80] (.loop tagtree_Tree_walk_v45_i3)))) (.seq (.reg [⟨some 10,.mov (.c (Go.Value.int Go.IntKind.i64 0)),none⟩] [10]) .ret))))))⟩
theorem tagtree_Tree_walk_v45_e3 {R : Type} (tagtree_Tree_at : tagtree_Tree_at_t R) (tagtree_Tree_Encode_1 : tagtree_Tree_Encode_1_t R) (tagtree_Tree_walk_v45_l0 : tagtree_Tree_walk_v45_l0_t R) (tagtree_Tree_walk_v45_l1 : tagtree_Tree_walk_v45_l1_t R) (tagtree_Tree_walk_v45_p2 : tagtree_Tree_walk_v45_p2_t R) (tagtree_Tree_walk_v45_l3 : tagtree_Tree_walk_v45_l3_t R) (k n : Nat) (p428 : Oa) (n429 : Int) (n430 : Int) (q431 : Oa) (l432 : Nat) (c433 : Nat) (n434 : Int) (n435 : Int) (H : Heap) (K : Xit → Env → Heap → Option R) : evJ (tagtree_Tree_walk_v45_Ct tagtree_Tree_at tagtree_Tree_Encode_1) (tagtree_Tree_walk_v45_Jt k tagtree_Tree_walk_v45_l0 tagtree_Tree_walk_v45_l1 tagtree_Tree_walk_v45_p2 tagtree_Tree_walk_v45_l3) tagtree_Tree_walk_v45_i3 (List.zip [0,1,2,78,79,80] [.pointer p428,.int .i64 n429,.int .i64 n430,.slice q431 l432 c433,.int .i64 n434,.int .i64 n435]) H (fun x e' H' => match x with | .normal => tagtree_Tree_walk_v45_aa3 tagtree_Tree_walk_v45_l3 n ((clean e' [0,1,2,78,79,80]).map (·.2)) H' K | x => K x (clean e' ((⟨[],[(4,[])],[]⟩ : Out).of x)) H') = tagtree_Tree_walk_v45_l3_b tagtree_Tree_at (tagtree_Tree_walk_v45_l3 (fun H => K (.exit 4) [] H) n) (fun H => K (.exit 4) [] H) k p428 n429 n430 q431 l432 c433 n434 n435 H := by kernel_rfl
theorem tagtree_Tree_walk_v45_j3 {R : Type} (k : Nat) : JS Try.prog 93 (tagtree_Tree_walk_v45_a3 R k k) [0,1,2,78,79,80] ⟨[],[(4,[])],[]⟩ (.loop (sel [1,1,1,1,0,1,0,0] (Try.f44.body.getD .skip))) :=
  loop_ok (nt := 93) (c := (sel [1,1,1,1,0,1,0,0] (Try.f44.body.getD .skip))) (C := tagtree_Tree_walk_v45_C R k) (an := An) (t := (.seq (.reg [0,1,2,78,79,80,81] []) (.seq (.cond .leaf .leaf) (.seq (.node (.seq (.reg [0,1,2,17,18,78,79,80] []) (.reg [0,1,2,78,79,80] [[],[],[],[],[0,1,2,3],[],[0,1,2,3,4,5],[0,1,2,3,4,5,6]]))) (.reg [0,1,2,78,79,80] []))))) (ic := tagtree_Tree_walk_v45_i3) (tagtree_Tree_walk_v45_S R k) (tagtree_Tree_walk_v45_J R k) (by kernel_rfl) (And.intro True.intro (And.intro (And.intro True.intro True.intro) (And.intro (And.intro True.intro True.intro) True.intro))) (tagtree_Tree_walk_v45_a3 R k) (fun vals H K => by unfold tagtree_Tree_walk_v45_a3 tagtree_Tree_walk_v45_aa3; split <;> rfl)
    (fun n vals H K r h => by
      unfold tagtree_Tree_walk_v45_a3 tagtree_Tree_walk_v45_aa3 at h
      split at h <;> first | (cases h; done) | exact Eq.trans (tagtree_Tree_walk_v45_e3 tagtree_Tree_at (tagtree_Tree_Encode_1 k) (tagtree_Tree_walk_v45_l0 k) (tagtree_Tree_walk_v45_l1 k) (tagtree_Tree_walk_v45_p2 k) (tagtree_Tree_walk_v45_l3 k) k n _ _ _ _ _ _ _ _ H K) h) k
theorem tagtree_Tree_walk_v45_e2 {R : Type} (tagtree_Tree_at : tagtree_Tree_at_t R) (tagtree_Tree_Encode_1 : tagtree_Tree_Encode_1_t R) (tagtree_Tree_walk_v45_l0 : tagtree_Tree_walk_v45_l0_t R) (tagtree_Tree_walk_v45_l1 : tagtree_Tree_walk_v45_l1_t R) (tagtree_Tree_walk_v45_p2 : tagtree_Tree_walk_v45_p2_t R) (tagtree_Tree_walk_v45_l3 : tagtree_Tree_walk_v45_l3_t R) (k : Nat) (p317 : Oa) (n318 : Int) (n319 : Int) (n320 : Int) (p321 : Oa) (q322 : Oa) (l323 : Nat) (c324 : Nat) (n325 : Int) (p326 : Oa) (H : Heap) (K : Xit → Env → Heap → Option R) : evJ (tagtree_Tree_walk_v45_Ct tagtree_Tree_at tagtree_Tree_Encode_1) (tagtree_Tree_walk_v45_Jt k tagtree_Tree_walk_v45_l0 tagtree_Tree_walk_v45_l1 tagtree_Tree_walk_v45_p2 tagtree_Tree_walk_v45_l3) tagtree_Tree_walk_v45_i2 (List.zip [0,1,2,3,4,11,13,14] [.pointer p317,.int .i64 n318,.int .i64 n319,.int .i64 n320,.func (.func 45) ⟨[]⟩ ⟨[.pointer p321]⟩,.slice q322 l323 c324,.int .i64 n325,.pointer p326]) H (fun x e' H' => K x (clean e' ((⟨[0,1,2,3,4,11,13,14],[(2,[0,1,2,3,4,11,13,14])],[]⟩ : Out).of x)) H') = tagtree_Tree_walk_v45_p2_b k p317 n318 n319 n320 p321 q322 l323 c324 n325 p326 H (fun p1404 n1405 n1406 n1407 p1408 q1409 l1410 c1411 n1412 p1413 => K (.exit 2) [(0,.pointer p1404),(1,.int .i64 n1405),(2,.int .i64 n1406),(3,.int .i64 n1407),(4,.func (.func 45) #[] ⟨[.pointer p1408]⟩),(11,.slice q1409 l1410 c1411),(13,.int .i64 n1412),(14,.pointer p1413)] H) (fun p1414 n1415 n1416 n1417 p1418 q1419 l1420 c1421 n1422 p1423 => K .normal [(0,.pointer p1414),(1,.int .i64 n1415),(2,.int .i64 n1416),(3,.int .i64 n1417),(4,.func (.func 45) #[] ⟨[.pointer p1418]⟩),(11,.slice q1419 l1420 c1421),(13,.int .i64 n1422),(14,.pointer p1423)] H) := by kernel_rfl
theorem tagtree_Tree_walk_v45_j2 {R : Type} (k : Nat) : JS Try.prog 93 (tagtree_Tree_walk_v45_a2 R k k) [0,1,2,3,4,11,13,14] ⟨[0,1,2,3,4,11,13,14],[(2,[0,1,2,3,4,11,13,14])],[]⟩ (sel [1,1,1,0,1,0,0,1,0,0,1,1,0,0,0,0] (Try.f44.body.getD .skip)) :=
  piece_ok (nt := 93) (c := (sel [1,1,1,0,1,0,0,1,0,0,1,1,0,0,0,0] (Try.f44.body.getD .skip))) (C := tagtree_Tree_walk_v45_C R k) (an := An) (t := (.seq (.reg [0,1,2,3,4,11,13,14,55] []) (.cond .leaf .leaf))) (ic := tagtree_Tree_walk_v45_i2) (tagtree_Tree_walk_v45_S R k) (tagtree_Tree_walk_v45_J R k) (by kernel_rfl) (And.intro True.intro (And.intro True.intro True.intro)) (tagtree_Tree_walk_v45_a2 R k k)
    (fun vals H K r h => by
      unfold tagtree_Tree_walk_v45_a2 tagtree_Tree_walk_v45_aa2 at h
      split at h <;> first | (cases h; done) | exact Eq.trans (tagtree_Tree_walk_v45_e2 tagtree_Tree_at (tagtree_Tree_Encode_1 k) (tagtree_Tree_walk_v45_l0 k) (tagtree_Tree_walk_v45_l1 k) (tagtree_Tree_walk_v45_p2 k) (tagtree_Tree_walk_v45_l3 k) k _ _ _ _ _ _ _ _ _ _ H K) h)
theorem tagtree_Tree_walk_v45_e1 {R : Type} (tagtree_Tree_at : tagtree_Tree_at_t R) (tagtree_Tree_Encode_1 : tagtree_Tree_Encode_1_t R) (tagtree_Tree_walk_v45_l0 : tagtree_Tree_walk_v45_l0_t R) (tagtree_Tree_walk_v45_l1 : tagtree_Tree_walk_v45_l1_t R) (tagtree_Tree_walk_v45_p2 : tagtree_Tree_walk_v45_p2_t R) (tagtree_Tree_walk_v45_l3 : tagtree_Tree_walk_v45_l3_t R) (k n : Nat) (p307 : Oa) (n308 : Int) (n309 : Int) (n310 : Int) (p311 : Oa) (q312 : Oa) (l313 : Nat) (c314 : Nat) (n315 : Int) (p316 : Oa) (H : Heap) (K : Xit → Env → Heap → Option R) : evJ (tagtree_Tree_walk_v45_Ct tagtree_Tree_at tagtree_Tree_Encode_1) (tagtree_Tree_walk_v45_Jt k tagtree_Tree_walk_v45_l0 tagtree_Tree_walk_v45_l1 tagtree_Tree_walk_v45_p2 tagtree_Tree_walk_v45_l3) tagtree_Tree_walk_v45_i1 (List.zip [0,1,2,3,4,11,13,14] [.pointer p307,.int .i64 n308,.int .i64 n309,.int .i64 n310,.func (.func 45) ⟨[]⟩ ⟨[.pointer p311]⟩,.slice q312 l313 c314,.int .i64 n315,.pointer p316]) H (fun x e' H' => match x with | .normal => tagtree_Tree_walk_v45_aa1 tagtree_Tree_walk_v45_l1 n ((clean e' [0,1,2,3,4,11,13,14]).map (·.2)) H' K | x => K x (clean e' ((⟨[],[(2,[0,1,2,3,4,11,13,14])],[10]⟩ : Out).of x)) H') = tagtree_Tree_walk_v45_l1_b tagtree_Tree_walk_v45_p2 tagtree_Tree_Encode_1 (tagtree_Tree_walk_v45_l1 (fun p1393 n1394 n1395 n1396 p1397 q1398 l1399 c1400 n1401 p1402 H => K (.exit 2) [(0,.pointer p1393),(1,.int .i64 n1394),(2,.int .i64 n1395),(3,.int .i64 n1396),(4,.func (.func 45) #[] ⟨[.pointer p1397]⟩),(11,.slice q1398 l1399 c1400),(13,.int .i64 n1401),(14,.pointer p1402)] H) (fun n1403 H => K .ret [(10,.int .i64 n1403)] H) n) (fun p1393 n1394 n1395 n1396 p1397 q1398 l1399 c1400 n1401 p1402 H => K (.exit 2) [(0,.pointer p1393),(1,.int .i64 n1394),(2,.int .i64 n1395),(3,.int .i64 n1396),(4,.func (.func 45) #[] ⟨[.pointer p1397]⟩),(11,.slice q1398 l1399 c1400),(13,.int .i64 n1401),(14,.pointer p1402)] H) (fun n1403 H => K .ret [(10,.int .i64 n1403)] H) k p307 n308 n309 n310 p311 q312 l313 c314 n315 p316 H := by kernel_rfl
theorem tagtree_Tree_walk_v45_j1 {R : Type} (k : Nat) : JS Try.prog 93 (tagtree_Tree_walk_v45_a1 R k k) [0,1,2,3,4,11,13,14] ⟨[],[(2,[0,1,2,3,4,11,13,14])],[10]⟩ (.loop (sel [1,1,1,0,1,0,0,1,0,0,1,1,0,0,0] (Try.f44.body.getD .skip))) :=
  loop_ok (nt := 93) (c := (sel [1,1,1,0,1,0,0,1,0,0,1,1,0,0,0] (Try.f44.body.getD .skip))) (C := tagtree_Tree_walk_v45_C R k) (an := An) (t := (.seq (.opq 2 [0,1,2,3,4,11,13,14] ⟨[0,1,2,3,4,11,13,14],[(2,[0,1,2,3,4,11,13,14])],[]⟩ (.seq (.reg [0,1,2,3,4,11,13,14,55] []) (.cond .leaf .leaf))) (.node (.seq (.reg [0,1,2,3,4,11,13,14,15,16] []) (.seq (.seq (.reg [0,1,2,3,4,11,13,14,15,16,63] []) (.cond (.seq (.reg [10] []) .leaf) .leaf)) (.seq (.reg [0,1,2,3,4,11,13,14,66] []) (.cond (.reg [0,1,2,3,4,11,13,14] []) (.reg [0,1,2,3,4,11,13,14] [])))))))) (ic := tagtree_Tree_walk_v45_i1) (tagtree_Tree_walk_v45_S R k) (tagtree_Tree_walk_v45_J R k) (by kernel_rfl) (And.intro (tagtree_Tree_walk_v45_j2 k) (And.intro True.intro (And.intro (And.intro True.intro (And.intro (And.intro True.intro True.intro) True.intro)) (And.intro True.intro (And.intro True.intro True.intro))))) (tagtree_Tree_walk_v45_a1 R k) (fun vals H K => by unfold tagtree_Tree_walk_v45_a1 tagtree_Tree_walk_v45_aa1; split <;> rfl)
    (fun n vals H K r h => by
      unfold tagtree_Tree_walk_v45_a1 tagtree_Tree_walk_v45_aa1 at h
      split at h <;> first | (cases h; done) | exact Eq.trans (tagtree_Tree_walk_v45_e1 tagtree_Tree_at (tagtree_Tree_Encode_1 k) (tagtree_Tree_walk_v45_l0 k) (tagtree_Tree_walk_v45_l1 k) (tagtree_Tree_walk_v45_p2 k) (tagtree_Tree_walk_v45_l3 k) k n _ _ _ _ _ _ _ _ _ _ H K) h) k
theorem tagtree_Tree_walk_v45_e0 {R : Type} (tagtree_Tree_at : tagtree_Tree_at_t R) (tagtree_Tree_Encode_1 : tagtree_Tree_Encode_1_t R) (tagtree_Tree_walk_v45_l0 : tagtree_Tree_walk_v45_l0_t R) (tagtree_Tree_walk_v45_l1 : tagtree_Tree_walk_v45_l1_t R) (tagtree_Tree_walk_v45_p2 : tagtree_Tree_walk_v45_p2_t R) (tagtree_Tree_walk_v45_l3 : tagtree_Tree_walk_v45_l3_t R) (k n : Nat) (p285 : Oa) (n286 : Int) (n287 : Int) (n288 : Int) (p289 : Oa) (q290 : Oa) (l291 : Nat) (c292 : Nat) (n293 : Int) (n294 : Int) (H : Heap) (K : Xit → Env → Heap → Option R) : evJ (tagtree_Tree_walk_v45_Ct tagtree_Tree_at tagtree_Tree_Encode_1) (tagtree_Tree_walk_v45_Jt k tagtree_Tree_walk_v45_l0 tagtree_Tree_walk_v45_l1 tagtree_Tree_walk_v45_p2 tagtree_Tree_walk_v45_l3) tagtree_Tree_walk_v45_i0 (List.zip [0,1,2,3,4,11,12,13] [.pointer p285,.int .i64 n286,.int .i64 n287,.int .i64 n288,.func (.func 45) ⟨[]⟩ ⟨[.pointer p289]⟩,.slice q290 l291 c292,.int .i64 n293,.int .i64 n294]) H (fun x e' H' => match x with | .normal => tagtree_Tree_walk_v45_aa0 tagtree_Tree_walk_v45_l0 n ((clean e' [0,1,2,3,4,11,12,13]).map (·.2)) H' K | x => K x (clean e' ((⟨[],[(0,[0,1,2,11])],[10]⟩ : Out).of x)) H') = tagtree_Tree_walk_v45_l0_b tagtree_Tree_at tagtree_Tree_walk_v45_l1 (tagtree_Tree_walk_v45_l0 (fun p1386 n1387 n1388 q1389 l1390 c1391 H => K (.exit 0) [(0,.pointer p1386),(1,.int .i64 n1387),(2,.int .i64 n1388),(11,.slice q1389 l1390 c1391)] H) (fun n1392 H => K .ret [(10,.int .i64 n1392)] H) n) (fun p1386 n1387 n1388 q1389 l1390 c1391 H => K (.exit 0) [(0,.pointer p1386),(1,.int .i64 n1387),(2,.int .i64 n1388),(11,.slice q1389 l1390 c1391)] H) (fun n1392 H => K .ret [(10,.int .i64 n1392)] H) k p285 n286 n287 n288 p289 q290 l291 c292 n293 n294 H := by kernel_rfl
theorem tagtree_Tree_walk_v45_j0 {R : Type} (k : Nat) : JS Try.prog 93 (tagtree_Tree_walk_v45_a0 R k k) [0,1,2,3,4,11,12,13] ⟨[],[(0,[0,1,2,11])],[10]⟩ (.loop (sel [1,1,1,0,1,0,0] (Try.f44.body.getD .skip))) :=
  loop_ok (nt := 93) (c := (sel [1,1,1,0,1,0,0] (Try.f44.body.getD .skip))) (C := tagtree_Tree_walk_v45_C R k) (an := An) (t := (.seq (.seq (.reg [0,1,2,3,4,11,12,13,32] []) (.cond .leaf .leaf)) (.seq (.node (.seq (.reg [0,1,2,3,4,11,12,13,14] []) (.seq (.reg [0,1,2,3,4,11,13,14] []) (.seq (.node (.opq 1 [0,1,2,3,4,11,13,14] ⟨[],[(2,[0,1,2,3,4,11,13,14])],[10]⟩ (.node (.seq (.opq 2 [0,1,2,3,4,11,13,14] ⟨[0,1,2,3,4,11,13,14],[(2,[0,1,2,3,4,11,13,14])],[]⟩ (.seq (.reg [0,1,2,3,4,11,13,14,55] []) (.cond .leaf .leaf))) (.node (.seq (.reg [0,1,2,3,4,11,13,14,15,16] []) (.seq (.seq (.reg [0,1,2,3,4,11,13,14,15,16,63] []) (.cond (.seq (.reg [10] []) .leaf) .leaf)) (.seq (.reg [0,1,2,3,4,11,13,14,66] []) (.cond (.reg [0,1,2,3,4,11,13,14] []) (.reg [0,1,2,3,4,11,13,14] [])))))))))) (.reg [0,1,2,3,4,11,12,13] [[],[],[],[2],[],[2,3],[0,1,2,3,4,5],[0,1,2,3,4,5,6]]))))) (.reg [0,1,2,3,4,11,12,13] [])))) (ic := tagtree_Tree_walk_v45_i0) (tagtree_Tree_walk_v45_S R k) (tagtree_Tree_walk_v45_J R k) (by kernel_rfl) (And.intro (And.intro True.intro (And.intro True.intro True.intro)) (And.intro (And.intro True.intro (And.intro True.intro (And.intro (tagtree_Tree_walk_v45_j1 k) True.intro))) True.intro)) (tagtree_Tree_walk_v45_a0 R k) (fun vals H K => by unfold tagtree_Tree_walk_v45_a0 tagtree_Tree_walk_v45_aa0; split <;> rfl)
    (fun n vals H K r h => by
      unfold tagtree_Tree_walk_v45_a0 tagtree_Tree_walk_v45_aa0 at h
      split at h <;> first | (cases h; done) | exact Eq.trans (tagtree_Tree_walk_v45_e0 tagtree_Tree_at (tagtree_Tree_Encode_1 k) (tagtree_Tree_walk_v45_l0 k) (tagtree_Tree_walk_v45_l1 k) (tagtree_Tree_walk_v45_p2 k) (tagtree_Tree_walk_v45_l3 k) k n _ _ _ _ _ _ _ _ _ _ H K) h) k
def tagtree_Tree_walk_v45_ca {R : Type} (f : tagtree_Tree_walk_v45_t R) (args : List Value) (H : Heap) (K : Value → Heap → Option R) : Option R :=
  match args with
  | [.pointer p266,.int .i64 n267,.int .i64 n268,.int .i64 n269,.func (.func 45) ⟨[]⟩ ⟨[.pointer p270]⟩] => f p266 n267 n268 n269 p270 H (fun n1424 H => K (.int .i64 n1424) H)
  | _ => none
def tagtree_Tree_walk_v45_c (R : Type) (k : Nat) (args : List Value) (H : Heap) (K : Value → Heap → Option R) : Option R := tagtree_Tree_walk_v45_ca (tagtree_Tree_walk_v45 k) args H K
theorem tagtree_Tree_walk_v45_e {R : Type} (tagtree_Tree_at : tagtree_Tree_at_t R) (tagtree_Tree_Encode_1 : tagtree_Tree_Encode_1_t R) (tagtree_Tree_walk_v45_l0 : tagtree_Tree_walk_v45_l0_t R) (tagtree_Tree_walk_v45_l1 : tagtree_Tree_walk_v45_l1_t R) (tagtree_Tree_walk_v45_p2 : tagtree_Tree_walk_v45_p2_t R) (tagtree_Tree_walk_v45_l3 : tagtree_Tree_walk_v45_l3_t R) (k : Nat) (p266 : Oa) (n267 : Int) (n268 : Int) (n269 : Int) (p270 : Oa) (H : Heap) (K : Value → Heap → Option R) : evF (tagtree_Tree_walk_v45_Ct tagtree_Tree_at tagtree_Tree_Encode_1) (tagtree_Tree_walk_v45_Jt k tagtree_Tree_walk_v45_l0 tagtree_Tree_walk_v45_l1 tagtree_Tree_walk_v45_p2 tagtree_Tree_walk_v45_l3) tagtree_Tree_walk_v45_f [.pointer p266,.int .i64 n267,.int .i64 n268,.int .i64 n269,.func (.func 45) ⟨[]⟩ ⟨[.pointer p270]⟩] H K = tagtree_Tree_walk_v45_b tagtree_Tree_walk_v45_l0 tagtree_Tree_walk_v45_l3 k p266 n267 n268 n269 p270 H (fun n1424 H => K (.int .i64 n1424) H) := by kernel_rfl
theorem tagtree_Tree_walk_v45_cs (R : Type) (k : Nat) : ∀ args H K r,tagtree_Tree_walk_v45_c R k args H K = some r → ∃ v H',Tri Try.prog 44 args H v H' ∧ K v H' = some r := by
  intro args H K r h
  unfold tagtree_Tree_walk_v45_c tagtree_Tree_walk_v45_ca at h
  split at h
  · exact evF_ok (C := tagtree_Tree_walk_v45_C R k) (an := An) (t := tagtree_Tree_walk_v45_at) (fn := Try.f44) (c := (Try.f44.body.getD .skip)) (ifn := tagtree_Tree_walk_v45_f) (tagtree_Tree_walk_v45_S R k) (tagtree_Tree_walk_v45_J R k) Try.func44 (by kernel_rfl) (by kernel_rfl) (And.intro True.intro (And.intro True.intro (And.intro True.intro (And.intro (And.intro True.intro (tagtree_Tree_walk_v45_j0 k)) (And.intro (And.intro True.intro (tagtree_Tree_walk_v45_j3 k)) (And.intro True.intro True.intro)))))) rfl (Eq.trans (tagtree_Tree_walk_v45_e tagtree_Tree_at (tagtree_Tree_Encode_1 k) (tagtree_Tree_walk_v45_l0 k) (tagtree_Tree_walk_v45_l1 k) (tagtree_Tree_walk_v45_p2 k) (tagtree_Tree_walk_v45_l3 k) k _ _ _ _ _ H K) h)
  · cases h
/-! ### tagtree_Tree_Encode: function 21 -/
abbrev tagtree_Tree_Encode_p0_t (R : Type) : Type := Oa → Int → Int → Int → Oa → Heap → (Oa → Int → Int → Int → Oa → Heap → Option R) → (Int → Heap → Option R) → Option R
def tagtree_Tree_Encode_p0_b {R : Type} (tagtree_Tree_ok : tagtree_Tree_ok_t R) (bitio_Writer_Bits : bitio_Writer_Bits_t R) (k : Nat) (p200 : Oa) (n201 : Int) (n202 : Int) (n203 : Int) (p204 : Oa) (H : Heap) (KN : Oa → Int → Int → Int → Oa → Heap → Option R) (KR : Int → Heap → Option R) : Option R :=
tagtree_Tree_ok p200 H fun t205 =>
bif (!t205) then (KR 6 H)
 else (hnil p200 fun p206 =>
hfad 2 p206 fun p207 =>
ldB H p207 fun t208 =>
bif t208 then (KR 6 H)
 else (ldP H p204 fun p209 =>
bitio_Writer_Bits p209 0 0 H fun n210 H211 =>
bif (n210 != 0) then (KR 6 H211)
 else (KN p200 n201 n202 n203 p204 H211)))
def tagtree_Tree_Encode_p0 {R : Type} (k : Nat) (p200 : Oa) (n201 : Int) (n202 : Int) (n203 : Int) (p204 : Oa) (H : Heap) (KN : Oa → Int → Int → Int → Oa → Heap → Option R) (KR : Int → Heap → Option R) : Option R := tagtree_Tree_Encode_p0_b tagtree_Tree_ok (bitio_Writer_Bits k) k p200 n201 n202 n203 p204 H KN KR

abbrev tagtree_Tree_Encode_p1_t (R : Type) : Type := Oa → Int → Int → Int → Oa → Heap → (Oa → Int → Int → Int → Oa → Heap → Option R) → (Int → Heap → Option R) → Option R
def tagtree_Tree_Encode_p1_b {R : Type} (tagtree_Tree_has : tagtree_Tree_has_t R) (k : Nat) (p224 : Oa) (n225 : Int) (n226 : Int) (n227 : Int) (p228 : Oa) (H : Heap) (KN : Oa → Int → Int → Int → Oa → Heap → Option R) (KR : Int → Heap → Option R) : Option R :=
tagtree_Tree_has p224 n225 n226 H fun t229 H230 =>
bif (!t229) then (KR 2 H230)
 else (bif decide (n227 < 0) then (KR 2 H230)
 else (bif decide (n227 > 65536) then (KR 2 H230)
 else (KN p224 n225 n226 n227 p228 H230)))
def tagtree_Tree_Encode_p1 {R : Type} (k : Nat) (p224 : Oa) (n225 : Int) (n226 : Int) (n227 : Int) (p228 : Oa) (H : Heap) (KN : Oa → Int → Int → Int → Oa → Heap → Option R) (KR : Int → Heap → Option R) : Option R := tagtree_Tree_Encode_p1_b tagtree_Tree_has k p224 n225 n226 n227 p228 H KN KR

abbrev tagtree_Tree_Encode_p2_t (R : Type) : Type := Oa → Int → Int → Int → Oa → Heap → (Oa → Int → Int → Int → Oa → Heap → Option R) → Option R
def tagtree_Tree_Encode_p2_b {R : Type} (tagtree_Tree_minima : tagtree_Tree_minima_t R) (k : Nat) (p243 : Oa) (n244 : Int) (n245 : Int) (n246 : Int) (p247 : Oa) (H : Heap) (KN : Oa → Int → Int → Int → Oa → Heap → Option R) : Option R :=
hnil p243 fun p248 =>
hfad 1 p248 fun p249 =>
ldB H p249 fun t250 =>
bif (!t250) then (hnil p243 fun p251 =>
hfad 1 p251 fun p252 =>
hst1 H p252 (.bool true) fun H253 =>
tagtree_Tree_minima p243 H253 fun H254 =>
KN p243 n244 n245 n246 p247 H254)
 else (KN p243 n244 n245 n246 p247 H)
def tagtree_Tree_Encode_p2 {R : Type} (k : Nat) (p243 : Oa) (n244 : Int) (n245 : Int) (n246 : Int) (p247 : Oa) (H : Heap) (KN : Oa → Int → Int → Int → Oa → Heap → Option R) : Option R := tagtree_Tree_Encode_p2_b (tagtree_Tree_minima k) k p243 n244 n245 n246 p247 H KN

abbrev tagtree_Tree_Encode_t (R : Type) : Type := Oa → Oa → Int → Int → Int → Heap → (Int → Heap → Option R) → Option R

def tagtree_Tree_Encode_b {R : Type} (tagtree_Tree_Encode_p0 : tagtree_Tree_Encode_p0_t R) (tagtree_Tree_Encode_p1 : tagtree_Tree_Encode_p1_t R) (tagtree_Tree_Encode_p2 : tagtree_Tree_Encode_p2_t R) (tagtree_Tree_walk_v45 : tagtree_Tree_walk_v45_t R) (k : Nat) (p193 : Oa) (p194 : Oa) (n195 : Int) (n196 : Int) (n197 : Int) (H : Heap) (K : Int → Heap → Option R) : Option R :=
hal H [.pointer p194] fun p198 H199 =>
tagtree_Tree_Encode_p0 p193 n195 n196 n197 p198 H199 (fun p218 n219 n220 n221 p222 H223 =>
tagtree_Tree_Encode_p1 p218 n219 n220 n221 p222 H223 (fun p237 n238 n239 n240 p241 H242 =>
tagtree_Tree_Encode_p2 p237 n238 n239 n240 p241 H242 (fun p260 n261 n262 n263 p264 H265 =>
tagtree_Tree_walk_v45 p260 n261 n262 n263 p264 H265 fun n266 H267 =>
K n266 H267)) (fun n268 H269 =>
K n268 H269)) (fun n270 H271 =>
K n270 H271)

def tagtree_Tree_Encode {R : Type} (k : Nat) (p193 : Oa) (p194 : Oa) (n195 : Int) (n196 : Int) (n197 : Int) (H : Heap) (K : Int → Heap → Option R) : Option R := tagtree_Tree_Encode_b (tagtree_Tree_Encode_p0 k) (tagtree_Tree_Encode_p1 k) (tagtree_Tree_Encode_p2 k) (tagtree_Tree_walk_v45 k) k p193 p194 n195 n196 n197 H K

def tagtree_Tree_Encode_Ct {R : Type} (tagtree_Tree_ok : tagtree_Tree_ok_t R) (bitio_Writer_Bits : bitio_Writer_Bits_t R) (tagtree_Tree_has : tagtree_Tree_has_t R) (tagtree_Tree_minima : tagtree_Tree_minima_t R) (tagtree_Tree_walk_v45 : tagtree_Tree_walk_v45_t R) : Tab R := tcons 38 (tagtree_Tree_ok_ca tagtree_Tree_ok) <| tcons 42 (bitio_Writer_Bits_ca bitio_Writer_Bits) <| tcons 39 (tagtree_Tree_has_ca tagtree_Tree_has) <| tcons 43 (tagtree_Tree_minima_ca tagtree_Tree_minima) <| tcons 44 (tagtree_Tree_walk_v45_ca tagtree_Tree_walk_v45) <| fun _ _ _ _ => none
def tagtree_Tree_Encode_C (R : Type) (k : Nat) : Tab R := tagtree_Tree_Encode_Ct tagtree_Tree_ok (bitio_Writer_Bits k) tagtree_Tree_has (tagtree_Tree_minima k) (tagtree_Tree_walk_v45 k)
theorem tagtree_Tree_Encode_S (R : Type) (k : Nat) : CSound Try.prog (tagtree_Tree_Encode_C R k) := csound_cons (tagtree_Tree_ok_cs R k) <| csound_cons (bitio_Writer_Bits_cs R k) <| csound_cons (tagtree_Tree_has_cs R k) <| csound_cons (tagtree_Tree_minima_cs R k) <| csound_cons (tagtree_Tree_walk_v45_cs R k) <| csound_nil
def tagtree_Tree_Encode_aa0 {R : Type} (f : tagtree_Tree_Encode_p0_t R) (n : Nat) (vals : List Value) (H : Heap) (K : Xit → Env → Heap → Option R) : Option R :=
  match vals with
  | [.pointer p200,.int .i64 n201,.int .i64 n202,.int .i64 n203,.pointer p204] => f p200 n201 n202 n203 p204 H (fun p1425 n1426 n1427 n1428 p1429 H => K .normal [(0,.pointer p1425),(2,.int .i64 n1426),(3,.int .i64 n1427),(4,.int .i64 n1428),(6,.pointer p1429)] H) (fun n1430 H => K .ret [(10,.int .i64 n1430)] H)
  | _ => none
def tagtree_Tree_Encode_a0 (R : Type) (k n : Nat) (vals : List Value) (H : Heap) (K : Xit → Env → Heap → Option R) : Option R := tagtree_Tree_Encode_aa0 (tagtree_Tree_Encode_p0 k) n vals H K
def tagtree_Tree_Encode_aa1 {R : Type} (f : tagtree_Tree_Encode_p1_t R) (n : Nat) (vals : List Value) (H : Heap) (K : Xit → Env → Heap → Option R) : Option R :=
  match vals with
  | [.pointer p224,.int .i64 n225,.int .i64 n226,.int .i64 n227,.pointer p228] => f p224 n225 n226 n227 p228 H (fun p1431 n1432 n1433 n1434 p1435 H => K .normal [(0,.pointer p1431),(2,.int .i64 n1432),(3,.int .i64 n1433),(4,.int .i64 n1434),(6,.pointer p1435)] H) (fun n1436 H => K .ret [(10,.int .i64 n1436)] H)
  | _ => none
def tagtree_Tree_Encode_a1 (R : Type) (k n : Nat) (vals : List Value) (H : Heap) (K : Xit → Env → Heap → Option R) : Option R := tagtree_Tree_Encode_aa1 (tagtree_Tree_Encode_p1 k) n vals H K
def tagtree_Tree_Encode_aa2 {R : Type} (f : tagtree_Tree_Encode_p2_t R) (n : Nat) (vals : List Value) (H : Heap) (K : Xit → Env → Heap → Option R) : Option R :=
  match vals with
  | [.pointer p243,.int .i64 n244,.int .i64 n245,.int .i64 n246,.pointer p247] => f p243 n244 n245 n246 p247 H (fun p1437 n1438 n1439 n1440 p1441 H => K .normal [(0,.pointer p1437),(2,.int .i64 n1438),(3,.int .i64 n1439),(4,.int .i64 n1440),(6,.pointer p1441)] H)
  | _ => none
def tagtree_Tree_Encode_a2 (R : Type) (k n : Nat) (vals : List Value) (H : Heap) (K : Xit → Env → Heap → Option R) : Option R := tagtree_Tree_Encode_aa2 (tagtree_Tree_Encode_p2 k) n vals H K
def tagtree_Tree_Encode_Jt {R : Type} (k : Nat) (tagtree_Tree_Encode_p0 : tagtree_Tree_Encode_p0_t R) (tagtree_Tree_Encode_p1 : tagtree_Tree_Encode_p1_t R) (tagtree_Tree_Encode_p2 : tagtree_Tree_Encode_p2_t R) : JTab R := tcons 0 (tagtree_Tree_Encode_aa0 tagtree_Tree_Encode_p0 k) <| tcons 1 (tagtree_Tree_Encode_aa1 tagtree_Tree_Encode_p1 k) <| tcons 2 (tagtree_Tree_Encode_aa2 tagtree_Tree_Encode_p2 k) <| fun _ _ _ _ => none
def tagtree_Tree_Encode_J (R : Type) (k : Nat) : JTab R := tagtree_Tree_Encode_Jt k (tagtree_Tree_Encode_p0 k) (tagtree_Tree_Encode_p1 k) (tagtree_Tree_Encode_p2 k)
def tagtree_Tree_Encode_at : AT := (.seq (.reg [0,2,3,4,6] []) (.seq (.opq 0 [0,2,3,4,6] ⟨[0,2,3,4,6],[],[10]⟩ (.seq (.reg [0,2,3,4,6,24] []) (.cond (.seq (.reg [10] []) .leaf) .leaf))) (.seq (.opq 1 [0,2,3,4,6] ⟨[0,2,3,4,6],[],[10]⟩ (.seq (.reg [0,2,3,4,6,37] []) (.cond (.seq (.reg [10] []) .leaf) .leaf))) (.seq (.opq 2 [0,2,3,4,6] ⟨[0,2,3,4,6],[],[]⟩ (.seq (.reg [0,2,3,4,6,42] []) (.cond (.seq (.reg [0,2,3,4,6] []) (.reg [0,2,3,4,6] [])) .leaf))) (.seq (.reg [10] []) .leaf)))))
def tagtree_Tree_Encode_i2 : IC := (.seq (.reg [⟨some 38,.mov (.t 0),none⟩,
⟨some 39,.nilc (.t 38),none⟩,
⟨some 40,.fad 1 (.t 39),none⟩,
⟨some 41,.ld (.sc .bool) (.t 40),none⟩,
⟨some 42,.lnot (.t 41),none⟩] [0,2,3,4,6,42]) (.cond (.t 42) (.seq (.reg [⟨some 43,.mov (.t 0),none⟩,
⟨some 44,.nilc (.t 43),none⟩,
⟨some 45,.fad 1 (.t 44),none⟩,
⟨none,.st 1 (.t 45) (.c (Go.Value.bool true)),none⟩] [0,2,3,4,6]) (.reg [⟨some 46,.mov (.t 0),none⟩,
⟨some 47,.call 43 [(.t 46)] .none,none⟩] [0,2,3,4,6])) .skip))
def tagtree_Tree_Encode_i1 : IC := (.seq (.reg [⟨some 25,.mov (.t 0),none⟩,
⟨some 26,.mov (.t 2),none⟩,
⟨some 27,.mov (.t 3),none⟩,
⟨some 28,.call 39 [(.t 25),(.t 26),(.t 27)] (.one (.sc .bool)),none⟩,
⟨some 29,.lnot (.t 28),none⟩,
⟨some 30,.mov (.t 29),none⟩,
⟨some 31,.mov (.t 4),some (30,false)⟩,
⟨some 32,.cmp .lss (.t 31) (.c (Go.Value.int Go.IntKind.i64 0)),some (30,false)⟩,
⟨some 33,.pick (.t 30) (.c (Go.Value.bool true)) (.t 32),none⟩,
⟨some 34,.mov (.t 33),none⟩,
⟨some 35,.mov (.t 4),some (34,false)⟩,
⟨some 36,.cmp .gtr (.t 35) (.c (Go.Value.int Go.IntKind.i64 65536)),some (34,false)⟩,
⟨some 37,.pick (.t 34) (.c (Go.Value.bool true)) (.t 36),none⟩] [0,2,3,4,6,37]) (.cond (.t 37) (.seq (.reg [⟨some 10,.mov (.c (Go.Value.int Go.IntKind.i64 2)),none⟩] [10]) .ret) .skip))
def tagtree_Tree_Encode_i0 : IC := (.seq (.reg [⟨some 11,.mov (.t 0),none⟩,
⟨some 12,.call 38 [(.t 11)] (.one (.sc .bool)),none⟩,
⟨some 13,.lnot (.t 12),none⟩,
⟨some 14,.mov (.t 13),none⟩,
⟨some 15,.mov (.t 0),some (14,false)⟩,
⟨some 16,.nilc (.t 15),some (14,false)⟩,
⟨some 17,.fad 2 (.t 16),some (14,false)⟩,
⟨some 18,.ld (.sc .bool) (.t 17),some (14,false)⟩,
⟨some 19,.pick (.t 14) (.c (Go.Value.bool true)) (.t 18),none⟩,
⟨some 20,.mov (.t 19),none⟩,
⟨some 21,.ld (.sc .ptr) (.t 6),some (20,false)⟩,
⟨some 22,.call 42 [(.t 21),(.c (Go.Value.int Go.IntKind.i64 0)),(.c (Go.Value.int Go.IntKind.i64 0))] (.one (.sc (.int .i64))),some (20,false)⟩,
⟨some 23,.cmp .neq (.t 22) (.c (Go.Value.int Go.IntKind.i64 0)),some (20,false)⟩,
⟨some 24,.pick (.t 20) (.c (Go.Value.bool true)) (.t 23),none⟩] [0,2,3,4,6,24]) (.cond (.t 24) (.seq (.reg [⟨some 10,.mov (.c (Go.Value.int Go.IntKind.i64 6)),none⟩] [10]) .ret) .skip))
def tagtree_Tree_Encode_f : IFn := ⟨54,[.t 10],(.seq (.reg [⟨some 6,.box (.t 1),none⟩,
⟨some 10,.mov (.c (Go.Value.int Go.IntKind.i64 0)),none⟩] [0,2,3,4,6]) (.seq (.opq 0 [0,2,3,4,6] tagtree_Tree_Encode_i0) (.seq (.opq 1 [0,2,3,4,6] tagtree_Tree_Encode_i1) (.seq (.opq 2 [0,2,3,4,6] tagtree_Tree_Encode_i2) (.seq (.reg [⟨some 48,.mov (.t 0),none⟩,
⟨some 49,.mov (.t 2),none⟩,
⟨some 50,.mov (.t 3),none⟩,
⟨some 51,.mov (.t 4),none⟩,
⟨some 52,.mkf 45 [(.t 6)],none⟩,
⟨some 53,.call 44 [(.t 48),(.t 49),(.t 50),(.t 51),(.t 52)] (.one (.sc (.int .i64))),none⟩,
⟨some 10,.mov (.t 53),none⟩] [10]) .ret)))))⟩
theorem tagtree_Tree_Encode_e2 {R : Type} (tagtree_Tree_ok : tagtree_Tree_ok_t R) (bitio_Writer_Bits : bitio_Writer_Bits_t R) (tagtree_Tree_has : tagtree_Tree_has_t R) (tagtree_Tree_minima : tagtree_Tree_minima_t R) (tagtree_Tree_walk_v45 : tagtree_Tree_walk_v45_t R) (tagtree_Tree_Encode_p0 : tagtree_Tree_Encode_p0_t R) (tagtree_Tree_Encode_p1 : tagtree_Tree_Encode_p1_t R) (tagtree_Tree_Encode_p2 : tagtree_Tree_Encode_p2_t R) (k : Nat) (p243 : Oa) (n244 : Int) (n245 : Int) (n246 : Int) (p247 : Oa) (H : Heap) (K : Xit → Env → Heap → Option R) : evJ (tagtree_Tree_Encode_Ct tagtree_Tree_ok bitio_Writer_Bits tagtree_Tree_has tagtree_Tree_minima tagtree_Tree_walk_v45) (tagtree_Tree_Encode_Jt k tagtree_Tree_Encode_p0 tagtree_Tree_Encode_p1 tagtree_Tree_Encode_p2) tagtree_Tree_Encode_i2 (List.zip [0,2,3,4,6] [.pointer p243,.int .i64 n244,.int .i64 n245,.int .i64 n246,.pointer p247]) H (fun x e' H' => K x (clean e' ((⟨[0,2,3,4,6],[],[]⟩ : Out).of x)) H') = tagtree_Tree_Encode_p2_b tagtree_Tree_minima k p243 n244 n245 n246 p247 H (fun p1437 n1438 n1439 n1440 p1441 H => K .normal [(0,.pointer p1437),(2,.int .i64 n1438),(3,.int .i64 n1439),(4,.int .i64 n1440),(6,.pointer p1441)] H) := by kernel_rfl
theorem tagtree_Tree_Encode_j2 {R : Type} (k : Nat) : JS Try.prog 54 (tagtree_Tree_Encode_a2 R k k) [0,2,3,4,6] ⟨[0,2,3,4,6],[],[]⟩ (sel [1,1,1,0] (Try.f21.body.getD .skip)) :=
  piece_ok (nt := 54) (c := (sel [1,1,1,0] (Try.f21.body.getD .skip))) (C := tagtree_Tree_Encode_C R k) (an := An) (t := (.seq (.reg [0,2,3,4,6,42] []) (.cond (.seq (.reg [0,2,3,4,6] []) (.reg [0,2,3,4,6] [])) .leaf))) (ic := tagtree_Tree_Encode_i2) (tagtree_Tree_Encode_S R k) (tagtree_Tree_Encode_J R k) (by kernel_rfl) (And.intro True.intro (And.intro (And.intro True.intro True.intro) True.intro)) (tagtree_Tree_Encode_a2 R k k)
    (fun vals H K r h => by
      unfold tagtree_Tree_Encode_a2 tagtree_Tree_Encode_aa2 at h
      split at h <;> first | (cases h; done) | exact Eq.trans (tagtree_Tree_Encode_e2 tagtree_Tree_ok (bitio_Writer_Bits k) tagtree_Tree_has (tagtree_Tree_minima k) (tagtree_Tree_walk_v45 k) (tagtree_Tree_Encode_p0 k) (tagtree_Tree_Encode_p1 k) (tagtree_Tree_Encode_p2 k) k _ _ _ _ _ H K) h)
theorem tagtree_Tree_Encode_e1 {R : Type} (tagtree_Tree_ok : tagtree_Tree_ok_t R) (bitio_Writer_Bits : bitio_Writer_Bits_t R) (tagtree_Tree_has : tagtree_Tree_has_t R) (tagtree_Tree_minima : tagtree_Tree_minima_t R) (tagtree_Tree_walk_v45 : tagtree_Tree_walk_v45_t R) (tagtree_Tree_Encode_p0 : tagtree_Tree_Encode_p0_t R) (tagtree_Tree_Encode_p1 : tagtree_Tree_Encode_p1_t R) (tagtree_Tree_Encode_p2 : tagtree_Tree_Encode_p2_t R) (k : Nat) (p224 : Oa) (n225 : Int) (n226 : Int) (n227 : Int) (p228 : Oa) (H : Heap) (K : Xit → Env → Heap → Option R) : evJ (tagtree_Tree_Encode_Ct tagtree_Tree_ok bitio_Writer_Bits tagtree_Tree_has tagtree_Tree_minima tagtree_Tree_walk_v45) (tagtree_Tree_Encode_Jt k tagtree_Tree_Encode_p0 tagtree_Tree_Encode_p1 tagtree_Tree_Encode_p2) tagtree_Tree_Encode_i1 (List.zip [0,2,3,4,6] [.pointer p224,.int .i64 n225,.int .i64 n226,.int .i64 n227,.pointer p228]) H (fun x e' H' => K x (clean e' ((⟨[0,2,3,4,6],[],[10]⟩ : Out).of x)) H') = tagtree_Tree_Encode_p1_b tagtree_Tree_has k p224 n225 n226 n227 p228 H (fun p1431 n1432 n1433 n1434 p1435 H => K .normal [(0,.pointer p1431),(2,.int .i64 n1432),(3,.int .i64 n1433),(4,.int .i64 n1434),(6,.pointer p1435)] H) (fun n1436 H => K .ret [(10,.int .i64 n1436)] H) := by kernel_rfl
theorem tagtree_Tree_Encode_j1 {R : Type} (k : Nat) : JS Try.prog 54 (tagtree_Tree_Encode_a1 R k k) [0,2,3,4,6] ⟨[0,2,3,4,6],[],[10]⟩ (sel [1,1,0] (Try.f21.body.getD .skip)) :=
  piece_ok (nt := 54) (c := (sel [1,1,0] (Try.f21.body.getD .skip))) (C := tagtree_Tree_Encode_C R k) (an := An) (t := (.seq (.reg [0,2,3,4,6,37] []) (.cond (.seq (.reg [10] []) .leaf) .leaf))) (ic := tagtree_Tree_Encode_i1) (tagtree_Tree_Encode_S R k) (tagtree_Tree_Encode_J R k) (by kernel_rfl) (And.intro True.intro (And.intro (And.intro True.intro True.intro) True.intro)) (tagtree_Tree_Encode_a1 R k k)
    (fun vals H K r h => by
      unfold tagtree_Tree_Encode_a1 tagtree_Tree_Encode_aa1 at h
      split at h <;> first | (cases h; done) | exact Eq.trans (tagtree_Tree_Encode_e1 tagtree_Tree_ok (bitio_Writer_Bits k) tagtree_Tree_has (tagtree_Tree_minima k) (tagtree_Tree_walk_v45 k) (tagtree_Tree_Encode_p0 k) (tagtree_Tree_Encode_p1 k) (tagtree_Tree_Encode_p2 k) k _ _ _ _ _ H K) h)
theorem tagtree_Tree_Encode_e0 {R : Type} (tagtree_Tree_ok : tagtree_Tree_ok_t R) (bitio_Writer_Bits : bitio_Writer_Bits_t R) (tagtree_Tree_has : tagtree_Tree_has_t R) (tagtree_Tree_minima : tagtree_Tree_minima_t R) (tagtree_Tree_walk_v45 : tagtree_Tree_walk_v45_t R) (tagtree_Tree_Encode_p0 : tagtree_Tree_Encode_p0_t R) (tagtree_Tree_Encode_p1 : tagtree_Tree_Encode_p1_t R) (tagtree_Tree_Encode_p2 : tagtree_Tree_Encode_p2_t R) (k : Nat) (p200 : Oa) (n201 : Int) (n202 : Int) (n203 : Int) (p204 : Oa) (H : Heap) (K : Xit → Env → Heap → Option R) : evJ (tagtree_Tree_Encode_Ct tagtree_Tree_ok bitio_Writer_Bits tagtree_Tree_has tagtree_Tree_minima tagtree_Tree_walk_v45) (tagtree_Tree_Encode_Jt k tagtree_Tree_Encode_p0 tagtree_Tree_Encode_p1 tagtree_Tree_Encode_p2) tagtree_Tree_Encode_i0 (List.zip [0,2,3,4,6] [.pointer p200,.int .i64 n201,.int .i64 n202,.int .i64 n203,.pointer p204]) H (fun x e' H' => K x (clean e' ((⟨[0,2,3,4,6],[],[10]⟩ : Out).of x)) H') = tagtree_Tree_Encode_p0_b tagtree_Tree_ok bitio_Writer_Bits k p200 n201 n202 n203 p204 H (fun p1425 n1426 n1427 n1428 p1429 H => K .normal [(0,.pointer p1425),(2,.int .i64 n1426),(3,.int .i64 n1427),(4,.int .i64 n1428),(6,.pointer p1429)] H) (fun n1430 H => K .ret [(10,.int .i64 n1430)] H) := by kernel_rfl
theorem tagtree_Tree_Encode_j0 {R : Type} (k : Nat) : JS Try.prog 54 (tagtree_Tree_Encode_a0 R k k) [0,2,3,4,6] ⟨[0,2,3,4,6],[],[10]⟩ (sel [1,0] (Try.f21.body.getD .skip)) :=
  piece_ok (nt := 54) (c := (sel [1,0] (Try.f21.body.getD .skip))) (C := tagtree_Tree_Encode_C R k) (an := An) (t := (.seq (.reg [0,2,3,4,6,24] []) (.cond (.seq (.reg [10] []) .leaf) .leaf))) (ic := tagtree_Tree_Encode_i0) (tagtree_Tree_Encode_S R k) (tagtree_Tree_Encode_J R k) (by kernel_rfl) (And.intro True.intro (And.intro (And.intro True.intro True.intro) True.intro)) (tagtree_Tree_Encode_a0 R k k)
    (fun vals H K r h => by
      unfold tagtree_Tree_Encode_a0 tagtree_Tree_Encode_aa0 at h
      split at h <;> first | (cases h; done) | exact Eq.trans (tagtree_Tree_Encode_e0 tagtree_Tree_ok (bitio_Writer_Bits k) tagtree_Tree_has (tagtree_Tree_minima k) (tagtree_Tree_walk_v45 k) (tagtree_Tree_Encode_p0 k) (tagtree_Tree_Encode_p1 k) (tagtree_Tree_Encode_p2 k) k _ _ _ _ _ H K) h)
def tagtree_Tree_Encode_ca {R : Type} (f : tagtree_Tree_Encode_t R) (args : List Value) (H : Heap) (K : Value → Heap → Option R) : Option R :=
  match args with
  | [.pointer p193,.pointer p194,.int .i64 n195,.int .i64 n196,.int .i64 n197] => f p193 p194 n195 n196 n197 H (fun n1442 H => K (.int .i64 n1442) H)
  | _ => none
def tagtree_Tree_Encode_c (R : Type) (k : Nat) (args : List Value) (H : Heap) (K : Value → Heap → Option R) : Option R := tagtree_Tree_Encode_ca (tagtree_Tree_Encode k) args H K
theorem tagtree_Tree_Encode_e {R : Type} (tagtree_Tree_ok : tagtree_Tree_ok_t R) (bitio_Writer_Bits : bitio_Writer_Bits_t R) (tagtree_Tree_has : tagtree_Tree_has_t R) (tagtree_Tree_minima : tagtree_Tree_minima_t R) (tagtree_Tree_walk_v45 : tagtree_Tree_walk_v45_t R) (tagtree_Tree_Encode_p0 : tagtree_Tree_Encode_p0_t R) (tagtree_Tree_Encode_p1 : tagtree_Tree_Encode_p1_t R) (tagtree_Tree_Encode_p2 : tagtree_Tree_Encode_p2_t R) (k : Nat) (p193 : Oa) (p194 : Oa) (n195 : Int) (n196 : Int) (n197 : Int) (H : Heap) (K : Value → Heap → Option R) : evF (tagtree_Tree_Encode_Ct tagtree_Tree_ok bitio_Writer_Bits tagtree_Tree_has tagtree_Tree_minima tagtree_Tree_walk_v45) (tagtree_Tree_Encode_Jt k tagtree_Tree_Encode_p0 tagtree_Tree_Encode_p1 tagtree_Tree_Encode_p2) tagtree_Tree_Encode_f [.pointer p193,.pointer p194,.int .i64 n195,.int .i64 n196,.int .i64 n197] H K = tagtree_Tree_Encode_b tagtree_Tree_Encode_p0 tagtree_Tree_Encode_p1 tagtree_Tree_Encode_p2 tagtree_Tree_walk_v45 k p193 p194 n195 n196 n197 H (fun n1442 H => K (.int .i64 n1442) H) := by kernel_rfl
theorem tagtree_Tree_Encode_cs (R : Type) (k : Nat) : ∀ args H K r,tagtree_Tree_Encode_c R k args H K = some r → ∃ v H',Tri Try.prog 21 args H v H' ∧ K v H' = some r := by
  intro args H K r h
  unfold tagtree_Tree_Encode_c tagtree_Tree_Encode_ca at h
  split at h
  · exact evF_ok (C := tagtree_Tree_Encode_C R k) (an := An) (t := tagtree_Tree_Encode_at) (fn := Try.f21) (c := (Try.f21.body.getD .skip)) (ifn := tagtree_Tree_Encode_f) (tagtree_Tree_Encode_S R k) (tagtree_Tree_Encode_J R k) Try.func21 (by kernel_rfl) (by kernel_rfl) (And.intro True.intro (And.intro (tagtree_Tree_Encode_j0 k) (And.intro (tagtree_Tree_Encode_j1 k) (And.intro (tagtree_Tree_Encode_j2 k) (And.intro True.intro True.intro))))) rfl (Eq.trans (tagtree_Tree_Encode_e tagtree_Tree_ok (bitio_Writer_Bits k) tagtree_Tree_has (tagtree_Tree_minima k) (tagtree_Tree_walk_v45 k) (tagtree_Tree_Encode_p0 k) (tagtree_Tree_Encode_p1 k) (tagtree_Tree_Encode_p2 k) k _ _ _ _ _ H K) h)
  · cases h
end Go.Proofs.Ytblkejnciinaeaa.Sh
