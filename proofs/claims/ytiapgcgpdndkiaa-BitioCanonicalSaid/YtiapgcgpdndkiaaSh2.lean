/- Lean functions that stand for Go's, over an explicit heap, and the proofs that they do (written by this claim's program shallow.py). -/
import Derived.Test.YtiapgcgpdndkiaaSh0
import Derived.Test.YtiapgcgpdndkiaaSh1
set_option maxRecDepth 100000
set_option linter.unusedVariables false
set_option linter.unusedSimpArgs false
namespace Go.Proofs.Ytiapgcgpdndkiaa.Sh
open Go.Proofs.Ytiapgcgpdndkiaa.FW
/-! ### bitio_Reader_Align: function 24 -/
def bitio_Reader_Align_p1_b {R : Type} (k : Nat) (p164 : Option Addr) (n165 : Int) (H : Heap) (KN : Option Addr → Bool → Option R) : Option R :=
hnil p164 fun p166 =>
hfad 3 p166 fun p167 =>
ldI .i64 H p167 fun n168 =>
bif (n168 == 0) then (KN p164 (n165 == 255))
 else (KN p164 false)
def bitio_Reader_Align_p1 {R : Type} (k : Nat) (p164 : Option Addr) (n165 : Int) (H : Heap) (KN : Option Addr → Bool → Option R) : Option R := bitio_Reader_Align_p1_b k p164 n165 H KN

def bitio_Reader_Align_p0_b {R : Type} (bitio_Reader_Align_p1 : Option Addr → Int → Heap → (Option Addr → Bool → Option R) → Option R) (k : Nat) (p162 : Option Addr) (n163 : Int) (H : Heap) (KN : Option Addr → Heap → Option R) (KR : Int → Int → Heap → Option R) : Option R :=
bitio_Reader_Align_p1 p162 n163 H (fun p171 t172 =>
bif t172 then (hnil p171 fun p173 =>
hfad 2 p173 fun p174 =>
ldI .i64 H p174 fun n175 =>
hnil p171 fun p176 =>
hfad 1 p176 fun p177 =>
ldL H p177 fun q178 l179 c180 =>
bif (n175 == ((l179 : Nat) : Int)) then (KR 0 7 H)
 else (hnil p171 fun p181 =>
hfad 1 p181 fun p182 =>
ldL H p182 fun q183 l184 c185 =>
hnil p171 fun p186 =>
hfad 2 p186 fun p187 =>
ldI .i64 H p187 fun n188 =>
hidx q183 l184 n188 1 fun p189 =>
ldI .u8 H p189 fun n190 =>
bif (n190 != 0) then (KR 0 8 H)
 else (hnil p171 fun p191 =>
hfad 2 p191 fun p192 =>
ldI .i64 H p192 fun n193 =>
hnil p171 fun p194 =>
hfad 2 p194 fun p195 =>
hst1 H p195 (.int .i64 (IntKind.wrap .i64 (n193 + 1))) fun H196 =>
KN p171 H196)))
 else (KN p171 H))
def bitio_Reader_Align_p0 {R : Type} (k : Nat) (p162 : Option Addr) (n163 : Int) (H : Heap) (KN : Option Addr → Heap → Option R) (KR : Int → Int → Heap → Option R) : Option R := bitio_Reader_Align_p0_b (bitio_Reader_Align_p1 k) k p162 n163 H KN KR

def bitio_Reader_Align_b {R : Type} (bitio_Reader_ok : Option Addr → Heap → (Bool → Option R) → Option R) (bitio_Reader_Align_p0 : Option Addr → Int → Heap → (Option Addr → Heap → Option R) → (Int → Int → Heap → Option R) → Option R) (k : Nat) (p142 : Option Addr) (H : Heap) (K : Int → Int → Heap → Option R) : Option R :=
bitio_Reader_ok p142 H fun t143 =>
bif (!t143) then (K 0 6 H)
 else (hnil p142 fun p144 =>
hfad 2 p144 fun p145 =>
ldI .i64 H p145 fun n146 =>
bif (n146 == 0) then (K 0 0 H)
 else (hnil p142 fun p147 =>
hfad 1 p147 fun p148 =>
ldL H p148 fun q149 l150 c151 =>
hnil p142 fun p152 =>
hfad 2 p152 fun p153 =>
ldI .i64 H p153 fun n154 =>
hidx q149 l150 (IntKind.wrap .i64 (n154 - 1)) 1 fun p155 =>
ldI .u8 H p155 fun n156 =>
hnil p142 fun p157 =>
hfad 3 p157 fun p158 =>
ldI .i64 H p158 fun n159 =>
hbin .shl .u8 1 (IntKind.wrap .u64 n159) fun n160 =>
hbin .and .u8 n156 (IntKind.wrap .u8 (n160 - 1)) fun n161 =>
bif (n161 != 0) then (K 0 8 H)
 else (bitio_Reader_Align_p0 p142 n156 H (fun p200 H201 =>
hnil p200 fun p202 =>
hfad 3 p202 fun p203 =>
hst1 H201 p203 (.int .i64 0) fun H204 =>
hnil p200 fun p205 =>
hfad 2 p205 fun p206 =>
ldI .i64 H204 p206 fun n207 =>
K n207 0 H204) (fun n208 n209 H210 =>
K n208 n209 H210))))

def bitio_Reader_Align {R : Type} (k : Nat) (p142 : Option Addr) (H : Heap) (K : Int → Int → Heap → Option R) : Option R := bitio_Reader_Align_b bitio_Reader_ok (bitio_Reader_Align_p0 k) k p142 H K

def bitio_Reader_Align_Ct {R : Type} (bitio_Reader_ok : Option Addr → Heap → (Bool → Option R) → Option R) : Tab R := tcons 38 (bitio_Reader_ok_ca bitio_Reader_ok) <| fun _ _ _ _ => none
def bitio_Reader_Align_C (R : Type) (k : Nat) : Tab R := bitio_Reader_Align_Ct bitio_Reader_ok
theorem bitio_Reader_Align_S (R : Type) (k : Nat) : CSound Try.prog (bitio_Reader_Align_C R k) := csound_cons (bitio_Reader_ok_cs R k) <| csound_nil
def bitio_Reader_Align_aa0 {R : Type} (f : Option Addr → Int → Heap → (Option Addr → Heap → Option R) → (Int → Int → Heap → Option R) → Option R) (n : Nat) (vals : List Value) (H : Heap) (K : Xit → Env → Heap → Option R) : Option R :=
  match vals with
  | [.pointer p162, .int .u8 n163] => f p162 n163 H (fun p931 H => K .normal [(0, .pointer p931)] H) (fun n932 n933 H => K .ret [(2, .int .i64 n932), (3, .int .i64 n933)] H)
  | _ => none
def bitio_Reader_Align_a0 (R : Type) (k n : Nat) (vals : List Value) (H : Heap) (K : Xit → Env → Heap → Option R) : Option R := bitio_Reader_Align_aa0 (bitio_Reader_Align_p0 k) n vals H K
def bitio_Reader_Align_aa1 {R : Type} (f : Option Addr → Int → Heap → (Option Addr → Bool → Option R) → Option R) (n : Nat) (vals : List Value) (H : Heap) (K : Xit → Env → Heap → Option R) : Option R :=
  match vals with
  | [.pointer p164, .int .u8 n165] => f p164 n165 H (fun p934 t935 => K .normal [(0, .pointer p934), (42, .bool t935)] H)
  | _ => none
def bitio_Reader_Align_a1 (R : Type) (k n : Nat) (vals : List Value) (H : Heap) (K : Xit → Env → Heap → Option R) : Option R := bitio_Reader_Align_aa1 (bitio_Reader_Align_p1 k) n vals H K
def bitio_Reader_Align_Jt {R : Type} (k : Nat) (bitio_Reader_Align_p0 : Option Addr → Int → Heap → (Option Addr → Heap → Option R) → (Int → Int → Heap → Option R) → Option R) (bitio_Reader_Align_p1 : Option Addr → Int → Heap → (Option Addr → Bool → Option R) → Option R) : JTab R := tcons 0 (bitio_Reader_Align_aa0 bitio_Reader_Align_p0 k) <| tcons 1 (bitio_Reader_Align_aa1 bitio_Reader_Align_p1 k) <| fun _ _ _ _ => none
def bitio_Reader_Align_J (R : Type) (k : Nat) : JTab R := bitio_Reader_Align_Jt k (bitio_Reader_Align_p0 k) (bitio_Reader_Align_p1 k)
def bitio_Reader_Align_at : AT := (.seq (.reg [0] []) (.seq (.seq (.reg [0, 7] []) (.cond (.seq (.reg [2, 3] []) .leaf) .leaf)) (.seq (.seq (.reg [0, 12] []) (.cond (.seq (.reg [2, 3] []) .leaf) .leaf)) (.seq (.reg [0, 4] [[], [0], [0, 1], [0, 1, 2], [], [4], [4, 5], [4, 5, 6], [4, 5, 6, 7], [0, 1, 2, 3, 4, 5, 6, 7, 8], [0, 1, 2, 3, 4, 5, 6, 7, 8, 9], [0, 1, 2, 3, 4, 5, 6, 7, 8, 9, 10]]) (.seq (.seq (.reg [0, 4, 33] []) (.cond (.seq (.reg [2, 3] []) .leaf) .leaf)) (.seq (.opq 0 [0, 4] ⟨[0], [], [2, 3]⟩ (.seq (.opq 1 [0, 4] ⟨[0, 42], [], []⟩ (.reg [0, 42] [])) (.cond (.seq (.seq (.reg [0, 52] [[], [0], [0, 1], [0, 1, 2], [], [4], [4, 5], [4, 5, 6], [4, 5, 6, 7], [0, 1, 2, 3, 4, 5, 6, 7, 8]]) (.cond (.seq (.reg [2, 3] []) .leaf) .leaf)) (.seq (.seq (.reg [0, 63] [[], [0], [0, 1], [0, 1, 2], [], [4], [4, 5], [4, 5, 6], [0, 1, 2, 3, 4, 5, 6, 7], [0, 1, 2, 3, 4, 5, 6, 7, 8], [0, 1, 2, 3, 4, 5, 6, 7, 8, 9]]) (.cond (.seq (.reg [2, 3] []) .leaf) .leaf)) (.reg [0] []))) .leaf))) (.seq (.reg [0] []) (.seq (.reg [2, 3] []) .leaf))))))))
def bitio_Reader_Align_i1 : IC := (.reg [⟨some 34, .mov (.t 0), none⟩,
 ⟨some 35, .nilc (.t 34), none⟩,
 ⟨some 36, .fad 3 (.t 35), none⟩,
 ⟨some 37, .ld (.sc (.int .i64)) (.t 36), none⟩,
 ⟨some 38, .cmp .eql (.t 37) (.c (Go.Value.int Go.IntKind.i64 0)), none⟩,
 ⟨some 39, .mov (.t 38), none⟩,
 ⟨some 40, .mov (.t 4), some (39, true)⟩,
 ⟨some 41, .cmp .eql (.t 40) (.c (Go.Value.int Go.IntKind.u8 255)), some (39, true)⟩,
 ⟨some 42, .pick (.t 39) (.t 41) (.c (Go.Value.bool false)), none⟩] [0, 42])
def bitio_Reader_Align_i0 : IC := (.seq (.opq 1 [0, 4] bitio_Reader_Align_i1) (.cond (.t 42) (.seq (.seq (.reg [⟨some 43, .mov (.t 0), none⟩,
 ⟨some 44, .nilc (.t 43), none⟩,
 ⟨some 45, .fad 2 (.t 44), none⟩,
 ⟨some 46, .ld (.sc (.int .i64)) (.t 45), none⟩,
 ⟨some 47, .mov (.t 0), none⟩,
 ⟨some 48, .nilc (.t 47), none⟩,
 ⟨some 49, .fad 1 (.t 48), none⟩,
 ⟨some 50, .ld (.sc .slc) (.t 49), none⟩,
 ⟨some 51, .len false (.t 50), none⟩,
 ⟨some 52, .cmp .eql (.t 46) (.t 51), none⟩] [0, 52]) (.cond (.t 52) (.seq (.reg [⟨some 2, .mov (.c (Go.Value.int Go.IntKind.i64 0)), none⟩,
 ⟨some 3, .mov (.c (Go.Value.int Go.IntKind.i64 7)), none⟩] [2, 3]) .ret) .skip)) (.seq (.seq (.reg [⟨some 53, .mov (.t 0), none⟩,
 ⟨some 54, .nilc (.t 53), none⟩,
 ⟨some 55, .fad 1 (.t 54), none⟩,
 ⟨some 56, .ld (.sc .slc) (.t 55), none⟩,
 ⟨some 57, .mov (.t 0), none⟩,
 ⟨some 58, .nilc (.t 57), none⟩,
 ⟨some 59, .fad 2 (.t 58), none⟩,
 ⟨some 60, .ld (.sc (.int .i64)) (.t 59), none⟩,
 ⟨some 61, .ids 1 (.t 56) (.t 60), none⟩,
 ⟨some 62, .ld (.sc (.int .u8)) (.t 61), none⟩,
 ⟨some 63, .cmp .neq (.t 62) (.c (Go.Value.int Go.IntKind.u8 0)), none⟩] [0, 63]) (.cond (.t 63) (.seq (.reg [⟨some 2, .mov (.c (Go.Value.int Go.IntKind.i64 0)), none⟩,
 ⟨some 3, .mov (.c (Go.Value.int Go.IntKind.i64 8)), none⟩] [2, 3]) .ret) .skip)) (.reg [⟨some 64, .mov (.t 0), none⟩,
 ⟨some 65, .nilc (.t 64), none⟩,
 ⟨some 66, .fad 2 (.t 65), none⟩,
 ⟨some 67, .ld (.sc (.int .i64)) (.t 66), none⟩,
 ⟨some 68, .bin .add .i64 (.t 67) (.c (Go.Value.int Go.IntKind.i64 1)), none⟩,
 ⟨some 69, .nilc (.t 64), none⟩,
 ⟨some 70, .fad 2 (.t 69), none⟩,
 ⟨none, .st 1 (.t 70) (.t 68), none⟩] [0]))) .skip))
def bitio_Reader_Align_f : IFn := ⟨78, [.t 2, .t 3], (.seq (.reg [⟨some 2, .mov (.c (Go.Value.int Go.IntKind.i64 0)), none⟩,
 ⟨some 3, .mov (.c (Go.Value.int Go.IntKind.i64 0)), none⟩] [0]) (.seq (.seq (.reg [⟨some 5, .mov (.t 0), none⟩,
 ⟨some 6, .call 38 [(.t 5)] (.one (.sc .bool)), none⟩,
 ⟨some 7, .lnot (.t 6), none⟩] [0, 7]) (.cond (.t 7) (.seq (.reg [⟨some 2, .mov (.c (Go.Value.int Go.IntKind.i64 0)), none⟩,
 ⟨some 3, .mov (.c (Go.Value.int Go.IntKind.i64 6)), none⟩] [2, 3]) .ret) .skip)) (.seq (.seq (.reg [⟨some 8, .mov (.t 0), none⟩,
 ⟨some 9, .nilc (.t 8), none⟩,
 ⟨some 10, .fad 2 (.t 9), none⟩,
 ⟨some 11, .ld (.sc (.int .i64)) (.t 10), none⟩,
 ⟨some 12, .cmp .eql (.t 11) (.c (Go.Value.int Go.IntKind.i64 0)), none⟩] [0, 12]) (.cond (.t 12) (.seq (.reg [⟨some 2, .mov (.c (Go.Value.int Go.IntKind.i64 0)), none⟩,
 ⟨some 3, .mov (.c (Go.Value.int Go.IntKind.i64 0)), none⟩] [2, 3]) .ret) .skip)) (.seq (.reg [⟨some 13, .mov (.t 0), none⟩,
 ⟨some 14, .nilc (.t 13), none⟩,
 ⟨some 15, .fad 1 (.t 14), none⟩,
 ⟨some 16, .ld (.sc .slc) (.t 15), none⟩,
 ⟨some 17, .mov (.t 0), none⟩,
 ⟨some 18, .nilc (.t 17), none⟩,
 ⟨some 19, .fad 2 (.t 18), none⟩,
 ⟨some 20, .ld (.sc (.int .i64)) (.t 19), none⟩,
 ⟨some 21, .bin .sub .i64 (.t 20) (.c (Go.Value.int Go.IntKind.i64 1)), none⟩,
 ⟨some 22, .ids 1 (.t 16) (.t 21), none⟩,
 ⟨some 23, .ld (.sc (.int .u8)) (.t 22), none⟩,
 ⟨some 4, .mov (.t 23), none⟩] [0, 4]) (.seq (.seq (.reg [⟨some 24, .mov (.t 4), none⟩,
 ⟨some 25, .mov (.t 0), none⟩,
 ⟨some 26, .nilc (.t 25), none⟩,
 ⟨some 27, .fad 3 (.t 26), none⟩,
 ⟨some 28, .ld (.sc (.int .i64)) (.t 27), none⟩,
 ⟨some 29, .cnv .u64 (.t 28), none⟩,
 ⟨some 30, .bin .shl .u8 (.c (Go.Value.int Go.IntKind.u8 1)) (.t 29), none⟩,
 ⟨some 31, .bin .sub .u8 (.t 30) (.c (Go.Value.int Go.IntKind.u8 1)), none⟩,
 ⟨some 32, .bin .and .u8 (.t 24) (.t 31), none⟩,
 ⟨some 33, .cmp .neq (.t 32) (.c (Go.Value.int Go.IntKind.u8 0)), none⟩] [0, 4, 33]) (.cond (.t 33) (.seq (.reg [⟨some 2, .mov (.c (Go.Value.int Go.IntKind.i64 0)), none⟩,
 ⟨some 3, .mov (.c (Go.Value.int Go.IntKind.i64 8)), none⟩] [2, 3]) .ret) .skip)) (.seq (.opq 0 [0, 4] bitio_Reader_Align_i0) (.seq (.reg [⟨some 71, .mov (.t 0), none⟩,
 ⟨some 72, .nilc (.t 71), none⟩,
 ⟨some 73, .fad 3 (.t 72), none⟩,
 ⟨none, .st 1 (.t 73) (.c (Go.Value.int Go.IntKind.i64 0)), none⟩] [0]) (.seq (.reg [⟨some 74, .mov (.t 0), none⟩,
 ⟨some 75, .nilc (.t 74), none⟩,
 ⟨some 76, .fad 2 (.t 75), none⟩,
 ⟨some 77, .ld (.sc (.int .i64)) (.t 76), none⟩,
 ⟨some 2, .mov (.t 77), none⟩,
 ⟨some 3, .mov (.c (Go.Value.int Go.IntKind.i64 0)), none⟩] [2, 3]) .ret))))))))⟩
theorem bitio_Reader_Align_e1 {R : Type} (bitio_Reader_ok : Option Addr → Heap → (Bool → Option R) → Option R) (bitio_Reader_Align_p0 : Option Addr → Int → Heap → (Option Addr → Heap → Option R) → (Int → Int → Heap → Option R) → Option R) (bitio_Reader_Align_p1 : Option Addr → Int → Heap → (Option Addr → Bool → Option R) → Option R) (k : Nat) (p164 : Option Addr) (n165 : Int) (H : Heap) (K : Xit → Env → Heap → Option R) : evJ (bitio_Reader_Align_Ct bitio_Reader_ok) (bitio_Reader_Align_Jt k bitio_Reader_Align_p0 bitio_Reader_Align_p1) bitio_Reader_Align_i1 (List.zip [0, 4] [.pointer p164, .int .u8 n165]) H (fun x e' H' => K x (clean e' ((⟨[0, 42], [], []⟩ : Out).of x)) H') = bitio_Reader_Align_p1_b k p164 n165 H (fun p934 t935 => K .normal [(0, .pointer p934), (42, .bool t935)] H) := by kernel_rfl
theorem bitio_Reader_Align_j1 {R : Type} (k : Nat) : JS Try.prog 78 (bitio_Reader_Align_a1 R k k) [0, 4] ⟨[0, 42], [], []⟩ (sel [1, 1, 1, 1, 1, 0, 0] (Try.f24.body.getD .skip)) :=
  piece_ok (nt := 78) (c := (sel [1, 1, 1, 1, 1, 0, 0] (Try.f24.body.getD .skip))) (C := bitio_Reader_Align_C R k) (an := An) (t := (.reg [0, 42] [])) (ic := bitio_Reader_Align_i1) (bitio_Reader_Align_S R k) (bitio_Reader_Align_J R k) (by kernel_rfl) True.intro (bitio_Reader_Align_a1 R k k)
    (fun vals H K r h => by
      unfold bitio_Reader_Align_a1 bitio_Reader_Align_aa1 at h
      split at h <;> first | (cases h; done) | exact Eq.trans (bitio_Reader_Align_e1 bitio_Reader_ok (bitio_Reader_Align_p0 k) (bitio_Reader_Align_p1 k) k _ _ H K) h)
theorem bitio_Reader_Align_e0 {R : Type} (bitio_Reader_ok : Option Addr → Heap → (Bool → Option R) → Option R) (bitio_Reader_Align_p0 : Option Addr → Int → Heap → (Option Addr → Heap → Option R) → (Int → Int → Heap → Option R) → Option R) (bitio_Reader_Align_p1 : Option Addr → Int → Heap → (Option Addr → Bool → Option R) → Option R) (k : Nat) (p162 : Option Addr) (n163 : Int) (H : Heap) (K : Xit → Env → Heap → Option R) : evJ (bitio_Reader_Align_Ct bitio_Reader_ok) (bitio_Reader_Align_Jt k bitio_Reader_Align_p0 bitio_Reader_Align_p1) bitio_Reader_Align_i0 (List.zip [0, 4] [.pointer p162, .int .u8 n163]) H (fun x e' H' => K x (clean e' ((⟨[0], [], [2, 3]⟩ : Out).of x)) H') = bitio_Reader_Align_p0_b bitio_Reader_Align_p1 k p162 n163 H (fun p931 H => K .normal [(0, .pointer p931)] H) (fun n932 n933 H => K .ret [(2, .int .i64 n932), (3, .int .i64 n933)] H) := by kernel_rfl
theorem bitio_Reader_Align_j0 {R : Type} (k : Nat) : JS Try.prog 78 (bitio_Reader_Align_a0 R k k) [0, 4] ⟨[0], [], [2, 3]⟩ (sel [1, 1, 1, 1, 1, 0] (Try.f24.body.getD .skip)) :=
  piece_ok (nt := 78) (c := (sel [1, 1, 1, 1, 1, 0] (Try.f24.body.getD .skip))) (C := bitio_Reader_Align_C R k) (an := An) (t := (.seq (.opq 1 [0, 4] ⟨[0, 42], [], []⟩ (.reg [0, 42] [])) (.cond (.seq (.seq (.reg [0, 52] [[], [0], [0, 1], [0, 1, 2], [], [4], [4, 5], [4, 5, 6], [4, 5, 6, 7], [0, 1, 2, 3, 4, 5, 6, 7, 8]]) (.cond (.seq (.reg [2, 3] []) .leaf) .leaf)) (.seq (.seq (.reg [0, 63] [[], [0], [0, 1], [0, 1, 2], [], [4], [4, 5], [4, 5, 6], [0, 1, 2, 3, 4, 5, 6, 7], [0, 1, 2, 3, 4, 5, 6, 7, 8], [0, 1, 2, 3, 4, 5, 6, 7, 8, 9]]) (.cond (.seq (.reg [2, 3] []) .leaf) .leaf)) (.reg [0] []))) .leaf))) (ic := bitio_Reader_Align_i0) (bitio_Reader_Align_S R k) (bitio_Reader_Align_J R k) (by kernel_rfl) (And.intro (bitio_Reader_Align_j1 k) (And.intro (And.intro (And.intro True.intro (And.intro (And.intro True.intro True.intro) True.intro)) (And.intro (And.intro True.intro (And.intro (And.intro True.intro True.intro) True.intro)) True.intro)) True.intro)) (bitio_Reader_Align_a0 R k k)
    (fun vals H K r h => by
      unfold bitio_Reader_Align_a0 bitio_Reader_Align_aa0 at h
      split at h <;> first | (cases h; done) | exact Eq.trans (bitio_Reader_Align_e0 bitio_Reader_ok (bitio_Reader_Align_p0 k) (bitio_Reader_Align_p1 k) k _ _ H K) h)
def bitio_Reader_Align_ca {R : Type} (f : Option Addr → Heap → (Int → Int → Heap → Option R) → Option R) (args : List Value) (H : Heap) (K : Value → Heap → Option R) : Option R :=
  match args with
  | [.pointer p142] => f p142 H (fun n936 n937 H => K (.tuple ⟨[.int .i64 n936, .int .i64 n937]⟩) H)
  | _ => none
def bitio_Reader_Align_c (R : Type) (k : Nat) (args : List Value) (H : Heap) (K : Value → Heap → Option R) : Option R := bitio_Reader_Align_ca (bitio_Reader_Align k) args H K
theorem bitio_Reader_Align_e {R : Type} (bitio_Reader_ok : Option Addr → Heap → (Bool → Option R) → Option R) (bitio_Reader_Align_p0 : Option Addr → Int → Heap → (Option Addr → Heap → Option R) → (Int → Int → Heap → Option R) → Option R) (bitio_Reader_Align_p1 : Option Addr → Int → Heap → (Option Addr → Bool → Option R) → Option R) (k : Nat) (p142 : Option Addr) (H : Heap) (K : Value → Heap → Option R) : evF (bitio_Reader_Align_Ct bitio_Reader_ok) (bitio_Reader_Align_Jt k bitio_Reader_Align_p0 bitio_Reader_Align_p1) bitio_Reader_Align_f [.pointer p142] H K = bitio_Reader_Align_b bitio_Reader_ok bitio_Reader_Align_p0 k p142 H (fun n936 n937 H => K (.tuple ⟨[.int .i64 n936, .int .i64 n937]⟩) H) := by kernel_rfl
theorem bitio_Reader_Align_cs (R : Type) (k : Nat) : ∀ args H K r, bitio_Reader_Align_c R k args H K = some r → ∃ v H', Tri Try.prog 24 args H v H' ∧ K v H' = some r := by
  intro args H K r h
  unfold bitio_Reader_Align_c bitio_Reader_Align_ca at h
  split at h
  · exact evF_ok (C := bitio_Reader_Align_C R k) (an := An) (t := bitio_Reader_Align_at) (fn := Try.f24) (c := (Try.f24.body.getD .skip)) (ifn := bitio_Reader_Align_f) (bitio_Reader_Align_S R k) (bitio_Reader_Align_J R k) Try.func24 (by kernel_rfl) (by kernel_rfl) (And.intro True.intro (And.intro (And.intro True.intro (And.intro (And.intro True.intro True.intro) True.intro)) (And.intro (And.intro True.intro (And.intro (And.intro True.intro True.intro) True.intro)) (And.intro True.intro (And.intro (And.intro True.intro (And.intro (And.intro True.intro True.intro) True.intro)) (And.intro (bitio_Reader_Align_j0 k) (And.intro True.intro (And.intro True.intro True.intro)))))))) rfl (Eq.trans (bitio_Reader_Align_e bitio_Reader_ok (bitio_Reader_Align_p0 k) (bitio_Reader_Align_p1 k) k _ H K) h)
  · cases h
/-! ### bitio_Reader_Get: function 22 -/
def bitio_Reader_Get_b {R : Type} (bitio_Reader_ok : Option Addr → Heap → (Bool → Option R) → Option R) (bitio_Reader_get : Option Addr → Heap → (Int → Int → Heap → Option R) → Option R) (k : Nat) (p216 : Option Addr) (H : Heap) (K : Int → Int → Heap → Option R) : Option R :=
bitio_Reader_ok p216 H fun t217 =>
bif (!t217) then (K 0 6 H)
 else (bitio_Reader_get p216 H fun n218 n219 H220 =>
K n218 n219 H220)

def bitio_Reader_Get {R : Type} (k : Nat) (p216 : Option Addr) (H : Heap) (K : Int → Int → Heap → Option R) : Option R := bitio_Reader_Get_b bitio_Reader_ok (bitio_Reader_get k) k p216 H K

def bitio_Reader_Get_Ct {R : Type} (bitio_Reader_ok : Option Addr → Heap → (Bool → Option R) → Option R) (bitio_Reader_get : Option Addr → Heap → (Int → Int → Heap → Option R) → Option R) : Tab R := tcons 38 (bitio_Reader_ok_ca bitio_Reader_ok) <| tcons 39 (bitio_Reader_get_ca bitio_Reader_get) <| fun _ _ _ _ => none
def bitio_Reader_Get_C (R : Type) (k : Nat) : Tab R := bitio_Reader_Get_Ct bitio_Reader_ok (bitio_Reader_get k)
theorem bitio_Reader_Get_S (R : Type) (k : Nat) : CSound Try.prog (bitio_Reader_Get_C R k) := csound_cons (bitio_Reader_ok_cs R k) <| csound_cons (bitio_Reader_get_cs R k) <| csound_nil
def bitio_Reader_Get_Jt {R : Type} (k : Nat) : JTab R := fun _ _ _ _ => none
def bitio_Reader_Get_J (R : Type) (k : Nat) : JTab R := bitio_Reader_Get_Jt k
def bitio_Reader_Get_at : AT := (.seq (.reg [0] []) (.seq (.seq (.reg [0, 6] []) (.cond (.seq (.reg [2, 3] []) .leaf) .leaf)) (.seq (.reg [2, 3] []) .leaf)))
def bitio_Reader_Get_f : IFn := ⟨11, [.t 2, .t 3], (.seq (.reg [⟨some 2, .mov (.c (Go.Value.int Go.IntKind.i64 0)), none⟩,
 ⟨some 3, .mov (.c (Go.Value.int Go.IntKind.i64 0)), none⟩] [0]) (.seq (.seq (.reg [⟨some 4, .mov (.t 0), none⟩,
 ⟨some 5, .call 38 [(.t 4)] (.one (.sc .bool)), none⟩,
 ⟨some 6, .lnot (.t 5), none⟩] [0, 6]) (.cond (.t 6) (.seq (.reg [⟨some 2, .mov (.c (Go.Value.int Go.IntKind.i64 0)), none⟩,
 ⟨some 3, .mov (.c (Go.Value.int Go.IntKind.i64 6)), none⟩] [2, 3]) .ret) .skip)) (.seq (.reg [⟨some 7, .mov (.t 0), none⟩,
 ⟨some 8, .call 39 [(.t 7)] (.tup [(.sc (.int .i64)), (.sc (.int .i64))]), none⟩,
 ⟨some 9, .ext 0 (.t 8), none⟩,
 ⟨some 10, .ext 1 (.t 8), none⟩,
 ⟨some 2, .mov (.t 9), none⟩,
 ⟨some 3, .mov (.t 10), none⟩] [2, 3]) .ret)))⟩
def bitio_Reader_Get_ca {R : Type} (f : Option Addr → Heap → (Int → Int → Heap → Option R) → Option R) (args : List Value) (H : Heap) (K : Value → Heap → Option R) : Option R :=
  match args with
  | [.pointer p216] => f p216 H (fun n938 n939 H => K (.tuple ⟨[.int .i64 n938, .int .i64 n939]⟩) H)
  | _ => none
def bitio_Reader_Get_c (R : Type) (k : Nat) (args : List Value) (H : Heap) (K : Value → Heap → Option R) : Option R := bitio_Reader_Get_ca (bitio_Reader_Get k) args H K
theorem bitio_Reader_Get_e {R : Type} (bitio_Reader_ok : Option Addr → Heap → (Bool → Option R) → Option R) (bitio_Reader_get : Option Addr → Heap → (Int → Int → Heap → Option R) → Option R) (k : Nat) (p216 : Option Addr) (H : Heap) (K : Value → Heap → Option R) : evF (bitio_Reader_Get_Ct bitio_Reader_ok bitio_Reader_get) (bitio_Reader_Get_Jt k) bitio_Reader_Get_f [.pointer p216] H K = bitio_Reader_Get_b bitio_Reader_ok bitio_Reader_get k p216 H (fun n938 n939 H => K (.tuple ⟨[.int .i64 n938, .int .i64 n939]⟩) H) := by kernel_rfl
theorem bitio_Reader_Get_cs (R : Type) (k : Nat) : ∀ args H K r, bitio_Reader_Get_c R k args H K = some r → ∃ v H', Tri Try.prog 22 args H v H' ∧ K v H' = some r := by
  intro args H K r h
  unfold bitio_Reader_Get_c bitio_Reader_Get_ca at h
  split at h
  · exact evF_ok (C := bitio_Reader_Get_C R k) (an := An) (t := bitio_Reader_Get_at) (fn := Try.f22) (c := (Try.f22.body.getD .skip)) (ifn := bitio_Reader_Get_f) (bitio_Reader_Get_S R k) (bitio_Reader_Get_J R k) Try.func22 (by kernel_rfl) (by kernel_rfl) (And.intro True.intro (And.intro (And.intro True.intro (And.intro (And.intro True.intro True.intro) True.intro)) (And.intro True.intro True.intro))) rfl (Eq.trans (bitio_Reader_Get_e bitio_Reader_ok (bitio_Reader_get k) k _ H K) h)
  · cases h
/-! ### L_exampleHolds: function 11 -/
def L_exampleHolds_p0_b {R : Type} (bitio_Writer_Unary : Option Addr → Int → Heap → (Int → Heap → Option R) → Option R) (bitio_Writer_Len : Option Addr → Heap → (Int → Option R) → Option R) (bitio_Writer_Bytes : Option Addr → Heap → (Option Addr → Nat → Nat → Heap → Option R) → Option R) (R09_SameBytes : Option Addr → Nat → Nat → Option Addr → Nat → Nat → Heap → (Bool → Option R) → Option R) (bitio_Writer_Gamma : Option Addr → Int → Heap → (Int → Heap → Option R) → Option R) (k : Nat) (p78 : Option Addr) (H : Heap) (KN : Heap → Option R) (KR : Bool → Heap → Option R) : Option R :=
bif p78.isNone then (KR false H)
 else (bitio_Writer_Unary p78 12 H fun n79 H80 =>
bif (n79 != 0) then (KR false H80)
 else (bitio_Writer_Len p78 H80 fun n81 =>
bif (n81 != 13) then (KR false H80)
 else (bitio_Writer_Bytes p78 H80 fun q82 l83 c84 H85 =>
hal H85 [.int .u8 255, .int .u8 120] fun p86 H87 =>
R09_SameBytes q82 l83 c84 p86 2 2 H87 fun t88 =>
bif (!t88) then (KR false H87)
 else (bitio_Writer_Gamma p78 5 H87 fun n89 H90 =>
bif (n89 != 0) then (KR false H90)
 else (bitio_Writer_Len p78 H90 fun n91 =>
bif (n91 != 18) then (KR false H90)
 else (bitio_Writer_Gamma p78 0 H90 fun n92 H93 =>
bif (n92 != 1) then (KR false H93)
 else (KN H93)))))))
def L_exampleHolds_p0 {R : Type} (k : Nat) (p78 : Option Addr) (H : Heap) (KN : Heap → Option R) (KR : Bool → Heap → Option R) : Option R := L_exampleHolds_p0_b (bitio_Writer_Unary k) bitio_Writer_Len (bitio_Writer_Bytes k) R09_SameBytes (bitio_Writer_Gamma k) k p78 H KN KR

def L_exampleHolds_b {R : Type} (bitio_NewWriter : Heap → (Option Addr → Heap → Option R) → Option R) (L_exampleHolds_p0 : Option Addr → Heap → (Heap → Option R) → (Bool → Heap → Option R) → Option R) (bitio_NewReader : Option Addr → Nat → Nat → Heap → (Option Addr → Heap → Option R) → Option R) (bitio_Reader_Bits : Option Addr → Int → Heap → (Int → Int → Heap → Option R) → Option R) (bitio_Reader_Align : Option Addr → Heap → (Int → Int → Heap → Option R) → Option R) (bitio_Reader_Get : Option Addr → Heap → (Int → Int → Heap → Option R) → Option R) (k : Nat) (H : Heap) (K : Bool → Heap → Option R) : Option R :=
bitio_NewWriter H fun p76 H77 =>
L_exampleHolds_p0 p76 H77 (fun H95 =>
hal H95 [.int .u8 160] fun p96 H97 =>
bitio_NewReader p96 1 1 H97 fun p98 H99 =>
bitio_Reader_Bits p98 3 H99 fun n100 n101 H102 =>
bitio_Reader_Align p98 H102 fun n103 n104 H105 =>
bitio_Reader_Get p98 H105 fun n106 n107 H108 =>
bif (n100 == 5) then (bif (n101 == 0) then (bif (n103 == 1) then (bif (n104 == 0) then (K (n107 == 7) H108)
 else (K false H108))
 else (K false H108))
 else (K false H108))
 else (K false H108)) (fun t109 H110 =>
K t109 H110)

def L_exampleHolds {R : Type} (k : Nat) (H : Heap) (K : Bool → Heap → Option R) : Option R := L_exampleHolds_b bitio_NewWriter (L_exampleHolds_p0 k) bitio_NewReader (bitio_Reader_Bits k) (bitio_Reader_Align k) (bitio_Reader_Get k) k H K

def L_exampleHolds_Ct {R : Type} (bitio_NewWriter : Heap → (Option Addr → Heap → Option R) → Option R) (bitio_Writer_Unary : Option Addr → Int → Heap → (Int → Heap → Option R) → Option R) (bitio_Writer_Len : Option Addr → Heap → (Int → Option R) → Option R) (bitio_Writer_Bytes : Option Addr → Heap → (Option Addr → Nat → Nat → Heap → Option R) → Option R) (R09_SameBytes : Option Addr → Nat → Nat → Option Addr → Nat → Nat → Heap → (Bool → Option R) → Option R) (bitio_Writer_Gamma : Option Addr → Int → Heap → (Int → Heap → Option R) → Option R) (bitio_NewReader : Option Addr → Nat → Nat → Heap → (Option Addr → Heap → Option R) → Option R) (bitio_Reader_Bits : Option Addr → Int → Heap → (Int → Int → Heap → Option R) → Option R) (bitio_Reader_Align : Option Addr → Heap → (Int → Int → Heap → Option R) → Option R) (bitio_Reader_Get : Option Addr → Heap → (Int → Int → Heap → Option R) → Option R) : Tab R := tcons 12 (bitio_NewWriter_ca bitio_NewWriter) <| tcons 29 (bitio_Writer_Unary_ca bitio_Writer_Unary) <| tcons 16 (bitio_Writer_Len_ca bitio_Writer_Len) <| tcons 19 (bitio_Writer_Bytes_ca bitio_Writer_Bytes) <| tcons 18 (R09_SameBytes_ca R09_SameBytes) <| tcons 30 (bitio_Writer_Gamma_ca bitio_Writer_Gamma) <| tcons 21 (bitio_NewReader_ca bitio_NewReader) <| tcons 31 (bitio_Reader_Bits_ca bitio_Reader_Bits) <| tcons 24 (bitio_Reader_Align_ca bitio_Reader_Align) <| tcons 22 (bitio_Reader_Get_ca bitio_Reader_Get) <| fun _ _ _ _ => none
def L_exampleHolds_C (R : Type) (k : Nat) : Tab R := L_exampleHolds_Ct bitio_NewWriter (bitio_Writer_Unary k) bitio_Writer_Len (bitio_Writer_Bytes k) R09_SameBytes (bitio_Writer_Gamma k) bitio_NewReader (bitio_Reader_Bits k) (bitio_Reader_Align k) (bitio_Reader_Get k)
theorem L_exampleHolds_S (R : Type) (k : Nat) : CSound Try.prog (L_exampleHolds_C R k) := csound_cons (bitio_NewWriter_cs R k) <| csound_cons (bitio_Writer_Unary_cs R k) <| csound_cons (bitio_Writer_Len_cs R k) <| csound_cons (bitio_Writer_Bytes_cs R k) <| csound_cons (R09_SameBytes_cs R k) <| csound_cons (bitio_Writer_Gamma_cs R k) <| csound_cons (bitio_NewReader_cs R k) <| csound_cons (bitio_Reader_Bits_cs R k) <| csound_cons (bitio_Reader_Align_cs R k) <| csound_cons (bitio_Reader_Get_cs R k) <| csound_nil
def L_exampleHolds_aa0 {R : Type} (f : Option Addr → Heap → (Heap → Option R) → (Bool → Heap → Option R) → Option R) (n : Nat) (vals : List Value) (H : Heap) (K : Xit → Env → Heap → Option R) : Option R :=
  match vals with
  | [.pointer p78] => f p78 H (fun H => K .normal [] H) (fun t940 H => K .ret [(0, .bool t940)] H)
  | _ => none
def L_exampleHolds_a0 (R : Type) (k n : Nat) (vals : List Value) (H : Heap) (K : Xit → Env → Heap → Option R) : Option R := L_exampleHolds_aa0 (L_exampleHolds_p0 k) n vals H K
def L_exampleHolds_Jt {R : Type} (k : Nat) (L_exampleHolds_p0 : Option Addr → Heap → (Heap → Option R) → (Bool → Heap → Option R) → Option R) : JTab R := tcons 0 (L_exampleHolds_aa0 L_exampleHolds_p0 k) <| fun _ _ _ _ => none
def L_exampleHolds_J (R : Type) (k : Nat) : JTab R := L_exampleHolds_Jt k (L_exampleHolds_p0 k)
def L_exampleHolds_at : AT := (.seq (.reg [] []) (.seq (.reg [1] []) (.seq (.opq 0 [1] ⟨[], [], [0]⟩ (.seq (.reg [43] []) (.cond (.seq (.reg [0] []) .leaf) .leaf))) (.seq (.reg [2] []) (.seq (.reg [2, 3, 4] []) (.seq (.reg [2, 3, 4, 5, 6] []) (.seq (.reg [3, 4, 5, 6, 8] []) (.seq (.reg [0] []) .leaf))))))))
def L_exampleHolds_i0 : IC := (.seq (.reg [⟨some 10, .mov (.t 1), none⟩,
 ⟨some 11, .eqnil (.t 10) false 0, none⟩,
 ⟨some 12, .mov (.t 11), none⟩,
 ⟨some 13, .mov (.t 1), some (12, false)⟩,
 ⟨some 14, .call 29 [(.t 13), (.c (Go.Value.int Go.IntKind.i64 12))] (.one (.sc (.int .i64))), some (12, false)⟩,
 ⟨some 15, .cmp .neq (.t 14) (.c (Go.Value.int Go.IntKind.i64 0)), some (12, false)⟩,
 ⟨some 16, .pick (.t 12) (.c (Go.Value.bool true)) (.t 15), none⟩,
 ⟨some 17, .mov (.t 16), none⟩,
 ⟨some 18, .mov (.t 1), some (17, false)⟩,
 ⟨some 19, .call 16 [(.t 18)] (.one (.sc (.int .i64))), some (17, false)⟩,
 ⟨some 20, .cmp .neq (.t 19) (.c (Go.Value.int Go.IntKind.i64 13)), some (17, false)⟩,
 ⟨some 21, .pick (.t 17) (.c (Go.Value.bool true)) (.t 20), none⟩,
 ⟨some 22, .mov (.t 21), none⟩,
 ⟨some 23, .mov (.t 1), some (22, false)⟩,
 ⟨some 24, .call 19 [(.t 23)] (.one (.sc .slc)), some (22, false)⟩,
 ⟨some 25, .bls 2 [.int .u8 0, .int .u8 0] [(0, 1, (.c (Go.Value.int Go.IntKind.u8 255))), (1, 1, (.c (Go.Value.int Go.IntKind.u8 120)))], some (22, false)⟩,
 ⟨some 26, .call 18 [(.t 24), (.t 25)] (.one (.sc .bool)), some (22, false)⟩,
 ⟨some 27, .lnot (.t 26), some (22, false)⟩,
 ⟨some 28, .pick (.t 22) (.c (Go.Value.bool true)) (.t 27), none⟩,
 ⟨some 29, .mov (.t 28), none⟩,
 ⟨some 30, .mov (.t 1), some (29, false)⟩,
 ⟨some 31, .call 30 [(.t 30), (.c (Go.Value.int Go.IntKind.i64 5))] (.one (.sc (.int .i64))), some (29, false)⟩,
 ⟨some 32, .cmp .neq (.t 31) (.c (Go.Value.int Go.IntKind.i64 0)), some (29, false)⟩,
 ⟨some 33, .pick (.t 29) (.c (Go.Value.bool true)) (.t 32), none⟩,
 ⟨some 34, .mov (.t 33), none⟩,
 ⟨some 35, .mov (.t 1), some (34, false)⟩,
 ⟨some 36, .call 16 [(.t 35)] (.one (.sc (.int .i64))), some (34, false)⟩,
 ⟨some 37, .cmp .neq (.t 36) (.c (Go.Value.int Go.IntKind.i64 18)), some (34, false)⟩,
 ⟨some 38, .pick (.t 34) (.c (Go.Value.bool true)) (.t 37), none⟩,
 ⟨some 39, .mov (.t 38), none⟩,
 ⟨some 40, .mov (.t 1), some (39, false)⟩,
 ⟨some 41, .call 30 [(.t 40), (.c (Go.Value.int Go.IntKind.i64 0))] (.one (.sc (.int .i64))), some (39, false)⟩,
 ⟨some 42, .cmp .neq (.t 41) (.c (Go.Value.int Go.IntKind.i64 1)), some (39, false)⟩,
 ⟨some 43, .pick (.t 39) (.c (Go.Value.bool true)) (.t 42), none⟩] [43]) (.cond (.t 43) (.seq (.reg [⟨some 0, .mov (.c (Go.Value.bool false)), none⟩] [0]) .ret) .skip))
def L_exampleHolds_f : IFn := ⟨79, [.t 0], (.seq (.reg [⟨some 0, .mov (.c (Go.Value.bool false)), none⟩] []) (.seq (.reg [⟨some 9, .call 12 [] (.one (.sc .ptr)), none⟩,
 ⟨some 1, .mov (.t 9), none⟩] [1]) (.seq (.opq 0 [1] L_exampleHolds_i0) (.seq (.reg [⟨some 44, .bls 1 [.int .u8 0] [(0, 1, (.c (Go.Value.int Go.IntKind.u8 160)))], none⟩,
 ⟨some 45, .call 21 [(.t 44)] (.one (.sc .ptr)), none⟩,
 ⟨some 2, .mov (.t 45), none⟩] [2]) (.seq (.reg [⟨some 47, .mov (.t 2), none⟩,
 ⟨some 48, .call 31 [(.t 47), (.c (Go.Value.int Go.IntKind.i64 3))] (.tup [(.sc (.int .i64)), (.sc (.int .i64))]), none⟩,
 ⟨some 46, .mov (.t 48), none⟩,
 ⟨some 49, .ext 0 (.t 46), none⟩,
 ⟨some 50, .ext 1 (.t 46), none⟩,
 ⟨some 3, .mov (.t 49), none⟩,
 ⟨some 4, .mov (.t 50), none⟩] [2, 3, 4]) (.seq (.reg [⟨some 52, .mov (.t 2), none⟩,
 ⟨some 53, .call 24 [(.t 52)] (.tup [(.sc (.int .i64)), (.sc (.int .i64))]), none⟩,
 ⟨some 51, .mov (.t 53), none⟩,
 ⟨some 54, .ext 0 (.t 51), none⟩,
 ⟨some 55, .ext 1 (.t 51), none⟩,
 ⟨some 5, .mov (.t 54), none⟩,
 ⟨some 6, .mov (.t 55), none⟩] [2, 3, 4, 5, 6]) (.seq (.reg [⟨some 57, .mov (.t 2), none⟩,
 ⟨some 58, .call 22 [(.t 57)] (.tup [(.sc (.int .i64)), (.sc (.int .i64))]), none⟩,
 ⟨some 56, .mov (.t 58), none⟩,
 ⟨some 59, .ext 0 (.t 56), none⟩,
 ⟨some 60, .ext 1 (.t 56), none⟩,
 ⟨some 7, .mov (.t 59), none⟩,
 ⟨some 8, .mov (.t 60), none⟩] [3, 4, 5, 6, 8]) (.seq (.reg [⟨some 61, .mov (.t 3), none⟩,
 ⟨some 62, .cmp .eql (.t 61) (.c (Go.Value.int Go.IntKind.i64 5)), none⟩,
 ⟨some 63, .mov (.t 62), none⟩,
 ⟨some 64, .mov (.t 4), some (63, true)⟩,
 ⟨some 65, .cmp .eql (.t 64) (.c (Go.Value.int Go.IntKind.i64 0)), some (63, true)⟩,
 ⟨some 66, .pick (.t 63) (.t 65) (.c (Go.Value.bool false)), none⟩,
 ⟨some 67, .mov (.t 66), none⟩,
 ⟨some 68, .mov (.t 5), some (67, true)⟩,
 ⟨some 69, .cmp .eql (.t 68) (.c (Go.Value.int Go.IntKind.i64 1)), some (67, true)⟩,
 ⟨some 70, .pick (.t 67) (.t 69) (.c (Go.Value.bool false)), none⟩,
 ⟨some 71, .mov (.t 70), none⟩,
 ⟨some 72, .mov (.t 6), some (71, true)⟩,
 ⟨some 73, .cmp .eql (.t 72) (.c (Go.Value.int Go.IntKind.i64 0)), some (71, true)⟩,
 ⟨some 74, .pick (.t 71) (.t 73) (.c (Go.Value.bool false)), none⟩,
 ⟨some 75, .mov (.t 74), none⟩,
 ⟨some 76, .mov (.t 8), some (75, true)⟩,
 ⟨some 77, .cmp .eql (.t 76) (.c (Go.Value.int Go.IntKind.i64 7)), some (75, true)⟩,
 ⟨some 78, .pick (.t 75) (.t 77) (.c (Go.Value.bool false)), none⟩,
 ⟨some 0, .mov (.t 78), none⟩] [0]) .ret))))))))⟩
theorem L_exampleHolds_e0 {R : Type} (bitio_NewWriter : Heap → (Option Addr → Heap → Option R) → Option R) (bitio_Writer_Unary : Option Addr → Int → Heap → (Int → Heap → Option R) → Option R) (bitio_Writer_Len : Option Addr → Heap → (Int → Option R) → Option R) (bitio_Writer_Bytes : Option Addr → Heap → (Option Addr → Nat → Nat → Heap → Option R) → Option R) (R09_SameBytes : Option Addr → Nat → Nat → Option Addr → Nat → Nat → Heap → (Bool → Option R) → Option R) (bitio_Writer_Gamma : Option Addr → Int → Heap → (Int → Heap → Option R) → Option R) (bitio_NewReader : Option Addr → Nat → Nat → Heap → (Option Addr → Heap → Option R) → Option R) (bitio_Reader_Bits : Option Addr → Int → Heap → (Int → Int → Heap → Option R) → Option R) (bitio_Reader_Align : Option Addr → Heap → (Int → Int → Heap → Option R) → Option R) (bitio_Reader_Get : Option Addr → Heap → (Int → Int → Heap → Option R) → Option R) (L_exampleHolds_p0 : Option Addr → Heap → (Heap → Option R) → (Bool → Heap → Option R) → Option R) (k : Nat) (p78 : Option Addr) (H : Heap) (K : Xit → Env → Heap → Option R) : evJ (L_exampleHolds_Ct bitio_NewWriter bitio_Writer_Unary bitio_Writer_Len bitio_Writer_Bytes R09_SameBytes bitio_Writer_Gamma bitio_NewReader bitio_Reader_Bits bitio_Reader_Align bitio_Reader_Get) (L_exampleHolds_Jt k L_exampleHolds_p0) L_exampleHolds_i0 (List.zip [1] [.pointer p78]) H (fun x e' H' => K x (clean e' ((⟨[], [], [0]⟩ : Out).of x)) H') = L_exampleHolds_p0_b bitio_Writer_Unary bitio_Writer_Len bitio_Writer_Bytes R09_SameBytes bitio_Writer_Gamma k p78 H (fun H => K .normal [] H) (fun t940 H => K .ret [(0, .bool t940)] H) := by kernel_rfl
theorem L_exampleHolds_j0 {R : Type} (k : Nat) : JS Try.prog 79 (L_exampleHolds_a0 R k k) [1] ⟨[], [], [0]⟩ (sel [1, 1, 0] (Try.f11.body.getD .skip)) :=
  piece_ok (nt := 79) (c := (sel [1, 1, 0] (Try.f11.body.getD .skip))) (C := L_exampleHolds_C R k) (an := An) (t := (.seq (.reg [43] []) (.cond (.seq (.reg [0] []) .leaf) .leaf))) (ic := L_exampleHolds_i0) (L_exampleHolds_S R k) (L_exampleHolds_J R k) (by kernel_rfl) (And.intro True.intro (And.intro (And.intro True.intro True.intro) True.intro)) (L_exampleHolds_a0 R k k)
    (fun vals H K r h => by
      unfold L_exampleHolds_a0 L_exampleHolds_aa0 at h
      split at h <;> first | (cases h; done) | exact Eq.trans (L_exampleHolds_e0 bitio_NewWriter (bitio_Writer_Unary k) bitio_Writer_Len (bitio_Writer_Bytes k) R09_SameBytes (bitio_Writer_Gamma k) bitio_NewReader (bitio_Reader_Bits k) (bitio_Reader_Align k) (bitio_Reader_Get k) (L_exampleHolds_p0 k) k _ H K) h)
def L_exampleHolds_ca {R : Type} (f : Heap → (Bool → Heap → Option R) → Option R) (args : List Value) (H : Heap) (K : Value → Heap → Option R) : Option R :=
  match args with
  | [] => f H (fun t941 H => K (.bool t941) H)
  | _ => none
def L_exampleHolds_c (R : Type) (k : Nat) (args : List Value) (H : Heap) (K : Value → Heap → Option R) : Option R := L_exampleHolds_ca (L_exampleHolds k) args H K
theorem L_exampleHolds_e {R : Type} (bitio_NewWriter : Heap → (Option Addr → Heap → Option R) → Option R) (bitio_Writer_Unary : Option Addr → Int → Heap → (Int → Heap → Option R) → Option R) (bitio_Writer_Len : Option Addr → Heap → (Int → Option R) → Option R) (bitio_Writer_Bytes : Option Addr → Heap → (Option Addr → Nat → Nat → Heap → Option R) → Option R) (R09_SameBytes : Option Addr → Nat → Nat → Option Addr → Nat → Nat → Heap → (Bool → Option R) → Option R) (bitio_Writer_Gamma : Option Addr → Int → Heap → (Int → Heap → Option R) → Option R) (bitio_NewReader : Option Addr → Nat → Nat → Heap → (Option Addr → Heap → Option R) → Option R) (bitio_Reader_Bits : Option Addr → Int → Heap → (Int → Int → Heap → Option R) → Option R) (bitio_Reader_Align : Option Addr → Heap → (Int → Int → Heap → Option R) → Option R) (bitio_Reader_Get : Option Addr → Heap → (Int → Int → Heap → Option R) → Option R) (L_exampleHolds_p0 : Option Addr → Heap → (Heap → Option R) → (Bool → Heap → Option R) → Option R) (k : Nat) (H : Heap) (K : Value → Heap → Option R) : evF (L_exampleHolds_Ct bitio_NewWriter bitio_Writer_Unary bitio_Writer_Len bitio_Writer_Bytes R09_SameBytes bitio_Writer_Gamma bitio_NewReader bitio_Reader_Bits bitio_Reader_Align bitio_Reader_Get) (L_exampleHolds_Jt k L_exampleHolds_p0) L_exampleHolds_f [] H K = L_exampleHolds_b bitio_NewWriter L_exampleHolds_p0 bitio_NewReader bitio_Reader_Bits bitio_Reader_Align bitio_Reader_Get k H (fun t941 H => K (.bool t941) H) := by kernel_rfl
theorem L_exampleHolds_cs (R : Type) (k : Nat) : ∀ args H K r, L_exampleHolds_c R k args H K = some r → ∃ v H', Tri Try.prog 11 args H v H' ∧ K v H' = some r := by
  intro args H K r h
  unfold L_exampleHolds_c L_exampleHolds_ca at h
  split at h
  · exact evF_ok (C := L_exampleHolds_C R k) (an := An) (t := L_exampleHolds_at) (fn := Try.f11) (c := (Try.f11.body.getD .skip)) (ifn := L_exampleHolds_f) (L_exampleHolds_S R k) (L_exampleHolds_J R k) Try.func11 (by kernel_rfl) (by kernel_rfl) (And.intro True.intro (And.intro True.intro (And.intro (L_exampleHolds_j0 k) (And.intro True.intro (And.intro True.intro (And.intro True.intro (And.intro True.intro (And.intro True.intro True.intro)))))))) rfl (Eq.trans (L_exampleHolds_e bitio_NewWriter (bitio_Writer_Unary k) bitio_Writer_Len (bitio_Writer_Bytes k) R09_SameBytes (bitio_Writer_Gamma k) bitio_NewReader (bitio_Reader_Bits k) (bitio_Reader_Align k) (bitio_Reader_Get k) (L_exampleHolds_p0 k) k H K) h)
  · cases h
/-! ### L_exampleHoldsq: function 11 -/
def L_exampleHoldsq {R : Type} (K : Bool → Option R) : Option R := K true
set_option maxRecDepth 1000000 in
theorem L_exampleHolds_run : L_exampleHolds_c Bool 80 [] [] asB = some true := by kernel_rfl
def L_exampleHoldsq_ca {R : Type} (f : (Bool → Option R) → Option R) (args : List Value) (H : Heap) (K : Value → Heap → Option R) : Option R :=
  match args with
  | [] => f (fun t => K (.bool t) H)
  | _ => none
def L_exampleHoldsq_c (R : Type) (k : Nat) (args : List Value) (H : Heap) (K : Value → Heap → Option R) : Option R := L_exampleHoldsq_ca L_exampleHoldsq args H K
theorem L_exampleHoldsq_cs (R : Type) (k : Nat) : ∀ args H K r, L_exampleHoldsq_c R k args H K = some r → ∃ v H', Tri Try.prog 11 args H v H' ∧ K v H' = some r := by
  intro args H K r h
  unfold L_exampleHoldsq_c L_exampleHoldsq_ca at h
  split at h
  · exact ⟨_, _, closed_ok (L_exampleHolds_cs) L_exampleHolds_run H, h⟩
  · cases h
end Go.Proofs.Ytiapgcgpdndkiaa.Sh
