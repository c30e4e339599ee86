/- Lean functions that stand for Go's, over an explicit heap, and the proofs that they do (written by this claim's program shallow.py). -/
import Derived.Test.YtiapgcgpdndkiaaProg
import Derived.Test.YtiapgcgpdndkiaaFwL
set_option maxRecDepth 100000
set_option linter.unusedVariables false
set_option linter.unusedSimpArgs false
namespace Go.Proofs.Ytiapgcgpdndkiaa.Sh
open Go.Proofs.Ytiapgcgpdndkiaa.FW
def An : Ann := ⟨[], [3, 4, 8, 9, 10, 11, 16, 17, 18, 37, 38, 54, 55, 56, 57, 58, 59, 60, 61, 62, 63, 64, 65, 66, 67, 68, 69], [12, 13, 19, 20, 21, 25], [5, 6, 7, 14, 15, 22, 23, 24, 26, 27, 28, 29, 30, 31, 32, 33, 34, 35, 36, 39, 40, 41, 42, 43, 44, 45, 46, 47, 48, 49, 50, 51, 52, 53]⟩

/-! ### bitio_NewWriter: function 12 -/
def bitio_NewWriter_b {R : Type} (k : Nat) (H : Heap) (K : Option Addr → Heap → Option R) : Option R :=
hal H [.bool true, .slice none 0 0, .int .u8 0, .int .i64 0, .int .i64 8, .int .i64 0] fun p76 H77 =>
K p76 H77

def bitio_NewWriter {R : Type} (H : Heap) (K : Option Addr → Heap → Option R) : Option R := bitio_NewWriter_b 0 H K

def bitio_NewWriter_Ct {R : Type} : Tab R := fun _ _ _ _ => none
def bitio_NewWriter_C (R : Type) (k : Nat) : Tab R := bitio_NewWriter_Ct
theorem bitio_NewWriter_S (R : Type) (k : Nat) : CSound Try.prog (bitio_NewWriter_C R k) := csound_nil
def bitio_NewWriter_Jt {R : Type} (k : Nat) : JTab R := fun _ _ _ _ => none
def bitio_NewWriter_J (R : Type) (k : Nat) : JTab R := bitio_NewWriter_Jt k
def bitio_NewWriter_at : AT := (.seq (.reg [] []) (.seq (.reg [0] []) .leaf))
def bitio_NewWriter_f : IFn := ⟨3, [.t 0], (.seq (.reg [⟨some 0, .mov (.c (Go.Value.pointer none)), none⟩] []) (.seq (.reg [⟨some 1, .bld [.bool false, .slice none 0 0, .int .u8 0, .int .i64 0, .int .i64 0, .int .i64 0] [(0, 1, (.c (Go.Value.bool true))), (4, 1, (.c (Go.Value.int Go.IntKind.i64 8)))], none⟩,
 ⟨some 2, .box (.t 1), none⟩,
 ⟨some 0, .mov (.t 2), none⟩] [0]) .ret))⟩
def bitio_NewWriter_ca {R : Type} (f : Heap → (Option Addr → Heap → Option R) → Option R) (args : List Value) (H : Heap) (K : Value → Heap → Option R) : Option R :=
  match args with
  | [] => f H (fun p871 H => K (.pointer p871) H)
  | _ => none
def bitio_NewWriter_c (R : Type) (k : Nat) (args : List Value) (H : Heap) (K : Value → Heap → Option R) : Option R := bitio_NewWriter_ca bitio_NewWriter args H K
theorem bitio_NewWriter_e {R : Type} (k : Nat) (H : Heap) (K : Value → Heap → Option R) : evF (bitio_NewWriter_Ct) (bitio_NewWriter_Jt k) bitio_NewWriter_f [] H K = bitio_NewWriter_b k H (fun p871 H => K (.pointer p871) H) := by kernel_rfl
theorem bitio_NewWriter_cs (R : Type) (k : Nat) : ∀ args H K r, bitio_NewWriter_c R k args H K = some r → ∃ v H', Tri Try.prog 12 args H v H' ∧ K v H' = some r := by
  intro args H K r h
  unfold bitio_NewWriter_c bitio_NewWriter_ca at h
  split at h
  · exact evF_ok (C := bitio_NewWriter_C R 0) (an := An) (t := bitio_NewWriter_at) (fn := Try.f12) (c := (Try.f12.body.getD .skip)) (ifn := bitio_NewWriter_f) (bitio_NewWriter_S R 0) (bitio_NewWriter_J R 0) Try.func12 (by kernel_rfl) (by kernel_rfl) (And.intro True.intro (And.intro True.intro True.intro)) rfl (Eq.trans (bitio_NewWriter_e 0 H K) h)
  · cases h
/-! ### bitio_Writer_ok: function 37 -/
def bitio_Writer_ok_b {R : Type} (k : Nat) (p84 : Option Addr) (H : Heap) (K : Bool → Option R) : Option R :=
bif p84.isSome then (hnil p84 fun p85 =>
hfad 0 p85 fun p86 =>
ldB H p86 fun t87 =>
K t87)
 else (K false)

def bitio_Writer_ok {R : Type} (p84 : Option Addr) (H : Heap) (K : Bool → Option R) : Option R := bitio_Writer_ok_b 0 p84 H K

def bitio_Writer_ok_Ct {R : Type} : Tab R := fun _ _ _ _ => none
def bitio_Writer_ok_C (R : Type) (k : Nat) : Tab R := bitio_Writer_ok_Ct
theorem bitio_Writer_ok_S (R : Type) (k : Nat) : CSound Try.prog (bitio_Writer_ok_C R k) := csound_nil
def bitio_Writer_ok_Jt {R : Type} (k : Nat) : JTab R := fun _ _ _ _ => none
def bitio_Writer_ok_J (R : Type) (k : Nat) : JTab R := bitio_Writer_ok_Jt k
def bitio_Writer_ok_at : AT := (.seq (.reg [0] []) (.seq (.reg [2] []) .leaf))
def bitio_Writer_ok_f : IFn := ⟨11, [.t 2], (.seq (.reg [⟨some 2, .mov (.c (Go.Value.bool false)), none⟩] [0]) (.seq (.reg [⟨some 3, .mov (.t 0), none⟩,
 ⟨some 4, .eqnil (.t 3) true 0, none⟩,
 ⟨some 5, .mov (.t 4), none⟩,
 ⟨some 6, .mov (.t 0), some (5, true)⟩,
 ⟨some 7, .nilc (.t 6), some (5, true)⟩,
 ⟨some 8, .fad 0 (.t 7), some (5, true)⟩,
 ⟨some 9, .ld (.sc .bool) (.t 8), some (5, true)⟩,
 ⟨some 10, .pick (.t 5) (.t 9) (.c (Go.Value.bool false)), none⟩,
 ⟨some 2, .mov (.t 10), none⟩] [2]) .ret))⟩
def bitio_Writer_ok_ca {R : Type} (f : Option Addr → Heap → (Bool → Option R) → Option R) (args : List Value) (H : Heap) (K : Value → Heap → Option R) : Option R :=
  match args with
  | [.pointer p84] => f p84 H (fun t872 => K (.bool t872) H)
  | _ => none
def bitio_Writer_ok_c (R : Type) (k : Nat) (args : List Value) (H : Heap) (K : Value → Heap → Option R) : Option R := bitio_Writer_ok_ca bitio_Writer_ok args H K
theorem bitio_Writer_ok_e {R : Type} (k : Nat) (p84 : Option Addr) (H : Heap) (K : Value → Heap → Option R) : evF (bitio_Writer_ok_Ct) (bitio_Writer_ok_Jt k) bitio_Writer_ok_f [.pointer p84] H K = bitio_Writer_ok_b k p84 H (fun t872 => K (.bool t872) H) := by kernel_rfl
theorem bitio_Writer_ok_cs (R : Type) (k : Nat) : ∀ args H K r, bitio_Writer_ok_c R k args H K = some r → ∃ v H', Tri Try.prog 37 args H v H' ∧ K v H' = some r := by
  intro args H K r h
  unfold bitio_Writer_ok_c bitio_Writer_ok_ca at h
  split at h
  · exact evF_ok (C := bitio_Writer_ok_C R 0) (an := An) (t := bitio_Writer_ok_at) (fn := Try.f37) (c := (Try.f37.body.getD .skip)) (ifn := bitio_Writer_ok_f) (bitio_Writer_ok_S R 0) (bitio_Writer_ok_J R 0) Try.func37 (by kernel_rfl) (by kernel_rfl) (And.intro True.intro (And.intro True.intro True.intro)) rfl (Eq.trans (bitio_Writer_ok_e 0 _ H K) h)
  · cases h
/-! ### bitio_Writer_put: function 40 -/
def bitio_Writer_put_p0_b {R : Type} (k : Nat) (p147 : Option Addr) (H : Heap) (KN : Option Addr → Heap → Option R) : Option R :=
hnil p147 fun p148 =>
hfad 2 p148 fun p149 =>
ldI .u8 H p149 fun n150 =>
bif (n150 == 255) then (hnil p147 fun p151 =>
hfad 4 p151 fun p152 =>
hst1 H p152 (.int .i64 7) fun H153 =>
KN p147 H153)
 else (KN p147 H)
def bitio_Writer_put_p0 {R : Type} (k : Nat) (p147 : Option Addr) (H : Heap) (KN : Option Addr → Heap → Option R) : Option R := bitio_Writer_put_p0_b k p147 H KN

def bitio_Writer_put_b {R : Type} (bitio_Writer_put_p0 : Option Addr → Heap → (Option Addr → Heap → Option R) → Option R) (k : Nat) (p100 : Option Addr) (n101 : Int) (H : Heap) (K : Heap → Option R) : Option R :=
hnil p100 fun p102 =>
hfad 2 p102 fun p103 =>
ldI .u8 H p103 fun n104 =>
hbin .or .u8 (IntKind.wrap .u8 (n104 * 2)) (IntKind.wrap .u8 n101) fun n105 =>
hnil p100 fun p106 =>
hfad 2 p106 fun p107 =>
hst1 H p107 (.int .u8 n105) fun H108 =>
hnil p100 fun p109 =>
hfad 3 p109 fun p110 =>
ldI .i64 H108 p110 fun n111 =>
hnil p100 fun p112 =>
hfad 3 p112 fun p113 =>
hst1 H108 p113 (.int .i64 (IntKind.wrap .i64 (n111 + 1))) fun H114 =>
hnil p100 fun p115 =>
hfad 5 p115 fun p116 =>
ldI .i64 H114 p116 fun n117 =>
hnil p100 fun p118 =>
hfad 5 p118 fun p119 =>
hst1 H114 p119 (.int .i64 (IntKind.wrap .i64 (n117 + 1))) fun H120 =>
hnil p100 fun p121 =>
hfad 3 p121 fun p122 =>
ldI .i64 H120 p122 fun n123 =>
hnil p100 fun p124 =>
hfad 4 p124 fun p125 =>
ldI .i64 H120 p125 fun n126 =>
bif decide (n123 < n126) then (K H120)
 else (hnil p100 fun p127 =>
hfad 1 p127 fun p128 =>
ldL H120 p128 fun q129 l130 c131 =>
hnil p100 fun p132 =>
hfad 2 p132 fun p133 =>
ldI .u8 H120 p133 fun n134 =>
hal H120 [.int .u8 n134] fun p135 H136 =>
happS 1 1 H136 q129 l130 c131 p135 1 fun q137 l138 c139 H140 =>
hnil p100 fun p141 =>
hfad 1 p141 fun p142 =>
hst1 H140 p142 (.slice q137 l138 c139) fun H143 =>
hnil p100 fun p144 =>
hfad 4 p144 fun p145 =>
hst1 H143 p145 (.int .i64 8) fun H146 =>
bitio_Writer_put_p0 p100 H146 (fun p155 H156 =>
hnil p155 fun p157 =>
hfad 2 p157 fun p158 =>
hst1 H156 p158 (.int .u8 0) fun H159 =>
hnil p155 fun p160 =>
hfad 3 p160 fun p161 =>
hst1 H159 p161 (.int .i64 0) fun H162 =>
K H162))

def bitio_Writer_put {R : Type} (k : Nat) (p100 : Option Addr) (n101 : Int) (H : Heap) (K : Heap → Option R) : Option R := bitio_Writer_put_b (bitio_Writer_put_p0 k) k p100 n101 H K

def bitio_Writer_put_Ct {R : Type} : Tab R := fun _ _ _ _ => none
def bitio_Writer_put_C (R : Type) (k : Nat) : Tab R := bitio_Writer_put_Ct
theorem bitio_Writer_put_S (R : Type) (k : Nat) : CSound Try.prog (bitio_Writer_put_C R k) := csound_nil
def bitio_Writer_put_aa0 {R : Type} (f : Option Addr → Heap → (Option Addr → Heap → Option R) → Option R) (n : Nat) (vals : List Value) (H : Heap) (K : Xit → Env → Heap → Option R) : Option R :=
  match vals with
  | [.pointer p147] => f p147 H (fun p873 H => K .normal [(0, .pointer p873)] H)
  | _ => none
def bitio_Writer_put_a0 (R : Type) (k n : Nat) (vals : List Value) (H : Heap) (K : Xit → Env → Heap → Option R) : Option R := bitio_Writer_put_aa0 (bitio_Writer_put_p0 k) n vals H K
def bitio_Writer_put_Jt {R : Type} (k : Nat) (bitio_Writer_put_p0 : Option Addr → Heap → (Option Addr → Heap → Option R) → Option R) : JTab R := tcons 0 (bitio_Writer_put_aa0 bitio_Writer_put_p0 k) <| fun _ _ _ _ => none
def bitio_Writer_put_J (R : Type) (k : Nat) : JTab R := bitio_Writer_put_Jt k (bitio_Writer_put_p0 k)
def bitio_Writer_put_at : AT := (.seq (.reg [0] []) (.seq (.reg [0] []) (.seq (.reg [0] []) (.seq (.seq (.reg [0, 37] [[], [0], [0, 1], [0, 1, 2], [], [4], [4, 5], [4, 5, 6], [0, 1, 2, 3, 4, 5, 6, 7]]) (.cond .leaf .leaf)) (.seq (.reg [0] [[], [], [1], [1, 2], [1, 2, 3], [], [5], [5, 6], [5, 6, 7], [5, 6, 7, 8], [1, 2, 3, 4, 5, 6, 7, 8, 9], [0, 1, 2, 3, 4, 5, 6, 7, 8, 9, 10], [0, 1, 2, 3, 4, 5, 6, 7, 8, 9, 10, 11], [0, 1, 2, 3, 4, 5, 6, 7, 8, 9, 10, 11, 12]]) (.seq (.reg [0] []) (.seq (.opq 0 [0] ⟨[0], [], []⟩ (.seq (.reg [0, 58] []) (.cond (.reg [0] []) .leaf))) (.reg [] []))))))))
def bitio_Writer_put_i0 : IC := (.seq (.reg [⟨some 54, .mov (.t 0), none⟩,
 ⟨some 55, .nilc (.t 54), none⟩,
 ⟨some 56, .fad 2 (.t 55), none⟩,
 ⟨some 57, .ld (.sc (.int .u8)) (.t 56), none⟩,
 ⟨some 58, .cmp .eql (.t 57) (.c (Go.Value.int Go.IntKind.u8 255)), none⟩] [0, 58]) (.cond (.t 58) (.reg [⟨some 59, .mov (.t 0), none⟩,
 ⟨some 60, .nilc (.t 59), none⟩,
 ⟨some 61, .fad 4 (.t 60), none⟩,
 ⟨none, .st 1 (.t 61) (.c (Go.Value.int Go.IntKind.i64 7)), none⟩] [0]) .skip))
def bitio_Writer_put_f : IFn := ⟨68, [], (.seq (.reg [⟨some 4, .mov (.t 0), none⟩,
 ⟨some 5, .mov (.t 0), none⟩,
 ⟨some 6, .nilc (.t 5), none⟩,
 ⟨some 7, .fad 2 (.t 6), none⟩,
 ⟨some 8, .ld (.sc (.int .u8)) (.t 7), none⟩,
 ⟨some 9, .bin .shl .u8 (.t 8) (.c (Go.Value.int Go.IntKind.u64 1)), none⟩,
 ⟨some 10, .mov (.t 1), none⟩,
 ⟨some 11, .cnv .u8 (.t 10), none⟩,
 ⟨some 12, .bin .or .u8 (.t 9) (.t 11), none⟩,
 ⟨some 13, .nilc (.t 4), none⟩,
 ⟨some 14, .fad 2 (.t 13), none⟩,
 ⟨none, .st 1 (.t 14) (.t 12), none⟩] [0]) (.seq (.reg [⟨some 15, .mov (.t 0), none⟩,
 ⟨some 16, .nilc (.t 15), none⟩,
 ⟨some 17, .fad 3 (.t 16), none⟩,
 ⟨some 18, .ld (.sc (.int .i64)) (.t 17), none⟩,
 ⟨some 19, .bin .add .i64 (.t 18) (.c (Go.Value.int Go.IntKind.i64 1)), none⟩,
 ⟨some 20, .nilc (.t 15), none⟩,
 ⟨some 21, .fad 3 (.t 20), none⟩,
 ⟨none, .st 1 (.t 21) (.t 19), none⟩] [0]) (.seq (.reg [⟨some 22, .mov (.t 0), none⟩,
 ⟨some 23, .nilc (.t 22), none⟩,
 ⟨some 24, .fad 5 (.t 23), none⟩,
 ⟨some 25, .ld (.sc (.int .i64)) (.t 24), none⟩,
 ⟨some 26, .bin .add .i64 (.t 25) (.c (Go.Value.int Go.IntKind.i64 1)), none⟩,
 ⟨some 27, .nilc (.t 22), none⟩,
 ⟨some 28, .fad 5 (.t 27), none⟩,
 ⟨none, .st 1 (.t 28) (.t 26), none⟩] [0]) (.seq (.seq (.reg [⟨some 29, .mov (.t 0), none⟩,
 ⟨some 30, .nilc (.t 29), none⟩,
 ⟨some 31, .fad 3 (.t 30), none⟩,
 ⟨some 32, .ld (.sc (.int .i64)) (.t 31), none⟩,
 ⟨some 33, .mov (.t 0), none⟩,
 ⟨some 34, .nilc (.t 33), none⟩,
 ⟨some 35, .fad 4 (.t 34), none⟩,
 ⟨some 36, .ld (.sc (.int .i64)) (.t 35), none⟩,
 ⟨some 37, .cmp .lss (.t 32) (.t 36), none⟩] [0, 37]) (.cond (.t 37) .ret .skip)) (.seq (.reg [⟨some 38, .mov (.t 0), none⟩,
 ⟨some 39, .mov (.t 0), none⟩,
 ⟨some 40, .nilc (.t 39), none⟩,
 ⟨some 41, .fad 1 (.t 40), none⟩,
 ⟨some 42, .ld (.sc .slc) (.t 41), none⟩,
 ⟨some 43, .mov (.t 0), none⟩,
 ⟨some 44, .nilc (.t 43), none⟩,
 ⟨some 45, .fad 2 (.t 44), none⟩,
 ⟨some 46, .ld (.sc (.int .u8)) (.t 45), none⟩,
 ⟨some 47, .bls 1 [.int .u8 0] [(0, 1, (.t 46))], none⟩,
 ⟨some 48, .app [.int .u8 0] 1 (.t 42) (.t 47), none⟩,
 ⟨some 49, .nilc (.t 38), none⟩,
 ⟨some 50, .fad 1 (.t 49), none⟩,
 ⟨none, .st 1 (.t 50) (.t 48), none⟩] [0]) (.seq (.reg [⟨some 51, .mov (.t 0), none⟩,
 ⟨some 52, .nilc (.t 51), none⟩,
 ⟨some 53, .fad 4 (.t 52), none⟩,
 ⟨none, .st 1 (.t 53) (.c (Go.Value.int Go.IntKind.i64 8)), none⟩] [0]) (.seq (.opq 0 [0] bitio_Writer_put_i0) (.reg [⟨some 62, .mov (.t 0), none⟩,
 ⟨some 63, .mov (.t 0), none⟩,
 ⟨some 64, .nilc (.t 62), none⟩,
 ⟨some 65, .fad 2 (.t 64), none⟩,
 ⟨none, .st 1 (.t 65) (.c (Go.Value.int Go.IntKind.u8 0)), none⟩,
 ⟨some 66, .nilc (.t 63), none⟩,
 ⟨some 67, .fad 3 (.t 66), none⟩,
 ⟨none, .st 1 (.t 67) (.c (Go.Value.int Go.IntKind.i64 0)), none⟩] []))))))))⟩
theorem bitio_Writer_put_e0 {R : Type} (bitio_Writer_put_p0 : Option Addr → Heap → (Option Addr → Heap → Option R) → Option R) (k : Nat) (p147 : Option Addr) (H : Heap) (K : Xit → Env → Heap → Option R) : evJ (bitio_Writer_put_Ct) (bitio_Writer_put_Jt k bitio_Writer_put_p0) bitio_Writer_put_i0 (List.zip [0] [.pointer p147]) H (fun x e' H' => K x (clean e' ((⟨[0], [], []⟩ : Out).of x)) H') = bitio_Writer_put_p0_b k p147 H (fun p873 H => K .normal [(0, .pointer p873)] H) := by kernel_rfl
theorem bitio_Writer_put_j0 {R : Type} (k : Nat) : JS Try.prog 68 (bitio_Writer_put_a0 R k k) [0] ⟨[0], [], []⟩ (sel [1, 1, 1, 1, 1, 1, 0] (Try.f40.body.getD .skip)) :=
  piece_ok (nt := 68) (c := (sel [1, 1, 1, 1, 1, 1, 0] (Try.f40.body.getD .skip))) (C := bitio_Writer_put_C R k) (an := An) (t := (.seq (.reg [0, 58] []) (.cond (.reg [0] []) .leaf))) (ic := bitio_Writer_put_i0) (bitio_Writer_put_S R k) (bitio_Writer_put_J R k) (by kernel_rfl) (And.intro True.intro (And.intro True.intro True.intro)) (bitio_Writer_put_a0 R k k)
    (fun vals H K r h => by
      unfold bitio_Writer_put_a0 bitio_Writer_put_aa0 at h
      split at h <;> first | (cases h; done) | exact Eq.trans (bitio_Writer_put_e0 (bitio_Writer_put_p0 k) k _ H K) h)
def bitio_Writer_put_ca {R : Type} (f : Option Addr → Int → Heap → (Heap → Option R) → Option R) (args : List Value) (H : Heap) (K : Value → Heap → Option R) : Option R :=
  match args with
  | [.pointer p100, .int .i64 n101] => f p100 n101 H (fun H => K (undef) H)
  | _ => none
def bitio_Writer_put_c (R : Type) (k : Nat) (args : List Value) (H : Heap) (K : Value → Heap → Option R) : Option R := bitio_Writer_put_ca (bitio_Writer_put k) args H K
theorem bitio_Writer_put_e {R : Type} (bitio_Writer_put_p0 : Option Addr → Heap → (Option Addr → Heap → Option R) → Option R) (k : Nat) (p100 : Option Addr) (n101 : Int) (H : Heap) (K : Value → Heap → Option R) : evF (bitio_Writer_put_Ct) (bitio_Writer_put_Jt k bitio_Writer_put_p0) bitio_Writer_put_f [.pointer p100, .int .i64 n101] H K = bitio_Writer_put_b bitio_Writer_put_p0 k p100 n101 H (fun H => K (undef) H) := by kernel_rfl
theorem bitio_Writer_put_cs (R : Type) (k : Nat) : ∀ args H K r, bitio_Writer_put_c R k args H K = some r → ∃ v H', Tri Try.prog 40 args H v H' ∧ K v H' = some r := by
  intro args H K r h
  unfold bitio_Writer_put_c bitio_Writer_put_ca at h
  split at h
  · exact evF_ok (C := bitio_Writer_put_C R k) (an := An) (t := bitio_Writer_put_at) (fn := Try.f40) (c := (Try.f40.body.getD .skip)) (ifn := bitio_Writer_put_f) (bitio_Writer_put_S R k) (bitio_Writer_put_J R k) Try.func40 (by kernel_rfl) (by kernel_rfl) (And.intro True.intro (And.intro True.intro (And.intro True.intro (And.intro (And.intro True.intro (And.intro True.intro True.intro)) (And.intro True.intro (And.intro True.intro (And.intro (bitio_Writer_put_j0 k) True.intro))))))) rfl (Eq.trans (bitio_Writer_put_e (bitio_Writer_put_p0 k) k _ _ H K) h)
  · cases h
/-! ### bitio_Writer_Unary: function 29 -/
def bitio_Writer_Unary_p0_b {R : Type} (k : Nat) (p85 : Option Addr) (n86 : Int) (KN : Option Addr → Int → Option R) (KR : Int → Option R) : Option R :=
bif decide (n86 < 0) then (KR 1)
 else (bif decide (n86 > 65535) then (KR 1)
 else (KN p85 n86))
def bitio_Writer_Unary_p0 {R : Type} (k : Nat) (p85 : Option Addr) (n86 : Int) (KN : Option Addr → Int → Option R) (KR : Int → Option R) : Option R := bitio_Writer_Unary_p0_b k p85 n86 KN KR

def bitio_Writer_Unary_l1_b {R : Type} (bitio_Writer_put : Option Addr → Int → Heap → (Heap → Option R) → Option R) (rec : Option Addr → Int → Int → Heap → Option R) (KE0 : Option Addr → Heap → Option R) (k : Nat) (p92 : Option Addr) (n93 : Int) (n94 : Int) (H : Heap) : Option R :=
bif decide (n94 < n93) then (bitio_Writer_put p92 1 H fun H95 =>
rec p92 n93 (IntKind.wrap .i64 (n94 + 1)) H95)
 else (KE0 p92 H)
def bitio_Writer_Unary_l1 {R : Type} (k : Nat) (KE0 : Option Addr → Heap → Option R) : Nat → Option Addr → Int → Int → Heap → Option R
  | 0, _, _, _, _ => none
  | n + 1, p92, n93, n94, H => bitio_Writer_Unary_l1_b (bitio_Writer_put k) (bitio_Writer_Unary_l1 k KE0 n) KE0 k p92 n93 n94 H

def bitio_Writer_Unary_b {R : Type} (bitio_Writer_ok : Option Addr → Heap → (Bool → Option R) → Option R) (bitio_Writer_Unary_p0 : Option Addr → Int → (Option Addr → Int → Option R) → (Int → Option R) → Option R) (bitio_Writer_Unary_l1 : (Option Addr → Heap → Option R) → Nat → Option Addr → Int → Int → Heap → Option R) (bitio_Writer_put : Option Addr → Int → Heap → (Heap → Option R) → Option R) (k : Nat) (p82 : Option Addr) (n83 : Int) (H : Heap) (K : Int → Heap → Option R) : Option R :=
bitio_Writer_ok p82 H fun t84 =>
bif (!t84) then (K 6 H)
 else (bitio_Writer_Unary_p0 p82 n83 (fun p90 n91 =>
bitio_Writer_Unary_l1 (fun p97 H98 =>
bitio_Writer_put p97 0 H98 fun H99 =>
K 0 H99) k p90 n91 0 H) (fun n100 =>
K n100 H))

def bitio_Writer_Unary {R : Type} (k : Nat) (p82 : Option Addr) (n83 : Int) (H : Heap) (K : Int → Heap → Option R) : Option R := bitio_Writer_Unary_b bitio_Writer_ok (bitio_Writer_Unary_p0 k) (bitio_Writer_Unary_l1 k) (bitio_Writer_put k) k p82 n83 H K

def bitio_Writer_Unary_Ct {R : Type} (bitio_Writer_ok : Option Addr → Heap → (Bool → Option R) → Option R) (bitio_Writer_put : Option Addr → Int → Heap → (Heap → Option R) → Option R) : Tab R := tcons 37 (bitio_Writer_ok_ca bitio_Writer_ok) <| tcons 40 (bitio_Writer_put_ca bitio_Writer_put) <| fun _ _ _ _ => none
def bitio_Writer_Unary_C (R : Type) (k : Nat) : Tab R := bitio_Writer_Unary_Ct bitio_Writer_ok (bitio_Writer_put k)
theorem bitio_Writer_Unary_S (R : Type) (k : Nat) : CSound Try.prog (bitio_Writer_Unary_C R k) := csound_cons (bitio_Writer_ok_cs R k) <| csound_cons (bitio_Writer_put_cs R k) <| csound_nil
def bitio_Writer_Unary_aa0 {R : Type} (f : Option Addr → Int → (Option Addr → Int → Option R) → (Int → Option R) → Option R) (n : Nat) (vals : List Value) (H : Heap) (K : Xit → Env → Heap → Option R) : Option R :=
  match vals with
  | [.pointer p85, .int .i64 n86] => f p85 n86 (fun p874 n875 => K .normal [(0, .pointer p874), (1, .int .i64 n875)] H) (fun n876 => K .ret [(4, .int .i64 n876)] H)
  | _ => none
def bitio_Writer_Unary_a0 (R : Type) (k n : Nat) (vals : List Value) (H : Heap) (K : Xit → Env → Heap → Option R) : Option R := bitio_Writer_Unary_aa0 (bitio_Writer_Unary_p0 k) n vals H K
def bitio_Writer_Unary_aa1 {R : Type} (f : (Option Addr → Heap → Option R) → Nat → Option Addr → Int → Int → Heap → Option R) (n : Nat) (vals : List Value) (H : Heap) (K : Xit → Env → Heap → Option R) : Option R :=
  match vals with
  | [.pointer p92, .int .i64 n93, .int .i64 n94] => f (fun p877 H => K (.exit 0) [(0, .pointer p877)] H) n p92 n93 n94 H
  | _ => none
def bitio_Writer_Unary_a1 (R : Type) (k n : Nat) (vals : List Value) (H : Heap) (K : Xit → Env → Heap → Option R) : Option R := bitio_Writer_Unary_aa1 (bitio_Writer_Unary_l1 k) n vals H K
def bitio_Writer_Unary_Jt {R : Type} (k : Nat) (bitio_Writer_Unary_p0 : Option Addr → Int → (Option Addr → Int → Option R) → (Int → Option R) → Option R) (bitio_Writer_Unary_l1 : (Option Addr → Heap → Option R) → Nat → Option Addr → Int → Int → Heap → Option R) : JTab R := tcons 0 (bitio_Writer_Unary_aa0 bitio_Writer_Unary_p0 k) <| tcons 1 (bitio_Writer_Unary_aa1 bitio_Writer_Unary_l1 k) <| fun _ _ _ _ => none
def bitio_Writer_Unary_J (R : Type) (k : Nat) : JTab R := bitio_Writer_Unary_Jt k (bitio_Writer_Unary_p0 k) (bitio_Writer_Unary_l1 k)
def bitio_Writer_Unary_at : AT := (.seq (.reg [0, 1] []) (.seq (.seq (.reg [0, 1, 7] []) (.cond (.seq (.reg [4] []) .leaf) .leaf)) (.seq (.opq 0 [0, 1] ⟨[0, 1], [], [4]⟩ (.seq (.reg [0, 1, 13] []) (.cond (.seq (.reg [4] []) .leaf) .leaf))) (.seq (.seq (.reg [0, 14, 15] []) (.node (.opq 1 [0, 14, 15] ⟨[], [(0, [0])], []⟩ (.node (.seq (.reg [0, 14, 15, 16] []) (.seq (.cond .leaf .leaf) (.seq (.node (.reg [0, 14, 15] [])) (.reg [0, 14, 15] [])))))))) (.seq (.reg [] []) (.seq (.reg [4] []) .leaf))))))
def bitio_Writer_Unary_i1 : IC := (.seq (.reg [⟨some 16, .cmp .lss (.t 15) (.t 14), none⟩] [0, 14, 15, 16]) (.seq (.cond (.t 16) .skip (.exit 0)) (.seq (.block 1 (.reg [⟨some 17, .mov (.t 0), none⟩,
 ⟨some 18, .call 40 [(.t 17), (.c (Go.Value.int Go.IntKind.i64 1))] .none, none⟩] [0, 14, 15])) (.reg [⟨some 19, .bin .add .i64 (.t 15) (.c (Go.Value.int Go.IntKind.i64 1)), none⟩,
 ⟨some 15, .mov (.t 19), none⟩] [0, 14, 15]))))
def bitio_Writer_Unary_i0 : IC := (.seq (.reg [⟨some 8, .mov (.t 1), none⟩,
 ⟨some 9, .cmp .lss (.t 8) (.c (Go.Value.int Go.IntKind.i64 0)), none⟩,
 ⟨some 10, .mov (.t 9), none⟩,
 ⟨some 11, .mov (.t 1), some (10, false)⟩,
 ⟨some 12, .cmp .gtr (.t 11) (.c (Go.Value.int Go.IntKind.i64 65535)), some (10, false)⟩,
 ⟨some 13, .pick (.t 10) (.c (Go.Value.bool true)) (.t 12), none⟩] [0, 1, 13]) (.cond (.t 13) (.seq (.reg [⟨some 4, .mov (.c (Go.Value.int Go.IntKind.i64 1)), none⟩] [4]) .ret) .skip))
def bitio_Writer_Unary_f : IFn := ⟨22, [.t 4], (.seq (.reg [⟨some 4, .mov (.c (Go.Value.int Go.IntKind.i64 0)), none⟩] [0, 1]) (.seq (.seq (.reg [⟨some 5, .mov (.t 0), none⟩,
 ⟨some 6, .call 37 [(.t 5)] (.one (.sc .bool)), none⟩,
 ⟨some 7, .lnot (.t 6), none⟩] [0, 1, 7]) (.cond (.t 7) (.seq (.reg [⟨some 4, .mov (.c (Go.Value.int Go.IntKind.i64 6)), none⟩] [4]) .ret) .skip)) (.seq (.opq 0 [0, 1] bitio_Writer_Unary_i0) (.seq (.seq (.reg [⟨some 14, .mov (.t 1), none⟩,
 ⟨some 15, .mov (.c (Go.Value.int Go.IntKind.i64 0)), none⟩] [0, 14, 15]) (.block 0 (.opq 1 [0, 14, 15] (.loop bitio_Writer_Unary_i1)))) (.seq (.reg [⟨some 20, .mov (.t 0), none⟩,
 ⟨some 21, .call 40 [(.t 20), (.c (Go.Value.int Go.IntKind.i64 0))] .none, none⟩] []) (.seq (.reg [⟨some 4, .mov (.c (Go.Value.int Go.IntKind.i64 0)), none⟩] [4]) .ret))))))⟩
theorem bitio_Writer_Unary_e1 {R : Type} (bitio_Writer_ok : Option Addr → Heap → (Bool → Option R) → Option R) (bitio_Writer_put : Option Addr → Int → Heap → (Heap → Option R) → Option R) (bitio_Writer_Unary_p0 : Option Addr → Int → (Option Addr → Int → Option R) → (Int → Option R) → Option R) (bitio_Writer_Unary_l1 : (Option Addr → Heap → Option R) → Nat → Option Addr → Int → Int → Heap → Option R) (k n : Nat) (p92 : Option Addr) (n93 : Int) (n94 : Int) (H : Heap) (K : Xit → Env → Heap → Option R) : evJ (bitio_Writer_Unary_Ct bitio_Writer_ok bitio_Writer_put) (bitio_Writer_Unary_Jt k bitio_Writer_Unary_p0 bitio_Writer_Unary_l1) bitio_Writer_Unary_i1 (List.zip [0, 14, 15] [.pointer p92, .int .i64 n93, .int .i64 n94]) H (fun x e' H' => match x with | .normal => bitio_Writer_Unary_aa1 bitio_Writer_Unary_l1 n ((clean e' [0, 14, 15]).map (·.2)) H' K | x => K x (clean e' ((⟨[], [(0, [0])], []⟩ : Out).of x)) H') = bitio_Writer_Unary_l1_b bitio_Writer_put (bitio_Writer_Unary_l1 (fun p877 H => K (.exit 0) [(0, .pointer p877)] H) n) (fun p877 H => K (.exit 0) [(0, .pointer p877)] H) k p92 n93 n94 H := by kernel_rfl
theorem bitio_Writer_Unary_j1 {R : Type} (k : Nat) : JS Try.prog 22 (bitio_Writer_Unary_a1 R k k) [0, 14, 15] ⟨[], [(0, [0])], []⟩ (.loop (sel [1, 1, 1, 0, 1, 0, 0] (Try.f29.body.getD .skip))) :=
  loop_ok (nt := 22) (c := (sel [1, 1, 1, 0, 1, 0, 0] (Try.f29.body.getD .skip))) (C := bitio_Writer_Unary_C R k) (an := An) (t := (.seq (.reg [0, 14, 15, 16] []) (.seq (.cond .leaf .leaf) (.seq (.node (.reg [0, 14, 15] [])) (.reg [0, 14, 15] []))))) (ic := bitio_Writer_Unary_i1) (bitio_Writer_Unary_S R k) (bitio_Writer_Unary_J R k) (by kernel_rfl) (And.intro True.intro (And.intro (And.intro True.intro True.intro) (And.intro True.intro True.intro))) (bitio_Writer_Unary_a1 R k) (fun vals H K => by unfold bitio_Writer_Unary_a1 bitio_Writer_Unary_aa1; split <;> rfl)
    (fun n vals H K r h => by
      unfold bitio_Writer_Unary_a1 bitio_Writer_Unary_aa1 at h
      split at h <;> first | (cases h; done) | exact Eq.trans (bitio_Writer_Unary_e1 bitio_Writer_ok (bitio_Writer_put k) (bitio_Writer_Unary_p0 k) (bitio_Writer_Unary_l1 k) k n _ _ _ H K) h) k
theorem bitio_Writer_Unary_e0 {R : Type} (bitio_Writer_ok : Option Addr → Heap → (Bool → Option R) → Option R) (bitio_Writer_put : Option Addr → Int → Heap → (Heap → Option R) → Option R) (bitio_Writer_Unary_p0 : Option Addr → Int → (Option Addr → Int → Option R) → (Int → Option R) → Option R) (bitio_Writer_Unary_l1 : (Option Addr → Heap → Option R) → Nat → Option Addr → Int → Int → Heap → Option R) (k : Nat) (p85 : Option Addr) (n86 : Int) (H : Heap) (K : Xit → Env → Heap → Option R) : evJ (bitio_Writer_Unary_Ct bitio_Writer_ok bitio_Writer_put) (bitio_Writer_Unary_Jt k bitio_Writer_Unary_p0 bitio_Writer_Unary_l1) bitio_Writer_Unary_i0 (List.zip [0, 1] [.pointer p85, .int .i64 n86]) H (fun x e' H' => K x (clean e' ((⟨[0, 1], [], [4]⟩ : Out).of x)) H') = bitio_Writer_Unary_p0_b k p85 n86 (fun p874 n875 => K .normal [(0, .pointer p874), (1, .int .i64 n875)] H) (fun n876 => K .ret [(4, .int .i64 n876)] H) := by kernel_rfl
theorem bitio_Writer_Unary_j0 {R : Type} (k : Nat) : JS Try.prog 22 (bitio_Writer_Unary_a0 R k k) [0, 1] ⟨[0, 1], [], [4]⟩ (sel [1, 1, 0] (Try.f29.body.getD .skip)) :=
  piece_ok (nt := 22) (c := (sel [1, 1, 0] (Try.f29.body.getD .skip))) (C := bitio_Writer_Unary_C R k) (an := An) (t := (.seq (.reg [0, 1, 13] []) (.cond (.seq (.reg [4] []) .leaf) .leaf))) (ic := bitio_Writer_Unary_i0) (bitio_Writer_Unary_S R k) (bitio_Writer_Unary_J R k) (by kernel_rfl) (And.intro True.intro (And.intro (And.intro True.intro True.intro) True.intro)) (bitio_Writer_Unary_a0 R k k)
    (fun vals H K r h => by
      unfold bitio_Writer_Unary_a0 bitio_Writer_Unary_aa0 at h
      split at h <;> first | (cases h; done) | exact Eq.trans (bitio_Writer_Unary_e0 bitio_Writer_ok (bitio_Writer_put k) (bitio_Writer_Unary_p0 k) (bitio_Writer_Unary_l1 k) k _ _ H K) h)
def bitio_Writer_Unary_ca {R : Type} (f : Option Addr → Int → Heap → (Int → Heap → Option R) → Option R) (args : List Value) (H : Heap) (K : Value → Heap → Option R) : Option R :=
  match args with
  | [.pointer p82, .int .i64 n83] => f p82 n83 H (fun n878 H => K (.int .i64 n878) H)
  | _ => none
def bitio_Writer_Unary_c (R : Type) (k : Nat) (args : List Value) (H : Heap) (K : Value → Heap → Option R) : Option R := bitio_Writer_Unary_ca (bitio_Writer_Unary k) args H K
theorem bitio_Writer_Unary_e {R : Type} (bitio_Writer_ok : Option Addr → Heap → (Bool → Option R) → Option R) (bitio_Writer_put : Option Addr → Int → Heap → (Heap → Option R) → Option R) (bitio_Writer_Unary_p0 : Option Addr → Int → (Option Addr → Int → Option R) → (Int → Option R) → Option R) (bitio_Writer_Unary_l1 : (Option Addr → Heap → Option R) → Nat → Option Addr → Int → Int → Heap → Option R) (k : Nat) (p82 : Option Addr) (n83 : Int) (H : Heap) (K : Value → Heap → Option R) : evF (bitio_Writer_Unary_Ct bitio_Writer_ok bitio_Writer_put) (bitio_Writer_Unary_Jt k bitio_Writer_Unary_p0 bitio_Writer_Unary_l1) bitio_Writer_Unary_f [.pointer p82, .int .i64 n83] H K = bitio_Writer_Unary_b bitio_Writer_ok bitio_Writer_Unary_p0 bitio_Writer_Unary_l1 bitio_Writer_put k p82 n83 H (fun n878 H => K (.int .i64 n878) H) := by kernel_rfl
theorem bitio_Writer_Unary_cs (R : Type) (k : Nat) : ∀ args H K r, bitio_Writer_Unary_c R k args H K = some r → ∃ v H', Tri Try.prog 29 args H v H' ∧ K v H' = some r := by
  intro args H K r h
  unfold bitio_Writer_Unary_c bitio_Writer_Unary_ca at h
  split at h
  · exact evF_ok (C := bitio_Writer_Unary_C R k) (an := An) (t := bitio_Writer_Unary_at) (fn := Try.f29) (c := (Try.f29.body.getD .skip)) (ifn := bitio_Writer_Unary_f) (bitio_Writer_Unary_S R k) (bitio_Writer_Unary_J R k) Try.func29 (by kernel_rfl) (by kernel_rfl) (And.intro True.intro (And.intro (And.intro True.intro (And.intro (And.intro True.intro True.intro) True.intro)) (And.intro (bitio_Writer_Unary_j0 k) (And.intro (And.intro True.intro (bitio_Writer_Unary_j1 k)) (And.intro True.intro (And.intro True.intro True.intro)))))) rfl (Eq.trans (bitio_Writer_Unary_e bitio_Writer_ok (bitio_Writer_put k) (bitio_Writer_Unary_p0 k) (bitio_Writer_Unary_l1 k) k _ _ H K) h)
  · cases h
/-! ### bitio_Writer_Len: function 16 -/
def bitio_Writer_Len_b {R : Type} (bitio_Writer_ok : Option Addr → Heap → (Bool → Option R) → Option R) (k : Nat) (p104 : Option Addr) (H : Heap) (K : Int → Option R) : Option R :=
bitio_Writer_ok p104 H fun t105 =>
bif (!t105) then (K 0)
 else (hnil p104 fun p106 =>
hfad 5 p106 fun p107 =>
ldI .i64 H p107 fun n108 =>
K n108)

def bitio_Writer_Len {R : Type} (p104 : Option Addr) (H : Heap) (K : Int → Option R) : Option R := bitio_Writer_Len_b bitio_Writer_ok 0 p104 H K

def bitio_Writer_Len_Ct {R : Type} (bitio_Writer_ok : Option Addr → Heap → (Bool → Option R) → Option R) : Tab R := tcons 37 (bitio_Writer_ok_ca bitio_Writer_ok) <| fun _ _ _ _ => none
def bitio_Writer_Len_C (R : Type) (k : Nat) : Tab R := bitio_Writer_Len_Ct bitio_Writer_ok
theorem bitio_Writer_Len_S (R : Type) (k : Nat) : CSound Try.prog (bitio_Writer_Len_C R k) := csound_cons (bitio_Writer_ok_cs R k) <| csound_nil
def bitio_Writer_Len_Jt {R : Type} (k : Nat) : JTab R := fun _ _ _ _ => none
def bitio_Writer_Len_J (R : Type) (k : Nat) : JTab R := bitio_Writer_Len_Jt k
def bitio_Writer_Len_at : AT := (.seq (.reg [0] []) (.seq (.seq (.reg [0, 5] []) (.cond (.seq (.reg [2] []) .leaf) .leaf)) (.seq (.reg [2] []) .leaf)))
def bitio_Writer_Len_f : IFn := ⟨10, [.t 2], (.seq (.reg [⟨some 2, .mov (.c (Go.Value.int Go.IntKind.i64 0)), none⟩] [0]) (.seq (.seq (.reg [⟨some 3, .mov (.t 0), none⟩,
 ⟨some 4, .call 37 [(.t 3)] (.one (.sc .bool)), none⟩,
 ⟨some 5, .lnot (.t 4), none⟩] [0, 5]) (.cond (.t 5) (.seq (.reg [⟨some 2, .mov (.c (Go.Value.int Go.IntKind.i64 0)), none⟩] [2]) .ret) .skip)) (.seq (.reg [⟨some 6, .mov (.t 0), none⟩,
 ⟨some 7, .nilc (.t 6), none⟩,
 ⟨some 8, .fad 5 (.t 7), none⟩,
 ⟨some 9, .ld (.sc (.int .i64)) (.t 8), none⟩,
 ⟨some 2, .mov (.t 9), none⟩] [2]) .ret)))⟩
def bitio_Writer_Len_ca {R : Type} (f : Option Addr → Heap → (Int → Option R) → Option R) (args : List Value) (H : Heap) (K : Value → Heap → Option R) : Option R :=
  match args with
  | [.pointer p104] => f p104 H (fun n879 => K (.int .i64 n879) H)
  | _ => none
def bitio_Writer_Len_c (R : Type) (k : Nat) (args : List Value) (H : Heap) (K : Value → Heap → Option R) : Option R := bitio_Writer_Len_ca bitio_Writer_Len args H K
theorem bitio_Writer_Len_e {R : Type} (bitio_Writer_ok : Option Addr → Heap → (Bool → Option R) → Option R) (k : Nat) (p104 : Option Addr) (H : Heap) (K : Value → Heap → Option R) : evF (bitio_Writer_Len_Ct bitio_Writer_ok) (bitio_Writer_Len_Jt k) bitio_Writer_Len_f [.pointer p104] H K = bitio_Writer_Len_b bitio_Writer_ok k p104 H (fun n879 => K (.int .i64 n879) H) := by kernel_rfl
theorem bitio_Writer_Len_cs (R : Type) (k : Nat) : ∀ args H K r, bitio_Writer_Len_c R k args H K = some r → ∃ v H', Tri Try.prog 16 args H v H' ∧ K v H' = some r := by
  intro args H K r h
  unfold bitio_Writer_Len_c bitio_Writer_Len_ca at h
  split at h
  · exact evF_ok (C := bitio_Writer_Len_C R 0) (an := An) (t := bitio_Writer_Len_at) (fn := Try.f16) (c := (Try.f16.body.getD .skip)) (ifn := bitio_Writer_Len_f) (bitio_Writer_Len_S R 0) (bitio_Writer_Len_J R 0) Try.func16 (by kernel_rfl) (by kernel_rfl) (And.intro True.intro (And.intro (And.intro True.intro (And.intro (And.intro True.intro True.intro) True.intro)) (And.intro True.intro True.intro))) rfl (Eq.trans (bitio_Writer_Len_e bitio_Writer_ok 0 _ H K) h)
  · cases h
/-! ### bitio_Writer_Bytes: function 19 -/
def bitio_Writer_Bytes_p0_b {R : Type} (k : Nat) (p131 : Option Addr) (q132 : Option Addr) (l133 : Nat) (c134 : Nat) (H : Heap) (KN : Option Addr → Nat → Nat → Heap → Option R) : Option R :=
hnil p131 fun p135 =>
hfad 3 p135 fun p136 =>
ldI .i64 H p136 fun n137 =>
bif decide (n137 > 0) then (hnil p131 fun p138 =>
hfad 2 p138 fun p139 =>
ldI .u8 H p139 fun n140 =>
hnil p131 fun p141 =>
hfad 4 p141 fun p142 =>
ldI .i64 H p142 fun n143 =>
hnil p131 fun p144 =>
hfad 3 p144 fun p145 =>
ldI .i64 H p145 fun n146 =>
hbin .shl .u8 n140 (IntKind.wrap .u64 (IntKind.wrap .i64 (n143 - n146))) fun n147 =>
hal H [.int .u8 n147] fun p148 H149 =>
happS 1 1 H149 q132 l133 c134 p148 1 fun q150 l151 c152 H153 =>
KN q150 l151 c152 H153)
 else (hnil p131 fun p154 =>
hfad 4 p154 fun p155 =>
ldI .i64 H p155 fun n156 =>
bif (n156 == 7) then (hal H [.int .u8 0] fun p157 H158 =>
happS 1 1 H158 q132 l133 c134 p157 1 fun q159 l160 c161 H162 =>
KN q159 l160 c161 H162)
 else (KN q132 l133 c134 H))
def bitio_Writer_Bytes_p0 {R : Type} (k : Nat) (p131 : Option Addr) (q132 : Option Addr) (l133 : Nat) (c134 : Nat) (H : Heap) (KN : Option Addr → Nat → Nat → Heap → Option R) : Option R := bitio_Writer_Bytes_p0_b k p131 q132 l133 c134 H KN

def bitio_Writer_Bytes_b {R : Type} (bitio_Writer_ok : Option Addr → Heap → (Bool → Option R) → Option R) (bitio_Writer_Bytes_p0 : Option Addr → Option Addr → Nat → Nat → Heap → (Option Addr → Nat → Nat → Heap → Option R) → Option R) (k : Nat) (p111 : Option Addr) (H : Heap) (K : Option Addr → Nat → Nat → Heap → Option R) : Option R :=
bitio_Writer_ok p111 H fun t112 =>
bif (!t112) then (K none 0 0 H)
 else (hnil p111 fun p113 =>
hfad 1 p113 fun p114 =>
ldL H p114 fun q115 l116 c117 =>
hmk [.int .u8 0] 1 H 0 (IntKind.wrap .i64 (((l116 : Nat) : Int) + 1)) fun q118 l119 c120 H121 =>
hnil p111 fun p122 =>
hfad 1 p122 fun p123 =>
ldL H121 p123 fun q124 l125 c126 =>
happS 1 1 H121 q118 l119 c120 q124 l125 fun q127 l128 c129 H130 =>
bitio_Writer_Bytes_p0 p111 q127 l128 c129 H130 (fun q166 l167 c168 H169 =>
hslc 1 q166 l167 c168 none (some ((l167 : Nat) : Int)) (some ((l167 : Nat) : Int)) fun q170 l171 c172 =>
K q170 l171 c172 H169))

def bitio_Writer_Bytes {R : Type} (k : Nat) (p111 : Option Addr) (H : Heap) (K : Option Addr → Nat → Nat → Heap → Option R) : Option R := bitio_Writer_Bytes_b bitio_Writer_ok (bitio_Writer_Bytes_p0 k) k p111 H K

def bitio_Writer_Bytes_Ct {R : Type} (bitio_Writer_ok : Option Addr → Heap → (Bool → Option R) → Option R) : Tab R := tcons 37 (bitio_Writer_ok_ca bitio_Writer_ok) <| fun _ _ _ _ => none
def bitio_Writer_Bytes_C (R : Type) (k : Nat) : Tab R := bitio_Writer_Bytes_Ct bitio_Writer_ok
theorem bitio_Writer_Bytes_S (R : Type) (k : Nat) : CSound Try.prog (bitio_Writer_Bytes_C R k) := csound_cons (bitio_Writer_ok_cs R k) <| csound_nil
def bitio_Writer_Bytes_aa0 {R : Type} (f : Option Addr → Option Addr → Nat → Nat → Heap → (Option Addr → Nat → Nat → Heap → Option R) → Option R) (n : Nat) (vals : List Value) (H : Heap) (K : Xit → Env → Heap → Option R) : Option R :=
  match vals with
  | [.pointer p131, .slice q132 l133 c134] => f p131 q132 l133 c134 H (fun q880 l881 c882 H => K .normal [(3, .slice q880 l881 c882)] H)
  | _ => none
def bitio_Writer_Bytes_a0 (R : Type) (k n : Nat) (vals : List Value) (H : Heap) (K : Xit → Env → Heap → Option R) : Option R := bitio_Writer_Bytes_aa0 (bitio_Writer_Bytes_p0 k) n vals H K
def bitio_Writer_Bytes_Jt {R : Type} (k : Nat) (bitio_Writer_Bytes_p0 : Option Addr → Option Addr → Nat → Nat → Heap → (Option Addr → Nat → Nat → Heap → Option R) → Option R) : JTab R := tcons 0 (bitio_Writer_Bytes_aa0 bitio_Writer_Bytes_p0 k) <| fun _ _ _ _ => none
def bitio_Writer_Bytes_J (R : Type) (k : Nat) : JTab R := bitio_Writer_Bytes_Jt k (bitio_Writer_Bytes_p0 k)
def bitio_Writer_Bytes_at : AT := (.seq (.reg [0] []) (.seq (.seq (.reg [0, 6] []) (.cond (.seq (.reg [2] []) .leaf) .leaf)) (.seq (.reg [0, 3] [[], [0], [0, 1], [0, 1, 2], [0, 1, 2, 3], [0, 1, 2, 3, 4], [0, 1, 2, 3, 4, 5], [], [7], [7, 8], [7, 8, 9], [0, 1, 2, 3, 4, 5, 6, 7, 8, 9, 10], [0, 1, 2, 3, 4, 5, 6, 7, 8, 9, 10, 11]]) (.seq (.opq 0 [0, 3] ⟨[3], [], []⟩ (.node (.seq (.reg [0, 3, 19] []) (.cond (.reg [3] [[], [], [1], [1, 2], [1, 2, 3], [], [5], [5, 6], [5, 6, 7], [], [9], [9, 10], [9, 10, 11], [5, 6, 7, 8, 9, 10, 11, 12], [5, 6, 7, 8, 9, 10, 11, 12, 13], [1, 2, 3, 4, 5, 6, 7, 8, 9, 10, 11, 12, 13, 14], [1, 2, 3, 4, 5, 6, 7, 8, 9, 10, 11, 12, 13, 14, 15], [0, 1, 2, 3, 4, 5, 6, 7, 8, 9, 10, 11, 12, 13, 14, 15, 16], [0, 1, 2, 3, 4, 5, 6, 7, 8, 9, 10, 11, 12, 13, 14, 15, 16, 17]]) (.seq (.reg [3, 43] []) (.cond (.reg [3] []) .leaf)))))) (.seq (.reg [2] []) .leaf)))))
def bitio_Writer_Bytes_i0 : IC := (.block 0 (.seq (.reg [⟨some 20, .mov (.t 0), none⟩,
 ⟨some 21, .nilc (.t 20), none⟩,
 ⟨some 22, .fad 3 (.t 21), none⟩,
 ⟨some 23, .ld (.sc (.int .i64)) (.t 22), none⟩,
 ⟨some 24, .cmp .gtr (.t 23) (.c (Go.Value.int Go.IntKind.i64 0)), none⟩,
 ⟨some 19, .mov (.t 24), none⟩] [0, 3, 19]) (.cond (.t 19) (.reg [⟨some 25, .mov (.t 3), none⟩,
 ⟨some 26, .mov (.t 0), none⟩,
 ⟨some 27, .nilc (.t 26), none⟩,
 ⟨some 28, .fad 2 (.t 27), none⟩,
 ⟨some 29, .ld (.sc (.int .u8)) (.t 28), none⟩,
 ⟨some 30, .mov (.t 0), none⟩,
 ⟨some 31, .nilc (.t 30), none⟩,
 ⟨some 32, .fad 4 (.t 31), none⟩,
 ⟨some 33, .ld (.sc (.int .i64)) (.t 32), none⟩,
 ⟨some 34, .mov (.t 0), none⟩,
 ⟨some 35, .nilc (.t 34), none⟩,
 ⟨some 36, .fad 3 (.t 35), none⟩,
 ⟨some 37, .ld (.sc (.int .i64)) (.t 36), none⟩,
 ⟨some 38, .bin .sub .i64 (.t 33) (.t 37), none⟩,
 ⟨some 39, .cnv .u64 (.t 38), none⟩,
 ⟨some 40, .bin .shl .u8 (.t 29) (.t 39), none⟩,
 ⟨some 41, .bls 1 [.int .u8 0] [(0, 1, (.t 40))], none⟩,
 ⟨some 42, .app [.int .u8 0] 1 (.t 25) (.t 41), none⟩,
 ⟨some 3, .mov (.t 42), none⟩] [3]) (.seq (.reg [⟨some 44, .mov (.t 0), none⟩,
 ⟨some 45, .nilc (.t 44), none⟩,
 ⟨some 46, .fad 4 (.t 45), none⟩,
 ⟨some 47, .ld (.sc (.int .i64)) (.t 46), none⟩,
 ⟨some 48, .cmp .eql (.t 47) (.c (Go.Value.int Go.IntKind.i64 7)), none⟩,
 ⟨some 43, .mov (.t 48), none⟩] [3, 43]) (.cond (.t 43) (.reg [⟨some 49, .mov (.t 3), none⟩,
 ⟨some 50, .bls 1 [.int .u8 0] [(0, 1, (.c (Go.Value.int Go.IntKind.u8 0)))], none⟩,
 ⟨some 51, .app [.int .u8 0] 1 (.t 49) (.t 50), none⟩,
 ⟨some 3, .mov (.t 51), none⟩] [3]) .skip)))))
def bitio_Writer_Bytes_f : IFn := ⟨58, [.t 2], (.seq (.reg [⟨some 2, .mov (.c (Go.Value.slice none 0 0)), none⟩] [0]) (.seq (.seq (.reg [⟨some 4, .mov (.t 0), none⟩,
 ⟨some 5, .call 37 [(.t 4)] (.one (.sc .bool)), none⟩,
 ⟨some 6, .lnot (.t 5), none⟩] [0, 6]) (.cond (.t 6) (.seq (.reg [⟨some 2, .mov (.c (Go.Value.slice none 0 0)), none⟩] [2]) .ret) .skip)) (.seq (.reg [⟨some 7, .mov (.t 0), none⟩,
 ⟨some 8, .nilc (.t 7), none⟩,
 ⟨some 9, .fad 1 (.t 8), none⟩,
 ⟨some 10, .ld (.sc .slc) (.t 9), none⟩,
 ⟨some 11, .len false (.t 10), none⟩,
 ⟨some 12, .bin .add .i64 (.t 11) (.c (Go.Value.int Go.IntKind.i64 1)), none⟩,
 ⟨some 13, .mks [.int .u8 0] 1 (.c (Go.Value.int Go.IntKind.i64 0)) (.t 12), none⟩,
 ⟨some 14, .mov (.t 0), none⟩,
 ⟨some 15, .nilc (.t 14), none⟩,
 ⟨some 16, .fad 1 (.t 15), none⟩,
 ⟨some 17, .ld (.sc .slc) (.t 16), none⟩,
 ⟨some 18, .app [.int .u8 0] 1 (.t 13) (.t 17), none⟩,
 ⟨some 3, .mov (.t 18), none⟩] [0, 3]) (.seq (.opq 0 [0, 3] bitio_Writer_Bytes_i0) (.seq (.reg [⟨some 52, .mov (.t 3), none⟩,
 ⟨some 53, .mov (.t 3), none⟩,
 ⟨some 54, .len false (.t 53), none⟩,
 ⟨some 55, .mov (.t 3), none⟩,
 ⟨some 56, .len false (.t 55), none⟩,
 ⟨some 57, .slc 1 (.t 52) none (some (.t 54)) (some (.t 56)), none⟩,
 ⟨some 2, .mov (.t 57), none⟩] [2]) .ret)))))⟩
theorem bitio_Writer_Bytes_e0 {R : Type} (bitio_Writer_ok : Option Addr → Heap → (Bool → Option R) → Option R) (bitio_Writer_Bytes_p0 : Option Addr → Option Addr → Nat → Nat → Heap → (Option Addr → Nat → Nat → Heap → Option R) → Option R) (k : Nat) (p131 : Option Addr) (q132 : Option Addr) (l133 : Nat) (c134 : Nat) (H : Heap) (K : Xit → Env → Heap → Option R) : evJ (bitio_Writer_Bytes_Ct bitio_Writer_ok) (bitio_Writer_Bytes_Jt k bitio_Writer_Bytes_p0) bitio_Writer_Bytes_i0 (List.zip [0, 3] [.pointer p131, .slice q132 l133 c134]) H (fun x e' H' => K x (clean e' ((⟨[3], [], []⟩ : Out).of x)) H') = bitio_Writer_Bytes_p0_b k p131 q132 l133 c134 H (fun q880 l881 c882 H => K .normal [(3, .slice q880 l881 c882)] H) := by kernel_rfl
theorem bitio_Writer_Bytes_j0 {R : Type} (k : Nat) : JS Try.prog 58 (bitio_Writer_Bytes_a0 R k k) [0, 3] ⟨[3], [], []⟩ (sel [1, 1, 1, 0] (Try.f19.body.getD .skip)) :=
  piece_ok (nt := 58) (c := (sel [1, 1, 1, 0] (Try.f19.body.getD .skip))) (C := bitio_Writer_Bytes_C R k) (an := An) (t := (.node (.seq (.reg [0, 3, 19] []) (.cond (.reg [3] [[], [], [1], [1, 2], [1, 2, 3], [], [5], [5, 6], [5, 6, 7], [], [9], [9, 10], [9, 10, 11], [5, 6, 7, 8, 9, 10, 11, 12], [5, 6, 7, 8, 9, 10, 11, 12, 13], [1, 2, 3, 4, 5, 6, 7, 8, 9, 10, 11, 12, 13, 14], [1, 2, 3, 4, 5, 6, 7, 8, 9, 10, 11, 12, 13, 14, 15], [0, 1, 2, 3, 4, 5, 6, 7, 8, 9, 10, 11, 12, 13, 14, 15, 16], [0, 1, 2, 3, 4, 5, 6, 7, 8, 9, 10, 11, 12, 13, 14, 15, 16, 17]]) (.seq (.reg [3, 43] []) (.cond (.reg [3] []) .leaf)))))) (ic := bitio_Writer_Bytes_i0) (bitio_Writer_Bytes_S R k) (bitio_Writer_Bytes_J R k) (by kernel_rfl) (And.intro True.intro (And.intro True.intro (And.intro True.intro (And.intro True.intro True.intro)))) (bitio_Writer_Bytes_a0 R k k)
    (fun vals H K r h => by
      unfold bitio_Writer_Bytes_a0 bitio_Writer_Bytes_aa0 at h
      split at h <;> first | (cases h; done) | exact Eq.trans (bitio_Writer_Bytes_e0 bitio_Writer_ok (bitio_Writer_Bytes_p0 k) k _ _ _ _ H K) h)
def bitio_Writer_Bytes_ca {R : Type} (f : Option Addr → Heap → (Option Addr → Nat → Nat → Heap → Option R) → Option R) (args : List Value) (H : Heap) (K : Value → Heap → Option R) : Option R :=
  match args with
  | [.pointer p111] => f p111 H (fun q883 l884 c885 H => K (.slice q883 l884 c885) H)
  | _ => none
def bitio_Writer_Bytes_c (R : Type) (k : Nat) (args : List Value) (H : Heap) (K : Value → Heap → Option R) : Option R := bitio_Writer_Bytes_ca (bitio_Writer_Bytes k) args H K
theorem bitio_Writer_Bytes_e {R : Type} (bitio_Writer_ok : Option Addr → Heap → (Bool → Option R) → Option R) (bitio_Writer_Bytes_p0 : Option Addr → Option Addr → Nat → Nat → Heap → (Option Addr → Nat → Nat → Heap → Option R) → Option R) (k : Nat) (p111 : Option Addr) (H : Heap) (K : Value → Heap → Option R) : evF (bitio_Writer_Bytes_Ct bitio_Writer_ok) (bitio_Writer_Bytes_Jt k bitio_Writer_Bytes_p0) bitio_Writer_Bytes_f [.pointer p111] H K = bitio_Writer_Bytes_b bitio_Writer_ok bitio_Writer_Bytes_p0 k p111 H (fun q883 l884 c885 H => K (.slice q883 l884 c885) H) := by kernel_rfl
theorem bitio_Writer_Bytes_cs (R : Type) (k : Nat) : ∀ args H K r, bitio_Writer_Bytes_c R k args H K = some r → ∃ v H', Tri Try.prog 19 args H v H' ∧ K v H' = some r := by
  intro args H K r h
  unfold bitio_Writer_Bytes_c bitio_Writer_Bytes_ca at h
  split at h
  · exact evF_ok (C := bitio_Writer_Bytes_C R k) (an := An) (t := bitio_Writer_Bytes_at) (fn := Try.f19) (c := (Try.f19.body.getD .skip)) (ifn := bitio_Writer_Bytes_f) (bitio_Writer_Bytes_S R k) (bitio_Writer_Bytes_J R k) Try.func19 (by kernel_rfl) (by kernel_rfl) (And.intro True.intro (And.intro (And.intro True.intro (And.intro (And.intro True.intro True.intro) True.intro)) (And.intro True.intro (And.intro (bitio_Writer_Bytes_j0 k) (And.intro True.intro True.intro))))) rfl (Eq.trans (bitio_Writer_Bytes_e bitio_Writer_ok (bitio_Writer_Bytes_p0 k) k _ H K) h)
  · cases h
/-! ### R09_SameBytes: function 18 -/
def R09_SameBytes_b {R : Type} (k : Nat) (q182 : Option Addr) (l183 : Nat) (c184 : Nat) (q185 : Option Addr) (l186 : Nat) (c187 : Nat) (H : Heap) (K : Bool → Option R) : Option R :=
hb2s H q182 l183 fun s188 =>
hb2s H q185 l186 fun s189 =>
K (s188 == s189)

def R09_SameBytes {R : Type} (q182 : Option Addr) (l183 : Nat) (c184 : Nat) (q185 : Option Addr) (l186 : Nat) (c187 : Nat) (H : Heap) (K : Bool → Option R) : Option R := R09_SameBytes_b 0 q182 l183 c184 q185 l186 c187 H K

def R09_SameBytes_Ct {R : Type} : Tab R := fun _ _ _ _ => none
def R09_SameBytes_C (R : Type) (k : Nat) : Tab R := R09_SameBytes_Ct
theorem R09_SameBytes_S (R : Type) (k : Nat) : CSound Try.prog (R09_SameBytes_C R k) := csound_nil
def R09_SameBytes_Jt {R : Type} (k : Nat) : JTab R := fun _ _ _ _ => none
def R09_SameBytes_J (R : Type) (k : Nat) : JTab R := R09_SameBytes_Jt k
def R09_SameBytes_at : AT := (.seq (.reg [0, 1] []) (.seq (.reg [4] []) .leaf))
def R09_SameBytes_f : IFn := ⟨10, [.t 4], (.seq (.reg [⟨some 4, .mov (.c (Go.Value.bool false)), none⟩] [0, 1]) (.seq (.reg [⟨some 5, .mov (.t 0), none⟩,
 ⟨some 6, .b2s (.t 5), none⟩,
 ⟨some 7, .mov (.t 1), none⟩,
 ⟨some 8, .b2s (.t 7), none⟩,
 ⟨some 9, .eqT (.t 6) (.t 8) false, none⟩,
 ⟨some 4, .mov (.t 9), none⟩] [4]) .ret))⟩
def R09_SameBytes_ca {R : Type} (f : Option Addr → Nat → Nat → Option Addr → Nat → Nat → Heap → (Bool → Option R) → Option R) (args : List Value) (H : Heap) (K : Value → Heap → Option R) : Option R :=
  match args with
  | [.slice q182 l183 c184, .slice q185 l186 c187] => f q182 l183 c184 q185 l186 c187 H (fun t886 => K (.bool t886) H)
  | _ => none
def R09_SameBytes_c (R : Type) (k : Nat) (args : List Value) (H : Heap) (K : Value → Heap → Option R) : Option R := R09_SameBytes_ca R09_SameBytes args H K
theorem R09_SameBytes_e {R : Type} (k : Nat) (q182 : Option Addr) (l183 : Nat) (c184 : Nat) (q185 : Option Addr) (l186 : Nat) (c187 : Nat) (H : Heap) (K : Value → Heap → Option R) : evF (R09_SameBytes_Ct) (R09_SameBytes_Jt k) R09_SameBytes_f [.slice q182 l183 c184, .slice q185 l186 c187] H K = R09_SameBytes_b k q182 l183 c184 q185 l186 c187 H (fun t886 => K (.bool t886) H) := by kernel_rfl
theorem R09_SameBytes_cs (R : Type) (k : Nat) : ∀ args H K r, R09_SameBytes_c R k args H K = some r → ∃ v H', Tri Try.prog 18 args H v H' ∧ K v H' = some r := by
  intro args H K r h
  unfold R09_SameBytes_c R09_SameBytes_ca at h
  split at h
  · exact evF_ok (C := R09_SameBytes_C R 0) (an := An) (t := R09_SameBytes_at) (fn := Try.f18) (c := (Try.f18.body.getD .skip)) (ifn := R09_SameBytes_f) (R09_SameBytes_S R 0) (R09_SameBytes_J R 0) Try.func18 (by kernel_rfl) (by kernel_rfl) (And.intro True.intro (And.intro True.intro True.intro)) rfl (Eq.trans (R09_SameBytes_e 0 _ _ _ _ _ _ H K) h)
  · cases h
/-! ### bitio_Writer_Bits: function 32 -/
def bitio_Writer_Bits_p0_b {R : Type} (k : Nat) (p229 : Option Addr) (n230 : Int) (n231 : Int) (KN : Option Addr → Int → Int → Option R) (KR : Int → Option R) : Option R :=
bif decide (n231 < 0) then (KR 1)
 else (bif decide (n231 > 32) then (KR 1)
 else (bif decide (n230 < 0) then (KR 1)
 else (hbin .shl .i64 1 (IntKind.wrap .u64 n231) fun n232 =>
bif decide (n230 ≥ n232) then (KR 1)
 else (KN p229 n230 n231))))
def bitio_Writer_Bits_p0 {R : Type} (k : Nat) (p229 : Option Addr) (n230 : Int) (n231 : Int) (KN : Option Addr → Int → Int → Option R) (KR : Int → Option R) : Option R := bitio_Writer_Bits_p0_b k p229 n230 n231 KN KR

def bitio_Writer_Bits_l1_b {R : Type} (bitio_Writer_put : Option Addr → Int → Heap → (Heap → Option R) → Option R) (rec : Option Addr → Int → Int → Heap → Option R) (KE0 : Heap → Option R) (k : Nat) (p240 : Option Addr) (n241 : Int) (n242 : Int) (H : Heap) : Option R :=
bif decide (n242 ≥ 0) then (hbin .shr .i64 n241 (IntKind.wrap .u64 n242) fun n243 =>
hbin .and .i64 n243 1 fun n244 =>
bitio_Writer_put p240 n244 H fun H245 =>
rec p240 n241 (IntKind.wrap .i64 (n242 - 1)) H245)
 else (KE0 H)
def bitio_Writer_Bits_l1 {R : Type} (k : Nat) (KE0 : Heap → Option R) : Nat → Option Addr → Int → Int → Heap → Option R
  | 0, _, _, _, _ => none
  | n + 1, p240, n241, n242, H => bitio_Writer_Bits_l1_b (bitio_Writer_put k) (bitio_Writer_Bits_l1 k KE0 n) KE0 k p240 n241 n242 H

def bitio_Writer_Bits_b {R : Type} (bitio_Writer_ok : Option Addr → Heap → (Bool → Option R) → Option R) (bitio_Writer_Bits_p0 : Option Addr → Int → Int → (Option Addr → Int → Int → Option R) → (Int → Option R) → Option R) (bitio_Writer_Bits_l1 : (Heap → Option R) → Nat → Option Addr → Int → Int → Heap → Option R) (k : Nat) (p225 : Option Addr) (n226 : Int) (n227 : Int) (H : Heap) (K : Int → Heap → Option R) : Option R :=
bitio_Writer_ok p225 H fun t228 =>
bif (!t228) then (K 6 H)
 else (bitio_Writer_Bits_p0 p225 n226 n227 (fun p237 n238 n239 =>
bitio_Writer_Bits_l1 (fun H246 =>
K 0 H246) k p237 n238 (IntKind.wrap .i64 (n239 - 1)) H) (fun n247 =>
K n247 H))

def bitio_Writer_Bits {R : Type} (k : Nat) (p225 : Option Addr) (n226 : Int) (n227 : Int) (H : Heap) (K : Int → Heap → Option R) : Option R := bitio_Writer_Bits_b bitio_Writer_ok (bitio_Writer_Bits_p0 k) (bitio_Writer_Bits_l1 k) k p225 n226 n227 H K

def bitio_Writer_Bits_Ct {R : Type} (bitio_Writer_ok : Option Addr → Heap → (Bool → Option R) → Option R) (bitio_Writer_put : Option Addr → Int → Heap → (Heap → Option R) → Option R) : Tab R := tcons 37 (bitio_Writer_ok_ca bitio_Writer_ok) <| tcons 40 (bitio_Writer_put_ca bitio_Writer_put) <| fun _ _ _ _ => none
def bitio_Writer_Bits_C (R : Type) (k : Nat) : Tab R := bitio_Writer_Bits_Ct bitio_Writer_ok (bitio_Writer_put k)
theorem bitio_Writer_Bits_S (R : Type) (k : Nat) : CSound Try.prog (bitio_Writer_Bits_C R k) := csound_cons (bitio_Writer_ok_cs R k) <| csound_cons (bitio_Writer_put_cs R k) <| csound_nil
def bitio_Writer_Bits_aa0 {R : Type} (f : Option Addr → Int → Int → (Option Addr → Int → Int → Option R) → (Int → Option R) → Option R) (n : Nat) (vals : List Value) (H : Heap) (K : Xit → Env → Heap → Option R) : Option R :=
  match vals with
  | [.pointer p229, .int .i64 n230, .int .i64 n231] => f p229 n230 n231 (fun p887 n888 n889 => K .normal [(0, .pointer p887), (1, .int .i64 n888), (2, .int .i64 n889)] H) (fun n890 => K .ret [(6, .int .i64 n890)] H)
  | _ => none
def bitio_Writer_Bits_a0 (R : Type) (k n : Nat) (vals : List Value) (H : Heap) (K : Xit → Env → Heap → Option R) : Option R := bitio_Writer_Bits_aa0 (bitio_Writer_Bits_p0 k) n vals H K
def bitio_Writer_Bits_aa1 {R : Type} (f : (Heap → Option R) → Nat → Option Addr → Int → Int → Heap → Option R) (n : Nat) (vals : List Value) (H : Heap) (K : Xit → Env → Heap → Option R) : Option R :=
  match vals with
  | [.pointer p240, .int .i64 n241, .int .i64 n242] => f (fun H => K (.exit 0) [] H) n p240 n241 n242 H
  | _ => none
def bitio_Writer_Bits_a1 (R : Type) (k n : Nat) (vals : List Value) (H : Heap) (K : Xit → Env → Heap → Option R) : Option R := bitio_Writer_Bits_aa1 (bitio_Writer_Bits_l1 k) n vals H K
def bitio_Writer_Bits_Jt {R : Type} (k : Nat) (bitio_Writer_Bits_p0 : Option Addr → Int → Int → (Option Addr → Int → Int → Option R) → (Int → Option R) → Option R) (bitio_Writer_Bits_l1 : (Heap → Option R) → Nat → Option Addr → Int → Int → Heap → Option R) : JTab R := tcons 0 (bitio_Writer_Bits_aa0 bitio_Writer_Bits_p0 k) <| tcons 1 (bitio_Writer_Bits_aa1 bitio_Writer_Bits_l1 k) <| fun _ _ _ _ => none
def bitio_Writer_Bits_J (R : Type) (k : Nat) : JTab R := bitio_Writer_Bits_Jt k (bitio_Writer_Bits_p0 k) (bitio_Writer_Bits_l1 k)
def bitio_Writer_Bits_at : AT := (.seq (.reg [0, 1, 2] []) (.seq (.seq (.reg [0, 1, 2, 10] []) (.cond (.seq (.reg [6] []) .leaf) .leaf)) (.seq (.opq 0 [0, 1, 2] ⟨[0, 1, 2], [], [6]⟩ (.seq (.reg [0, 1, 2, 27] []) (.cond (.seq (.reg [6] []) .leaf) .leaf))) (.seq (.seq (.reg [0, 1, 7] []) (.node (.opq 1 [0, 1, 7] ⟨[], [(0, [])], []⟩ (.node (.seq (.seq (.reg [0, 1, 7, 31] []) (.cond .leaf .leaf)) (.seq (.node (.reg [0, 1, 7] [])) (.reg [0, 1, 7] []))))))) (.seq (.reg [6] []) .leaf)))))
def bitio_Writer_Bits_i1 : IC := (.seq (.seq (.reg [⟨some 30, .mov (.t 7), none⟩,
 ⟨some 31, .cmp .geq (.t 30) (.c (Go.Value.int Go.IntKind.i64 0)), none⟩] [0, 1, 7, 31]) (.cond (.t 31) .skip (.exit 0))) (.seq (.block 1 (.reg [⟨some 34, .mov (.t 0), none⟩,
 ⟨some 35, .mov (.t 1), none⟩,
 ⟨some 36, .mov (.t 7), none⟩,
 ⟨some 37, .cnv .u64 (.t 36), none⟩,
 ⟨some 38, .bin .shr .i64 (.t 35) (.t 37), none⟩,
 ⟨some 39, .bin .and .i64 (.t 38) (.c (Go.Value.int Go.IntKind.i64 1)), none⟩,
 ⟨some 40, .call 40 [(.t 34), (.t 39)] .none, none⟩] [0, 1, 7])) (.reg [⟨some 32, .mov (.t 7), none⟩,
 ⟨some 33, .bin .sub .i64 (.t 32) (.c (Go.Value.int Go.IntKind.i64 1)), none⟩,
 ⟨some 7, .mov (.t 33), none⟩] [0, 1, 7])))
def bitio_Writer_Bits_i0 : IC := (.seq (.reg [⟨some 11, .mov (.t 2), none⟩,
 ⟨some 12, .cmp .lss (.t 11) (.c (Go.Value.int Go.IntKind.i64 0)), none⟩,
 ⟨some 13, .mov (.t 12), none⟩,
 ⟨some 14, .mov (.t 2), some (13, false)⟩,
 ⟨some 15, .cmp .gtr (.t 14) (.c (Go.Value.int Go.IntKind.i64 32)), some (13, false)⟩,
 ⟨some 16, .pick (.t 13) (.c (Go.Value.bool true)) (.t 15), none⟩,
 ⟨some 17, .mov (.t 16), none⟩,
 ⟨some 18, .mov (.t 1), some (17, false)⟩,
 ⟨some 19, .cmp .lss (.t 18) (.c (Go.Value.int Go.IntKind.i64 0)), some (17, false)⟩,
 ⟨some 20, .pick (.t 17) (.c (Go.Value.bool true)) (.t 19), none⟩,
 ⟨some 21, .mov (.t 20), none⟩,
 ⟨some 22, .mov (.t 1), some (21, false)⟩,
 ⟨some 23, .mov (.t 2), some (21, false)⟩,
 ⟨some 24, .cnv .u64 (.t 23), some (21, false)⟩,
 ⟨some 25, .bin .shl .i64 (.c (Go.Value.int Go.IntKind.i64 1)) (.t 24), some (21, false)⟩,
 ⟨some 26, .cmp .geq (.t 22) (.t 25), some (21, false)⟩,
 ⟨some 27, .pick (.t 21) (.c (Go.Value.bool true)) (.t 26), none⟩] [0, 1, 2, 27]) (.cond (.t 27) (.seq (.reg [⟨some 6, .mov (.c (Go.Value.int Go.IntKind.i64 1)), none⟩] [6]) .ret) .skip))
def bitio_Writer_Bits_f : IFn := ⟨41, [.t 6], (.seq (.reg [⟨some 6, .mov (.c (Go.Value.int Go.IntKind.i64 0)), none⟩] [0, 1, 2]) (.seq (.seq (.reg [⟨some 8, .mov (.t 0), none⟩,
 ⟨some 9, .call 37 [(.t 8)] (.one (.sc .bool)), none⟩,
 ⟨some 10, .lnot (.t 9), none⟩] [0, 1, 2, 10]) (.cond (.t 10) (.seq (.reg [⟨some 6, .mov (.c (Go.Value.int Go.IntKind.i64 6)), none⟩] [6]) .ret) .skip)) (.seq (.opq 0 [0, 1, 2] bitio_Writer_Bits_i0) (.seq (.seq (.reg [⟨some 28, .mov (.t 2), none⟩,
 ⟨some 29, .bin .sub .i64 (.t 28) (.c (Go.Value.int Go.IntKind.i64 1)), none⟩,
 ⟨some 7, .mov (.t 29), none⟩] [0, 1, 7]) (.block 0 (.opq 1 [0, 1, 7] (.loop bitio_Writer_Bits_i1)))) (.seq (.reg [⟨some 6, .mov (.c (Go.Value.int Go.IntKind.i64 0)), none⟩] [6]) .ret)))))⟩
theorem bitio_Writer_Bits_e1 {R : Type} (bitio_Writer_ok : Option Addr → Heap → (Bool → Option R) → Option R) (bitio_Writer_put : Option Addr → Int → Heap → (Heap → Option R) → Option R) (bitio_Writer_Bits_p0 : Option Addr → Int → Int → (Option Addr → Int → Int → Option R) → (Int → Option R) → Option R) (bitio_Writer_Bits_l1 : (Heap → Option R) → Nat → Option Addr → Int → Int → Heap → Option R) (k n : Nat) (p240 : Option Addr) (n241 : Int) (n242 : Int) (H : Heap) (K : Xit → Env → Heap → Option R) : evJ (bitio_Writer_Bits_Ct bitio_Writer_ok bitio_Writer_put) (bitio_Writer_Bits_Jt k bitio_Writer_Bits_p0 bitio_Writer_Bits_l1) bitio_Writer_Bits_i1 (List.zip [0, 1, 7] [.pointer p240, .int .i64 n241, .int .i64 n242]) H (fun x e' H' => match x with | .normal => bitio_Writer_Bits_aa1 bitio_Writer_Bits_l1 n ((clean e' [0, 1, 7]).map (·.2)) H' K | x => K x (clean e' ((⟨[], [(0, [])], []⟩ : Out).of x)) H') = bitio_Writer_Bits_l1_b bitio_Writer_put (bitio_Writer_Bits_l1 (fun H => K (.exit 0) [] H) n) (fun H => K (.exit 0) [] H) k p240 n241 n242 H := by kernel_rfl
theorem bitio_Writer_Bits_j1 {R : Type} (k : Nat) : JS Try.prog 41 (bitio_Writer_Bits_a1 R k k) [0, 1, 7] ⟨[], [(0, [])], []⟩ (.loop (sel [1, 1, 1, 0, 1, 0, 0] (Try.f32.body.getD .skip))) :=
  loop_ok (nt := 41) (c := (sel [1, 1, 1, 0, 1, 0, 0] (Try.f32.body.getD .skip))) (C := bitio_Writer_Bits_C R k) (an := An) (t := (.seq (.seq (.reg [0, 1, 7, 31] []) (.cond .leaf .leaf)) (.seq (.node (.reg [0, 1, 7] [])) (.reg [0, 1, 7] [])))) (ic := bitio_Writer_Bits_i1) (bitio_Writer_Bits_S R k) (bitio_Writer_Bits_J R k) (by kernel_rfl) (And.intro (And.intro True.intro (And.intro True.intro True.intro)) (And.intro True.intro True.intro)) (bitio_Writer_Bits_a1 R k) (fun vals H K => by unfold bitio_Writer_Bits_a1 bitio_Writer_Bits_aa1; split <;> rfl)
    (fun n vals H K r h => by
      unfold bitio_Writer_Bits_a1 bitio_Writer_Bits_aa1 at h
      split at h <;> first | (cases h; done) | exact Eq.trans (bitio_Writer_Bits_e1 bitio_Writer_ok (bitio_Writer_put k) (bitio_Writer_Bits_p0 k) (bitio_Writer_Bits_l1 k) k n _ _ _ H K) h) k
theorem bitio_Writer_Bits_e0 {R : Type} (bitio_Writer_ok : Option Addr → Heap → (Bool → Option R) → Option R) (bitio_Writer_put : Option Addr → Int → Heap → (Heap → Option R) → Option R) (bitio_Writer_Bits_p0 : Option Addr → Int → Int → (Option Addr → Int → Int → Option R) → (Int → Option R) → Option R) (bitio_Writer_Bits_l1 : (Heap → Option R) → Nat → Option Addr → Int → Int → Heap → Option R) (k : Nat) (p229 : Option Addr) (n230 : Int) (n231 : Int) (H : Heap) (K : Xit → Env → Heap → Option R) : evJ (bitio_Writer_Bits_Ct bitio_Writer_ok bitio_Writer_put) (bitio_Writer_Bits_Jt k bitio_Writer_Bits_p0 bitio_Writer_Bits_l1) bitio_Writer_Bits_i0 (List.zip [0, 1, 2] [.pointer p229, .int .i64 n230, .int .i64 n231]) H (fun x e' H' => K x (clean e' ((⟨[0, 1, 2], [], [6]⟩ : Out).of x)) H') = bitio_Writer_Bits_p0_b k p229 n230 n231 (fun p887 n888 n889 => K .normal [(0, .pointer p887), (1, .int .i64 n888), (2, .int .i64 n889)] H) (fun n890 => K .ret [(6, .int .i64 n890)] H) := by kernel_rfl
theorem bitio_Writer_Bits_j0 {R : Type} (k : Nat) : JS Try.prog 41 (bitio_Writer_Bits_a0 R k k) [0, 1, 2] ⟨[0, 1, 2], [], [6]⟩ (sel [1, 1, 0] (Try.f32.body.getD .skip)) :=
  piece_ok (nt := 41) (c := (sel [1, 1, 0] (Try.f32.body.getD .skip))) (C := bitio_Writer_Bits_C R k) (an := An) (t := (.seq (.reg [0, 1, 2, 27] []) (.cond (.seq (.reg [6] []) .leaf) .leaf))) (ic := bitio_Writer_Bits_i0) (bitio_Writer_Bits_S R k) (bitio_Writer_Bits_J R k) (by kernel_rfl) (And.intro True.intro (And.intro (And.intro True.intro True.intro) True.intro)) (bitio_Writer_Bits_a0 R k k)
    (fun vals H K r h => by
      unfold bitio_Writer_Bits_a0 bitio_Writer_Bits_aa0 at h
      split at h <;> first | (cases h; done) | exact Eq.trans (bitio_Writer_Bits_e0 bitio_Writer_ok (bitio_Writer_put k) (bitio_Writer_Bits_p0 k) (bitio_Writer_Bits_l1 k) k _ _ _ H K) h)
def bitio_Writer_Bits_ca {R : Type} (f : Option Addr → Int → Int → Heap → (Int → Heap → Option R) → Option R) (args : List Value) (H : Heap) (K : Value → Heap → Option R) : Option R :=
  match args with
  | [.pointer p225, .int .i64 n226, .int .i64 n227] => f p225 n226 n227 H (fun n891 H => K (.int .i64 n891) H)
  | _ => none
def bitio_Writer_Bits_c (R : Type) (k : Nat) (args : List Value) (H : Heap) (K : Value → Heap → Option R) : Option R := bitio_Writer_Bits_ca (bitio_Writer_Bits k) args H K
theorem bitio_Writer_Bits_e {R : Type} (bitio_Writer_ok : Option Addr → Heap → (Bool → Option R) → Option R) (bitio_Writer_put : Option Addr → Int → Heap → (Heap → Option R) → Option R) (bitio_Writer_Bits_p0 : Option Addr → Int → Int → (Option Addr → Int → Int → Option R) → (Int → Option R) → Option R) (bitio_Writer_Bits_l1 : (Heap → Option R) → Nat → Option Addr → Int → Int → Heap → Option R) (k : Nat) (p225 : Option Addr) (n226 : Int) (n227 : Int) (H : Heap) (K : Value → Heap → Option R) : evF (bitio_Writer_Bits_Ct bitio_Writer_ok bitio_Writer_put) (bitio_Writer_Bits_Jt k bitio_Writer_Bits_p0 bitio_Writer_Bits_l1) bitio_Writer_Bits_f [.pointer p225, .int .i64 n226, .int .i64 n227] H K = bitio_Writer_Bits_b bitio_Writer_ok bitio_Writer_Bits_p0 bitio_Writer_Bits_l1 k p225 n226 n227 H (fun n891 H => K (.int .i64 n891) H) := by kernel_rfl
theorem bitio_Writer_Bits_cs (R : Type) (k : Nat) : ∀ args H K r, bitio_Writer_Bits_c R k args H K = some r → ∃ v H', Tri Try.prog 32 args H v H' ∧ K v H' = some r := by
  intro args H K r h
  unfold bitio_Writer_Bits_c bitio_Writer_Bits_ca at h
  split at h
  · exact evF_ok (C := bitio_Writer_Bits_C R k) (an := An) (t := bitio_Writer_Bits_at) (fn := Try.f32) (c := (Try.f32.body.getD .skip)) (ifn := bitio_Writer_Bits_f) (bitio_Writer_Bits_S R k) (bitio_Writer_Bits_J R k) Try.func32 (by kernel_rfl) (by kernel_rfl) (And.intro True.intro (And.intro (And.intro True.intro (And.intro (And.intro True.intro True.intro) True.intro)) (And.intro (bitio_Writer_Bits_j0 k) (And.intro (And.intro True.intro (bitio_Writer_Bits_j1 k)) (And.intro True.intro True.intro))))) rfl (Eq.trans (bitio_Writer_Bits_e bitio_Writer_ok (bitio_Writer_put k) (bitio_Writer_Bits_p0 k) (bitio_Writer_Bits_l1 k) k _ _ _ H K) h)
  · cases h
end Go.Proofs.Ytiapgcgpdndkiaa.Sh
