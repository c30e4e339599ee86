/- Lean functions that stand for Go's, over an explicit heap, and the proofs that they do (written by this claim's program shallow.py). -/
import Derived.Test.YtiapgcgpdndkiaaSh0
import Derived.Test.YtiapgcgpdndkiaaSh1
import Derived.Test.YtiapgcgpdndkiaaSh3
set_option maxRecDepth 100000
set_option linter.unusedVariables false
set_option linter.unusedSimpArgs false
namespace Go.Proofs.Ytiapgcgpdndkiaa.Sh
open Go.Proofs.Ytiapgcgpdndkiaa.FW
/-! ### L_write: function 14 -/
def L_write_b {R : Type} (bitio_Writer_Put : Option Addr → Int → Heap → (Int → Heap → Option R) → Option R) (bitio_Writer_Bits : Option Addr → Int → Int → Heap → (Int → Heap → Option R) → Option R) (bitio_Writer_Gamma : Option Addr → Int → Heap → (Int → Heap → Option R) → Option R) (bitio_Writer_Unary : Option Addr → Int → Heap → (Int → Heap → Option R) → Option R) (k : Nat) (p145 : Option Addr) (n146 : Int) (n147 : Int) (n148 : Int) (H : Heap) (K : Int → Heap → Option R) : Option R :=
hal H [.int .i64 n146, .int .i64 n147, .int .i64 n148] fun p149 H150 =>
hfad 0 p149 fun p151 =>
ldI .i64 H150 p151 fun n152 =>
bif (n152 == 0) then (hfad 1 p149 fun p153 =>
ldI .i64 H150 p153 fun n154 =>
bitio_Writer_Put p145 n154 H150 fun n155 H156 =>
K n155 H156)
 else (bif (n152 == 1) then (hfad 1 p149 fun p157 =>
ldI .i64 H150 p157 fun n158 =>
hfad 2 p149 fun p159 =>
ldI .i64 H150 p159 fun n160 =>
bitio_Writer_Bits p145 n158 n160 H150 fun n161 H162 =>
K n161 H162)
 else (bif (n152 == 2) then (hfad 1 p149 fun p163 =>
ldI .i64 H150 p163 fun n164 =>
bitio_Writer_Gamma p145 n164 H150 fun n165 H166 =>
K n165 H166)
 else (bif (n152 == 3) then (hfad 1 p149 fun p167 =>
ldI .i64 H150 p167 fun n168 =>
bitio_Writer_Unary p145 n168 H150 fun n169 H170 =>
K n169 H170)
 else (K 0 H150))))

def L_write {R : Type} (k : Nat) (p145 : Option Addr) (n146 : Int) (n147 : Int) (n148 : Int) (H : Heap) (K : Int → Heap → Option R) : Option R := L_write_b (bitio_Writer_Put k) (bitio_Writer_Bits k) (bitio_Writer_Gamma k) (bitio_Writer_Unary k) k p145 n146 n147 n148 H K

def L_write_Ct {R : Type} (bitio_Writer_Put : Option Addr → Int → Heap → (Int → Heap → Option R) → Option R) (bitio_Writer_Bits : Option Addr → Int → Int → Heap → (Int → Heap → Option R) → Option R) (bitio_Writer_Gamma : Option Addr → Int → Heap → (Int → Heap → Option R) → Option R) (bitio_Writer_Unary : Option Addr → Int → Heap → (Int → Heap → Option R) → Option R) : Tab R := tcons 23 (bitio_Writer_Put_ca bitio_Writer_Put) <| tcons 32 (bitio_Writer_Bits_ca bitio_Writer_Bits) <| tcons 30 (bitio_Writer_Gamma_ca bitio_Writer_Gamma) <| tcons 29 (bitio_Writer_Unary_ca bitio_Writer_Unary) <| fun _ _ _ _ => none
def L_write_C (R : Type) (k : Nat) : Tab R := L_write_Ct (bitio_Writer_Put k) (bitio_Writer_Bits k) (bitio_Writer_Gamma k) (bitio_Writer_Unary k)
theorem L_write_S (R : Type) (k : Nat) : CSound Try.prog (L_write_C R k) := csound_cons (bitio_Writer_Put_cs R k) <| csound_cons (bitio_Writer_Bits_cs R k) <| csound_cons (bitio_Writer_Gamma_cs R k) <| csound_cons (bitio_Writer_Unary_cs R k) <| csound_nil
def L_write_Jt {R : Type} (k : Nat) : JTab R := fun _ _ _ _ => none
def L_write_J (R : Type) (k : Nat) : JTab R := L_write_Jt k
def L_write_at : AT := (.seq (.reg [0, 3] []) (.seq (.seq (.reg [0, 3, 6] []) (.node (.seq (.reg [0, 3, 6, 7] []) (.cond (.seq (.reg [4] []) .leaf) (.seq (.reg [0, 3, 6, 13] []) (.cond (.seq (.reg [4] []) .leaf) (.seq (.reg [0, 3, 6, 21] []) (.cond (.seq (.reg [4] []) .leaf) (.seq (.reg [0, 3, 27] []) (.cond (.seq (.reg [4] []) .leaf) .leaf)))))))))) (.seq (.reg [4] []) .leaf)))
def L_write_f : IFn := ⟨33, [.t 4], (.seq (.reg [⟨some 3, .box (.t 1), none⟩,
 ⟨some 4, .mov (.c (Go.Value.int Go.IntKind.i64 0)), none⟩] [0, 3]) (.seq (.seq (.reg [⟨some 5, .fad 0 (.t 3), none⟩,
 ⟨some 6, .ld (.sc (.int .i64)) (.t 5), none⟩] [0, 3, 6]) (.block 0 (.seq (.reg [⟨some 8, .cmp .eql (.t 6) (.c (Go.Value.int Go.IntKind.i64 0)), none⟩,
 ⟨some 7, .mov (.t 8), none⟩] [0, 3, 6, 7]) (.cond (.t 7) (.seq (.reg [⟨some 9, .mov (.t 0), none⟩,
 ⟨some 10, .fad 1 (.t 3), none⟩,
 ⟨some 11, .ld (.sc (.int .i64)) (.t 10), none⟩,
 ⟨some 12, .call 23 [(.t 9), (.t 11)] (.one (.sc (.int .i64))), none⟩,
 ⟨some 4, .mov (.t 12), none⟩] [4]) .ret) (.seq (.reg [⟨some 14, .cmp .eql (.t 6) (.c (Go.Value.int Go.IntKind.i64 1)), none⟩,
 ⟨some 13, .mov (.t 14), none⟩] [0, 3, 6, 13]) (.cond (.t 13) (.seq (.reg [⟨some 15, .mov (.t 0), none⟩,
 ⟨some 16, .fad 1 (.t 3), none⟩,
 ⟨some 17, .ld (.sc (.int .i64)) (.t 16), none⟩,
 ⟨some 18, .fad 2 (.t 3), none⟩,
 ⟨some 19, .ld (.sc (.int .i64)) (.t 18), none⟩,
 ⟨some 20, .call 32 [(.t 15), (.t 17), (.t 19)] (.one (.sc (.int .i64))), none⟩,
 ⟨some 4, .mov (.t 20), none⟩] [4]) .ret) (.seq (.reg [⟨some 22, .cmp .eql (.t 6) (.c (Go.Value.int Go.IntKind.i64 2)), none⟩,
 ⟨some 21, .mov (.t 22), none⟩] [0, 3, 6, 21]) (.cond (.t 21) (.seq (.reg [⟨some 23, .mov (.t 0), none⟩,
 ⟨some 24, .fad 1 (.t 3), none⟩,
 ⟨some 25, .ld (.sc (.int .i64)) (.t 24), none⟩,
 ⟨some 26, .call 30 [(.t 23), (.t 25)] (.one (.sc (.int .i64))), none⟩,
 ⟨some 4, .mov (.t 26), none⟩] [4]) .ret) (.seq (.reg [⟨some 28, .cmp .eql (.t 6) (.c (Go.Value.int Go.IntKind.i64 3)), none⟩,
 ⟨some 27, .mov (.t 28), none⟩] [0, 3, 27]) (.cond (.t 27) (.seq (.reg [⟨some 29, .mov (.t 0), none⟩,
 ⟨some 30, .fad 1 (.t 3), none⟩,
 ⟨some 31, .ld (.sc (.int .i64)) (.t 30), none⟩,
 ⟨some 32, .call 29 [(.t 29), (.t 31)] (.one (.sc (.int .i64))), none⟩,
 ⟨some 4, .mov (.t 32), none⟩] [4]) .ret) .skip)))))))))) (.seq (.reg [⟨some 4, .mov (.c (Go.Value.int Go.IntKind.i64 0)), none⟩] [4]) .ret)))⟩
def L_write_ca {R : Type} (f : Option Addr → Int → Int → Int → Heap → (Int → Heap → Option R) → Option R) (args : List Value) (H : Heap) (K : Value → Heap → Option R) : Option R :=
  match args with
  | [.pointer p145, .agg ⟨[.int .i64 n146, .int .i64 n147, .int .i64 n148]⟩] => f p145 n146 n147 n148 H (fun n946 H => K (.int .i64 n946) H)
  | _ => none
def L_write_c (R : Type) (k : Nat) (args : List Value) (H : Heap) (K : Value → Heap → Option R) : Option R := L_write_ca (L_write k) args H K
theorem L_write_e {R : Type} (bitio_Writer_Put : Option Addr → Int → Heap → (Int → Heap → Option R) → Option R) (bitio_Writer_Bits : Option Addr → Int → Int → Heap → (Int → Heap → Option R) → Option R) (bitio_Writer_Gamma : Option Addr → Int → Heap → (Int → Heap → Option R) → Option R) (bitio_Writer_Unary : Option Addr → Int → Heap → (Int → Heap → Option R) → Option R) (k : Nat) (p145 : Option Addr) (n146 : Int) (n147 : Int) (n148 : Int) (H : Heap) (K : Value → Heap → Option R) : evF (L_write_Ct bitio_Writer_Put bitio_Writer_Bits bitio_Writer_Gamma bitio_Writer_Unary) (L_write_Jt k) L_write_f [.pointer p145, .agg ⟨[.int .i64 n146, .int .i64 n147, .int .i64 n148]⟩] H K = L_write_b bitio_Writer_Put bitio_Writer_Bits bitio_Writer_Gamma bitio_Writer_Unary k p145 n146 n147 n148 H (fun n946 H => K (.int .i64 n946) H) := by kernel_rfl
theorem L_write_cs (R : Type) (k : Nat) : ∀ args H K r, L_write_c R k args H K = some r → ∃ v H', Tri Try.prog 14 args H v H' ∧ K v H' = some r := by
  intro args H K r h
  unfold L_write_c L_write_ca at h
  split at h
  · exact evF_ok (C := L_write_C R k) (an := An) (t := L_write_at) (fn := Try.f14) (c := (Try.f14.body.getD .skip)) (ifn := L_write_f) (L_write_S R k) (L_write_J R k) Try.func14 (by kernel_rfl) (by kernel_rfl) (And.intro True.intro (And.intro (And.intro True.intro (And.intro True.intro (And.intro (And.intro True.intro True.intro) (And.intro True.intro (And.intro (And.intro True.intro True.intro) (And.intro True.intro (And.intro (And.intro True.intro True.intro) (And.intro True.intro (And.intro (And.intro True.intro True.intro) True.intro))))))))) (And.intro True.intro True.intro))) rfl (Eq.trans (L_write_e (bitio_Writer_Put k) (bitio_Writer_Bits k) (bitio_Writer_Gamma k) (bitio_Writer_Unary k) k _ _ _ _ H K) h)
  · cases h
end Go.Proofs.Ytiapgcgpdndkiaa.Sh
