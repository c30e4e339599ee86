/- Lean functions that stand for Go's, over an explicit heap, and the proofs that they do (written by this claim's program shallow.py). -/
import Derived.Test.YtblpaolcgkjcgaaSh0
set_option maxRecDepth 100000
set_option linter.unusedVariables false
set_option linter.unusedSimpArgs false
namespace Go.Proofs.Ytblpaolcgkjcgaa.Sh
open Go.Proofs.Ytblpaolcgkjcgaa.FW
/-! ### cblk_Block_one: function 48 -/
def cblk_Block_one_b {R : Type} (cblk_Block_Significant : Option Addr → Int → Int → Heap → (Bool → Option R) → Option R) (k : Nat) (p211 : Option Addr) (n212 : Int) (n213 : Int) (H : Heap) (K : Int → Option R) : Option R :=
cblk_Block_Significant p211 n212 n213 H fun t214 =>
bif t214 then (K 1)
 else (K 0)

def cblk_Block_one {R : Type} (k : Nat) (p211 : Option Addr) (n212 : Int) (n213 : Int) (H : Heap) (K : Int → Option R) : Option R := cblk_Block_one_b (cblk_Block_Significant k) k p211 n212 n213 H K

def cblk_Block_one_Ct {R : Type} (cblk_Block_Significant : Option Addr → Int → Int → Heap → (Bool → Option R) → Option R) : Tab R := tcons 25 (cblk_Block_Significant_ca cblk_Block_Significant) <| fun _ _ _ _ => none
def cblk_Block_one_C (R : Type) (k : Nat) : Tab R := cblk_Block_one_Ct (cblk_Block_Significant k)
theorem cblk_Block_one_S (R : Type) (k : Nat) : CSound Try.prog (cblk_Block_one_C R k) := csound_cons (cblk_Block_Significant_cs R k) <| csound_nil
def cblk_Block_one_Jt {R : Type} (k : Nat) : JTab R := fun _ _ _ _ => none
def cblk_Block_one_J (R : Type) (k : Nat) : JTab R := cblk_Block_one_Jt k
def cblk_Block_one_at : AT := (.seq (.reg [0, 1, 2] []) (.seq (.seq (.reg [10] []) (.cond (.seq (.reg [6] []) .leaf) .leaf)) (.seq (.reg [6] []) .leaf)))
def cblk_Block_one_f : IFn := ⟨11, [.t 6], (.seq (.reg [⟨some 6, .mov (.c (Go.Value.int Go.IntKind.i64 0)), none⟩] [0, 1, 2]) (.seq (.seq (.reg [⟨some 7, .mov (.t 0), none⟩,
 ⟨some 8, .mov (.t 1), none⟩,
 ⟨some 9, .mov (.t 2), none⟩,
 ⟨some 10, .call 25 [(.t 7), (.t 8), (.t 9)] (.one (.sc .bool)), none⟩] [10]) (.cond (.t 10) (.seq (.reg [⟨some 6, .mov (.c (Go.Value.int Go.IntKind.i64 1)), none⟩] [6]) .ret) .skip)) (.seq (.reg [⟨some 6, .mov (.c (Go.Value.int Go.IntKind.i64 0)), none⟩] [6]) .ret)))⟩
def cblk_Block_one_ca {R : Type} (f : Option Addr → Int → Int → Heap → (Int → Option R) → Option R) (args : List Value) (H : Heap) (K : Value → Heap → Option R) : Option R :=
  match args with
  | [.pointer p211, .int .i64 n212, .int .i64 n213] => f p211 n212 n213 H (fun n1099 => K (.int .i64 n1099) H)
  | _ => none
def cblk_Block_one_c (R : Type) (k : Nat) (args : List Value) (H : Heap) (K : Value → Heap → Option R) : Option R := cblk_Block_one_ca (cblk_Block_one k) args H K
theorem cblk_Block_one_e {R : Type} (cblk_Block_Significant : Option Addr → Int → Int → Heap → (Bool → Option R) → Option R) (k : Nat) (p211 : Option Addr) (n212 : Int) (n213 : Int) (H : Heap) (K : Value → Heap → Option R) : evF (cblk_Block_one_Ct cblk_Block_Significant) (cblk_Block_one_Jt k) cblk_Block_one_f [.pointer p211, .int .i64 n212, .int .i64 n213] H K = cblk_Block_one_b cblk_Block_Significant k p211 n212 n213 H (fun n1099 => K (.int .i64 n1099) H) := by kernel_rfl
theorem cblk_Block_one_cs (R : Type) (k : Nat) : ∀ args H K r, cblk_Block_one_c R k args H K = some r → ∃ v H', Tri Try.prog 48 args H v H' ∧ K v H' = some r := by
  intro args H K r h
  unfold cblk_Block_one_c cblk_Block_one_ca at h
  split at h
  · exact evF_ok (C := cblk_Block_one_C R k) (an := An) (t := cblk_Block_one_at) (fn := Try.f48) (c := (Try.f48.body.getD .skip)) (ifn := cblk_Block_one_f) (cblk_Block_one_S R k) (cblk_Block_one_J R k) Try.func48 (by kernel_rfl) (by kernel_rfl) (And.intro True.intro (And.intro (And.intro True.intro (And.intro (And.intro True.intro True.intro) True.intro)) (And.intro True.intro True.intro))) rfl (Eq.trans (cblk_Block_one_e (cblk_Block_Significant k) k _ _ _ H K) h)
  · cases h
/-! ### cblk_Block_Neighbors: function 29 -/
def cblk_Block_Neighbors_p0_b {R : Type} (k : Nat) (p216 : Option Addr) (n217 : Int) (n218 : Int) (t219 : Bool) (n220 : Int) (n221 : Int) (n222 : Int) (KN : Option Addr → Int → Int → Int → Int → Int → Bool → Option R) : Option R :=
bif (!t219) then (KN p216 n217 n218 n220 n221 n222 true)
 else (KN p216 n217 n218 n220 n221 n222 ((Int.tmod n218 4) != 3))
def cblk_Block_Neighbors_p0 {R : Type} (k : Nat) (p216 : Option Addr) (n217 : Int) (n218 : Int) (t219 : Bool) (n220 : Int) (n221 : Int) (n222 : Int) (KN : Option Addr → Int → Int → Int → Int → Int → Bool → Option R) : Option R := cblk_Block_Neighbors_p0_b k p216 n217 n218 t219 n220 n221 n222 KN

def cblk_Block_Neighbors_b {R : Type} (cblk_Block_at : Option Addr → Int → Int → Heap → (Option Addr → Option R) → Option R) (cblk_Block_one : Option Addr → Int → Int → Heap → (Int → Option R) → Option R) (cblk_Block_Neighbors_p0 : Option Addr → Int → Int → Bool → Int → Int → Int → (Option Addr → Int → Int → Int → Int → Int → Bool → Option R) → Option R) (k : Nat) (p206 : Option Addr) (n207 : Int) (n208 : Int) (t209 : Bool) (H : Heap) (K : Int → Int → Int → Option R) : Option R :=
cblk_Block_at p206 n207 n208 H fun p210 =>
bif p210.isNone then (K 0 0 0)
 else (cblk_Block_one p206 (IntKind.wrap .i64 (n207 - 1)) n208 H fun n211 =>
cblk_Block_one p206 (IntKind.wrap .i64 (n207 + 1)) n208 H fun n212 =>
cblk_Block_one p206 n207 (IntKind.wrap .i64 (n208 - 1)) H fun n213 =>
cblk_Block_one p206 (IntKind.wrap .i64 (n207 - 1)) (IntKind.wrap .i64 (n208 - 1)) H fun n214 =>
cblk_Block_one p206 (IntKind.wrap .i64 (n207 + 1)) (IntKind.wrap .i64 (n208 - 1)) H fun n215 =>
cblk_Block_Neighbors_p0 p206 n207 n208 t209 (IntKind.wrap .i64 (n211 + n212)) n213 (IntKind.wrap .i64 (n214 + n215)) (fun p230 n231 n232 n233 n234 n235 t236 =>
bif t236 then (cblk_Block_one p230 n231 (IntKind.wrap .i64 (n232 + 1)) H fun n237 =>
cblk_Block_one p230 (IntKind.wrap .i64 (n231 - 1)) (IntKind.wrap .i64 (n232 + 1)) H fun n238 =>
cblk_Block_one p230 (IntKind.wrap .i64 (n231 + 1)) (IntKind.wrap .i64 (n232 + 1)) H fun n239 =>
K n233 (IntKind.wrap .i64 (n234 + n237)) (IntKind.wrap .i64 (n235 + (IntKind.wrap .i64 (n238 + n239)))))
 else (K n233 n234 n235)))

def cblk_Block_Neighbors {R : Type} (k : Nat) (p206 : Option Addr) (n207 : Int) (n208 : Int) (t209 : Bool) (H : Heap) (K : Int → Int → Int → Option R) : Option R := cblk_Block_Neighbors_b (cblk_Block_at k) (cblk_Block_one k) (cblk_Block_Neighbors_p0 k) k p206 n207 n208 t209 H K

def cblk_Block_Neighbors_Ct {R : Type} (cblk_Block_at : Option Addr → Int → Int → Heap → (Option Addr → Option R) → Option R) (cblk_Block_one : Option Addr → Int → Int → Heap → (Int → Option R) → Option R) : Tab R := tcons 46 (cblk_Block_at_ca cblk_Block_at) <| tcons 48 (cblk_Block_one_ca cblk_Block_one) <| fun _ _ _ _ => none
def cblk_Block_Neighbors_C (R : Type) (k : Nat) : Tab R := cblk_Block_Neighbors_Ct (cblk_Block_at k) (cblk_Block_one k)
theorem cblk_Block_Neighbors_S (R : Type) (k : Nat) : CSound Try.prog (cblk_Block_Neighbors_C R k) := csound_cons (cblk_Block_at_cs R k) <| csound_cons (cblk_Block_one_cs R k) <| csound_nil
def cblk_Block_Neighbors_aa0 {R : Type} (f : Option Addr → Int → Int → Bool → Int → Int → Int → (Option Addr → Int → Int → Int → Int → Int → Bool → Option R) → Option R) (n : Nat) (vals : List Value) (H : Heap) (K : Xit → Env → Heap → Option R) : Option R :=
  match vals with
  | [.pointer p216, .int .i64 n217, .int .i64 n218, .bool t219, .int .i64 n220, .int .i64 n221, .int .i64 n222] => f p216 n217 n218 t219 n220 n221 n222 (fun p1100 n1101 n1102 n1103 n1104 n1105 t1106 => K .normal [(0, .pointer p1100), (1, .int .i64 n1101), (2, .int .i64 n1102), (8, .int .i64 n1103), (9, .int .i64 n1104), (10, .int .i64 n1105), (51, .bool t1106)] H)
  | _ => none
def cblk_Block_Neighbors_a0 (R : Type) (k n : Nat) (vals : List Value) (H : Heap) (K : Xit → Env → Heap → Option R) : Option R := cblk_Block_Neighbors_aa0 (cblk_Block_Neighbors_p0 k) n vals H K
def cblk_Block_Neighbors_Jt {R : Type} (k : Nat) (cblk_Block_Neighbors_p0 : Option Addr → Int → Int → Bool → Int → Int → Int → (Option Addr → Int → Int → Int → Int → Int → Bool → Option R) → Option R) : JTab R := tcons 0 (cblk_Block_Neighbors_aa0 cblk_Block_Neighbors_p0 k) <| fun _ _ _ _ => none
def cblk_Block_Neighbors_J (R : Type) (k : Nat) : JTab R := cblk_Block_Neighbors_Jt k (cblk_Block_Neighbors_p0 k)
def cblk_Block_Neighbors_at : AT := (.seq (.reg [0, 1, 2, 3] []) (.seq (.seq (.reg [0, 1, 2, 3, 15] []) (.cond (.seq (.reg [8, 9, 10] []) .leaf) .leaf)) (.seq (.reg [0, 1, 2, 3, 8] []) (.seq (.reg [0, 1, 2, 3, 8, 9] []) (.seq (.reg [0, 1, 2, 3, 8, 9, 10] []) (.seq (.seq (.opq 0 [0, 1, 2, 3, 8, 9, 10] ⟨[0, 1, 2, 8, 9, 10, 51], [], []⟩ (.reg [0, 1, 2, 8, 9, 10, 51] [])) (.cond (.seq (.reg [0, 1, 2, 8, 9, 10] []) (.reg [8, 9, 10] [])) .leaf)) (.seq (.reg [8, 9, 10] []) .leaf)))))))
def cblk_Block_Neighbors_i0 : IC := (.reg [⟨some 45, .mov (.t 3), none⟩,
 ⟨some 46, .lnot (.t 45), none⟩,
 ⟨some 47, .mov (.t 46), none⟩,
 ⟨some 48, .mov (.t 2), some (47, false)⟩,
 ⟨some 49, .bin .rem .i64 (.t 48) (.c (Go.Value.int Go.IntKind.i64 4)), some (47, false)⟩,
 ⟨some 50, .cmp .neq (.t 49) (.c (Go.Value.int Go.IntKind.i64 3)), some (47, false)⟩,
 ⟨some 51, .pick (.t 47) (.c (Go.Value.bool true)) (.t 50), none⟩] [0, 1, 2, 8, 9, 10, 51])
def cblk_Block_Neighbors_f : IFn := ⟨77, [.t 8, .t 9, .t 10], (.seq (.reg [⟨some 8, .mov (.c (Go.Value.int Go.IntKind.i64 0)), none⟩,
 ⟨some 9, .mov (.c (Go.Value.int Go.IntKind.i64 0)), none⟩,
 ⟨some 10, .mov (.c (Go.Value.int Go.IntKind.i64 0)), none⟩] [0, 1, 2, 3]) (.seq (.seq (.reg [⟨some 11, .mov (.t 0), none⟩,
 ⟨some 12, .mov (.t 1), none⟩,
 ⟨some 13, .mov (.t 2), none⟩,
 ⟨some 14, .call 46 [(.t 11), (.t 12), (.t 13)] (.one (.sc .ptr)), none⟩,
 ⟨some 15, .eqnil (.t 14) false 0, none⟩] [0, 1, 2, 3, 15]) (.cond (.t 15) (.seq (.reg [⟨some 8, .mov (.c (Go.Value.int Go.IntKind.i64 0)), none⟩,
 ⟨some 9, .mov (.c (Go.Value.int Go.IntKind.i64 0)), none⟩,
 ⟨some 10, .mov (.c (Go.Value.int Go.IntKind.i64 0)), none⟩] [8, 9, 10]) .ret) .skip)) (.seq (.reg [⟨some 16, .mov (.t 0), none⟩,
 ⟨some 17, .mov (.t 1), none⟩,
 ⟨some 18, .bin .sub .i64 (.t 17) (.c (Go.Value.int Go.IntKind.i64 1)), none⟩,
 ⟨some 19, .mov (.t 2), none⟩,
 ⟨some 20, .call 48 [(.t 16), (.t 18), (.t 19)] (.one (.sc (.int .i64))), none⟩,
 ⟨some 21, .mov (.t 0), none⟩,
 ⟨some 22, .mov (.t 1), none⟩,
 ⟨some 23, .bin .add .i64 (.t 22) (.c (Go.Value.int Go.IntKind.i64 1)), none⟩,
 ⟨some 24, .mov (.t 2), none⟩,
 ⟨some 25, .call 48 [(.t 21), (.t 23), (.t 24)] (.one (.sc (.int .i64))), none⟩,
 ⟨some 26, .bin .add .i64 (.t 20) (.t 25), none⟩,
 ⟨some 8, .mov (.t 26), none⟩] [0, 1, 2, 3, 8]) (.seq (.reg [⟨some 27, .mov (.t 0), none⟩,
 ⟨some 28, .mov (.t 1), none⟩,
 ⟨some 29, .mov (.t 2), none⟩,
 ⟨some 30, .bin .sub .i64 (.t 29) (.c (Go.Value.int Go.IntKind.i64 1)), none⟩,
 ⟨some 31, .call 48 [(.t 27), (.t 28), (.t 30)] (.one (.sc (.int .i64))), none⟩,
 ⟨some 9, .mov (.t 31), none⟩] [0, 1, 2, 3, 8, 9]) (.seq (.reg [⟨some 32, .mov (.t 0), none⟩,
 ⟨some 33, .mov (.t 1), none⟩,
 ⟨some 34, .bin .sub .i64 (.t 33) (.c (Go.Value.int Go.IntKind.i64 1)), none⟩,
 ⟨some 35, .mov (.t 2), none⟩,
 ⟨some 36, .bin .sub .i64 (.t 35) (.c (Go.Value.int Go.IntKind.i64 1)), none⟩,
 ⟨some 37, .call 48 [(.t 32), (.t 34), (.t 36)] (.one (.sc (.int .i64))), none⟩,
 ⟨some 38, .mov (.t 0), none⟩,
 ⟨some 39, .mov (.t 1), none⟩,
 ⟨some 40, .bin .add .i64 (.t 39) (.c (Go.Value.int Go.IntKind.i64 1)), none⟩,
 ⟨some 41, .mov (.t 2), none⟩,
 ⟨some 42, .bin .sub .i64 (.t 41) (.c (Go.Value.int Go.IntKind.i64 1)), none⟩,
 ⟨some 43, .call 48 [(.t 38), (.t 40), (.t 42)] (.one (.sc (.int .i64))), none⟩,
 ⟨some 44, .bin .add .i64 (.t 37) (.t 43), none⟩,
 ⟨some 10, .mov (.t 44), none⟩] [0, 1, 2, 3, 8, 9, 10]) (.seq (.seq (.opq 0 [0, 1, 2, 3, 8, 9, 10] cblk_Block_Neighbors_i0) (.cond (.t 51) (.seq (.reg [⟨some 52, .mov (.t 9), none⟩,
 ⟨some 53, .mov (.t 0), none⟩,
 ⟨some 54, .mov (.t 1), none⟩,
 ⟨some 55, .mov (.t 2), none⟩,
 ⟨some 56, .bin .add .i64 (.t 55) (.c (Go.Value.int Go.IntKind.i64 1)), none⟩,
 ⟨some 57, .call 48 [(.t 53), (.t 54), (.t 56)] (.one (.sc (.int .i64))), none⟩,
 ⟨some 58, .bin .add .i64 (.t 52) (.t 57), none⟩,
 ⟨some 9, .mov (.t 58), none⟩] [0, 1, 2, 8, 9, 10]) (.reg [⟨some 59, .mov (.t 10), none⟩,
 ⟨some 60, .mov (.t 0), none⟩,
 ⟨some 61, .mov (.t 1), none⟩,
 ⟨some 62, .bin .sub .i64 (.t 61) (.c (Go.Value.int Go.IntKind.i64 1)), none⟩,
 ⟨some 63, .mov (.t 2), none⟩,
 ⟨some 64, .bin .add .i64 (.t 63) (.c (Go.Value.int Go.IntKind.i64 1)), none⟩,
 ⟨some 65, .call 48 [(.t 60), (.t 62), (.t 64)] (.one (.sc (.int .i64))), none⟩,
 ⟨some 66, .mov (.t 0), none⟩,
 ⟨some 67, .mov (.t 1), none⟩,
 ⟨some 68, .bin .add .i64 (.t 67) (.c (Go.Value.int Go.IntKind.i64 1)), none⟩,
 ⟨some 69, .mov (.t 2), none⟩,
 ⟨some 70, .bin .add .i64 (.t 69) (.c (Go.Value.int Go.IntKind.i64 1)), none⟩,
 ⟨some 71, .call 48 [(.t 66), (.t 68), (.t 70)] (.one (.sc (.int .i64))), none⟩,
 ⟨some 72, .bin .add .i64 (.t 65) (.t 71), none⟩,
 ⟨some 73, .bin .add .i64 (.t 59) (.t 72), none⟩,
 ⟨some 10, .mov (.t 73), none⟩] [8, 9, 10])) .skip)) (.seq (.reg [⟨some 74, .mov (.t 8), none⟩,
 ⟨some 75, .mov (.t 9), none⟩,
 ⟨some 76, .mov (.t 10), none⟩,
 ⟨some 8, .mov (.t 74), none⟩,
 ⟨some 9, .mov (.t 75), none⟩,
 ⟨some 10, .mov (.t 76), none⟩] [8, 9, 10]) .ret)))))))⟩
theorem cblk_Block_Neighbors_e0 {R : Type} (cblk_Block_at : Option Addr → Int → Int → Heap → (Option Addr → Option R) → Option R) (cblk_Block_one : Option Addr → Int → Int → Heap → (Int → Option R) → Option R) (cblk_Block_Neighbors_p0 : Option Addr → Int → Int → Bool → Int → Int → Int → (Option Addr → Int → Int → Int → Int → Int → Bool → Option R) → Option R) (k : Nat) (p216 : Option Addr) (n217 : Int) (n218 : Int) (t219 : Bool) (n220 : Int) (n221 : Int) (n222 : Int) (H : Heap) (K : Xit → Env → Heap → Option R) : evJ (cblk_Block_Neighbors_Ct cblk_Block_at cblk_Block_one) (cblk_Block_Neighbors_Jt k cblk_Block_Neighbors_p0) cblk_Block_Neighbors_i0 (List.zip [0, 1, 2, 3, 8, 9, 10] [.pointer p216, .int .i64 n217, .int .i64 n218, .bool t219, .int .i64 n220, .int .i64 n221, .int .i64 n222]) H (fun x e' H' => K x (clean e' ((⟨[0, 1, 2, 8, 9, 10, 51], [], []⟩ : Out).of x)) H') = cblk_Block_Neighbors_p0_b k p216 n217 n218 t219 n220 n221 n222 (fun p1100 n1101 n1102 n1103 n1104 n1105 t1106 => K .normal [(0, .pointer p1100), (1, .int .i64 n1101), (2, .int .i64 n1102), (8, .int .i64 n1103), (9, .int .i64 n1104), (10, .int .i64 n1105), (51, .bool t1106)] H) := by kernel_rfl
theorem cblk_Block_Neighbors_j0 {R : Type} (k : Nat) : JS Try.prog 77 (cblk_Block_Neighbors_a0 R k k) [0, 1, 2, 3, 8, 9, 10] ⟨[0, 1, 2, 8, 9, 10, 51], [], []⟩ (sel [1, 1, 1, 1, 1, 0, 0] (Try.f29.body.getD .skip)) :=
  piece_ok (nt := 77) (c := (sel [1, 1, 1, 1, 1, 0, 0] (Try.f29.body.getD .skip))) (C := cblk_Block_Neighbors_C R k) (an := An) (t := (.reg [0, 1, 2, 8, 9, 10, 51] [])) (ic := cblk_Block_Neighbors_i0) (cblk_Block_Neighbors_S R k) (cblk_Block_Neighbors_J R k) (by kernel_rfl) True.intro (cblk_Block_Neighbors_a0 R k k)
    (fun vals H K r h => by
      unfold cblk_Block_Neighbors_a0 cblk_Block_Neighbors_aa0 at h
      split at h <;> first | (cases h; done) | exact Eq.trans (cblk_Block_Neighbors_e0 (cblk_Block_at k) (cblk_Block_one k) (cblk_Block_Neighbors_p0 k) k _ _ _ _ _ _ _ H K) h)
def cblk_Block_Neighbors_ca {R : Type} (f : Option Addr → Int → Int → Bool → Heap → (Int → Int → Int → Option R) → Option R) (args : List Value) (H : Heap) (K : Value → Heap → Option R) : Option R :=
  match args with
  | [.pointer p206, .int .i64 n207, .int .i64 n208, .bool t209] => f p206 n207 n208 t209 H (fun n1107 n1108 n1109 => K (.tuple ⟨[.int .i64 n1107, .int .i64 n1108, .int .i64 n1109]⟩) H)
  | _ => none
def cblk_Block_Neighbors_c (R : Type) (k : Nat) (args : List Value) (H : Heap) (K : Value → Heap → Option R) : Option R := cblk_Block_Neighbors_ca (cblk_Block_Neighbors k) args H K
theorem cblk_Block_Neighbors_e {R : Type} (cblk_Block_at : Option Addr → Int → Int → Heap → (Option Addr → Option R) → Option R) (cblk_Block_one : Option Addr → Int → Int → Heap → (Int → Option R) → Option R) (cblk_Block_Neighbors_p0 : Option Addr → Int → Int → Bool → Int → Int → Int → (Option Addr → Int → Int → Int → Int → Int → Bool → Option R) → Option R) (k : Nat) (p206 : Option Addr) (n207 : Int) (n208 : Int) (t209 : Bool) (H : Heap) (K : Value → Heap → Option R) : evF (cblk_Block_Neighbors_Ct cblk_Block_at cblk_Block_one) (cblk_Block_Neighbors_Jt k cblk_Block_Neighbors_p0) cblk_Block_Neighbors_f [.pointer p206, .int .i64 n207, .int .i64 n208, .bool t209] H K = cblk_Block_Neighbors_b cblk_Block_at cblk_Block_one cblk_Block_Neighbors_p0 k p206 n207 n208 t209 H (fun n1107 n1108 n1109 => K (.tuple ⟨[.int .i64 n1107, .int .i64 n1108, .int .i64 n1109]⟩) H) := by kernel_rfl
theorem cblk_Block_Neighbors_cs (R : Type) (k : Nat) : ∀ args H K r, cblk_Block_Neighbors_c R k args H K = some r → ∃ v H', Tri Try.prog 29 args H v H' ∧ K v H' = some r := by
  intro args H K r h
  unfold cblk_Block_Neighbors_c cblk_Block_Neighbors_ca at h
  split at h
  · exact evF_ok (C := cblk_Block_Neighbors_C R k) (an := An) (t := cblk_Block_Neighbors_at) (fn := Try.f29) (c := (Try.f29.body.getD .skip)) (ifn := cblk_Block_Neighbors_f) (cblk_Block_Neighbors_S R k) (cblk_Block_Neighbors_J R k) Try.func29 (by kernel_rfl) (by kernel_rfl) (And.intro True.intro (And.intro (And.intro True.intro (And.intro (And.intro True.intro True.intro) True.intro)) (And.intro True.intro (And.intro True.intro (And.intro True.intro (And.intro (And.intro (cblk_Block_Neighbors_j0 k) (And.intro (And.intro True.intro True.intro) True.intro)) (And.intro True.intro True.intro))))))) rfl (Eq.trans (cblk_Block_Neighbors_e (cblk_Block_at k) (cblk_Block_one k) (cblk_Block_Neighbors_p0 k) k _ _ _ _ H K) h)
  · cases h
/-! ### cblk_Block_sign: function 49 -/
def cblk_Block_sign_p0_b {R : Type} (k : Nat) (p275 : Option Addr) (H : Heap) (KN : Option Addr → Option R) (KR : Int → Option R) : Option R :=
bif p275.isNone then (KR 0)
 else (hnil p275 fun p276 =>
hfad 1 p276 fun p277 =>
ldB H p277 fun t278 =>
bif (!t278) then (KR 0)
 else (KN p275))
def cblk_Block_sign_p0 {R : Type} (k : Nat) (p275 : Option Addr) (H : Heap) (KN : Option Addr → Option R) (KR : Int → Option R) : Option R := cblk_Block_sign_p0_b k p275 H KN KR

def cblk_Block_sign_b {R : Type} (cblk_Block_at : Option Addr → Int → Int → Heap → (Option Addr → Option R) → Option R) (cblk_Block_sign_p0 : Option Addr → Heap → (Option Addr → Option R) → (Int → Option R) → Option R) (k : Nat) (p271 : Option Addr) (n272 : Int) (n273 : Int) (H : Heap) (K : Int → Option R) : Option R :=
cblk_Block_at p271 n272 n273 H fun p274 =>
cblk_Block_sign_p0 p274 H (fun p281 =>
hnil p281 fun p282 =>
hfad 0 p282 fun p283 =>
ldI .i64 H p283 fun n284 =>
bif decide (n284 < 0) then (K (-1))
 else (K 1)) (fun n285 =>
K n285)

def cblk_Block_sign {R : Type} (k : Nat) (p271 : Option Addr) (n272 : Int) (n273 : Int) (H : Heap) (K : Int → Option R) : Option R := cblk_Block_sign_b (cblk_Block_at k) (cblk_Block_sign_p0 k) k p271 n272 n273 H K

def cblk_Block_sign_Ct {R : Type} (cblk_Block_at : Option Addr → Int → Int → Heap → (Option Addr → Option R) → Option R) : Tab R := tcons 46 (cblk_Block_at_ca cblk_Block_at) <| fun _ _ _ _ => none
def cblk_Block_sign_C (R : Type) (k : Nat) : Tab R := cblk_Block_sign_Ct (cblk_Block_at k)
theorem cblk_Block_sign_S (R : Type) (k : Nat) : CSound Try.prog (cblk_Block_sign_C R k) := csound_cons (cblk_Block_at_cs R k) <| csound_nil
def cblk_Block_sign_aa0 {R : Type} (f : Option Addr → Heap → (Option Addr → Option R) → (Int → Option R) → Option R) (n : Nat) (vals : List Value) (H : Heap) (K : Xit → Env → Heap → Option R) : Option R :=
  match vals with
  | [.pointer p275] => f p275 H (fun p1110 => K .normal [(7, .pointer p1110)] H) (fun n1111 => K .ret [(6, .int .i64 n1111)] H)
  | _ => none
def cblk_Block_sign_a0 (R : Type) (k n : Nat) (vals : List Value) (H : Heap) (K : Xit → Env → Heap → Option R) : Option R := cblk_Block_sign_aa0 (cblk_Block_sign_p0 k) n vals H K
def cblk_Block_sign_Jt {R : Type} (k : Nat) (cblk_Block_sign_p0 : Option Addr → Heap → (Option Addr → Option R) → (Int → Option R) → Option R) : JTab R := tcons 0 (cblk_Block_sign_aa0 cblk_Block_sign_p0 k) <| fun _ _ _ _ => none
def cblk_Block_sign_J (R : Type) (k : Nat) : JTab R := cblk_Block_sign_Jt k (cblk_Block_sign_p0 k)
def cblk_Block_sign_at : AT := (.seq (.reg [0, 1, 2] []) (.seq (.reg [7] []) (.seq (.opq 0 [7] ⟨[7], [], [6]⟩ (.seq (.reg [7, 20] []) (.cond (.seq (.reg [6] []) .leaf) .leaf))) (.seq (.seq (.reg [25] []) (.cond (.seq (.reg [6] []) .leaf) .leaf)) (.seq (.reg [6] []) .leaf)))))
def cblk_Block_sign_i0 : IC := (.seq (.reg [⟨some 12, .mov (.t 7), none⟩,
 ⟨some 13, .eqnil (.t 12) false 0, none⟩,
 ⟨some 14, .mov (.t 13), none⟩,
 ⟨some 15, .mov (.t 7), some (14, false)⟩,
 ⟨some 16, .nilc (.t 15), some (14, false)⟩,
 ⟨some 17, .fad 1 (.t 16), some (14, false)⟩,
 ⟨some 18, .ld (.sc .bool) (.t 17), some (14, false)⟩,
 ⟨some 19, .lnot (.t 18), some (14, false)⟩,
 ⟨some 20, .pick (.t 14) (.c (Go.Value.bool true)) (.t 19), none⟩] [7, 20]) (.cond (.t 20) (.seq (.reg [⟨some 6, .mov (.c (Go.Value.int Go.IntKind.i64 0)), none⟩] [6]) .ret) .skip))
def cblk_Block_sign_f : IFn := ⟨26, [.t 6], (.seq (.reg [⟨some 6, .mov (.c (Go.Value.int Go.IntKind.i64 0)), none⟩] [0, 1, 2]) (.seq (.reg [⟨some 8, .mov (.t 0), none⟩,
 ⟨some 9, .mov (.t 1), none⟩,
 ⟨some 10, .mov (.t 2), none⟩,
 ⟨some 11, .call 46 [(.t 8), (.t 9), (.t 10)] (.one (.sc .ptr)), none⟩,
 ⟨some 7, .mov (.t 11), none⟩] [7]) (.seq (.opq 0 [7] cblk_Block_sign_i0) (.seq (.seq (.reg [⟨some 21, .mov (.t 7), none⟩,
 ⟨some 22, .nilc (.t 21), none⟩,
 ⟨some 23, .fad 0 (.t 22), none⟩,
 ⟨some 24, .ld (.sc (.int .i64)) (.t 23), none⟩,
 ⟨some 25, .cmp .lss (.t 24) (.c (Go.Value.int Go.IntKind.i64 0)), none⟩] [25]) (.cond (.t 25) (.seq (.reg [⟨some 6, .mov (.c (Go.Value.int Go.IntKind.i64 (-1))), none⟩] [6]) .ret) .skip)) (.seq (.reg [⟨some 6, .mov (.c (Go.Value.int Go.IntKind.i64 1)), none⟩] [6]) .ret)))))⟩
theorem cblk_Block_sign_e0 {R : Type} (cblk_Block_at : Option Addr → Int → Int → Heap → (Option Addr → Option R) → Option R) (cblk_Block_sign_p0 : Option Addr → Heap → (Option Addr → Option R) → (Int → Option R) → Option R) (k : Nat) (p275 : Option Addr) (H : Heap) (K : Xit → Env → Heap → Option R) : evJ (cblk_Block_sign_Ct cblk_Block_at) (cblk_Block_sign_Jt k cblk_Block_sign_p0) cblk_Block_sign_i0 (List.zip [7] [.pointer p275]) H (fun x e' H' => K x (clean e' ((⟨[7], [], [6]⟩ : Out).of x)) H') = cblk_Block_sign_p0_b k p275 H (fun p1110 => K .normal [(7, .pointer p1110)] H) (fun n1111 => K .ret [(6, .int .i64 n1111)] H) := by kernel_rfl
theorem cblk_Block_sign_j0 {R : Type} (k : Nat) : JS Try.prog 26 (cblk_Block_sign_a0 R k k) [7] ⟨[7], [], [6]⟩ (sel [1, 1, 0] (Try.f49.body.getD .skip)) :=
  piece_ok (nt := 26) (c := (sel [1, 1, 0] (Try.f49.body.getD .skip))) (C := cblk_Block_sign_C R k) (an := An) (t := (.seq (.reg [7, 20] []) (.cond (.seq (.reg [6] []) .leaf) .leaf))) (ic := cblk_Block_sign_i0) (cblk_Block_sign_S R k) (cblk_Block_sign_J R k) (by kernel_rfl) (And.intro True.intro (And.intro (And.intro True.intro True.intro) True.intro)) (cblk_Block_sign_a0 R k k)
    (fun vals H K r h => by
      unfold cblk_Block_sign_a0 cblk_Block_sign_aa0 at h
      split at h <;> first | (cases h; done) | exact Eq.trans (cblk_Block_sign_e0 (cblk_Block_at k) (cblk_Block_sign_p0 k) k _ H K) h)
def cblk_Block_sign_ca {R : Type} (f : Option Addr → Int → Int → Heap → (Int → Option R) → Option R) (args : List Value) (H : Heap) (K : Value → Heap → Option R) : Option R :=
  match args with
  | [.pointer p271, .int .i64 n272, .int .i64 n273] => f p271 n272 n273 H (fun n1112 => K (.int .i64 n1112) H)
  | _ => none
def cblk_Block_sign_c (R : Type) (k : Nat) (args : List Value) (H : Heap) (K : Value → Heap → Option R) : Option R := cblk_Block_sign_ca (cblk_Block_sign k) args H K
theorem cblk_Block_sign_e {R : Type} (cblk_Block_at : Option Addr → Int → Int → Heap → (Option Addr → Option R) → Option R) (cblk_Block_sign_p0 : Option Addr → Heap → (Option Addr → Option R) → (Int → Option R) → Option R) (k : Nat) (p271 : Option Addr) (n272 : Int) (n273 : Int) (H : Heap) (K : Value → Heap → Option R) : evF (cblk_Block_sign_Ct cblk_Block_at) (cblk_Block_sign_Jt k cblk_Block_sign_p0) cblk_Block_sign_f [.pointer p271, .int .i64 n272, .int .i64 n273] H K = cblk_Block_sign_b cblk_Block_at cblk_Block_sign_p0 k p271 n272 n273 H (fun n1112 => K (.int .i64 n1112) H) := by kernel_rfl
theorem cblk_Block_sign_cs (R : Type) (k : Nat) : ∀ args H K r, cblk_Block_sign_c R k args H K = some r → ∃ v H', Tri Try.prog 49 args H v H' ∧ K v H' = some r := by
  intro args H K r h
  unfold cblk_Block_sign_c cblk_Block_sign_ca at h
  split at h
  · exact evF_ok (C := cblk_Block_sign_C R k) (an := An) (t := cblk_Block_sign_at) (fn := Try.f49) (c := (Try.f49.body.getD .skip)) (ifn := cblk_Block_sign_f) (cblk_Block_sign_S R k) (cblk_Block_sign_J R k) Try.func49 (by kernel_rfl) (by kernel_rfl) (And.intro True.intro (And.intro True.intro (And.intro (cblk_Block_sign_j0 k) (And.intro (And.intro True.intro (And.intro (And.intro True.intro True.intro) True.intro)) (And.intro True.intro True.intro))))) rfl (Eq.trans (cblk_Block_sign_e (cblk_Block_at k) (cblk_Block_sign_p0 k) k _ _ _ H K) h)
  · cases h
/-! ### cblk_joint: function 50 -/
def cblk_joint_b {R : Type} (k : Nat) (n282 : Int) (n283 : Int) (K : Int → Option R) : Option R :=
K (imn (imx (IntKind.wrap .i64 (n282 + n283)) (-1)) 1)

def cblk_joint {R : Type} (n282 : Int) (n283 : Int) (K : Int → Option R) : Option R := cblk_joint_b 0 n282 n283 K

def cblk_joint_Ct {R : Type} : Tab R := fun _ _ _ _ => none
def cblk_joint_C (R : Type) (k : Nat) : Tab R := cblk_joint_Ct
theorem cblk_joint_S (R : Type) (k : Nat) : CSound Try.prog (cblk_joint_C R k) := csound_nil
def cblk_joint_Jt {R : Type} (k : Nat) : JTab R := fun _ _ _ _ => none
def cblk_joint_J (R : Type) (k : Nat) : JTab R := cblk_joint_Jt k
def cblk_joint_at : AT := (.seq (.reg [0, 1] []) (.seq (.reg [4] []) .leaf))
def cblk_joint_f : IFn := ⟨10, [.t 4], (.seq (.reg [⟨some 4, .mov (.c (Go.Value.int Go.IntKind.i64 0)), none⟩] [0, 1]) (.seq (.reg [⟨some 5, .mov (.t 0), none⟩,
 ⟨some 6, .mov (.t 1), none⟩,
 ⟨some 7, .bin .add .i64 (.t 5) (.t 6), none⟩,
 ⟨some 8, .mx (.t 7) (.c (Go.Value.int Go.IntKind.i64 (-1))), none⟩,
 ⟨some 9, .mn (.t 8) (.c (Go.Value.int Go.IntKind.i64 1)), none⟩,
 ⟨some 4, .mov (.t 9), none⟩] [4]) .ret))⟩
def cblk_joint_ca {R : Type} (f : Int → Int → (Int → Option R) → Option R) (args : List Value) (H : Heap) (K : Value → Heap → Option R) : Option R :=
  match args with
  | [.int .i64 n282, .int .i64 n283] => f n282 n283 (fun n1113 => K (.int .i64 n1113) H)
  | _ => none
def cblk_joint_c (R : Type) (k : Nat) (args : List Value) (H : Heap) (K : Value → Heap → Option R) : Option R := cblk_joint_ca cblk_joint args H K
theorem cblk_joint_e {R : Type} (k : Nat) (n282 : Int) (n283 : Int) (H : Heap) (K : Value → Heap → Option R) : evF (cblk_joint_Ct) (cblk_joint_Jt k) cblk_joint_f [.int .i64 n282, .int .i64 n283] H K = cblk_joint_b k n282 n283 (fun n1113 => K (.int .i64 n1113) H) := by kernel_rfl
theorem cblk_joint_cs (R : Type) (k : Nat) : ∀ args H K r, cblk_joint_c R k args H K = some r → ∃ v H', Tri Try.prog 50 args H v H' ∧ K v H' = some r := by
  intro args H K r h
  unfold cblk_joint_c cblk_joint_ca at h
  split at h
  · exact evF_ok (C := cblk_joint_C R 0) (an := An) (t := cblk_joint_at) (fn := Try.f50) (c := (Try.f50.body.getD .skip)) (ifn := cblk_joint_f) (cblk_joint_S R 0) (cblk_joint_J R 0) Try.func50 (by kernel_rfl) (by kernel_rfl) (And.intro True.intro (And.intro True.intro True.intro)) rfl (Eq.trans (cblk_joint_e 0 _ _ H K) h)
  · cases h
/-! ### cblk_Block_Signs: function 30 -/
def cblk_Block_Signs_p1_b {R : Type} (k : Nat) (p256 : Option Addr) (n257 : Int) (n258 : Int) (t259 : Bool) (n260 : Int) (KN : Option Addr → Int → Int → Int → Bool → Option R) : Option R :=
bif (!t259) then (KN p256 n257 n258 n260 true)
 else (KN p256 n257 n258 n260 ((Int.tmod n258 4) != 3))
def cblk_Block_Signs_p1 {R : Type} (k : Nat) (p256 : Option Addr) (n257 : Int) (n258 : Int) (t259 : Bool) (n260 : Int) (KN : Option Addr → Int → Int → Int → Bool → Option R) : Option R := cblk_Block_Signs_p1_b k p256 n257 n258 t259 n260 KN

def cblk_Block_Signs_p0_b {R : Type} (cblk_Block_Signs_p1 : Option Addr → Int → Int → Bool → Int → (Option Addr → Int → Int → Int → Bool → Option R) → Option R) (cblk_Block_sign : Option Addr → Int → Int → Heap → (Int → Option R) → Option R) (k : Nat) (p251 : Option Addr) (n252 : Int) (n253 : Int) (t254 : Bool) (n255 : Int) (H : Heap) (KN : Option Addr → Int → Int → Int → Option R) : Option R :=
cblk_Block_Signs_p1 p251 n252 n253 t254 n255 (fun p266 n267 n268 n269 t270 =>
bif t270 then (cblk_Block_sign p266 n267 (IntKind.wrap .i64 (n268 + 1)) H fun n271 =>
KN p266 n267 n268 n271)
 else (KN p266 n267 n268 n269))
def cblk_Block_Signs_p0 {R : Type} (k : Nat) (p251 : Option Addr) (n252 : Int) (n253 : Int) (t254 : Bool) (n255 : Int) (H : Heap) (KN : Option Addr → Int → Int → Int → Option R) : Option R := cblk_Block_Signs_p0_b (cblk_Block_Signs_p1 k) (cblk_Block_sign k) k p251 n252 n253 t254 n255 H KN

def cblk_Block_Signs_b {R : Type} (cblk_Block_at : Option Addr → Int → Int → Heap → (Option Addr → Option R) → Option R) (cblk_Block_Signs_p0 : Option Addr → Int → Int → Bool → Int → Heap → (Option Addr → Int → Int → Int → Option R) → Option R) (cblk_Block_sign : Option Addr → Int → Int → Heap → (Int → Option R) → Option R) (cblk_joint : Int → Int → (Int → Option R) → Option R) (k : Nat) (p246 : Option Addr) (n247 : Int) (n248 : Int) (t249 : Bool) (H : Heap) (K : Int → Int → Option R) : Option R :=
cblk_Block_at p246 n247 n248 H fun p250 =>
bif p250.isNone then (K 0 0)
 else (cblk_Block_Signs_p0 p246 n247 n248 t249 0 H (fun p276 n277 n278 n279 =>
cblk_Block_sign p276 (IntKind.wrap .i64 (n277 - 1)) n278 H fun n280 =>
cblk_Block_sign p276 (IntKind.wrap .i64 (n277 + 1)) n278 H fun n281 =>
cblk_joint n280 n281 fun n282 =>
cblk_Block_sign p276 n277 (IntKind.wrap .i64 (n278 - 1)) H fun n283 =>
cblk_joint n283 n279 fun n284 =>
K n282 n284))

def cblk_Block_Signs {R : Type} (k : Nat) (p246 : Option Addr) (n247 : Int) (n248 : Int) (t249 : Bool) (H : Heap) (K : Int → Int → Option R) : Option R := cblk_Block_Signs_b (cblk_Block_at k) (cblk_Block_Signs_p0 k) (cblk_Block_sign k) cblk_joint k p246 n247 n248 t249 H K

def cblk_Block_Signs_Ct {R : Type} (cblk_Block_at : Option Addr → Int → Int → Heap → (Option Addr → Option R) → Option R) (cblk_Block_sign : Option Addr → Int → Int → Heap → (Int → Option R) → Option R) (cblk_joint : Int → Int → (Int → Option R) → Option R) : Tab R := tcons 46 (cblk_Block_at_ca cblk_Block_at) <| tcons 49 (cblk_Block_sign_ca cblk_Block_sign) <| tcons 50 (cblk_joint_ca cblk_joint) <| fun _ _ _ _ => none
def cblk_Block_Signs_C (R : Type) (k : Nat) : Tab R := cblk_Block_Signs_Ct (cblk_Block_at k) (cblk_Block_sign k) cblk_joint
theorem cblk_Block_Signs_S (R : Type) (k : Nat) : CSound Try.prog (cblk_Block_Signs_C R k) := csound_cons (cblk_Block_at_cs R k) <| csound_cons (cblk_Block_sign_cs R k) <| csound_cons (cblk_joint_cs R k) <| csound_nil
def cblk_Block_Signs_aa0 {R : Type} (f : Option Addr → Int → Int → Bool → Int → Heap → (Option Addr → Int → Int → Int → Option R) → Option R) (n : Nat) (vals : List Value) (H : Heap) (K : Xit → Env → Heap → Option R) : Option R :=
  match vals with
  | [.pointer p251, .int .i64 n252, .int .i64 n253, .bool t254, .int .i64 n255] => f p251 n252 n253 t254 n255 H (fun p1114 n1115 n1116 n1117 => K .normal [(0, .pointer p1114), (1, .int .i64 n1115), (2, .int .i64 n1116), (10, .int .i64 n1117)] H)
  | _ => none
def cblk_Block_Signs_a0 (R : Type) (k n : Nat) (vals : List Value) (H : Heap) (K : Xit → Env → Heap → Option R) : Option R := cblk_Block_Signs_aa0 (cblk_Block_Signs_p0 k) n vals H K
def cblk_Block_Signs_aa1 {R : Type} (f : Option Addr → Int → Int → Bool → Int → (Option Addr → Int → Int → Int → Bool → Option R) → Option R) (n : Nat) (vals : List Value) (H : Heap) (K : Xit → Env → Heap → Option R) : Option R :=
  match vals with
  | [.pointer p256, .int .i64 n257, .int .i64 n258, .bool t259, .int .i64 n260] => f p256 n257 n258 t259 n260 (fun p1118 n1119 n1120 n1121 t1122 => K .normal [(0, .pointer p1118), (1, .int .i64 n1119), (2, .int .i64 n1120), (10, .int .i64 n1121), (22, .bool t1122)] H)
  | _ => none
def cblk_Block_Signs_a1 (R : Type) (k n : Nat) (vals : List Value) (H : Heap) (K : Xit → Env → Heap → Option R) : Option R := cblk_Block_Signs_aa1 (cblk_Block_Signs_p1 k) n vals H K
def cblk_Block_Signs_Jt {R : Type} (k : Nat) (cblk_Block_Signs_p0 : Option Addr → Int → Int → Bool → Int → Heap → (Option Addr → Int → Int → Int → Option R) → Option R) (cblk_Block_Signs_p1 : Option Addr → Int → Int → Bool → Int → (Option Addr → Int → Int → Int → Bool → Option R) → Option R) : JTab R := tcons 0 (cblk_Block_Signs_aa0 cblk_Block_Signs_p0 k) <| tcons 1 (cblk_Block_Signs_aa1 cblk_Block_Signs_p1 k) <| fun _ _ _ _ => none
def cblk_Block_Signs_J (R : Type) (k : Nat) : JTab R := cblk_Block_Signs_Jt k (cblk_Block_Signs_p0 k) (cblk_Block_Signs_p1 k)
def cblk_Block_Signs_at : AT := (.seq (.reg [0, 1, 2, 3] []) (.seq (.seq (.reg [0, 1, 2, 3, 15] []) (.cond (.seq (.reg [8, 9] []) .leaf) .leaf)) (.seq (.reg [0, 1, 2, 3, 10] []) (.seq (.opq 0 [0, 1, 2, 3, 10] ⟨[0, 1, 2, 10], [], []⟩ (.seq (.opq 1 [0, 1, 2, 3, 10] ⟨[0, 1, 2, 10, 22], [], []⟩ (.reg [0, 1, 2, 10, 22] [])) (.cond (.reg [0, 1, 2, 10] []) .leaf))) (.seq (.reg [8, 9] []) .leaf)))))
def cblk_Block_Signs_i1 : IC := (.reg [⟨some 16, .mov (.t 3), none⟩,
 ⟨some 17, .lnot (.t 16), none⟩,
 ⟨some 18, .mov (.t 17), none⟩,
 ⟨some 19, .mov (.t 2), some (18, false)⟩,
 ⟨some 20, .bin .rem .i64 (.t 19) (.c (Go.Value.int Go.IntKind.i64 4)), some (18, false)⟩,
 ⟨some 21, .cmp .neq (.t 20) (.c (Go.Value.int Go.IntKind.i64 3)), some (18, false)⟩,
 ⟨some 22, .pick (.t 18) (.c (Go.Value.bool true)) (.t 21), none⟩] [0, 1, 2, 10, 22])
def cblk_Block_Signs_i0 : IC := (.seq (.opq 1 [0, 1, 2, 3, 10] cblk_Block_Signs_i1) (.cond (.t 22) (.reg [⟨some 23, .mov (.t 0), none⟩,
 ⟨some 24, .mov (.t 1), none⟩,
 ⟨some 25, .mov (.t 2), none⟩,
 ⟨some 26, .bin .add .i64 (.t 25) (.c (Go.Value.int Go.IntKind.i64 1)), none⟩,
 ⟨some 27, .call 49 [(.t 23), (.t 24), (.t 26)] (.one (.sc (.int .i64))), none⟩,
 ⟨some 10, .mov (.t 27), none⟩] [0, 1, 2, 10]) .skip))
def cblk_Block_Signs_f : IFn := ⟨46, [.t 8, .t 9], (.seq (.reg [⟨some 8, .mov (.c (Go.Value.int Go.IntKind.i64 0)), none⟩,
 ⟨some 9, .mov (.c (Go.Value.int Go.IntKind.i64 0)), none⟩] [0, 1, 2, 3]) (.seq (.seq (.reg [⟨some 11, .mov (.t 0), none⟩,
 ⟨some 12, .mov (.t 1), none⟩,
 ⟨some 13, .mov (.t 2), none⟩,
 ⟨some 14, .call 46 [(.t 11), (.t 12), (.t 13)] (.one (.sc .ptr)), none⟩,
 ⟨some 15, .eqnil (.t 14) false 0, none⟩] [0, 1, 2, 3, 15]) (.cond (.t 15) (.seq (.reg [⟨some 8, .mov (.c (Go.Value.int Go.IntKind.i64 0)), none⟩,
 ⟨some 9, .mov (.c (Go.Value.int Go.IntKind.i64 0)), none⟩] [8, 9]) .ret) .skip)) (.seq (.reg [⟨some 10, .mov (.c (Go.Value.int Go.IntKind.i64 0)), none⟩] [0, 1, 2, 3, 10]) (.seq (.opq 0 [0, 1, 2, 3, 10] cblk_Block_Signs_i0) (.seq (.reg [⟨some 28, .mov (.t 0), none⟩,
 ⟨some 29, .mov (.t 1), none⟩,
 ⟨some 30, .bin .sub .i64 (.t 29) (.c (Go.Value.int Go.IntKind.i64 1)), none⟩,
 ⟨some 31, .mov (.t 2), none⟩,
 ⟨some 32, .call 49 [(.t 28), (.t 30), (.t 31)] (.one (.sc (.int .i64))), none⟩,
 ⟨some 33, .mov (.t 0), none⟩,
 ⟨some 34, .mov (.t 1), none⟩,
 ⟨some 35, .bin .add .i64 (.t 34) (.c (Go.Value.int Go.IntKind.i64 1)), none⟩,
 ⟨some 36, .mov (.t 2), none⟩,
 ⟨some 37, .call 49 [(.t 33), (.t 35), (.t 36)] (.one (.sc (.int .i64))), none⟩,
 ⟨some 38, .call 50 [(.t 32), (.t 37)] (.one (.sc (.int .i64))), none⟩,
 ⟨some 39, .mov (.t 0), none⟩,
 ⟨some 40, .mov (.t 1), none⟩,
 ⟨some 41, .mov (.t 2), none⟩,
 ⟨some 42, .bin .sub .i64 (.t 41) (.c (Go.Value.int Go.IntKind.i64 1)), none⟩,
 ⟨some 43, .call 49 [(.t 39), (.t 40), (.t 42)] (.one (.sc (.int .i64))), none⟩,
 ⟨some 44, .mov (.t 10), none⟩,
 ⟨some 45, .call 50 [(.t 43), (.t 44)] (.one (.sc (.int .i64))), none⟩,
 ⟨some 8, .mov (.t 38), none⟩,
 ⟨some 9, .mov (.t 45), none⟩] [8, 9]) .ret)))))⟩
theorem cblk_Block_Signs_e1 {R : Type} (cblk_Block_at : Option Addr → Int → Int → Heap → (Option Addr → Option R) → Option R) (cblk_Block_sign : Option Addr → Int → Int → Heap → (Int → Option R) → Option R) (cblk_joint : Int → Int → (Int → Option R) → Option R) (cblk_Block_Signs_p0 : Option Addr → Int → Int → Bool → Int → Heap → (Option Addr → Int → Int → Int → Option R) → Option R) (cblk_Block_Signs_p1 : Option Addr → Int → Int → Bool → Int → (Option Addr → Int → Int → Int → Bool → Option R) → Option R) (k : Nat) (p256 : Option Addr) (n257 : Int) (n258 : Int) (t259 : Bool) (n260 : Int) (H : Heap) (K : Xit → Env → Heap → Option R) : evJ (cblk_Block_Signs_Ct cblk_Block_at cblk_Block_sign cblk_joint) (cblk_Block_Signs_Jt k cblk_Block_Signs_p0 cblk_Block_Signs_p1) cblk_Block_Signs_i1 (List.zip [0, 1, 2, 3, 10] [.pointer p256, .int .i64 n257, .int .i64 n258, .bool t259, .int .i64 n260]) H (fun x e' H' => K x (clean e' ((⟨[0, 1, 2, 10, 22], [], []⟩ : Out).of x)) H') = cblk_Block_Signs_p1_b k p256 n257 n258 t259 n260 (fun p1118 n1119 n1120 n1121 t1122 => K .normal [(0, .pointer p1118), (1, .int .i64 n1119), (2, .int .i64 n1120), (10, .int .i64 n1121), (22, .bool t1122)] H) := by kernel_rfl
theorem cblk_Block_Signs_j1 {R : Type} (k : Nat) : JS Try.prog 46 (cblk_Block_Signs_a1 R k k) [0, 1, 2, 3, 10] ⟨[0, 1, 2, 10, 22], [], []⟩ (sel [1, 1, 1, 0, 0] (Try.f30.body.getD .skip)) :=
  piece_ok (nt := 46) (c := (sel [1, 1, 1, 0, 0] (Try.f30.body.getD .skip))) (C := cblk_Block_Signs_C R k) (an := An) (t := (.reg [0, 1, 2, 10, 22] [])) (ic := cblk_Block_Signs_i1) (cblk_Block_Signs_S R k) (cblk_Block_Signs_J R k) (by kernel_rfl) True.intro (cblk_Block_Signs_a1 R k k)
    (fun vals H K r h => by
      unfold cblk_Block_Signs_a1 cblk_Block_Signs_aa1 at h
      split at h <;> first | (cases h; done) | exact Eq.trans (cblk_Block_Signs_e1 (cblk_Block_at k) (cblk_Block_sign k) cblk_joint (cblk_Block_Signs_p0 k) (cblk_Block_Signs_p1 k) k _ _ _ _ _ H K) h)
theorem cblk_Block_Signs_e0 {R : Type} (cblk_Block_at : Option Addr → Int → Int → Heap → (Option Addr → Option R) → Option R) (cblk_Block_sign : Option Addr → Int → Int → Heap → (Int → Option R) → Option R) (cblk_joint : Int → Int → (Int → Option R) → Option R) (cblk_Block_Signs_p0 : Option Addr → Int → Int → Bool → Int → Heap → (Option Addr → Int → Int → Int → Option R) → Option R) (cblk_Block_Signs_p1 : Option Addr → Int → Int → Bool → Int → (Option Addr → Int → Int → Int → Bool → Option R) → Option R) (k : Nat) (p251 : Option Addr) (n252 : Int) (n253 : Int) (t254 : Bool) (n255 : Int) (H : Heap) (K : Xit → Env → Heap → Option R) : evJ (cblk_Block_Signs_Ct cblk_Block_at cblk_Block_sign cblk_joint) (cblk_Block_Signs_Jt k cblk_Block_Signs_p0 cblk_Block_Signs_p1) cblk_Block_Signs_i0 (List.zip [0, 1, 2, 3, 10] [.pointer p251, .int .i64 n252, .int .i64 n253, .bool t254, .int .i64 n255]) H (fun x e' H' => K x (clean e' ((⟨[0, 1, 2, 10], [], []⟩ : Out).of x)) H') = cblk_Block_Signs_p0_b cblk_Block_Signs_p1 cblk_Block_sign k p251 n252 n253 t254 n255 H (fun p1114 n1115 n1116 n1117 => K .normal [(0, .pointer p1114), (1, .int .i64 n1115), (2, .int .i64 n1116), (10, .int .i64 n1117)] H) := by kernel_rfl
theorem cblk_Block_Signs_j0 {R : Type} (k : Nat) : JS Try.prog 46 (cblk_Block_Signs_a0 R k k) [0, 1, 2, 3, 10] ⟨[0, 1, 2, 10], [], []⟩ (sel [1, 1, 1, 0] (Try.f30.body.getD .skip)) :=
  piece_ok (nt := 46) (c := (sel [1, 1, 1, 0] (Try.f30.body.getD .skip))) (C := cblk_Block_Signs_C R k) (an := An) (t := (.seq (.opq 1 [0, 1, 2, 3, 10] ⟨[0, 1, 2, 10, 22], [], []⟩ (.reg [0, 1, 2, 10, 22] [])) (.cond (.reg [0, 1, 2, 10] []) .leaf))) (ic := cblk_Block_Signs_i0) (cblk_Block_Signs_S R k) (cblk_Block_Signs_J R k) (by kernel_rfl) (And.intro (cblk_Block_Signs_j1 k) (And.intro True.intro True.intro)) (cblk_Block_Signs_a0 R k k)
    (fun vals H K r h => by
      unfold cblk_Block_Signs_a0 cblk_Block_Signs_aa0 at h
      split at h <;> first | (cases h; done) | exact Eq.trans (cblk_Block_Signs_e0 (cblk_Block_at k) (cblk_Block_sign k) cblk_joint (cblk_Block_Signs_p0 k) (cblk_Block_Signs_p1 k) k _ _ _ _ _ H K) h)
def cblk_Block_Signs_ca {R : Type} (f : Option Addr → Int → Int → Bool → Heap → (Int → Int → Option R) → Option R) (args : List Value) (H : Heap) (K : Value → Heap → Option R) : Option R :=
  match args with
  | [.pointer p246, .int .i64 n247, .int .i64 n248, .bool t249] => f p246 n247 n248 t249 H (fun n1123 n1124 => K (.tuple ⟨[.int .i64 n1123, .int .i64 n1124]⟩) H)
  | _ => none
def cblk_Block_Signs_c (R : Type) (k : Nat) (args : List Value) (H : Heap) (K : Value → Heap → Option R) : Option R := cblk_Block_Signs_ca (cblk_Block_Signs k) args H K
theorem cblk_Block_Signs_e {R : Type} (cblk_Block_at : Option Addr → Int → Int → Heap → (Option Addr → Option R) → Option R) (cblk_Block_sign : Option Addr → Int → Int → Heap → (Int → Option R) → Option R) (cblk_joint : Int → Int → (Int → Option R) → Option R) (cblk_Block_Signs_p0 : Option Addr → Int → Int → Bool → Int → Heap → (Option Addr → Int → Int → Int → Option R) → Option R) (cblk_Block_Signs_p1 : Option Addr → Int → Int → Bool → Int → (Option Addr → Int → Int → Int → Bool → Option R) → Option R) (k : Nat) (p246 : Option Addr) (n247 : Int) (n248 : Int) (t249 : Bool) (H : Heap) (K : Value → Heap → Option R) : evF (cblk_Block_Signs_Ct cblk_Block_at cblk_Block_sign cblk_joint) (cblk_Block_Signs_Jt k cblk_Block_Signs_p0 cblk_Block_Signs_p1) cblk_Block_Signs_f [.pointer p246, .int .i64 n247, .int .i64 n248, .bool t249] H K = cblk_Block_Signs_b cblk_Block_at cblk_Block_Signs_p0 cblk_Block_sign cblk_joint k p246 n247 n248 t249 H (fun n1123 n1124 => K (.tuple ⟨[.int .i64 n1123, .int .i64 n1124]⟩) H) := by kernel_rfl
theorem cblk_Block_Signs_cs (R : Type) (k : Nat) : ∀ args H K r, cblk_Block_Signs_c R k args H K = some r → ∃ v H', Tri Try.prog 30 args H v H' ∧ K v H' = some r := by
  intro args H K r h
  unfold cblk_Block_Signs_c cblk_Block_Signs_ca at h
  split at h
  · exact evF_ok (C := cblk_Block_Signs_C R k) (an := An) (t := cblk_Block_Signs_at) (fn := Try.f30) (c := (Try.f30.body.getD .skip)) (ifn := cblk_Block_Signs_f) (cblk_Block_Signs_S R k) (cblk_Block_Signs_J R k) Try.func30 (by kernel_rfl) (by kernel_rfl) (And.intro True.intro (And.intro (And.intro True.intro (And.intro (And.intro True.intro True.intro) True.intro)) (And.intro True.intro (And.intro (cblk_Block_Signs_j0 k) (And.intro True.intro True.intro))))) rfl (Eq.trans (cblk_Block_Signs_e (cblk_Block_at k) (cblk_Block_sign k) cblk_joint (cblk_Block_Signs_p0 k) (cblk_Block_Signs_p1 k) k _ _ _ _ H K) h)
  · cases h
/-! ### cblk_Pass: function 15 -/
def cblk_Pass_b {R : Type} (k : Nat) (n310 : Int) (K : Int → Int → Option R) : Option R :=
bif decide (n310 < 0) then (K (-1) (-1))
 else (bif (n310 == 0) then (K 0 2)
 else (K (IntKind.wrap .i64 ((IntKind.wrap .i64 (Int.tdiv (IntKind.wrap .i64 (n310 - 1)) 3)) + 1)) (Int.tmod (IntKind.wrap .i64 (n310 - 1)) 3)))

def cblk_Pass {R : Type} (n310 : Int) (K : Int → Int → Option R) : Option R := cblk_Pass_b 0 n310 K

def cblk_Pass_Ct {R : Type} : Tab R := fun _ _ _ _ => none
def cblk_Pass_C (R : Type) (k : Nat) : Tab R := cblk_Pass_Ct
theorem cblk_Pass_S (R : Type) (k : Nat) : CSound Try.prog (cblk_Pass_C R k) := csound_nil
def cblk_Pass_Jt {R : Type} (k : Nat) : JTab R := fun _ _ _ _ => none
def cblk_Pass_J (R : Type) (k : Nat) : JTab R := cblk_Pass_Jt k
def cblk_Pass_at : AT := (.seq (.reg [0] []) (.seq (.seq (.reg [0, 5] []) (.cond (.seq (.reg [2, 3] []) .leaf) .leaf)) (.seq (.seq (.reg [0, 7] []) (.cond (.seq (.reg [2, 3] []) .leaf) .leaf)) (.seq (.reg [2, 3] []) .leaf))))
def cblk_Pass_f : IFn := ⟨15, [.t 2, .t 3], (.seq (.reg [⟨some 2, .mov (.c (Go.Value.int Go.IntKind.i64 0)), none⟩,
 ⟨some 3, .mov (.c (Go.Value.int Go.IntKind.i64 0)), none⟩] [0]) (.seq (.seq (.reg [⟨some 4, .mov (.t 0), none⟩,
 ⟨some 5, .cmp .lss (.t 4) (.c (Go.Value.int Go.IntKind.i64 0)), none⟩] [0, 5]) (.cond (.t 5) (.seq (.reg [⟨some 2, .mov (.c (Go.Value.int Go.IntKind.i64 (-1))), none⟩,
 ⟨some 3, .mov (.c (Go.Value.int Go.IntKind.i64 (-1))), none⟩] [2, 3]) .ret) .skip)) (.seq (.seq (.reg [⟨some 6, .mov (.t 0), none⟩,
 ⟨some 7, .cmp .eql (.t 6) (.c (Go.Value.int Go.IntKind.i64 0)), none⟩] [0, 7]) (.cond (.t 7) (.seq (.reg [⟨some 2, .mov (.c (Go.Value.int Go.IntKind.i64 0)), none⟩,
 ⟨some 3, .mov (.c (Go.Value.int Go.IntKind.i64 2)), none⟩] [2, 3]) .ret) .skip)) (.seq (.reg [⟨some 8, .mov (.t 0), none⟩,
 ⟨some 9, .bin .sub .i64 (.t 8) (.c (Go.Value.int Go.IntKind.i64 1)), none⟩,
 ⟨some 10, .bin .quo .i64 (.t 9) (.c (Go.Value.int Go.IntKind.i64 3)), none⟩,
 ⟨some 11, .bin .add .i64 (.t 10) (.c (Go.Value.int Go.IntKind.i64 1)), none⟩,
 ⟨some 12, .mov (.t 0), none⟩,
 ⟨some 13, .bin .sub .i64 (.t 12) (.c (Go.Value.int Go.IntKind.i64 1)), none⟩,
 ⟨some 14, .bin .rem .i64 (.t 13) (.c (Go.Value.int Go.IntKind.i64 3)), none⟩,
 ⟨some 2, .mov (.t 11), none⟩,
 ⟨some 3, .mov (.t 14), none⟩] [2, 3]) .ret))))⟩
def cblk_Pass_ca {R : Type} (f : Int → (Int → Int → Option R) → Option R) (args : List Value) (H : Heap) (K : Value → Heap → Option R) : Option R :=
  match args with
  | [.int .i64 n310] => f n310 (fun n1125 n1126 => K (.tuple ⟨[.int .i64 n1125, .int .i64 n1126]⟩) H)
  | _ => none
def cblk_Pass_c (R : Type) (k : Nat) (args : List Value) (H : Heap) (K : Value → Heap → Option R) : Option R := cblk_Pass_ca cblk_Pass args H K
theorem cblk_Pass_e {R : Type} (k : Nat) (n310 : Int) (H : Heap) (K : Value → Heap → Option R) : evF (cblk_Pass_Ct) (cblk_Pass_Jt k) cblk_Pass_f [.int .i64 n310] H K = cblk_Pass_b k n310 (fun n1125 n1126 => K (.tuple ⟨[.int .i64 n1125, .int .i64 n1126]⟩) H) := by kernel_rfl
theorem cblk_Pass_cs (R : Type) (k : Nat) : ∀ args H K r, cblk_Pass_c R k args H K = some r → ∃ v H', Tri Try.prog 15 args H v H' ∧ K v H' = some r := by
  intro args H K r h
  unfold cblk_Pass_c cblk_Pass_ca at h
  split at h
  · exact evF_ok (C := cblk_Pass_C R 0) (an := An) (t := cblk_Pass_at) (fn := Try.f15) (c := (Try.f15.body.getD .skip)) (ifn := cblk_Pass_f) (cblk_Pass_S R 0) (cblk_Pass_J R 0) Try.func15 (by kernel_rfl) (by kernel_rfl) (And.intro True.intro (And.intro (And.intro True.intro (And.intro (And.intro True.intro True.intro) True.intro)) (And.intro (And.intro True.intro (And.intro (And.intro True.intro True.intro) True.intro)) (And.intro True.intro True.intro)))) rfl (Eq.trans (cblk_Pass_e 0 _ H K) h)
  · cases h
/-! ### cblk_Raw: function 17 -/
def cblk_Raw_p0_b {R : Type} (k : Nat) (p337 : Option Addr) (n338 : Int) (t339 : Bool) (n340 : Int) (KE0 : Bool → Option R) (KN : Option Addr → Int → Option R) : Option R :=
bif (n340 == 0) then (KN p337 n338)
 else (bif (n340 == 1) then (KN p337 n338)
 else (KE0 t339))
def cblk_Raw_p0 {R : Type} (k : Nat) (p337 : Option Addr) (n338 : Int) (t339 : Bool) (n340 : Int) (KE0 : Bool → Option R) (KN : Option Addr → Int → Option R) : Option R := cblk_Raw_p0_b k p337 n338 t339 n340 KE0 KN

def cblk_Raw_b {R : Type} (cblk_Pass : Int → (Int → Int → Option R) → Option R) (cblk_Raw_p0 : Option Addr → Int → Bool → Int → (Bool → Option R) → (Option Addr → Int → Option R) → Option R) (k : Nat) (n327 : Int) (t328 : Bool) (t329 : Bool) (t330 : Bool) (t331 : Bool) (t332 : Bool) (H : Heap) (K : Bool → Heap → Option R) : Option R :=
hal H [.bool t328, .bool t329, .bool t330, .bool t331, .bool t332] fun p333 H334 =>
cblk_Pass n327 fun n335 n336 =>
cblk_Raw_p0 p333 n335 false n336 (fun t344 =>
K t344 H334) (fun p345 n346 =>
hfad 0 p345 fun p347 =>
ldB H334 p347 fun t348 =>
bif t348 then (K (decide (n346 ≥ 4)) H334)
 else (K false H334))

def cblk_Raw {R : Type} (k : Nat) (n327 : Int) (t328 : Bool) (t329 : Bool) (t330 : Bool) (t331 : Bool) (t332 : Bool) (H : Heap) (K : Bool → Heap → Option R) : Option R := cblk_Raw_b cblk_Pass (cblk_Raw_p0 k) k n327 t328 t329 t330 t331 t332 H K

def cblk_Raw_Ct {R : Type} (cblk_Pass : Int → (Int → Int → Option R) → Option R) : Tab R := tcons 15 (cblk_Pass_ca cblk_Pass) <| fun _ _ _ _ => none
def cblk_Raw_C (R : Type) (k : Nat) : Tab R := cblk_Raw_Ct cblk_Pass
theorem cblk_Raw_S (R : Type) (k : Nat) : CSound Try.prog (cblk_Raw_C R k) := csound_cons (cblk_Pass_cs R k) <| csound_nil
def cblk_Raw_aa0 {R : Type} (f : Option Addr → Int → Bool → Int → (Bool → Option R) → (Option Addr → Int → Option R) → Option R) (n : Nat) (vals : List Value) (H : Heap) (K : Xit → Env → Heap → Option R) : Option R :=
  match vals with
  | [.pointer p337, .int .i64 n338, .bool t339, .int .i64 n340] => f p337 n338 t339 n340 (fun t1127 => K (.exit 0) [(7, .bool t1127)] H) (fun p1128 n1129 => K .normal [(3, .pointer p1128), (5, .int .i64 n1129)] H)
  | _ => none
def cblk_Raw_a0 (R : Type) (k n : Nat) (vals : List Value) (H : Heap) (K : Xit → Env → Heap → Option R) : Option R := cblk_Raw_aa0 (cblk_Raw_p0 k) n vals H K
def cblk_Raw_Jt {R : Type} (k : Nat) (cblk_Raw_p0 : Option Addr → Int → Bool → Int → (Bool → Option R) → (Option Addr → Int → Option R) → Option R) : JTab R := tcons 0 (cblk_Raw_aa0 cblk_Raw_p0 k) <| fun _ _ _ _ => none
def cblk_Raw_J (R : Type) (k : Nat) : JTab R := cblk_Raw_Jt k (cblk_Raw_p0 k)
def cblk_Raw_at : AT := (.seq (.reg [0, 3] []) (.seq (.reg [3, 5, 6] []) (.seq (.reg [3, 5, 6, 7] []) (.seq (.seq (.reg [3, 5, 7, 13] []) (.node (.seq (.opq 0 [3, 5, 7, 13] ⟨[3, 5], [(0, [7])], []⟩ (.node (.node (.seq (.seq (.seq (.reg [3, 5, 7, 13, 14] []) (.cond .leaf .leaf)) (.seq (.reg [3, 5, 7, 16] []) (.cond .leaf .leaf))) .leaf)))) (.seq (.reg [7] []) .leaf)))) (.seq (.reg [4] []) .leaf)))))
def cblk_Raw_i0 : IC := (.block 2 (.block 1 (.seq (.seq (.seq (.reg [⟨some 15, .cmp .eql (.t 13) (.c (Go.Value.int Go.IntKind.i64 0)), none⟩,
 ⟨some 14, .mov (.t 15), none⟩] [3, 5, 7, 13, 14]) (.cond (.t 14) (.exit 1) .skip)) (.seq (.reg [⟨some 17, .cmp .eql (.t 13) (.c (Go.Value.int Go.IntKind.i64 1)), none⟩,
 ⟨some 16, .mov (.t 17), none⟩] [3, 5, 7, 16]) (.cond (.t 16) (.exit 2) .skip))) (.exit 0))))
def cblk_Raw_f : IFn := ⟨25, [.t 4], (.seq (.reg [⟨some 3, .box (.t 1), none⟩,
 ⟨some 4, .mov (.c (Go.Value.bool false)), none⟩] [0, 3]) (.seq (.reg [⟨some 9, .mov (.t 0), none⟩,
 ⟨some 10, .call 15 [(.t 9)] (.tup [(.sc (.int .i64)), (.sc (.int .i64))]), none⟩,
 ⟨some 8, .mov (.t 10), none⟩,
 ⟨some 11, .ext 0 (.t 8), none⟩,
 ⟨some 12, .ext 1 (.t 8), none⟩,
 ⟨some 5, .mov (.t 11), none⟩,
 ⟨some 6, .mov (.t 12), none⟩] [3, 5, 6]) (.seq (.reg [⟨some 7, .mov (.c (Go.Value.bool false)), none⟩] [3, 5, 6, 7]) (.seq (.seq (.reg [⟨some 13, .mov (.t 6), none⟩] [3, 5, 7, 13]) (.block 0 (.seq (.opq 0 [3, 5, 7, 13] cblk_Raw_i0) (.seq (.reg [⟨some 18, .fad 0 (.t 3), none⟩,
 ⟨some 19, .ld (.sc .bool) (.t 18), none⟩,
 ⟨some 20, .mov (.t 19), none⟩,
 ⟨some 21, .mov (.t 5), some (20, true)⟩,
 ⟨some 22, .cmp .geq (.t 21) (.c (Go.Value.int Go.IntKind.i64 4)), some (20, true)⟩,
 ⟨some 23, .pick (.t 20) (.t 22) (.c (Go.Value.bool false)), none⟩,
 ⟨some 7, .mov (.t 23), none⟩] [7]) (.exit 0))))) (.seq (.reg [⟨some 24, .mov (.t 7), none⟩,
 ⟨some 4, .mov (.t 24), none⟩] [4]) .ret)))))⟩
theorem cblk_Raw_e0 {R : Type} (cblk_Pass : Int → (Int → Int → Option R) → Option R) (cblk_Raw_p0 : Option Addr → Int → Bool → Int → (Bool → Option R) → (Option Addr → Int → Option R) → Option R) (k : Nat) (p337 : Option Addr) (n338 : Int) (t339 : Bool) (n340 : Int) (H : Heap) (K : Xit → Env → Heap → Option R) : evJ (cblk_Raw_Ct cblk_Pass) (cblk_Raw_Jt k cblk_Raw_p0) cblk_Raw_i0 (List.zip [3, 5, 7, 13] [.pointer p337, .int .i64 n338, .bool t339, .int .i64 n340]) H (fun x e' H' => K x (clean e' ((⟨[3, 5], [(0, [7])], []⟩ : Out).of x)) H') = cblk_Raw_p0_b k p337 n338 t339 n340 (fun t1127 => K (.exit 0) [(7, .bool t1127)] H) (fun p1128 n1129 => K .normal [(3, .pointer p1128), (5, .int .i64 n1129)] H) := by kernel_rfl
theorem cblk_Raw_j0 {R : Type} (k : Nat) : JS Try.prog 25 (cblk_Raw_a0 R k k) [3, 5, 7, 13] ⟨[3, 5], [(0, [7])], []⟩ (sel [1, 1, 1, 0, 1, 0, 0] (Try.f17.body.getD .skip)) :=
  piece_ok (nt := 25) (c := (sel [1, 1, 1, 0, 1, 0, 0] (Try.f17.body.getD .skip))) (C := cblk_Raw_C R k) (an := An) (t := (.node (.node (.seq (.seq (.seq (.reg [3, 5, 7, 13, 14] []) (.cond .leaf .leaf)) (.seq (.reg [3, 5, 7, 16] []) (.cond .leaf .leaf))) .leaf)))) (ic := cblk_Raw_i0) (cblk_Raw_S R k) (cblk_Raw_J R k) (by kernel_rfl) (And.intro (And.intro (And.intro True.intro (And.intro True.intro True.intro)) (And.intro True.intro (And.intro True.intro True.intro))) True.intro) (cblk_Raw_a0 R k k)
    (fun vals H K r h => by
      unfold cblk_Raw_a0 cblk_Raw_aa0 at h
      split at h <;> first | (cases h; done) | exact Eq.trans (cblk_Raw_e0 cblk_Pass (cblk_Raw_p0 k) k _ _ _ _ H K) h)
def cblk_Raw_ca {R : Type} (f : Int → Bool → Bool → Bool → Bool → Bool → Heap → (Bool → Heap → Option R) → Option R) (args : List Value) (H : Heap) (K : Value → Heap → Option R) : Option R :=
  match args with
  | [.int .i64 n327, .agg ⟨[.bool t328, .bool t329, .bool t330, .bool t331, .bool t332]⟩] => f n327 t328 t329 t330 t331 t332 H (fun t1130 H => K (.bool t1130) H)
  | _ => none
def cblk_Raw_c (R : Type) (k : Nat) (args : List Value) (H : Heap) (K : Value → Heap → Option R) : Option R := cblk_Raw_ca (cblk_Raw k) args H K
theorem cblk_Raw_e {R : Type} (cblk_Pass : Int → (Int → Int → Option R) → Option R) (cblk_Raw_p0 : Option Addr → Int → Bool → Int → (Bool → Option R) → (Option Addr → Int → Option R) → Option R) (k : Nat) (n327 : Int) (t328 : Bool) (t329 : Bool) (t330 : Bool) (t331 : Bool) (t332 : Bool) (H : Heap) (K : Value → Heap → Option R) : evF (cblk_Raw_Ct cblk_Pass) (cblk_Raw_Jt k cblk_Raw_p0) cblk_Raw_f [.int .i64 n327, .agg ⟨[.bool t328, .bool t329, .bool t330, .bool t331, .bool t332]⟩] H K = cblk_Raw_b cblk_Pass cblk_Raw_p0 k n327 t328 t329 t330 t331 t332 H (fun t1130 H => K (.bool t1130) H) := by kernel_rfl
theorem cblk_Raw_cs (R : Type) (k : Nat) : ∀ args H K r, cblk_Raw_c R k args H K = some r → ∃ v H', Tri Try.prog 17 args H v H' ∧ K v H' = some r := by
  intro args H K r h
  unfold cblk_Raw_c cblk_Raw_ca at h
  split at h
  · exact evF_ok (C := cblk_Raw_C R k) (an := An) (t := cblk_Raw_at) (fn := Try.f17) (c := (Try.f17.body.getD .skip)) (ifn := cblk_Raw_f) (cblk_Raw_S R k) (cblk_Raw_J R k) Try.func17 (by kernel_rfl) (by kernel_rfl) (And.intro True.intro (And.intro True.intro (And.intro True.intro (And.intro (And.intro True.intro (And.intro (cblk_Raw_j0 k) (And.intro True.intro True.intro))) (And.intro True.intro True.intro))))) rfl (Eq.trans (cblk_Raw_e cblk_Pass (cblk_Raw_p0 k) k _ _ _ _ _ _ H K) h)
  · cases h
/-! ### cblk_Segments: function 20 -/
def cblk_Segments_p0_b {R : Type} (k : Nat) (n372 : Int) (p373 : Option Addr) (KN : Int → Option Addr → Option R) (KR : Option Addr → Nat → Nat → Option R) : Option R :=
bif decide (n372 < 1) then (KR none 0 0)
 else (bif decide (n372 > 178) then (KR none 0 0)
 else (KN n372 p373))
def cblk_Segments_p0 {R : Type} (k : Nat) (n372 : Int) (p373 : Option Addr) (KN : Int → Option Addr → Option R) (KR : Option Addr → Nat → Nat → Option R) : Option R := cblk_Segments_p0_b k n372 p373 KN KR

def cblk_Segments_p1_b {R : Type} (k : Nat) (n381 : Int) (p382 : Option Addr) (q383 : Option Addr) (l384 : Nat) (c385 : Nat) (n386 : Int) (H : Heap) (KN : Int → Option Addr → Option Addr → Nat → Nat → Int → Option R) : Option R :=
hfad 0 p382 fun p387 =>
ldB H p387 fun t388 =>
bif t388 then (KN n381 p382 q383 l384 c385 10)
 else (KN n381 p382 q383 l384 c385 n386)
def cblk_Segments_p1 {R : Type} (k : Nat) (n381 : Int) (p382 : Option Addr) (q383 : Option Addr) (l384 : Nat) (c385 : Nat) (n386 : Int) (H : Heap) (KN : Int → Option Addr → Option Addr → Nat → Nat → Int → Option R) : Option R := cblk_Segments_p1_b k n381 p382 q383 l384 c385 n386 H KN

def cblk_Segments_p2_b {R : Type} (k : Nat) (n401 : Int) (p402 : Option Addr) (q403 : Option Addr) (l404 : Nat) (c405 : Nat) (n406 : Int) (H : Heap) (KN : Int → Option Addr → Option Addr → Nat → Nat → Int → Option R) : Option R :=
hfad 1 p402 fun p407 =>
ldB H p407 fun t408 =>
bif t408 then (KN n401 p402 q403 l404 c405 1)
 else (KN n401 p402 q403 l404 c405 n406)
def cblk_Segments_p2 {R : Type} (k : Nat) (n401 : Int) (p402 : Option Addr) (q403 : Option Addr) (l404 : Nat) (c405 : Nat) (n406 : Int) (H : Heap) (KN : Int → Option Addr → Option Addr → Nat → Nat → Int → Option R) : Option R := cblk_Segments_p2_b k n401 p402 q403 l404 c405 n406 H KN

def cblk_Segments_p4_b {R : Type} (k : Nat) (p433 : Option Addr) (q434 : Option Addr) (l435 : Nat) (c436 : Nat) (n437 : Int) (n438 : Int) (H : Heap) (KN : Option Addr → Option Addr → Nat → Nat → Int → Int → Bool → Option R) : Option R :=
hfad 0 p433 fun p439 =>
ldB H p439 fun t440 =>
bif t440 then (hfad 1 p433 fun p441 =>
ldB H p441 fun t442 =>
KN p433 q434 l435 c436 n437 n438 (!t442))
 else (KN p433 q434 l435 c436 n437 n438 false)
def cblk_Segments_p4 {R : Type} (k : Nat) (p433 : Option Addr) (q434 : Option Addr) (l435 : Nat) (c436 : Nat) (n437 : Int) (n438 : Int) (H : Heap) (KN : Option Addr → Option Addr → Nat → Nat → Int → Int → Bool → Option R) : Option R := cblk_Segments_p4_b k p433 q434 l435 c436 n437 n438 H KN

def cblk_Segments_l3_b {R : Type} (cblk_Segments_p4 : Option Addr → Option Addr → Nat → Nat → Int → Int → Heap → (Option Addr → Option Addr → Nat → Nat → Int → Int → Bool → Option R) → Option R) (rec : Option Addr → Option Addr → Nat → Nat → Int → Int → Heap → Option R) (KE0 : Option Addr → Nat → Nat → Heap → Option R) (k : Nat) (p421 : Option Addr) (q422 : Option Addr) (l423 : Nat) (c424 : Nat) (n425 : Int) (n426 : Int) (H : Heap) : Option R :=
bif decide (n426 > 0) then (hal H [.int .i64 (imn n425 n426)] fun p427 H428 =>
happS 1 8 H428 q422 l423 c424 p427 1 fun q429 l430 c431 H432 =>
cblk_Segments_p4 p421 q429 l430 c431 n425 (IntKind.wrap .i64 (n426 - (imn n425 n426))) H432 (fun p450 q451 l452 c453 n454 n455 t456 =>
bif t456 then (bif (n454 == 2) then (rec p450 q451 l452 c453 1 n455 H432)
 else (rec p450 q451 l452 c453 2 n455 H432))
 else (rec p450 q451 l452 c453 n454 n455 H432)))
 else (KE0 q422 l423 c424 H)
def cblk_Segments_l3 {R : Type} (k : Nat) (KE0 : Option Addr → Nat → Nat → Heap → Option R) : Nat → Option Addr → Option Addr → Nat → Nat → Int → Int → Heap → Option R
  | 0, _, _, _, _, _, _, _ => none
  | n + 1, p421, q422, l423, c424, n425, n426, H => cblk_Segments_l3_b (cblk_Segments_p4 k) (cblk_Segments_l3 k KE0 n) KE0 k p421 q422 l423 c424 n425 n426 H

def cblk_Segments_b {R : Type} (cblk_Segments_p0 : Int → Option Addr → (Int → Option Addr → Option R) → (Option Addr → Nat → Nat → Option R) → Option R) (cblk_Segments_p1 : Int → Option Addr → Option Addr → Nat → Nat → Int → Heap → (Int → Option Addr → Option Addr → Nat → Nat → Int → Option R) → Option R) (cblk_Segments_p2 : Int → Option Addr → Option Addr → Nat → Nat → Int → Heap → (Int → Option Addr → Option Addr → Nat → Nat → Int → Option R) → Option R) (cblk_Segments_l3 : (Option Addr → Nat → Nat → Heap → Option R) → Nat → Option Addr → Option Addr → Nat → Nat → Int → Int → Heap → Option R) (k : Nat) (n364 : Int) (t365 : Bool) (t366 : Bool) (t367 : Bool) (t368 : Bool) (t369 : Bool) (H : Heap) (K : Option Addr → Nat → Nat → Heap → Option R) : Option R :=
hal H [.bool t365, .bool t366, .bool t367, .bool t368, .bool t369] fun p370 H371 =>
cblk_Segments_p0 n364 p370 (fun n379 p380 =>
cblk_Segments_p1 n379 p380 none 0 0 n379 H371 (fun n395 p396 q397 l398 c399 n400 =>
cblk_Segments_p2 n395 p396 q397 l398 c399 n400 H371 (fun n415 p416 q417 l418 c419 n420 =>
cblk_Segments_l3 (fun q460 l461 c462 H463 =>
K q460 l461 c462 H463) k p416 q417 l418 c419 n420 n415 H371))) (fun q464 l465 c466 =>
K q464 l465 c466 H371)

def cblk_Segments {R : Type} (k : Nat) (n364 : Int) (t365 : Bool) (t366 : Bool) (t367 : Bool) (t368 : Bool) (t369 : Bool) (H : Heap) (K : Option Addr → Nat → Nat → Heap → Option R) : Option R := cblk_Segments_b (cblk_Segments_p0 k) (cblk_Segments_p1 k) (cblk_Segments_p2 k) (cblk_Segments_l3 k) k n364 t365 t366 t367 t368 t369 H K

def cblk_Segments_Ct {R : Type} : Tab R := fun _ _ _ _ => none
def cblk_Segments_C (R : Type) (k : Nat) : Tab R := cblk_Segments_Ct
theorem cblk_Segments_S (R : Type) (k : Nat) : CSound Try.prog (cblk_Segments_C R k) := csound_nil
def cblk_Segments_aa0 {R : Type} (f : Int → Option Addr → (Int → Option Addr → Option R) → (Option Addr → Nat → Nat → Option R) → Option R) (n : Nat) (vals : List Value) (H : Heap) (K : Xit → Env → Heap → Option R) : Option R :=
  match vals with
  | [.int .i64 n372, .pointer p373] => f n372 p373 (fun n1131 p1132 => K .normal [(0, .int .i64 n1131), (3, .pointer p1132)] H) (fun q1133 l1134 c1135 => K .ret [(4, .slice q1133 l1134 c1135)] H)
  | _ => none
def cblk_Segments_a0 (R : Type) (k n : Nat) (vals : List Value) (H : Heap) (K : Xit → Env → Heap → Option R) : Option R := cblk_Segments_aa0 (cblk_Segments_p0 k) n vals H K
def cblk_Segments_aa1 {R : Type} (f : Int → Option Addr → Option Addr → Nat → Nat → Int → Heap → (Int → Option Addr → Option Addr → Nat → Nat → Int → Option R) → Option R) (n : Nat) (vals : List Value) (H : Heap) (K : Xit → Env → Heap → Option R) : Option R :=
  match vals with
  | [.int .i64 n381, .pointer p382, .slice q383 l384 c385, .int .i64 n386] => f n381 p382 q383 l384 c385 n386 H (fun n1136 p1137 q1138 l1139 c1140 n1141 => K .normal [(0, .int .i64 n1136), (3, .pointer p1137), (5, .slice q1138 l1139 c1140), (6, .int .i64 n1141)] H)
  | _ => none
def cblk_Segments_a1 (R : Type) (k n : Nat) (vals : List Value) (H : Heap) (K : Xit → Env → Heap → Option R) : Option R := cblk_Segments_aa1 (cblk_Segments_p1 k) n vals H K
def cblk_Segments_aa2 {R : Type} (f : Int → Option Addr → Option Addr → Nat → Nat → Int → Heap → (Int → Option Addr → Option Addr → Nat → Nat → Int → Option R) → Option R) (n : Nat) (vals : List Value) (H : Heap) (K : Xit → Env → Heap → Option R) : Option R :=
  match vals with
  | [.int .i64 n401, .pointer p402, .slice q403 l404 c405, .int .i64 n406] => f n401 p402 q403 l404 c405 n406 H (fun n1142 p1143 q1144 l1145 c1146 n1147 => K .normal [(0, .int .i64 n1142), (3, .pointer p1143), (5, .slice q1144 l1145 c1146), (6, .int .i64 n1147)] H)
  | _ => none
def cblk_Segments_a2 (R : Type) (k n : Nat) (vals : List Value) (H : Heap) (K : Xit → Env → Heap → Option R) : Option R := cblk_Segments_aa2 (cblk_Segments_p2 k) n vals H K
def cblk_Segments_aa3 {R : Type} (f : (Option Addr → Nat → Nat → Heap → Option R) → Nat → Option Addr → Option Addr → Nat → Nat → Int → Int → Heap → Option R) (n : Nat) (vals : List Value) (H : Heap) (K : Xit → Env → Heap → Option R) : Option R :=
  match vals with
  | [.pointer p421, .slice q422 l423 c424, .int .i64 n425, .int .i64 n426] => f (fun q1148 l1149 c1150 H => K (.exit 0) [(5, .slice q1148 l1149 c1150)] H) n p421 q422 l423 c424 n425 n426 H
  | _ => none
def cblk_Segments_a3 (R : Type) (k n : Nat) (vals : List Value) (H : Heap) (K : Xit → Env → Heap → Option R) : Option R := cblk_Segments_aa3 (cblk_Segments_l3 k) n vals H K
def cblk_Segments_aa4 {R : Type} (f : Option Addr → Option Addr → Nat → Nat → Int → Int → Heap → (Option Addr → Option Addr → Nat → Nat → Int → Int → Bool → Option R) → Option R) (n : Nat) (vals : List Value) (H : Heap) (K : Xit → Env → Heap → Option R) : Option R :=
  match vals with
  | [.pointer p433, .slice q434 l435 c436, .int .i64 n437, .int .i64 n438] => f p433 q434 l435 c436 n437 n438 H (fun p1151 q1152 l1153 c1154 n1155 n1156 t1157 => K .normal [(3, .pointer p1151), (5, .slice q1152 l1153 c1154), (6, .int .i64 n1155), (7, .int .i64 n1156), (39, .bool t1157)] H)
  | _ => none
def cblk_Segments_a4 (R : Type) (k n : Nat) (vals : List Value) (H : Heap) (K : Xit → Env → Heap → Option R) : Option R := cblk_Segments_aa4 (cblk_Segments_p4 k) n vals H K
def cblk_Segments_Jt {R : Type} (k : Nat) (cblk_Segments_p0 : Int → Option Addr → (Int → Option Addr → Option R) → (Option Addr → Nat → Nat → Option R) → Option R) (cblk_Segments_p1 : Int → Option Addr → Option Addr → Nat → Nat → Int → Heap → (Int → Option Addr → Option Addr → Nat → Nat → Int → Option R) → Option R) (cblk_Segments_p2 : Int → Option Addr → Option Addr → Nat → Nat → Int → Heap → (Int → Option Addr → Option Addr → Nat → Nat → Int → Option R) → Option R) (cblk_Segments_l3 : (Option Addr → Nat → Nat → Heap → Option R) → Nat → Option Addr → Option Addr → Nat → Nat → Int → Int → Heap → Option R) (cblk_Segments_p4 : Option Addr → Option Addr → Nat → Nat → Int → Int → Heap → (Option Addr → Option Addr → Nat → Nat → Int → Int → Bool → Option R) → Option R) : JTab R := tcons 0 (cblk_Segments_aa0 cblk_Segments_p0 k) <| tcons 1 (cblk_Segments_aa1 cblk_Segments_p1 k) <| tcons 2 (cblk_Segments_aa2 cblk_Segments_p2 k) <| tcons 3 (cblk_Segments_aa3 cblk_Segments_l3 k) <| tcons 4 (cblk_Segments_aa4 cblk_Segments_p4 k) <| fun _ _ _ _ => none
def cblk_Segments_J (R : Type) (k : Nat) : JTab R := cblk_Segments_Jt k (cblk_Segments_p0 k) (cblk_Segments_p1 k) (cblk_Segments_p2 k) (cblk_Segments_l3 k) (cblk_Segments_p4 k)
def cblk_Segments_at : AT := (.seq (.reg [0, 3] []) (.seq (.opq 0 [0, 3] ⟨[0, 3], [], [4]⟩ (.seq (.reg [0, 3, 14] []) (.cond (.seq (.reg [4] []) .leaf) .leaf))) (.seq (.reg [0, 3, 5] []) (.seq (.reg [0, 3, 5, 6] []) (.seq (.opq 1 [0, 3, 5, 6] ⟨[0, 3, 5, 6], [], []⟩ (.seq (.reg [0, 3, 5, 6, 17] []) (.cond (.reg [0, 3, 5, 6] []) .leaf))) (.seq (.opq 2 [0, 3, 5, 6] ⟨[0, 3, 5, 6], [], []⟩ (.seq (.reg [0, 3, 5, 6, 19] []) (.cond (.reg [0, 3, 5, 6] []) .leaf))) (.seq (.seq (.reg [3, 5, 6, 7] []) (.node (.opq 3 [3, 5, 6, 7] ⟨[], [(0, [5])], []⟩ (.node (.seq (.seq (.reg [3, 5, 6, 7, 22] []) (.cond .leaf .leaf)) (.node (.seq (.reg [3, 5, 6, 7, 8] []) (.seq (.reg [3, 5, 6, 7, 8] []) (.seq (.reg [3, 5, 6, 7] []) (.seq (.opq 4 [3, 5, 6, 7] ⟨[3, 5, 6, 7, 39], [], []⟩ (.reg [3, 5, 6, 7, 39] [])) (.cond (.seq (.reg [3, 5, 7, 41] []) (.cond (.reg [3, 5, 6, 7] []) (.reg [3, 5, 6, 7] []))) .leaf))))))))))) (.seq (.reg [4] []) .leaf))))))))
def cblk_Segments_i4 : IC := (.reg [⟨some 33, .fad 0 (.t 3), none⟩,
 ⟨some 34, .ld (.sc .bool) (.t 33), none⟩,
 ⟨some 35, .mov (.t 34), none⟩,
 ⟨some 36, .fad 1 (.t 3), some (35, true)⟩,
 ⟨some 37, .ld (.sc .bool) (.t 36), some (35, true)⟩,
 ⟨some 38, .lnot (.t 37), some (35, true)⟩,
 ⟨some 39, .pick (.t 35) (.t 38) (.c (Go.Value.bool false)), none⟩] [3, 5, 6, 7, 39])
def cblk_Segments_i3 : IC := (.seq (.seq (.reg [⟨some 21, .mov (.t 7), none⟩,
 ⟨some 22, .cmp .gtr (.t 21) (.c (Go.Value.int Go.IntKind.i64 0)), none⟩] [3, 5, 6, 7, 22]) (.cond (.t 22) .skip (.exit 0))) (.block 1 (.seq (.reg [⟨some 23, .mov (.t 6), none⟩,
 ⟨some 24, .mov (.t 7), none⟩,
 ⟨some 25, .mn (.t 23) (.t 24), none⟩,
 ⟨some 8, .mov (.t 25), none⟩] [3, 5, 6, 7, 8]) (.seq (.reg [⟨some 26, .mov (.t 5), none⟩,
 ⟨some 27, .mov (.t 8), none⟩,
 ⟨some 28, .bls 1 [.int .i64 0] [(0, 1, (.t 27))], none⟩,
 ⟨some 29, .app [.int .i64 0] 8 (.t 26) (.t 28), none⟩,
 ⟨some 5, .mov (.t 29), none⟩] [3, 5, 6, 7, 8]) (.seq (.reg [⟨some 30, .mov (.t 7), none⟩,
 ⟨some 31, .mov (.t 8), none⟩,
 ⟨some 32, .bin .sub .i64 (.t 30) (.t 31), none⟩,
 ⟨some 7, .mov (.t 32), none⟩] [3, 5, 6, 7]) (.seq (.opq 4 [3, 5, 6, 7] cblk_Segments_i4) (.cond (.t 39) (.seq (.reg [⟨some 40, .mov (.t 6), none⟩,
 ⟨some 41, .cmp .eql (.t 40) (.c (Go.Value.int Go.IntKind.i64 2)), none⟩] [3, 5, 7, 41]) (.cond (.t 41) (.reg [⟨some 6, .mov (.c (Go.Value.int Go.IntKind.i64 1)), none⟩] [3, 5, 6, 7]) (.reg [⟨some 6, .mov (.c (Go.Value.int Go.IntKind.i64 2)), none⟩] [3, 5, 6, 7]))) .skip)))))))
def cblk_Segments_i2 : IC := (.seq (.reg [⟨some 18, .fad 1 (.t 3), none⟩,
 ⟨some 19, .ld (.sc .bool) (.t 18), none⟩] [0, 3, 5, 6, 19]) (.cond (.t 19) (.reg [⟨some 6, .mov (.c (Go.Value.int Go.IntKind.i64 1)), none⟩] [0, 3, 5, 6]) .skip))
def cblk_Segments_i1 : IC := (.seq (.reg [⟨some 16, .fad 0 (.t 3), none⟩,
 ⟨some 17, .ld (.sc .bool) (.t 16), none⟩] [0, 3, 5, 6, 17]) (.cond (.t 17) (.reg [⟨some 6, .mov (.c (Go.Value.int Go.IntKind.i64 10)), none⟩] [0, 3, 5, 6]) .skip))
def cblk_Segments_i0 : IC := (.seq (.reg [⟨some 9, .mov (.t 0), none⟩,
 ⟨some 10, .cmp .lss (.t 9) (.c (Go.Value.int Go.IntKind.i64 1)), none⟩,
 ⟨some 11, .mov (.t 10), none⟩,
 ⟨some 12, .mov (.t 0), some (11, false)⟩,
 ⟨some 13, .cmp .gtr (.t 12) (.c (Go.Value.int Go.IntKind.i64 178)), some (11, false)⟩,
 ⟨some 14, .pick (.t 11) (.c (Go.Value.bool true)) (.t 13), none⟩] [0, 3, 14]) (.cond (.t 14) (.seq (.reg [⟨some 4, .mov (.c (Go.Value.slice none 0 0)), none⟩] [4]) .ret) .skip))
def cblk_Segments_f : IFn := ⟨43, [.t 4], (.seq (.reg [⟨some 3, .box (.t 1), none⟩,
 ⟨some 4, .mov (.c (Go.Value.slice none 0 0)), none⟩] [0, 3]) (.seq (.opq 0 [0, 3] cblk_Segments_i0) (.seq (.reg [⟨some 5, .mov (.c (Go.Value.slice none 0 0)), none⟩] [0, 3, 5]) (.seq (.reg [⟨some 15, .mov (.t 0), none⟩,
 ⟨some 6, .mov (.t 15), none⟩] [0, 3, 5, 6]) (.seq (.opq 1 [0, 3, 5, 6] cblk_Segments_i1) (.seq (.opq 2 [0, 3, 5, 6] cblk_Segments_i2) (.seq (.seq (.reg [⟨some 20, .mov (.t 0), none⟩,
 ⟨some 7, .mov (.t 20), none⟩] [3, 5, 6, 7]) (.block 0 (.opq 3 [3, 5, 6, 7] (.loop cblk_Segments_i3)))) (.seq (.reg [⟨some 42, .mov (.t 5), none⟩,
 ⟨some 4, .mov (.t 42), none⟩] [4]) .ret))))))))⟩
theorem cblk_Segments_e4 {R : Type} (cblk_Segments_p0 : Int → Option Addr → (Int → Option Addr → Option R) → (Option Addr → Nat → Nat → Option R) → Option R) (cblk_Segments_p1 : Int → Option Addr → Option Addr → Nat → Nat → Int → Heap → (Int → Option Addr → Option Addr → Nat → Nat → Int → Option R) → Option R) (cblk_Segments_p2 : Int → Option Addr → Option Addr → Nat → Nat → Int → Heap → (Int → Option Addr → Option Addr → Nat → Nat → Int → Option R) → Option R) (cblk_Segments_l3 : (Option Addr → Nat → Nat → Heap → Option R) → Nat → Option Addr → Option Addr → Nat → Nat → Int → Int → Heap → Option R) (cblk_Segments_p4 : Option Addr → Option Addr → Nat → Nat → Int → Int → Heap → (Option Addr → Option Addr → Nat → Nat → Int → Int → Bool → Option R) → Option R) (k : Nat) (p433 : Option Addr) (q434 : Option Addr) (l435 : Nat) (c436 : Nat) (n437 : Int) (n438 : Int) (H : Heap) (K : Xit → Env → Heap → Option R) : evJ (cblk_Segments_Ct) (cblk_Segments_Jt k cblk_Segments_p0 cblk_Segments_p1 cblk_Segments_p2 cblk_Segments_l3 cblk_Segments_p4) cblk_Segments_i4 (List.zip [3, 5, 6, 7] [.pointer p433, .slice q434 l435 c436, .int .i64 n437, .int .i64 n438]) H (fun x e' H' => K x (clean e' ((⟨[3, 5, 6, 7, 39], [], []⟩ : Out).of x)) H') = cblk_Segments_p4_b k p433 q434 l435 c436 n437 n438 H (fun p1151 q1152 l1153 c1154 n1155 n1156 t1157 => K .normal [(3, .pointer p1151), (5, .slice q1152 l1153 c1154), (6, .int .i64 n1155), (7, .int .i64 n1156), (39, .bool t1157)] H) := by kernel_rfl
theorem cblk_Segments_j4 {R : Type} (k : Nat) : JS Try.prog 43 (cblk_Segments_a4 R k k) [3, 5, 6, 7] ⟨[3, 5, 6, 7, 39], [], []⟩ (sel [1, 1, 1, 1, 1, 1, 0, 1, 0, 0, 1, 0, 1, 1, 1, 0] (Try.f20.body.getD .skip)) :=
  piece_ok (nt := 43) (c := (sel [1, 1, 1, 1, 1, 1, 0, 1, 0, 0, 1, 0, 1, 1, 1, 0] (Try.f20.body.getD .skip))) (C := cblk_Segments_C R k) (an := An) (t := (.reg [3, 5, 6, 7, 39] [])) (ic := cblk_Segments_i4) (cblk_Segments_S R k) (cblk_Segments_J R k) (by kernel_rfl) True.intro (cblk_Segments_a4 R k k)
    (fun vals H K r h => by
      unfold cblk_Segments_a4 cblk_Segments_aa4 at h
      split at h <;> first | (cases h; done) | exact Eq.trans (cblk_Segments_e4 (cblk_Segments_p0 k) (cblk_Segments_p1 k) (cblk_Segments_p2 k) (cblk_Segments_l3 k) (cblk_Segments_p4 k) k _ _ _ _ _ _ H K) h)
theorem cblk_Segments_e3 {R : Type} (cblk_Segments_p0 : Int → Option Addr → (Int → Option Addr → Option R) → (Option Addr → Nat → Nat → Option R) → Option R) (cblk_Segments_p1 : Int → Option Addr → Option Addr → Nat → Nat → Int → Heap → (Int → Option Addr → Option Addr → Nat → Nat → Int → Option R) → Option R) (cblk_Segments_p2 : Int → Option Addr → Option Addr → Nat → Nat → Int → Heap → (Int → Option Addr → Option Addr → Nat → Nat → Int → Option R) → Option R) (cblk_Segments_l3 : (Option Addr → Nat → Nat → Heap → Option R) → Nat → Option Addr → Option Addr → Nat → Nat → Int → Int → Heap → Option R) (cblk_Segments_p4 : Option Addr → Option Addr → Nat → Nat → Int → Int → Heap → (Option Addr → Option Addr → Nat → Nat → Int → Int → Bool → Option R) → Option R) (k n : Nat) (p421 : Option Addr) (q422 : Option Addr) (l423 : Nat) (c424 : Nat) (n425 : Int) (n426 : Int) (H : Heap) (K : Xit → Env → Heap → Option R) : evJ (cblk_Segments_Ct) (cblk_Segments_Jt k cblk_Segments_p0 cblk_Segments_p1 cblk_Segments_p2 cblk_Segments_l3 cblk_Segments_p4) cblk_Segments_i3 (List.zip [3, 5, 6, 7] [.pointer p421, .slice q422 l423 c424, .int .i64 n425, .int .i64 n426]) H (fun x e' H' => match x with | .normal => cblk_Segments_aa3 cblk_Segments_l3 n ((clean e' [3, 5, 6, 7]).map (·.2)) H' K | x => K x (clean e' ((⟨[], [(0, [5])], []⟩ : Out).of x)) H') = cblk_Segments_l3_b cblk_Segments_p4 (cblk_Segments_l3 (fun q1148 l1149 c1150 H => K (.exit 0) [(5, .slice q1148 l1149 c1150)] H) n) (fun q1148 l1149 c1150 H => K (.exit 0) [(5, .slice q1148 l1149 c1150)] H) k p421 q422 l423 c424 n425 n426 H := by kernel_rfl
theorem cblk_Segments_j3 {R : Type} (k : Nat) : JS Try.prog 43 (cblk_Segments_a3 R k k) [3, 5, 6, 7] ⟨[], [(0, [5])], []⟩ (.loop (sel [1, 1, 1, 1, 1, 1, 0, 1, 0, 0] (Try.f20.body.getD .skip))) :=
  loop_ok (nt := 43) (c := (sel [1, 1, 1, 1, 1, 1, 0, 1, 0, 0] (Try.f20.body.getD .skip))) (C := cblk_Segments_C R k) (an := An) (t := (.seq (.seq (.reg [3, 5, 6, 7, 22] []) (.cond .leaf .leaf)) (.node (.seq (.reg [3, 5, 6, 7, 8] []) (.seq (.reg [3, 5, 6, 7, 8] []) (.seq (.reg [3, 5, 6, 7] []) (.seq (.opq 4 [3, 5, 6, 7] ⟨[3, 5, 6, 7, 39], [], []⟩ (.reg [3, 5, 6, 7, 39] [])) (.cond (.seq (.reg [3, 5, 7, 41] []) (.cond (.reg [3, 5, 6, 7] []) (.reg [3, 5, 6, 7] []))) .leaf)))))))) (ic := cblk_Segments_i3) (cblk_Segments_S R k) (cblk_Segments_J R k) (by kernel_rfl) (And.intro (And.intro True.intro (And.intro True.intro True.intro)) (And.intro True.intro (And.intro True.intro (And.intro True.intro (And.intro (cblk_Segments_j4 k) (And.intro (And.intro True.intro (And.intro True.intro True.intro)) True.intro)))))) (cblk_Segments_a3 R k) (fun vals H K => by unfold cblk_Segments_a3 cblk_Segments_aa3; split <;> rfl)
    (fun n vals H K r h => by
      unfold cblk_Segments_a3 cblk_Segments_aa3 at h
      split at h <;> first | (cases h; done) | exact Eq.trans (cblk_Segments_e3 (cblk_Segments_p0 k) (cblk_Segments_p1 k) (cblk_Segments_p2 k) (cblk_Segments_l3 k) (cblk_Segments_p4 k) k n _ _ _ _ _ _ H K) h) k
theorem cblk_Segments_e2 {R : Type} (cblk_Segments_p0 : Int → Option Addr → (Int → Option Addr → Option R) → (Option Addr → Nat → Nat → Option R) → Option R) (cblk_Segments_p1 : Int → Option Addr → Option Addr → Nat → Nat → Int → Heap → (Int → Option Addr → Option Addr → Nat → Nat → Int → Option R) → Option R) (cblk_Segments_p2 : Int → Option Addr → Option Addr → Nat → Nat → Int → Heap → (Int → Option Addr → Option Addr → Nat → Nat → Int → Option R) → Option R) (cblk_Segments_l3 : (Option Addr → Nat → Nat → Heap → Option R) → Nat → Option Addr → Option Addr → Nat → Nat → Int → Int → Heap → Option R) (cblk_Segments_p4 : Option Addr → Option Addr → Nat → Nat → Int → Int → Heap → (Option Addr → Option Addr → Nat → Nat → Int → Int → Bool → Option R) → Option R) (k : Nat) (n401 : Int) (p402 : Option Addr) (q403 : Option Addr) (l404 : Nat) (c405 : Nat) (n406 : Int) (H : Heap) (K : Xit → Env → Heap → Option R) : evJ (cblk_Segments_Ct) (cblk_Segments_Jt k cblk_Segments_p0 cblk_Segments_p1 cblk_Segments_p2 cblk_Segments_l3 cblk_Segments_p4) cblk_Segments_i2 (List.zip [0, 3, 5, 6] [.int .i64 n401, .pointer p402, .slice q403 l404 c405, .int .i64 n406]) H (fun x e' H' => K x (clean e' ((⟨[0, 3, 5, 6], [], []⟩ : Out).of x)) H') = cblk_Segments_p2_b k n401 p402 q403 l404 c405 n406 H (fun n1142 p1143 q1144 l1145 c1146 n1147 => K .normal [(0, .int .i64 n1142), (3, .pointer p1143), (5, .slice q1144 l1145 c1146), (6, .int .i64 n1147)] H) := by kernel_rfl
theorem cblk_Segments_j2 {R : Type} (k : Nat) : JS Try.prog 43 (cblk_Segments_a2 R k k) [0, 3, 5, 6] ⟨[0, 3, 5, 6], [], []⟩ (sel [1, 1, 1, 1, 1, 0] (Try.f20.body.getD .skip)) :=
  piece_ok (nt := 43) (c := (sel [1, 1, 1, 1, 1, 0] (Try.f20.body.getD .skip))) (C := cblk_Segments_C R k) (an := An) (t := (.seq (.reg [0, 3, 5, 6, 19] []) (.cond (.reg [0, 3, 5, 6] []) .leaf))) (ic := cblk_Segments_i2) (cblk_Segments_S R k) (cblk_Segments_J R k) (by kernel_rfl) (And.intro True.intro (And.intro True.intro True.intro)) (cblk_Segments_a2 R k k)
    (fun vals H K r h => by
      unfold cblk_Segments_a2 cblk_Segments_aa2 at h
      split at h <;> first | (cases h; done) | exact Eq.trans (cblk_Segments_e2 (cblk_Segments_p0 k) (cblk_Segments_p1 k) (cblk_Segments_p2 k) (cblk_Segments_l3 k) (cblk_Segments_p4 k) k _ _ _ _ _ _ H K) h)
theorem cblk_Segments_e1 {R : Type} (cblk_Segments_p0 : Int → Option Addr → (Int → Option Addr → Option R) → (Option Addr → Nat → Nat → Option R) → Option R) (cblk_Segments_p1 : Int → Option Addr → Option Addr → Nat → Nat → Int → Heap → (Int → Option Addr → Option Addr → Nat → Nat → Int → Option R) → Option R) (cblk_Segments_p2 : Int → Option Addr → Option Addr → Nat → Nat → Int → Heap → (Int → Option Addr → Option Addr → Nat → Nat → Int → Option R) → Option R) (cblk_Segments_l3 : (Option Addr → Nat → Nat → Heap → Option R) → Nat → Option Addr → Option Addr → Nat → Nat → Int → Int → Heap → Option R) (cblk_Segments_p4 : Option Addr → Option Addr → Nat → Nat → Int → Int → Heap → (Option Addr → Option Addr → Nat → Nat → Int → Int → Bool → Option R) → Option R) (k : Nat) (n381 : Int) (p382 : Option Addr) (q383 : Option Addr) (l384 : Nat) (c385 : Nat) (n386 : Int) (H : Heap) (K : Xit → Env → Heap → Option R) : evJ (cblk_Segments_Ct) (cblk_Segments_Jt k cblk_Segments_p0 cblk_Segments_p1 cblk_Segments_p2 cblk_Segments_l3 cblk_Segments_p4) cblk_Segments_i1 (List.zip [0, 3, 5, 6] [.int .i64 n381, .pointer p382, .slice q383 l384 c385, .int .i64 n386]) H (fun x e' H' => K x (clean e' ((⟨[0, 3, 5, 6], [], []⟩ : Out).of x)) H') = cblk_Segments_p1_b k n381 p382 q383 l384 c385 n386 H (fun n1136 p1137 q1138 l1139 c1140 n1141 => K .normal [(0, .int .i64 n1136), (3, .pointer p1137), (5, .slice q1138 l1139 c1140), (6, .int .i64 n1141)] H) := by kernel_rfl
theorem cblk_Segments_j1 {R : Type} (k : Nat) : JS Try.prog 43 (cblk_Segments_a1 R k k) [0, 3, 5, 6] ⟨[0, 3, 5, 6], [], []⟩ (sel [1, 1, 1, 1, 0] (Try.f20.body.getD .skip)) :=
  piece_ok (nt := 43) (c := (sel [1, 1, 1, 1, 0] (Try.f20.body.getD .skip))) (C := cblk_Segments_C R k) (an := An) (t := (.seq (.reg [0, 3, 5, 6, 17] []) (.cond (.reg [0, 3, 5, 6] []) .leaf))) (ic := cblk_Segments_i1) (cblk_Segments_S R k) (cblk_Segments_J R k) (by kernel_rfl) (And.intro True.intro (And.intro True.intro True.intro)) (cblk_Segments_a1 R k k)
    (fun vals H K r h => by
      unfold cblk_Segments_a1 cblk_Segments_aa1 at h
      split at h <;> first | (cases h; done) | exact Eq.trans (cblk_Segments_e1 (cblk_Segments_p0 k) (cblk_Segments_p1 k) (cblk_Segments_p2 k) (cblk_Segments_l3 k) (cblk_Segments_p4 k) k _ _ _ _ _ _ H K) h)
theorem cblk_Segments_e0 {R : Type} (cblk_Segments_p0 : Int → Option Addr → (Int → Option Addr → Option R) → (Option Addr → Nat → Nat → Option R) → Option R) (cblk_Segments_p1 : Int → Option Addr → Option Addr → Nat → Nat → Int → Heap → (Int → Option Addr → Option Addr → Nat → Nat → Int → Option R) → Option R) (cblk_Segments_p2 : Int → Option Addr → Option Addr → Nat → Nat → Int → Heap → (Int → Option Addr → Option Addr → Nat → Nat → Int → Option R) → Option R) (cblk_Segments_l3 : (Option Addr → Nat → Nat → Heap → Option R) → Nat → Option Addr → Option Addr → Nat → Nat → Int → Int → Heap → Option R) (cblk_Segments_p4 : Option Addr → Option Addr → Nat → Nat → Int → Int → Heap → (Option Addr → Option Addr → Nat → Nat → Int → Int → Bool → Option R) → Option R) (k : Nat) (n372 : Int) (p373 : Option Addr) (H : Heap) (K : Xit → Env → Heap → Option R) : evJ (cblk_Segments_Ct) (cblk_Segments_Jt k cblk_Segments_p0 cblk_Segments_p1 cblk_Segments_p2 cblk_Segments_l3 cblk_Segments_p4) cblk_Segments_i0 (List.zip [0, 3] [.int .i64 n372, .pointer p373]) H (fun x e' H' => K x (clean e' ((⟨[0, 3], [], [4]⟩ : Out).of x)) H') = cblk_Segments_p0_b k n372 p373 (fun n1131 p1132 => K .normal [(0, .int .i64 n1131), (3, .pointer p1132)] H) (fun q1133 l1134 c1135 => K .ret [(4, .slice q1133 l1134 c1135)] H) := by kernel_rfl
theorem cblk_Segments_j0 {R : Type} (k : Nat) : JS Try.prog 43 (cblk_Segments_a0 R k k) [0, 3] ⟨[0, 3], [], [4]⟩ (sel [1, 0] (Try.f20.body.getD .skip)) :=
  piece_ok (nt := 43) (c := (sel [1, 0] (Try.f20.body.getD .skip))) (C := cblk_Segments_C R k) (an := An) (t := (.seq (.reg [0, 3, 14] []) (.cond (.seq (.reg [4] []) .leaf) .leaf))) (ic := cblk_Segments_i0) (cblk_Segments_S R k) (cblk_Segments_J R k) (by kernel_rfl) (And.intro True.intro (And.intro (And.intro True.intro True.intro) True.intro)) (cblk_Segments_a0 R k k)
    (fun vals H K r h => by
      unfold cblk_Segments_a0 cblk_Segments_aa0 at h
      split at h <;> first | (cases h; done) | exact Eq.trans (cblk_Segments_e0 (cblk_Segments_p0 k) (cblk_Segments_p1 k) (cblk_Segments_p2 k) (cblk_Segments_l3 k) (cblk_Segments_p4 k) k _ _ H K) h)
def cblk_Segments_ca {R : Type} (f : Int → Bool → Bool → Bool → Bool → Bool → Heap → (Option Addr → Nat → Nat → Heap → Option R) → Option R) (args : List Value) (H : Heap) (K : Value → Heap → Option R) : Option R :=
  match args with
  | [.int .i64 n364, .agg ⟨[.bool t365, .bool t366, .bool t367, .bool t368, .bool t369]⟩] => f n364 t365 t366 t367 t368 t369 H (fun q1158 l1159 c1160 H => K (.slice q1158 l1159 c1160) H)
  | _ => none
def cblk_Segments_c (R : Type) (k : Nat) (args : List Value) (H : Heap) (K : Value → Heap → Option R) : Option R := cblk_Segments_ca (cblk_Segments k) args H K
theorem cblk_Segments_e {R : Type} (cblk_Segments_p0 : Int → Option Addr → (Int → Option Addr → Option R) → (Option Addr → Nat → Nat → Option R) → Option R) (cblk_Segments_p1 : Int → Option Addr → Option Addr → Nat → Nat → Int → Heap → (Int → Option Addr → Option Addr → Nat → Nat → Int → Option R) → Option R) (cblk_Segments_p2 : Int → Option Addr → Option Addr → Nat → Nat → Int → Heap → (Int → Option Addr → Option Addr → Nat → Nat → Int → Option R) → Option R) (cblk_Segments_l3 : (Option Addr → Nat → Nat → Heap → Option R) → Nat → Option Addr → Option Addr → Nat → Nat → Int → Int → Heap → Option R) (cblk_Segments_p4 : Option Addr → Option Addr → Nat → Nat → Int → Int → Heap → (Option Addr → Option Addr → Nat → Nat → Int → Int → Bool → Option R) → Option R) (k : Nat) (n364 : Int) (t365 : Bool) (t366 : Bool) (t367 : Bool) (t368 : Bool) (t369 : Bool) (H : Heap) (K : Value → Heap → Option R) : evF (cblk_Segments_Ct) (cblk_Segments_Jt k cblk_Segments_p0 cblk_Segments_p1 cblk_Segments_p2 cblk_Segments_l3 cblk_Segments_p4) cblk_Segments_f [.int .i64 n364, .agg ⟨[.bool t365, .bool t366, .bool t367, .bool t368, .bool t369]⟩] H K = cblk_Segments_b cblk_Segments_p0 cblk_Segments_p1 cblk_Segments_p2 cblk_Segments_l3 k n364 t365 t366 t367 t368 t369 H (fun q1158 l1159 c1160 H => K (.slice q1158 l1159 c1160) H) := by kernel_rfl
theorem cblk_Segments_cs (R : Type) (k : Nat) : ∀ args H K r, cblk_Segments_c R k args H K = some r → ∃ v H', Tri Try.prog 20 args H v H' ∧ K v H' = some r := by
  intro args H K r h
  unfold cblk_Segments_c cblk_Segments_ca at h
  split at h
  · exact evF_ok (C := cblk_Segments_C R k) (an := An) (t := cblk_Segments_at) (fn := Try.f20) (c := (Try.f20.body.getD .skip)) (ifn := cblk_Segments_f) (cblk_Segments_S R k) (cblk_Segments_J R k) Try.func20 (by kernel_rfl) (by kernel_rfl) (And.intro True.intro (And.intro (cblk_Segments_j0 k) (And.intro True.intro (And.intro True.intro (And.intro (cblk_Segments_j1 k) (And.intro (cblk_Segments_j2 k) (And.intro (And.intro True.intro (cblk_Segments_j3 k)) (And.intro True.intro True.intro)))))))) rfl (Eq.trans (cblk_Segments_e (cblk_Segments_p0 k) (cblk_Segments_p1 k) (cblk_Segments_p2 k) (cblk_Segments_l3 k) (cblk_Segments_p4 k) k _ _ _ _ _ _ H K) h)
  · cases h
end Go.Proofs.Ytblpaolcgkjcgaa.Sh
