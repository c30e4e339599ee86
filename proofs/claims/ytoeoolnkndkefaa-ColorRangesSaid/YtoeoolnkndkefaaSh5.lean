/- Lean functions that stand for Go's, over an explicit heap, and the proofs that they do (written by this claim's program shallow.py). -/
import Derived.Test.YtoeoolnkndkefaaSh0
set_option maxRecDepth 100000
set_option linter.unusedVariables false
set_option linter.unusedSimpArgs false
namespace Go.Proofs.Ytoeoolnkndkefaa.Sh
open Go.Proofs.Ytoeoolnkndkefaa.FW
/-! ### R01_FloorDiv: function 36 -/
def R01_FloorDiv_b {R : Type} (k : Nat) (n228 : Int) (n229 : Int) (K : Int → Option R) : Option R :=
bif decide (n229 < 1) then (K 0)
 else (hbin .quo .i64 n228 n229 fun n230 =>
hbin .rem .i64 n228 n229 fun n231 =>
bif decide (n231 < 0) then (K (IntKind.wrap .i64 (n230 - 1)))
 else (K n230))

def R01_FloorDiv {R : Type} (n228 : Int) (n229 : Int) (K : Int → Option R) : Option R := R01_FloorDiv_b 0 n228 n229 K

def R01_FloorDiv_Ct {R : Type} : Tab R := fun _ _ _ _ => none
def R01_FloorDiv_C (R : Type) (k : Nat) : Tab R := R01_FloorDiv_Ct
theorem R01_FloorDiv_S (R : Type) (k : Nat) : CSound Try.prog (R01_FloorDiv_C R k) := csound_nil
def R01_FloorDiv_Jt {R : Type} (k : Nat) : JTab R := fun _ _ _ _ => none
def R01_FloorDiv_J (R : Type) (k : Nat) : JTab R := R01_FloorDiv_Jt k
def R01_FloorDiv_at : AT := (.seq (.reg [0, 1] []) (.seq (.seq (.reg [0, 1, 7] []) (.cond (.seq (.reg [4] []) .leaf) .leaf)) (.seq (.reg [0, 1, 5] []) (.seq (.seq (.reg [5, 14] []) (.cond (.reg [5] []) .leaf)) (.seq (.reg [4] []) .leaf)))))
def R01_FloorDiv_f : IFn := ⟨18, [.t 4], (.seq (.reg [⟨some 4, .mov (.c (Go.Value.int Go.IntKind.i64 0)), none⟩] [0, 1]) (.seq (.seq (.reg [⟨some 6, .mov (.t 1), none⟩,
 ⟨some 7, .cmp .lss (.t 6) (.c (Go.Value.int Go.IntKind.i64 1)), none⟩] [0, 1, 7]) (.cond (.t 7) (.seq (.reg [⟨some 4, .mov (.c (Go.Value.int Go.IntKind.i64 0)), none⟩] [4]) .ret) .skip)) (.seq (.reg [⟨some 8, .mov (.t 0), none⟩,
 ⟨some 9, .mov (.t 1), none⟩,
 ⟨some 10, .bin .quo .i64 (.t 8) (.t 9), none⟩,
 ⟨some 5, .mov (.t 10), none⟩] [0, 1, 5]) (.seq (.seq (.reg [⟨some 11, .mov (.t 0), none⟩,
 ⟨some 12, .mov (.t 1), none⟩,
 ⟨some 13, .bin .rem .i64 (.t 11) (.t 12), none⟩,
 ⟨some 14, .cmp .lss (.t 13) (.c (Go.Value.int Go.IntKind.i64 0)), none⟩] [5, 14]) (.cond (.t 14) (.reg [⟨some 15, .mov (.t 5), none⟩,
 ⟨some 16, .bin .sub .i64 (.t 15) (.c (Go.Value.int Go.IntKind.i64 1)), none⟩,
 ⟨some 5, .mov (.t 16), none⟩] [5]) .skip)) (.seq (.reg [⟨some 17, .mov (.t 5), none⟩,
 ⟨some 4, .mov (.t 17), none⟩] [4]) .ret)))))⟩
def R01_FloorDiv_ca {R : Type} (f : Int → Int → (Int → Option R) → Option R) (args : List Value) (H : Heap) (K : Value → Heap → Option R) : Option R :=
  match args with
  | [.int .i64 n228, .int .i64 n229] => f n228 n229 (fun n1143 => K (.int .i64 n1143) H)
  | _ => none
def R01_FloorDiv_c (R : Type) (k : Nat) (args : List Value) (H : Heap) (K : Value → Heap → Option R) : Option R := R01_FloorDiv_ca R01_FloorDiv args H K
theorem R01_FloorDiv_e {R : Type} (k : Nat) (n228 : Int) (n229 : Int) (H : Heap) (K : Value → Heap → Option R) : evF (R01_FloorDiv_Ct) (R01_FloorDiv_Jt k) R01_FloorDiv_f [.int .i64 n228, .int .i64 n229] H K = R01_FloorDiv_b k n228 n229 (fun n1143 => K (.int .i64 n1143) H) := by kernel_rfl
theorem R01_FloorDiv_cs (R : Type) (k : Nat) : ∀ args H K r, R01_FloorDiv_c R k args H K = some r → ∃ v H', Tri Try.prog 36 args H v H' ∧ K v H' = some r := by
  intro args H K r h
  unfold R01_FloorDiv_c R01_FloorDiv_ca at h
  split at h
  · exact evF_ok (C := R01_FloorDiv_C R 0) (an := An) (t := R01_FloorDiv_at) (fn := Try.f36) (c := (Try.f36.body.getD .skip)) (ifn := R01_FloorDiv_f) (R01_FloorDiv_S R 0) (R01_FloorDiv_J R 0) Try.func36 (by kernel_rfl) (by kernel_rfl) (And.intro True.intro (And.intro (And.intro True.intro (And.intro (And.intro True.intro True.intro) True.intro)) (And.intro True.intro (And.intro (And.intro True.intro (And.intro True.intro True.intro)) (And.intro True.intro True.intro))))) rfl (Eq.trans (R01_FloorDiv_e 0 _ _ H K) h)
  · cases h
/-! ### R07_Forward: function 14 -/
def R07_Forward_b {R : Type} (R01_FloorDiv : Int → Int → (Int → Option R) → Option R) (k : Nat) (n224 : Int) (n225 : Int) (n226 : Int) (n227 : Int) (K : Int → Int → Int → Option R) : Option R :=
bif (n224 == 1) then (R01_FloorDiv (IntKind.wrap .i64 ((IntKind.wrap .i64 (n225 + (IntKind.wrap .i64 (2 * n226)))) + n227)) 4 fun n228 =>
K n228 (IntKind.wrap .i64 (n227 - n226)) (IntKind.wrap .i64 (n225 - n226)))
 else (bif (n224 == 2) then (R01_FloorDiv (IntKind.wrap .i64 (n225 - n227)) 2 fun n229 =>
R01_FloorDiv (IntKind.wrap .i64 (n226 - (IntKind.wrap .i64 (n227 + n229)))) 2 fun n230 =>
K (IntKind.wrap .i64 ((IntKind.wrap .i64 (n227 + n229)) + n230)) (IntKind.wrap .i64 (n225 - n227)) (IntKind.wrap .i64 (n226 - (IntKind.wrap .i64 (n227 + n229)))))
 else (K n225 n226 n227))

def R07_Forward {R : Type} (n224 : Int) (n225 : Int) (n226 : Int) (n227 : Int) (K : Int → Int → Int → Option R) : Option R := R07_Forward_b R01_FloorDiv 0 n224 n225 n226 n227 K

def R07_Forward_Ct {R : Type} (R01_FloorDiv : Int → Int → (Int → Option R) → Option R) : Tab R := tcons 36 (R01_FloorDiv_ca R01_FloorDiv) <| fun _ _ _ _ => none
def R07_Forward_C (R : Type) (k : Nat) : Tab R := R07_Forward_Ct R01_FloorDiv
theorem R07_Forward_S (R : Type) (k : Nat) : CSound Try.prog (R07_Forward_C R k) := csound_cons (R01_FloorDiv_cs R k) <| csound_nil
def R07_Forward_Jt {R : Type} (k : Nat) : JTab R := fun _ _ _ _ => none
def R07_Forward_J (R : Type) (k : Nat) : JTab R := R07_Forward_Jt k
def R07_Forward_at : AT := (.seq (.reg [0, 1, 2, 3] []) (.seq (.seq (.reg [0, 1, 2, 3, 13] []) (.cond (.seq (.reg [8, 9, 10] []) .leaf) .leaf)) (.seq (.seq (.reg [1, 2, 3, 28] []) (.cond (.seq (.reg [2, 3, 9] []) (.seq (.reg [2, 9, 11] []) (.seq (.reg [9, 10, 11] []) (.seq (.reg [8, 9, 10] []) .leaf)))) .leaf)) (.seq (.reg [8, 9, 10] []) .leaf))))
def R07_Forward_f : IFn := ⟨48, [.t 8, .t 9, .t 10], (.seq (.reg [⟨some 8, .mov (.c (Go.Value.int Go.IntKind.i64 0)), none⟩,
 ⟨some 9, .mov (.c (Go.Value.int Go.IntKind.i64 0)), none⟩,
 ⟨some 10, .mov (.c (Go.Value.int Go.IntKind.i64 0)), none⟩] [0, 1, 2, 3]) (.seq (.seq (.reg [⟨some 12, .mov (.t 0), none⟩,
 ⟨some 13, .cmp .eql (.t 12) (.c (Go.Value.int Go.IntKind.i64 1)), none⟩] [0, 1, 2, 3, 13]) (.cond (.t 13) (.seq (.reg [⟨some 14, .mov (.t 1), none⟩,
 ⟨some 15, .mov (.t 2), none⟩,
 ⟨some 16, .bin .mul .i64 (.c (Go.Value.int Go.IntKind.i64 2)) (.t 15), none⟩,
 ⟨some 17, .bin .add .i64 (.t 14) (.t 16), none⟩,
 ⟨some 18, .mov (.t 3), none⟩,
 ⟨some 19, .bin .add .i64 (.t 17) (.t 18), none⟩,
 ⟨some 20, .call 36 [(.t 19), (.c (Go.Value.int Go.IntKind.i64 4))] (.one (.sc (.int .i64))), none⟩,
 ⟨some 21, .mov (.t 3), none⟩,
 ⟨some 22, .mov (.t 2), none⟩,
 ⟨some 23, .bin .sub .i64 (.t 21) (.t 22), none⟩,
 ⟨some 24, .mov (.t 1), none⟩,
 ⟨some 25, .mov (.t 2), none⟩,
 ⟨some 26, .bin .sub .i64 (.t 24) (.t 25), none⟩,
 ⟨some 8, .mov (.t 20), none⟩,
 ⟨some 9, .mov (.t 23), none⟩,
 ⟨some 10, .mov (.t 26), none⟩] [8, 9, 10]) .ret) .skip)) (.seq (.seq (.reg [⟨some 27, .mov (.t 0), none⟩,
 ⟨some 28, .cmp .eql (.t 27) (.c (Go.Value.int Go.IntKind.i64 2)), none⟩] [1, 2, 3, 28]) (.cond (.t 28) (.seq (.reg [⟨some 29, .mov (.t 1), none⟩,
 ⟨some 30, .mov (.t 3), none⟩,
 ⟨some 31, .bin .sub .i64 (.t 29) (.t 30), none⟩,
 ⟨some 9, .mov (.t 31), none⟩] [2, 3, 9]) (.seq (.reg [⟨some 32, .mov (.t 3), none⟩,
 ⟨some 33, .mov (.t 9), none⟩,
 ⟨some 34, .call 36 [(.t 33), (.c (Go.Value.int Go.IntKind.i64 2))] (.one (.sc (.int .i64))), none⟩,
 ⟨some 35, .bin .add .i64 (.t 32) (.t 34), none⟩,
 ⟨some 11, .mov (.t 35), none⟩] [2, 9, 11]) (.seq (.reg [⟨some 36, .mov (.t 2), none⟩,
 ⟨some 37, .mov (.t 11), none⟩,
 ⟨some 38, .bin .sub .i64 (.t 36) (.t 37), none⟩,
 ⟨some 10, .mov (.t 38), none⟩] [9, 10, 11]) (.seq (.reg [⟨some 39, .mov (.t 11), none⟩,
 ⟨some 40, .mov (.t 10), none⟩,
 ⟨some 41, .call 36 [(.t 40), (.c (Go.Value.int Go.IntKind.i64 2))] (.one (.sc (.int .i64))), none⟩,
 ⟨some 42, .bin .add .i64 (.t 39) (.t 41), none⟩,
 ⟨some 43, .mov (.t 9), none⟩,
 ⟨some 44, .mov (.t 10), none⟩,
 ⟨some 8, .mov (.t 42), none⟩,
 ⟨some 9, .mov (.t 43), none⟩,
 ⟨some 10, .mov (.t 44), none⟩] [8, 9, 10]) .ret)))) .skip)) (.seq (.reg [⟨some 45, .mov (.t 1), none⟩,
 ⟨some 46, .mov (.t 2), none⟩,
 ⟨some 47, .mov (.t 3), none⟩,
 ⟨some 8, .mov (.t 45), none⟩,
 ⟨some 9, .mov (.t 46), none⟩,
 ⟨some 10, .mov (.t 47), none⟩] [8, 9, 10]) .ret))))⟩
def R07_Forward_ca {R : Type} (f : Int → Int → Int → Int → (Int → Int → Int → Option R) → Option R) (args : List Value) (H : Heap) (K : Value → Heap → Option R) : Option R :=
  match args with
  | [.int .i64 n224, .int .i64 n225, .int .i64 n226, .int .i64 n227] => f n224 n225 n226 n227 (fun n1144 n1145 n1146 => K (.tuple ⟨[.int .i64 n1144, .int .i64 n1145, .int .i64 n1146]⟩) H)
  | _ => none
def R07_Forward_c (R : Type) (k : Nat) (args : List Value) (H : Heap) (K : Value → Heap → Option R) : Option R := R07_Forward_ca R07_Forward args H K
theorem R07_Forward_e {R : Type} (R01_FloorDiv : Int → Int → (Int → Option R) → Option R) (k : Nat) (n224 : Int) (n225 : Int) (n226 : Int) (n227 : Int) (H : Heap) (K : Value → Heap → Option R) : evF (R07_Forward_Ct R01_FloorDiv) (R07_Forward_Jt k) R07_Forward_f [.int .i64 n224, .int .i64 n225, .int .i64 n226, .int .i64 n227] H K = R07_Forward_b R01_FloorDiv k n224 n225 n226 n227 (fun n1144 n1145 n1146 => K (.tuple ⟨[.int .i64 n1144, .int .i64 n1145, .int .i64 n1146]⟩) H) := by kernel_rfl
theorem R07_Forward_cs (R : Type) (k : Nat) : ∀ args H K r, R07_Forward_c R k args H K = some r → ∃ v H', Tri Try.prog 14 args H v H' ∧ K v H' = some r := by
  intro args H K r h
  unfold R07_Forward_c R07_Forward_ca at h
  split at h
  · exact evF_ok (C := R07_Forward_C R 0) (an := An) (t := R07_Forward_at) (fn := Try.f14) (c := (Try.f14.body.getD .skip)) (ifn := R07_Forward_f) (R07_Forward_S R 0) (R07_Forward_J R 0) Try.func14 (by kernel_rfl) (by kernel_rfl) (And.intro True.intro (And.intro (And.intro True.intro (And.intro (And.intro True.intro True.intro) True.intro)) (And.intro (And.intro True.intro (And.intro (And.intro True.intro (And.intro True.intro (And.intro True.intro (And.intro True.intro True.intro)))) True.intro)) (And.intro True.intro True.intro)))) rfl (Eq.trans (R07_Forward_e R01_FloorDiv 0 _ _ _ _ H K) h)
  · cases h
/-! ### R07_Inverse: function 16 -/
def R07_Inverse_b {R : Type} (R01_FloorDiv : Int → Int → (Int → Option R) → Option R) (k : Nat) (n266 : Int) (n267 : Int) (n268 : Int) (n269 : Int) (K : Int → Int → Int → Option R) : Option R :=
bif (n266 == 1) then (R01_FloorDiv (IntKind.wrap .i64 (n268 + n269)) 4 fun n270 =>
K (IntKind.wrap .i64 (n269 + (IntKind.wrap .i64 (n267 - n270)))) (IntKind.wrap .i64 (n267 - n270)) (IntKind.wrap .i64 (n268 + (IntKind.wrap .i64 (n267 - n270)))))
 else (bif (n266 == 2) then (R01_FloorDiv n269 2 fun n271 =>
R01_FloorDiv n268 2 fun n272 =>
K (IntKind.wrap .i64 ((IntKind.wrap .i64 ((IntKind.wrap .i64 (n267 - n271)) - n272)) + n268)) (IntKind.wrap .i64 (n269 + (IntKind.wrap .i64 (n267 - n271)))) (IntKind.wrap .i64 ((IntKind.wrap .i64 (n267 - n271)) - n272)))
 else (K n267 n268 n269))

def R07_Inverse {R : Type} (n266 : Int) (n267 : Int) (n268 : Int) (n269 : Int) (K : Int → Int → Int → Option R) : Option R := R07_Inverse_b R01_FloorDiv 0 n266 n267 n268 n269 K

def R07_Inverse_Ct {R : Type} (R01_FloorDiv : Int → Int → (Int → Option R) → Option R) : Tab R := tcons 36 (R01_FloorDiv_ca R01_FloorDiv) <| fun _ _ _ _ => none
def R07_Inverse_C (R : Type) (k : Nat) : Tab R := R07_Inverse_Ct R01_FloorDiv
theorem R07_Inverse_S (R : Type) (k : Nat) : CSound Try.prog (R07_Inverse_C R k) := csound_cons (R01_FloorDiv_cs R k) <| csound_nil
def R07_Inverse_Jt {R : Type} (k : Nat) : JTab R := fun _ _ _ _ => none
def R07_Inverse_J (R : Type) (k : Nat) : JTab R := R07_Inverse_Jt k
def R07_Inverse_at : AT := (.seq (.reg [0, 1, 2, 3] []) (.seq (.seq (.reg [0, 1, 2, 3, 13] []) (.cond (.seq (.reg [2, 3, 9] []) (.seq (.reg [8, 9, 10] []) .leaf)) .leaf)) (.seq (.seq (.reg [1, 2, 3, 28] []) (.cond (.seq (.reg [2, 3, 11] []) (.seq (.reg [2, 3, 10, 11] []) (.seq (.reg [8, 9, 10] []) .leaf))) .leaf)) (.seq (.reg [8, 9, 10] []) .leaf))))
def R07_Inverse_f : IFn := ⟨47, [.t 8, .t 9, .t 10], (.seq (.reg [⟨some 8, .mov (.c (Go.Value.int Go.IntKind.i64 0)), none⟩,
 ⟨some 9, .mov (.c (Go.Value.int Go.IntKind.i64 0)), none⟩,
 ⟨some 10, .mov (.c (Go.Value.int Go.IntKind.i64 0)), none⟩] [0, 1, 2, 3]) (.seq (.seq (.reg [⟨some 12, .mov (.t 0), none⟩,
 ⟨some 13, .cmp .eql (.t 12) (.c (Go.Value.int Go.IntKind.i64 1)), none⟩] [0, 1, 2, 3, 13]) (.cond (.t 13) (.seq (.reg [⟨some 14, .mov (.t 1), none⟩,
 ⟨some 15, .mov (.t 2), none⟩,
 ⟨some 16, .mov (.t 3), none⟩,
 ⟨some 17, .bin .add .i64 (.t 15) (.t 16), none⟩,
 ⟨some 18, .call 36 [(.t 17), (.c (Go.Value.int Go.IntKind.i64 4))] (.one (.sc (.int .i64))), none⟩,
 ⟨some 19, .bin .sub .i64 (.t 14) (.t 18), none⟩,
 ⟨some 9, .mov (.t 19), none⟩] [2, 3, 9]) (.seq (.reg [⟨some 20, .mov (.t 3), none⟩,
 ⟨some 21, .mov (.t 9), none⟩,
 ⟨some 22, .bin .add .i64 (.t 20) (.t 21), none⟩,
 ⟨some 23, .mov (.t 9), none⟩,
 ⟨some 24, .mov (.t 2), none⟩,
 ⟨some 25, .mov (.t 9), none⟩,
 ⟨some 26, .bin .add .i64 (.t 24) (.t 25), none⟩,
 ⟨some 8, .mov (.t 22), none⟩,
 ⟨some 9, .mov (.t 23), none⟩,
 ⟨some 10, .mov (.t 26), none⟩] [8, 9, 10]) .ret)) .skip)) (.seq (.seq (.reg [⟨some 27, .mov (.t 0), none⟩,
 ⟨some 28, .cmp .eql (.t 27) (.c (Go.Value.int Go.IntKind.i64 2)), none⟩] [1, 2, 3, 28]) (.cond (.t 28) (.seq (.reg [⟨some 29, .mov (.t 1), none⟩,
 ⟨some 30, .mov (.t 3), none⟩,
 ⟨some 31, .call 36 [(.t 30), (.c (Go.Value.int Go.IntKind.i64 2))] (.one (.sc (.int .i64))), none⟩,
 ⟨some 32, .bin .sub .i64 (.t 29) (.t 31), none⟩,
 ⟨some 11, .mov (.t 32), none⟩] [2, 3, 11]) (.seq (.reg [⟨some 33, .mov (.t 11), none⟩,
 ⟨some 34, .mov (.t 2), none⟩,
 ⟨some 35, .call 36 [(.t 34), (.c (Go.Value.int Go.IntKind.i64 2))] (.one (.sc (.int .i64))), none⟩,
 ⟨some 36, .bin .sub .i64 (.t 33) (.t 35), none⟩,
 ⟨some 10, .mov (.t 36), none⟩] [2, 3, 10, 11]) (.seq (.reg [⟨some 37, .mov (.t 10), none⟩,
 ⟨some 38, .mov (.t 2), none⟩,
 ⟨some 39, .bin .add .i64 (.t 37) (.t 38), none⟩,
 ⟨some 40, .mov (.t 3), none⟩,
 ⟨some 41, .mov (.t 11), none⟩,
 ⟨some 42, .bin .add .i64 (.t 40) (.t 41), none⟩,
 ⟨some 43, .mov (.t 10), none⟩,
 ⟨some 8, .mov (.t 39), none⟩,
 ⟨some 9, .mov (.t 42), none⟩,
 ⟨some 10, .mov (.t 43), none⟩] [8, 9, 10]) .ret))) .skip)) (.seq (.reg [⟨some 44, .mov (.t 1), none⟩,
 ⟨some 45, .mov (.t 2), none⟩,
 ⟨some 46, .mov (.t 3), none⟩,
 ⟨some 8, .mov (.t 44), none⟩,
 ⟨some 9, .mov (.t 45), none⟩,
 ⟨some 10, .mov (.t 46), none⟩] [8, 9, 10]) .ret))))⟩
def R07_Inverse_ca {R : Type} (f : Int → Int → Int → Int → (Int → Int → Int → Option R) → Option R) (args : List Value) (H : Heap) (K : Value → Heap → Option R) : Option R :=
  match args with
  | [.int .i64 n266, .int .i64 n267, .int .i64 n268, .int .i64 n269] => f n266 n267 n268 n269 (fun n1147 n1148 n1149 => K (.tuple ⟨[.int .i64 n1147, .int .i64 n1148, .int .i64 n1149]⟩) H)
  | _ => none
def R07_Inverse_c (R : Type) (k : Nat) (args : List Value) (H : Heap) (K : Value → Heap → Option R) : Option R := R07_Inverse_ca R07_Inverse args H K
theorem R07_Inverse_e {R : Type} (R01_FloorDiv : Int → Int → (Int → Option R) → Option R) (k : Nat) (n266 : Int) (n267 : Int) (n268 : Int) (n269 : Int) (H : Heap) (K : Value → Heap → Option R) : evF (R07_Inverse_Ct R01_FloorDiv) (R07_Inverse_Jt k) R07_Inverse_f [.int .i64 n266, .int .i64 n267, .int .i64 n268, .int .i64 n269] H K = R07_Inverse_b R01_FloorDiv k n266 n267 n268 n269 (fun n1147 n1148 n1149 => K (.tuple ⟨[.int .i64 n1147, .int .i64 n1148, .int .i64 n1149]⟩) H) := by kernel_rfl
theorem R07_Inverse_cs (R : Type) (k : Nat) : ∀ args H K r, R07_Inverse_c R k args H K = some r → ∃ v H', Tri Try.prog 16 args H v H' ∧ K v H' = some r := by
  intro args H K r h
  unfold R07_Inverse_c R07_Inverse_ca at h
  split at h
  · exact evF_ok (C := R07_Inverse_C R 0) (an := An) (t := R07_Inverse_at) (fn := Try.f16) (c := (Try.f16.body.getD .skip)) (ifn := R07_Inverse_f) (R07_Inverse_S R 0) (R07_Inverse_J R 0) Try.func16 (by kernel_rfl) (by kernel_rfl) (And.intro True.intro (And.intro (And.intro True.intro (And.intro (And.intro True.intro (And.intro True.intro True.intro)) True.intro)) (And.intro (And.intro True.intro (And.intro (And.intro True.intro (And.intro True.intro (And.intro True.intro True.intro))) True.intro)) (And.intro True.intro True.intro)))) rfl (Eq.trans (R07_Inverse_e R01_FloorDiv 0 _ _ _ _ H K) h)
  · cases h
end Go.Proofs.Ytoeoolnkndkefaa.Sh
