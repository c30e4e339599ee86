/- Lean functions that stand for Go's, over an explicit heap, and the proofs that they do (written by this claim's program shallow.py). -/
import Derived.Test.YtblpaolcgkjcgaaSh0
import Derived.Test.YtblpaolcgkjcgaaSh4
set_option maxRecDepth 100000
set_option linter.unusedVariables false
set_option linter.unusedSimpArgs false
namespace Go.Proofs.Ytblpaolcgkjcgaa.Sh
open Go.Proofs.Ytblpaolcgkjcgaa.FW
/-! ### R14_New: function 36 -/
def R14_New_b {R : Type} (R14_ValidSize : Int → Int → (Bool → Option R) → Option R) (k : Nat) (n427 : Int) (n428 : Int) (H : Heap) (K : Option Addr → Int → Heap → Option R) : Option R :=
R14_ValidSize n427 n428 fun t429 =>
bif (!t429) then (K none 2 H)
 else (hmk [.int .i64 0, .bool false, .bool false, .bool false] 16 H (IntKind.wrap .i64 (n427 * n428)) (IntKind.wrap .i64 (n427 * n428)) fun q430 l431 c432 H433 =>
hal H433 [.int .i64 n427, .int .i64 n428, .slice q430 l431 c432] fun p434 H435 =>
K p434 0 H435)

def R14_New {R : Type} (n427 : Int) (n428 : Int) (H : Heap) (K : Option Addr → Int → Heap → Option R) : Option R := R14_New_b R14_ValidSize 0 n427 n428 H K

def R14_New_Ct {R : Type} (R14_ValidSize : Int → Int → (Bool → Option R) → Option R) : Tab R := tcons 41 (R14_ValidSize_ca R14_ValidSize) <| fun _ _ _ _ => none
def R14_New_C (R : Type) (k : Nat) : Tab R := R14_New_Ct R14_ValidSize
theorem R14_New_S (R : Type) (k : Nat) : CSound Try.prog (R14_New_C R k) := csound_cons (R14_ValidSize_cs R k) <| csound_nil
def R14_New_Jt {R : Type} (k : Nat) : JTab R := fun _ _ _ _ => none
def R14_New_J (R : Type) (k : Nat) : JTab R := R14_New_Jt k
def R14_New_at : AT := (.seq (.reg [0, 1] []) (.seq (.seq (.reg [0, 1, 9] []) (.cond (.seq (.reg [4, 5] []) .leaf) .leaf)) (.seq (.reg [4, 5] []) .leaf)))
def R14_New_f : IFn := ⟨18, [.t 4, .t 5], (.seq (.reg [⟨some 4, .mov (.c (Go.Value.pointer none)), none⟩,
 ⟨some 5, .mov (.c (Go.Value.int Go.IntKind.i64 0)), none⟩] [0, 1]) (.seq (.seq (.reg [⟨some 6, .mov (.t 0), none⟩,
 ⟨some 7, .mov (.t 1), none⟩,
 ⟨some 8, .call 41 [(.t 6), (.t 7)] (.one (.sc .bool)), none⟩,
 ⟨some 9, .lnot (.t 8), none⟩] [0, 1, 9]) (.cond (.t 9) (.seq (.reg [⟨some 4, .mov (.c (Go.Value.pointer none)), none⟩,
 ⟨some 5, .mov (.c (Go.Value.int Go.IntKind.i64 2)), none⟩] [4, 5]) .ret) .skip)) (.seq (.reg [⟨some 10, .mov (.t 0), none⟩,
 ⟨some 11, .mov (.t 1), none⟩,
 ⟨some 12, .mov (.t 0), none⟩,
 ⟨some 13, .mov (.t 1), none⟩,
 ⟨some 14, .bin .mul .i64 (.t 12) (.t 13), none⟩,
 ⟨some 15, .mks [.int .i64 0, .bool false, .bool false, .bool false] 16 (.t 14) (.t 14), none⟩,
 ⟨some 16, .bld [.int .i64 0, .int .i64 0, .slice none 0 0] [(0, 1, (.t 10)), (1, 1, (.t 11)), (2, 1, (.t 15))], none⟩,
 ⟨some 17, .box (.t 16), none⟩,
 ⟨some 4, .mov (.t 17), none⟩,
 ⟨some 5, .mov (.c (Go.Value.int Go.IntKind.i64 0)), none⟩] [4, 5]) .ret)))⟩
def R14_New_ca {R : Type} (f : Int → Int → Heap → (Option Addr → Int → Heap → Option R) → Option R) (args : List Value) (H : Heap) (K : Value → Heap → Option R) : Option R :=
  match args with
  | [.int .i64 n427, .int .i64 n428] => f n427 n428 H (fun p1175 n1176 H => K (.tuple ⟨[.pointer p1175, .int .i64 n1176]⟩) H)
  | _ => none
def R14_New_c (R : Type) (k : Nat) (args : List Value) (H : Heap) (K : Value → Heap → Option R) : Option R := R14_New_ca R14_New args H K
theorem R14_New_e {R : Type} (R14_ValidSize : Int → Int → (Bool → Option R) → Option R) (k : Nat) (n427 : Int) (n428 : Int) (H : Heap) (K : Value → Heap → Option R) : evF (R14_New_Ct R14_ValidSize) (R14_New_Jt k) R14_New_f [.int .i64 n427, .int .i64 n428] H K = R14_New_b R14_ValidSize k n427 n428 H (fun p1175 n1176 H => K (.tuple ⟨[.pointer p1175, .int .i64 n1176]⟩) H) := by kernel_rfl
theorem R14_New_cs (R : Type) (k : Nat) : ∀ args H K r, R14_New_c R k args H K = some r → ∃ v H', Tri Try.prog 36 args H v H' ∧ K v H' = some r := by
  intro args H K r h
  unfold R14_New_c R14_New_ca at h
  split at h
  · exact evF_ok (C := R14_New_C R 0) (an := An) (t := R14_New_at) (fn := Try.f36) (c := (Try.f36.body.getD .skip)) (ifn := R14_New_f) (R14_New_S R 0) (R14_New_J R 0) Try.func36 (by kernel_rfl) (by kernel_rfl) (And.intro True.intro (And.intro (And.intro True.intro (And.intro (And.intro True.intro True.intro) True.intro)) (And.intro True.intro True.intro))) rfl (Eq.trans (R14_New_e R14_ValidSize 0 _ _ H K) h)
  · cases h
/-! ### R14_Block_made: function 67 -/
def R14_Block_made_b {R : Type} (k : Nat) (p523 : Option Addr) (H : Heap) (K : Bool → Option R) : Option R :=
bif p523.isSome then (hnil p523 fun p524 =>
hfad 2 p524 fun p525 =>
ldL H p525 fun q526 l527 c528 =>
K (decide (((l527 : Nat) : Int) > 0)))
 else (K false)

def R14_Block_made {R : Type} (p523 : Option Addr) (H : Heap) (K : Bool → Option R) : Option R := R14_Block_made_b 0 p523 H K

def R14_Block_made_Ct {R : Type} : Tab R := fun _ _ _ _ => none
def R14_Block_made_C (R : Type) (k : Nat) : Tab R := R14_Block_made_Ct
theorem R14_Block_made_S (R : Type) (k : Nat) : CSound Try.prog (R14_Block_made_C R k) := csound_nil
def R14_Block_made_Jt {R : Type} (k : Nat) : JTab R := fun _ _ _ _ => none
def R14_Block_made_J (R : Type) (k : Nat) : JTab R := R14_Block_made_Jt k
def R14_Block_made_at : AT := (.seq (.reg [0] []) (.seq (.reg [2] []) .leaf))
def R14_Block_made_f : IFn := ⟨13, [.t 2], (.seq (.reg [⟨some 2, .mov (.c (Go.Value.bool false)), none⟩] [0]) (.seq (.reg [⟨some 3, .mov (.t 0), none⟩,
 ⟨some 4, .eqnil (.t 3) true 0, none⟩,
 ⟨some 5, .mov (.t 4), none⟩,
 ⟨some 6, .mov (.t 0), some (5, true)⟩,
 ⟨some 7, .nilc (.t 6), some (5, true)⟩,
 ⟨some 8, .fad 2 (.t 7), some (5, true)⟩,
 ⟨some 9, .ld (.sc .slc) (.t 8), some (5, true)⟩,
 ⟨some 10, .len false (.t 9), some (5, true)⟩,
 ⟨some 11, .cmp .gtr (.t 10) (.c (Go.Value.int Go.IntKind.i64 0)), some (5, true)⟩,
 ⟨some 12, .pick (.t 5) (.t 11) (.c (Go.Value.bool false)), none⟩,
 ⟨some 2, .mov (.t 12), none⟩] [2]) .ret))⟩
def R14_Block_made_ca {R : Type} (f : Option Addr → Heap → (Bool → Option R) → Option R) (args : List Value) (H : Heap) (K : Value → Heap → Option R) : Option R :=
  match args with
  | [.pointer p523] => f p523 H (fun t1177 => K (.bool t1177) H)
  | _ => none
def R14_Block_made_c (R : Type) (k : Nat) (args : List Value) (H : Heap) (K : Value → Heap → Option R) : Option R := R14_Block_made_ca R14_Block_made args H K
theorem R14_Block_made_e {R : Type} (k : Nat) (p523 : Option Addr) (H : Heap) (K : Value → Heap → Option R) : evF (R14_Block_made_Ct) (R14_Block_made_Jt k) R14_Block_made_f [.pointer p523] H K = R14_Block_made_b k p523 H (fun t1177 => K (.bool t1177) H) := by kernel_rfl
theorem R14_Block_made_cs (R : Type) (k : Nat) : ∀ args H K r, R14_Block_made_c R k args H K = some r → ∃ v H', Tri Try.prog 67 args H v H' ∧ K v H' = some r := by
  intro args H K r h
  unfold R14_Block_made_c R14_Block_made_ca at h
  split at h
  · exact evF_ok (C := R14_Block_made_C R 0) (an := An) (t := R14_Block_made_at) (fn := Try.f67) (c := (Try.f67.body.getD .skip)) (ifn := R14_Block_made_f) (R14_Block_made_S R 0) (R14_Block_made_J R 0) Try.func67 (by kernel_rfl) (by kernel_rfl) (And.intro True.intro (And.intro True.intro True.intro)) rfl (Eq.trans (R14_Block_made_e 0 _ H K) h)
  · cases h
/-! ### R14_Block_in: function 61 -/
def R14_Block_in_b {R : Type} (R14_Block_made : Option Addr → Heap → (Bool → Option R) → Option R) (k : Nat) (p531 : Option Addr) (n532 : Int) (n533 : Int) (H : Heap) (K : Bool → Option R) : Option R :=
R14_Block_made p531 H fun t534 =>
bif t534 then (bif decide (0 ≤ n532) then (hnil p531 fun p535 =>
hfad 0 p535 fun p536 =>
ldI .i64 H p536 fun n537 =>
bif decide (n532 < n537) then (bif decide (0 ≤ n533) then (hnil p531 fun p538 =>
hfad 1 p538 fun p539 =>
ldI .i64 H p539 fun n540 =>
K (decide (n533 < n540)))
 else (K false))
 else (K false))
 else (K false))
 else (K false)

def R14_Block_in {R : Type} (p531 : Option Addr) (n532 : Int) (n533 : Int) (H : Heap) (K : Bool → Option R) : Option R := R14_Block_in_b R14_Block_made 0 p531 n532 n533 H K

def R14_Block_in_Ct {R : Type} (R14_Block_made : Option Addr → Heap → (Bool → Option R) → Option R) : Tab R := tcons 67 (R14_Block_made_ca R14_Block_made) <| fun _ _ _ _ => none
def R14_Block_in_C (R : Type) (k : Nat) : Tab R := R14_Block_in_Ct R14_Block_made
theorem R14_Block_in_S (R : Type) (k : Nat) : CSound Try.prog (R14_Block_in_C R k) := csound_cons (R14_Block_made_cs R k) <| csound_nil
def R14_Block_in_Jt {R : Type} (k : Nat) : JTab R := fun _ _ _ _ => none
def R14_Block_in_J (R : Type) (k : Nat) : JTab R := R14_Block_in_Jt k
def R14_Block_in_at : AT := (.seq (.reg [0, 1, 2] []) (.seq (.reg [6] []) .leaf))
def R14_Block_in_f : IFn := ⟨33, [.t 6], (.seq (.reg [⟨some 6, .mov (.c (Go.Value.bool false)), none⟩] [0, 1, 2]) (.seq (.reg [⟨some 7, .mov (.t 0), none⟩,
 ⟨some 8, .call 67 [(.t 7)] (.one (.sc .bool)), none⟩,
 ⟨some 9, .mov (.t 8), none⟩,
 ⟨some 10, .mov (.t 1), some (9, true)⟩,
 ⟨some 11, .cmp .leq (.c (Go.Value.int Go.IntKind.i64 0)) (.t 10), some (9, true)⟩,
 ⟨some 12, .pick (.t 9) (.t 11) (.c (Go.Value.bool false)), none⟩,
 ⟨some 13, .mov (.t 12), none⟩,
 ⟨some 14, .mov (.t 1), some (13, true)⟩,
 ⟨some 15, .mov (.t 0), some (13, true)⟩,
 ⟨some 16, .nilc (.t 15), some (13, true)⟩,
 ⟨some 17, .fad 0 (.t 16), some (13, true)⟩,
 ⟨some 18, .ld (.sc (.int .i64)) (.t 17), some (13, true)⟩,
 ⟨some 19, .cmp .lss (.t 14) (.t 18), some (13, true)⟩,
 ⟨some 20, .pick (.t 13) (.t 19) (.c (Go.Value.bool false)), none⟩,
 ⟨some 21, .mov (.t 20), none⟩,
 ⟨some 22, .mov (.t 2), some (21, true)⟩,
 ⟨some 23, .cmp .leq (.c (Go.Value.int Go.IntKind.i64 0)) (.t 22), some (21, true)⟩,
 ⟨some 24, .pick (.t 21) (.t 23) (.c (Go.Value.bool false)), none⟩,
 ⟨some 25, .mov (.t 24), none⟩,
 ⟨some 26, .mov (.t 2), some (25, true)⟩,
 ⟨some 27, .mov (.t 0), some (25, true)⟩,
 ⟨some 28, .nilc (.t 27), some (25, true)⟩,
 ⟨some 29, .fad 1 (.t 28), some (25, true)⟩,
 ⟨some 30, .ld (.sc (.int .i64)) (.t 29), some (25, true)⟩,
 ⟨some 31, .cmp .lss (.t 26) (.t 30), some (25, true)⟩,
 ⟨some 32, .pick (.t 25) (.t 31) (.c (Go.Value.bool false)), none⟩,
 ⟨some 6, .mov (.t 32), none⟩] [6]) .ret))⟩
def R14_Block_in_ca {R : Type} (f : Option Addr → Int → Int → Heap → (Bool → Option R) → Option R) (args : List Value) (H : Heap) (K : Value → Heap → Option R) : Option R :=
  match args with
  | [.pointer p531, .int .i64 n532, .int .i64 n533] => f p531 n532 n533 H (fun t1178 => K (.bool t1178) H)
  | _ => none
def R14_Block_in_c (R : Type) (k : Nat) (args : List Value) (H : Heap) (K : Value → Heap → Option R) : Option R := R14_Block_in_ca R14_Block_in args H K
theorem R14_Block_in_e {R : Type} (R14_Block_made : Option Addr → Heap → (Bool → Option R) → Option R) (k : Nat) (p531 : Option Addr) (n532 : Int) (n533 : Int) (H : Heap) (K : Value → Heap → Option R) : evF (R14_Block_in_Ct R14_Block_made) (R14_Block_in_Jt k) R14_Block_in_f [.pointer p531, .int .i64 n532, .int .i64 n533] H K = R14_Block_in_b R14_Block_made k p531 n532 n533 H (fun t1178 => K (.bool t1178) H) := by kernel_rfl
theorem R14_Block_in_cs (R : Type) (k : Nat) : ∀ args H K r, R14_Block_in_c R k args H K = some r → ∃ v H', Tri Try.prog 61 args H v H' ∧ K v H' = some r := by
  intro args H K r h
  unfold R14_Block_in_c R14_Block_in_ca at h
  split at h
  · exact evF_ok (C := R14_Block_in_C R 0) (an := An) (t := R14_Block_in_at) (fn := Try.f61) (c := (Try.f61.body.getD .skip)) (ifn := R14_Block_in_f) (R14_Block_in_S R 0) (R14_Block_in_J R 0) Try.func61 (by kernel_rfl) (by kernel_rfl) (And.intro True.intro (And.intro True.intro True.intro)) rfl (Eq.trans (R14_Block_in_e R14_Block_made 0 _ _ _ H K) h)
  · cases h
/-! ### R14_Block_error: function 65 -/
def R14_Block_error_b {R : Type} (R14_Block_made : Option Addr → Heap → (Bool → Option R) → Option R) (R14_Block_in : Option Addr → Int → Int → Heap → (Bool → Option R) → Option R) (k : Nat) (p520 : Option Addr) (n521 : Int) (n522 : Int) (H : Heap) (K : Int → Option R) : Option R :=
R14_Block_made p520 H fun t523 =>
bif (!t523) then (K 6)
 else (R14_Block_in p520 n521 n522 H fun t524 =>
bif (!t524) then (K 2)
 else (K 0))

def R14_Block_error {R : Type} (p520 : Option Addr) (n521 : Int) (n522 : Int) (H : Heap) (K : Int → Option R) : Option R := R14_Block_error_b R14_Block_made R14_Block_in 0 p520 n521 n522 H K

def R14_Block_error_Ct {R : Type} (R14_Block_made : Option Addr → Heap → (Bool → Option R) → Option R) (R14_Block_in : Option Addr → Int → Int → Heap → (Bool → Option R) → Option R) : Tab R := tcons 67 (R14_Block_made_ca R14_Block_made) <| tcons 61 (R14_Block_in_ca R14_Block_in) <| fun _ _ _ _ => none
def R14_Block_error_C (R : Type) (k : Nat) : Tab R := R14_Block_error_Ct R14_Block_made R14_Block_in
theorem R14_Block_error_S (R : Type) (k : Nat) : CSound Try.prog (R14_Block_error_C R k) := csound_cons (R14_Block_made_cs R k) <| csound_cons (R14_Block_in_cs R k) <| csound_nil
def R14_Block_error_Jt {R : Type} (k : Nat) : JTab R := fun _ _ _ _ => none
def R14_Block_error_J (R : Type) (k : Nat) : JTab R := R14_Block_error_Jt k
def R14_Block_error_at : AT := (.seq (.reg [0, 1, 2] []) (.seq (.seq (.reg [0, 1, 2, 9] []) (.cond (.seq (.reg [6] []) .leaf) .leaf)) (.seq (.seq (.reg [14] []) (.cond (.seq (.reg [6] []) .leaf) .leaf)) (.seq (.reg [6] []) .leaf))))
def R14_Block_error_f : IFn := ⟨15, [.t 6], (.seq (.reg [⟨some 6, .mov (.c (Go.Value.int Go.IntKind.i64 0)), none⟩] [0, 1, 2]) (.seq (.seq (.reg [⟨some 7, .mov (.t 0), none⟩,
 ⟨some 8, .call 67 [(.t 7)] (.one (.sc .bool)), none⟩,
 ⟨some 9, .lnot (.t 8), none⟩] [0, 1, 2, 9]) (.cond (.t 9) (.seq (.reg [⟨some 6, .mov (.c (Go.Value.int Go.IntKind.i64 6)), none⟩] [6]) .ret) .skip)) (.seq (.seq (.reg [⟨some 10, .mov (.t 0), none⟩,
 ⟨some 11, .mov (.t 1), none⟩,
 ⟨some 12, .mov (.t 2), none⟩,
 ⟨some 13, .call 61 [(.t 10), (.t 11), (.t 12)] (.one (.sc .bool)), none⟩,
 ⟨some 14, .lnot (.t 13), none⟩] [14]) (.cond (.t 14) (.seq (.reg [⟨some 6, .mov (.c (Go.Value.int Go.IntKind.i64 2)), none⟩] [6]) .ret) .skip)) (.seq (.reg [⟨some 6, .mov (.c (Go.Value.int Go.IntKind.i64 0)), none⟩] [6]) .ret))))⟩
def R14_Block_error_ca {R : Type} (f : Option Addr → Int → Int → Heap → (Int → Option R) → Option R) (args : List Value) (H : Heap) (K : Value → Heap → Option R) : Option R :=
  match args with
  | [.pointer p520, .int .i64 n521, .int .i64 n522] => f p520 n521 n522 H (fun n1179 => K (.int .i64 n1179) H)
  | _ => none
def R14_Block_error_c (R : Type) (k : Nat) (args : List Value) (H : Heap) (K : Value → Heap → Option R) : Option R := R14_Block_error_ca R14_Block_error args H K
theorem R14_Block_error_e {R : Type} (R14_Block_made : Option Addr → Heap → (Bool → Option R) → Option R) (R14_Block_in : Option Addr → Int → Int → Heap → (Bool → Option R) → Option R) (k : Nat) (p520 : Option Addr) (n521 : Int) (n522 : Int) (H : Heap) (K : Value → Heap → Option R) : evF (R14_Block_error_Ct R14_Block_made R14_Block_in) (R14_Block_error_Jt k) R14_Block_error_f [.pointer p520, .int .i64 n521, .int .i64 n522] H K = R14_Block_error_b R14_Block_made R14_Block_in k p520 n521 n522 H (fun n1179 => K (.int .i64 n1179) H) := by kernel_rfl
theorem R14_Block_error_cs (R : Type) (k : Nat) : ∀ args H K r, R14_Block_error_c R k args H K = some r → ∃ v H', Tri Try.prog 65 args H v H' ∧ K v H' = some r := by
  intro args H K r h
  unfold R14_Block_error_c R14_Block_error_ca at h
  split at h
  · exact evF_ok (C := R14_Block_error_C R 0) (an := An) (t := R14_Block_error_at) (fn := Try.f65) (c := (Try.f65.body.getD .skip)) (ifn := R14_Block_error_f) (R14_Block_error_S R 0) (R14_Block_error_J R 0) Try.func65 (by kernel_rfl) (by kernel_rfl) (And.intro True.intro (And.intro (And.intro True.intro (And.intro (And.intro True.intro True.intro) True.intro)) (And.intro (And.intro True.intro (And.intro (And.intro True.intro True.intro) True.intro)) (And.intro True.intro True.intro)))) rfl (Eq.trans (R14_Block_error_e R14_Block_made R14_Block_in 0 _ _ _ H K) h)
  · cases h
/-! ### R14_Block_Set: function 53 -/
def R14_Block_Set_p0_b {R : Type} (k : Nat) (p521 : Option Addr) (n522 : Int) (n523 : Int) (n524 : Int) (KN : Option Addr → Int → Int → Int → Option R) (KR : Int → Option R) : Option R :=
bif decide (n524 ≤ (-1152921504606846976)) then (KR 2)
 else (bif decide (n524 ≥ 1152921504606846976) then (KR 2)
 else (KN p521 n522 n523 n524))
def R14_Block_Set_p0 {R : Type} (k : Nat) (p521 : Option Addr) (n522 : Int) (n523 : Int) (n524 : Int) (KN : Option Addr → Int → Int → Int → Option R) (KR : Int → Option R) : Option R := R14_Block_Set_p0_b k p521 n522 n523 n524 KN KR

def R14_Block_Set_b {R : Type} (R14_Block_error : Option Addr → Int → Int → Heap → (Int → Option R) → Option R) (R14_Block_Set_p0 : Option Addr → Int → Int → Int → (Option Addr → Int → Int → Int → Option R) → (Int → Option R) → Option R) (k : Nat) (p516 : Option Addr) (n517 : Int) (n518 : Int) (n519 : Int) (H : Heap) (K : Int → Heap → Option R) : Option R :=
R14_Block_error p516 n517 n518 H fun n520 =>
bif (n520 != 0) then (K n520 H)
 else (R14_Block_Set_p0 p516 n517 n518 n519 (fun p530 n531 n532 n533 =>
hnil p530 fun p534 =>
hfad 2 p534 fun p535 =>
ldL H p535 fun q536 l537 c538 =>
hnil p530 fun p539 =>
hfad 0 p539 fun p540 =>
ldI .i64 H p540 fun n541 =>
hidx q536 l537 (IntKind.wrap .i64 ((IntKind.wrap .i64 (n532 * n541)) + n531)) 4 fun p542 =>
hfad 0 p542 fun p543 =>
hst1 H p543 (.int .i64 n533) fun H544 =>
K 0 H544) (fun n545 =>
K n545 H))

def R14_Block_Set {R : Type} (k : Nat) (p516 : Option Addr) (n517 : Int) (n518 : Int) (n519 : Int) (H : Heap) (K : Int → Heap → Option R) : Option R := R14_Block_Set_b R14_Block_error (R14_Block_Set_p0 k) k p516 n517 n518 n519 H K

def R14_Block_Set_Ct {R : Type} (R14_Block_error : Option Addr → Int → Int → Heap → (Int → Option R) → Option R) : Tab R := tcons 65 (R14_Block_error_ca R14_Block_error) <| fun _ _ _ _ => none
def R14_Block_Set_C (R : Type) (k : Nat) : Tab R := R14_Block_Set_Ct R14_Block_error
theorem R14_Block_Set_S (R : Type) (k : Nat) : CSound Try.prog (R14_Block_Set_C R k) := csound_cons (R14_Block_error_cs R k) <| csound_nil
def R14_Block_Set_aa0 {R : Type} (f : Option Addr → Int → Int → Int → (Option Addr → Int → Int → Int → Option R) → (Int → Option R) → Option R) (n : Nat) (vals : List Value) (H : Heap) (K : Xit → Env → Heap → Option R) : Option R :=
  match vals with
  | [.pointer p521, .int .i64 n522, .int .i64 n523, .int .i64 n524] => f p521 n522 n523 n524 (fun p1180 n1181 n1182 n1183 => K .normal [(0, .pointer p1180), (1, .int .i64 n1181), (2, .int .i64 n1182), (3, .int .i64 n1183)] H) (fun n1184 => K .ret [(8, .int .i64 n1184)] H)
  | _ => none
def R14_Block_Set_a0 (R : Type) (k n : Nat) (vals : List Value) (H : Heap) (K : Xit → Env → Heap → Option R) : Option R := R14_Block_Set_aa0 (R14_Block_Set_p0 k) n vals H K
def R14_Block_Set_Jt {R : Type} (k : Nat) (R14_Block_Set_p0 : Option Addr → Int → Int → Int → (Option Addr → Int → Int → Int → Option R) → (Int → Option R) → Option R) : JTab R := tcons 0 (R14_Block_Set_aa0 R14_Block_Set_p0 k) <| fun _ _ _ _ => none
def R14_Block_Set_J (R : Type) (k : Nat) : JTab R := R14_Block_Set_Jt k (R14_Block_Set_p0 k)
def R14_Block_Set_at : AT := (.seq (.reg [0, 1, 2, 3] []) (.seq (.seq (.reg [0, 1, 2, 3, 9] []) (.seq (.reg [0, 1, 2, 3, 9, 15] []) (.cond (.seq (.reg [8] []) .leaf) .leaf))) (.seq (.opq 0 [0, 1, 2, 3] ⟨[0, 1, 2, 3], [], [8]⟩ (.seq (.reg [0, 1, 2, 3, 22] []) (.cond (.seq (.reg [8] []) .leaf) .leaf))) (.seq (.reg [] [[], [0], [0, 1], [0, 1, 2], [], [], [5], [5, 6], [5, 6, 7], [4, 5, 6, 7, 8], [], [4, 5, 6, 7, 8, 9, 10], [], [0, 1, 2, 3, 4, 5, 6, 7, 8, 9, 10, 11, 12], [0, 1, 2, 3, 4, 5, 6, 7, 8, 9, 10, 11, 12, 13], [0, 1, 2, 3, 4, 5, 6, 7, 8, 9, 10, 11, 12, 13, 14]]) (.seq (.reg [8] []) .leaf)))))
def R14_Block_Set_i0 : IC := (.seq (.reg [⟨some 17, .mov (.t 3), none⟩,
 ⟨some 18, .cmp .leq (.t 17) (.c (Go.Value.int Go.IntKind.i64 (-1152921504606846976))), none⟩,
 ⟨some 19, .mov (.t 18), none⟩,
 ⟨some 20, .mov (.t 3), some (19, false)⟩,
 ⟨some 21, .cmp .geq (.t 20) (.c (Go.Value.int Go.IntKind.i64 1152921504606846976)), some (19, false)⟩,
 ⟨some 22, .pick (.t 19) (.c (Go.Value.bool true)) (.t 21), none⟩] [0, 1, 2, 3, 22]) (.cond (.t 22) (.seq (.reg [⟨some 8, .mov (.c (Go.Value.int Go.IntKind.i64 2)), none⟩] [8]) .ret) .skip))
def R14_Block_Set_f : IFn := ⟨38, [.t 8], (.seq (.reg [⟨some 8, .mov (.c (Go.Value.int Go.IntKind.i64 0)), none⟩] [0, 1, 2, 3]) (.seq (.seq (.reg [⟨some 10, .mov (.t 0), none⟩,
 ⟨some 11, .mov (.t 1), none⟩,
 ⟨some 12, .mov (.t 2), none⟩,
 ⟨some 13, .call 65 [(.t 10), (.t 11), (.t 12)] (.one (.sc (.int .i64))), none⟩,
 ⟨some 9, .mov (.t 13), none⟩] [0, 1, 2, 3, 9]) (.seq (.reg [⟨some 14, .mov (.t 9), none⟩,
 ⟨some 15, .cmp .neq (.t 14) (.c (Go.Value.int Go.IntKind.i64 0)), none⟩] [0, 1, 2, 3, 9, 15]) (.cond (.t 15) (.seq (.reg [⟨some 16, .mov (.t 9), none⟩,
 ⟨some 8, .mov (.t 16), none⟩] [8]) .ret) .skip))) (.seq (.opq 0 [0, 1, 2, 3] R14_Block_Set_i0) (.seq (.reg [⟨some 23, .mov (.t 0), none⟩,
 ⟨some 24, .nilc (.t 23), none⟩,
 ⟨some 25, .fad 2 (.t 24), none⟩,
 ⟨some 26, .ld (.sc .slc) (.t 25), none⟩,
 ⟨some 27, .mov (.t 2), none⟩,
 ⟨some 28, .mov (.t 0), none⟩,
 ⟨some 29, .nilc (.t 28), none⟩,
 ⟨some 30, .fad 0 (.t 29), none⟩,
 ⟨some 31, .ld (.sc (.int .i64)) (.t 30), none⟩,
 ⟨some 32, .bin .mul .i64 (.t 27) (.t 31), none⟩,
 ⟨some 33, .mov (.t 1), none⟩,
 ⟨some 34, .bin .add .i64 (.t 32) (.t 33), none⟩,
 ⟨some 35, .mov (.t 3), none⟩,
 ⟨some 36, .ids 4 (.t 26) (.t 34), none⟩,
 ⟨some 37, .fad 0 (.t 36), none⟩,
 ⟨none, .st 1 (.t 37) (.t 35), none⟩] []) (.seq (.reg [⟨some 8, .mov (.c (Go.Value.int Go.IntKind.i64 0)), none⟩] [8]) .ret)))))⟩
theorem R14_Block_Set_e0 {R : Type} (R14_Block_error : Option Addr → Int → Int → Heap → (Int → Option R) → Option R) (R14_Block_Set_p0 : Option Addr → Int → Int → Int → (Option Addr → Int → Int → Int → Option R) → (Int → Option R) → Option R) (k : Nat) (p521 : Option Addr) (n522 : Int) (n523 : Int) (n524 : Int) (H : Heap) (K : Xit → Env → Heap → Option R) : evJ (R14_Block_Set_Ct R14_Block_error) (R14_Block_Set_Jt k R14_Block_Set_p0) R14_Block_Set_i0 (List.zip [0, 1, 2, 3] [.pointer p521, .int .i64 n522, .int .i64 n523, .int .i64 n524]) H (fun x e' H' => K x (clean e' ((⟨[0, 1, 2, 3], [], [8]⟩ : Out).of x)) H') = R14_Block_Set_p0_b k p521 n522 n523 n524 (fun p1180 n1181 n1182 n1183 => K .normal [(0, .pointer p1180), (1, .int .i64 n1181), (2, .int .i64 n1182), (3, .int .i64 n1183)] H) (fun n1184 => K .ret [(8, .int .i64 n1184)] H) := by kernel_rfl
theorem R14_Block_Set_j0 {R : Type} (k : Nat) : JS Try.prog 38 (R14_Block_Set_a0 R k k) [0, 1, 2, 3] ⟨[0, 1, 2, 3], [], [8]⟩ (sel [1, 1, 0] (Try.f53.body.getD .skip)) :=
  piece_ok (nt := 38) (c := (sel [1, 1, 0] (Try.f53.body.getD .skip))) (C := R14_Block_Set_C R k) (an := An) (t := (.seq (.reg [0, 1, 2, 3, 22] []) (.cond (.seq (.reg [8] []) .leaf) .leaf))) (ic := R14_Block_Set_i0) (R14_Block_Set_S R k) (R14_Block_Set_J R k) (by kernel_rfl) (And.intro True.intro (And.intro (And.intro True.intro True.intro) True.intro)) (R14_Block_Set_a0 R k k)
    (fun vals H K r h => by
      unfold R14_Block_Set_a0 R14_Block_Set_aa0 at h
      split at h <;> first | (cases h; done) | exact Eq.trans (R14_Block_Set_e0 R14_Block_error (R14_Block_Set_p0 k) k _ _ _ _ H K) h)
def R14_Block_Set_ca {R : Type} (f : Option Addr → Int → Int → Int → Heap → (Int → Heap → Option R) → Option R) (args : List Value) (H : Heap) (K : Value → Heap → Option R) : Option R :=
  match args with
  | [.pointer p516, .int .i64 n517, .int .i64 n518, .int .i64 n519] => f p516 n517 n518 n519 H (fun n1185 H => K (.int .i64 n1185) H)
  | _ => none
def R14_Block_Set_c (R : Type) (k : Nat) (args : List Value) (H : Heap) (K : Value → Heap → Option R) : Option R := R14_Block_Set_ca (R14_Block_Set k) args H K
theorem R14_Block_Set_e {R : Type} (R14_Block_error : Option Addr → Int → Int → Heap → (Int → Option R) → Option R) (R14_Block_Set_p0 : Option Addr → Int → Int → Int → (Option Addr → Int → Int → Int → Option R) → (Int → Option R) → Option R) (k : Nat) (p516 : Option Addr) (n517 : Int) (n518 : Int) (n519 : Int) (H : Heap) (K : Value → Heap → Option R) : evF (R14_Block_Set_Ct R14_Block_error) (R14_Block_Set_Jt k R14_Block_Set_p0) R14_Block_Set_f [.pointer p516, .int .i64 n517, .int .i64 n518, .int .i64 n519] H K = R14_Block_Set_b R14_Block_error R14_Block_Set_p0 k p516 n517 n518 n519 H (fun n1185 H => K (.int .i64 n1185) H) := by kernel_rfl
theorem R14_Block_Set_cs (R : Type) (k : Nat) : ∀ args H K r, R14_Block_Set_c R k args H K = some r → ∃ v H', Tri Try.prog 53 args H v H' ∧ K v H' = some r := by
  intro args H K r h
  unfold R14_Block_Set_c R14_Block_Set_ca at h
  split at h
  · exact evF_ok (C := R14_Block_Set_C R k) (an := An) (t := R14_Block_Set_at) (fn := Try.f53) (c := (Try.f53.body.getD .skip)) (ifn := R14_Block_Set_f) (R14_Block_Set_S R k) (R14_Block_Set_J R k) Try.func53 (by kernel_rfl) (by kernel_rfl) (And.intro True.intro (And.intro (And.intro True.intro (And.intro True.intro (And.intro (And.intro True.intro True.intro) True.intro))) (And.intro (R14_Block_Set_j0 k) (And.intro True.intro (And.intro True.intro True.intro))))) rfl (Eq.trans (R14_Block_Set_e R14_Block_error (R14_Block_Set_p0 k) k _ _ _ _ H K) h)
  · cases h
/-! ### R14_Block_Mark: function 54 -/
def R14_Block_Mark_b {R : Type} (R14_Block_error : Option Addr → Int → Int → Heap → (Int → Option R) → Option R) (k : Nat) (p553 : Option Addr) (n554 : Int) (n555 : Int) (H : Heap) (K : Int → Heap → Option R) : Option R :=
R14_Block_error p553 n554 n555 H fun n556 =>
bif (n556 != 0) then (K n556 H)
 else (hnil p553 fun p557 =>
hfad 2 p557 fun p558 =>
ldL H p558 fun q559 l560 c561 =>
hnil p553 fun p562 =>
hfad 0 p562 fun p563 =>
ldI .i64 H p563 fun n564 =>
hidx q559 l560 (IntKind.wrap .i64 ((IntKind.wrap .i64 (n555 * n564)) + n554)) 4 fun p565 =>
hfad 1 p565 fun p566 =>
hst1 H p566 (.bool true) fun H567 =>
K 0 H567)

def R14_Block_Mark {R : Type} (p553 : Option Addr) (n554 : Int) (n555 : Int) (H : Heap) (K : Int → Heap → Option R) : Option R := R14_Block_Mark_b R14_Block_error 0 p553 n554 n555 H K

def R14_Block_Mark_Ct {R : Type} (R14_Block_error : Option Addr → Int → Int → Heap → (Int → Option R) → Option R) : Tab R := tcons 65 (R14_Block_error_ca R14_Block_error) <| fun _ _ _ _ => none
def R14_Block_Mark_C (R : Type) (k : Nat) : Tab R := R14_Block_Mark_Ct R14_Block_error
theorem R14_Block_Mark_S (R : Type) (k : Nat) : CSound Try.prog (R14_Block_Mark_C R k) := csound_cons (R14_Block_error_cs R k) <| csound_nil
def R14_Block_Mark_Jt {R : Type} (k : Nat) : JTab R := fun _ _ _ _ => none
def R14_Block_Mark_J (R : Type) (k : Nat) : JTab R := R14_Block_Mark_Jt k
def R14_Block_Mark_at : AT := (.seq (.reg [0, 1, 2] []) (.seq (.seq (.reg [0, 1, 2, 7] []) (.seq (.reg [0, 1, 2, 7, 13] []) (.cond (.seq (.reg [6] []) .leaf) .leaf))) (.seq (.reg [] [[], [0], [0, 1], [0, 1, 2], [], [], [5], [5, 6], [5, 6, 7], [4, 5, 6, 7, 8], [], [4, 5, 6, 7, 8, 9, 10], [0, 1, 2, 3, 4, 5, 6, 7, 8, 9, 10, 11], [0, 1, 2, 3, 4, 5, 6, 7, 8, 9, 10, 11, 12], [0, 1, 2, 3, 4, 5, 6, 7, 8, 9, 10, 11, 12, 13]]) (.seq (.reg [6] []) .leaf))))
def R14_Block_Mark_f : IFn := ⟨29, [.t 6], (.seq (.reg [⟨some 6, .mov (.c (Go.Value.int Go.IntKind.i64 0)), none⟩] [0, 1, 2]) (.seq (.seq (.reg [⟨some 8, .mov (.t 0), none⟩,
 ⟨some 9, .mov (.t 1), none⟩,
 ⟨some 10, .mov (.t 2), none⟩,
 ⟨some 11, .call 65 [(.t 8), (.t 9), (.t 10)] (.one (.sc (.int .i64))), none⟩,
 ⟨some 7, .mov (.t 11), none⟩] [0, 1, 2, 7]) (.seq (.reg [⟨some 12, .mov (.t 7), none⟩,
 ⟨some 13, .cmp .neq (.t 12) (.c (Go.Value.int Go.IntKind.i64 0)), none⟩] [0, 1, 2, 7, 13]) (.cond (.t 13) (.seq (.reg [⟨some 14, .mov (.t 7), none⟩,
 ⟨some 6, .mov (.t 14), none⟩] [6]) .ret) .skip))) (.seq (.reg [⟨some 15, .mov (.t 0), none⟩,
 ⟨some 16, .nilc (.t 15), none⟩,
 ⟨some 17, .fad 2 (.t 16), none⟩,
 ⟨some 18, .ld (.sc .slc) (.t 17), none⟩,
 ⟨some 19, .mov (.t 2), none⟩,
 ⟨some 20, .mov (.t 0), none⟩,
 ⟨some 21, .nilc (.t 20), none⟩,
 ⟨some 22, .fad 0 (.t 21), none⟩,
 ⟨some 23, .ld (.sc (.int .i64)) (.t 22), none⟩,
 ⟨some 24, .bin .mul .i64 (.t 19) (.t 23), none⟩,
 ⟨some 25, .mov (.t 1), none⟩,
 ⟨some 26, .bin .add .i64 (.t 24) (.t 25), none⟩,
 ⟨some 27, .ids 4 (.t 18) (.t 26), none⟩,
 ⟨some 28, .fad 1 (.t 27), none⟩,
 ⟨none, .st 1 (.t 28) (.c (Go.Value.bool true)), none⟩] []) (.seq (.reg [⟨some 6, .mov (.c (Go.Value.int Go.IntKind.i64 0)), none⟩] [6]) .ret))))⟩
def R14_Block_Mark_ca {R : Type} (f : Option Addr → Int → Int → Heap → (Int → Heap → Option R) → Option R) (args : List Value) (H : Heap) (K : Value → Heap → Option R) : Option R :=
  match args with
  | [.pointer p553, .int .i64 n554, .int .i64 n555] => f p553 n554 n555 H (fun n1186 H => K (.int .i64 n1186) H)
  | _ => none
def R14_Block_Mark_c (R : Type) (k : Nat) (args : List Value) (H : Heap) (K : Value → Heap → Option R) : Option R := R14_Block_Mark_ca R14_Block_Mark args H K
theorem R14_Block_Mark_e {R : Type} (R14_Block_error : Option Addr → Int → Int → Heap → (Int → Option R) → Option R) (k : Nat) (p553 : Option Addr) (n554 : Int) (n555 : Int) (H : Heap) (K : Value → Heap → Option R) : evF (R14_Block_Mark_Ct R14_Block_error) (R14_Block_Mark_Jt k) R14_Block_Mark_f [.pointer p553, .int .i64 n554, .int .i64 n555] H K = R14_Block_Mark_b R14_Block_error k p553 n554 n555 H (fun n1186 H => K (.int .i64 n1186) H) := by kernel_rfl
theorem R14_Block_Mark_cs (R : Type) (k : Nat) : ∀ args H K r, R14_Block_Mark_c R k args H K = some r → ∃ v H', Tri Try.prog 54 args H v H' ∧ K v H' = some r := by
  intro args H K r h
  unfold R14_Block_Mark_c R14_Block_Mark_ca at h
  split at h
  · exact evF_ok (C := R14_Block_Mark_C R 0) (an := An) (t := R14_Block_Mark_at) (fn := Try.f54) (c := (Try.f54.body.getD .skip)) (ifn := R14_Block_Mark_f) (R14_Block_Mark_S R 0) (R14_Block_Mark_J R 0) Try.func54 (by kernel_rfl) (by kernel_rfl) (And.intro True.intro (And.intro (And.intro True.intro (And.intro True.intro (And.intro (And.intro True.intro True.intro) True.intro))) (And.intro True.intro (And.intro True.intro True.intro)))) rfl (Eq.trans (R14_Block_Mark_e R14_Block_error 0 _ _ _ H K) h)
  · cases h
/-! ### R14_Block_Touch: function 55 -/
def R14_Block_Touch_b {R : Type} (R14_Block_error : Option Addr → Int → Int → Heap → (Int → Option R) → Option R) (k : Nat) (p575 : Option Addr) (n576 : Int) (n577 : Int) (t578 : Bool) (H : Heap) (K : Int → Heap → Option R) : Option R :=
R14_Block_error p575 n576 n577 H fun n579 =>
bif (n579 != 0) then (K n579 H)
 else (hnil p575 fun p580 =>
hfad 2 p580 fun p581 =>
ldL H p581 fun q582 l583 c584 =>
hnil p575 fun p585 =>
hfad 0 p585 fun p586 =>
ldI .i64 H p586 fun n587 =>
hidx q582 l583 (IntKind.wrap .i64 ((IntKind.wrap .i64 (n577 * n587)) + n576)) 4 fun p588 =>
hfad 2 p588 fun p589 =>
hst1 H p589 (.bool t578) fun H590 =>
K 0 H590)

def R14_Block_Touch {R : Type} (p575 : Option Addr) (n576 : Int) (n577 : Int) (t578 : Bool) (H : Heap) (K : Int → Heap → Option R) : Option R := R14_Block_Touch_b R14_Block_error 0 p575 n576 n577 t578 H K

def R14_Block_Touch_Ct {R : Type} (R14_Block_error : Option Addr → Int → Int → Heap → (Int → Option R) → Option R) : Tab R := tcons 65 (R14_Block_error_ca R14_Block_error) <| fun _ _ _ _ => none
def R14_Block_Touch_C (R : Type) (k : Nat) : Tab R := R14_Block_Touch_Ct R14_Block_error
theorem R14_Block_Touch_S (R : Type) (k : Nat) : CSound Try.prog (R14_Block_Touch_C R k) := csound_cons (R14_Block_error_cs R k) <| csound_nil
def R14_Block_Touch_Jt {R : Type} (k : Nat) : JTab R := fun _ _ _ _ => none
def R14_Block_Touch_J (R : Type) (k : Nat) : JTab R := R14_Block_Touch_Jt k
def R14_Block_Touch_at : AT := (.seq (.reg [0, 1, 2, 3] []) (.seq (.seq (.reg [0, 1, 2, 3, 9] []) (.seq (.reg [0, 1, 2, 3, 9, 15] []) (.cond (.seq (.reg [8] []) .leaf) .leaf))) (.seq (.reg [] [[], [0], [0, 1], [0, 1, 2], [], [], [5], [5, 6], [5, 6, 7], [4, 5, 6, 7, 8], [], [4, 5, 6, 7, 8, 9, 10], [], [0, 1, 2, 3, 4, 5, 6, 7, 8, 9, 10, 11, 12], [0, 1, 2, 3, 4, 5, 6, 7, 8, 9, 10, 11, 12, 13], [0, 1, 2, 3, 4, 5, 6, 7, 8, 9, 10, 11, 12, 13, 14]]) (.seq (.reg [8] []) .leaf))))
def R14_Block_Touch_f : IFn := ⟨32, [.t 8], (.seq (.reg [⟨some 8, .mov (.c (Go.Value.int Go.IntKind.i64 0)), none⟩] [0, 1, 2, 3]) (.seq (.seq (.reg [⟨some 10, .mov (.t 0), none⟩,
 ⟨some 11, .mov (.t 1), none⟩,
 ⟨some 12, .mov (.t 2), none⟩,
 ⟨some 13, .call 65 [(.t 10), (.t 11), (.t 12)] (.one (.sc (.int .i64))), none⟩,
 ⟨some 9, .mov (.t 13), none⟩] [0, 1, 2, 3, 9]) (.seq (.reg [⟨some 14, .mov (.t 9), none⟩,
 ⟨some 15, .cmp .neq (.t 14) (.c (Go.Value.int Go.IntKind.i64 0)), none⟩] [0, 1, 2, 3, 9, 15]) (.cond (.t 15) (.seq (.reg [⟨some 16, .mov (.t 9), none⟩,
 ⟨some 8, .mov (.t 16), none⟩] [8]) .ret) .skip))) (.seq (.reg [⟨some 17, .mov (.t 0), none⟩,
 ⟨some 18, .nilc (.t 17), none⟩,
 ⟨some 19, .fad 2 (.t 18), none⟩,
 ⟨some 20, .ld (.sc .slc) (.t 19), none⟩,
 ⟨some 21, .mov (.t 2), none⟩,
 ⟨some 22, .mov (.t 0), none⟩,
 ⟨some 23, .nilc (.t 22), none⟩,
 ⟨some 24, .fad 0 (.t 23), none⟩,
 ⟨some 25, .ld (.sc (.int .i64)) (.t 24), none⟩,
 ⟨some 26, .bin .mul .i64 (.t 21) (.t 25), none⟩,
 ⟨some 27, .mov (.t 1), none⟩,
 ⟨some 28, .bin .add .i64 (.t 26) (.t 27), none⟩,
 ⟨some 29, .mov (.t 3), none⟩,
 ⟨some 30, .ids 4 (.t 20) (.t 28), none⟩,
 ⟨some 31, .fad 2 (.t 30), none⟩,
 ⟨none, .st 1 (.t 31) (.t 29), none⟩] []) (.seq (.reg [⟨some 8, .mov (.c (Go.Value.int Go.IntKind.i64 0)), none⟩] [8]) .ret))))⟩
def R14_Block_Touch_ca {R : Type} (f : Option Addr → Int → Int → Bool → Heap → (Int → Heap → Option R) → Option R) (args : List Value) (H : Heap) (K : Value → Heap → Option R) : Option R :=
  match args with
  | [.pointer p575, .int .i64 n576, .int .i64 n577, .bool t578] => f p575 n576 n577 t578 H (fun n1187 H => K (.int .i64 n1187) H)
  | _ => none
def R14_Block_Touch_c (R : Type) (k : Nat) (args : List Value) (H : Heap) (K : Value → Heap → Option R) : Option R := R14_Block_Touch_ca R14_Block_Touch args H K
theorem R14_Block_Touch_e {R : Type} (R14_Block_error : Option Addr → Int → Int → Heap → (Int → Option R) → Option R) (k : Nat) (p575 : Option Addr) (n576 : Int) (n577 : Int) (t578 : Bool) (H : Heap) (K : Value → Heap → Option R) : evF (R14_Block_Touch_Ct R14_Block_error) (R14_Block_Touch_Jt k) R14_Block_Touch_f [.pointer p575, .int .i64 n576, .int .i64 n577, .bool t578] H K = R14_Block_Touch_b R14_Block_error k p575 n576 n577 t578 H (fun n1187 H => K (.int .i64 n1187) H) := by kernel_rfl
theorem R14_Block_Touch_cs (R : Type) (k : Nat) : ∀ args H K r, R14_Block_Touch_c R k args H K = some r → ∃ v H', Tri Try.prog 55 args H v H' ∧ K v H' = some r := by
  intro args H K r h
  unfold R14_Block_Touch_c R14_Block_Touch_ca at h
  split at h
  · exact evF_ok (C := R14_Block_Touch_C R 0) (an := An) (t := R14_Block_Touch_at) (fn := Try.f55) (c := (Try.f55.body.getD .skip)) (ifn := R14_Block_Touch_f) (R14_Block_Touch_S R 0) (R14_Block_Touch_J R 0) Try.func55 (by kernel_rfl) (by kernel_rfl) (And.intro True.intro (And.intro (And.intro True.intro (And.intro True.intro (And.intro (And.intro True.intro True.intro) True.intro))) (And.intro True.intro (And.intro True.intro True.intro)))) rfl (Eq.trans (R14_Block_Touch_e R14_Block_error 0 _ _ _ _ H K) h)
  · cases h
/-! ### R14_Block_Refine: function 56 -/
def R14_Block_Refine_b {R : Type} (R14_Block_error : Option Addr → Int → Int → Heap → (Int → Option R) → Option R) (k : Nat) (p604 : Option Addr) (n605 : Int) (n606 : Int) (H : Heap) (K : Int → Heap → Option R) : Option R :=
R14_Block_error p604 n605 n606 H fun n607 =>
bif (n607 != 0) then (K n607 H)
 else (hnil p604 fun p608 =>
hfad 2 p608 fun p609 =>
ldL H p609 fun q610 l611 c612 =>
hnil p604 fun p613 =>
hfad 0 p613 fun p614 =>
ldI .i64 H p614 fun n615 =>
hidx q610 l611 (IntKind.wrap .i64 ((IntKind.wrap .i64 (n606 * n615)) + n605)) 4 fun p616 =>
hfad 3 p616 fun p617 =>
hst1 H p617 (.bool true) fun H618 =>
K 0 H618)

def R14_Block_Refine {R : Type} (p604 : Option Addr) (n605 : Int) (n606 : Int) (H : Heap) (K : Int → Heap → Option R) : Option R := R14_Block_Refine_b R14_Block_error 0 p604 n605 n606 H K

def R14_Block_Refine_Ct {R : Type} (R14_Block_error : Option Addr → Int → Int → Heap → (Int → Option R) → Option R) : Tab R := tcons 65 (R14_Block_error_ca R14_Block_error) <| fun _ _ _ _ => none
def R14_Block_Refine_C (R : Type) (k : Nat) : Tab R := R14_Block_Refine_Ct R14_Block_error
theorem R14_Block_Refine_S (R : Type) (k : Nat) : CSound Try.prog (R14_Block_Refine_C R k) := csound_cons (R14_Block_error_cs R k) <| csound_nil
def R14_Block_Refine_Jt {R : Type} (k : Nat) : JTab R := fun _ _ _ _ => none
def R14_Block_Refine_J (R : Type) (k : Nat) : JTab R := R14_Block_Refine_Jt k
def R14_Block_Refine_at : AT := (.seq (.reg [0, 1, 2] []) (.seq (.seq (.reg [0, 1, 2, 7] []) (.seq (.reg [0, 1, 2, 7, 13] []) (.cond (.seq (.reg [6] []) .leaf) .leaf))) (.seq (.reg [] [[], [0], [0, 1], [0, 1, 2], [], [], [5], [5, 6], [5, 6, 7], [4, 5, 6, 7, 8], [], [4, 5, 6, 7, 8, 9, 10], [0, 1, 2, 3, 4, 5, 6, 7, 8, 9, 10, 11], [0, 1, 2, 3, 4, 5, 6, 7, 8, 9, 10, 11, 12], [0, 1, 2, 3, 4, 5, 6, 7, 8, 9, 10, 11, 12, 13]]) (.seq (.reg [6] []) .leaf))))
def R14_Block_Refine_f : IFn := ⟨29, [.t 6], (.seq (.reg [⟨some 6, .mov (.c (Go.Value.int Go.IntKind.i64 0)), none⟩] [0, 1, 2]) (.seq (.seq (.reg [⟨some 8, .mov (.t 0), none⟩,
 ⟨some 9, .mov (.t 1), none⟩,
 ⟨some 10, .mov (.t 2), none⟩,
 ⟨some 11, .call 65 [(.t 8), (.t 9), (.t 10)] (.one (.sc (.int .i64))), none⟩,
 ⟨some 7, .mov (.t 11), none⟩] [0, 1, 2, 7]) (.seq (.reg [⟨some 12, .mov (.t 7), none⟩,
 ⟨some 13, .cmp .neq (.t 12) (.c (Go.Value.int Go.IntKind.i64 0)), none⟩] [0, 1, 2, 7, 13]) (.cond (.t 13) (.seq (.reg [⟨some 14, .mov (.t 7), none⟩,
 ⟨some 6, .mov (.t 14), none⟩] [6]) .ret) .skip))) (.seq (.reg [⟨some 15, .mov (.t 0), none⟩,
 ⟨some 16, .nilc (.t 15), none⟩,
 ⟨some 17, .fad 2 (.t 16), none⟩,
 ⟨some 18, .ld (.sc .slc) (.t 17), none⟩,
 ⟨some 19, .mov (.t 2), none⟩,
 ⟨some 20, .mov (.t 0), none⟩,
 ⟨some 21, .nilc (.t 20), none⟩,
 ⟨some 22, .fad 0 (.t 21), none⟩,
 ⟨some 23, .ld (.sc (.int .i64)) (.t 22), none⟩,
 ⟨some 24, .bin .mul .i64 (.t 19) (.t 23), none⟩,
 ⟨some 25, .mov (.t 1), none⟩,
 ⟨some 26, .bin .add .i64 (.t 24) (.t 25), none⟩,
 ⟨some 27, .ids 4 (.t 18) (.t 26), none⟩,
 ⟨some 28, .fad 3 (.t 27), none⟩,
 ⟨none, .st 1 (.t 28) (.c (Go.Value.bool true)), none⟩] []) (.seq (.reg [⟨some 6, .mov (.c (Go.Value.int Go.IntKind.i64 0)), none⟩] [6]) .ret))))⟩
def R14_Block_Refine_ca {R : Type} (f : Option Addr → Int → Int → Heap → (Int → Heap → Option R) → Option R) (args : List Value) (H : Heap) (K : Value → Heap → Option R) : Option R :=
  match args with
  | [.pointer p604, .int .i64 n605, .int .i64 n606] => f p604 n605 n606 H (fun n1188 H => K (.int .i64 n1188) H)
  | _ => none
def R14_Block_Refine_c (R : Type) (k : Nat) (args : List Value) (H : Heap) (K : Value → Heap → Option R) : Option R := R14_Block_Refine_ca R14_Block_Refine args H K
theorem R14_Block_Refine_e {R : Type} (R14_Block_error : Option Addr → Int → Int → Heap → (Int → Option R) → Option R) (k : Nat) (p604 : Option Addr) (n605 : Int) (n606 : Int) (H : Heap) (K : Value → Heap → Option R) : evF (R14_Block_Refine_Ct R14_Block_error) (R14_Block_Refine_Jt k) R14_Block_Refine_f [.pointer p604, .int .i64 n605, .int .i64 n606] H K = R14_Block_Refine_b R14_Block_error k p604 n605 n606 H (fun n1188 H => K (.int .i64 n1188) H) := by kernel_rfl
theorem R14_Block_Refine_cs (R : Type) (k : Nat) : ∀ args H K r, R14_Block_Refine_c R k args H K = some r → ∃ v H', Tri Try.prog 56 args H v H' ∧ K v H' = some r := by
  intro args H K r h
  unfold R14_Block_Refine_c R14_Block_Refine_ca at h
  split at h
  · exact evF_ok (C := R14_Block_Refine_C R 0) (an := An) (t := R14_Block_Refine_at) (fn := Try.f56) (c := (Try.f56.body.getD .skip)) (ifn := R14_Block_Refine_f) (R14_Block_Refine_S R 0) (R14_Block_Refine_J R 0) Try.func56 (by kernel_rfl) (by kernel_rfl) (And.intro True.intro (And.intro (And.intro True.intro (And.intro True.intro (And.intro (And.intro True.intro True.intro) True.intro))) (And.intro True.intro (And.intro True.intro True.intro)))) rfl (Eq.trans (R14_Block_Refine_e R14_Block_error 0 _ _ _ H K) h)
  · cases h
end Go.Proofs.Ytblpaolcgkjcgaa.Sh
