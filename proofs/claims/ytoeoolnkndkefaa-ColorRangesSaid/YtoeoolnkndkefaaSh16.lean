/- Lean functions that stand for Go's, over an explicit heap, and the proofs that they do (written by this claim's program shallow.py). -/
import Derived.Test.YtoeoolnkndkefaaSh0
import Derived.Test.YtoeoolnkndkefaaSh1
import Derived.Test.YtoeoolnkndkefaaSh2
import Derived.Test.YtoeoolnkndkefaaSh3
import Derived.Test.YtoeoolnkndkefaaSh6
import Derived.Test.YtoeoolnkndkefaaSh12
set_option maxRecDepth 100000
set_option linter.unusedVariables false
set_option linter.unusedSimpArgs false
namespace Go.Proofs.Ytoeoolnkndkefaa.Sh
open Go.Proofs.Ytoeoolnkndkefaa.FW
/-! ### R07_Range: function 23 -/
def R07_Range_p0_b {R : Type} (k : Nat) (p140 : Option Addr) (H : Heap) (KN : Option Addr → Option R) (KR : Int → Int → Option R) : Option R :=
hfad 0 p140 fun p141 =>
ldI .i64 H p141 fun n142 =>
bif decide (n142 < 1) then (KR 0 0)
 else (hfad 0 p140 fun p143 =>
ldI .i64 H p143 fun n144 =>
bif decide (n144 > 16) then (KR 0 0)
 else (KN p140))
def R07_Range_p0 {R : Type} (k : Nat) (p140 : Option Addr) (H : Heap) (KN : Option Addr → Option R) (KR : Int → Int → Option R) : Option R := R07_Range_p0_b k p140 H KN KR

def R07_Range_b {R : Type} (R07_Range_p0 : Option Addr → Heap → (Option Addr → Option R) → (Int → Int → Option R) → Option R) (R07_power : Int → (Int → Option R) → Option R) (k : Nat) (n134 : Int) (t135 : Bool) (n136 : Int) (n137 : Int) (H : Heap) (K : Int → Int → Heap → Option R) : Option R :=
hal H [.int .i64 n134, .bool t135, .int .i64 n136, .int .i64 n137] fun p138 H139 =>
R07_Range_p0 p138 H139 (fun p148 =>
hfad 0 p148 fun p149 =>
ldI .i64 H139 p149 fun n150 =>
R07_power (IntKind.wrap .i64 (n150 - 1)) fun n151 =>
hfad 1 p148 fun p152 =>
ldB H139 p152 fun t153 =>
bif t153 then (K (IntKind.wrap .i64 (0 - n151)) (IntKind.wrap .i64 (n151 - 1)) H139)
 else (K 0 (IntKind.wrap .i64 ((IntKind.wrap .i64 (2 * n151)) - 1)) H139)) (fun n154 n155 =>
K n154 n155 H139)

def R07_Range {R : Type} (k : Nat) (n134 : Int) (t135 : Bool) (n136 : Int) (n137 : Int) (H : Heap) (K : Int → Int → Heap → Option R) : Option R := R07_Range_b (R07_Range_p0 k) (R07_power k) k n134 t135 n136 n137 H K

def R07_Range_Ct {R : Type} (R07_power : Int → (Int → Option R) → Option R) : Tab R := tcons 43 (R07_power_ca R07_power) <| fun _ _ _ _ => none
def R07_Range_C (R : Type) (k : Nat) : Tab R := R07_Range_Ct (R07_power k)
theorem R07_Range_S (R : Type) (k : Nat) : CSound Try.prog (R07_Range_C R k) := csound_cons (R07_power_cs R k) <| csound_nil
def R07_Range_aa0 {R : Type} (f : Option Addr → Heap → (Option Addr → Option R) → (Int → Int → Option R) → Option R) (n : Nat) (vals : List Value) (H : Heap) (K : Xit → Env → Heap → Option R) : Option R :=
  match vals with
  | [.pointer p140] => f p140 H (fun p1236 => K .normal [(1, .pointer p1236)] H) (fun n1237 n1238 => K .ret [(2, .int .i64 n1237), (3, .int .i64 n1238)] H)
  | _ => none
def R07_Range_a0 (R : Type) (k n : Nat) (vals : List Value) (H : Heap) (K : Xit → Env → Heap → Option R) : Option R := R07_Range_aa0 (R07_Range_p0 k) n vals H K
def R07_Range_Jt {R : Type} (k : Nat) (R07_Range_p0 : Option Addr → Heap → (Option Addr → Option R) → (Int → Int → Option R) → Option R) : JTab R := tcons 0 (R07_Range_aa0 R07_Range_p0 k) <| fun _ _ _ _ => none
def R07_Range_J (R : Type) (k : Nat) : JTab R := R07_Range_Jt k (R07_Range_p0 k)
def R07_Range_at : AT := (.seq (.reg [1] []) (.seq (.opq 0 [1] ⟨[1], [], [2, 3]⟩ (.seq (.reg [1, 12] []) (.cond (.seq (.reg [2, 3] []) .leaf) .leaf))) (.seq (.reg [1, 4] []) (.seq (.seq (.reg [4, 18] []) (.cond (.seq (.reg [2, 3] []) .leaf) .leaf)) (.seq (.reg [2, 3] []) .leaf)))))
def R07_Range_i0 : IC := (.seq (.reg [⟨some 5, .fad 0 (.t 1), none⟩,
 ⟨some 6, .ld (.sc (.int .i64)) (.t 5), none⟩,
 ⟨some 7, .cmp .lss (.t 6) (.c (Go.Value.int Go.IntKind.i64 1)), none⟩,
 ⟨some 8, .mov (.t 7), none⟩,
 ⟨some 9, .fad 0 (.t 1), some (8, false)⟩,
 ⟨some 10, .ld (.sc (.int .i64)) (.t 9), some (8, false)⟩,
 ⟨some 11, .cmp .gtr (.t 10) (.c (Go.Value.int Go.IntKind.i64 16)), some (8, false)⟩,
 ⟨some 12, .pick (.t 8) (.c (Go.Value.bool true)) (.t 11), none⟩] [1, 12]) (.cond (.t 12) (.seq (.reg [⟨some 2, .mov (.c (Go.Value.int Go.IntKind.i64 0)), none⟩,
 ⟨some 3, .mov (.c (Go.Value.int Go.IntKind.i64 0)), none⟩] [2, 3]) .ret) .skip))
def R07_Range_f : IFn := ⟨26, [.t 2, .t 3], (.seq (.reg [⟨some 1, .box (.t 0), none⟩,
 ⟨some 2, .mov (.c (Go.Value.int Go.IntKind.i64 0)), none⟩,
 ⟨some 3, .mov (.c (Go.Value.int Go.IntKind.i64 0)), none⟩] [1]) (.seq (.opq 0 [1] R07_Range_i0) (.seq (.reg [⟨some 13, .fad 0 (.t 1), none⟩,
 ⟨some 14, .ld (.sc (.int .i64)) (.t 13), none⟩,
 ⟨some 15, .bin .sub .i64 (.t 14) (.c (Go.Value.int Go.IntKind.i64 1)), none⟩,
 ⟨some 16, .call 43 [(.t 15)] (.one (.sc (.int .i64))), none⟩,
 ⟨some 4, .mov (.t 16), none⟩] [1, 4]) (.seq (.seq (.reg [⟨some 17, .fad 1 (.t 1), none⟩,
 ⟨some 18, .ld (.sc .bool) (.t 17), none⟩] [4, 18]) (.cond (.t 18) (.seq (.reg [⟨some 19, .mov (.t 4), none⟩,
 ⟨some 20, .neg .i64 (.t 19), none⟩,
 ⟨some 21, .mov (.t 4), none⟩,
 ⟨some 22, .bin .sub .i64 (.t 21) (.c (Go.Value.int Go.IntKind.i64 1)), none⟩,
 ⟨some 2, .mov (.t 20), none⟩,
 ⟨some 3, .mov (.t 22), none⟩] [2, 3]) .ret) .skip)) (.seq (.reg [⟨some 23, .mov (.t 4), none⟩,
 ⟨some 24, .bin .mul .i64 (.c (Go.Value.int Go.IntKind.i64 2)) (.t 23), none⟩,
 ⟨some 25, .bin .sub .i64 (.t 24) (.c (Go.Value.int Go.IntKind.i64 1)), none⟩,
 ⟨some 2, .mov (.c (Go.Value.int Go.IntKind.i64 0)), none⟩,
 ⟨some 3, .mov (.t 25), none⟩] [2, 3]) .ret)))))⟩
theorem R07_Range_e0 {R : Type} (R07_power : Int → (Int → Option R) → Option R) (R07_Range_p0 : Option Addr → Heap → (Option Addr → Option R) → (Int → Int → Option R) → Option R) (k : Nat) (p140 : Option Addr) (H : Heap) (K : Xit → Env → Heap → Option R) : evJ (R07_Range_Ct R07_power) (R07_Range_Jt k R07_Range_p0) R07_Range_i0 (List.zip [1] [.pointer p140]) H (fun x e' H' => K x (clean e' ((⟨[1], [], [2, 3]⟩ : Out).of x)) H') = R07_Range_p0_b k p140 H (fun p1236 => K .normal [(1, .pointer p1236)] H) (fun n1237 n1238 => K .ret [(2, .int .i64 n1237), (3, .int .i64 n1238)] H) := by kernel_rfl
theorem R07_Range_j0 {R : Type} (k : Nat) : JS Try.prog 26 (R07_Range_a0 R k k) [1] ⟨[1], [], [2, 3]⟩ (sel [1, 0] (Try.f23.body.getD .skip)) :=
  piece_ok (nt := 26) (c := (sel [1, 0] (Try.f23.body.getD .skip))) (C := R07_Range_C R k) (an := An) (t := (.seq (.reg [1, 12] []) (.cond (.seq (.reg [2, 3] []) .leaf) .leaf))) (ic := R07_Range_i0) (R07_Range_S R k) (R07_Range_J R k) (by kernel_rfl) (And.intro True.intro (And.intro (And.intro True.intro True.intro) True.intro)) (R07_Range_a0 R k k)
    (fun vals H K r h => by
      unfold R07_Range_a0 R07_Range_aa0 at h
      split at h <;> first | (cases h; done) | exact Eq.trans (R07_Range_e0 (R07_power k) (R07_Range_p0 k) k _ H K) h)
def R07_Range_ca {R : Type} (f : Int → Bool → Int → Int → Heap → (Int → Int → Heap → Option R) → Option R) (args : List Value) (H : Heap) (K : Value → Heap → Option R) : Option R :=
  match args with
  | [.agg ⟨[.int .i64 n134, .bool t135, .int .i64 n136, .int .i64 n137]⟩] => f n134 t135 n136 n137 H (fun n1239 n1240 H => K (.tuple ⟨[.int .i64 n1239, .int .i64 n1240]⟩) H)
  | _ => none
def R07_Range_c (R : Type) (k : Nat) (args : List Value) (H : Heap) (K : Value → Heap → Option R) : Option R := R07_Range_ca (R07_Range k) args H K
theorem R07_Range_e {R : Type} (R07_power : Int → (Int → Option R) → Option R) (R07_Range_p0 : Option Addr → Heap → (Option Addr → Option R) → (Int → Int → Option R) → Option R) (k : Nat) (n134 : Int) (t135 : Bool) (n136 : Int) (n137 : Int) (H : Heap) (K : Value → Heap → Option R) : evF (R07_Range_Ct R07_power) (R07_Range_Jt k R07_Range_p0) R07_Range_f [.agg ⟨[.int .i64 n134, .bool t135, .int .i64 n136, .int .i64 n137]⟩] H K = R07_Range_b R07_Range_p0 R07_power k n134 t135 n136 n137 H (fun n1239 n1240 H => K (.tuple ⟨[.int .i64 n1239, .int .i64 n1240]⟩) H) := by kernel_rfl
theorem R07_Range_cs (R : Type) (k : Nat) : ∀ args H K r, R07_Range_c R k args H K = some r → ∃ v H', Tri Try.prog 23 args H v H' ∧ K v H' = some r := by
  intro args H K r h
  unfold R07_Range_c R07_Range_ca at h
  split at h
  · exact evF_ok (C := R07_Range_C R k) (an := An) (t := R07_Range_at) (fn := Try.f23) (c := (Try.f23.body.getD .skip)) (ifn := R07_Range_f) (R07_Range_S R k) (R07_Range_J R k) Try.func23 (by kernel_rfl) (by kernel_rfl) (And.intro True.intro (And.intro (R07_Range_j0 k) (And.intro True.intro (And.intro (And.intro True.intro (And.intro (And.intro True.intro True.intro) True.intro)) (And.intro True.intro True.intro))))) rfl (Eq.trans (R07_Range_e (R07_power k) (R07_Range_p0 k) k _ _ _ _ H K) h)
  · cases h
/-! ### R07_Offset: function 47 -/
def R07_Offset_b {R : Type} (R07_power : Int → (Int → Option R) → Option R) (k : Nat) (n339 : Int) (t340 : Bool) (n341 : Int) (n342 : Int) (H : Heap) (K : Int → Heap → Option R) : Option R :=
hal H [.int .i64 n339, .bool t340, .int .i64 n341, .int .i64 n342] fun p343 H344 =>
hfad 1 p343 fun p345 =>
ldB H344 p345 fun t346 =>
bif t346 then (K 0 H344)
 else (hfad 0 p343 fun p347 =>
ldI .i64 H344 p347 fun n348 =>
R07_power (IntKind.wrap .i64 (n348 - 1)) fun n349 =>
K n349 H344)

def R07_Offset {R : Type} (k : Nat) (n339 : Int) (t340 : Bool) (n341 : Int) (n342 : Int) (H : Heap) (K : Int → Heap → Option R) : Option R := R07_Offset_b (R07_power k) k n339 t340 n341 n342 H K

def R07_Offset_Ct {R : Type} (R07_power : Int → (Int → Option R) → Option R) : Tab R := tcons 43 (R07_power_ca R07_power) <| fun _ _ _ _ => none
def R07_Offset_C (R : Type) (k : Nat) : Tab R := R07_Offset_Ct (R07_power k)
theorem R07_Offset_S (R : Type) (k : Nat) : CSound Try.prog (R07_Offset_C R k) := csound_cons (R07_power_cs R k) <| csound_nil
def R07_Offset_Jt {R : Type} (k : Nat) : JTab R := fun _ _ _ _ => none
def R07_Offset_J (R : Type) (k : Nat) : JTab R := R07_Offset_Jt k
def R07_Offset_at : AT := (.seq (.reg [1] []) (.seq (.seq (.reg [1, 4] []) (.cond (.seq (.reg [2] []) .leaf) .leaf)) (.seq (.reg [2] []) .leaf)))
def R07_Offset_f : IFn := ⟨9, [.t 2], (.seq (.reg [⟨some 1, .box (.t 0), none⟩,
 ⟨some 2, .mov (.c (Go.Value.int Go.IntKind.i64 0)), none⟩] [1]) (.seq (.seq (.reg [⟨some 3, .fad 1 (.t 1), none⟩,
 ⟨some 4, .ld (.sc .bool) (.t 3), none⟩] [1, 4]) (.cond (.t 4) (.seq (.reg [⟨some 2, .mov (.c (Go.Value.int Go.IntKind.i64 0)), none⟩] [2]) .ret) .skip)) (.seq (.reg [⟨some 5, .fad 0 (.t 1), none⟩,
 ⟨some 6, .ld (.sc (.int .i64)) (.t 5), none⟩,
 ⟨some 7, .bin .sub .i64 (.t 6) (.c (Go.Value.int Go.IntKind.i64 1)), none⟩,
 ⟨some 8, .call 43 [(.t 7)] (.one (.sc (.int .i64))), none⟩,
 ⟨some 2, .mov (.t 8), none⟩] [2]) .ret)))⟩
def R07_Offset_ca {R : Type} (f : Int → Bool → Int → Int → Heap → (Int → Heap → Option R) → Option R) (args : List Value) (H : Heap) (K : Value → Heap → Option R) : Option R :=
  match args with
  | [.agg ⟨[.int .i64 n339, .bool t340, .int .i64 n341, .int .i64 n342]⟩] => f n339 t340 n341 n342 H (fun n1241 H => K (.int .i64 n1241) H)
  | _ => none
def R07_Offset_c (R : Type) (k : Nat) (args : List Value) (H : Heap) (K : Value → Heap → Option R) : Option R := R07_Offset_ca (R07_Offset k) args H K
theorem R07_Offset_e {R : Type} (R07_power : Int → (Int → Option R) → Option R) (k : Nat) (n339 : Int) (t340 : Bool) (n341 : Int) (n342 : Int) (H : Heap) (K : Value → Heap → Option R) : evF (R07_Offset_Ct R07_power) (R07_Offset_Jt k) R07_Offset_f [.agg ⟨[.int .i64 n339, .bool t340, .int .i64 n341, .int .i64 n342]⟩] H K = R07_Offset_b R07_power k n339 t340 n341 n342 H (fun n1241 H => K (.int .i64 n1241) H) := by kernel_rfl
theorem R07_Offset_cs (R : Type) (k : Nat) : ∀ args H K r, R07_Offset_c R k args H K = some r → ∃ v H', Tri Try.prog 47 args H v H' ∧ K v H' = some r := by
  intro args H K r h
  unfold R07_Offset_c R07_Offset_ca at h
  split at h
  · exact evF_ok (C := R07_Offset_C R k) (an := An) (t := R07_Offset_at) (fn := Try.f47) (c := (Try.f47.body.getD .skip)) (ifn := R07_Offset_f) (R07_Offset_S R k) (R07_Offset_J R k) Try.func47 (by kernel_rfl) (by kernel_rfl) (And.intro True.intro (And.intro (And.intro True.intro (And.intro (And.intro True.intro True.intro) True.intro)) (And.intro True.intro True.intro))) rfl (Eq.trans (R07_Offset_e (R07_power k) k _ _ _ _ H K) h)
  · cases h
/-! ### R07_Shift: function 25 -/
def R07_Shift_p0_b {R : Type} (k : Nat) (p240 : Option Addr) (p241 : Option Addr) (p242 : Option Addr) (H : Heap) (KN : Option Addr → Option Addr → Option Addr → Bool → Option R) : Option R :=
hfad 0 p241 fun p243 =>
ldI .i64 H p243 fun n244 =>
bif decide (n244 < 1) then (KN p240 p241 p242 true)
 else (hfad 0 p241 fun p245 =>
ldI .i64 H p245 fun n246 =>
KN p240 p241 p242 (decide (n246 > 16)))
def R07_Shift_p0 {R : Type} (k : Nat) (p240 : Option Addr) (p241 : Option Addr) (p242 : Option Addr) (H : Heap) (KN : Option Addr → Option Addr → Option Addr → Bool → Option R) : Option R := R07_Shift_p0_b k p240 p241 p242 H KN

def R07_Shift_p2_b {R : Type} (k : Nat) (p289 : Option Addr) (p290 : Option Addr) (p291 : Option Addr) (n292 : Int) (n293 : Int) (p294 : Option Addr) (n295 : Int) (H : Heap) (KN : Option Addr → Option Addr → Option Addr → Int → Int → Option Addr → Int → Bool → Option R) : Option R :=
hfad 4 p289 fun p296 =>
ldL H p296 fun q297 l298 c299 =>
hidx q297 l298 n295 1 fun p300 =>
ldI .i64 H p300 fun n301 =>
bif decide (n301 < n292) then (KN p289 p290 p291 n292 n293 p294 n295 true)
 else (hfad 4 p289 fun p302 =>
ldL H p302 fun q303 l304 c305 =>
hidx q303 l304 n295 1 fun p306 =>
ldI .i64 H p306 fun n307 =>
KN p289 p290 p291 n292 n293 p294 n295 (decide (n307 > n293)))
def R07_Shift_p2 {R : Type} (k : Nat) (p289 : Option Addr) (p290 : Option Addr) (p291 : Option Addr) (n292 : Int) (n293 : Int) (p294 : Option Addr) (n295 : Int) (H : Heap) (KN : Option Addr → Option Addr → Option Addr → Int → Int → Option Addr → Int → Bool → Option R) : Option R := R07_Shift_p2_b k p289 p290 p291 n292 n293 p294 n295 H KN

def R07_Shift_l1_b {R : Type} (R07_Shift_p2 : Option Addr → Option Addr → Option Addr → Int → Int → Option Addr → Int → Heap → (Option Addr → Option Addr → Option Addr → Int → Int → Option Addr → Int → Bool → Option R) → Option R) (R07_Offset : Int → Bool → Int → Int → Heap → (Int → Heap → Option R) → Option R) (rec : Option Addr → Option Addr → Option Addr → Int → Int → Option Addr → Int → Heap → Option R) (KE0 : Option Addr → Option Addr → Heap → Option R) (KR : Option Addr → Int → Heap → Option R) (k : Nat) (p278 : Option Addr) (p279 : Option Addr) (p280 : Option Addr) (n281 : Int) (n282 : Int) (p283 : Option Addr) (n284 : Int) (H : Heap) : Option R :=
hfad 4 p278 fun p285 =>
ldL H p285 fun q286 l287 c288 =>
bif decide (n284 < ((l287 : Nat) : Int)) then (R07_Shift_p2 p278 p279 p280 n281 n282 p283 n284 H (fun p316 p317 p318 n319 n320 p321 n322 t323 =>
bif t323 then (hst H p318 [.int .i64 0, .int .i64 0, .int .i64 0, .int .i64 0, .slice none 0 0] fun H324 =>
KR p318 2 H324)
 else (hfad 4 p321 fun p325 =>
ldL H p325 fun q326 l327 c328 =>
hfad 4 p316 fun p329 =>
ldL H p329 fun q330 l331 c332 =>
hidx q330 l331 n322 1 fun p333 =>
ldI .i64 H p333 fun n334 =>
ldI .i64 H (pad p317 0) fun n335 =>
ldB H (pad p317 1) fun t336 =>
ldI .i64 H (pad p317 2) fun n337 =>
ldI .i64 H (pad p317 3) fun n338 =>
R07_Offset n335 t336 n337 n338 (roH H) fun n339 H340 =>
hal H [.int .i64 (IntKind.wrap .i64 (n334 - n339))] fun p341 H342 =>
happS 1 8 H342 q326 l327 c328 p341 1 fun q343 l344 c345 H346 =>
hfad 4 p321 fun p347 =>
hst1 H346 p347 (.slice q343 l344 c345) fun H348 =>
rec p316 p317 p318 n319 n320 p321 (IntKind.wrap .i64 (n322 + 1)) H348)))
 else (KE0 p280 p283 H)
def R07_Shift_l1 {R : Type} (k : Nat) (KE0 : Option Addr → Option Addr → Heap → Option R) (KR : Option Addr → Int → Heap → Option R) : Nat → Option Addr → Option Addr → Option Addr → Int → Int → Option Addr → Int → Heap → Option R
  | 0, _, _, _, _, _, _, _, _ => none
  | n + 1, p278, p279, p280, n281, n282, p283, n284, H => R07_Shift_l1_b (R07_Shift_p2 k) (R07_Offset k) (R07_Shift_l1 k KE0 KR n) KE0 KR k p278 p279 p280 n281 n282 p283 n284 H

def R07_Shift_b {R : Type} (R02_Valid : Int → Int → Int → Int → Option Addr → Nat → Nat → Heap → (Bool → Heap → Option R) → Option R) (R07_Shift_p0 : Option Addr → Option Addr → Option Addr → Heap → (Option Addr → Option Addr → Option Addr → Bool → Option R) → Option R) (R07_Range : Int → Bool → Int → Int → Heap → (Int → Int → Heap → Option R) → Option R) (R07_Shift_l1 : (Option Addr → Option Addr → Heap → Option R) → (Option Addr → Int → Heap → Option R) → Nat → Option Addr → Option Addr → Option Addr → Int → Int → Option Addr → Int → Heap → Option R) (k : Nat) (n206 : Int) (n207 : Int) (n208 : Int) (n209 : Int) (q210 : Option Addr) (l211 : Nat) (c212 : Nat) (n213 : Int) (t214 : Bool) (n215 : Int) (n216 : Int) (H : Heap) (K : Int → Int → Int → Int → Option Addr → Nat → Nat → Int → Heap → Option R) : Option R :=
hal H [.int .i64 n206, .int .i64 n207, .int .i64 n208, .int .i64 n209, .slice q210 l211 c212] fun p217 H218 =>
hal H218 [.int .i64 n213, .bool t214, .int .i64 n215, .int .i64 n216] fun p219 H220 =>
hal H220 [.int .i64 0, .int .i64 0, .int .i64 0, .int .i64 0, .slice none 0 0] fun p221 H222 =>
ldI .i64 H222 (pad p217 0) fun n223 =>
ldI .i64 H222 (pad p217 1) fun n224 =>
ldI .i64 H222 (pad p217 2) fun n225 =>
ldI .i64 H222 (pad p217 3) fun n226 =>
ldL H222 (pad p217 4) fun q227 l228 c229 =>
R02_Valid n223 n224 n225 n226 q227 l228 c229 H222 fun t230 H231 =>
bif (!t230) then (hst H231 p221 [.int .i64 0, .int .i64 0, .int .i64 0, .int .i64 0, .slice none 0 0] fun H232 =>
ldI .i64 H232 (pad p221 0) fun n233 =>
ldI .i64 H232 (pad p221 1) fun n234 =>
ldI .i64 H232 (pad p221 2) fun n235 =>
ldI .i64 H232 (pad p221 3) fun n236 =>
ldL H232 (pad p221 4) fun q237 l238 c239 =>
K n233 n234 n235 n236 q237 l238 c239 1 H232)
 else (R07_Shift_p0 p217 p219 p221 H231 (fun p251 p252 p253 t254 =>
bif t254 then (hst H231 p253 [.int .i64 0, .int .i64 0, .int .i64 0, .int .i64 0, .slice none 0 0] fun H255 =>
ldI .i64 H255 (pad p253 0) fun n256 =>
ldI .i64 H255 (pad p253 1) fun n257 =>
ldI .i64 H255 (pad p253 2) fun n258 =>
ldI .i64 H255 (pad p253 3) fun n259 =>
ldL H255 (pad p253 4) fun q260 l261 c262 =>
K n256 n257 n258 n259 q260 l261 c262 12 H255)
 else (ldI .i64 H231 (pad p252 0) fun n263 =>
ldB H231 (pad p252 1) fun t264 =>
ldI .i64 H231 (pad p252 2) fun n265 =>
ldI .i64 H231 (pad p252 3) fun n266 =>
R07_Range n263 t264 n265 n266 H231 fun n267 n268 H269 =>
hfad 0 p251 fun p270 =>
ldI .i64 H269 (pad p270 0) fun n271 =>
ldI .i64 H269 (pad p270 1) fun n272 =>
ldI .i64 H269 (pad p270 2) fun n273 =>
ldI .i64 H269 (pad p270 3) fun n274 =>
hal H269 [.int .i64 0, .int .i64 0, .int .i64 0, .int .i64 0, .slice none 0 0] fun p275 H276 =>
hst H276 p275 [.int .i64 n271, .int .i64 n272, .int .i64 n273, .int .i64 n274, .slice none 0 0] fun H277 =>
R07_Shift_l1 (fun p353 p354 H355 =>
ldI .i64 H355 (pad p354 0) fun n356 =>
ldI .i64 H355 (pad p354 1) fun n357 =>
ldI .i64 H355 (pad p354 2) fun n358 =>
ldI .i64 H355 (pad p354 3) fun n359 =>
ldL H355 (pad p354 4) fun q360 l361 c362 =>
hst H355 p353 [.int .i64 n356, .int .i64 n357, .int .i64 n358, .int .i64 n359, .slice q360 l361 c362] fun H363 =>
ldI .i64 H363 (pad p353 0) fun n364 =>
ldI .i64 H363 (pad p353 1) fun n365 =>
ldI .i64 H363 (pad p353 2) fun n366 =>
ldI .i64 H363 (pad p353 3) fun n367 =>
ldL H363 (pad p353 4) fun q368 l369 c370 =>
K n364 n365 n366 n367 q368 l369 c370 0 H363) (fun p371 n372 H373 =>
ldI .i64 H373 (pad p371 0) fun n374 =>
ldI .i64 H373 (pad p371 1) fun n375 =>
ldI .i64 H373 (pad p371 2) fun n376 =>
ldI .i64 H373 (pad p371 3) fun n377 =>
ldL H373 (pad p371 4) fun q378 l379 c380 =>
K n374 n375 n376 n377 q378 l379 c380 n372 H373) k p251 p252 p253 n267 n268 p275 0 H277)))

def R07_Shift {R : Type} (k : Nat) (n206 : Int) (n207 : Int) (n208 : Int) (n209 : Int) (q210 : Option Addr) (l211 : Nat) (c212 : Nat) (n213 : Int) (t214 : Bool) (n215 : Int) (n216 : Int) (H : Heap) (K : Int → Int → Int → Int → Option Addr → Nat → Nat → Int → Heap → Option R) : Option R := R07_Shift_b R02_Valid (R07_Shift_p0 k) (R07_Range k) (R07_Shift_l1 k) k n206 n207 n208 n209 q210 l211 c212 n213 t214 n215 n216 H K

def R07_Shift_Ct {R : Type} (R02_Valid : Int → Int → Int → Int → Option Addr → Nat → Nat → Heap → (Bool → Heap → Option R) → Option R) (R07_Range : Int → Bool → Int → Int → Heap → (Int → Int → Heap → Option R) → Option R) (R07_Offset : Int → Bool → Int → Int → Heap → (Int → Heap → Option R) → Option R) : Tab R := tcons 46 (R02_Valid_ca R02_Valid) <| tcons 23 (R07_Range_ca R07_Range) <| tcons 47 (R07_Offset_ca R07_Offset) <| fun _ _ _ _ => none
def R07_Shift_C (R : Type) (k : Nat) : Tab R := R07_Shift_Ct R02_Valid (R07_Range k) (R07_Offset k)
theorem R07_Shift_S (R : Type) (k : Nat) : CSound Try.prog (R07_Shift_C R k) := csound_cons (R02_Valid_cs R k) <| csound_cons (R07_Range_cs R k) <| csound_cons (R07_Offset_cs R k) <| csound_nil
def R07_Shift_aa0 {R : Type} (f : Option Addr → Option Addr → Option Addr → Heap → (Option Addr → Option Addr → Option Addr → Bool → Option R) → Option R) (n : Nat) (vals : List Value) (H : Heap) (K : Xit → Env → Heap → Option R) : Option R :=
  match vals with
  | [.pointer p240, .pointer p241, .pointer p242] => f p240 p241 p242 H (fun p1242 p1243 p1244 t1245 => K .normal [(2, .pointer p1242), (3, .pointer p1243), (4, .pointer p1244), (21, .bool t1245)] H)
  | _ => none
def R07_Shift_a0 (R : Type) (k n : Nat) (vals : List Value) (H : Heap) (K : Xit → Env → Heap → Option R) : Option R := R07_Shift_aa0 (R07_Shift_p0 k) n vals H K
def R07_Shift_aa1 {R : Type} (f : (Option Addr → Option Addr → Heap → Option R) → (Option Addr → Int → Heap → Option R) → Nat → Option Addr → Option Addr → Option Addr → Int → Int → Option Addr → Int → Heap → Option R) (n : Nat) (vals : List Value) (H : Heap) (K : Xit → Env → Heap → Option R) : Option R :=
  match vals with
  | [.pointer p278, .pointer p279, .pointer p280, .int .i64 n281, .int .i64 n282, .pointer p283, .int .i64 n284] => f (fun p1246 p1247 H => K (.exit 0) [(4, .pointer p1246), (8, .pointer p1247)] H) (fun p1248 n1249 H => K .ret [(4, .pointer p1248), (5, .int .i64 n1249)] H) n p278 p279 p280 n281 n282 p283 n284 H
  | _ => none
def R07_Shift_a1 (R : Type) (k n : Nat) (vals : List Value) (H : Heap) (K : Xit → Env → Heap → Option R) : Option R := R07_Shift_aa1 (R07_Shift_l1 k) n vals H K
def R07_Shift_aa2 {R : Type} (f : Option Addr → Option Addr → Option Addr → Int → Int → Option Addr → Int → Heap → (Option Addr → Option Addr → Option Addr → Int → Int → Option Addr → Int → Bool → Option R) → Option R) (n : Nat) (vals : List Value) (H : Heap) (K : Xit → Env → Heap → Option R) : Option R :=
  match vals with
  | [.pointer p289, .pointer p290, .pointer p291, .int .i64 n292, .int .i64 n293, .pointer p294, .int .i64 n295] => f p289 p290 p291 n292 n293 p294 n295 H (fun p1250 p1251 p1252 n1253 n1254 p1255 n1256 t1257 => K .normal [(2, .pointer p1250), (3, .pointer p1251), (4, .pointer p1252), (6, .int .i64 n1253), (7, .int .i64 n1254), (8, .pointer p1255), (9, .int .i64 n1256), (53, .bool t1257)] H)
  | _ => none
def R07_Shift_a2 (R : Type) (k n : Nat) (vals : List Value) (H : Heap) (K : Xit → Env → Heap → Option R) : Option R := R07_Shift_aa2 (R07_Shift_p2 k) n vals H K
def R07_Shift_Jt {R : Type} (k : Nat) (R07_Shift_p0 : Option Addr → Option Addr → Option Addr → Heap → (Option Addr → Option Addr → Option Addr → Bool → Option R) → Option R) (R07_Shift_l1 : (Option Addr → Option Addr → Heap → Option R) → (Option Addr → Int → Heap → Option R) → Nat → Option Addr → Option Addr → Option Addr → Int → Int → Option Addr → Int → Heap → Option R) (R07_Shift_p2 : Option Addr → Option Addr → Option Addr → Int → Int → Option Addr → Int → Heap → (Option Addr → Option Addr → Option Addr → Int → Int → Option Addr → Int → Bool → Option R) → Option R) : JTab R := tcons 0 (R07_Shift_aa0 R07_Shift_p0 k) <| tcons 1 (R07_Shift_aa1 R07_Shift_l1 k) <| tcons 2 (R07_Shift_aa2 R07_Shift_p2 k) <| fun _ _ _ _ => none
def R07_Shift_J (R : Type) (k : Nat) : JTab R := R07_Shift_Jt k (R07_Shift_p0 k) (R07_Shift_l1 k) (R07_Shift_p2 k)
def R07_Shift_at : AT := (.seq (.reg [2, 3, 4] []) (.seq (.seq (.reg [2, 3, 4, 12] []) (.cond (.seq (.reg [4, 5] []) .leaf) .leaf)) (.seq (.seq (.opq 0 [2, 3, 4] ⟨[2, 3, 4, 21], [], []⟩ (.reg [2, 3, 4, 21] [])) (.cond (.seq (.reg [4, 5] []) .leaf) .leaf)) (.seq (.reg [2, 3, 4, 6, 7] []) (.seq (.reg [2, 3, 4, 6, 7, 8] []) (.seq (.seq (.reg [2, 3, 4, 6, 7, 8, 9] []) (.node (.opq 1 [2, 3, 4, 6, 7, 8, 9] ⟨[], [(0, [4, 8])], [4, 5]⟩ (.node (.seq (.seq (.reg [2, 3, 4, 6, 7, 8, 9, 35] []) (.cond .leaf .leaf)) (.seq (.node (.seq (.seq (.opq 2 [2, 3, 4, 6, 7, 8, 9] ⟨[2, 3, 4, 6, 7, 8, 9, 53], [], []⟩ (.reg [2, 3, 4, 6, 7, 8, 9, 53] [])) (.cond (.seq (.reg [4, 5] []) .leaf) .leaf)) (.reg [2, 3, 4, 6, 7, 8, 9] [[], [0], [], [2], [], [2, 3, 4], [2, 3, 4, 5], [], [7], [2, 3, 4, 5, 6, 7, 8], [2, 3, 4, 5, 6, 7, 8, 9], [0, 1, 2, 3, 4, 5, 6, 7, 8, 9, 10], [0, 1, 2, 3, 4, 5, 6, 7, 8, 9, 10, 11], [0, 1, 2, 3, 4, 5, 6, 7, 8, 9, 10, 11, 12]]))) (.reg [2, 3, 4, 6, 7, 8, 9] []))))))) (.seq (.reg [4, 5] []) .leaf)))))))
def R07_Shift_i2 : IC := (.reg [⟨some 38, .fad 4 (.t 2), none⟩,
 ⟨some 39, .ld (.sc .slc) (.t 38), none⟩,
 ⟨some 40, .mov (.t 9), none⟩,
 ⟨some 41, .ids 1 (.t 39) (.t 40), none⟩,
 ⟨some 42, .ld (.sc (.int .i64)) (.t 41), none⟩,
 ⟨some 43, .mov (.t 6), none⟩,
 ⟨some 44, .cmp .lss (.t 42) (.t 43), none⟩,
 ⟨some 45, .mov (.t 44), none⟩,
 ⟨some 46, .fad 4 (.t 2), some (45, false)⟩,
 ⟨some 47, .ld (.sc .slc) (.t 46), some (45, false)⟩,
 ⟨some 48, .mov (.t 9), some (45, false)⟩,
 ⟨some 49, .ids 1 (.t 47) (.t 48), some (45, false)⟩,
 ⟨some 50, .ld (.sc (.int .i64)) (.t 49), some (45, false)⟩,
 ⟨some 51, .mov (.t 7), some (45, false)⟩,
 ⟨some 52, .cmp .gtr (.t 50) (.t 51), some (45, false)⟩,
 ⟨some 53, .pick (.t 45) (.c (Go.Value.bool true)) (.t 52), none⟩] [2, 3, 4, 6, 7, 8, 9, 53])
def R07_Shift_i1 : IC := (.seq (.seq (.reg [⟨some 31, .mov (.t 9), none⟩,
 ⟨some 32, .fad 4 (.t 2), none⟩,
 ⟨some 33, .ld (.sc .slc) (.t 32), none⟩,
 ⟨some 34, .len false (.t 33), none⟩,
 ⟨some 35, .cmp .lss (.t 31) (.t 34), none⟩] [2, 3, 4, 6, 7, 8, 9, 35]) (.cond (.t 35) .skip (.exit 0))) (.seq (.block 1 (.seq (.seq (.opq 2 [2, 3, 4, 6, 7, 8, 9] R07_Shift_i2) (.cond (.t 53) (.seq (.reg [⟨some 54, .bld [.int .i64 0, .int .i64 0, .int .i64 0, .int .i64 0, .slice none 0 0] [], none⟩,
 ⟨none, .st 5 (.t 4) (.t 54), none⟩,
 ⟨some 5, .mov (.c (Go.Value.int Go.IntKind.i64 2)), none⟩] [4, 5]) .ret) .skip)) (.reg [⟨some 55, .fad 4 (.t 8), none⟩,
 ⟨some 56, .ld (.sc .slc) (.t 55), none⟩,
 ⟨some 57, .fad 4 (.t 2), none⟩,
 ⟨some 58, .ld (.sc .slc) (.t 57), none⟩,
 ⟨some 59, .mov (.t 9), none⟩,
 ⟨some 60, .ids 1 (.t 58) (.t 59), none⟩,
 ⟨some 61, .ld (.sc (.int .i64)) (.t 60), none⟩,
 ⟨some 62, .ld (.agg [(.int .i64), .bool, (.int .i64), (.int .i64)]) (.t 3), none⟩,
 ⟨some 63, .calp 47 [(.t 62)] (.one (.sc (.int .i64))), none⟩,
 ⟨some 64, .bin .sub .i64 (.t 61) (.t 63), none⟩,
 ⟨some 65, .bls 1 [.int .i64 0] [(0, 1, (.t 64))], none⟩,
 ⟨some 66, .app [.int .i64 0] 8 (.t 56) (.t 65), none⟩,
 ⟨some 67, .fad 4 (.t 8), none⟩,
 ⟨none, .st 1 (.t 67) (.t 66), none⟩] [2, 3, 4, 6, 7, 8, 9]))) (.reg [⟨some 36, .mov (.t 9), none⟩,
 ⟨some 37, .bin .add .i64 (.t 36) (.c (Go.Value.int Go.IntKind.i64 1)), none⟩,
 ⟨some 9, .mov (.t 37), none⟩] [2, 3, 4, 6, 7, 8, 9])))
def R07_Shift_i0 : IC := (.reg [⟨some 14, .fad 0 (.t 3), none⟩,
 ⟨some 15, .ld (.sc (.int .i64)) (.t 14), none⟩,
 ⟨some 16, .cmp .lss (.t 15) (.c (Go.Value.int Go.IntKind.i64 1)), none⟩,
 ⟨some 17, .mov (.t 16), none⟩,
 ⟨some 18, .fad 0 (.t 3), some (17, false)⟩,
 ⟨some 19, .ld (.sc (.int .i64)) (.t 18), some (17, false)⟩,
 ⟨some 20, .cmp .gtr (.t 19) (.c (Go.Value.int Go.IntKind.i64 16)), some (17, false)⟩,
 ⟨some 21, .pick (.t 17) (.c (Go.Value.bool true)) (.t 20), none⟩] [2, 3, 4, 21])
def R07_Shift_f : IFn := ⟨69, [.cell 4 (.agg [(.int .i64), (.int .i64), (.int .i64), (.int .i64), .slc]), .t 5], (.seq (.reg [⟨some 2, .box (.t 0), none⟩,
 ⟨some 3, .box (.t 1), none⟩,
 ⟨some 4, .alc [.int .i64 0, .int .i64 0, .int .i64 0, .int .i64 0, .slice none 0 0], none⟩,
 ⟨some 5, .mov (.c (Go.Value.int Go.IntKind.i64 0)), none⟩] [2, 3, 4]) (.seq (.seq (.reg [⟨some 10, .ld (.agg [(.int .i64), (.int .i64), (.int .i64), (.int .i64), .slc]) (.t 2), none⟩,
 ⟨some 11, .call 46 [(.t 10)] (.one (.sc .bool)), none⟩,
 ⟨some 12, .lnot (.t 11), none⟩] [2, 3, 4, 12]) (.cond (.t 12) (.seq (.reg [⟨some 13, .bld [.int .i64 0, .int .i64 0, .int .i64 0, .int .i64 0, .slice none 0 0] [], none⟩,
 ⟨none, .st 5 (.t 4) (.t 13), none⟩,
 ⟨some 5, .mov (.c (Go.Value.int Go.IntKind.i64 1)), none⟩] [4, 5]) .ret) .skip)) (.seq (.seq (.opq 0 [2, 3, 4] R07_Shift_i0) (.cond (.t 21) (.seq (.reg [⟨some 22, .bld [.int .i64 0, .int .i64 0, .int .i64 0, .int .i64 0, .slice none 0 0] [], none⟩,
 ⟨none, .st 5 (.t 4) (.t 22), none⟩,
 ⟨some 5, .mov (.c (Go.Value.int Go.IntKind.i64 12)), none⟩] [4, 5]) .ret) .skip)) (.seq (.reg [⟨some 24, .ld (.agg [(.int .i64), .bool, (.int .i64), (.int .i64)]) (.t 3), none⟩,
 ⟨some 25, .call 23 [(.t 24)] (.tup [(.sc (.int .i64)), (.sc (.int .i64))]), none⟩,
 ⟨some 23, .mov (.t 25), none⟩,
 ⟨some 26, .ext 0 (.t 23), none⟩,
 ⟨some 27, .ext 1 (.t 23), none⟩,
 ⟨some 6, .mov (.t 26), none⟩,
 ⟨some 7, .mov (.t 27), none⟩] [2, 3, 4, 6, 7]) (.seq (.reg [⟨some 28, .fad 0 (.t 2), none⟩,
 ⟨some 29, .ld (.agg [(.int .i64), (.int .i64), (.int .i64), (.int .i64)]) (.t 28), none⟩,
 ⟨some 30, .bld [.int .i64 0, .int .i64 0, .int .i64 0, .int .i64 0, .slice none 0 0] [(0, 4, (.t 29))], none⟩,
 ⟨some 8, .alc [.int .i64 0, .int .i64 0, .int .i64 0, .int .i64 0, .slice none 0 0], none⟩,
 ⟨none, .st 5 (.t 8) (.t 30), none⟩] [2, 3, 4, 6, 7, 8]) (.seq (.seq (.reg [⟨some 9, .mov (.c (Go.Value.int Go.IntKind.i64 0)), none⟩] [2, 3, 4, 6, 7, 8, 9]) (.block 0 (.opq 1 [2, 3, 4, 6, 7, 8, 9] (.loop R07_Shift_i1)))) (.seq (.reg [⟨some 68, .ld (.agg [(.int .i64), (.int .i64), (.int .i64), (.int .i64), .slc]) (.t 8), none⟩,
 ⟨none, .st 5 (.t 4) (.t 68), none⟩,
 ⟨some 5, .mov (.c (Go.Value.int Go.IntKind.i64 0)), none⟩] [4, 5]) .ret)))))))⟩
theorem R07_Shift_e2 {R : Type} (R02_Valid : Int → Int → Int → Int → Option Addr → Nat → Nat → Heap → (Bool → Heap → Option R) → Option R) (R07_Range : Int → Bool → Int → Int → Heap → (Int → Int → Heap → Option R) → Option R) (R07_Offset : Int → Bool → Int → Int → Heap → (Int → Heap → Option R) → Option R) (R07_Shift_p0 : Option Addr → Option Addr → Option Addr → Heap → (Option Addr → Option Addr → Option Addr → Bool → Option R) → Option R) (R07_Shift_l1 : (Option Addr → Option Addr → Heap → Option R) → (Option Addr → Int → Heap → Option R) → Nat → Option Addr → Option Addr → Option Addr → Int → Int → Option Addr → Int → Heap → Option R) (R07_Shift_p2 : Option Addr → Option Addr → Option Addr → Int → Int → Option Addr → Int → Heap → (Option Addr → Option Addr → Option Addr → Int → Int → Option Addr → Int → Bool → Option R) → Option R) (k : Nat) (p289 : Option Addr) (p290 : Option Addr) (p291 : Option Addr) (n292 : Int) (n293 : Int) (p294 : Option Addr) (n295 : Int) (H : Heap) (K : Xit → Env → Heap → Option R) : evJ (R07_Shift_Ct R02_Valid R07_Range R07_Offset) (R07_Shift_Jt k R07_Shift_p0 R07_Shift_l1 R07_Shift_p2) R07_Shift_i2 (List.zip [2, 3, 4, 6, 7, 8, 9] [.pointer p289, .pointer p290, .pointer p291, .int .i64 n292, .int .i64 n293, .pointer p294, .int .i64 n295]) H (fun x e' H' => K x (clean e' ((⟨[2, 3, 4, 6, 7, 8, 9, 53], [], []⟩ : Out).of x)) H') = R07_Shift_p2_b k p289 p290 p291 n292 n293 p294 n295 H (fun p1250 p1251 p1252 n1253 n1254 p1255 n1256 t1257 => K .normal [(2, .pointer p1250), (3, .pointer p1251), (4, .pointer p1252), (6, .int .i64 n1253), (7, .int .i64 n1254), (8, .pointer p1255), (9, .int .i64 n1256), (53, .bool t1257)] H) := by kernel_rfl
theorem R07_Shift_j2 {R : Type} (k : Nat) : JS Try.prog 69 (R07_Shift_a2 R k k) [2, 3, 4, 6, 7, 8, 9] ⟨[2, 3, 4, 6, 7, 8, 9, 53], [], []⟩ (sel [1, 1, 1, 1, 1, 0, 1, 0, 0, 1, 0, 0, 0, 0] (Try.f25.body.getD .skip)) :=
  piece_ok (nt := 69) (c := (sel [1, 1, 1, 1, 1, 0, 1, 0, 0, 1, 0, 0, 0, 0] (Try.f25.body.getD .skip))) (C := R07_Shift_C R k) (an := An) (t := (.reg [2, 3, 4, 6, 7, 8, 9, 53] [])) (ic := R07_Shift_i2) (R07_Shift_S R k) (R07_Shift_J R k) (by kernel_rfl) True.intro (R07_Shift_a2 R k k)
    (fun vals H K r h => by
      unfold R07_Shift_a2 R07_Shift_aa2 at h
      split at h <;> first | (cases h; done) | exact Eq.trans (R07_Shift_e2 R02_Valid (R07_Range k) (R07_Offset k) (R07_Shift_p0 k) (R07_Shift_l1 k) (R07_Shift_p2 k) k _ _ _ _ _ _ _ H K) h)
theorem R07_Shift_e1 {R : Type} (R02_Valid : Int → Int → Int → Int → Option Addr → Nat → Nat → Heap → (Bool → Heap → Option R) → Option R) (R07_Range : Int → Bool → Int → Int → Heap → (Int → Int → Heap → Option R) → Option R) (R07_Offset : Int → Bool → Int → Int → Heap → (Int → Heap → Option R) → Option R) (R07_Shift_p0 : Option Addr → Option Addr → Option Addr → Heap → (Option Addr → Option Addr → Option Addr → Bool → Option R) → Option R) (R07_Shift_l1 : (Option Addr → Option Addr → Heap → Option R) → (Option Addr → Int → Heap → Option R) → Nat → Option Addr → Option Addr → Option Addr → Int → Int → Option Addr → Int → Heap → Option R) (R07_Shift_p2 : Option Addr → Option Addr → Option Addr → Int → Int → Option Addr → Int → Heap → (Option Addr → Option Addr → Option Addr → Int → Int → Option Addr → Int → Bool → Option R) → Option R) (k n : Nat) (p278 : Option Addr) (p279 : Option Addr) (p280 : Option Addr) (n281 : Int) (n282 : Int) (p283 : Option Addr) (n284 : Int) (H : Heap) (K : Xit → Env → Heap → Option R) : evJ (R07_Shift_Ct R02_Valid R07_Range R07_Offset) (R07_Shift_Jt k R07_Shift_p0 R07_Shift_l1 R07_Shift_p2) R07_Shift_i1 (List.zip [2, 3, 4, 6, 7, 8, 9] [.pointer p278, .pointer p279, .pointer p280, .int .i64 n281, .int .i64 n282, .pointer p283, .int .i64 n284]) H (fun x e' H' => match x with | .normal => R07_Shift_aa1 R07_Shift_l1 n ((clean e' [2, 3, 4, 6, 7, 8, 9]).map (·.2)) H' K | x => K x (clean e' ((⟨[], [(0, [4, 8])], [4, 5]⟩ : Out).of x)) H') = R07_Shift_l1_b R07_Shift_p2 R07_Offset (R07_Shift_l1 (fun p1246 p1247 H => K (.exit 0) [(4, .pointer p1246), (8, .pointer p1247)] H) (fun p1248 n1249 H => K .ret [(4, .pointer p1248), (5, .int .i64 n1249)] H) n) (fun p1246 p1247 H => K (.exit 0) [(4, .pointer p1246), (8, .pointer p1247)] H) (fun p1248 n1249 H => K .ret [(4, .pointer p1248), (5, .int .i64 n1249)] H) k p278 p279 p280 n281 n282 p283 n284 H := by kernel_rfl
theorem R07_Shift_j1 {R : Type} (k : Nat) : JS Try.prog 69 (R07_Shift_a1 R k k) [2, 3, 4, 6, 7, 8, 9] ⟨[], [(0, [4, 8])], [4, 5]⟩ (.loop (sel [1, 1, 1, 1, 1, 0, 1, 0, 0] (Try.f25.body.getD .skip))) :=
  loop_ok (nt := 69) (c := (sel [1, 1, 1, 1, 1, 0, 1, 0, 0] (Try.f25.body.getD .skip))) (C := R07_Shift_C R k) (an := An) (t := (.seq (.seq (.reg [2, 3, 4, 6, 7, 8, 9, 35] []) (.cond .leaf .leaf)) (.seq (.node (.seq (.seq (.opq 2 [2, 3, 4, 6, 7, 8, 9] ⟨[2, 3, 4, 6, 7, 8, 9, 53], [], []⟩ (.reg [2, 3, 4, 6, 7, 8, 9, 53] [])) (.cond (.seq (.reg [4, 5] []) .leaf) .leaf)) (.reg [2, 3, 4, 6, 7, 8, 9] [[], [0], [], [2], [], [2, 3, 4], [2, 3, 4, 5], [], [7], [2, 3, 4, 5, 6, 7, 8], [2, 3, 4, 5, 6, 7, 8, 9], [0, 1, 2, 3, 4, 5, 6, 7, 8, 9, 10], [0, 1, 2, 3, 4, 5, 6, 7, 8, 9, 10, 11], [0, 1, 2, 3, 4, 5, 6, 7, 8, 9, 10, 11, 12]]))) (.reg [2, 3, 4, 6, 7, 8, 9] [])))) (ic := R07_Shift_i1) (R07_Shift_S R k) (R07_Shift_J R k) (by kernel_rfl) (And.intro (And.intro True.intro (And.intro True.intro True.intro)) (And.intro (And.intro (And.intro (R07_Shift_j2 k) (And.intro (And.intro True.intro True.intro) True.intro)) True.intro) True.intro)) (R07_Shift_a1 R k) (fun vals H K => by unfold R07_Shift_a1 R07_Shift_aa1; split <;> rfl)
    (fun n vals H K r h => by
      unfold R07_Shift_a1 R07_Shift_aa1 at h
      split at h <;> first | (cases h; done) | exact Eq.trans (R07_Shift_e1 R02_Valid (R07_Range k) (R07_Offset k) (R07_Shift_p0 k) (R07_Shift_l1 k) (R07_Shift_p2 k) k n _ _ _ _ _ _ _ H K) h) k
theorem R07_Shift_e0 {R : Type} (R02_Valid : Int → Int → Int → Int → Option Addr → Nat → Nat → Heap → (Bool → Heap → Option R) → Option R) (R07_Range : Int → Bool → Int → Int → Heap → (Int → Int → Heap → Option R) → Option R) (R07_Offset : Int → Bool → Int → Int → Heap → (Int → Heap → Option R) → Option R) (R07_Shift_p0 : Option Addr → Option Addr → Option Addr → Heap → (Option Addr → Option Addr → Option Addr → Bool → Option R) → Option R) (R07_Shift_l1 : (Option Addr → Option Addr → Heap → Option R) → (Option Addr → Int → Heap → Option R) → Nat → Option Addr → Option Addr → Option Addr → Int → Int → Option Addr → Int → Heap → Option R) (R07_Shift_p2 : Option Addr → Option Addr → Option Addr → Int → Int → Option Addr → Int → Heap → (Option Addr → Option Addr → Option Addr → Int → Int → Option Addr → Int → Bool → Option R) → Option R) (k : Nat) (p240 : Option Addr) (p241 : Option Addr) (p242 : Option Addr) (H : Heap) (K : Xit → Env → Heap → Option R) : evJ (R07_Shift_Ct R02_Valid R07_Range R07_Offset) (R07_Shift_Jt k R07_Shift_p0 R07_Shift_l1 R07_Shift_p2) R07_Shift_i0 (List.zip [2, 3, 4] [.pointer p240, .pointer p241, .pointer p242]) H (fun x e' H' => K x (clean e' ((⟨[2, 3, 4, 21], [], []⟩ : Out).of x)) H') = R07_Shift_p0_b k p240 p241 p242 H (fun p1242 p1243 p1244 t1245 => K .normal [(2, .pointer p1242), (3, .pointer p1243), (4, .pointer p1244), (21, .bool t1245)] H) := by kernel_rfl
theorem R07_Shift_j0 {R : Type} (k : Nat) : JS Try.prog 69 (R07_Shift_a0 R k k) [2, 3, 4] ⟨[2, 3, 4, 21], [], []⟩ (sel [1, 1, 0, 0] (Try.f25.body.getD .skip)) :=
  piece_ok (nt := 69) (c := (sel [1, 1, 0, 0] (Try.f25.body.getD .skip))) (C := R07_Shift_C R k) (an := An) (t := (.reg [2, 3, 4, 21] [])) (ic := R07_Shift_i0) (R07_Shift_S R k) (R07_Shift_J R k) (by kernel_rfl) True.intro (R07_Shift_a0 R k k)
    (fun vals H K r h => by
      unfold R07_Shift_a0 R07_Shift_aa0 at h
      split at h <;> first | (cases h; done) | exact Eq.trans (R07_Shift_e0 R02_Valid (R07_Range k) (R07_Offset k) (R07_Shift_p0 k) (R07_Shift_l1 k) (R07_Shift_p2 k) k _ _ _ H K) h)
def R07_Shift_ca {R : Type} (f : Int → Int → Int → Int → Option Addr → Nat → Nat → Int → Bool → Int → Int → Heap → (Int → Int → Int → Int → Option Addr → Nat → Nat → Int → Heap → Option R) → Option R) (args : List Value) (H : Heap) (K : Value → Heap → Option R) : Option R :=
  match args with
  | [.agg ⟨[.int .i64 n206, .int .i64 n207, .int .i64 n208, .int .i64 n209, .slice q210 l211 c212]⟩, .agg ⟨[.int .i64 n213, .bool t214, .int .i64 n215, .int .i64 n216]⟩] => f n206 n207 n208 n209 q210 l211 c212 n213 t214 n215 n216 H (fun n1258 n1259 n1260 n1261 q1262 l1263 c1264 n1265 H => K (.tuple ⟨[.agg ⟨[.int .i64 n1258, .int .i64 n1259, .int .i64 n1260, .int .i64 n1261, .slice q1262 l1263 c1264]⟩, .int .i64 n1265]⟩) H)
  | _ => none
def R07_Shift_c (R : Type) (k : Nat) (args : List Value) (H : Heap) (K : Value → Heap → Option R) : Option R := R07_Shift_ca (R07_Shift k) args H K
theorem R07_Shift_e {R : Type} (R02_Valid : Int → Int → Int → Int → Option Addr → Nat → Nat → Heap → (Bool → Heap → Option R) → Option R) (R07_Range : Int → Bool → Int → Int → Heap → (Int → Int → Heap → Option R) → Option R) (R07_Offset : Int → Bool → Int → Int → Heap → (Int → Heap → Option R) → Option R) (R07_Shift_p0 : Option Addr → Option Addr → Option Addr → Heap → (Option Addr → Option Addr → Option Addr → Bool → Option R) → Option R) (R07_Shift_l1 : (Option Addr → Option Addr → Heap → Option R) → (Option Addr → Int → Heap → Option R) → Nat → Option Addr → Option Addr → Option Addr → Int → Int → Option Addr → Int → Heap → Option R) (R07_Shift_p2 : Option Addr → Option Addr → Option Addr → Int → Int → Option Addr → Int → Heap → (Option Addr → Option Addr → Option Addr → Int → Int → Option Addr → Int → Bool → Option R) → Option R) (k : Nat) (n206 : Int) (n207 : Int) (n208 : Int) (n209 : Int) (q210 : Option Addr) (l211 : Nat) (c212 : Nat) (n213 : Int) (t214 : Bool) (n215 : Int) (n216 : Int) (H : Heap) (K : Value → Heap → Option R) : evF (R07_Shift_Ct R02_Valid R07_Range R07_Offset) (R07_Shift_Jt k R07_Shift_p0 R07_Shift_l1 R07_Shift_p2) R07_Shift_f [.agg ⟨[.int .i64 n206, .int .i64 n207, .int .i64 n208, .int .i64 n209, .slice q210 l211 c212]⟩, .agg ⟨[.int .i64 n213, .bool t214, .int .i64 n215, .int .i64 n216]⟩] H K = R07_Shift_b R02_Valid R07_Shift_p0 R07_Range R07_Shift_l1 k n206 n207 n208 n209 q210 l211 c212 n213 t214 n215 n216 H (fun n1258 n1259 n1260 n1261 q1262 l1263 c1264 n1265 H => K (.tuple ⟨[.agg ⟨[.int .i64 n1258, .int .i64 n1259, .int .i64 n1260, .int .i64 n1261, .slice q1262 l1263 c1264]⟩, .int .i64 n1265]⟩) H) := by kernel_rfl
theorem R07_Shift_cs (R : Type) (k : Nat) : ∀ args H K r, R07_Shift_c R k args H K = some r → ∃ v H', Tri Try.prog 25 args H v H' ∧ K v H' = some r := by
  intro args H K r h
  unfold R07_Shift_c R07_Shift_ca at h
  split at h
  · exact evF_ok (C := R07_Shift_C R k) (an := An) (t := R07_Shift_at) (fn := Try.f25) (c := (Try.f25.body.getD .skip)) (ifn := R07_Shift_f) (R07_Shift_S R k) (R07_Shift_J R k) Try.func25 (by kernel_rfl) (by kernel_rfl) (And.intro True.intro (And.intro (And.intro True.intro (And.intro (And.intro True.intro True.intro) True.intro)) (And.intro (And.intro (R07_Shift_j0 k) (And.intro (And.intro True.intro True.intro) True.intro)) (And.intro True.intro (And.intro True.intro (And.intro (And.intro True.intro (R07_Shift_j1 k)) (And.intro True.intro True.intro))))))) rfl (Eq.trans (R07_Shift_e R02_Valid (R07_Range k) (R07_Offset k) (R07_Shift_p0 k) (R07_Shift_l1 k) (R07_Shift_p2 k) k _ _ _ _ _ _ _ _ _ _ _ H K) h)
  · cases h
/-! ### R07_Unshift: function 28 -/
def R07_Unshift_p0_b {R : Type} (k : Nat) (p497 : Option Addr) (p498 : Option Addr) (p499 : Option Addr) (H : Heap) (KN : Option Addr → Option Addr → Option Addr → Bool → Option R) : Option R :=
hfad 0 p498 fun p500 =>
ldI .i64 H p500 fun n501 =>
bif decide (n501 < 1) then (KN p497 p498 p499 true)
 else (hfad 0 p498 fun p502 =>
ldI .i64 H p502 fun n503 =>
KN p497 p498 p499 (decide (n503 > 16)))
def R07_Unshift_p0 {R : Type} (k : Nat) (p497 : Option Addr) (p498 : Option Addr) (p499 : Option Addr) (H : Heap) (KN : Option Addr → Option Addr → Option Addr → Bool → Option R) : Option R := R07_Unshift_p0_b k p497 p498 p499 H KN

def R07_Unshift_l1_b {R : Type} (R07_Offset : Int → Bool → Int → Int → Heap → (Int → Heap → Option R) → Option R) (rec : Option Addr → Option Addr → Option Addr → Int → Int → Option Addr → Int → Heap → Option R) (KE0 : Option Addr → Option Addr → Heap → Option R) (k : Nat) (p535 : Option Addr) (p536 : Option Addr) (p537 : Option Addr) (n538 : Int) (n539 : Int) (p540 : Option Addr) (n541 : Int) (H : Heap) : Option R :=
hfad 4 p535 fun p542 =>
ldL H p542 fun q543 l544 c545 =>
bif decide (n541 < ((l544 : Nat) : Int)) then (hfad 4 p535 fun p546 =>
ldL H p546 fun q547 l548 c549 =>
hidx q547 l548 n541 1 fun p550 =>
ldI .i64 H p550 fun n551 =>
ldI .i64 H (pad p536 0) fun n552 =>
ldB H (pad p536 1) fun t553 =>
ldI .i64 H (pad p536 2) fun n554 =>
ldI .i64 H (pad p536 3) fun n555 =>
R07_Offset n552 t553 n554 n555 (roH H) fun n556 H557 =>
ldI .i64 H (pad p536 0) fun n558 =>
ldB H (pad p536 1) fun t559 =>
ldI .i64 H (pad p536 2) fun n560 =>
ldI .i64 H (pad p536 3) fun n561 =>
R07_Offset n558 t559 n560 n561 (roH H) fun n562 H563 =>
hfad 4 p540 fun p564 =>
ldL H p564 fun q565 l566 c567 =>
ldI .i64 H (pad p536 0) fun n568 =>
ldB H (pad p536 1) fun t569 =>
ldI .i64 H (pad p536 2) fun n570 =>
ldI .i64 H (pad p536 3) fun n571 =>
R07_Offset n568 t569 n570 n571 (roH H) fun n572 H573 =>
hal H [.int .i64 (IntKind.wrap .i64 ((imn (imx n551 (IntKind.wrap .i64 (n538 - n556))) (IntKind.wrap .i64 (n539 - n562))) + n572))] fun p574 H575 =>
happS 1 8 H575 q565 l566 c567 p574 1 fun q576 l577 c578 H579 =>
hfad 4 p540 fun p580 =>
hst1 H579 p580 (.slice q576 l577 c578) fun H581 =>
rec p535 p536 p537 n538 n539 p540 (IntKind.wrap .i64 (n541 + 1)) H581)
 else (KE0 p537 p540 H)
def R07_Unshift_l1 {R : Type} (k : Nat) (KE0 : Option Addr → Option Addr → Heap → Option R) : Nat → Option Addr → Option Addr → Option Addr → Int → Int → Option Addr → Int → Heap → Option R
  | 0, _, _, _, _, _, _, _, _ => none
  | n + 1, p535, p536, p537, n538, n539, p540, n541, H => R07_Unshift_l1_b (R07_Offset k) (R07_Unshift_l1 k KE0 n) KE0 k p535 p536 p537 n538 n539 p540 n541 H

def R07_Unshift_b {R : Type} (R02_Valid : Int → Int → Int → Int → Option Addr → Nat → Nat → Heap → (Bool → Heap → Option R) → Option R) (R07_Unshift_p0 : Option Addr → Option Addr → Option Addr → Heap → (Option Addr → Option Addr → Option Addr → Bool → Option R) → Option R) (R07_Range : Int → Bool → Int → Int → Heap → (Int → Int → Heap → Option R) → Option R) (R07_Unshift_l1 : (Option Addr → Option Addr → Heap → Option R) → Nat → Option Addr → Option Addr → Option Addr → Int → Int → Option Addr → Int → Heap → Option R) (k : Nat) (n463 : Int) (n464 : Int) (n465 : Int) (n466 : Int) (q467 : Option Addr) (l468 : Nat) (c469 : Nat) (n470 : Int) (t471 : Bool) (n472 : Int) (n473 : Int) (H : Heap) (K : Int → Int → Int → Int → Option Addr → Nat → Nat → Int → Heap → Option R) : Option R :=
hal H [.int .i64 n463, .int .i64 n464, .int .i64 n465, .int .i64 n466, .slice q467 l468 c469] fun p474 H475 =>
hal H475 [.int .i64 n470, .bool t471, .int .i64 n472, .int .i64 n473] fun p476 H477 =>
hal H477 [.int .i64 0, .int .i64 0, .int .i64 0, .int .i64 0, .slice none 0 0] fun p478 H479 =>
ldI .i64 H479 (pad p474 0) fun n480 =>
ldI .i64 H479 (pad p474 1) fun n481 =>
ldI .i64 H479 (pad p474 2) fun n482 =>
ldI .i64 H479 (pad p474 3) fun n483 =>
ldL H479 (pad p474 4) fun q484 l485 c486 =>
R02_Valid n480 n481 n482 n483 q484 l485 c486 H479 fun t487 H488 =>
bif (!t487) then (hst H488 p478 [.int .i64 0, .int .i64 0, .int .i64 0, .int .i64 0, .slice none 0 0] fun H489 =>
ldI .i64 H489 (pad p478 0) fun n490 =>
ldI .i64 H489 (pad p478 1) fun n491 =>
ldI .i64 H489 (pad p478 2) fun n492 =>
ldI .i64 H489 (pad p478 3) fun n493 =>
ldL H489 (pad p478 4) fun q494 l495 c496 =>
K n490 n491 n492 n493 q494 l495 c496 1 H489)
 else (R07_Unshift_p0 p474 p476 p478 H488 (fun p508 p509 p510 t511 =>
bif t511 then (hst H488 p510 [.int .i64 0, .int .i64 0, .int .i64 0, .int .i64 0, .slice none 0 0] fun H512 =>
ldI .i64 H512 (pad p510 0) fun n513 =>
ldI .i64 H512 (pad p510 1) fun n514 =>
ldI .i64 H512 (pad p510 2) fun n515 =>
ldI .i64 H512 (pad p510 3) fun n516 =>
ldL H512 (pad p510 4) fun q517 l518 c519 =>
K n513 n514 n515 n516 q517 l518 c519 12 H512)
 else (ldI .i64 H488 (pad p509 0) fun n520 =>
ldB H488 (pad p509 1) fun t521 =>
ldI .i64 H488 (pad p509 2) fun n522 =>
ldI .i64 H488 (pad p509 3) fun n523 =>
R07_Range n520 t521 n522 n523 H488 fun n524 n525 H526 =>
hfad 0 p508 fun p527 =>
ldI .i64 H526 (pad p527 0) fun n528 =>
ldI .i64 H526 (pad p527 1) fun n529 =>
ldI .i64 H526 (pad p527 2) fun n530 =>
ldI .i64 H526 (pad p527 3) fun n531 =>
hal H526 [.int .i64 0, .int .i64 0, .int .i64 0, .int .i64 0, .slice none 0 0] fun p532 H533 =>
hst H533 p532 [.int .i64 n528, .int .i64 n529, .int .i64 n530, .int .i64 n531, .slice none 0 0] fun H534 =>
R07_Unshift_l1 (fun p584 p585 H586 =>
ldI .i64 H586 (pad p585 0) fun n587 =>
ldI .i64 H586 (pad p585 1) fun n588 =>
ldI .i64 H586 (pad p585 2) fun n589 =>
ldI .i64 H586 (pad p585 3) fun n590 =>
ldL H586 (pad p585 4) fun q591 l592 c593 =>
hst H586 p584 [.int .i64 n587, .int .i64 n588, .int .i64 n589, .int .i64 n590, .slice q591 l592 c593] fun H594 =>
ldI .i64 H594 (pad p584 0) fun n595 =>
ldI .i64 H594 (pad p584 1) fun n596 =>
ldI .i64 H594 (pad p584 2) fun n597 =>
ldI .i64 H594 (pad p584 3) fun n598 =>
ldL H594 (pad p584 4) fun q599 l600 c601 =>
K n595 n596 n597 n598 q599 l600 c601 0 H594) k p508 p509 p510 n524 n525 p532 0 H534)))

def R07_Unshift {R : Type} (k : Nat) (n463 : Int) (n464 : Int) (n465 : Int) (n466 : Int) (q467 : Option Addr) (l468 : Nat) (c469 : Nat) (n470 : Int) (t471 : Bool) (n472 : Int) (n473 : Int) (H : Heap) (K : Int → Int → Int → Int → Option Addr → Nat → Nat → Int → Heap → Option R) : Option R := R07_Unshift_b R02_Valid (R07_Unshift_p0 k) (R07_Range k) (R07_Unshift_l1 k) k n463 n464 n465 n466 q467 l468 c469 n470 t471 n472 n473 H K

def R07_Unshift_Ct {R : Type} (R02_Valid : Int → Int → Int → Int → Option Addr → Nat → Nat → Heap → (Bool → Heap → Option R) → Option R) (R07_Range : Int → Bool → Int → Int → Heap → (Int → Int → Heap → Option R) → Option R) (R07_Offset : Int → Bool → Int → Int → Heap → (Int → Heap → Option R) → Option R) : Tab R := tcons 46 (R02_Valid_ca R02_Valid) <| tcons 23 (R07_Range_ca R07_Range) <| tcons 47 (R07_Offset_ca R07_Offset) <| fun _ _ _ _ => none
def R07_Unshift_C (R : Type) (k : Nat) : Tab R := R07_Unshift_Ct R02_Valid (R07_Range k) (R07_Offset k)
theorem R07_Unshift_S (R : Type) (k : Nat) : CSound Try.prog (R07_Unshift_C R k) := csound_cons (R02_Valid_cs R k) <| csound_cons (R07_Range_cs R k) <| csound_cons (R07_Offset_cs R k) <| csound_nil
def R07_Unshift_aa0 {R : Type} (f : Option Addr → Option Addr → Option Addr → Heap → (Option Addr → Option Addr → Option Addr → Bool → Option R) → Option R) (n : Nat) (vals : List Value) (H : Heap) (K : Xit → Env → Heap → Option R) : Option R :=
  match vals with
  | [.pointer p497, .pointer p498, .pointer p499] => f p497 p498 p499 H (fun p1266 p1267 p1268 t1269 => K .normal [(2, .pointer p1266), (3, .pointer p1267), (4, .pointer p1268), (22, .bool t1269)] H)
  | _ => none
def R07_Unshift_a0 (R : Type) (k n : Nat) (vals : List Value) (H : Heap) (K : Xit → Env → Heap → Option R) : Option R := R07_Unshift_aa0 (R07_Unshift_p0 k) n vals H K
def R07_Unshift_aa1 {R : Type} (f : (Option Addr → Option Addr → Heap → Option R) → Nat → Option Addr → Option Addr → Option Addr → Int → Int → Option Addr → Int → Heap → Option R) (n : Nat) (vals : List Value) (H : Heap) (K : Xit → Env → Heap → Option R) : Option R :=
  match vals with
  | [.pointer p535, .pointer p536, .pointer p537, .int .i64 n538, .int .i64 n539, .pointer p540, .int .i64 n541] => f (fun p1270 p1271 H => K (.exit 0) [(4, .pointer p1270), (8, .pointer p1271)] H) n p535 p536 p537 n538 n539 p540 n541 H
  | _ => none
def R07_Unshift_a1 (R : Type) (k n : Nat) (vals : List Value) (H : Heap) (K : Xit → Env → Heap → Option R) : Option R := R07_Unshift_aa1 (R07_Unshift_l1 k) n vals H K
def R07_Unshift_Jt {R : Type} (k : Nat) (R07_Unshift_p0 : Option Addr → Option Addr → Option Addr → Heap → (Option Addr → Option Addr → Option Addr → Bool → Option R) → Option R) (R07_Unshift_l1 : (Option Addr → Option Addr → Heap → Option R) → Nat → Option Addr → Option Addr → Option Addr → Int → Int → Option Addr → Int → Heap → Option R) : JTab R := tcons 0 (R07_Unshift_aa0 R07_Unshift_p0 k) <| tcons 1 (R07_Unshift_aa1 R07_Unshift_l1 k) <| fun _ _ _ _ => none
def R07_Unshift_J (R : Type) (k : Nat) : JTab R := R07_Unshift_Jt k (R07_Unshift_p0 k) (R07_Unshift_l1 k)
def R07_Unshift_at : AT := (.seq (.reg [2, 3, 4] []) (.seq (.seq (.reg [2, 3, 4, 13] []) (.cond (.seq (.reg [4, 5] []) .leaf) .leaf)) (.seq (.seq (.opq 0 [2, 3, 4] ⟨[2, 3, 4, 22], [], []⟩ (.reg [2, 3, 4, 22] [])) (.cond (.seq (.reg [4, 5] []) .leaf) .leaf)) (.seq (.reg [2, 3, 4, 6, 7] []) (.seq (.reg [2, 3, 4, 6, 7, 8] []) (.seq (.seq (.reg [2, 3, 4, 6, 7, 8, 9] []) (.node (.opq 1 [2, 3, 4, 6, 7, 8, 9] ⟨[], [(0, [4, 8])], []⟩ (.node (.seq (.seq (.reg [2, 3, 4, 6, 7, 8, 9, 36] []) (.cond .leaf .leaf)) (.seq (.node (.seq (.reg [2, 3, 4, 6, 7, 8, 9, 10] [[], [0], [], [0, 1, 2], [0, 1, 2, 3], [], [], [6], [5, 6, 7], [0, 1, 2, 3, 4, 5, 6, 7, 8], [], [], [6, 7, 11], [6, 7, 10, 11, 12], [0, 1, 2, 3, 4, 5, 6, 7, 8, 9, 10, 11, 12, 13], [0, 1, 2, 3, 4, 5, 6, 7, 8, 9, 10, 11, 12, 13, 14]]) (.reg [2, 3, 4, 6, 7, 8, 9] [[], [0], [], [], [3], [2, 3, 4], [2, 3, 4, 5], [0, 1, 2, 3, 4, 5, 6], [0, 1, 2, 3, 4, 5, 6, 7], [0, 1, 2, 3, 4, 5, 6, 7, 8]]))) (.reg [2, 3, 4, 6, 7, 8, 9] []))))))) (.seq (.reg [4, 5] []) .leaf)))))))
def R07_Unshift_i1 : IC := (.seq (.seq (.reg [⟨some 32, .mov (.t 9), none⟩,
 ⟨some 33, .fad 4 (.t 2), none⟩,
 ⟨some 34, .ld (.sc .slc) (.t 33), none⟩,
 ⟨some 35, .len false (.t 34), none⟩,
 ⟨some 36, .cmp .lss (.t 32) (.t 35), none⟩] [2, 3, 4, 6, 7, 8, 9, 36]) (.cond (.t 36) .skip (.exit 0))) (.seq (.block 1 (.seq (.reg [⟨some 39, .fad 4 (.t 2), none⟩,
 ⟨some 40, .ld (.sc .slc) (.t 39), none⟩,
 ⟨some 41, .mov (.t 9), none⟩,
 ⟨some 42, .ids 1 (.t 40) (.t 41), none⟩,
 ⟨some 43, .ld (.sc (.int .i64)) (.t 42), none⟩,
 ⟨some 44, .mov (.t 6), none⟩,
 ⟨some 45, .ld (.agg [(.int .i64), .bool, (.int .i64), (.int .i64)]) (.t 3), none⟩,
 ⟨some 46, .calp 47 [(.t 45)] (.one (.sc (.int .i64))), none⟩,
 ⟨some 47, .bin .sub .i64 (.t 44) (.t 46), none⟩,
 ⟨some 48, .mx (.t 43) (.t 47), none⟩,
 ⟨some 49, .mov (.t 7), none⟩,
 ⟨some 50, .ld (.agg [(.int .i64), .bool, (.int .i64), (.int .i64)]) (.t 3), none⟩,
 ⟨some 51, .calp 47 [(.t 50)] (.one (.sc (.int .i64))), none⟩,
 ⟨some 52, .bin .sub .i64 (.t 49) (.t 51), none⟩,
 ⟨some 53, .mn (.t 48) (.t 52), none⟩,
 ⟨some 10, .mov (.t 53), none⟩] [2, 3, 4, 6, 7, 8, 9, 10]) (.reg [⟨some 54, .fad 4 (.t 8), none⟩,
 ⟨some 55, .ld (.sc .slc) (.t 54), none⟩,
 ⟨some 56, .mov (.t 10), none⟩,
 ⟨some 57, .ld (.agg [(.int .i64), .bool, (.int .i64), (.int .i64)]) (.t 3), none⟩,
 ⟨some 58, .calp 47 [(.t 57)] (.one (.sc (.int .i64))), none⟩,
 ⟨some 59, .bin .add .i64 (.t 56) (.t 58), none⟩,
 ⟨some 60, .bls 1 [.int .i64 0] [(0, 1, (.t 59))], none⟩,
 ⟨some 61, .app [.int .i64 0] 8 (.t 55) (.t 60), none⟩,
 ⟨some 62, .fad 4 (.t 8), none⟩,
 ⟨none, .st 1 (.t 62) (.t 61), none⟩] [2, 3, 4, 6, 7, 8, 9]))) (.reg [⟨some 37, .mov (.t 9), none⟩,
 ⟨some 38, .bin .add .i64 (.t 37) (.c (Go.Value.int Go.IntKind.i64 1)), none⟩,
 ⟨some 9, .mov (.t 38), none⟩] [2, 3, 4, 6, 7, 8, 9])))
def R07_Unshift_i0 : IC := (.reg [⟨some 15, .fad 0 (.t 3), none⟩,
 ⟨some 16, .ld (.sc (.int .i64)) (.t 15), none⟩,
 ⟨some 17, .cmp .lss (.t 16) (.c (Go.Value.int Go.IntKind.i64 1)), none⟩,
 ⟨some 18, .mov (.t 17), none⟩,
 ⟨some 19, .fad 0 (.t 3), some (18, false)⟩,
 ⟨some 20, .ld (.sc (.int .i64)) (.t 19), some (18, false)⟩,
 ⟨some 21, .cmp .gtr (.t 20) (.c (Go.Value.int Go.IntKind.i64 16)), some (18, false)⟩,
 ⟨some 22, .pick (.t 18) (.c (Go.Value.bool true)) (.t 21), none⟩] [2, 3, 4, 22])
def R07_Unshift_f : IFn := ⟨64, [.cell 4 (.agg [(.int .i64), (.int .i64), (.int .i64), (.int .i64), .slc]), .t 5], (.seq (.reg [⟨some 2, .box (.t 0), none⟩,
 ⟨some 3, .box (.t 1), none⟩,
 ⟨some 4, .alc [.int .i64 0, .int .i64 0, .int .i64 0, .int .i64 0, .slice none 0 0], none⟩,
 ⟨some 5, .mov (.c (Go.Value.int Go.IntKind.i64 0)), none⟩] [2, 3, 4]) (.seq (.seq (.reg [⟨some 11, .ld (.agg [(.int .i64), (.int .i64), (.int .i64), (.int .i64), .slc]) (.t 2), none⟩,
 ⟨some 12, .call 46 [(.t 11)] (.one (.sc .bool)), none⟩,
 ⟨some 13, .lnot (.t 12), none⟩] [2, 3, 4, 13]) (.cond (.t 13) (.seq (.reg [⟨some 14, .bld [.int .i64 0, .int .i64 0, .int .i64 0, .int .i64 0, .slice none 0 0] [], none⟩,
 ⟨none, .st 5 (.t 4) (.t 14), none⟩,
 ⟨some 5, .mov (.c (Go.Value.int Go.IntKind.i64 1)), none⟩] [4, 5]) .ret) .skip)) (.seq (.seq (.opq 0 [2, 3, 4] R07_Unshift_i0) (.cond (.t 22) (.seq (.reg [⟨some 23, .bld [.int .i64 0, .int .i64 0, .int .i64 0, .int .i64 0, .slice none 0 0] [], none⟩,
 ⟨none, .st 5 (.t 4) (.t 23), none⟩,
 ⟨some 5, .mov (.c (Go.Value.int Go.IntKind.i64 12)), none⟩] [4, 5]) .ret) .skip)) (.seq (.reg [⟨some 25, .ld (.agg [(.int .i64), .bool, (.int .i64), (.int .i64)]) (.t 3), none⟩,
 ⟨some 26, .call 23 [(.t 25)] (.tup [(.sc (.int .i64)), (.sc (.int .i64))]), none⟩,
 ⟨some 24, .mov (.t 26), none⟩,
 ⟨some 27, .ext 0 (.t 24), none⟩,
 ⟨some 28, .ext 1 (.t 24), none⟩,
 ⟨some 6, .mov (.t 27), none⟩,
 ⟨some 7, .mov (.t 28), none⟩] [2, 3, 4, 6, 7]) (.seq (.reg [⟨some 29, .fad 0 (.t 2), none⟩,
 ⟨some 30, .ld (.agg [(.int .i64), (.int .i64), (.int .i64), (.int .i64)]) (.t 29), none⟩,
 ⟨some 31, .bld [.int .i64 0, .int .i64 0, .int .i64 0, .int .i64 0, .slice none 0 0] [(0, 4, (.t 30))], none⟩,
 ⟨some 8, .alc [.int .i64 0, .int .i64 0, .int .i64 0, .int .i64 0, .slice none 0 0], none⟩,
 ⟨none, .st 5 (.t 8) (.t 31), none⟩] [2, 3, 4, 6, 7, 8]) (.seq (.seq (.reg [⟨some 9, .mov (.c (Go.Value.int Go.IntKind.i64 0)), none⟩] [2, 3, 4, 6, 7, 8, 9]) (.block 0 (.opq 1 [2, 3, 4, 6, 7, 8, 9] (.loop R07_Unshift_i1)))) (.seq (.reg [⟨some 63, .ld (.agg [(.int .i64), (.int .i64), (.int .i64), (.int .i64), .slc]) (.t 8), none⟩,
 ⟨none, .st 5 (.t 4) (.t 63), none⟩,
 ⟨some 5, .mov (.c (Go.Value.int Go.IntKind.i64 0)), none⟩] [4, 5]) .ret)))))))⟩
theorem R07_Unshift_e1 {R : Type} (R02_Valid : Int → Int → Int → Int → Option Addr → Nat → Nat → Heap → (Bool → Heap → Option R) → Option R) (R07_Range : Int → Bool → Int → Int → Heap → (Int → Int → Heap → Option R) → Option R) (R07_Offset : Int → Bool → Int → Int → Heap → (Int → Heap → Option R) → Option R) (R07_Unshift_p0 : Option Addr → Option Addr → Option Addr → Heap → (Option Addr → Option Addr → Option Addr → Bool → Option R) → Option R) (R07_Unshift_l1 : (Option Addr → Option Addr → Heap → Option R) → Nat → Option Addr → Option Addr → Option Addr → Int → Int → Option Addr → Int → Heap → Option R) (k n : Nat) (p535 : Option Addr) (p536 : Option Addr) (p537 : Option Addr) (n538 : Int) (n539 : Int) (p540 : Option Addr) (n541 : Int) (H : Heap) (K : Xit → Env → Heap → Option R) : evJ (R07_Unshift_Ct R02_Valid R07_Range R07_Offset) (R07_Unshift_Jt k R07_Unshift_p0 R07_Unshift_l1) R07_Unshift_i1 (List.zip [2, 3, 4, 6, 7, 8, 9] [.pointer p535, .pointer p536, .pointer p537, .int .i64 n538, .int .i64 n539, .pointer p540, .int .i64 n541]) H (fun x e' H' => match x with | .normal => R07_Unshift_aa1 R07_Unshift_l1 n ((clean e' [2, 3, 4, 6, 7, 8, 9]).map (·.2)) H' K | x => K x (clean e' ((⟨[], [(0, [4, 8])], []⟩ : Out).of x)) H') = R07_Unshift_l1_b R07_Offset (R07_Unshift_l1 (fun p1270 p1271 H => K (.exit 0) [(4, .pointer p1270), (8, .pointer p1271)] H) n) (fun p1270 p1271 H => K (.exit 0) [(4, .pointer p1270), (8, .pointer p1271)] H) k p535 p536 p537 n538 n539 p540 n541 H := by kernel_rfl
theorem R07_Unshift_j1 {R : Type} (k : Nat) : JS Try.prog 64 (R07_Unshift_a1 R k k) [2, 3, 4, 6, 7, 8, 9] ⟨[], [(0, [4, 8])], []⟩ (.loop (sel [1, 1, 1, 1, 1, 0, 1, 0, 0] (Try.f28.body.getD .skip))) :=
  loop_ok (nt := 64) (c := (sel [1, 1, 1, 1, 1, 0, 1, 0, 0] (Try.f28.body.getD .skip))) (C := R07_Unshift_C R k) (an := An) (t := (.seq (.seq (.reg [2, 3, 4, 6, 7, 8, 9, 36] []) (.cond .leaf .leaf)) (.seq (.node (.seq (.reg [2, 3, 4, 6, 7, 8, 9, 10] [[], [0], [], [0, 1, 2], [0, 1, 2, 3], [], [], [6], [5, 6, 7], [0, 1, 2, 3, 4, 5, 6, 7, 8], [], [], [6, 7, 11], [6, 7, 10, 11, 12], [0, 1, 2, 3, 4, 5, 6, 7, 8, 9, 10, 11, 12, 13], [0, 1, 2, 3, 4, 5, 6, 7, 8, 9, 10, 11, 12, 13, 14]]) (.reg [2, 3, 4, 6, 7, 8, 9] [[], [0], [], [], [3], [2, 3, 4], [2, 3, 4, 5], [0, 1, 2, 3, 4, 5, 6], [0, 1, 2, 3, 4, 5, 6, 7], [0, 1, 2, 3, 4, 5, 6, 7, 8]]))) (.reg [2, 3, 4, 6, 7, 8, 9] [])))) (ic := R07_Unshift_i1) (R07_Unshift_S R k) (R07_Unshift_J R k) (by kernel_rfl) (And.intro (And.intro True.intro (And.intro True.intro True.intro)) (And.intro (And.intro True.intro True.intro) True.intro)) (R07_Unshift_a1 R k) (fun vals H K => by unfold R07_Unshift_a1 R07_Unshift_aa1; split <;> rfl)
    (fun n vals H K r h => by
      unfold R07_Unshift_a1 R07_Unshift_aa1 at h
      split at h <;> first | (cases h; done) | exact Eq.trans (R07_Unshift_e1 R02_Valid (R07_Range k) (R07_Offset k) (R07_Unshift_p0 k) (R07_Unshift_l1 k) k n _ _ _ _ _ _ _ H K) h) k
theorem R07_Unshift_e0 {R : Type} (R02_Valid : Int → Int → Int → Int → Option Addr → Nat → Nat → Heap → (Bool → Heap → Option R) → Option R) (R07_Range : Int → Bool → Int → Int → Heap → (Int → Int → Heap → Option R) → Option R) (R07_Offset : Int → Bool → Int → Int → Heap → (Int → Heap → Option R) → Option R) (R07_Unshift_p0 : Option Addr → Option Addr → Option Addr → Heap → (Option Addr → Option Addr → Option Addr → Bool → Option R) → Option R) (R07_Unshift_l1 : (Option Addr → Option Addr → Heap → Option R) → Nat → Option Addr → Option Addr → Option Addr → Int → Int → Option Addr → Int → Heap → Option R) (k : Nat) (p497 : Option Addr) (p498 : Option Addr) (p499 : Option Addr) (H : Heap) (K : Xit → Env → Heap → Option R) : evJ (R07_Unshift_Ct R02_Valid R07_Range R07_Offset) (R07_Unshift_Jt k R07_Unshift_p0 R07_Unshift_l1) R07_Unshift_i0 (List.zip [2, 3, 4] [.pointer p497, .pointer p498, .pointer p499]) H (fun x e' H' => K x (clean e' ((⟨[2, 3, 4, 22], [], []⟩ : Out).of x)) H') = R07_Unshift_p0_b k p497 p498 p499 H (fun p1266 p1267 p1268 t1269 => K .normal [(2, .pointer p1266), (3, .pointer p1267), (4, .pointer p1268), (22, .bool t1269)] H) := by kernel_rfl
theorem R07_Unshift_j0 {R : Type} (k : Nat) : JS Try.prog 64 (R07_Unshift_a0 R k k) [2, 3, 4] ⟨[2, 3, 4, 22], [], []⟩ (sel [1, 1, 0, 0] (Try.f28.body.getD .skip)) :=
  piece_ok (nt := 64) (c := (sel [1, 1, 0, 0] (Try.f28.body.getD .skip))) (C := R07_Unshift_C R k) (an := An) (t := (.reg [2, 3, 4, 22] [])) (ic := R07_Unshift_i0) (R07_Unshift_S R k) (R07_Unshift_J R k) (by kernel_rfl) True.intro (R07_Unshift_a0 R k k)
    (fun vals H K r h => by
      unfold R07_Unshift_a0 R07_Unshift_aa0 at h
      split at h <;> first | (cases h; done) | exact Eq.trans (R07_Unshift_e0 R02_Valid (R07_Range k) (R07_Offset k) (R07_Unshift_p0 k) (R07_Unshift_l1 k) k _ _ _ H K) h)
def R07_Unshift_ca {R : Type} (f : Int → Int → Int → Int → Option Addr → Nat → Nat → Int → Bool → Int → Int → Heap → (Int → Int → Int → Int → Option Addr → Nat → Nat → Int → Heap → Option R) → Option R) (args : List Value) (H : Heap) (K : Value → Heap → Option R) : Option R :=
  match args with
  | [.agg ⟨[.int .i64 n463, .int .i64 n464, .int .i64 n465, .int .i64 n466, .slice q467 l468 c469]⟩, .agg ⟨[.int .i64 n470, .bool t471, .int .i64 n472, .int .i64 n473]⟩] => f n463 n464 n465 n466 q467 l468 c469 n470 t471 n472 n473 H (fun n1272 n1273 n1274 n1275 q1276 l1277 c1278 n1279 H => K (.tuple ⟨[.agg ⟨[.int .i64 n1272, .int .i64 n1273, .int .i64 n1274, .int .i64 n1275, .slice q1276 l1277 c1278]⟩, .int .i64 n1279]⟩) H)
  | _ => none
def R07_Unshift_c (R : Type) (k : Nat) (args : List Value) (H : Heap) (K : Value → Heap → Option R) : Option R := R07_Unshift_ca (R07_Unshift k) args H K
theorem R07_Unshift_e {R : Type} (R02_Valid : Int → Int → Int → Int → Option Addr → Nat → Nat → Heap → (Bool → Heap → Option R) → Option R) (R07_Range : Int → Bool → Int → Int → Heap → (Int → Int → Heap → Option R) → Option R) (R07_Offset : Int → Bool → Int → Int → Heap → (Int → Heap → Option R) → Option R) (R07_Unshift_p0 : Option Addr → Option Addr → Option Addr → Heap → (Option Addr → Option Addr → Option Addr → Bool → Option R) → Option R) (R07_Unshift_l1 : (Option Addr → Option Addr → Heap → Option R) → Nat → Option Addr → Option Addr → Option Addr → Int → Int → Option Addr → Int → Heap → Option R) (k : Nat) (n463 : Int) (n464 : Int) (n465 : Int) (n466 : Int) (q467 : Option Addr) (l468 : Nat) (c469 : Nat) (n470 : Int) (t471 : Bool) (n472 : Int) (n473 : Int) (H : Heap) (K : Value → Heap → Option R) : evF (R07_Unshift_Ct R02_Valid R07_Range R07_Offset) (R07_Unshift_Jt k R07_Unshift_p0 R07_Unshift_l1) R07_Unshift_f [.agg ⟨[.int .i64 n463, .int .i64 n464, .int .i64 n465, .int .i64 n466, .slice q467 l468 c469]⟩, .agg ⟨[.int .i64 n470, .bool t471, .int .i64 n472, .int .i64 n473]⟩] H K = R07_Unshift_b R02_Valid R07_Unshift_p0 R07_Range R07_Unshift_l1 k n463 n464 n465 n466 q467 l468 c469 n470 t471 n472 n473 H (fun n1272 n1273 n1274 n1275 q1276 l1277 c1278 n1279 H => K (.tuple ⟨[.agg ⟨[.int .i64 n1272, .int .i64 n1273, .int .i64 n1274, .int .i64 n1275, .slice q1276 l1277 c1278]⟩, .int .i64 n1279]⟩) H) := by kernel_rfl
theorem R07_Unshift_cs (R : Type) (k : Nat) : ∀ args H K r, R07_Unshift_c R k args H K = some r → ∃ v H', Tri Try.prog 28 args H v H' ∧ K v H' = some r := by
  intro args H K r h
  unfold R07_Unshift_c R07_Unshift_ca at h
  split at h
  · exact evF_ok (C := R07_Unshift_C R k) (an := An) (t := R07_Unshift_at) (fn := Try.f28) (c := (Try.f28.body.getD .skip)) (ifn := R07_Unshift_f) (R07_Unshift_S R k) (R07_Unshift_J R k) Try.func28 (by kernel_rfl) (by kernel_rfl) (And.intro True.intro (And.intro (And.intro True.intro (And.intro (And.intro True.intro True.intro) True.intro)) (And.intro (And.intro (R07_Unshift_j0 k) (And.intro (And.intro True.intro True.intro) True.intro)) (And.intro True.intro (And.intro True.intro (And.intro (And.intro True.intro (R07_Unshift_j1 k)) (And.intro True.intro True.intro))))))) rfl (Eq.trans (R07_Unshift_e R02_Valid (R07_Range k) (R07_Offset k) (R07_Unshift_p0 k) (R07_Unshift_l1 k) k _ _ _ _ _ _ _ _ _ _ _ H K) h)
  · cases h
/-! ### L_ColorShifts: function 5 -/
def L_ColorShifts_p0_b {R : Type} (k : Nat) (p137 : Option Addr) (p138 : Option Addr) (n139 : Int) (n140 : Int) (n141 : Int) (n142 : Int) (KN : Option Addr → Option Addr → Option R) (KR : Bool → Option R) : Option R :=
bif (n139 != n141) then (KR false)
 else (bif (n140 != n142) then (KR false)
 else (KN p137 p138))
def L_ColorShifts_p0 {R : Type} (k : Nat) (p137 : Option Addr) (p138 : Option Addr) (n139 : Int) (n140 : Int) (n141 : Int) (n142 : Int) (KN : Option Addr → Option Addr → Option R) (KR : Bool → Option R) : Option R := L_ColorShifts_p0_b k p137 p138 n139 n140 n141 n142 KN KR

def L_ColorShifts_p1_b {R : Type} (R02_Same : Int → Int → Int → Int → Option Addr → Nat → Nat → Int → Int → Int → Int → Option Addr → Nat → Nat → Heap → (Bool → Heap → Option R) → Option R) (k : Nat) (p194 : Option Addr) (p195 : Option Addr) (p196 : Option Addr) (n197 : Int) (p198 : Option Addr) (n199 : Int) (H : Heap) (KN : Option Addr → Option Addr → Heap → Option R) (KR : Bool → Heap → Option R) : Option R :=
bif (n197 != n199) then (KR false H)
 else (ldI .i64 H (pad p196 0) fun n200 =>
ldI .i64 H (pad p196 1) fun n201 =>
ldI .i64 H (pad p196 2) fun n202 =>
ldI .i64 H (pad p196 3) fun n203 =>
ldL H (pad p196 4) fun q204 l205 c206 =>
ldI .i64 H (pad p198 0) fun n207 =>
ldI .i64 H (pad p198 1) fun n208 =>
ldI .i64 H (pad p198 2) fun n209 =>
ldI .i64 H (pad p198 3) fun n210 =>
ldL H (pad p198 4) fun q211 l212 c213 =>
R02_Same n200 n201 n202 n203 q204 l205 c206 n207 n208 n209 n210 q211 l212 c213 H fun t214 H215 =>
bif (!t214) then (KR false H215)
 else (KN p194 p195 H215))
def L_ColorShifts_p1 {R : Type} (k : Nat) (p194 : Option Addr) (p195 : Option Addr) (p196 : Option Addr) (n197 : Int) (p198 : Option Addr) (n199 : Int) (H : Heap) (KN : Option Addr → Option Addr → Heap → Option R) (KR : Bool → Heap → Option R) : Option R := L_ColorShifts_p1_b (R02_Same k) k p194 p195 p196 n197 p198 n199 H KN KR

def L_ColorShifts_b {R : Type} (R02_Few : Int → Int → Int → Int → Option Addr → Nat → Nat → Heap → (Bool → Heap → Option R) → Option R) (L_exampleHoldsq : (Bool → Option R) → Option R) (color_Range : Int → Bool → Int → Int → Heap → (Int → Int → Heap → Option R) → Option R) (R07_Range : Int → Bool → Int → Int → Heap → (Int → Int → Heap → Option R) → Option R) (L_ColorShifts_p0 : Option Addr → Option Addr → Int → Int → Int → Int → (Option Addr → Option Addr → Option R) → (Bool → Option R) → Option R) (color_Shift : Int → Int → Int → Int → Option Addr → Nat → Nat → Int → Bool → Int → Int → Heap → (Int → Int → Int → Int → Option Addr → Nat → Nat → Int → Heap → Option R) → Option R) (R07_Shift : Int → Int → Int → Int → Option Addr → Nat → Nat → Int → Bool → Int → Int → Heap → (Int → Int → Int → Int → Option Addr → Nat → Nat → Int → Heap → Option R) → Option R) (L_ColorShifts_p1 : Option Addr → Option Addr → Option Addr → Int → Option Addr → Int → Heap → (Option Addr → Option Addr → Heap → Option R) → (Bool → Heap → Option R) → Option R) (color_Unshift : Int → Int → Int → Int → Option Addr → Nat → Nat → Int → Bool → Int → Int → Heap → (Int → Int → Int → Int → Option Addr → Nat → Nat → Int → Heap → Option R) → Option R) (R07_Unshift : Int → Int → Int → Int → Option Addr → Nat → Nat → Int → Bool → Int → Int → Heap → (Int → Int → Int → Int → Option Addr → Nat → Nat → Int → Heap → Option R) → Option R) (R02_Same : Int → Int → Int → Int → Option Addr → Nat → Nat → Int → Int → Int → Int → Option Addr → Nat → Nat → Heap → (Bool → Heap → Option R) → Option R) (k : Nat) (n98 : Int) (n99 : Int) (n100 : Int) (n101 : Int) (q102 : Option Addr) (l103 : Nat) (c104 : Nat) (n105 : Int) (t106 : Bool) (n107 : Int) (n108 : Int) (H : Heap) (K : Bool → Heap → Option R) : Option R :=
hal H [.int .i64 n98, .int .i64 n99, .int .i64 n100, .int .i64 n101, .slice q102 l103 c104] fun p109 H110 =>
hal H110 [.int .i64 n105, .bool t106, .int .i64 n107, .int .i64 n108] fun p111 H112 =>
ldI .i64 H112 (pad p109 0) fun n113 =>
ldI .i64 H112 (pad p109 1) fun n114 =>
ldI .i64 H112 (pad p109 2) fun n115 =>
ldI .i64 H112 (pad p109 3) fun n116 =>
ldL H112 (pad p109 4) fun q117 l118 c119 =>
R02_Few n113 n114 n115 n116 q117 l118 c119 H112 fun t120 H121 =>
bif (!t120) then (L_exampleHoldsq fun t122 =>
K t122 H121)
 else (ldI .i64 H121 (pad p111 0) fun n123 =>
ldB H121 (pad p111 1) fun t124 =>
ldI .i64 H121 (pad p111 2) fun n125 =>
ldI .i64 H121 (pad p111 3) fun n126 =>
color_Range n123 t124 n125 n126 H121 fun n127 n128 H129 =>
ldI .i64 H129 (pad p111 0) fun n130 =>
ldB H129 (pad p111 1) fun t131 =>
ldI .i64 H129 (pad p111 2) fun n132 =>
ldI .i64 H129 (pad p111 3) fun n133 =>
R07_Range n130 t131 n132 n133 H129 fun n134 n135 H136 =>
L_ColorShifts_p0 p109 p111 n127 n128 n134 n135 (fun p146 p147 =>
ldI .i64 H136 (pad p146 0) fun n148 =>
ldI .i64 H136 (pad p146 1) fun n149 =>
ldI .i64 H136 (pad p146 2) fun n150 =>
ldI .i64 H136 (pad p146 3) fun n151 =>
ldL H136 (pad p146 4) fun q152 l153 c154 =>
ldI .i64 H136 (pad p147 0) fun n155 =>
ldB H136 (pad p147 1) fun t156 =>
ldI .i64 H136 (pad p147 2) fun n157 =>
ldI .i64 H136 (pad p147 3) fun n158 =>
color_Shift n148 n149 n150 n151 q152 l153 c154 n155 t156 n157 n158 H136 fun n159 n160 n161 n162 q163 l164 c165 n166 H167 =>
hal H167 [.int .i64 0, .int .i64 0, .int .i64 0, .int .i64 0, .slice none 0 0] fun p168 H169 =>
hst H169 p168 [.int .i64 n159, .int .i64 n160, .int .i64 n161, .int .i64 n162, .slice q163 l164 c165] fun H170 =>
ldI .i64 H170 (pad p146 0) fun n171 =>
ldI .i64 H170 (pad p146 1) fun n172 =>
ldI .i64 H170 (pad p146 2) fun n173 =>
ldI .i64 H170 (pad p146 3) fun n174 =>
ldL H170 (pad p146 4) fun q175 l176 c177 =>
ldI .i64 H170 (pad p147 0) fun n178 =>
ldB H170 (pad p147 1) fun t179 =>
ldI .i64 H170 (pad p147 2) fun n180 =>
ldI .i64 H170 (pad p147 3) fun n181 =>
R07_Shift n171 n172 n173 n174 q175 l176 c177 n178 t179 n180 n181 H170 fun n182 n183 n184 n185 q186 l187 c188 n189 H190 =>
hal H190 [.int .i64 0, .int .i64 0, .int .i64 0, .int .i64 0, .slice none 0 0] fun p191 H192 =>
hst H192 p191 [.int .i64 n182, .int .i64 n183, .int .i64 n184, .int .i64 n185, .slice q186 l187 c188] fun H193 =>
L_ColorShifts_p1 p146 p147 p168 n166 p191 n189 H193 (fun p219 p220 H221 =>
ldI .i64 H221 (pad p219 0) fun n222 =>
ldI .i64 H221 (pad p219 1) fun n223 =>
ldI .i64 H221 (pad p219 2) fun n224 =>
ldI .i64 H221 (pad p219 3) fun n225 =>
ldL H221 (pad p219 4) fun q226 l227 c228 =>
ldI .i64 H221 (pad p220 0) fun n229 =>
ldB H221 (pad p220 1) fun t230 =>
ldI .i64 H221 (pad p220 2) fun n231 =>
ldI .i64 H221 (pad p220 3) fun n232 =>
color_Unshift n222 n223 n224 n225 q226 l227 c228 n229 t230 n231 n232 H221 fun n233 n234 n235 n236 q237 l238 c239 n240 H241 =>
hal H241 [.int .i64 0, .int .i64 0, .int .i64 0, .int .i64 0, .slice none 0 0] fun p242 H243 =>
hst H243 p242 [.int .i64 n233, .int .i64 n234, .int .i64 n235, .int .i64 n236, .slice q237 l238 c239] fun H244 =>
ldI .i64 H244 (pad p219 0) fun n245 =>
ldI .i64 H244 (pad p219 1) fun n246 =>
ldI .i64 H244 (pad p219 2) fun n247 =>
ldI .i64 H244 (pad p219 3) fun n248 =>
ldL H244 (pad p219 4) fun q249 l250 c251 =>
ldI .i64 H244 (pad p220 0) fun n252 =>
ldB H244 (pad p220 1) fun t253 =>
ldI .i64 H244 (pad p220 2) fun n254 =>
ldI .i64 H244 (pad p220 3) fun n255 =>
R07_Unshift n245 n246 n247 n248 q249 l250 c251 n252 t253 n254 n255 H244 fun n256 n257 n258 n259 q260 l261 c262 n263 H264 =>
hal H264 [.int .i64 0, .int .i64 0, .int .i64 0, .int .i64 0, .slice none 0 0] fun p265 H266 =>
hst H266 p265 [.int .i64 n256, .int .i64 n257, .int .i64 n258, .int .i64 n259, .slice q260 l261 c262] fun H267 =>
bif (n240 == n263) then (ldI .i64 H267 (pad p242 0) fun n268 =>
ldI .i64 H267 (pad p242 1) fun n269 =>
ldI .i64 H267 (pad p242 2) fun n270 =>
ldI .i64 H267 (pad p242 3) fun n271 =>
ldL H267 (pad p242 4) fun q272 l273 c274 =>
ldI .i64 H267 (pad p265 0) fun n275 =>
ldI .i64 H267 (pad p265 1) fun n276 =>
ldI .i64 H267 (pad p265 2) fun n277 =>
ldI .i64 H267 (pad p265 3) fun n278 =>
ldL H267 (pad p265 4) fun q279 l280 c281 =>
R02_Same n268 n269 n270 n271 q272 l273 c274 n275 n276 n277 n278 q279 l280 c281 H267 fun t282 H283 =>
bif t282 then (L_exampleHoldsq fun t284 =>
K t284 H283)
 else (K false H283))
 else (K false H267)) (fun t285 H286 =>
K t285 H286)) (fun t287 =>
K t287 H136))

def L_ColorShifts {R : Type} (k : Nat) (n98 : Int) (n99 : Int) (n100 : Int) (n101 : Int) (q102 : Option Addr) (l103 : Nat) (c104 : Nat) (n105 : Int) (t106 : Bool) (n107 : Int) (n108 : Int) (H : Heap) (K : Bool → Heap → Option R) : Option R := L_ColorShifts_b R02_Few L_exampleHoldsq color_Range (R07_Range k) (L_ColorShifts_p0 k) (color_Shift k) (R07_Shift k) (L_ColorShifts_p1 k) (color_Unshift k) (R07_Unshift k) (R02_Same k) k n98 n99 n100 n101 q102 l103 c104 n105 t106 n107 n108 H K

def L_ColorShifts_Ct {R : Type} (R02_Few : Int → Int → Int → Int → Option Addr → Nat → Nat → Heap → (Bool → Heap → Option R) → Option R) (L_exampleHoldsq : (Bool → Option R) → Option R) (color_Range : Int → Bool → Int → Int → Heap → (Int → Int → Heap → Option R) → Option R) (R07_Range : Int → Bool → Int → Int → Heap → (Int → Int → Heap → Option R) → Option R) (color_Shift : Int → Int → Int → Int → Option Addr → Nat → Nat → Int → Bool → Int → Int → Heap → (Int → Int → Int → Int → Option Addr → Nat → Nat → Int → Heap → Option R) → Option R) (R07_Shift : Int → Int → Int → Int → Option Addr → Nat → Nat → Int → Bool → Int → Int → Heap → (Int → Int → Int → Int → Option Addr → Nat → Nat → Int → Heap → Option R) → Option R) (R02_Same : Int → Int → Int → Int → Option Addr → Nat → Nat → Int → Int → Int → Int → Option Addr → Nat → Nat → Heap → (Bool → Heap → Option R) → Option R) (color_Unshift : Int → Int → Int → Int → Option Addr → Nat → Nat → Int → Bool → Int → Int → Heap → (Int → Int → Int → Int → Option Addr → Nat → Nat → Int → Heap → Option R) → Option R) (R07_Unshift : Int → Int → Int → Int → Option Addr → Nat → Nat → Int → Bool → Int → Int → Heap → (Int → Int → Int → Int → Option Addr → Nat → Nat → Int → Heap → Option R) → Option R) : Tab R := tcons 21 (R02_Few_ca R02_Few) <| tcons 12 (L_exampleHoldsq_ca L_exampleHoldsq) <| tcons 22 (color_Range_ca color_Range) <| tcons 23 (R07_Range_ca R07_Range) <| tcons 24 (color_Shift_ca color_Shift) <| tcons 25 (R07_Shift_ca R07_Shift) <| tcons 26 (R02_Same_ca R02_Same) <| tcons 27 (color_Unshift_ca color_Unshift) <| tcons 28 (R07_Unshift_ca R07_Unshift) <| fun _ _ _ _ => none
def L_ColorShifts_C (R : Type) (k : Nat) : Tab R := L_ColorShifts_Ct R02_Few L_exampleHoldsq color_Range (R07_Range k) (color_Shift k) (R07_Shift k) (R02_Same k) (color_Unshift k) (R07_Unshift k)
theorem L_ColorShifts_S (R : Type) (k : Nat) : CSound Try.prog (L_ColorShifts_C R k) := csound_cons (R02_Few_cs R k) <| csound_cons (L_exampleHoldsq_cs R k) <| csound_cons (color_Range_cs R k) <| csound_cons (R07_Range_cs R k) <| csound_cons (color_Shift_cs R k) <| csound_cons (R07_Shift_cs R k) <| csound_cons (R02_Same_cs R k) <| csound_cons (color_Unshift_cs R k) <| csound_cons (R07_Unshift_cs R k) <| csound_nil
def L_ColorShifts_aa0 {R : Type} (f : Option Addr → Option Addr → Int → Int → Int → Int → (Option Addr → Option Addr → Option R) → (Bool → Option R) → Option R) (n : Nat) (vals : List Value) (H : Heap) (K : Xit → Env → Heap → Option R) : Option R :=
  match vals with
  | [.pointer p137, .pointer p138, .int .i64 n139, .int .i64 n140, .int .i64 n141, .int .i64 n142] => f p137 p138 n139 n140 n141 n142 (fun p1280 p1281 => K .normal [(2, .pointer p1280), (3, .pointer p1281)] H) (fun t1282 => K .ret [(4, .bool t1282)] H)
  | _ => none
def L_ColorShifts_a0 (R : Type) (k n : Nat) (vals : List Value) (H : Heap) (K : Xit → Env → Heap → Option R) : Option R := L_ColorShifts_aa0 (L_ColorShifts_p0 k) n vals H K
def L_ColorShifts_aa1 {R : Type} (f : Option Addr → Option Addr → Option Addr → Int → Option Addr → Int → Heap → (Option Addr → Option Addr → Heap → Option R) → (Bool → Heap → Option R) → Option R) (n : Nat) (vals : List Value) (H : Heap) (K : Xit → Env → Heap → Option R) : Option R :=
  match vals with
  | [.pointer p194, .pointer p195, .pointer p196, .int .i64 n197, .pointer p198, .int .i64 n199] => f p194 p195 p196 n197 p198 n199 H (fun p1283 p1284 H => K .normal [(2, .pointer p1283), (3, .pointer p1284)] H) (fun t1285 H => K .ret [(4, .bool t1285)] H)
  | _ => none
def L_ColorShifts_a1 (R : Type) (k n : Nat) (vals : List Value) (H : Heap) (K : Xit → Env → Heap → Option R) : Option R := L_ColorShifts_aa1 (L_ColorShifts_p1 k) n vals H K
def L_ColorShifts_Jt {R : Type} (k : Nat) (L_ColorShifts_p0 : Option Addr → Option Addr → Int → Int → Int → Int → (Option Addr → Option Addr → Option R) → (Bool → Option R) → Option R) (L_ColorShifts_p1 : Option Addr → Option Addr → Option Addr → Int → Option Addr → Int → Heap → (Option Addr → Option Addr → Heap → Option R) → (Bool → Heap → Option R) → Option R) : JTab R := tcons 0 (L_ColorShifts_aa0 L_ColorShifts_p0 k) <| tcons 1 (L_ColorShifts_aa1 L_ColorShifts_p1 k) <| fun _ _ _ _ => none
def L_ColorShifts_J (R : Type) (k : Nat) : JTab R := L_ColorShifts_Jt k (L_ColorShifts_p0 k) (L_ColorShifts_p1 k)
def L_ColorShifts_at : AT := (.seq (.reg [2, 3] []) (.seq (.seq (.reg [2, 3, 19] []) (.cond (.seq (.reg [4] []) .leaf) .leaf)) (.seq (.reg [2, 3, 5, 6] []) (.seq (.reg [2, 3, 5, 6, 7, 8] []) (.seq (.opq 0 [2, 3, 5, 6, 7, 8] ⟨[2, 3], [], [4]⟩ (.seq (.reg [2, 3, 38] []) (.cond (.seq (.reg [4] []) .leaf) .leaf))) (.seq (.reg [2, 3, 9, 10] []) (.seq (.reg [2, 3, 9, 10, 11, 12] []) (.seq (.opq 1 [2, 3, 9, 10, 11, 12] ⟨[2, 3], [], [4]⟩ (.seq (.reg [2, 3, 59] []) (.cond (.seq (.reg [4] []) .leaf) .leaf))) (.seq (.reg [2, 3, 13, 14] []) (.seq (.reg [13, 14, 15, 16] []) (.seq (.reg [4] []) .leaf)))))))))))
def L_ColorShifts_i1 : IC := (.seq (.reg [⟨some 51, .mov (.t 10), none⟩,
 ⟨some 52, .mov (.t 12), none⟩,
 ⟨some 53, .cmp .neq (.t 51) (.t 52), none⟩,
 ⟨some 54, .mov (.t 53), none⟩,
 ⟨some 55, .ld (.agg [(.int .i64), (.int .i64), (.int .i64), (.int .i64), .slc]) (.t 9), some (54, false)⟩,
 ⟨some 56, .ld (.agg [(.int .i64), (.int .i64), (.int .i64), (.int .i64), .slc]) (.t 11), some (54, false)⟩,
 ⟨some 57, .call 26 [(.t 55), (.t 56)] (.one (.sc .bool)), some (54, false)⟩,
 ⟨some 58, .lnot (.t 57), some (54, false)⟩,
 ⟨some 59, .pick (.t 54) (.c (Go.Value.bool true)) (.t 58), none⟩] [2, 3, 59]) (.cond (.t 59) (.seq (.reg [⟨some 4, .mov (.c (Go.Value.bool false)), none⟩] [4]) .ret) .skip))
def L_ColorShifts_i0 : IC := (.seq (.reg [⟨some 31, .mov (.t 5), none⟩,
 ⟨some 32, .mov (.t 7), none⟩,
 ⟨some 33, .cmp .neq (.t 31) (.t 32), none⟩,
 ⟨some 34, .mov (.t 33), none⟩,
 ⟨some 35, .mov (.t 6), some (34, false)⟩,
 ⟨some 36, .mov (.t 8), some (34, false)⟩,
 ⟨some 37, .cmp .neq (.t 35) (.t 36), some (34, false)⟩,
 ⟨some 38, .pick (.t 34) (.c (Go.Value.bool true)) (.t 37), none⟩] [2, 3, 38]) (.cond (.t 38) (.seq (.reg [⟨some 4, .mov (.c (Go.Value.bool false)), none⟩] [4]) .ret) .skip))
def L_ColorShifts_f : IFn := ⟨83, [.t 4], (.seq (.reg [⟨some 2, .box (.t 0), none⟩,
 ⟨some 3, .box (.t 1), none⟩,
 ⟨some 4, .mov (.c (Go.Value.bool false)), none⟩] [2, 3]) (.seq (.seq (.reg [⟨some 17, .ld (.agg [(.int .i64), (.int .i64), (.int .i64), (.int .i64), .slc]) (.t 2), none⟩,
 ⟨some 18, .call 21 [(.t 17)] (.one (.sc .bool)), none⟩,
 ⟨some 19, .lnot (.t 18), none⟩] [2, 3, 19]) (.cond (.t 19) (.seq (.reg [⟨some 20, .call 12 [] (.one (.sc .bool)), none⟩,
 ⟨some 4, .mov (.t 20), none⟩] [4]) .ret) .skip)) (.seq (.reg [⟨some 22, .ld (.agg [(.int .i64), .bool, (.int .i64), (.int .i64)]) (.t 3), none⟩,
 ⟨some 23, .call 22 [(.t 22)] (.tup [(.sc (.int .i64)), (.sc (.int .i64))]), none⟩,
 ⟨some 21, .mov (.t 23), none⟩,
 ⟨some 24, .ext 0 (.t 21), none⟩,
 ⟨some 25, .ext 1 (.t 21), none⟩,
 ⟨some 5, .mov (.t 24), none⟩,
 ⟨some 6, .mov (.t 25), none⟩] [2, 3, 5, 6]) (.seq (.reg [⟨some 27, .ld (.agg [(.int .i64), .bool, (.int .i64), (.int .i64)]) (.t 3), none⟩,
 ⟨some 28, .call 23 [(.t 27)] (.tup [(.sc (.int .i64)), (.sc (.int .i64))]), none⟩,
 ⟨some 26, .mov (.t 28), none⟩,
 ⟨some 29, .ext 0 (.t 26), none⟩,
 ⟨some 30, .ext 1 (.t 26), none⟩,
 ⟨some 7, .mov (.t 29), none⟩,
 ⟨some 8, .mov (.t 30), none⟩] [2, 3, 5, 6, 7, 8]) (.seq (.opq 0 [2, 3, 5, 6, 7, 8] L_ColorShifts_i0) (.seq (.reg [⟨some 40, .ld (.agg [(.int .i64), (.int .i64), (.int .i64), (.int .i64), .slc]) (.t 2), none⟩,
 ⟨some 41, .ld (.agg [(.int .i64), .bool, (.int .i64), (.int .i64)]) (.t 3), none⟩,
 ⟨some 42, .call 24 [(.t 40), (.t 41)] (.tup [(.agg [(.int .i64), (.int .i64), (.int .i64), (.int .i64), .slc]), (.sc (.int .i64))]), none⟩,
 ⟨some 39, .mov (.t 42), none⟩,
 ⟨some 43, .ext 0 (.t 39), none⟩,
 ⟨some 44, .ext 1 (.t 39), none⟩,
 ⟨some 9, .alc [.int .i64 0, .int .i64 0, .int .i64 0, .int .i64 0, .slice none 0 0], none⟩,
 ⟨none, .st 5 (.t 9) (.t 43), none⟩,
 ⟨some 10, .mov (.t 44), none⟩] [2, 3, 9, 10]) (.seq (.reg [⟨some 46, .ld (.agg [(.int .i64), (.int .i64), (.int .i64), (.int .i64), .slc]) (.t 2), none⟩,
 ⟨some 47, .ld (.agg [(.int .i64), .bool, (.int .i64), (.int .i64)]) (.t 3), none⟩,
 ⟨some 48, .call 25 [(.t 46), (.t 47)] (.tup [(.agg [(.int .i64), (.int .i64), (.int .i64), (.int .i64), .slc]), (.sc (.int .i64))]), none⟩,
 ⟨some 45, .mov (.t 48), none⟩,
 ⟨some 49, .ext 0 (.t 45), none⟩,
 ⟨some 50, .ext 1 (.t 45), none⟩,
 ⟨some 11, .alc [.int .i64 0, .int .i64 0, .int .i64 0, .int .i64 0, .slice none 0 0], none⟩,
 ⟨none, .st 5 (.t 11) (.t 49), none⟩,
 ⟨some 12, .mov (.t 50), none⟩] [2, 3, 9, 10, 11, 12]) (.seq (.opq 1 [2, 3, 9, 10, 11, 12] L_ColorShifts_i1) (.seq (.reg [⟨some 61, .ld (.agg [(.int .i64), (.int .i64), (.int .i64), (.int .i64), .slc]) (.t 2), none⟩,
 ⟨some 62, .ld (.agg [(.int .i64), .bool, (.int .i64), (.int .i64)]) (.t 3), none⟩,
 ⟨some 63, .call 27 [(.t 61), (.t 62)] (.tup [(.agg [(.int .i64), (.int .i64), (.int .i64), (.int .i64), .slc]), (.sc (.int .i64))]), none⟩,
 ⟨some 60, .mov (.t 63), none⟩,
 ⟨some 64, .ext 0 (.t 60), none⟩,
 ⟨some 65, .ext 1 (.t 60), none⟩,
 ⟨some 13, .alc [.int .i64 0, .int .i64 0, .int .i64 0, .int .i64 0, .slice none 0 0], none⟩,
 ⟨none, .st 5 (.t 13) (.t 64), none⟩,
 ⟨some 14, .mov (.t 65), none⟩] [2, 3, 13, 14]) (.seq (.reg [⟨some 67, .ld (.agg [(.int .i64), (.int .i64), (.int .i64), (.int .i64), .slc]) (.t 2), none⟩,
 ⟨some 68, .ld (.agg [(.int .i64), .bool, (.int .i64), (.int .i64)]) (.t 3), none⟩,
 ⟨some 69, .call 28 [(.t 67), (.t 68)] (.tup [(.agg [(.int .i64), (.int .i64), (.int .i64), (.int .i64), .slc]), (.sc (.int .i64))]), none⟩,
 ⟨some 66, .mov (.t 69), none⟩,
 ⟨some 70, .ext 0 (.t 66), none⟩,
 ⟨some 71, .ext 1 (.t 66), none⟩,
 ⟨some 15, .alc [.int .i64 0, .int .i64 0, .int .i64 0, .int .i64 0, .slice none 0 0], none⟩,
 ⟨none, .st 5 (.t 15) (.t 70), none⟩,
 ⟨some 16, .mov (.t 71), none⟩] [13, 14, 15, 16]) (.seq (.reg [⟨some 72, .mov (.t 14), none⟩,
 ⟨some 73, .mov (.t 16), none⟩,
 ⟨some 74, .cmp .eql (.t 72) (.t 73), none⟩,
 ⟨some 75, .mov (.t 74), none⟩,
 ⟨some 76, .ld (.agg [(.int .i64), (.int .i64), (.int .i64), (.int .i64), .slc]) (.t 13), some (75, true)⟩,
 ⟨some 77, .ld (.agg [(.int .i64), (.int .i64), (.int .i64), (.int .i64), .slc]) (.t 15), some (75, true)⟩,
 ⟨some 78, .call 26 [(.t 76), (.t 77)] (.one (.sc .bool)), some (75, true)⟩,
 ⟨some 79, .pick (.t 75) (.t 78) (.c (Go.Value.bool false)), none⟩,
 ⟨some 80, .mov (.t 79), none⟩,
 ⟨some 81, .call 12 [] (.one (.sc .bool)), some (80, true)⟩,
 ⟨some 82, .pick (.t 80) (.t 81) (.c (Go.Value.bool false)), none⟩,
 ⟨some 4, .mov (.t 82), none⟩] [4]) .ret)))))))))))⟩
theorem L_ColorShifts_e1 {R : Type} (R02_Few : Int → Int → Int → Int → Option Addr → Nat → Nat → Heap → (Bool → Heap → Option R) → Option R) (L_exampleHoldsq : (Bool → Option R) → Option R) (color_Range : Int → Bool → Int → Int → Heap → (Int → Int → Heap → Option R) → Option R) (R07_Range : Int → Bool → Int → Int → Heap → (Int → Int → Heap → Option R) → Option R) (color_Shift : Int → Int → Int → Int → Option Addr → Nat → Nat → Int → Bool → Int → Int → Heap → (Int → Int → Int → Int → Option Addr → Nat → Nat → Int → Heap → Option R) → Option R) (R07_Shift : Int → Int → Int → Int → Option Addr → Nat → Nat → Int → Bool → Int → Int → Heap → (Int → Int → Int → Int → Option Addr → Nat → Nat → Int → Heap → Option R) → Option R) (R02_Same : Int → Int → Int → Int → Option Addr → Nat → Nat → Int → Int → Int → Int → Option Addr → Nat → Nat → Heap → (Bool → Heap → Option R) → Option R) (color_Unshift : Int → Int → Int → Int → Option Addr → Nat → Nat → Int → Bool → Int → Int → Heap → (Int → Int → Int → Int → Option Addr → Nat → Nat → Int → Heap → Option R) → Option R) (R07_Unshift : Int → Int → Int → Int → Option Addr → Nat → Nat → Int → Bool → Int → Int → Heap → (Int → Int → Int → Int → Option Addr → Nat → Nat → Int → Heap → Option R) → Option R) (L_ColorShifts_p0 : Option Addr → Option Addr → Int → Int → Int → Int → (Option Addr → Option Addr → Option R) → (Bool → Option R) → Option R) (L_ColorShifts_p1 : Option Addr → Option Addr → Option Addr → Int → Option Addr → Int → Heap → (Option Addr → Option Addr → Heap → Option R) → (Bool → Heap → Option R) → Option R) (k : Nat) (p194 : Option Addr) (p195 : Option Addr) (p196 : Option Addr) (n197 : Int) (p198 : Option Addr) (n199 : Int) (H : Heap) (K : Xit → Env → Heap → Option R) : evJ (L_ColorShifts_Ct R02_Few L_exampleHoldsq color_Range R07_Range color_Shift R07_Shift R02_Same color_Unshift R07_Unshift) (L_ColorShifts_Jt k L_ColorShifts_p0 L_ColorShifts_p1) L_ColorShifts_i1 (List.zip [2, 3, 9, 10, 11, 12] [.pointer p194, .pointer p195, .pointer p196, .int .i64 n197, .pointer p198, .int .i64 n199]) H (fun x e' H' => K x (clean e' ((⟨[2, 3], [], [4]⟩ : Out).of x)) H') = L_ColorShifts_p1_b R02_Same k p194 p195 p196 n197 p198 n199 H (fun p1283 p1284 H => K .normal [(2, .pointer p1283), (3, .pointer p1284)] H) (fun t1285 H => K .ret [(4, .bool t1285)] H) := by kernel_rfl
theorem L_ColorShifts_j1 {R : Type} (k : Nat) : JS Try.prog 83 (L_ColorShifts_a1 R k k) [2, 3, 9, 10, 11, 12] ⟨[2, 3], [], [4]⟩ (sel [1, 1, 1, 1, 1, 1, 1, 0] (Try.f5.body.getD .skip)) :=
  piece_ok (nt := 83) (c := (sel [1, 1, 1, 1, 1, 1, 1, 0] (Try.f5.body.getD .skip))) (C := L_ColorShifts_C R k) (an := An) (t := (.seq (.reg [2, 3, 59] []) (.cond (.seq (.reg [4] []) .leaf) .leaf))) (ic := L_ColorShifts_i1) (L_ColorShifts_S R k) (L_ColorShifts_J R k) (by kernel_rfl) (And.intro True.intro (And.intro (And.intro True.intro True.intro) True.intro)) (L_ColorShifts_a1 R k k)
    (fun vals H K r h => by
      unfold L_ColorShifts_a1 L_ColorShifts_aa1 at h
      split at h <;> first | (cases h; done) | exact Eq.trans (L_ColorShifts_e1 R02_Few L_exampleHoldsq color_Range (R07_Range k) (color_Shift k) (R07_Shift k) (R02_Same k) (color_Unshift k) (R07_Unshift k) (L_ColorShifts_p0 k) (L_ColorShifts_p1 k) k _ _ _ _ _ _ H K) h)
theorem L_ColorShifts_e0 {R : Type} (R02_Few : Int → Int → Int → Int → Option Addr → Nat → Nat → Heap → (Bool → Heap → Option R) → Option R) (L_exampleHoldsq : (Bool → Option R) → Option R) (color_Range : Int → Bool → Int → Int → Heap → (Int → Int → Heap → Option R) → Option R) (R07_Range : Int → Bool → Int → Int → Heap → (Int → Int → Heap → Option R) → Option R) (color_Shift : Int → Int → Int → Int → Option Addr → Nat → Nat → Int → Bool → Int → Int → Heap → (Int → Int → Int → Int → Option Addr → Nat → Nat → Int → Heap → Option R) → Option R) (R07_Shift : Int → Int → Int → Int → Option Addr → Nat → Nat → Int → Bool → Int → Int → Heap → (Int → Int → Int → Int → Option Addr → Nat → Nat → Int → Heap → Option R) → Option R) (R02_Same : Int → Int → Int → Int → Option Addr → Nat → Nat → Int → Int → Int → Int → Option Addr → Nat → Nat → Heap → (Bool → Heap → Option R) → Option R) (color_Unshift : Int → Int → Int → Int → Option Addr → Nat → Nat → Int → Bool → Int → Int → Heap → (Int → Int → Int → Int → Option Addr → Nat → Nat → Int → Heap → Option R) → Option R) (R07_Unshift : Int → Int → Int → Int → Option Addr → Nat → Nat → Int → Bool → Int → Int → Heap → (Int → Int → Int → Int → Option Addr → Nat → Nat → Int → Heap → Option R) → Option R) (L_ColorShifts_p0 : Option Addr → Option Addr → Int → Int → Int → Int → (Option Addr → Option Addr → Option R) → (Bool → Option R) → Option R) (L_ColorShifts_p1 : Option Addr → Option Addr → Option Addr → Int → Option Addr → Int → Heap → (Option Addr → Option Addr → Heap → Option R) → (Bool → Heap → Option R) → Option R) (k : Nat) (p137 : Option Addr) (p138 : Option Addr) (n139 : Int) (n140 : Int) (n141 : Int) (n142 : Int) (H : Heap) (K : Xit → Env → Heap → Option R) : evJ (L_ColorShifts_Ct R02_Few L_exampleHoldsq color_Range R07_Range color_Shift R07_Shift R02_Same color_Unshift R07_Unshift) (L_ColorShifts_Jt k L_ColorShifts_p0 L_ColorShifts_p1) L_ColorShifts_i0 (List.zip [2, 3, 5, 6, 7, 8] [.pointer p137, .pointer p138, .int .i64 n139, .int .i64 n140, .int .i64 n141, .int .i64 n142]) H (fun x e' H' => K x (clean e' ((⟨[2, 3], [], [4]⟩ : Out).of x)) H') = L_ColorShifts_p0_b k p137 p138 n139 n140 n141 n142 (fun p1280 p1281 => K .normal [(2, .pointer p1280), (3, .pointer p1281)] H) (fun t1282 => K .ret [(4, .bool t1282)] H) := by kernel_rfl
theorem L_ColorShifts_j0 {R : Type} (k : Nat) : JS Try.prog 83 (L_ColorShifts_a0 R k k) [2, 3, 5, 6, 7, 8] ⟨[2, 3], [], [4]⟩ (sel [1, 1, 1, 1, 0] (Try.f5.body.getD .skip)) :=
  piece_ok (nt := 83) (c := (sel [1, 1, 1, 1, 0] (Try.f5.body.getD .skip))) (C := L_ColorShifts_C R k) (an := An) (t := (.seq (.reg [2, 3, 38] []) (.cond (.seq (.reg [4] []) .leaf) .leaf))) (ic := L_ColorShifts_i0) (L_ColorShifts_S R k) (L_ColorShifts_J R k) (by kernel_rfl) (And.intro True.intro (And.intro (And.intro True.intro True.intro) True.intro)) (L_ColorShifts_a0 R k k)
    (fun vals H K r h => by
      unfold L_ColorShifts_a0 L_ColorShifts_aa0 at h
      split at h <;> first | (cases h; done) | exact Eq.trans (L_ColorShifts_e0 R02_Few L_exampleHoldsq color_Range (R07_Range k) (color_Shift k) (R07_Shift k) (R02_Same k) (color_Unshift k) (R07_Unshift k) (L_ColorShifts_p0 k) (L_ColorShifts_p1 k) k _ _ _ _ _ _ H K) h)
def L_ColorShifts_ca {R : Type} (f : Int → Int → Int → Int → Option Addr → Nat → Nat → Int → Bool → Int → Int → Heap → (Bool → Heap → Option R) → Option R) (args : List Value) (H : Heap) (K : Value → Heap → Option R) : Option R :=
  match args with
  | [.agg ⟨[.int .i64 n98, .int .i64 n99, .int .i64 n100, .int .i64 n101, .slice q102 l103 c104]⟩, .agg ⟨[.int .i64 n105, .bool t106, .int .i64 n107, .int .i64 n108]⟩] => f n98 n99 n100 n101 q102 l103 c104 n105 t106 n107 n108 H (fun t1286 H => K (.bool t1286) H)
  | _ => none
def L_ColorShifts_c (R : Type) (k : Nat) (args : List Value) (H : Heap) (K : Value → Heap → Option R) : Option R := L_ColorShifts_ca (L_ColorShifts k) args H K
theorem L_ColorShifts_e {R : Type} (R02_Few : Int → Int → Int → Int → Option Addr → Nat → Nat → Heap → (Bool → Heap → Option R) → Option R) (L_exampleHoldsq : (Bool → Option R) → Option R) (color_Range : Int → Bool → Int → Int → Heap → (Int → Int → Heap → Option R) → Option R) (R07_Range : Int → Bool → Int → Int → Heap → (Int → Int → Heap → Option R) → Option R) (color_Shift : Int → Int → Int → Int → Option Addr → Nat → Nat → Int → Bool → Int → Int → Heap → (Int → Int → Int → Int → Option Addr → Nat → Nat → Int → Heap → Option R) → Option R) (R07_Shift : Int → Int → Int → Int → Option Addr → Nat → Nat → Int → Bool → Int → Int → Heap → (Int → Int → Int → Int → Option Addr → Nat → Nat → Int → Heap → Option R) → Option R) (R02_Same : Int → Int → Int → Int → Option Addr → Nat → Nat → Int → Int → Int → Int → Option Addr → Nat → Nat → Heap → (Bool → Heap → Option R) → Option R) (color_Unshift : Int → Int → Int → Int → Option Addr → Nat → Nat → Int → Bool → Int → Int → Heap → (Int → Int → Int → Int → Option Addr → Nat → Nat → Int → Heap → Option R) → Option R) (R07_Unshift : Int → Int → Int → Int → Option Addr → Nat → Nat → Int → Bool → Int → Int → Heap → (Int → Int → Int → Int → Option Addr → Nat → Nat → Int → Heap → Option R) → Option R) (L_ColorShifts_p0 : Option Addr → Option Addr → Int → Int → Int → Int → (Option Addr → Option Addr → Option R) → (Bool → Option R) → Option R) (L_ColorShifts_p1 : Option Addr → Option Addr → Option Addr → Int → Option Addr → Int → Heap → (Option Addr → Option Addr → Heap → Option R) → (Bool → Heap → Option R) → Option R) (k : Nat) (n98 : Int) (n99 : Int) (n100 : Int) (n101 : Int) (q102 : Option Addr) (l103 : Nat) (c104 : Nat) (n105 : Int) (t106 : Bool) (n107 : Int) (n108 : Int) (H : Heap) (K : Value → Heap → Option R) : evF (L_ColorShifts_Ct R02_Few L_exampleHoldsq color_Range R07_Range color_Shift R07_Shift R02_Same color_Unshift R07_Unshift) (L_ColorShifts_Jt k L_ColorShifts_p0 L_ColorShifts_p1) L_ColorShifts_f [.agg ⟨[.int .i64 n98, .int .i64 n99, .int .i64 n100, .int .i64 n101, .slice q102 l103 c104]⟩, .agg ⟨[.int .i64 n105, .bool t106, .int .i64 n107, .int .i64 n108]⟩] H K = L_ColorShifts_b R02_Few L_exampleHoldsq color_Range R07_Range L_ColorShifts_p0 color_Shift R07_Shift L_ColorShifts_p1 color_Unshift R07_Unshift R02_Same k n98 n99 n100 n101 q102 l103 c104 n105 t106 n107 n108 H (fun t1286 H => K (.bool t1286) H) := by kernel_rfl
theorem L_ColorShifts_cs (R : Type) (k : Nat) : ∀ args H K r, L_ColorShifts_c R k args H K = some r → ∃ v H', Tri Try.prog 5 args H v H' ∧ K v H' = some r := by
  intro args H K r h
  unfold L_ColorShifts_c L_ColorShifts_ca at h
  split at h
  · exact evF_ok (C := L_ColorShifts_C R k) (an := An) (t := L_ColorShifts_at) (fn := Try.f5) (c := (Try.f5.body.getD .skip)) (ifn := L_ColorShifts_f) (L_ColorShifts_S R k) (L_ColorShifts_J R k) Try.func5 (by kernel_rfl) (by kernel_rfl) (And.intro True.intro (And.intro (And.intro True.intro (And.intro (And.intro True.intro True.intro) True.intro)) (And.intro True.intro (And.intro True.intro (And.intro (L_ColorShifts_j0 k) (And.intro True.intro (And.intro True.intro (And.intro (L_ColorShifts_j1 k) (And.intro True.intro (And.intro True.intro (And.intro True.intro True.intro))))))))))) rfl (Eq.trans (L_ColorShifts_e R02_Few L_exampleHoldsq color_Range (R07_Range k) (color_Shift k) (R07_Shift k) (R02_Same k) (color_Unshift k) (R07_Unshift k) (L_ColorShifts_p0 k) (L_ColorShifts_p1 k) k _ _ _ _ _ _ _ _ _ _ _ H K) h)
  · cases h
end Go.Proofs.Ytoeoolnkndkefaa.Sh
