/- Lean functions that stand for Go's, over an explicit heap, and the proofs that they do (written by this claim's program shallow.py). -/
import Derived.Test.YtiapgcgpdndkiaaSh0
set_option maxRecDepth 100000
set_option linter.unusedVariables false
set_option linter.unusedSimpArgs false
namespace Go.Proofs.Ytiapgcgpdndkiaa.Sh
open Go.Proofs.Ytiapgcgpdndkiaa.FW
/-! ### R09_NewWriter: function 13 -/
def R09_NewWriter_b {R : Type} (k : Nat) (H : Heap) (K : Option Addr → Heap → Option R) : Option R :=
hal H [.bool true, .slice none 0 0] fun p115 H116 =>
K p115 H116

def R09_NewWriter {R : Type} (H : Heap) (K : Option Addr → Heap → Option R) : Option R := R09_NewWriter_b 0 H K

def R09_NewWriter_Ct {R : Type} : Tab R := fun _ _ _ _ => none
def R09_NewWriter_C (R : Type) (k : Nat) : Tab R := R09_NewWriter_Ct
theorem R09_NewWriter_S (R : Type) (k : Nat) : CSound Try.prog (R09_NewWriter_C R k) := csound_nil
def R09_NewWriter_Jt {R : Type} (k : Nat) : JTab R := fun _ _ _ _ => none
def R09_NewWriter_J (R : Type) (k : Nat) : JTab R := R09_NewWriter_Jt k
def R09_NewWriter_at : AT := (.seq (.reg [] []) (.seq (.reg [0] []) .leaf))
def R09_NewWriter_f : IFn := ⟨3, [.t 0], (.seq (.reg [⟨some 0, .mov (.c (Go.Value.pointer none)), none⟩] []) (.seq (.reg [⟨some 1, .bld [.bool false, .slice none 0 0] [(0, 1, (.c (Go.Value.bool true)))], none⟩,
 ⟨some 2, .box (.t 1), none⟩,
 ⟨some 0, .mov (.t 2), none⟩] [0]) .ret))⟩
def R09_NewWriter_ca {R : Type} (f : Heap → (Option Addr → Heap → Option R) → Option R) (args : List Value) (H : Heap) (K : Value → Heap → Option R) : Option R :=
  match args with
  | [] => f H (fun p985 H => K (.pointer p985) H)
  | _ => none
def R09_NewWriter_c (R : Type) (k : Nat) (args : List Value) (H : Heap) (K : Value → Heap → Option R) : Option R := R09_NewWriter_ca R09_NewWriter args H K
theorem R09_NewWriter_e {R : Type} (k : Nat) (H : Heap) (K : Value → Heap → Option R) : evF (R09_NewWriter_Ct) (R09_NewWriter_Jt k) R09_NewWriter_f [] H K = R09_NewWriter_b k H (fun p985 H => K (.pointer p985) H) := by kernel_rfl
theorem R09_NewWriter_cs (R : Type) (k : Nat) : ∀ args H K r, R09_NewWriter_c R k args H K = some r → ∃ v H', Tri Try.prog 13 args H v H' ∧ K v H' = some r := by
  intro args H K r h
  unfold R09_NewWriter_c R09_NewWriter_ca at h
  split at h
  · exact evF_ok (C := R09_NewWriter_C R 0) (an := An) (t := R09_NewWriter_at) (fn := Try.f13) (c := (Try.f13.body.getD .skip)) (ifn := R09_NewWriter_f) (R09_NewWriter_S R 0) (R09_NewWriter_J R 0) Try.func13 (by kernel_rfl) (by kernel_rfl) (And.intro True.intro (And.intro True.intro True.intro)) rfl (Eq.trans (R09_NewWriter_e 0 H K) h)
  · cases h
/-! ### R09_Writer_Put: function 33 -/
def R09_Writer_Put_p0_b {R : Type} (k : Nat) (p189 : Option Addr) (n190 : Int) (H : Heap) (KN : Option Addr → Int → Option R) (KR : Int → Option R) : Option R :=
bif p189.isNone then (KR 6)
 else (hnil p189 fun p191 =>
hfad 0 p191 fun p192 =>
ldB H p192 fun t193 =>
bif (!t193) then (KR 6)
 else (KN p189 n190))
def R09_Writer_Put_p0 {R : Type} (k : Nat) (p189 : Option Addr) (n190 : Int) (H : Heap) (KN : Option Addr → Int → Option R) (KR : Int → Option R) : Option R := R09_Writer_Put_p0_b k p189 n190 H KN KR

def R09_Writer_Put_p1_b {R : Type} (k : Nat) (p199 : Option Addr) (n200 : Int) (KN : Option Addr → Int → Option R) (KR : Int → Option R) : Option R :=
bif (n200 != 0) then (bif (n200 != 1) then (KR 1)
 else (KN p199 n200))
 else (KN p199 n200)
def R09_Writer_Put_p1 {R : Type} (k : Nat) (p199 : Option Addr) (n200 : Int) (KN : Option Addr → Int → Option R) (KR : Int → Option R) : Option R := R09_Writer_Put_p1_b k p199 n200 KN KR

def R09_Writer_Put_b {R : Type} (R09_Writer_Put_p0 : Option Addr → Int → Heap → (Option Addr → Int → Option R) → (Int → Option R) → Option R) (R09_Writer_Put_p1 : Option Addr → Int → (Option Addr → Int → Option R) → (Int → Option R) → Option R) (k : Nat) (p187 : Option Addr) (n188 : Int) (H : Heap) (K : Int → Heap → Option R) : Option R :=
R09_Writer_Put_p0 p187 n188 H (fun p197 n198 =>
R09_Writer_Put_p1 p197 n198 (fun p204 n205 =>
hnil p204 fun p206 =>
hfad 1 p206 fun p207 =>
ldL H p207 fun q208 l209 c210 =>
hal H [.int .i64 n205] fun p211 H212 =>
happS 1 8 H212 q208 l209 c210 p211 1 fun q213 l214 c215 H216 =>
hnil p204 fun p217 =>
hfad 1 p217 fun p218 =>
hst1 H216 p218 (.slice q213 l214 c215) fun H219 =>
K 0 H219) (fun n220 =>
K n220 H)) (fun n221 =>
K n221 H)

def R09_Writer_Put {R : Type} (k : Nat) (p187 : Option Addr) (n188 : Int) (H : Heap) (K : Int → Heap → Option R) : Option R := R09_Writer_Put_b (R09_Writer_Put_p0 k) (R09_Writer_Put_p1 k) k p187 n188 H K

def R09_Writer_Put_Ct {R : Type} : Tab R := fun _ _ _ _ => none
def R09_Writer_Put_C (R : Type) (k : Nat) : Tab R := R09_Writer_Put_Ct
theorem R09_Writer_Put_S (R : Type) (k : Nat) : CSound Try.prog (R09_Writer_Put_C R k) := csound_nil
def R09_Writer_Put_aa0 {R : Type} (f : Option Addr → Int → Heap → (Option Addr → Int → Option R) → (Int → Option R) → Option R) (n : Nat) (vals : List Value) (H : Heap) (K : Xit → Env → Heap → Option R) : Option R :=
  match vals with
  | [.pointer p189, .int .i64 n190] => f p189 n190 H (fun p986 n987 => K .normal [(0, .pointer p986), (1, .int .i64 n987)] H) (fun n988 => K .ret [(4, .int .i64 n988)] H)
  | _ => none
def R09_Writer_Put_a0 (R : Type) (k n : Nat) (vals : List Value) (H : Heap) (K : Xit → Env → Heap → Option R) : Option R := R09_Writer_Put_aa0 (R09_Writer_Put_p0 k) n vals H K
def R09_Writer_Put_aa1 {R : Type} (f : Option Addr → Int → (Option Addr → Int → Option R) → (Int → Option R) → Option R) (n : Nat) (vals : List Value) (H : Heap) (K : Xit → Env → Heap → Option R) : Option R :=
  match vals with
  | [.pointer p199, .int .i64 n200] => f p199 n200 (fun p989 n990 => K .normal [(0, .pointer p989), (1, .int .i64 n990)] H) (fun n991 => K .ret [(4, .int .i64 n991)] H)
  | _ => none
def R09_Writer_Put_a1 (R : Type) (k n : Nat) (vals : List Value) (H : Heap) (K : Xit → Env → Heap → Option R) : Option R := R09_Writer_Put_aa1 (R09_Writer_Put_p1 k) n vals H K
def R09_Writer_Put_Jt {R : Type} (k : Nat) (R09_Writer_Put_p0 : Option Addr → Int → Heap → (Option Addr → Int → Option R) → (Int → Option R) → Option R) (R09_Writer_Put_p1 : Option Addr → Int → (Option Addr → Int → Option R) → (Int → Option R) → Option R) : JTab R := tcons 0 (R09_Writer_Put_aa0 R09_Writer_Put_p0 k) <| tcons 1 (R09_Writer_Put_aa1 R09_Writer_Put_p1 k) <| fun _ _ _ _ => none
def R09_Writer_Put_J (R : Type) (k : Nat) : JTab R := R09_Writer_Put_Jt k (R09_Writer_Put_p0 k) (R09_Writer_Put_p1 k)
def R09_Writer_Put_at : AT := (.seq (.reg [0, 1] []) (.seq (.opq 0 [0, 1] ⟨[0, 1], [], [4]⟩ (.seq (.reg [0, 1, 13] []) (.cond (.seq (.reg [4] []) .leaf) .leaf))) (.seq (.opq 1 [0, 1] ⟨[0, 1], [], [4]⟩ (.seq (.reg [0, 1, 19] []) (.cond (.seq (.reg [4] []) .leaf) .leaf))) (.seq (.reg [] []) (.seq (.reg [4] []) .leaf)))))
def R09_Writer_Put_i1 : IC := (.seq (.reg [⟨some 14, .mov (.t 1), none⟩,
 ⟨some 15, .cmp .neq (.t 14) (.c (Go.Value.int Go.IntKind.i64 0)), none⟩,
 ⟨some 16, .mov (.t 15), none⟩,
 ⟨some 17, .mov (.t 1), some (16, true)⟩,
 ⟨some 18, .cmp .neq (.t 17) (.c (Go.Value.int Go.IntKind.i64 1)), some (16, true)⟩,
 ⟨some 19, .pick (.t 16) (.t 18) (.c (Go.Value.bool false)), none⟩] [0, 1, 19]) (.cond (.t 19) (.seq (.reg [⟨some 4, .mov (.c (Go.Value.int Go.IntKind.i64 1)), none⟩] [4]) .ret) .skip))
def R09_Writer_Put_i0 : IC := (.seq (.reg [⟨some 5, .mov (.t 0), none⟩,
 ⟨some 6, .eqnil (.t 5) false 0, none⟩,
 ⟨some 7, .mov (.t 6), none⟩,
 ⟨some 8, .mov (.t 0), some (7, false)⟩,
 ⟨some 9, .nilc (.t 8), some (7, false)⟩,
 ⟨some 10, .fad 0 (.t 9), some (7, false)⟩,
 ⟨some 11, .ld (.sc .bool) (.t 10), some (7, false)⟩,
 ⟨some 12, .lnot (.t 11), some (7, false)⟩,
 ⟨some 13, .pick (.t 7) (.c (Go.Value.bool true)) (.t 12), none⟩] [0, 1, 13]) (.cond (.t 13) (.seq (.reg [⟨some 4, .mov (.c (Go.Value.int Go.IntKind.i64 6)), none⟩] [4]) .ret) .skip))
def R09_Writer_Put_f : IFn := ⟨30, [.t 4], (.seq (.reg [⟨some 4, .mov (.c (Go.Value.int Go.IntKind.i64 0)), none⟩] [0, 1]) (.seq (.opq 0 [0, 1] R09_Writer_Put_i0) (.seq (.opq 1 [0, 1] R09_Writer_Put_i1) (.seq (.reg [⟨some 20, .mov (.t 0), none⟩,
 ⟨some 21, .mov (.t 0), none⟩,
 ⟨some 22, .nilc (.t 21), none⟩,
 ⟨some 23, .fad 1 (.t 22), none⟩,
 ⟨some 24, .ld (.sc .slc) (.t 23), none⟩,
 ⟨some 25, .mov (.t 1), none⟩,
 ⟨some 26, .bls 1 [.int .i64 0] [(0, 1, (.t 25))], none⟩,
 ⟨some 27, .app [.int .i64 0] 8 (.t 24) (.t 26), none⟩,
 ⟨some 28, .nilc (.t 20), none⟩,
 ⟨some 29, .fad 1 (.t 28), none⟩,
 ⟨none, .st 1 (.t 29) (.t 27), none⟩] []) (.seq (.reg [⟨some 4, .mov (.c (Go.Value.int Go.IntKind.i64 0)), none⟩] [4]) .ret)))))⟩
theorem R09_Writer_Put_e1 {R : Type} (R09_Writer_Put_p0 : Option Addr → Int → Heap → (Option Addr → Int → Option R) → (Int → Option R) → Option R) (R09_Writer_Put_p1 : Option Addr → Int → (Option Addr → Int → Option R) → (Int → Option R) → Option R) (k : Nat) (p199 : Option Addr) (n200 : Int) (H : Heap) (K : Xit → Env → Heap → Option R) : evJ (R09_Writer_Put_Ct) (R09_Writer_Put_Jt k R09_Writer_Put_p0 R09_Writer_Put_p1) R09_Writer_Put_i1 (List.zip [0, 1] [.pointer p199, .int .i64 n200]) H (fun x e' H' => K x (clean e' ((⟨[0, 1], [], [4]⟩ : Out).of x)) H') = R09_Writer_Put_p1_b k p199 n200 (fun p989 n990 => K .normal [(0, .pointer p989), (1, .int .i64 n990)] H) (fun n991 => K .ret [(4, .int .i64 n991)] H) := by kernel_rfl
theorem R09_Writer_Put_j1 {R : Type} (k : Nat) : JS Try.prog 30 (R09_Writer_Put_a1 R k k) [0, 1] ⟨[0, 1], [], [4]⟩ (sel [1, 1, 0] (Try.f33.body.getD .skip)) :=
  piece_ok (nt := 30) (c := (sel [1, 1, 0] (Try.f33.body.getD .skip))) (C := R09_Writer_Put_C R k) (an := An) (t := (.seq (.reg [0, 1, 19] []) (.cond (.seq (.reg [4] []) .leaf) .leaf))) (ic := R09_Writer_Put_i1) (R09_Writer_Put_S R k) (R09_Writer_Put_J R k) (by kernel_rfl) (And.intro True.intro (And.intro (And.intro True.intro True.intro) True.intro)) (R09_Writer_Put_a1 R k k)
    (fun vals H K r h => by
      unfold R09_Writer_Put_a1 R09_Writer_Put_aa1 at h
      split at h <;> first | (cases h; done) | exact Eq.trans (R09_Writer_Put_e1 (R09_Writer_Put_p0 k) (R09_Writer_Put_p1 k) k _ _ H K) h)
theorem R09_Writer_Put_e0 {R : Type} (R09_Writer_Put_p0 : Option Addr → Int → Heap → (Option Addr → Int → Option R) → (Int → Option R) → Option R) (R09_Writer_Put_p1 : Option Addr → Int → (Option Addr → Int → Option R) → (Int → Option R) → Option R) (k : Nat) (p189 : Option Addr) (n190 : Int) (H : Heap) (K : Xit → Env → Heap → Option R) : evJ (R09_Writer_Put_Ct) (R09_Writer_Put_Jt k R09_Writer_Put_p0 R09_Writer_Put_p1) R09_Writer_Put_i0 (List.zip [0, 1] [.pointer p189, .int .i64 n190]) H (fun x e' H' => K x (clean e' ((⟨[0, 1], [], [4]⟩ : Out).of x)) H') = R09_Writer_Put_p0_b k p189 n190 H (fun p986 n987 => K .normal [(0, .pointer p986), (1, .int .i64 n987)] H) (fun n988 => K .ret [(4, .int .i64 n988)] H) := by kernel_rfl
theorem R09_Writer_Put_j0 {R : Type} (k : Nat) : JS Try.prog 30 (R09_Writer_Put_a0 R k k) [0, 1] ⟨[0, 1], [], [4]⟩ (sel [1, 0] (Try.f33.body.getD .skip)) :=
  piece_ok (nt := 30) (c := (sel [1, 0] (Try.f33.body.getD .skip))) (C := R09_Writer_Put_C R k) (an := An) (t := (.seq (.reg [0, 1, 13] []) (.cond (.seq (.reg [4] []) .leaf) .leaf))) (ic := R09_Writer_Put_i0) (R09_Writer_Put_S R k) (R09_Writer_Put_J R k) (by kernel_rfl) (And.intro True.intro (And.intro (And.intro True.intro True.intro) True.intro)) (R09_Writer_Put_a0 R k k)
    (fun vals H K r h => by
      unfold R09_Writer_Put_a0 R09_Writer_Put_aa0 at h
      split at h <;> first | (cases h; done) | exact Eq.trans (R09_Writer_Put_e0 (R09_Writer_Put_p0 k) (R09_Writer_Put_p1 k) k _ _ H K) h)
def R09_Writer_Put_ca {R : Type} (f : Option Addr → Int → Heap → (Int → Heap → Option R) → Option R) (args : List Value) (H : Heap) (K : Value → Heap → Option R) : Option R :=
  match args with
  | [.pointer p187, .int .i64 n188] => f p187 n188 H (fun n992 H => K (.int .i64 n992) H)
  | _ => none
def R09_Writer_Put_c (R : Type) (k : Nat) (args : List Value) (H : Heap) (K : Value → Heap → Option R) : Option R := R09_Writer_Put_ca (R09_Writer_Put k) args H K
theorem R09_Writer_Put_e {R : Type} (R09_Writer_Put_p0 : Option Addr → Int → Heap → (Option Addr → Int → Option R) → (Int → Option R) → Option R) (R09_Writer_Put_p1 : Option Addr → Int → (Option Addr → Int → Option R) → (Int → Option R) → Option R) (k : Nat) (p187 : Option Addr) (n188 : Int) (H : Heap) (K : Value → Heap → Option R) : evF (R09_Writer_Put_Ct) (R09_Writer_Put_Jt k R09_Writer_Put_p0 R09_Writer_Put_p1) R09_Writer_Put_f [.pointer p187, .int .i64 n188] H K = R09_Writer_Put_b R09_Writer_Put_p0 R09_Writer_Put_p1 k p187 n188 H (fun n992 H => K (.int .i64 n992) H) := by kernel_rfl
theorem R09_Writer_Put_cs (R : Type) (k : Nat) : ∀ args H K r, R09_Writer_Put_c R k args H K = some r → ∃ v H', Tri Try.prog 33 args H v H' ∧ K v H' = some r := by
  intro args H K r h
  unfold R09_Writer_Put_c R09_Writer_Put_ca at h
  split at h
  · exact evF_ok (C := R09_Writer_Put_C R k) (an := An) (t := R09_Writer_Put_at) (fn := Try.f33) (c := (Try.f33.body.getD .skip)) (ifn := R09_Writer_Put_f) (R09_Writer_Put_S R k) (R09_Writer_Put_J R k) Try.func33 (by kernel_rfl) (by kernel_rfl) (And.intro True.intro (And.intro (R09_Writer_Put_j0 k) (And.intro (R09_Writer_Put_j1 k) (And.intro True.intro (And.intro True.intro True.intro))))) rfl (Eq.trans (R09_Writer_Put_e (R09_Writer_Put_p0 k) (R09_Writer_Put_p1 k) k _ _ H K) h)
  · cases h
/-! ### R09_Writer_Bits: function 34 -/
def R09_Writer_Bits_p0_b {R : Type} (k : Nat) (p232 : Option Addr) (n233 : Int) (n234 : Int) (H : Heap) (KN : Option Addr → Int → Int → Option R) (KR : Int → Option R) : Option R :=
bif p232.isNone then (KR 6)
 else (hnil p232 fun p235 =>
hfad 0 p235 fun p236 =>
ldB H p236 fun t237 =>
bif (!t237) then (KR 6)
 else (KN p232 n233 n234))
def R09_Writer_Bits_p0 {R : Type} (k : Nat) (p232 : Option Addr) (n233 : Int) (n234 : Int) (H : Heap) (KN : Option Addr → Int → Int → Option R) (KR : Int → Option R) : Option R := R09_Writer_Bits_p0_b k p232 n233 n234 H KN KR

def R09_Writer_Bits_p1_b {R : Type} (k : Nat) (p245 : Option Addr) (n246 : Int) (n247 : Int) (KN : Option Addr → Int → Int → Option R) (KR : Int → Option R) : Option R :=
bif decide (n247 < 0) then (KR 1)
 else (bif decide (n247 > 32) then (KR 1)
 else (bif decide (n246 < 0) then (KR 1)
 else (hbin .shl .i64 1 (IntKind.wrap .u64 n247) fun n248 =>
bif decide (n246 ≥ n248) then (KR 1)
 else (KN p245 n246 n247))))
def R09_Writer_Bits_p1 {R : Type} (k : Nat) (p245 : Option Addr) (n246 : Int) (n247 : Int) (KN : Option Addr → Int → Int → Option R) (KR : Int → Option R) : Option R := R09_Writer_Bits_p1_b k p245 n246 n247 KN KR

def R09_Writer_Bits_l2_b {R : Type} (rec : Option Addr → Int → Int → Heap → Option R) (KE0 : Heap → Option R) (k : Nat) (p256 : Option Addr) (n257 : Int) (n258 : Int) (H : Heap) : Option R :=
bif decide (n258 ≥ 0) then (hnil p256 fun p259 =>
hfad 1 p259 fun p260 =>
ldL H p260 fun q261 l262 c263 =>
hbin .shr .i64 n257 (IntKind.wrap .u64 n258) fun n264 =>
hbin .and .i64 n264 1 fun n265 =>
hal H [.int .i64 n265] fun p266 H267 =>
happS 1 8 H267 q261 l262 c263 p266 1 fun q268 l269 c270 H271 =>
hnil p256 fun p272 =>
hfad 1 p272 fun p273 =>
hst1 H271 p273 (.slice q268 l269 c270) fun H274 =>
rec p256 n257 (IntKind.wrap .i64 (n258 - 1)) H274)
 else (KE0 H)
def R09_Writer_Bits_l2 {R : Type} (k : Nat) (KE0 : Heap → Option R) : Nat → Option Addr → Int → Int → Heap → Option R
  | 0, _, _, _, _ => none
  | n + 1, p256, n257, n258, H => R09_Writer_Bits_l2_b (R09_Writer_Bits_l2 k KE0 n) KE0 k p256 n257 n258 H

def R09_Writer_Bits_b {R : Type} (R09_Writer_Bits_p0 : Option Addr → Int → Int → Heap → (Option Addr → Int → Int → Option R) → (Int → Option R) → Option R) (R09_Writer_Bits_p1 : Option Addr → Int → Int → (Option Addr → Int → Int → Option R) → (Int → Option R) → Option R) (R09_Writer_Bits_l2 : (Heap → Option R) → Nat → Option Addr → Int → Int → Heap → Option R) (k : Nat) (p229 : Option Addr) (n230 : Int) (n231 : Int) (H : Heap) (K : Int → Heap → Option R) : Option R :=
R09_Writer_Bits_p0 p229 n230 n231 H (fun p242 n243 n244 =>
R09_Writer_Bits_p1 p242 n243 n244 (fun p253 n254 n255 =>
R09_Writer_Bits_l2 (fun H275 =>
K 0 H275) k p253 n254 (IntKind.wrap .i64 (n255 - 1)) H) (fun n276 =>
K n276 H)) (fun n277 =>
K n277 H)

def R09_Writer_Bits {R : Type} (k : Nat) (p229 : Option Addr) (n230 : Int) (n231 : Int) (H : Heap) (K : Int → Heap → Option R) : Option R := R09_Writer_Bits_b (R09_Writer_Bits_p0 k) (R09_Writer_Bits_p1 k) (R09_Writer_Bits_l2 k) k p229 n230 n231 H K

def R09_Writer_Bits_Ct {R : Type} : Tab R := fun _ _ _ _ => none
def R09_Writer_Bits_C (R : Type) (k : Nat) : Tab R := R09_Writer_Bits_Ct
theorem R09_Writer_Bits_S (R : Type) (k : Nat) : CSound Try.prog (R09_Writer_Bits_C R k) := csound_nil
def R09_Writer_Bits_aa0 {R : Type} (f : Option Addr → Int → Int → Heap → (Option Addr → Int → Int → Option R) → (Int → Option R) → Option R) (n : Nat) (vals : List Value) (H : Heap) (K : Xit → Env → Heap → Option R) : Option R :=
  match vals with
  | [.pointer p232, .int .i64 n233, .int .i64 n234] => f p232 n233 n234 H (fun p993 n994 n995 => K .normal [(0, .pointer p993), (1, .int .i64 n994), (2, .int .i64 n995)] H) (fun n996 => K .ret [(6, .int .i64 n996)] H)
  | _ => none
def R09_Writer_Bits_a0 (R : Type) (k n : Nat) (vals : List Value) (H : Heap) (K : Xit → Env → Heap → Option R) : Option R := R09_Writer_Bits_aa0 (R09_Writer_Bits_p0 k) n vals H K
def R09_Writer_Bits_aa1 {R : Type} (f : Option Addr → Int → Int → (Option Addr → Int → Int → Option R) → (Int → Option R) → Option R) (n : Nat) (vals : List Value) (H : Heap) (K : Xit → Env → Heap → Option R) : Option R :=
  match vals with
  | [.pointer p245, .int .i64 n246, .int .i64 n247] => f p245 n246 n247 (fun p997 n998 n999 => K .normal [(0, .pointer p997), (1, .int .i64 n998), (2, .int .i64 n999)] H) (fun n1000 => K .ret [(6, .int .i64 n1000)] H)
  | _ => none
def R09_Writer_Bits_a1 (R : Type) (k n : Nat) (vals : List Value) (H : Heap) (K : Xit → Env → Heap → Option R) : Option R := R09_Writer_Bits_aa1 (R09_Writer_Bits_p1 k) n vals H K
def R09_Writer_Bits_aa2 {R : Type} (f : (Heap → Option R) → Nat → Option Addr → Int → Int → Heap → Option R) (n : Nat) (vals : List Value) (H : Heap) (K : Xit → Env → Heap → Option R) : Option R :=
  match vals with
  | [.pointer p256, .int .i64 n257, .int .i64 n258] => f (fun H => K (.exit 0) [] H) n p256 n257 n258 H
  | _ => none
def R09_Writer_Bits_a2 (R : Type) (k n : Nat) (vals : List Value) (H : Heap) (K : Xit → Env → Heap → Option R) : Option R := R09_Writer_Bits_aa2 (R09_Writer_Bits_l2 k) n vals H K
def R09_Writer_Bits_Jt {R : Type} (k : Nat) (R09_Writer_Bits_p0 : Option Addr → Int → Int → Heap → (Option Addr → Int → Int → Option R) → (Int → Option R) → Option R) (R09_Writer_Bits_p1 : Option Addr → Int → Int → (Option Addr → Int → Int → Option R) → (Int → Option R) → Option R) (R09_Writer_Bits_l2 : (Heap → Option R) → Nat → Option Addr → Int → Int → Heap → Option R) : JTab R := tcons 0 (R09_Writer_Bits_aa0 R09_Writer_Bits_p0 k) <| tcons 1 (R09_Writer_Bits_aa1 R09_Writer_Bits_p1 k) <| tcons 2 (R09_Writer_Bits_aa2 R09_Writer_Bits_l2 k) <| fun _ _ _ _ => none
def R09_Writer_Bits_J (R : Type) (k : Nat) : JTab R := R09_Writer_Bits_Jt k (R09_Writer_Bits_p0 k) (R09_Writer_Bits_p1 k) (R09_Writer_Bits_l2 k)
def R09_Writer_Bits_at : AT := (.seq (.reg [0, 1, 2] []) (.seq (.opq 0 [0, 1, 2] ⟨[0, 1, 2], [], [6]⟩ (.seq (.reg [0, 1, 2, 16] []) (.cond (.seq (.reg [6] []) .leaf) .leaf))) (.seq (.opq 1 [0, 1, 2] ⟨[0, 1, 2], [], [6]⟩ (.seq (.reg [0, 1, 2, 33] []) (.cond (.seq (.reg [6] []) .leaf) .leaf))) (.seq (.seq (.reg [0, 1, 7] []) (.node (.opq 2 [0, 1, 7] ⟨[], [(0, [])], []⟩ (.node (.seq (.seq (.reg [0, 1, 7, 37] []) (.cond .leaf .leaf)) (.seq (.node (.reg [0, 1, 7] [])) (.reg [0, 1, 7] []))))))) (.seq (.reg [6] []) .leaf)))))
def R09_Writer_Bits_i2 : IC := (.seq (.seq (.reg [⟨some 36, .mov (.t 7), none⟩,
 ⟨some 37, .cmp .geq (.t 36) (.c (Go.Value.int Go.IntKind.i64 0)), none⟩] [0, 1, 7, 37]) (.cond (.t 37) .skip (.exit 0))) (.seq (.block 1 (.reg [⟨some 40, .mov (.t 0), none⟩,
 ⟨some 41, .mov (.t 0), none⟩,
 ⟨some 42, .nilc (.t 41), none⟩,
 ⟨some 43, .fad 1 (.t 42), none⟩,
 ⟨some 44, .ld (.sc .slc) (.t 43), none⟩,
 ⟨some 45, .mov (.t 1), none⟩,
 ⟨some 46, .mov (.t 7), none⟩,
 ⟨some 47, .cnv .u64 (.t 46), none⟩,
 ⟨some 48, .bin .shr .i64 (.t 45) (.t 47), none⟩,
 ⟨some 49, .bin .and .i64 (.t 48) (.c (Go.Value.int Go.IntKind.i64 1)), none⟩,
 ⟨some 50, .bls 1 [.int .i64 0] [(0, 1, (.t 49))], none⟩,
 ⟨some 51, .app [.int .i64 0] 8 (.t 44) (.t 50), none⟩,
 ⟨some 52, .nilc (.t 40), none⟩,
 ⟨some 53, .fad 1 (.t 52), none⟩,
 ⟨none, .st 1 (.t 53) (.t 51), none⟩] [0, 1, 7])) (.reg [⟨some 38, .mov (.t 7), none⟩,
 ⟨some 39, .bin .sub .i64 (.t 38) (.c (Go.Value.int Go.IntKind.i64 1)), none⟩,
 ⟨some 7, .mov (.t 39), none⟩] [0, 1, 7])))
def R09_Writer_Bits_i1 : IC := (.seq (.reg [⟨some 17, .mov (.t 2), none⟩,
 ⟨some 18, .cmp .lss (.t 17) (.c (Go.Value.int Go.IntKind.i64 0)), none⟩,
 ⟨some 19, .mov (.t 18), none⟩,
 ⟨some 20, .mov (.t 2), some (19, false)⟩,
 ⟨some 21, .cmp .gtr (.t 20) (.c (Go.Value.int Go.IntKind.i64 32)), some (19, false)⟩,
 ⟨some 22, .pick (.t 19) (.c (Go.Value.bool true)) (.t 21), none⟩,
 ⟨some 23, .mov (.t 22), none⟩,
 ⟨some 24, .mov (.t 1), some (23, false)⟩,
 ⟨some 25, .cmp .lss (.t 24) (.c (Go.Value.int Go.IntKind.i64 0)), some (23, false)⟩,
 ⟨some 26, .pick (.t 23) (.c (Go.Value.bool true)) (.t 25), none⟩,
 ⟨some 27, .mov (.t 26), none⟩,
 ⟨some 28, .mov (.t 1), some (27, false)⟩,
 ⟨some 29, .mov (.t 2), some (27, false)⟩,
 ⟨some 30, .cnv .u64 (.t 29), some (27, false)⟩,
 ⟨some 31, .bin .shl .i64 (.c (Go.Value.int Go.IntKind.i64 1)) (.t 30), some (27, false)⟩,
 ⟨some 32, .cmp .geq (.t 28) (.t 31), some (27, false)⟩,
 ⟨some 33, .pick (.t 27) (.c (Go.Value.bool true)) (.t 32), none⟩] [0, 1, 2, 33]) (.cond (.t 33) (.seq (.reg [⟨some 6, .mov (.c (Go.Value.int Go.IntKind.i64 1)), none⟩] [6]) .ret) .skip))
def R09_Writer_Bits_i0 : IC := (.seq (.reg [⟨some 8, .mov (.t 0), none⟩,
 ⟨some 9, .eqnil (.t 8) false 0, none⟩,
 ⟨some 10, .mov (.t 9), none⟩,
 ⟨some 11, .mov (.t 0), some (10, false)⟩,
 ⟨some 12, .nilc (.t 11), some (10, false)⟩,
 ⟨some 13, .fad 0 (.t 12), some (10, false)⟩,
 ⟨some 14, .ld (.sc .bool) (.t 13), some (10, false)⟩,
 ⟨some 15, .lnot (.t 14), some (10, false)⟩,
 ⟨some 16, .pick (.t 10) (.c (Go.Value.bool true)) (.t 15), none⟩] [0, 1, 2, 16]) (.cond (.t 16) (.seq (.reg [⟨some 6, .mov (.c (Go.Value.int Go.IntKind.i64 6)), none⟩] [6]) .ret) .skip))
def R09_Writer_Bits_f : IFn := ⟨54, [.t 6], (.seq (.reg [⟨some 6, .mov (.c (Go.Value.int Go.IntKind.i64 0)), none⟩] [0, 1, 2]) (.seq (.opq 0 [0, 1, 2] R09_Writer_Bits_i0) (.seq (.opq 1 [0, 1, 2] R09_Writer_Bits_i1) (.seq (.seq (.reg [⟨some 34, .mov (.t 2), none⟩,
 ⟨some 35, .bin .sub .i64 (.t 34) (.c (Go.Value.int Go.IntKind.i64 1)), none⟩,
 ⟨some 7, .mov (.t 35), none⟩] [0, 1, 7]) (.block 0 (.opq 2 [0, 1, 7] (.loop R09_Writer_Bits_i2)))) (.seq (.reg [⟨some 6, .mov (.c (Go.Value.int Go.IntKind.i64 0)), none⟩] [6]) .ret)))))⟩
theorem R09_Writer_Bits_e2 {R : Type} (R09_Writer_Bits_p0 : Option Addr → Int → Int → Heap → (Option Addr → Int → Int → Option R) → (Int → Option R) → Option R) (R09_Writer_Bits_p1 : Option Addr → Int → Int → (Option Addr → Int → Int → Option R) → (Int → Option R) → Option R) (R09_Writer_Bits_l2 : (Heap → Option R) → Nat → Option Addr → Int → Int → Heap → Option R) (k n : Nat) (p256 : Option Addr) (n257 : Int) (n258 : Int) (H : Heap) (K : Xit → Env → Heap → Option R) : evJ (R09_Writer_Bits_Ct) (R09_Writer_Bits_Jt k R09_Writer_Bits_p0 R09_Writer_Bits_p1 R09_Writer_Bits_l2) R09_Writer_Bits_i2 (List.zip [0, 1, 7] [.pointer p256, .int .i64 n257, .int .i64 n258]) H (fun x e' H' => match x with | .normal => R09_Writer_Bits_aa2 R09_Writer_Bits_l2 n ((clean e' [0, 1, 7]).map (·.2)) H' K | x => K x (clean e' ((⟨[], [(0, [])], []⟩ : Out).of x)) H') = R09_Writer_Bits_l2_b (R09_Writer_Bits_l2 (fun H => K (.exit 0) [] H) n) (fun H => K (.exit 0) [] H) k p256 n257 n258 H := by kernel_rfl
theorem R09_Writer_Bits_j2 {R : Type} (k : Nat) : JS Try.prog 54 (R09_Writer_Bits_a2 R k k) [0, 1, 7] ⟨[], [(0, [])], []⟩ (.loop (sel [1, 1, 1, 0, 1, 0, 0] (Try.f34.body.getD .skip))) :=
  loop_ok (nt := 54) (c := (sel [1, 1, 1, 0, 1, 0, 0] (Try.f34.body.getD .skip))) (C := R09_Writer_Bits_C R k) (an := An) (t := (.seq (.seq (.reg [0, 1, 7, 37] []) (.cond .leaf .leaf)) (.seq (.node (.reg [0, 1, 7] [])) (.reg [0, 1, 7] [])))) (ic := R09_Writer_Bits_i2) (R09_Writer_Bits_S R k) (R09_Writer_Bits_J R k) (by kernel_rfl) (And.intro (And.intro True.intro (And.intro True.intro True.intro)) (And.intro True.intro True.intro)) (R09_Writer_Bits_a2 R k) (fun vals H K => by unfold R09_Writer_Bits_a2 R09_Writer_Bits_aa2; split <;> rfl)
    (fun n vals H K r h => by
      unfold R09_Writer_Bits_a2 R09_Writer_Bits_aa2 at h
      split at h <;> first | (cases h; done) | exact Eq.trans (R09_Writer_Bits_e2 (R09_Writer_Bits_p0 k) (R09_Writer_Bits_p1 k) (R09_Writer_Bits_l2 k) k n _ _ _ H K) h) k
theorem R09_Writer_Bits_e1 {R : Type} (R09_Writer_Bits_p0 : Option Addr → Int → Int → Heap → (Option Addr → Int → Int → Option R) → (Int → Option R) → Option R) (R09_Writer_Bits_p1 : Option Addr → Int → Int → (Option Addr → Int → Int → Option R) → (Int → Option R) → Option R) (R09_Writer_Bits_l2 : (Heap → Option R) → Nat → Option Addr → Int → Int → Heap → Option R) (k : Nat) (p245 : Option Addr) (n246 : Int) (n247 : Int) (H : Heap) (K : Xit → Env → Heap → Option R) : evJ (R09_Writer_Bits_Ct) (R09_Writer_Bits_Jt k R09_Writer_Bits_p0 R09_Writer_Bits_p1 R09_Writer_Bits_l2) R09_Writer_Bits_i1 (List.zip [0, 1, 2] [.pointer p245, .int .i64 n246, .int .i64 n247]) H (fun x e' H' => K x (clean e' ((⟨[0, 1, 2], [], [6]⟩ : Out).of x)) H') = R09_Writer_Bits_p1_b k p245 n246 n247 (fun p997 n998 n999 => K .normal [(0, .pointer p997), (1, .int .i64 n998), (2, .int .i64 n999)] H) (fun n1000 => K .ret [(6, .int .i64 n1000)] H) := by kernel_rfl
theorem R09_Writer_Bits_j1 {R : Type} (k : Nat) : JS Try.prog 54 (R09_Writer_Bits_a1 R k k) [0, 1, 2] ⟨[0, 1, 2], [], [6]⟩ (sel [1, 1, 0] (Try.f34.body.getD .skip)) :=
  piece_ok (nt := 54) (c := (sel [1, 1, 0] (Try.f34.body.getD .skip))) (C := R09_Writer_Bits_C R k) (an := An) (t := (.seq (.reg [0, 1, 2, 33] []) (.cond (.seq (.reg [6] []) .leaf) .leaf))) (ic := R09_Writer_Bits_i1) (R09_Writer_Bits_S R k) (R09_Writer_Bits_J R k) (by kernel_rfl) (And.intro True.intro (And.intro (And.intro True.intro True.intro) True.intro)) (R09_Writer_Bits_a1 R k k)
    (fun vals H K r h => by
      unfold R09_Writer_Bits_a1 R09_Writer_Bits_aa1 at h
      split at h <;> first | (cases h; done) | exact Eq.trans (R09_Writer_Bits_e1 (R09_Writer_Bits_p0 k) (R09_Writer_Bits_p1 k) (R09_Writer_Bits_l2 k) k _ _ _ H K) h)
theorem R09_Writer_Bits_e0 {R : Type} (R09_Writer_Bits_p0 : Option Addr → Int → Int → Heap → (Option Addr → Int → Int → Option R) → (Int → Option R) → Option R) (R09_Writer_Bits_p1 : Option Addr → Int → Int → (Option Addr → Int → Int → Option R) → (Int → Option R) → Option R) (R09_Writer_Bits_l2 : (Heap → Option R) → Nat → Option Addr → Int → Int → Heap → Option R) (k : Nat) (p232 : Option Addr) (n233 : Int) (n234 : Int) (H : Heap) (K : Xit → Env → Heap → Option R) : evJ (R09_Writer_Bits_Ct) (R09_Writer_Bits_Jt k R09_Writer_Bits_p0 R09_Writer_Bits_p1 R09_Writer_Bits_l2) R09_Writer_Bits_i0 (List.zip [0, 1, 2] [.pointer p232, .int .i64 n233, .int .i64 n234]) H (fun x e' H' => K x (clean e' ((⟨[0, 1, 2], [], [6]⟩ : Out).of x)) H') = R09_Writer_Bits_p0_b k p232 n233 n234 H (fun p993 n994 n995 => K .normal [(0, .pointer p993), (1, .int .i64 n994), (2, .int .i64 n995)] H) (fun n996 => K .ret [(6, .int .i64 n996)] H) := by kernel_rfl
theorem R09_Writer_Bits_j0 {R : Type} (k : Nat) : JS Try.prog 54 (R09_Writer_Bits_a0 R k k) [0, 1, 2] ⟨[0, 1, 2], [], [6]⟩ (sel [1, 0] (Try.f34.body.getD .skip)) :=
  piece_ok (nt := 54) (c := (sel [1, 0] (Try.f34.body.getD .skip))) (C := R09_Writer_Bits_C R k) (an := An) (t := (.seq (.reg [0, 1, 2, 16] []) (.cond (.seq (.reg [6] []) .leaf) .leaf))) (ic := R09_Writer_Bits_i0) (R09_Writer_Bits_S R k) (R09_Writer_Bits_J R k) (by kernel_rfl) (And.intro True.intro (And.intro (And.intro True.intro True.intro) True.intro)) (R09_Writer_Bits_a0 R k k)
    (fun vals H K r h => by
      unfold R09_Writer_Bits_a0 R09_Writer_Bits_aa0 at h
      split at h <;> first | (cases h; done) | exact Eq.trans (R09_Writer_Bits_e0 (R09_Writer_Bits_p0 k) (R09_Writer_Bits_p1 k) (R09_Writer_Bits_l2 k) k _ _ _ H K) h)
def R09_Writer_Bits_ca {R : Type} (f : Option Addr → Int → Int → Heap → (Int → Heap → Option R) → Option R) (args : List Value) (H : Heap) (K : Value → Heap → Option R) : Option R :=
  match args with
  | [.pointer p229, .int .i64 n230, .int .i64 n231] => f p229 n230 n231 H (fun n1001 H => K (.int .i64 n1001) H)
  | _ => none
def R09_Writer_Bits_c (R : Type) (k : Nat) (args : List Value) (H : Heap) (K : Value → Heap → Option R) : Option R := R09_Writer_Bits_ca (R09_Writer_Bits k) args H K
theorem R09_Writer_Bits_e {R : Type} (R09_Writer_Bits_p0 : Option Addr → Int → Int → Heap → (Option Addr → Int → Int → Option R) → (Int → Option R) → Option R) (R09_Writer_Bits_p1 : Option Addr → Int → Int → (Option Addr → Int → Int → Option R) → (Int → Option R) → Option R) (R09_Writer_Bits_l2 : (Heap → Option R) → Nat → Option Addr → Int → Int → Heap → Option R) (k : Nat) (p229 : Option Addr) (n230 : Int) (n231 : Int) (H : Heap) (K : Value → Heap → Option R) : evF (R09_Writer_Bits_Ct) (R09_Writer_Bits_Jt k R09_Writer_Bits_p0 R09_Writer_Bits_p1 R09_Writer_Bits_l2) R09_Writer_Bits_f [.pointer p229, .int .i64 n230, .int .i64 n231] H K = R09_Writer_Bits_b R09_Writer_Bits_p0 R09_Writer_Bits_p1 R09_Writer_Bits_l2 k p229 n230 n231 H (fun n1001 H => K (.int .i64 n1001) H) := by kernel_rfl
theorem R09_Writer_Bits_cs (R : Type) (k : Nat) : ∀ args H K r, R09_Writer_Bits_c R k args H K = some r → ∃ v H', Tri Try.prog 34 args H v H' ∧ K v H' = some r := by
  intro args H K r h
  unfold R09_Writer_Bits_c R09_Writer_Bits_ca at h
  split at h
  · exact evF_ok (C := R09_Writer_Bits_C R k) (an := An) (t := R09_Writer_Bits_at) (fn := Try.f34) (c := (Try.f34.body.getD .skip)) (ifn := R09_Writer_Bits_f) (R09_Writer_Bits_S R k) (R09_Writer_Bits_J R k) Try.func34 (by kernel_rfl) (by kernel_rfl) (And.intro True.intro (And.intro (R09_Writer_Bits_j0 k) (And.intro (R09_Writer_Bits_j1 k) (And.intro (And.intro True.intro (R09_Writer_Bits_j2 k)) (And.intro True.intro True.intro))))) rfl (Eq.trans (R09_Writer_Bits_e (R09_Writer_Bits_p0 k) (R09_Writer_Bits_p1 k) (R09_Writer_Bits_l2 k) k _ _ _ H K) h)
  · cases h
/-! ### R09_Writer_Gamma: function 35 -/
def R09_Writer_Gamma_p0_b {R : Type} (k : Nat) (p285 : Option Addr) (n286 : Int) (H : Heap) (KN : Option Addr → Int → Option R) (KR : Int → Option R) : Option R :=
bif p285.isNone then (KR 6)
 else (hnil p285 fun p287 =>
hfad 0 p287 fun p288 =>
ldB H p288 fun t289 =>
bif (!t289) then (KR 6)
 else (KN p285 n286))
def R09_Writer_Gamma_p0 {R : Type} (k : Nat) (p285 : Option Addr) (n286 : Int) (H : Heap) (KN : Option Addr → Int → Option R) (KR : Int → Option R) : Option R := R09_Writer_Gamma_p0_b k p285 n286 H KN KR

def R09_Writer_Gamma_p1_b {R : Type} (k : Nat) (p295 : Option Addr) (n296 : Int) (KN : Option Addr → Int → Option R) (KR : Int → Option R) : Option R :=
bif decide (n296 < 1) then (KR 1)
 else (bif decide (n296 ≥ 4294967296) then (KR 1)
 else (KN p295 n296))
def R09_Writer_Gamma_p1 {R : Type} (k : Nat) (p295 : Option Addr) (n296 : Int) (KN : Option Addr → Int → Option R) (KR : Int → Option R) : Option R := R09_Writer_Gamma_p1_b k p295 n296 KN KR

def R09_Writer_Gamma_l2_b {R : Type} (rec : Option Addr → Int → Int → Option R) (KE0 : Option Addr → Int → Int → Option R) (k : Nat) (p302 : Option Addr) (n303 : Int) (n304 : Int) : Option R :=
hbin .shr .i64 n303 (IntKind.wrap .u64 (IntKind.wrap .i64 (n304 + 1))) fun n305 =>
bif decide (n305 > 0) then (rec p302 n303 (IntKind.wrap .i64 (n304 + 1)))
 else (KE0 p302 n303 n304)
def R09_Writer_Gamma_l2 {R : Type} (k : Nat) (KE0 : Option Addr → Int → Int → Option R) : Nat → Option Addr → Int → Int → Option R
  | 0, _, _, _ => none
  | n + 1, p302, n303, n304 => R09_Writer_Gamma_l2_b (R09_Writer_Gamma_l2 k KE0 n) KE0 k p302 n303 n304

def R09_Writer_Gamma_l3_b {R : Type} (rec : Option Addr → Int → Int → Int → Heap → Option R) (KE2 : Option Addr → Int → Int → Heap → Option R) (k : Nat) (p312 : Option Addr) (n313 : Int) (n314 : Int) (n315 : Int) (H : Heap) : Option R :=
bif decide (n315 < n314) then (hnil p312 fun p316 =>
hfad 1 p316 fun p317 =>
ldL H p317 fun q318 l319 c320 =>
hal H [.int .i64 0] fun p321 H322 =>
happS 1 8 H322 q318 l319 c320 p321 1 fun q323 l324 c325 H326 =>
hnil p312 fun p327 =>
hfad 1 p327 fun p328 =>
hst1 H326 p328 (.slice q323 l324 c325) fun H329 =>
rec p312 n313 n314 (IntKind.wrap .i64 (n315 + 1)) H329)
 else (KE2 p312 n313 n314 H)
def R09_Writer_Gamma_l3 {R : Type} (k : Nat) (KE2 : Option Addr → Int → Int → Heap → Option R) : Nat → Option Addr → Int → Int → Int → Heap → Option R
  | 0, _, _, _, _, _ => none
  | n + 1, p312, n313, n314, n315, H => R09_Writer_Gamma_l3_b (R09_Writer_Gamma_l3 k KE2 n) KE2 k p312 n313 n314 n315 H

def R09_Writer_Gamma_b {R : Type} (R09_Writer_Gamma_p0 : Option Addr → Int → Heap → (Option Addr → Int → Option R) → (Int → Option R) → Option R) (R09_Writer_Gamma_p1 : Option Addr → Int → (Option Addr → Int → Option R) → (Int → Option R) → Option R) (R09_Writer_Gamma_l2 : (Option Addr → Int → Int → Option R) → Nat → Option Addr → Int → Int → Option R) (R09_Writer_Gamma_l3 : (Option Addr → Int → Int → Heap → Option R) → Nat → Option Addr → Int → Int → Int → Heap → Option R) (R09_Writer_Bits : Option Addr → Int → Int → Heap → (Int → Heap → Option R) → Option R) (k : Nat) (p283 : Option Addr) (n284 : Int) (H : Heap) (K : Int → Heap → Option R) : Option R :=
R09_Writer_Gamma_p0 p283 n284 H (fun p293 n294 =>
R09_Writer_Gamma_p1 p293 n294 (fun p300 n301 =>
R09_Writer_Gamma_l2 (fun p309 n310 n311 =>
R09_Writer_Gamma_l3 (fun p333 n334 n335 H336 =>
R09_Writer_Bits p333 n334 (IntKind.wrap .i64 (n335 + 1)) H336 fun n337 H338 =>
K n337 H338) k p309 n310 n311 0 H) k p300 n301 0) (fun n339 =>
K n339 H)) (fun n340 =>
K n340 H)

def R09_Writer_Gamma {R : Type} (k : Nat) (p283 : Option Addr) (n284 : Int) (H : Heap) (K : Int → Heap → Option R) : Option R := R09_Writer_Gamma_b (R09_Writer_Gamma_p0 k) (R09_Writer_Gamma_p1 k) (R09_Writer_Gamma_l2 k) (R09_Writer_Gamma_l3 k) (R09_Writer_Bits k) k p283 n284 H K

def R09_Writer_Gamma_Ct {R : Type} (R09_Writer_Bits : Option Addr → Int → Int → Heap → (Int → Heap → Option R) → Option R) : Tab R := tcons 34 (R09_Writer_Bits_ca R09_Writer_Bits) <| fun _ _ _ _ => none
def R09_Writer_Gamma_C (R : Type) (k : Nat) : Tab R := R09_Writer_Gamma_Ct (R09_Writer_Bits k)
theorem R09_Writer_Gamma_S (R : Type) (k : Nat) : CSound Try.prog (R09_Writer_Gamma_C R k) := csound_cons (R09_Writer_Bits_cs R k) <| csound_nil
def R09_Writer_Gamma_aa0 {R : Type} (f : Option Addr → Int → Heap → (Option Addr → Int → Option R) → (Int → Option R) → Option R) (n : Nat) (vals : List Value) (H : Heap) (K : Xit → Env → Heap → Option R) : Option R :=
  match vals with
  | [.pointer p285, .int .i64 n286] => f p285 n286 H (fun p1002 n1003 => K .normal [(0, .pointer p1002), (1, .int .i64 n1003)] H) (fun n1004 => K .ret [(4, .int .i64 n1004)] H)
  | _ => none
def R09_Writer_Gamma_a0 (R : Type) (k n : Nat) (vals : List Value) (H : Heap) (K : Xit → Env → Heap → Option R) : Option R := R09_Writer_Gamma_aa0 (R09_Writer_Gamma_p0 k) n vals H K
def R09_Writer_Gamma_aa1 {R : Type} (f : Option Addr → Int → (Option Addr → Int → Option R) → (Int → Option R) → Option R) (n : Nat) (vals : List Value) (H : Heap) (K : Xit → Env → Heap → Option R) : Option R :=
  match vals with
  | [.pointer p295, .int .i64 n296] => f p295 n296 (fun p1005 n1006 => K .normal [(0, .pointer p1005), (1, .int .i64 n1006)] H) (fun n1007 => K .ret [(4, .int .i64 n1007)] H)
  | _ => none
def R09_Writer_Gamma_a1 (R : Type) (k n : Nat) (vals : List Value) (H : Heap) (K : Xit → Env → Heap → Option R) : Option R := R09_Writer_Gamma_aa1 (R09_Writer_Gamma_p1 k) n vals H K
def R09_Writer_Gamma_aa2 {R : Type} (f : (Option Addr → Int → Int → Option R) → Nat → Option Addr → Int → Int → Option R) (n : Nat) (vals : List Value) (H : Heap) (K : Xit → Env → Heap → Option R) : Option R :=
  match vals with
  | [.pointer p302, .int .i64 n303, .int .i64 n304] => f (fun p1008 n1009 n1010 => K (.exit 0) [(0, .pointer p1008), (1, .int .i64 n1009), (5, .int .i64 n1010)] H) n p302 n303 n304
  | _ => none
def R09_Writer_Gamma_a2 (R : Type) (k n : Nat) (vals : List Value) (H : Heap) (K : Xit → Env → Heap → Option R) : Option R := R09_Writer_Gamma_aa2 (R09_Writer_Gamma_l2 k) n vals H K
def R09_Writer_Gamma_aa3 {R : Type} (f : (Option Addr → Int → Int → Heap → Option R) → Nat → Option Addr → Int → Int → Int → Heap → Option R) (n : Nat) (vals : List Value) (H : Heap) (K : Xit → Env → Heap → Option R) : Option R :=
  match vals with
  | [.pointer p312, .int .i64 n313, .int .i64 n314, .int .i64 n315] => f (fun p1011 n1012 n1013 H => K (.exit 2) [(0, .pointer p1011), (1, .int .i64 n1012), (5, .int .i64 n1013)] H) n p312 n313 n314 n315 H
  | _ => none
def R09_Writer_Gamma_a3 (R : Type) (k n : Nat) (vals : List Value) (H : Heap) (K : Xit → Env → Heap → Option R) : Option R := R09_Writer_Gamma_aa3 (R09_Writer_Gamma_l3 k) n vals H K
def R09_Writer_Gamma_Jt {R : Type} (k : Nat) (R09_Writer_Gamma_p0 : Option Addr → Int → Heap → (Option Addr → Int → Option R) → (Int → Option R) → Option R) (R09_Writer_Gamma_p1 : Option Addr → Int → (Option Addr → Int → Option R) → (Int → Option R) → Option R) (R09_Writer_Gamma_l2 : (Option Addr → Int → Int → Option R) → Nat → Option Addr → Int → Int → Option R) (R09_Writer_Gamma_l3 : (Option Addr → Int → Int → Heap → Option R) → Nat → Option Addr → Int → Int → Int → Heap → Option R) : JTab R := tcons 0 (R09_Writer_Gamma_aa0 R09_Writer_Gamma_p0 k) <| tcons 1 (R09_Writer_Gamma_aa1 R09_Writer_Gamma_p1 k) <| tcons 2 (R09_Writer_Gamma_aa2 R09_Writer_Gamma_l2 k) <| tcons 3 (R09_Writer_Gamma_aa3 R09_Writer_Gamma_l3 k) <| fun _ _ _ _ => none
def R09_Writer_Gamma_J (R : Type) (k : Nat) : JTab R := R09_Writer_Gamma_Jt k (R09_Writer_Gamma_p0 k) (R09_Writer_Gamma_p1 k) (R09_Writer_Gamma_l2 k) (R09_Writer_Gamma_l3 k)
def R09_Writer_Gamma_at : AT := (.seq (.reg [0, 1] []) (.seq (.opq 0 [0, 1] ⟨[0, 1], [], [4]⟩ (.seq (.reg [0, 1, 15] []) (.cond (.seq (.reg [4] []) .leaf) .leaf))) (.seq (.opq 1 [0, 1] ⟨[0, 1], [], [4]⟩ (.seq (.reg [0, 1, 21] []) (.cond (.seq (.reg [4] []) .leaf) .leaf))) (.seq (.reg [0, 1, 5] []) (.seq (.node (.opq 2 [0, 1, 5] ⟨[], [(0, [0, 1, 5])], []⟩ (.node (.seq (.seq (.reg [0, 1, 5, 27] []) (.cond .leaf .leaf)) (.node (.reg [0, 1, 5] [])))))) (.seq (.seq (.reg [0, 1, 5, 6] []) (.node (.opq 3 [0, 1, 5, 6] ⟨[], [(2, [0, 1, 5])], []⟩ (.node (.seq (.seq (.reg [0, 1, 5, 6, 32] []) (.cond .leaf .leaf)) (.seq (.node (.reg [0, 1, 5, 6] [])) (.reg [0, 1, 5, 6] []))))))) (.seq (.reg [4] []) .leaf)))))))
def R09_Writer_Gamma_i3 : IC := (.seq (.seq (.reg [⟨some 30, .mov (.t 6), none⟩,
 ⟨some 31, .mov (.t 5), none⟩,
 ⟨some 32, .cmp .lss (.t 30) (.t 31), none⟩] [0, 1, 5, 6, 32]) (.cond (.t 32) .skip (.exit 2))) (.seq (.block 3 (.reg [⟨some 35, .mov (.t 0), none⟩,
 ⟨some 36, .mov (.t 0), none⟩,
 ⟨some 37, .nilc (.t 36), none⟩,
 ⟨some 38, .fad 1 (.t 37), none⟩,
 ⟨some 39, .ld (.sc .slc) (.t 38), none⟩,
 ⟨some 40, .bls 1 [.int .i64 0] [(0, 1, (.c (Go.Value.int Go.IntKind.i64 0)))], none⟩,
 ⟨some 41, .app [.int .i64 0] 8 (.t 39) (.t 40), none⟩,
 ⟨some 42, .nilc (.t 35), none⟩,
 ⟨some 43, .fad 1 (.t 42), none⟩,
 ⟨none, .st 1 (.t 43) (.t 41), none⟩] [0, 1, 5, 6])) (.reg [⟨some 33, .mov (.t 6), none⟩,
 ⟨some 34, .bin .add .i64 (.t 33) (.c (Go.Value.int Go.IntKind.i64 1)), none⟩,
 ⟨some 6, .mov (.t 34), none⟩] [0, 1, 5, 6])))
def R09_Writer_Gamma_i2 : IC := (.seq (.seq (.reg [⟨some 22, .mov (.t 1), none⟩,
 ⟨some 23, .mov (.t 5), none⟩,
 ⟨some 24, .bin .add .i64 (.t 23) (.c (Go.Value.int Go.IntKind.i64 1)), none⟩,
 ⟨some 25, .cnv .u64 (.t 24), none⟩,
 ⟨some 26, .bin .shr .i64 (.t 22) (.t 25), none⟩,
 ⟨some 27, .cmp .gtr (.t 26) (.c (Go.Value.int Go.IntKind.i64 0)), none⟩] [0, 1, 5, 27]) (.cond (.t 27) .skip (.exit 0))) (.block 1 (.reg [⟨some 28, .mov (.t 5), none⟩,
 ⟨some 29, .bin .add .i64 (.t 28) (.c (Go.Value.int Go.IntKind.i64 1)), none⟩,
 ⟨some 5, .mov (.t 29), none⟩] [0, 1, 5])))
def R09_Writer_Gamma_i1 : IC := (.seq (.reg [⟨some 16, .mov (.t 1), none⟩,
 ⟨some 17, .cmp .lss (.t 16) (.c (Go.Value.int Go.IntKind.i64 1)), none⟩,
 ⟨some 18, .mov (.t 17), none⟩,
 ⟨some 19, .mov (.t 1), some (18, false)⟩,
 ⟨some 20, .cmp .geq (.t 19) (.c (Go.Value.int Go.IntKind.i64 4294967296)), some (18, false)⟩,
 ⟨some 21, .pick (.t 18) (.c (Go.Value.bool true)) (.t 20), none⟩] [0, 1, 21]) (.cond (.t 21) (.seq (.reg [⟨some 4, .mov (.c (Go.Value.int Go.IntKind.i64 1)), none⟩] [4]) .ret) .skip))
def R09_Writer_Gamma_i0 : IC := (.seq (.reg [⟨some 7, .mov (.t 0), none⟩,
 ⟨some 8, .eqnil (.t 7) false 0, none⟩,
 ⟨some 9, .mov (.t 8), none⟩,
 ⟨some 10, .mov (.t 0), some (9, false)⟩,
 ⟨some 11, .nilc (.t 10), some (9, false)⟩,
 ⟨some 12, .fad 0 (.t 11), some (9, false)⟩,
 ⟨some 13, .ld (.sc .bool) (.t 12), some (9, false)⟩,
 ⟨some 14, .lnot (.t 13), some (9, false)⟩,
 ⟨some 15, .pick (.t 9) (.c (Go.Value.bool true)) (.t 14), none⟩] [0, 1, 15]) (.cond (.t 15) (.seq (.reg [⟨some 4, .mov (.c (Go.Value.int Go.IntKind.i64 6)), none⟩] [4]) .ret) .skip))
def R09_Writer_Gamma_f : IFn := ⟨49, [.t 4], (.seq (.reg [⟨some 4, .mov (.c (Go.Value.int Go.IntKind.i64 0)), none⟩] [0, 1]) (.seq (.opq 0 [0, 1] R09_Writer_Gamma_i0) (.seq (.opq 1 [0, 1] R09_Writer_Gamma_i1) (.seq (.reg [⟨some 5, .mov (.c (Go.Value.int Go.IntKind.i64 0)), none⟩] [0, 1, 5]) (.seq (.block 0 (.opq 2 [0, 1, 5] (.loop R09_Writer_Gamma_i2))) (.seq (.seq (.reg [⟨some 6, .mov (.c (Go.Value.int Go.IntKind.i64 0)), none⟩] [0, 1, 5, 6]) (.block 2 (.opq 3 [0, 1, 5, 6] (.loop R09_Writer_Gamma_i3)))) (.seq (.reg [⟨some 44, .mov (.t 0), none⟩,
 ⟨some 45, .mov (.t 1), none⟩,
 ⟨some 46, .mov (.t 5), none⟩,
 ⟨some 47, .bin .add .i64 (.t 46) (.c (Go.Value.int Go.IntKind.i64 1)), none⟩,
 ⟨some 48, .call 34 [(.t 44), (.t 45), (.t 47)] (.one (.sc (.int .i64))), none⟩,
 ⟨some 4, .mov (.t 48), none⟩] [4]) .ret)))))))⟩
theorem R09_Writer_Gamma_e3 {R : Type} (R09_Writer_Bits : Option Addr → Int → Int → Heap → (Int → Heap → Option R) → Option R) (R09_Writer_Gamma_p0 : Option Addr → Int → Heap → (Option Addr → Int → Option R) → (Int → Option R) → Option R) (R09_Writer_Gamma_p1 : Option Addr → Int → (Option Addr → Int → Option R) → (Int → Option R) → Option R) (R09_Writer_Gamma_l2 : (Option Addr → Int → Int → Option R) → Nat → Option Addr → Int → Int → Option R) (R09_Writer_Gamma_l3 : (Option Addr → Int → Int → Heap → Option R) → Nat → Option Addr → Int → Int → Int → Heap → Option R) (k n : Nat) (p312 : Option Addr) (n313 : Int) (n314 : Int) (n315 : Int) (H : Heap) (K : Xit → Env → Heap → Option R) : evJ (R09_Writer_Gamma_Ct R09_Writer_Bits) (R09_Writer_Gamma_Jt k R09_Writer_Gamma_p0 R09_Writer_Gamma_p1 R09_Writer_Gamma_l2 R09_Writer_Gamma_l3) R09_Writer_Gamma_i3 (List.zip [0, 1, 5, 6] [.pointer p312, .int .i64 n313, .int .i64 n314, .int .i64 n315]) H (fun x e' H' => match x with | .normal => R09_Writer_Gamma_aa3 R09_Writer_Gamma_l3 n ((clean e' [0, 1, 5, 6]).map (·.2)) H' K | x => K x (clean e' ((⟨[], [(2, [0, 1, 5])], []⟩ : Out).of x)) H') = R09_Writer_Gamma_l3_b (R09_Writer_Gamma_l3 (fun p1011 n1012 n1013 H => K (.exit 2) [(0, .pointer p1011), (1, .int .i64 n1012), (5, .int .i64 n1013)] H) n) (fun p1011 n1012 n1013 H => K (.exit 2) [(0, .pointer p1011), (1, .int .i64 n1012), (5, .int .i64 n1013)] H) k p312 n313 n314 n315 H := by kernel_rfl
theorem R09_Writer_Gamma_j3 {R : Type} (k : Nat) : JS Try.prog 49 (R09_Writer_Gamma_a3 R k k) [0, 1, 5, 6] ⟨[], [(2, [0, 1, 5])], []⟩ (.loop (sel [1, 1, 1, 1, 1, 0, 1, 0, 0] (Try.f35.body.getD .skip))) :=
  loop_ok (nt := 49) (c := (sel [1, 1, 1, 1, 1, 0, 1, 0, 0] (Try.f35.body.getD .skip))) (C := R09_Writer_Gamma_C R k) (an := An) (t := (.seq (.seq (.reg [0, 1, 5, 6, 32] []) (.cond .leaf .leaf)) (.seq (.node (.reg [0, 1, 5, 6] [])) (.reg [0, 1, 5, 6] [])))) (ic := R09_Writer_Gamma_i3) (R09_Writer_Gamma_S R k) (R09_Writer_Gamma_J R k) (by kernel_rfl) (And.intro (And.intro True.intro (And.intro True.intro True.intro)) (And.intro True.intro True.intro)) (R09_Writer_Gamma_a3 R k) (fun vals H K => by unfold R09_Writer_Gamma_a3 R09_Writer_Gamma_aa3; split <;> rfl)
    (fun n vals H K r h => by
      unfold R09_Writer_Gamma_a3 R09_Writer_Gamma_aa3 at h
      split at h <;> first | (cases h; done) | exact Eq.trans (R09_Writer_Gamma_e3 (R09_Writer_Bits k) (R09_Writer_Gamma_p0 k) (R09_Writer_Gamma_p1 k) (R09_Writer_Gamma_l2 k) (R09_Writer_Gamma_l3 k) k n _ _ _ _ H K) h) k
theorem R09_Writer_Gamma_e2 {R : Type} (R09_Writer_Bits : Option Addr → Int → Int → Heap → (Int → Heap → Option R) → Option R) (R09_Writer_Gamma_p0 : Option Addr → Int → Heap → (Option Addr → Int → Option R) → (Int → Option R) → Option R) (R09_Writer_Gamma_p1 : Option Addr → Int → (Option Addr → Int → Option R) → (Int → Option R) → Option R) (R09_Writer_Gamma_l2 : (Option Addr → Int → Int → Option R) → Nat → Option Addr → Int → Int → Option R) (R09_Writer_Gamma_l3 : (Option Addr → Int → Int → Heap → Option R) → Nat → Option Addr → Int → Int → Int → Heap → Option R) (k n : Nat) (p302 : Option Addr) (n303 : Int) (n304 : Int) (H : Heap) (K : Xit → Env → Heap → Option R) : evJ (R09_Writer_Gamma_Ct R09_Writer_Bits) (R09_Writer_Gamma_Jt k R09_Writer_Gamma_p0 R09_Writer_Gamma_p1 R09_Writer_Gamma_l2 R09_Writer_Gamma_l3) R09_Writer_Gamma_i2 (List.zip [0, 1, 5] [.pointer p302, .int .i64 n303, .int .i64 n304]) H (fun x e' H' => match x with | .normal => R09_Writer_Gamma_aa2 R09_Writer_Gamma_l2 n ((clean e' [0, 1, 5]).map (·.2)) H' K | x => K x (clean e' ((⟨[], [(0, [0, 1, 5])], []⟩ : Out).of x)) H') = R09_Writer_Gamma_l2_b (R09_Writer_Gamma_l2 (fun p1008 n1009 n1010 => K (.exit 0) [(0, .pointer p1008), (1, .int .i64 n1009), (5, .int .i64 n1010)] H) n) (fun p1008 n1009 n1010 => K (.exit 0) [(0, .pointer p1008), (1, .int .i64 n1009), (5, .int .i64 n1010)] H) k p302 n303 n304 := by kernel_rfl
theorem R09_Writer_Gamma_j2 {R : Type} (k : Nat) : JS Try.prog 49 (R09_Writer_Gamma_a2 R k k) [0, 1, 5] ⟨[], [(0, [0, 1, 5])], []⟩ (.loop (sel [1, 1, 1, 1, 0, 0, 0] (Try.f35.body.getD .skip))) :=
  loop_ok (nt := 49) (c := (sel [1, 1, 1, 1, 0, 0, 0] (Try.f35.body.getD .skip))) (C := R09_Writer_Gamma_C R k) (an := An) (t := (.seq (.seq (.reg [0, 1, 5, 27] []) (.cond .leaf .leaf)) (.node (.reg [0, 1, 5] [])))) (ic := R09_Writer_Gamma_i2) (R09_Writer_Gamma_S R k) (R09_Writer_Gamma_J R k) (by kernel_rfl) (And.intro (And.intro True.intro (And.intro True.intro True.intro)) True.intro) (R09_Writer_Gamma_a2 R k) (fun vals H K => by unfold R09_Writer_Gamma_a2 R09_Writer_Gamma_aa2; split <;> rfl)
    (fun n vals H K r h => by
      unfold R09_Writer_Gamma_a2 R09_Writer_Gamma_aa2 at h
      split at h <;> first | (cases h; done) | exact Eq.trans (R09_Writer_Gamma_e2 (R09_Writer_Bits k) (R09_Writer_Gamma_p0 k) (R09_Writer_Gamma_p1 k) (R09_Writer_Gamma_l2 k) (R09_Writer_Gamma_l3 k) k n _ _ _ H K) h) k
theorem R09_Writer_Gamma_e1 {R : Type} (R09_Writer_Bits : Option Addr → Int → Int → Heap → (Int → Heap → Option R) → Option R) (R09_Writer_Gamma_p0 : Option Addr → Int → Heap → (Option Addr → Int → Option R) → (Int → Option R) → Option R) (R09_Writer_Gamma_p1 : Option Addr → Int → (Option Addr → Int → Option R) → (Int → Option R) → Option R) (R09_Writer_Gamma_l2 : (Option Addr → Int → Int → Option R) → Nat → Option Addr → Int → Int → Option R) (R09_Writer_Gamma_l3 : (Option Addr → Int → Int → Heap → Option R) → Nat → Option Addr → Int → Int → Int → Heap → Option R) (k : Nat) (p295 : Option Addr) (n296 : Int) (H : Heap) (K : Xit → Env → Heap → Option R) : evJ (R09_Writer_Gamma_Ct R09_Writer_Bits) (R09_Writer_Gamma_Jt k R09_Writer_Gamma_p0 R09_Writer_Gamma_p1 R09_Writer_Gamma_l2 R09_Writer_Gamma_l3) R09_Writer_Gamma_i1 (List.zip [0, 1] [.pointer p295, .int .i64 n296]) H (fun x e' H' => K x (clean e' ((⟨[0, 1], [], [4]⟩ : Out).of x)) H') = R09_Writer_Gamma_p1_b k p295 n296 (fun p1005 n1006 => K .normal [(0, .pointer p1005), (1, .int .i64 n1006)] H) (fun n1007 => K .ret [(4, .int .i64 n1007)] H) := by kernel_rfl
theorem R09_Writer_Gamma_j1 {R : Type} (k : Nat) : JS Try.prog 49 (R09_Writer_Gamma_a1 R k k) [0, 1] ⟨[0, 1], [], [4]⟩ (sel [1, 1, 0] (Try.f35.body.getD .skip)) :=
  piece_ok (nt := 49) (c := (sel [1, 1, 0] (Try.f35.body.getD .skip))) (C := R09_Writer_Gamma_C R k) (an := An) (t := (.seq (.reg [0, 1, 21] []) (.cond (.seq (.reg [4] []) .leaf) .leaf))) (ic := R09_Writer_Gamma_i1) (R09_Writer_Gamma_S R k) (R09_Writer_Gamma_J R k) (by kernel_rfl) (And.intro True.intro (And.intro (And.intro True.intro True.intro) True.intro)) (R09_Writer_Gamma_a1 R k k)
    (fun vals H K r h => by
      unfold R09_Writer_Gamma_a1 R09_Writer_Gamma_aa1 at h
      split at h <;> first | (cases h; done) | exact Eq.trans (R09_Writer_Gamma_e1 (R09_Writer_Bits k) (R09_Writer_Gamma_p0 k) (R09_Writer_Gamma_p1 k) (R09_Writer_Gamma_l2 k) (R09_Writer_Gamma_l3 k) k _ _ H K) h)
theorem R09_Writer_Gamma_e0 {R : Type} (R09_Writer_Bits : Option Addr → Int → Int → Heap → (Int → Heap → Option R) → Option R) (R09_Writer_Gamma_p0 : Option Addr → Int → Heap → (Option Addr → Int → Option R) → (Int → Option R) → Option R) (R09_Writer_Gamma_p1 : Option Addr → Int → (Option Addr → Int → Option R) → (Int → Option R) → Option R) (R09_Writer_Gamma_l2 : (Option Addr → Int → Int → Option R) → Nat → Option Addr → Int → Int → Option R) (R09_Writer_Gamma_l3 : (Option Addr → Int → Int → Heap → Option R) → Nat → Option Addr → Int → Int → Int → Heap → Option R) (k : Nat) (p285 : Option Addr) (n286 : Int) (H : Heap) (K : Xit → Env → Heap → Option R) : evJ (R09_Writer_Gamma_Ct R09_Writer_Bits) (R09_Writer_Gamma_Jt k R09_Writer_Gamma_p0 R09_Writer_Gamma_p1 R09_Writer_Gamma_l2 R09_Writer_Gamma_l3) R09_Writer_Gamma_i0 (List.zip [0, 1] [.pointer p285, .int .i64 n286]) H (fun x e' H' => K x (clean e' ((⟨[0, 1], [], [4]⟩ : Out).of x)) H') = R09_Writer_Gamma_p0_b k p285 n286 H (fun p1002 n1003 => K .normal [(0, .pointer p1002), (1, .int .i64 n1003)] H) (fun n1004 => K .ret [(4, .int .i64 n1004)] H) := by kernel_rfl
theorem R09_Writer_Gamma_j0 {R : Type} (k : Nat) : JS Try.prog 49 (R09_Writer_Gamma_a0 R k k) [0, 1] ⟨[0, 1], [], [4]⟩ (sel [1, 0] (Try.f35.body.getD .skip)) :=
  piece_ok (nt := 49) (c := (sel [1, 0] (Try.f35.body.getD .skip))) (C := R09_Writer_Gamma_C R k) (an := An) (t := (.seq (.reg [0, 1, 15] []) (.cond (.seq (.reg [4] []) .leaf) .leaf))) (ic := R09_Writer_Gamma_i0) (R09_Writer_Gamma_S R k) (R09_Writer_Gamma_J R k) (by kernel_rfl) (And.intro True.intro (And.intro (And.intro True.intro True.intro) True.intro)) (R09_Writer_Gamma_a0 R k k)
    (fun vals H K r h => by
      unfold R09_Writer_Gamma_a0 R09_Writer_Gamma_aa0 at h
      split at h <;> first | (cases h; done) | exact Eq.trans (R09_Writer_Gamma_e0 (R09_Writer_Bits k) (R09_Writer_Gamma_p0 k) (R09_Writer_Gamma_p1 k) (R09_Writer_Gamma_l2 k) (R09_Writer_Gamma_l3 k) k _ _ H K) h)
def R09_Writer_Gamma_ca {R : Type} (f : Option Addr → Int → Heap → (Int → Heap → Option R) → Option R) (args : List Value) (H : Heap) (K : Value → Heap → Option R) : Option R :=
  match args with
  | [.pointer p283, .int .i64 n284] => f p283 n284 H (fun n1014 H => K (.int .i64 n1014) H)
  | _ => none
def R09_Writer_Gamma_c (R : Type) (k : Nat) (args : List Value) (H : Heap) (K : Value → Heap → Option R) : Option R := R09_Writer_Gamma_ca (R09_Writer_Gamma k) args H K
theorem R09_Writer_Gamma_e {R : Type} (R09_Writer_Bits : Option Addr → Int → Int → Heap → (Int → Heap → Option R) → Option R) (R09_Writer_Gamma_p0 : Option Addr → Int → Heap → (Option Addr → Int → Option R) → (Int → Option R) → Option R) (R09_Writer_Gamma_p1 : Option Addr → Int → (Option Addr → Int → Option R) → (Int → Option R) → Option R) (R09_Writer_Gamma_l2 : (Option Addr → Int → Int → Option R) → Nat → Option Addr → Int → Int → Option R) (R09_Writer_Gamma_l3 : (Option Addr → Int → Int → Heap → Option R) → Nat → Option Addr → Int → Int → Int → Heap → Option R) (k : Nat) (p283 : Option Addr) (n284 : Int) (H : Heap) (K : Value → Heap → Option R) : evF (R09_Writer_Gamma_Ct R09_Writer_Bits) (R09_Writer_Gamma_Jt k R09_Writer_Gamma_p0 R09_Writer_Gamma_p1 R09_Writer_Gamma_l2 R09_Writer_Gamma_l3) R09_Writer_Gamma_f [.pointer p283, .int .i64 n284] H K = R09_Writer_Gamma_b R09_Writer_Gamma_p0 R09_Writer_Gamma_p1 R09_Writer_Gamma_l2 R09_Writer_Gamma_l3 R09_Writer_Bits k p283 n284 H (fun n1014 H => K (.int .i64 n1014) H) := by kernel_rfl
theorem R09_Writer_Gamma_cs (R : Type) (k : Nat) : ∀ args H K r, R09_Writer_Gamma_c R k args H K = some r → ∃ v H', Tri Try.prog 35 args H v H' ∧ K v H' = some r := by
  intro args H K r h
  unfold R09_Writer_Gamma_c R09_Writer_Gamma_ca at h
  split at h
  · exact evF_ok (C := R09_Writer_Gamma_C R k) (an := An) (t := R09_Writer_Gamma_at) (fn := Try.f35) (c := (Try.f35.body.getD .skip)) (ifn := R09_Writer_Gamma_f) (R09_Writer_Gamma_S R k) (R09_Writer_Gamma_J R k) Try.func35 (by kernel_rfl) (by kernel_rfl) (And.intro True.intro (And.intro (R09_Writer_Gamma_j0 k) (And.intro (R09_Writer_Gamma_j1 k) (And.intro True.intro (And.intro (R09_Writer_Gamma_j2 k) (And.intro (And.intro True.intro (R09_Writer_Gamma_j3 k)) (And.intro True.intro True.intro))))))) rfl (Eq.trans (R09_Writer_Gamma_e (R09_Writer_Bits k) (R09_Writer_Gamma_p0 k) (R09_Writer_Gamma_p1 k) (R09_Writer_Gamma_l2 k) (R09_Writer_Gamma_l3 k) k _ _ H K) h)
  · cases h
/-! ### R09_Writer_Unary: function 36 -/
def R09_Writer_Unary_p0_b {R : Type} (k : Nat) (p348 : Option Addr) (n349 : Int) (H : Heap) (KN : Option Addr → Int → Option R) (KR : Int → Option R) : Option R :=
bif p348.isNone then (KR 6)
 else (hnil p348 fun p350 =>
hfad 0 p350 fun p351 =>
ldB H p351 fun t352 =>
bif (!t352) then (KR 6)
 else (KN p348 n349))
def R09_Writer_Unary_p0 {R : Type} (k : Nat) (p348 : Option Addr) (n349 : Int) (H : Heap) (KN : Option Addr → Int → Option R) (KR : Int → Option R) : Option R := R09_Writer_Unary_p0_b k p348 n349 H KN KR

def R09_Writer_Unary_p1_b {R : Type} (k : Nat) (p358 : Option Addr) (n359 : Int) (KN : Option Addr → Int → Option R) (KR : Int → Option R) : Option R :=
bif decide (n359 < 0) then (KR 1)
 else (bif decide (n359 > 65535) then (KR 1)
 else (KN p358 n359))
def R09_Writer_Unary_p1 {R : Type} (k : Nat) (p358 : Option Addr) (n359 : Int) (KN : Option Addr → Int → Option R) (KR : Int → Option R) : Option R := R09_Writer_Unary_p1_b k p358 n359 KN KR

def R09_Writer_Unary_l2_b {R : Type} (rec : Option Addr → Int → Int → Heap → Option R) (KE0 : Option Addr → Heap → Option R) (k : Nat) (p365 : Option Addr) (n366 : Int) (n367 : Int) (H : Heap) : Option R :=
bif decide (n367 < n366) then (hnil p365 fun p368 =>
hfad 1 p368 fun p369 =>
ldL H p369 fun q370 l371 c372 =>
hal H [.int .i64 1] fun p373 H374 =>
happS 1 8 H374 q370 l371 c372 p373 1 fun q375 l376 c377 H378 =>
hnil p365 fun p379 =>
hfad 1 p379 fun p380 =>
hst1 H378 p380 (.slice q375 l376 c377) fun H381 =>
rec p365 n366 (IntKind.wrap .i64 (n367 + 1)) H381)
 else (KE0 p365 H)
def R09_Writer_Unary_l2 {R : Type} (k : Nat) (KE0 : Option Addr → Heap → Option R) : Nat → Option Addr → Int → Int → Heap → Option R
  | 0, _, _, _, _ => none
  | n + 1, p365, n366, n367, H => R09_Writer_Unary_l2_b (R09_Writer_Unary_l2 k KE0 n) KE0 k p365 n366 n367 H

def R09_Writer_Unary_b {R : Type} (R09_Writer_Unary_p0 : Option Addr → Int → Heap → (Option Addr → Int → Option R) → (Int → Option R) → Option R) (R09_Writer_Unary_p1 : Option Addr → Int → (Option Addr → Int → Option R) → (Int → Option R) → Option R) (R09_Writer_Unary_l2 : (Option Addr → Heap → Option R) → Nat → Option Addr → Int → Int → Heap → Option R) (k : Nat) (p346 : Option Addr) (n347 : Int) (H : Heap) (K : Int → Heap → Option R) : Option R :=
R09_Writer_Unary_p0 p346 n347 H (fun p356 n357 =>
R09_Writer_Unary_p1 p356 n357 (fun p363 n364 =>
R09_Writer_Unary_l2 (fun p383 H384 =>
hnil p383 fun p385 =>
hfad 1 p385 fun p386 =>
ldL H384 p386 fun q387 l388 c389 =>
hal H384 [.int .i64 0] fun p390 H391 =>
happS 1 8 H391 q387 l388 c389 p390 1 fun q392 l393 c394 H395 =>
hnil p383 fun p396 =>
hfad 1 p396 fun p397 =>
hst1 H395 p397 (.slice q392 l393 c394) fun H398 =>
K 0 H398) k p363 n364 0 H) (fun n399 =>
K n399 H)) (fun n400 =>
K n400 H)

def R09_Writer_Unary {R : Type} (k : Nat) (p346 : Option Addr) (n347 : Int) (H : Heap) (K : Int → Heap → Option R) : Option R := R09_Writer_Unary_b (R09_Writer_Unary_p0 k) (R09_Writer_Unary_p1 k) (R09_Writer_Unary_l2 k) k p346 n347 H K

def R09_Writer_Unary_Ct {R : Type} : Tab R := fun _ _ _ _ => none
def R09_Writer_Unary_C (R : Type) (k : Nat) : Tab R := R09_Writer_Unary_Ct
theorem R09_Writer_Unary_S (R : Type) (k : Nat) : CSound Try.prog (R09_Writer_Unary_C R k) := csound_nil
def R09_Writer_Unary_aa0 {R : Type} (f : Option Addr → Int → Heap → (Option Addr → Int → Option R) → (Int → Option R) → Option R) (n : Nat) (vals : List Value) (H : Heap) (K : Xit → Env → Heap → Option R) : Option R :=
  match vals with
  | [.pointer p348, .int .i64 n349] => f p348 n349 H (fun p1015 n1016 => K .normal [(0, .pointer p1015), (1, .int .i64 n1016)] H) (fun n1017 => K .ret [(4, .int .i64 n1017)] H)
  | _ => none
def R09_Writer_Unary_a0 (R : Type) (k n : Nat) (vals : List Value) (H : Heap) (K : Xit → Env → Heap → Option R) : Option R := R09_Writer_Unary_aa0 (R09_Writer_Unary_p0 k) n vals H K
def R09_Writer_Unary_aa1 {R : Type} (f : Option Addr → Int → (Option Addr → Int → Option R) → (Int → Option R) → Option R) (n : Nat) (vals : List Value) (H : Heap) (K : Xit → Env → Heap → Option R) : Option R :=
  match vals with
  | [.pointer p358, .int .i64 n359] => f p358 n359 (fun p1018 n1019 => K .normal [(0, .pointer p1018), (1, .int .i64 n1019)] H) (fun n1020 => K .ret [(4, .int .i64 n1020)] H)
  | _ => none
def R09_Writer_Unary_a1 (R : Type) (k n : Nat) (vals : List Value) (H : Heap) (K : Xit → Env → Heap → Option R) : Option R := R09_Writer_Unary_aa1 (R09_Writer_Unary_p1 k) n vals H K
def R09_Writer_Unary_aa2 {R : Type} (f : (Option Addr → Heap → Option R) → Nat → Option Addr → Int → Int → Heap → Option R) (n : Nat) (vals : List Value) (H : Heap) (K : Xit → Env → Heap → Option R) : Option R :=
  match vals with
  | [.pointer p365, .int .i64 n366, .int .i64 n367] => f (fun p1021 H => K (.exit 0) [(0, .pointer p1021)] H) n p365 n366 n367 H
  | _ => none
def R09_Writer_Unary_a2 (R : Type) (k n : Nat) (vals : List Value) (H : Heap) (K : Xit → Env → Heap → Option R) : Option R := R09_Writer_Unary_aa2 (R09_Writer_Unary_l2 k) n vals H K
def R09_Writer_Unary_Jt {R : Type} (k : Nat) (R09_Writer_Unary_p0 : Option Addr → Int → Heap → (Option Addr → Int → Option R) → (Int → Option R) → Option R) (R09_Writer_Unary_p1 : Option Addr → Int → (Option Addr → Int → Option R) → (Int → Option R) → Option R) (R09_Writer_Unary_l2 : (Option Addr → Heap → Option R) → Nat → Option Addr → Int → Int → Heap → Option R) : JTab R := tcons 0 (R09_Writer_Unary_aa0 R09_Writer_Unary_p0 k) <| tcons 1 (R09_Writer_Unary_aa1 R09_Writer_Unary_p1 k) <| tcons 2 (R09_Writer_Unary_aa2 R09_Writer_Unary_l2 k) <| fun _ _ _ _ => none
def R09_Writer_Unary_J (R : Type) (k : Nat) : JTab R := R09_Writer_Unary_Jt k (R09_Writer_Unary_p0 k) (R09_Writer_Unary_p1 k) (R09_Writer_Unary_l2 k)
def R09_Writer_Unary_at : AT := (.seq (.reg [0, 1] []) (.seq (.opq 0 [0, 1] ⟨[0, 1], [], [4]⟩ (.seq (.reg [0, 1, 14] []) (.cond (.seq (.reg [4] []) .leaf) .leaf))) (.seq (.opq 1 [0, 1] ⟨[0, 1], [], [4]⟩ (.seq (.reg [0, 1, 20] []) (.cond (.seq (.reg [4] []) .leaf) .leaf))) (.seq (.seq (.reg [0, 1, 5] []) (.node (.opq 2 [0, 1, 5] ⟨[], [(0, [0])], []⟩ (.node (.seq (.seq (.reg [0, 1, 5, 23] []) (.cond .leaf .leaf)) (.seq (.node (.reg [0, 1, 5] [])) (.reg [0, 1, 5] []))))))) (.seq (.reg [] []) (.seq (.reg [4] []) .leaf))))))
def R09_Writer_Unary_i2 : IC := (.seq (.seq (.reg [⟨some 21, .mov (.t 5), none⟩,
 ⟨some 22, .mov (.t 1), none⟩,
 ⟨some 23, .cmp .lss (.t 21) (.t 22), none⟩] [0, 1, 5, 23]) (.cond (.t 23) .skip (.exit 0))) (.seq (.block 1 (.reg [⟨some 26, .mov (.t 0), none⟩,
 ⟨some 27, .mov (.t 0), none⟩,
 ⟨some 28, .nilc (.t 27), none⟩,
 ⟨some 29, .fad 1 (.t 28), none⟩,
 ⟨some 30, .ld (.sc .slc) (.t 29), none⟩,
 ⟨some 31, .bls 1 [.int .i64 0] [(0, 1, (.c (Go.Value.int Go.IntKind.i64 1)))], none⟩,
 ⟨some 32, .app [.int .i64 0] 8 (.t 30) (.t 31), none⟩,
 ⟨some 33, .nilc (.t 26), none⟩,
 ⟨some 34, .fad 1 (.t 33), none⟩,
 ⟨none, .st 1 (.t 34) (.t 32), none⟩] [0, 1, 5])) (.reg [⟨some 24, .mov (.t 5), none⟩,
 ⟨some 25, .bin .add .i64 (.t 24) (.c (Go.Value.int Go.IntKind.i64 1)), none⟩,
 ⟨some 5, .mov (.t 25), none⟩] [0, 1, 5])))
def R09_Writer_Unary_i1 : IC := (.seq (.reg [⟨some 15, .mov (.t 1), none⟩,
 ⟨some 16, .cmp .lss (.t 15) (.c (Go.Value.int Go.IntKind.i64 0)), none⟩,
 ⟨some 17, .mov (.t 16), none⟩,
 ⟨some 18, .mov (.t 1), some (17, false)⟩,
 ⟨some 19, .cmp .gtr (.t 18) (.c (Go.Value.int Go.IntKind.i64 65535)), some (17, false)⟩,
 ⟨some 20, .pick (.t 17) (.c (Go.Value.bool true)) (.t 19), none⟩] [0, 1, 20]) (.cond (.t 20) (.seq (.reg [⟨some 4, .mov (.c (Go.Value.int Go.IntKind.i64 1)), none⟩] [4]) .ret) .skip))
def R09_Writer_Unary_i0 : IC := (.seq (.reg [⟨some 6, .mov (.t 0), none⟩,
 ⟨some 7, .eqnil (.t 6) false 0, none⟩,
 ⟨some 8, .mov (.t 7), none⟩,
 ⟨some 9, .mov (.t 0), some (8, false)⟩,
 ⟨some 10, .nilc (.t 9), some (8, false)⟩,
 ⟨some 11, .fad 0 (.t 10), some (8, false)⟩,
 ⟨some 12, .ld (.sc .bool) (.t 11), some (8, false)⟩,
 ⟨some 13, .lnot (.t 12), some (8, false)⟩,
 ⟨some 14, .pick (.t 8) (.c (Go.Value.bool true)) (.t 13), none⟩] [0, 1, 14]) (.cond (.t 14) (.seq (.reg [⟨some 4, .mov (.c (Go.Value.int Go.IntKind.i64 6)), none⟩] [4]) .ret) .skip))
def R09_Writer_Unary_f : IFn := ⟨44, [.t 4], (.seq (.reg [⟨some 4, .mov (.c (Go.Value.int Go.IntKind.i64 0)), none⟩] [0, 1]) (.seq (.opq 0 [0, 1] R09_Writer_Unary_i0) (.seq (.opq 1 [0, 1] R09_Writer_Unary_i1) (.seq (.seq (.reg [⟨some 5, .mov (.c (Go.Value.int Go.IntKind.i64 0)), none⟩] [0, 1, 5]) (.block 0 (.opq 2 [0, 1, 5] (.loop R09_Writer_Unary_i2)))) (.seq (.reg [⟨some 35, .mov (.t 0), none⟩,
 ⟨some 36, .mov (.t 0), none⟩,
 ⟨some 37, .nilc (.t 36), none⟩,
 ⟨some 38, .fad 1 (.t 37), none⟩,
 ⟨some 39, .ld (.sc .slc) (.t 38), none⟩,
 ⟨some 40, .bls 1 [.int .i64 0] [(0, 1, (.c (Go.Value.int Go.IntKind.i64 0)))], none⟩,
 ⟨some 41, .app [.int .i64 0] 8 (.t 39) (.t 40), none⟩,
 ⟨some 42, .nilc (.t 35), none⟩,
 ⟨some 43, .fad 1 (.t 42), none⟩,
 ⟨none, .st 1 (.t 43) (.t 41), none⟩] []) (.seq (.reg [⟨some 4, .mov (.c (Go.Value.int Go.IntKind.i64 0)), none⟩] [4]) .ret))))))⟩
theorem R09_Writer_Unary_e2 {R : Type} (R09_Writer_Unary_p0 : Option Addr → Int → Heap → (Option Addr → Int → Option R) → (Int → Option R) → Option R) (R09_Writer_Unary_p1 : Option Addr → Int → (Option Addr → Int → Option R) → (Int → Option R) → Option R) (R09_Writer_Unary_l2 : (Option Addr → Heap → Option R) → Nat → Option Addr → Int → Int → Heap → Option R) (k n : Nat) (p365 : Option Addr) (n366 : Int) (n367 : Int) (H : Heap) (K : Xit → Env → Heap → Option R) : evJ (R09_Writer_Unary_Ct) (R09_Writer_Unary_Jt k R09_Writer_Unary_p0 R09_Writer_Unary_p1 R09_Writer_Unary_l2) R09_Writer_Unary_i2 (List.zip [0, 1, 5] [.pointer p365, .int .i64 n366, .int .i64 n367]) H (fun x e' H' => match x with | .normal => R09_Writer_Unary_aa2 R09_Writer_Unary_l2 n ((clean e' [0, 1, 5]).map (·.2)) H' K | x => K x (clean e' ((⟨[], [(0, [0])], []⟩ : Out).of x)) H') = R09_Writer_Unary_l2_b (R09_Writer_Unary_l2 (fun p1021 H => K (.exit 0) [(0, .pointer p1021)] H) n) (fun p1021 H => K (.exit 0) [(0, .pointer p1021)] H) k p365 n366 n367 H := by kernel_rfl
theorem R09_Writer_Unary_j2 {R : Type} (k : Nat) : JS Try.prog 44 (R09_Writer_Unary_a2 R k k) [0, 1, 5] ⟨[], [(0, [0])], []⟩ (.loop (sel [1, 1, 1, 0, 1, 0, 0] (Try.f36.body.getD .skip))) :=
  loop_ok (nt := 44) (c := (sel [1, 1, 1, 0, 1, 0, 0] (Try.f36.body.getD .skip))) (C := R09_Writer_Unary_C R k) (an := An) (t := (.seq (.seq (.reg [0, 1, 5, 23] []) (.cond .leaf .leaf)) (.seq (.node (.reg [0, 1, 5] [])) (.reg [0, 1, 5] [])))) (ic := R09_Writer_Unary_i2) (R09_Writer_Unary_S R k) (R09_Writer_Unary_J R k) (by kernel_rfl) (And.intro (And.intro True.intro (And.intro True.intro True.intro)) (And.intro True.intro True.intro)) (R09_Writer_Unary_a2 R k) (fun vals H K => by unfold R09_Writer_Unary_a2 R09_Writer_Unary_aa2; split <;> rfl)
    (fun n vals H K r h => by
      unfold R09_Writer_Unary_a2 R09_Writer_Unary_aa2 at h
      split at h <;> first | (cases h; done) | exact Eq.trans (R09_Writer_Unary_e2 (R09_Writer_Unary_p0 k) (R09_Writer_Unary_p1 k) (R09_Writer_Unary_l2 k) k n _ _ _ H K) h) k
theorem R09_Writer_Unary_e1 {R : Type} (R09_Writer_Unary_p0 : Option Addr → Int → Heap → (Option Addr → Int → Option R) → (Int → Option R) → Option R) (R09_Writer_Unary_p1 : Option Addr → Int → (Option Addr → Int → Option R) → (Int → Option R) → Option R) (R09_Writer_Unary_l2 : (Option Addr → Heap → Option R) → Nat → Option Addr → Int → Int → Heap → Option R) (k : Nat) (p358 : Option Addr) (n359 : Int) (H : Heap) (K : Xit → Env → Heap → Option R) : evJ (R09_Writer_Unary_Ct) (R09_Writer_Unary_Jt k R09_Writer_Unary_p0 R09_Writer_Unary_p1 R09_Writer_Unary_l2) R09_Writer_Unary_i1 (List.zip [0, 1] [.pointer p358, .int .i64 n359]) H (fun x e' H' => K x (clean e' ((⟨[0, 1], [], [4]⟩ : Out).of x)) H') = R09_Writer_Unary_p1_b k p358 n359 (fun p1018 n1019 => K .normal [(0, .pointer p1018), (1, .int .i64 n1019)] H) (fun n1020 => K .ret [(4, .int .i64 n1020)] H) := by kernel_rfl
theorem R09_Writer_Unary_j1 {R : Type} (k : Nat) : JS Try.prog 44 (R09_Writer_Unary_a1 R k k) [0, 1] ⟨[0, 1], [], [4]⟩ (sel [1, 1, 0] (Try.f36.body.getD .skip)) :=
  piece_ok (nt := 44) (c := (sel [1, 1, 0] (Try.f36.body.getD .skip))) (C := R09_Writer_Unary_C R k) (an := An) (t := (.seq (.reg [0, 1, 20] []) (.cond (.seq (.reg [4] []) .leaf) .leaf))) (ic := R09_Writer_Unary_i1) (R09_Writer_Unary_S R k) (R09_Writer_Unary_J R k) (by kernel_rfl) (And.intro True.intro (And.intro (And.intro True.intro True.intro) True.intro)) (R09_Writer_Unary_a1 R k k)
    (fun vals H K r h => by
      unfold R09_Writer_Unary_a1 R09_Writer_Unary_aa1 at h
      split at h <;> first | (cases h; done) | exact Eq.trans (R09_Writer_Unary_e1 (R09_Writer_Unary_p0 k) (R09_Writer_Unary_p1 k) (R09_Writer_Unary_l2 k) k _ _ H K) h)
theorem R09_Writer_Unary_e0 {R : Type} (R09_Writer_Unary_p0 : Option Addr → Int → Heap → (Option Addr → Int → Option R) → (Int → Option R) → Option R) (R09_Writer_Unary_p1 : Option Addr → Int → (Option Addr → Int → Option R) → (Int → Option R) → Option R) (R09_Writer_Unary_l2 : (Option Addr → Heap → Option R) → Nat → Option Addr → Int → Int → Heap → Option R) (k : Nat) (p348 : Option Addr) (n349 : Int) (H : Heap) (K : Xit → Env → Heap → Option R) : evJ (R09_Writer_Unary_Ct) (R09_Writer_Unary_Jt k R09_Writer_Unary_p0 R09_Writer_Unary_p1 R09_Writer_Unary_l2) R09_Writer_Unary_i0 (List.zip [0, 1] [.pointer p348, .int .i64 n349]) H (fun x e' H' => K x (clean e' ((⟨[0, 1], [], [4]⟩ : Out).of x)) H') = R09_Writer_Unary_p0_b k p348 n349 H (fun p1015 n1016 => K .normal [(0, .pointer p1015), (1, .int .i64 n1016)] H) (fun n1017 => K .ret [(4, .int .i64 n1017)] H) := by kernel_rfl
theorem R09_Writer_Unary_j0 {R : Type} (k : Nat) : JS Try.prog 44 (R09_Writer_Unary_a0 R k k) [0, 1] ⟨[0, 1], [], [4]⟩ (sel [1, 0] (Try.f36.body.getD .skip)) :=
  piece_ok (nt := 44) (c := (sel [1, 0] (Try.f36.body.getD .skip))) (C := R09_Writer_Unary_C R k) (an := An) (t := (.seq (.reg [0, 1, 14] []) (.cond (.seq (.reg [4] []) .leaf) .leaf))) (ic := R09_Writer_Unary_i0) (R09_Writer_Unary_S R k) (R09_Writer_Unary_J R k) (by kernel_rfl) (And.intro True.intro (And.intro (And.intro True.intro True.intro) True.intro)) (R09_Writer_Unary_a0 R k k)
    (fun vals H K r h => by
      unfold R09_Writer_Unary_a0 R09_Writer_Unary_aa0 at h
      split at h <;> first | (cases h; done) | exact Eq.trans (R09_Writer_Unary_e0 (R09_Writer_Unary_p0 k) (R09_Writer_Unary_p1 k) (R09_Writer_Unary_l2 k) k _ _ H K) h)
def R09_Writer_Unary_ca {R : Type} (f : Option Addr → Int → Heap → (Int → Heap → Option R) → Option R) (args : List Value) (H : Heap) (K : Value → Heap → Option R) : Option R :=
  match args with
  | [.pointer p346, .int .i64 n347] => f p346 n347 H (fun n1022 H => K (.int .i64 n1022) H)
  | _ => none
def R09_Writer_Unary_c (R : Type) (k : Nat) (args : List Value) (H : Heap) (K : Value → Heap → Option R) : Option R := R09_Writer_Unary_ca (R09_Writer_Unary k) args H K
theorem R09_Writer_Unary_e {R : Type} (R09_Writer_Unary_p0 : Option Addr → Int → Heap → (Option Addr → Int → Option R) → (Int → Option R) → Option R) (R09_Writer_Unary_p1 : Option Addr → Int → (Option Addr → Int → Option R) → (Int → Option R) → Option R) (R09_Writer_Unary_l2 : (Option Addr → Heap → Option R) → Nat → Option Addr → Int → Int → Heap → Option R) (k : Nat) (p346 : Option Addr) (n347 : Int) (H : Heap) (K : Value → Heap → Option R) : evF (R09_Writer_Unary_Ct) (R09_Writer_Unary_Jt k R09_Writer_Unary_p0 R09_Writer_Unary_p1 R09_Writer_Unary_l2) R09_Writer_Unary_f [.pointer p346, .int .i64 n347] H K = R09_Writer_Unary_b R09_Writer_Unary_p0 R09_Writer_Unary_p1 R09_Writer_Unary_l2 k p346 n347 H (fun n1022 H => K (.int .i64 n1022) H) := by kernel_rfl
theorem R09_Writer_Unary_cs (R : Type) (k : Nat) : ∀ args H K r, R09_Writer_Unary_c R k args H K = some r → ∃ v H', Tri Try.prog 36 args H v H' ∧ K v H' = some r := by
  intro args H K r h
  unfold R09_Writer_Unary_c R09_Writer_Unary_ca at h
  split at h
  · exact evF_ok (C := R09_Writer_Unary_C R k) (an := An) (t := R09_Writer_Unary_at) (fn := Try.f36) (c := (Try.f36.body.getD .skip)) (ifn := R09_Writer_Unary_f) (R09_Writer_Unary_S R k) (R09_Writer_Unary_J R k) Try.func36 (by kernel_rfl) (by kernel_rfl) (And.intro True.intro (And.intro (R09_Writer_Unary_j0 k) (And.intro (R09_Writer_Unary_j1 k) (And.intro (And.intro True.intro (R09_Writer_Unary_j2 k)) (And.intro True.intro (And.intro True.intro True.intro)))))) rfl (Eq.trans (R09_Writer_Unary_e (R09_Writer_Unary_p0 k) (R09_Writer_Unary_p1 k) (R09_Writer_Unary_l2 k) k _ _ H K) h)
  · cases h
/-! ### L_writeRef: function 15 -/
def L_writeRef_b {R : Type} (R09_Writer_Put : Option Addr → Int → Heap → (Int → Heap → Option R) → Option R) (R09_Writer_Bits : Option Addr → Int → Int → Heap → (Int → Heap → Option R) → Option R) (R09_Writer_Gamma : Option Addr → Int → Heap → (Int → Heap → Option R) → Option R) (R09_Writer_Unary : Option Addr → Int → Heap → (Int → Heap → Option R) → Option R) (k : Nat) (p177 : Option Addr) (n178 : Int) (n179 : Int) (n180 : Int) (H : Heap) (K : Int → Heap → Option R) : Option R :=
hal H [.int .i64 n178, .int .i64 n179, .int .i64 n180] fun p181 H182 =>
hfad 0 p181 fun p183 =>
ldI .i64 H182 p183 fun n184 =>
bif (n184 == 0) then (hfad 1 p181 fun p185 =>
ldI .i64 H182 p185 fun n186 =>
R09_Writer_Put p177 n186 H182 fun n187 H188 =>
K n187 H188)
 else (bif (n184 == 1) then (hfad 1 p181 fun p189 =>
ldI .i64 H182 p189 fun n190 =>
hfad 2 p181 fun p191 =>
ldI .i64 H182 p191 fun n192 =>
R09_Writer_Bits p177 n190 n192 H182 fun n193 H194 =>
K n193 H194)
 else (bif (n184 == 2) then (hfad 1 p181 fun p195 =>
ldI .i64 H182 p195 fun n196 =>
R09_Writer_Gamma p177 n196 H182 fun n197 H198 =>
K n197 H198)
 else (bif (n184 == 3) then (hfad 1 p181 fun p199 =>
ldI .i64 H182 p199 fun n200 =>
R09_Writer_Unary p177 n200 H182 fun n201 H202 =>
K n201 H202)
 else (K 0 H182))))

def L_writeRef {R : Type} (k : Nat) (p177 : Option Addr) (n178 : Int) (n179 : Int) (n180 : Int) (H : Heap) (K : Int → Heap → Option R) : Option R := L_writeRef_b (R09_Writer_Put k) (R09_Writer_Bits k) (R09_Writer_Gamma k) (R09_Writer_Unary k) k p177 n178 n179 n180 H K

def L_writeRef_Ct {R : Type} (R09_Writer_Put : Option Addr → Int → Heap → (Int → Heap → Option R) → Option R) (R09_Writer_Bits : Option Addr → Int → Int → Heap → (Int → Heap → Option R) → Option R) (R09_Writer_Gamma : Option Addr → Int → Heap → (Int → Heap → Option R) → Option R) (R09_Writer_Unary : Option Addr → Int → Heap → (Int → Heap → Option R) → Option R) : Tab R := tcons 33 (R09_Writer_Put_ca R09_Writer_Put) <| tcons 34 (R09_Writer_Bits_ca R09_Writer_Bits) <| tcons 35 (R09_Writer_Gamma_ca R09_Writer_Gamma) <| tcons 36 (R09_Writer_Unary_ca R09_Writer_Unary) <| fun _ _ _ _ => none
def L_writeRef_C (R : Type) (k : Nat) : Tab R := L_writeRef_Ct (R09_Writer_Put k) (R09_Writer_Bits k) (R09_Writer_Gamma k) (R09_Writer_Unary k)
theorem L_writeRef_S (R : Type) (k : Nat) : CSound Try.prog (L_writeRef_C R k) := csound_cons (R09_Writer_Put_cs R k) <| csound_cons (R09_Writer_Bits_cs R k) <| csound_cons (R09_Writer_Gamma_cs R k) <| csound_cons (R09_Writer_Unary_cs R k) <| csound_nil
def L_writeRef_Jt {R : Type} (k : Nat) : JTab R := fun _ _ _ _ => none
def L_writeRef_J (R : Type) (k : Nat) : JTab R := L_writeRef_Jt k
def L_writeRef_at : AT := (.seq (.reg [0, 3] []) (.seq (.seq (.reg [0, 3, 6] []) (.node (.seq (.reg [0, 3, 6, 7] []) (.cond (.seq (.reg [4] []) .leaf) (.seq (.reg [0, 3, 6, 13] []) (.cond (.seq (.reg [4] []) .leaf) (.seq (.reg [0, 3, 6, 21] []) (.cond (.seq (.reg [4] []) .leaf) (.seq (.reg [0, 3, 27] []) (.cond (.seq (.reg [4] []) .leaf) .leaf)))))))))) (.seq (.reg [4] []) .leaf)))
def L_writeRef_f : IFn := ⟨33, [.t 4], (.seq (.reg [⟨some 3, .box (.t 1), none⟩,
 ⟨some 4, .mov (.c (Go.Value.int Go.IntKind.i64 0)), none⟩] [0, 3]) (.seq (.seq (.reg [⟨some 5, .fad 0 (.t 3), none⟩,
 ⟨some 6, .ld (.sc (.int .i64)) (.t 5), none⟩] [0, 3, 6]) (.block 0 (.seq (.reg [⟨some 8, .cmp .eql (.t 6) (.c (Go.Value.int Go.IntKind.i64 0)), none⟩,
 ⟨some 7, .mov (.t 8), none⟩] [0, 3, 6, 7]) (.cond (.t 7) (.seq (.reg [⟨some 9, .mov (.t 0), none⟩,
 ⟨some 10, .fad 1 (.t 3), none⟩,
 ⟨some 11, .ld (.sc (.int .i64)) (.t 10), none⟩,
 ⟨some 12, .call 33 [(.t 9), (.t 11)] (.one (.sc (.int .i64))), none⟩,
 ⟨some 4, .mov (.t 12), none⟩] [4]) .ret) (.seq (.reg [⟨some 14, .cmp .eql (.t 6) (.c (Go.Value.int Go.IntKind.i64 1)), none⟩,
 ⟨some 13, .mov (.t 14), none⟩] [0, 3, 6, 13]) (.cond (.t 13) (.seq (.reg [⟨some 15, .mov (.t 0), none⟩,
 ⟨some 16, .fad 1 (.t 3), none⟩,
 ⟨some 17, .ld (.sc (.int .i64)) (.t 16), none⟩,
 ⟨some 18, .fad 2 (.t 3), none⟩,
 ⟨some 19, .ld (.sc (.int .i64)) (.t 18), none⟩,
 ⟨some 20, .call 34 [(.t 15), (.t 17), (.t 19)] (.one (.sc (.int .i64))), none⟩,
 ⟨some 4, .mov (.t 20), none⟩] [4]) .ret) (.seq (.reg [⟨some 22, .cmp .eql (.t 6) (.c (Go.Value.int Go.IntKind.i64 2)), none⟩,
 ⟨some 21, .mov (.t 22), none⟩] [0, 3, 6, 21]) (.cond (.t 21) (.seq (.reg [⟨some 23, .mov (.t 0), none⟩,
 ⟨some 24, .fad 1 (.t 3), none⟩,
 ⟨some 25, .ld (.sc (.int .i64)) (.t 24), none⟩,
 ⟨some 26, .call 35 [(.t 23), (.t 25)] (.one (.sc (.int .i64))), none⟩,
 ⟨some 4, .mov (.t 26), none⟩] [4]) .ret) (.seq (.reg [⟨some 28, .cmp .eql (.t 6) (.c (Go.Value.int Go.IntKind.i64 3)), none⟩,
 ⟨some 27, .mov (.t 28), none⟩] [0, 3, 27]) (.cond (.t 27) (.seq (.reg [⟨some 29, .mov (.t 0), none⟩,
 ⟨some 30, .fad 1 (.t 3), none⟩,
 ⟨some 31, .ld (.sc (.int .i64)) (.t 30), none⟩,
 ⟨some 32, .call 36 [(.t 29), (.t 31)] (.one (.sc (.int .i64))), none⟩,
 ⟨some 4, .mov (.t 32), none⟩] [4]) .ret) .skip)))))))))) (.seq (.reg [⟨some 4, .mov (.c (Go.Value.int Go.IntKind.i64 0)), none⟩] [4]) .ret)))⟩
def L_writeRef_ca {R : Type} (f : Option Addr → Int → Int → Int → Heap → (Int → Heap → Option R) → Option R) (args : List Value) (H : Heap) (K : Value → Heap → Option R) : Option R :=
  match args with
  | [.pointer p177, .agg ⟨[.int .i64 n178, .int .i64 n179, .int .i64 n180]⟩] => f p177 n178 n179 n180 H (fun n1023 H => K (.int .i64 n1023) H)
  | _ => none
def L_writeRef_c (R : Type) (k : Nat) (args : List Value) (H : Heap) (K : Value → Heap → Option R) : Option R := L_writeRef_ca (L_writeRef k) args H K
theorem L_writeRef_e {R : Type} (R09_Writer_Put : Option Addr → Int → Heap → (Int → Heap → Option R) → Option R) (R09_Writer_Bits : Option Addr → Int → Int → Heap → (Int → Heap → Option R) → Option R) (R09_Writer_Gamma : Option Addr → Int → Heap → (Int → Heap → Option R) → Option R) (R09_Writer_Unary : Option Addr → Int → Heap → (Int → Heap → Option R) → Option R) (k : Nat) (p177 : Option Addr) (n178 : Int) (n179 : Int) (n180 : Int) (H : Heap) (K : Value → Heap → Option R) : evF (L_writeRef_Ct R09_Writer_Put R09_Writer_Bits R09_Writer_Gamma R09_Writer_Unary) (L_writeRef_Jt k) L_writeRef_f [.pointer p177, .agg ⟨[.int .i64 n178, .int .i64 n179, .int .i64 n180]⟩] H K = L_writeRef_b R09_Writer_Put R09_Writer_Bits R09_Writer_Gamma R09_Writer_Unary k p177 n178 n179 n180 H (fun n1023 H => K (.int .i64 n1023) H) := by kernel_rfl
theorem L_writeRef_cs (R : Type) (k : Nat) : ∀ args H K r, L_writeRef_c R k args H K = some r → ∃ v H', Tri Try.prog 15 args H v H' ∧ K v H' = some r := by
  intro args H K r h
  unfold L_writeRef_c L_writeRef_ca at h
  split at h
  · exact evF_ok (C := L_writeRef_C R k) (an := An) (t := L_writeRef_at) (fn := Try.f15) (c := (Try.f15.body.getD .skip)) (ifn := L_writeRef_f) (L_writeRef_S R k) (L_writeRef_J R k) Try.func15 (by kernel_rfl) (by kernel_rfl) (And.intro True.intro (And.intro (And.intro True.intro (And.intro True.intro (And.intro (And.intro True.intro True.intro) (And.intro True.intro (And.intro (And.intro True.intro True.intro) (And.intro True.intro (And.intro (And.intro True.intro True.intro) (And.intro True.intro (And.intro (And.intro True.intro True.intro) True.intro))))))))) (And.intro True.intro True.intro))) rfl (Eq.trans (L_writeRef_e (R09_Writer_Put k) (R09_Writer_Bits k) (R09_Writer_Gamma k) (R09_Writer_Unary k) k _ _ _ _ H K) h)
  · cases h
/-! ### R09_Writer_Len: function 17 -/
def R09_Writer_Len_p0_b {R : Type} (k : Nat) (p208 : Option Addr) (H : Heap) (KN : Option Addr → Option R) (KR : Int → Option R) : Option R :=
bif p208.isNone then (KR 0)
 else (hnil p208 fun p209 =>
hfad 0 p209 fun p210 =>
ldB H p210 fun t211 =>
bif (!t211) then (KR 0)
 else (KN p208))
def R09_Writer_Len_p0 {R : Type} (k : Nat) (p208 : Option Addr) (H : Heap) (KN : Option Addr → Option R) (KR : Int → Option R) : Option R := R09_Writer_Len_p0_b k p208 H KN KR

def R09_Writer_Len_b {R : Type} (R09_Writer_Len_p0 : Option Addr → Heap → (Option Addr → Option R) → (Int → Option R) → Option R) (k : Nat) (p207 : Option Addr) (H : Heap) (K : Int → Option R) : Option R :=
R09_Writer_Len_p0 p207 H (fun p214 =>
hnil p214 fun p215 =>
hfad 1 p215 fun p216 =>
ldL H p216 fun q217 l218 c219 =>
K ((l218 : Nat) : Int)) (fun n220 =>
K n220)

def R09_Writer_Len {R : Type} (k : Nat) (p207 : Option Addr) (H : Heap) (K : Int → Option R) : Option R := R09_Writer_Len_b (R09_Writer_Len_p0 k) k p207 H K

def R09_Writer_Len_Ct {R : Type} : Tab R := fun _ _ _ _ => none
def R09_Writer_Len_C (R : Type) (k : Nat) : Tab R := R09_Writer_Len_Ct
theorem R09_Writer_Len_S (R : Type) (k : Nat) : CSound Try.prog (R09_Writer_Len_C R k) := csound_nil
def R09_Writer_Len_aa0 {R : Type} (f : Option Addr → Heap → (Option Addr → Option R) → (Int → Option R) → Option R) (n : Nat) (vals : List Value) (H : Heap) (K : Xit → Env → Heap → Option R) : Option R :=
  match vals with
  | [.pointer p208] => f p208 H (fun p1024 => K .normal [(0, .pointer p1024)] H) (fun n1025 => K .ret [(2, .int .i64 n1025)] H)
  | _ => none
def R09_Writer_Len_a0 (R : Type) (k n : Nat) (vals : List Value) (H : Heap) (K : Xit → Env → Heap → Option R) : Option R := R09_Writer_Len_aa0 (R09_Writer_Len_p0 k) n vals H K
def R09_Writer_Len_Jt {R : Type} (k : Nat) (R09_Writer_Len_p0 : Option Addr → Heap → (Option Addr → Option R) → (Int → Option R) → Option R) : JTab R := tcons 0 (R09_Writer_Len_aa0 R09_Writer_Len_p0 k) <| fun _ _ _ _ => none
def R09_Writer_Len_J (R : Type) (k : Nat) : JTab R := R09_Writer_Len_Jt k (R09_Writer_Len_p0 k)
def R09_Writer_Len_at : AT := (.seq (.reg [0] []) (.seq (.opq 0 [0] ⟨[0], [], [2]⟩ (.seq (.reg [0, 11] []) (.cond (.seq (.reg [2] []) .leaf) .leaf))) (.seq (.reg [2] []) .leaf)))
def R09_Writer_Len_i0 : IC := (.seq (.reg [⟨some 3, .mov (.t 0), none⟩,
 ⟨some 4, .eqnil (.t 3) false 0, none⟩,
 ⟨some 5, .mov (.t 4), none⟩,
 ⟨some 6, .mov (.t 0), some (5, false)⟩,
 ⟨some 7, .nilc (.t 6), some (5, false)⟩,
 ⟨some 8, .fad 0 (.t 7), some (5, false)⟩,
 ⟨some 9, .ld (.sc .bool) (.t 8), some (5, false)⟩,
 ⟨some 10, .lnot (.t 9), some (5, false)⟩,
 ⟨some 11, .pick (.t 5) (.c (Go.Value.bool true)) (.t 10), none⟩] [0, 11]) (.cond (.t 11) (.seq (.reg [⟨some 2, .mov (.c (Go.Value.int Go.IntKind.i64 0)), none⟩] [2]) .ret) .skip))
def R09_Writer_Len_f : IFn := ⟨17, [.t 2], (.seq (.reg [⟨some 2, .mov (.c (Go.Value.int Go.IntKind.i64 0)), none⟩] [0]) (.seq (.opq 0 [0] R09_Writer_Len_i0) (.seq (.reg [⟨some 12, .mov (.t 0), none⟩,
 ⟨some 13, .nilc (.t 12), none⟩,
 ⟨some 14, .fad 1 (.t 13), none⟩,
 ⟨some 15, .ld (.sc .slc) (.t 14), none⟩,
 ⟨some 16, .len false (.t 15), none⟩,
 ⟨some 2, .mov (.t 16), none⟩] [2]) .ret)))⟩
theorem R09_Writer_Len_e0 {R : Type} (R09_Writer_Len_p0 : Option Addr → Heap → (Option Addr → Option R) → (Int → Option R) → Option R) (k : Nat) (p208 : Option Addr) (H : Heap) (K : Xit → Env → Heap → Option R) : evJ (R09_Writer_Len_Ct) (R09_Writer_Len_Jt k R09_Writer_Len_p0) R09_Writer_Len_i0 (List.zip [0] [.pointer p208]) H (fun x e' H' => K x (clean e' ((⟨[0], [], [2]⟩ : Out).of x)) H') = R09_Writer_Len_p0_b k p208 H (fun p1024 => K .normal [(0, .pointer p1024)] H) (fun n1025 => K .ret [(2, .int .i64 n1025)] H) := by kernel_rfl
theorem R09_Writer_Len_j0 {R : Type} (k : Nat) : JS Try.prog 17 (R09_Writer_Len_a0 R k k) [0] ⟨[0], [], [2]⟩ (sel [1, 0] (Try.f17.body.getD .skip)) :=
  piece_ok (nt := 17) (c := (sel [1, 0] (Try.f17.body.getD .skip))) (C := R09_Writer_Len_C R k) (an := An) (t := (.seq (.reg [0, 11] []) (.cond (.seq (.reg [2] []) .leaf) .leaf))) (ic := R09_Writer_Len_i0) (R09_Writer_Len_S R k) (R09_Writer_Len_J R k) (by kernel_rfl) (And.intro True.intro (And.intro (And.intro True.intro True.intro) True.intro)) (R09_Writer_Len_a0 R k k)
    (fun vals H K r h => by
      unfold R09_Writer_Len_a0 R09_Writer_Len_aa0 at h
      split at h <;> first | (cases h; done) | exact Eq.trans (R09_Writer_Len_e0 (R09_Writer_Len_p0 k) k _ H K) h)
def R09_Writer_Len_ca {R : Type} (f : Option Addr → Heap → (Int → Option R) → Option R) (args : List Value) (H : Heap) (K : Value → Heap → Option R) : Option R :=
  match args with
  | [.pointer p207] => f p207 H (fun n1026 => K (.int .i64 n1026) H)
  | _ => none
def R09_Writer_Len_c (R : Type) (k : Nat) (args : List Value) (H : Heap) (K : Value → Heap → Option R) : Option R := R09_Writer_Len_ca (R09_Writer_Len k) args H K
theorem R09_Writer_Len_e {R : Type} (R09_Writer_Len_p0 : Option Addr → Heap → (Option Addr → Option R) → (Int → Option R) → Option R) (k : Nat) (p207 : Option Addr) (H : Heap) (K : Value → Heap → Option R) : evF (R09_Writer_Len_Ct) (R09_Writer_Len_Jt k R09_Writer_Len_p0) R09_Writer_Len_f [.pointer p207] H K = R09_Writer_Len_b R09_Writer_Len_p0 k p207 H (fun n1026 => K (.int .i64 n1026) H) := by kernel_rfl
theorem R09_Writer_Len_cs (R : Type) (k : Nat) : ∀ args H K r, R09_Writer_Len_c R k args H K = some r → ∃ v H', Tri Try.prog 17 args H v H' ∧ K v H' = some r := by
  intro args H K r h
  unfold R09_Writer_Len_c R09_Writer_Len_ca at h
  split at h
  · exact evF_ok (C := R09_Writer_Len_C R k) (an := An) (t := R09_Writer_Len_at) (fn := Try.f17) (c := (Try.f17.body.getD .skip)) (ifn := R09_Writer_Len_f) (R09_Writer_Len_S R k) (R09_Writer_Len_J R k) Try.func17 (by kernel_rfl) (by kernel_rfl) (And.intro True.intro (And.intro (R09_Writer_Len_j0 k) (And.intro True.intro True.intro))) rfl (Eq.trans (R09_Writer_Len_e (R09_Writer_Len_p0 k) k _ H K) h)
  · cases h
/-! ### R09_Writer_Bytes: function 20 -/
def R09_Writer_Bytes_p0_b {R : Type} (k : Nat) (p183 : Option Addr) (H : Heap) (KN : Option Addr → Option R) (KR : Option Addr → Nat → Nat → Option R) : Option R :=
bif p183.isNone then (KR none 0 0)
 else (hnil p183 fun p184 =>
hfad 0 p184 fun p185 =>
ldB H p185 fun t186 =>
bif (!t186) then (KR none 0 0)
 else (KN p183))
def R09_Writer_Bytes_p0 {R : Type} (k : Nat) (p183 : Option Addr) (H : Heap) (KN : Option Addr → Option R) (KR : Option Addr → Nat → Nat → Option R) : Option R := R09_Writer_Bytes_p0_b k p183 H KN KR

def R09_Writer_Bytes_p2_b {R : Type} (k : Nat) (p202 : Option Addr) (q203 : Option Addr) (l204 : Nat) (c205 : Nat) (n206 : Int) (n207 : Int) (H : Heap) (KN : Option Addr → Option Addr → Nat → Nat → Int → Int → Option R) : Option R :=
bif decide (((l204 : Nat) : Int) > 0) then (hidx q203 l204 (IntKind.wrap .i64 (((l204 : Nat) : Int) - 1)) 1 fun p208 =>
ldI .u8 H p208 fun n209 =>
bif (n209 == 255) then (KN p202 q203 l204 c205 n206 7)
 else (KN p202 q203 l204 c205 n206 n207))
 else (KN p202 q203 l204 c205 n206 n207)
def R09_Writer_Bytes_p2 {R : Type} (k : Nat) (p202 : Option Addr) (q203 : Option Addr) (l204 : Nat) (c205 : Nat) (n206 : Int) (n207 : Int) (H : Heap) (KN : Option Addr → Option Addr → Nat → Nat → Int → Int → Option R) : Option R := R09_Writer_Bytes_p2_b k p202 q203 l204 c205 n206 n207 H KN

def R09_Writer_Bytes_p4_b {R : Type} (k : Nat) (p230 : Option Addr) (q231 : Option Addr) (l232 : Nat) (c233 : Nat) (n234 : Int) (n235 : Int) (n236 : Int) (n237 : Int) (H : Heap) (KN : Option Addr → Option Addr → Nat → Nat → Int → Int → Int → Int → Option R) : Option R :=
hnil p230 fun p238 =>
hfad 1 p238 fun p239 =>
ldL H p239 fun q240 l241 c242 =>
bif decide (n234 < ((l241 : Nat) : Int)) then (hnil p230 fun p243 =>
hfad 1 p243 fun p244 =>
ldL H p244 fun q245 l246 c247 =>
hidx q245 l246 n234 1 fun p248 =>
ldI .i64 H p248 fun n249 =>
KN p230 q231 l232 c233 n234 n235 (IntKind.wrap .i64 (n236 + n249)) n237)
 else (KN p230 q231 l232 c233 n234 n235 n236 n237)
def R09_Writer_Bytes_p4 {R : Type} (k : Nat) (p230 : Option Addr) (q231 : Option Addr) (l232 : Nat) (c233 : Nat) (n234 : Int) (n235 : Int) (n236 : Int) (n237 : Int) (H : Heap) (KN : Option Addr → Option Addr → Nat → Nat → Int → Int → Int → Int → Option R) : Option R := R09_Writer_Bytes_p4_b k p230 q231 l232 c233 n234 n235 n236 n237 H KN

def R09_Writer_Bytes_l3_b {R : Type} (R09_Writer_Bytes_p4 : Option Addr → Option Addr → Nat → Nat → Int → Int → Int → Int → Heap → (Option Addr → Option Addr → Nat → Nat → Int → Int → Int → Int → Option R) → Option R) (rec : Option Addr → Option Addr → Nat → Nat → Int → Int → Int → Int → Heap → Option R) (KE2 : Option Addr → Option Addr → Nat → Nat → Int → Int → Option R) (k : Nat) (p222 : Option Addr) (q223 : Option Addr) (l224 : Nat) (c225 : Nat) (n226 : Int) (n227 : Int) (n228 : Int) (n229 : Int) (H : Heap) : Option R :=
bif decide (n229 < n227) then (R09_Writer_Bytes_p4 p222 q223 l224 c225 n226 n227 (IntKind.wrap .i64 (n228 * 2)) n229 H (fun p258 q259 l260 c261 n262 n263 n264 n265 =>
rec p258 q259 l260 c261 (IntKind.wrap .i64 (n262 + 1)) n263 n264 (IntKind.wrap .i64 (n265 + 1)) H))
 else (KE2 p222 q223 l224 c225 n226 n228)
def R09_Writer_Bytes_l3 {R : Type} (k : Nat) (KE2 : Option Addr → Option Addr → Nat → Nat → Int → Int → Option R) : Nat → Option Addr → Option Addr → Nat → Nat → Int → Int → Int → Int → Heap → Option R
  | 0, _, _, _, _, _, _, _, _, _ => none
  | n + 1, p222, q223, l224, c225, n226, n227, n228, n229, H => R09_Writer_Bytes_l3_b (R09_Writer_Bytes_p4 k) (R09_Writer_Bytes_l3 k KE2 n) KE2 k p222 q223 l224 c225 n226 n227 n228 n229 H

def R09_Writer_Bytes_l1_b {R : Type} (R09_Writer_Bytes_p2 : Option Addr → Option Addr → Nat → Nat → Int → Int → Heap → (Option Addr → Option Addr → Nat → Nat → Int → Int → Option R) → Option R) (R09_Writer_Bytes_l3 : (Option Addr → Option Addr → Nat → Nat → Int → Int → Option R) → Nat → Option Addr → Option Addr → Nat → Nat → Int → Int → Int → Int → Heap → Option R) (rec : Option Addr → Option Addr → Nat → Nat → Int → Heap → Option R) (KE0 : Option Addr → Nat → Nat → Heap → Option R) (k : Nat) (p192 : Option Addr) (q193 : Option Addr) (l194 : Nat) (c195 : Nat) (n196 : Int) (H : Heap) : Option R :=
hnil p192 fun p197 =>
hfad 1 p197 fun p198 =>
ldL H p198 fun q199 l200 c201 =>
bif decide (n196 < ((l200 : Nat) : Int)) then (R09_Writer_Bytes_p2 p192 q193 l194 c195 n196 8 H (fun p216 q217 l218 c219 n220 n221 =>
R09_Writer_Bytes_l3 (fun p272 q273 l274 c275 n276 n277 =>
hal H [.int .u8 (IntKind.wrap .u8 n277)] fun p278 H279 =>
happS 1 1 H279 q273 l274 c275 p278 1 fun q280 l281 c282 H283 =>
rec p272 q280 l281 c282 n276 H283) k p216 q217 l218 c219 n220 n221 0 0 H))
 else (KE0 q193 l194 c195 H)
def R09_Writer_Bytes_l1 {R : Type} (k : Nat) (KE0 : Option Addr → Nat → Nat → Heap → Option R) : Nat → Option Addr → Option Addr → Nat → Nat → Int → Heap → Option R
  | 0, _, _, _, _, _, _ => none
  | n + 1, p192, q193, l194, c195, n196, H => R09_Writer_Bytes_l1_b (R09_Writer_Bytes_p2 k) (R09_Writer_Bytes_l3 k) (R09_Writer_Bytes_l1 k KE0 n) KE0 k p192 q193 l194 c195 n196 H

def R09_Writer_Bytes_p5_b {R : Type} (k : Nat) (q291 : Option Addr) (l292 : Nat) (c293 : Nat) (H : Heap) (KN : Option Addr → Nat → Nat → Bool → Option R) : Option R :=
bif decide (((l292 : Nat) : Int) > 0) then (hidx q291 l292 (IntKind.wrap .i64 (((l292 : Nat) : Int) - 1)) 1 fun p294 =>
ldI .u8 H p294 fun n295 =>
KN q291 l292 c293 (n295 == 255))
 else (KN q291 l292 c293 false)
def R09_Writer_Bytes_p5 {R : Type} (k : Nat) (q291 : Option Addr) (l292 : Nat) (c293 : Nat) (H : Heap) (KN : Option Addr → Nat → Nat → Bool → Option R) : Option R := R09_Writer_Bytes_p5_b k q291 l292 c293 H KN

def R09_Writer_Bytes_b {R : Type} (R09_Writer_Bytes_p0 : Option Addr → Heap → (Option Addr → Option R) → (Option Addr → Nat → Nat → Option R) → Option R) (R09_Writer_Bytes_l1 : (Option Addr → Nat → Nat → Heap → Option R) → Nat → Option Addr → Option Addr → Nat → Nat → Int → Heap → Option R) (R09_Writer_Bytes_p5 : Option Addr → Nat → Nat → Heap → (Option Addr → Nat → Nat → Bool → Option R) → Option R) (k : Nat) (p182 : Option Addr) (H : Heap) (K : Option Addr → Nat → Nat → Heap → Option R) : Option R :=
R09_Writer_Bytes_p0 p182 H (fun p191 =>
R09_Writer_Bytes_l1 (fun q287 l288 c289 H290 =>
R09_Writer_Bytes_p5 q287 l288 c289 H290 (fun q300 l301 c302 t303 =>
bif t303 then (hal H290 [.int .u8 0] fun p304 H305 =>
happS 1 1 H305 q300 l301 c302 p304 1 fun q306 l307 c308 H309 =>
K q306 l307 c308 H309)
 else (K q300 l301 c302 H290))) k p191 none 0 0 0 H) (fun q310 l311 c312 =>
K q310 l311 c312 H)

def R09_Writer_Bytes {R : Type} (k : Nat) (p182 : Option Addr) (H : Heap) (K : Option Addr → Nat → Nat → Heap → Option R) : Option R := R09_Writer_Bytes_b (R09_Writer_Bytes_p0 k) (R09_Writer_Bytes_l1 k) (R09_Writer_Bytes_p5 k) k p182 H K

def R09_Writer_Bytes_Ct {R : Type} : Tab R := fun _ _ _ _ => none
def R09_Writer_Bytes_C (R : Type) (k : Nat) : Tab R := R09_Writer_Bytes_Ct
theorem R09_Writer_Bytes_S (R : Type) (k : Nat) : CSound Try.prog (R09_Writer_Bytes_C R k) := csound_nil
def R09_Writer_Bytes_aa0 {R : Type} (f : Option Addr → Heap → (Option Addr → Option R) → (Option Addr → Nat → Nat → Option R) → Option R) (n : Nat) (vals : List Value) (H : Heap) (K : Xit → Env → Heap → Option R) : Option R :=
  match vals with
  | [.pointer p183] => f p183 H (fun p1027 => K .normal [(0, .pointer p1027)] H) (fun q1028 l1029 c1030 => K .ret [(2, .slice q1028 l1029 c1030)] H)
  | _ => none
def R09_Writer_Bytes_a0 (R : Type) (k n : Nat) (vals : List Value) (H : Heap) (K : Xit → Env → Heap → Option R) : Option R := R09_Writer_Bytes_aa0 (R09_Writer_Bytes_p0 k) n vals H K
def R09_Writer_Bytes_aa1 {R : Type} (f : (Option Addr → Nat → Nat → Heap → Option R) → Nat → Option Addr → Option Addr → Nat → Nat → Int → Heap → Option R) (n : Nat) (vals : List Value) (H : Heap) (K : Xit → Env → Heap → Option R) : Option R :=
  match vals with
  | [.pointer p192, .slice q193 l194 c195, .int .i64 n196] => f (fun q1031 l1032 c1033 H => K (.exit 0) [(3, .slice q1031 l1032 c1033)] H) n p192 q193 l194 c195 n196 H
  | _ => none
def R09_Writer_Bytes_a1 (R : Type) (k n : Nat) (vals : List Value) (H : Heap) (K : Xit → Env → Heap → Option R) : Option R := R09_Writer_Bytes_aa1 (R09_Writer_Bytes_l1 k) n vals H K
def R09_Writer_Bytes_aa2 {R : Type} (f : Option Addr → Option Addr → Nat → Nat → Int → Int → Heap → (Option Addr → Option Addr → Nat → Nat → Int → Int → Option R) → Option R) (n : Nat) (vals : List Value) (H : Heap) (K : Xit → Env → Heap → Option R) : Option R :=
  match vals with
  | [.pointer p202, .slice q203 l204 c205, .int .i64 n206, .int .i64 n207] => f p202 q203 l204 c205 n206 n207 H (fun p1034 q1035 l1036 c1037 n1038 n1039 => K .normal [(0, .pointer p1034), (3, .slice q1035 l1036 c1037), (4, .int .i64 n1038), (5, .int .i64 n1039)] H)
  | _ => none
def R09_Writer_Bytes_a2 (R : Type) (k n : Nat) (vals : List Value) (H : Heap) (K : Xit → Env → Heap → Option R) : Option R := R09_Writer_Bytes_aa2 (R09_Writer_Bytes_p2 k) n vals H K
def R09_Writer_Bytes_aa3 {R : Type} (f : (Option Addr → Option Addr → Nat → Nat → Int → Int → Option R) → Nat → Option Addr → Option Addr → Nat → Nat → Int → Int → Int → Int → Heap → Option R) (n : Nat) (vals : List Value) (H : Heap) (K : Xit → Env → Heap → Option R) : Option R :=
  match vals with
  | [.pointer p222, .slice q223 l224 c225, .int .i64 n226, .int .i64 n227, .int .i64 n228, .int .i64 n229] => f (fun p1040 q1041 l1042 c1043 n1044 n1045 => K (.exit 2) [(0, .pointer p1040), (3, .slice q1041 l1042 c1043), (4, .int .i64 n1044), (6, .int .i64 n1045)] H) n p222 q223 l224 c225 n226 n227 n228 n229 H
  | _ => none
def R09_Writer_Bytes_a3 (R : Type) (k n : Nat) (vals : List Value) (H : Heap) (K : Xit → Env → Heap → Option R) : Option R := R09_Writer_Bytes_aa3 (R09_Writer_Bytes_l3 k) n vals H K
def R09_Writer_Bytes_aa4 {R : Type} (f : Option Addr → Option Addr → Nat → Nat → Int → Int → Int → Int → Heap → (Option Addr → Option Addr → Nat → Nat → Int → Int → Int → Int → Option R) → Option R) (n : Nat) (vals : List Value) (H : Heap) (K : Xit → Env → Heap → Option R) : Option R :=
  match vals with
  | [.pointer p230, .slice q231 l232 c233, .int .i64 n234, .int .i64 n235, .int .i64 n236, .int .i64 n237] => f p230 q231 l232 c233 n234 n235 n236 n237 H (fun p1046 q1047 l1048 c1049 n1050 n1051 n1052 n1053 => K .normal [(0, .pointer p1046), (3, .slice q1047 l1048 c1049), (4, .int .i64 n1050), (5, .int .i64 n1051), (6, .int .i64 n1052), (7, .int .i64 n1053)] H)
  | _ => none
def R09_Writer_Bytes_a4 (R : Type) (k n : Nat) (vals : List Value) (H : Heap) (K : Xit → Env → Heap → Option R) : Option R := R09_Writer_Bytes_aa4 (R09_Writer_Bytes_p4 k) n vals H K
def R09_Writer_Bytes_aa5 {R : Type} (f : Option Addr → Nat → Nat → Heap → (Option Addr → Nat → Nat → Bool → Option R) → Option R) (n : Nat) (vals : List Value) (H : Heap) (K : Xit → Env → Heap → Option R) : Option R :=
  match vals with
  | [.slice q291 l292 c293] => f q291 l292 c293 H (fun q1054 l1055 c1056 t1057 => K .normal [(3, .slice q1054 l1055 c1056), (77, .bool t1057)] H)
  | _ => none
def R09_Writer_Bytes_a5 (R : Type) (k n : Nat) (vals : List Value) (H : Heap) (K : Xit → Env → Heap → Option R) : Option R := R09_Writer_Bytes_aa5 (R09_Writer_Bytes_p5 k) n vals H K
def R09_Writer_Bytes_Jt {R : Type} (k : Nat) (R09_Writer_Bytes_p0 : Option Addr → Heap → (Option Addr → Option R) → (Option Addr → Nat → Nat → Option R) → Option R) (R09_Writer_Bytes_l1 : (Option Addr → Nat → Nat → Heap → Option R) → Nat → Option Addr → Option Addr → Nat → Nat → Int → Heap → Option R) (R09_Writer_Bytes_p2 : Option Addr → Option Addr → Nat → Nat → Int → Int → Heap → (Option Addr → Option Addr → Nat → Nat → Int → Int → Option R) → Option R) (R09_Writer_Bytes_l3 : (Option Addr → Option Addr → Nat → Nat → Int → Int → Option R) → Nat → Option Addr → Option Addr → Nat → Nat → Int → Int → Int → Int → Heap → Option R) (R09_Writer_Bytes_p4 : Option Addr → Option Addr → Nat → Nat → Int → Int → Int → Int → Heap → (Option Addr → Option Addr → Nat → Nat → Int → Int → Int → Int → Option R) → Option R) (R09_Writer_Bytes_p5 : Option Addr → Nat → Nat → Heap → (Option Addr → Nat → Nat → Bool → Option R) → Option R) : JTab R := tcons 0 (R09_Writer_Bytes_aa0 R09_Writer_Bytes_p0 k) <| tcons 1 (R09_Writer_Bytes_aa1 R09_Writer_Bytes_l1 k) <| tcons 2 (R09_Writer_Bytes_aa2 R09_Writer_Bytes_p2 k) <| tcons 3 (R09_Writer_Bytes_aa3 R09_Writer_Bytes_l3 k) <| tcons 4 (R09_Writer_Bytes_aa4 R09_Writer_Bytes_p4 k) <| tcons 5 (R09_Writer_Bytes_aa5 R09_Writer_Bytes_p5 k) <| fun _ _ _ _ => none
def R09_Writer_Bytes_J (R : Type) (k : Nat) : JTab R := R09_Writer_Bytes_Jt k (R09_Writer_Bytes_p0 k) (R09_Writer_Bytes_l1 k) (R09_Writer_Bytes_p2 k) (R09_Writer_Bytes_l3 k) (R09_Writer_Bytes_p4 k) (R09_Writer_Bytes_p5 k)
def R09_Writer_Bytes_at : AT := (.seq (.reg [0] []) (.seq (.opq 0 [0] ⟨[0], [], [2]⟩ (.seq (.reg [0, 16] []) (.cond (.seq (.reg [2] []) .leaf) .leaf))) (.seq (.reg [0, 3] []) (.seq (.seq (.reg [0, 3, 4] []) (.node (.opq 1 [0, 3, 4] ⟨[], [(0, [3])], []⟩ (.node (.seq (.seq (.reg [0, 3, 4, 23] []) (.cond .leaf .leaf)) (.node (.seq (.reg [0, 3, 4, 5] []) (.seq (.opq 2 [0, 3, 4, 5] ⟨[0, 3, 4, 5], [], []⟩ (.seq (.reg [0, 3, 4, 5, 35] []) (.cond (.reg [0, 3, 4, 5] []) .leaf))) (.seq (.reg [0, 3, 4, 5, 6] []) (.seq (.seq (.reg [0, 3, 4, 5, 6, 7] []) (.node (.opq 3 [0, 3, 4, 5, 6, 7] ⟨[], [(2, [0, 3, 4, 6])], []⟩ (.node (.seq (.seq (.reg [0, 3, 4, 5, 6, 7, 38] []) (.cond .leaf .leaf)) (.seq (.node (.seq (.reg [0, 3, 4, 5, 6, 7] []) (.seq (.opq 4 [0, 3, 4, 5, 6, 7] ⟨[0, 3, 4, 5, 6, 7], [], []⟩ (.seq (.reg [0, 3, 4, 5, 6, 7, 49] []) (.cond (.reg [0, 3, 4, 5, 6, 7] []) .leaf))) (.reg [0, 3, 4, 5, 6, 7] [])))) (.reg [0, 3, 4, 5, 6, 7] []))))))) (.reg [0, 3, 4] []))))))))))) (.seq (.seq (.opq 5 [3] ⟨[3, 77], [], []⟩ (.reg [3, 77] [])) (.cond (.reg [3] []) .leaf)) (.seq (.reg [2] []) .leaf))))))
def R09_Writer_Bytes_i5 : IC := (.reg [⟨some 66, .mov (.t 3), none⟩,
 ⟨some 67, .len false (.t 66), none⟩,
 ⟨some 68, .cmp .gtr (.t 67) (.c (Go.Value.int Go.IntKind.i64 0)), none⟩,
 ⟨some 69, .mov (.t 68), none⟩,
 ⟨some 70, .mov (.t 3), some (69, true)⟩,
 ⟨some 71, .mov (.t 3), some (69, true)⟩,
 ⟨some 72, .len false (.t 71), some (69, true)⟩,
 ⟨some 73, .bin .sub .i64 (.t 72) (.c (Go.Value.int Go.IntKind.i64 1)), some (69, true)⟩,
 ⟨some 74, .ids 1 (.t 70) (.t 73), some (69, true)⟩,
 ⟨some 75, .ld (.sc (.int .u8)) (.t 74), some (69, true)⟩,
 ⟨some 76, .cmp .eql (.t 75) (.c (Go.Value.int Go.IntKind.u8 255)), some (69, true)⟩,
 ⟨some 77, .pick (.t 69) (.t 76) (.c (Go.Value.bool false)), none⟩] [3, 77])
def R09_Writer_Bytes_i4 : IC := (.seq (.reg [⟨some 43, .mov (.t 4), none⟩,
 ⟨some 44, .mov (.t 0), none⟩,
 ⟨some 45, .nilc (.t 44), none⟩,
 ⟨some 46, .fad 1 (.t 45), none⟩,
 ⟨some 47, .ld (.sc .slc) (.t 46), none⟩,
 ⟨some 48, .len false (.t 47), none⟩,
 ⟨some 49, .cmp .lss (.t 43) (.t 48), none⟩] [0, 3, 4, 5, 6, 7, 49]) (.cond (.t 49) (.reg [⟨some 50, .mov (.t 6), none⟩,
 ⟨some 51, .mov (.t 0), none⟩,
 ⟨some 52, .nilc (.t 51), none⟩,
 ⟨some 53, .fad 1 (.t 52), none⟩,
 ⟨some 54, .ld (.sc .slc) (.t 53), none⟩,
 ⟨some 55, .mov (.t 4), none⟩,
 ⟨some 56, .ids 1 (.t 54) (.t 55), none⟩,
 ⟨some 57, .ld (.sc (.int .i64)) (.t 56), none⟩,
 ⟨some 58, .bin .add .i64 (.t 50) (.t 57), none⟩,
 ⟨some 6, .mov (.t 58), none⟩] [0, 3, 4, 5, 6, 7]) .skip))
def R09_Writer_Bytes_i3 : IC := (.seq (.seq (.reg [⟨some 36, .mov (.t 7), none⟩,
 ⟨some 37, .mov (.t 5), none⟩,
 ⟨some 38, .cmp .lss (.t 36) (.t 37), none⟩] [0, 3, 4, 5, 6, 7, 38]) (.cond (.t 38) .skip (.exit 2))) (.seq (.block 3 (.seq (.reg [⟨some 41, .mov (.t 6), none⟩,
 ⟨some 42, .bin .mul .i64 (.t 41) (.c (Go.Value.int Go.IntKind.i64 2)), none⟩,
 ⟨some 6, .mov (.t 42), none⟩] [0, 3, 4, 5, 6, 7]) (.seq (.opq 4 [0, 3, 4, 5, 6, 7] R09_Writer_Bytes_i4) (.reg [⟨some 59, .mov (.t 4), none⟩,
 ⟨some 60, .bin .add .i64 (.t 59) (.c (Go.Value.int Go.IntKind.i64 1)), none⟩,
 ⟨some 4, .mov (.t 60), none⟩] [0, 3, 4, 5, 6, 7])))) (.reg [⟨some 39, .mov (.t 7), none⟩,
 ⟨some 40, .bin .add .i64 (.t 39) (.c (Go.Value.int Go.IntKind.i64 1)), none⟩,
 ⟨some 7, .mov (.t 40), none⟩] [0, 3, 4, 5, 6, 7])))
def R09_Writer_Bytes_i2 : IC := (.seq (.reg [⟨some 24, .mov (.t 3), none⟩,
 ⟨some 25, .len false (.t 24), none⟩,
 ⟨some 26, .cmp .gtr (.t 25) (.c (Go.Value.int Go.IntKind.i64 0)), none⟩,
 ⟨some 27, .mov (.t 26), none⟩,
 ⟨some 28, .mov (.t 3), some (27, true)⟩,
 ⟨some 29, .mov (.t 3), some (27, true)⟩,
 ⟨some 30, .len false (.t 29), some (27, true)⟩,
 ⟨some 31, .bin .sub .i64 (.t 30) (.c (Go.Value.int Go.IntKind.i64 1)), some (27, true)⟩,
 ⟨some 32, .ids 1 (.t 28) (.t 31), some (27, true)⟩,
 ⟨some 33, .ld (.sc (.int .u8)) (.t 32), some (27, true)⟩,
 ⟨some 34, .cmp .eql (.t 33) (.c (Go.Value.int Go.IntKind.u8 255)), some (27, true)⟩,
 ⟨some 35, .pick (.t 27) (.t 34) (.c (Go.Value.bool false)), none⟩] [0, 3, 4, 5, 35]) (.cond (.t 35) (.reg [⟨some 5, .mov (.c (Go.Value.int Go.IntKind.i64 7)), none⟩] [0, 3, 4, 5]) .skip))
def R09_Writer_Bytes_i1 : IC := (.seq (.seq (.reg [⟨some 17, .mov (.t 4), none⟩,
 ⟨some 18, .mov (.t 0), none⟩,
 ⟨some 19, .nilc (.t 18), none⟩,
 ⟨some 20, .fad 1 (.t 19), none⟩,
 ⟨some 21, .ld (.sc .slc) (.t 20), none⟩,
 ⟨some 22, .len false (.t 21), none⟩,
 ⟨some 23, .cmp .lss (.t 17) (.t 22), none⟩] [0, 3, 4, 23]) (.cond (.t 23) .skip (.exit 0))) (.block 1 (.seq (.reg [⟨some 5, .mov (.c (Go.Value.int Go.IntKind.i64 8)), none⟩] [0, 3, 4, 5]) (.seq (.opq 2 [0, 3, 4, 5] R09_Writer_Bytes_i2) (.seq (.reg [⟨some 6, .mov (.c (Go.Value.int Go.IntKind.i64 0)), none⟩] [0, 3, 4, 5, 6]) (.seq (.seq (.reg [⟨some 7, .mov (.c (Go.Value.int Go.IntKind.i64 0)), none⟩] [0, 3, 4, 5, 6, 7]) (.block 2 (.opq 3 [0, 3, 4, 5, 6, 7] (.loop R09_Writer_Bytes_i3)))) (.reg [⟨some 61, .mov (.t 3), none⟩,
 ⟨some 62, .mov (.t 6), none⟩,
 ⟨some 63, .cnv .u8 (.t 62), none⟩,
 ⟨some 64, .bls 1 [.int .u8 0] [(0, 1, (.t 63))], none⟩,
 ⟨some 65, .app [.int .u8 0] 1 (.t 61) (.t 64), none⟩,
 ⟨some 3, .mov (.t 65), none⟩] [0, 3, 4])))))))
def R09_Writer_Bytes_i0 : IC := (.seq (.reg [⟨some 8, .mov (.t 0), none⟩,
 ⟨some 9, .eqnil (.t 8) false 0, none⟩,
 ⟨some 10, .mov (.t 9), none⟩,
 ⟨some 11, .mov (.t 0), some (10, false)⟩,
 ⟨some 12, .nilc (.t 11), some (10, false)⟩,
 ⟨some 13, .fad 0 (.t 12), some (10, false)⟩,
 ⟨some 14, .ld (.sc .bool) (.t 13), some (10, false)⟩,
 ⟨some 15, .lnot (.t 14), some (10, false)⟩,
 ⟨some 16, .pick (.t 10) (.c (Go.Value.bool true)) (.t 15), none⟩] [0, 16]) (.cond (.t 16) (.seq (.reg [⟨some 2, .mov (.c (Go.Value.slice none 0 0)), none⟩] [2]) .ret) .skip))
def R09_Writer_Bytes_f : IFn := ⟨82, [.t 2], (.seq (.reg [⟨some 2, .mov (.c (Go.Value.slice none 0 0)), none⟩] [0]) (.seq (.opq 0 [0] R09_Writer_Bytes_i0) (.seq (.reg [⟨some 3, .mov (.c (Go.Value.slice none 0 0)), none⟩] [0, 3]) (.seq (.seq (.reg [⟨some 4, .mov (.c (Go.Value.int Go.IntKind.i64 0)), none⟩] [0, 3, 4]) (.block 0 (.opq 1 [0, 3, 4] (.loop R09_Writer_Bytes_i1)))) (.seq (.seq (.opq 5 [3] R09_Writer_Bytes_i5) (.cond (.t 77) (.reg [⟨some 78, .mov (.t 3), none⟩,
 ⟨some 79, .bls 1 [.int .u8 0] [(0, 1, (.c (Go.Value.int Go.IntKind.u8 0)))], none⟩,
 ⟨some 80, .app [.int .u8 0] 1 (.t 78) (.t 79), none⟩,
 ⟨some 3, .mov (.t 80), none⟩] [3]) .skip)) (.seq (.reg [⟨some 81, .mov (.t 3), none⟩,
 ⟨some 2, .mov (.t 81), none⟩] [2]) .ret))))))⟩
theorem R09_Writer_Bytes_e5 {R : Type} (R09_Writer_Bytes_p0 : Option Addr → Heap → (Option Addr → Option R) → (Option Addr → Nat → Nat → Option R) → Option R) (R09_Writer_Bytes_l1 : (Option Addr → Nat → Nat → Heap → Option R) → Nat → Option Addr → Option Addr → Nat → Nat → Int → Heap → Option R) (R09_Writer_Bytes_p2 : Option Addr → Option Addr → Nat → Nat → Int → Int → Heap → (Option Addr → Option Addr → Nat → Nat → Int → Int → Option R) → Option R) (R09_Writer_Bytes_l3 : (Option Addr → Option Addr → Nat → Nat → Int → Int → Option R) → Nat → Option Addr → Option Addr → Nat → Nat → Int → Int → Int → Int → Heap → Option R) (R09_Writer_Bytes_p4 : Option Addr → Option Addr → Nat → Nat → Int → Int → Int → Int → Heap → (Option Addr → Option Addr → Nat → Nat → Int → Int → Int → Int → Option R) → Option R) (R09_Writer_Bytes_p5 : Option Addr → Nat → Nat → Heap → (Option Addr → Nat → Nat → Bool → Option R) → Option R) (k : Nat) (q291 : Option Addr) (l292 : Nat) (c293 : Nat) (H : Heap) (K : Xit → Env → Heap → Option R) : evJ (R09_Writer_Bytes_Ct) (R09_Writer_Bytes_Jt k R09_Writer_Bytes_p0 R09_Writer_Bytes_l1 R09_Writer_Bytes_p2 R09_Writer_Bytes_l3 R09_Writer_Bytes_p4 R09_Writer_Bytes_p5) R09_Writer_Bytes_i5 (List.zip [3] [.slice q291 l292 c293]) H (fun x e' H' => K x (clean e' ((⟨[3, 77], [], []⟩ : Out).of x)) H') = R09_Writer_Bytes_p5_b k q291 l292 c293 H (fun q1054 l1055 c1056 t1057 => K .normal [(3, .slice q1054 l1055 c1056), (77, .bool t1057)] H) := by kernel_rfl
theorem R09_Writer_Bytes_j5 {R : Type} (k : Nat) : JS Try.prog 82 (R09_Writer_Bytes_a5 R k k) [3] ⟨[3, 77], [], []⟩ (sel [1, 1, 1, 1, 0, 0] (Try.f20.body.getD .skip)) :=
  piece_ok (nt := 82) (c := (sel [1, 1, 1, 1, 0, 0] (Try.f20.body.getD .skip))) (C := R09_Writer_Bytes_C R k) (an := An) (t := (.reg [3, 77] [])) (ic := R09_Writer_Bytes_i5) (R09_Writer_Bytes_S R k) (R09_Writer_Bytes_J R k) (by kernel_rfl) True.intro (R09_Writer_Bytes_a5 R k k)
    (fun vals H K r h => by
      unfold R09_Writer_Bytes_a5 R09_Writer_Bytes_aa5 at h
      split at h <;> first | (cases h; done) | exact Eq.trans (R09_Writer_Bytes_e5 (R09_Writer_Bytes_p0 k) (R09_Writer_Bytes_l1 k) (R09_Writer_Bytes_p2 k) (R09_Writer_Bytes_l3 k) (R09_Writer_Bytes_p4 k) (R09_Writer_Bytes_p5 k) k _ _ _ H K) h)
theorem R09_Writer_Bytes_e4 {R : Type} (R09_Writer_Bytes_p0 : Option Addr → Heap → (Option Addr → Option R) → (Option Addr → Nat → Nat → Option R) → Option R) (R09_Writer_Bytes_l1 : (Option Addr → Nat → Nat → Heap → Option R) → Nat → Option Addr → Option Addr → Nat → Nat → Int → Heap → Option R) (R09_Writer_Bytes_p2 : Option Addr → Option Addr → Nat → Nat → Int → Int → Heap → (Option Addr → Option Addr → Nat → Nat → Int → Int → Option R) → Option R) (R09_Writer_Bytes_l3 : (Option Addr → Option Addr → Nat → Nat → Int → Int → Option R) → Nat → Option Addr → Option Addr → Nat → Nat → Int → Int → Int → Int → Heap → Option R) (R09_Writer_Bytes_p4 : Option Addr → Option Addr → Nat → Nat → Int → Int → Int → Int → Heap → (Option Addr → Option Addr → Nat → Nat → Int → Int → Int → Int → Option R) → Option R) (R09_Writer_Bytes_p5 : Option Addr → Nat → Nat → Heap → (Option Addr → Nat → Nat → Bool → Option R) → Option R) (k : Nat) (p230 : Option Addr) (q231 : Option Addr) (l232 : Nat) (c233 : Nat) (n234 : Int) (n235 : Int) (n236 : Int) (n237 : Int) (H : Heap) (K : Xit → Env → Heap → Option R) : evJ (R09_Writer_Bytes_Ct) (R09_Writer_Bytes_Jt k R09_Writer_Bytes_p0 R09_Writer_Bytes_l1 R09_Writer_Bytes_p2 R09_Writer_Bytes_l3 R09_Writer_Bytes_p4 R09_Writer_Bytes_p5) R09_Writer_Bytes_i4 (List.zip [0, 3, 4, 5, 6, 7] [.pointer p230, .slice q231 l232 c233, .int .i64 n234, .int .i64 n235, .int .i64 n236, .int .i64 n237]) H (fun x e' H' => K x (clean e' ((⟨[0, 3, 4, 5, 6, 7], [], []⟩ : Out).of x)) H') = R09_Writer_Bytes_p4_b k p230 q231 l232 c233 n234 n235 n236 n237 H (fun p1046 q1047 l1048 c1049 n1050 n1051 n1052 n1053 => K .normal [(0, .pointer p1046), (3, .slice q1047 l1048 c1049), (4, .int .i64 n1050), (5, .int .i64 n1051), (6, .int .i64 n1052), (7, .int .i64 n1053)] H) := by kernel_rfl
theorem R09_Writer_Bytes_j4 {R : Type} (k : Nat) : JS Try.prog 82 (R09_Writer_Bytes_a4 R k k) [0, 3, 4, 5, 6, 7] ⟨[0, 3, 4, 5, 6, 7], [], []⟩ (sel [1, 1, 1, 0, 1, 0, 0, 1, 0, 1, 1, 1, 0, 1, 0, 0, 1, 0, 0, 1, 0] (Try.f20.body.getD .skip)) :=
  piece_ok (nt := 82) (c := (sel [1, 1, 1, 0, 1, 0, 0, 1, 0, 1, 1, 1, 0, 1, 0, 0, 1, 0, 0, 1, 0] (Try.f20.body.getD .skip))) (C := R09_Writer_Bytes_C R k) (an := An) (t := (.seq (.reg [0, 3, 4, 5, 6, 7, 49] []) (.cond (.reg [0, 3, 4, 5, 6, 7] []) .leaf))) (ic := R09_Writer_Bytes_i4) (R09_Writer_Bytes_S R k) (R09_Writer_Bytes_J R k) (by kernel_rfl) (And.intro True.intro (And.intro True.intro True.intro)) (R09_Writer_Bytes_a4 R k k)
    (fun vals H K r h => by
      unfold R09_Writer_Bytes_a4 R09_Writer_Bytes_aa4 at h
      split at h <;> first | (cases h; done) | exact Eq.trans (R09_Writer_Bytes_e4 (R09_Writer_Bytes_p0 k) (R09_Writer_Bytes_l1 k) (R09_Writer_Bytes_p2 k) (R09_Writer_Bytes_l3 k) (R09_Writer_Bytes_p4 k) (R09_Writer_Bytes_p5 k) k _ _ _ _ _ _ _ _ H K) h)
theorem R09_Writer_Bytes_e3 {R : Type} (R09_Writer_Bytes_p0 : Option Addr → Heap → (Option Addr → Option R) → (Option Addr → Nat → Nat → Option R) → Option R) (R09_Writer_Bytes_l1 : (Option Addr → Nat → Nat → Heap → Option R) → Nat → Option Addr → Option Addr → Nat → Nat → Int → Heap → Option R) (R09_Writer_Bytes_p2 : Option Addr → Option Addr → Nat → Nat → Int → Int → Heap → (Option Addr → Option Addr → Nat → Nat → Int → Int → Option R) → Option R) (R09_Writer_Bytes_l3 : (Option Addr → Option Addr → Nat → Nat → Int → Int → Option R) → Nat → Option Addr → Option Addr → Nat → Nat → Int → Int → Int → Int → Heap → Option R) (R09_Writer_Bytes_p4 : Option Addr → Option Addr → Nat → Nat → Int → Int → Int → Int → Heap → (Option Addr → Option Addr → Nat → Nat → Int → Int → Int → Int → Option R) → Option R) (R09_Writer_Bytes_p5 : Option Addr → Nat → Nat → Heap → (Option Addr → Nat → Nat → Bool → Option R) → Option R) (k n : Nat) (p222 : Option Addr) (q223 : Option Addr) (l224 : Nat) (c225 : Nat) (n226 : Int) (n227 : Int) (n228 : Int) (n229 : Int) (H : Heap) (K : Xit → Env → Heap → Option R) : evJ (R09_Writer_Bytes_Ct) (R09_Writer_Bytes_Jt k R09_Writer_Bytes_p0 R09_Writer_Bytes_l1 R09_Writer_Bytes_p2 R09_Writer_Bytes_l3 R09_Writer_Bytes_p4 R09_Writer_Bytes_p5) R09_Writer_Bytes_i3 (List.zip [0, 3, 4, 5, 6, 7] [.pointer p222, .slice q223 l224 c225, .int .i64 n226, .int .i64 n227, .int .i64 n228, .int .i64 n229]) H (fun x e' H' => match x with | .normal => R09_Writer_Bytes_aa3 R09_Writer_Bytes_l3 n ((clean e' [0, 3, 4, 5, 6, 7]).map (·.2)) H' K | x => K x (clean e' ((⟨[], [(2, [0, 3, 4, 6])], []⟩ : Out).of x)) H') = R09_Writer_Bytes_l3_b R09_Writer_Bytes_p4 (R09_Writer_Bytes_l3 (fun p1040 q1041 l1042 c1043 n1044 n1045 => K (.exit 2) [(0, .pointer p1040), (3, .slice q1041 l1042 c1043), (4, .int .i64 n1044), (6, .int .i64 n1045)] H) n) (fun p1040 q1041 l1042 c1043 n1044 n1045 => K (.exit 2) [(0, .pointer p1040), (3, .slice q1041 l1042 c1043), (4, .int .i64 n1044), (6, .int .i64 n1045)] H) k p222 q223 l224 c225 n226 n227 n228 n229 H := by kernel_rfl
theorem R09_Writer_Bytes_j3 {R : Type} (k : Nat) : JS Try.prog 82 (R09_Writer_Bytes_a3 R k k) [0, 3, 4, 5, 6, 7] ⟨[], [(2, [0, 3, 4, 6])], []⟩ (.loop (sel [1, 1, 1, 0, 1, 0, 0, 1, 0, 1, 1, 1, 0, 1, 0, 0] (Try.f20.body.getD .skip))) :=
  loop_ok (nt := 82) (c := (sel [1, 1, 1, 0, 1, 0, 0, 1, 0, 1, 1, 1, 0, 1, 0, 0] (Try.f20.body.getD .skip))) (C := R09_Writer_Bytes_C R k) (an := An) (t := (.seq (.seq (.reg [0, 3, 4, 5, 6, 7, 38] []) (.cond .leaf .leaf)) (.seq (.node (.seq (.reg [0, 3, 4, 5, 6, 7] []) (.seq (.opq 4 [0, 3, 4, 5, 6, 7] ⟨[0, 3, 4, 5, 6, 7], [], []⟩ (.seq (.reg [0, 3, 4, 5, 6, 7, 49] []) (.cond (.reg [0, 3, 4, 5, 6, 7] []) .leaf))) (.reg [0, 3, 4, 5, 6, 7] [])))) (.reg [0, 3, 4, 5, 6, 7] [])))) (ic := R09_Writer_Bytes_i3) (R09_Writer_Bytes_S R k) (R09_Writer_Bytes_J R k) (by kernel_rfl) (And.intro (And.intro True.intro (And.intro True.intro True.intro)) (And.intro (And.intro True.intro (And.intro (R09_Writer_Bytes_j4 k) True.intro)) True.intro)) (R09_Writer_Bytes_a3 R k) (fun vals H K => by unfold R09_Writer_Bytes_a3 R09_Writer_Bytes_aa3; split <;> rfl)
    (fun n vals H K r h => by
      unfold R09_Writer_Bytes_a3 R09_Writer_Bytes_aa3 at h
      split at h <;> first | (cases h; done) | exact Eq.trans (R09_Writer_Bytes_e3 (R09_Writer_Bytes_p0 k) (R09_Writer_Bytes_l1 k) (R09_Writer_Bytes_p2 k) (R09_Writer_Bytes_l3 k) (R09_Writer_Bytes_p4 k) (R09_Writer_Bytes_p5 k) k n _ _ _ _ _ _ _ _ H K) h) k
theorem R09_Writer_Bytes_e2 {R : Type} (R09_Writer_Bytes_p0 : Option Addr → Heap → (Option Addr → Option R) → (Option Addr → Nat → Nat → Option R) → Option R) (R09_Writer_Bytes_l1 : (Option Addr → Nat → Nat → Heap → Option R) → Nat → Option Addr → Option Addr → Nat → Nat → Int → Heap → Option R) (R09_Writer_Bytes_p2 : Option Addr → Option Addr → Nat → Nat → Int → Int → Heap → (Option Addr → Option Addr → Nat → Nat → Int → Int → Option R) → Option R) (R09_Writer_Bytes_l3 : (Option Addr → Option Addr → Nat → Nat → Int → Int → Option R) → Nat → Option Addr → Option Addr → Nat → Nat → Int → Int → Int → Int → Heap → Option R) (R09_Writer_Bytes_p4 : Option Addr → Option Addr → Nat → Nat → Int → Int → Int → Int → Heap → (Option Addr → Option Addr → Nat → Nat → Int → Int → Int → Int → Option R) → Option R) (R09_Writer_Bytes_p5 : Option Addr → Nat → Nat → Heap → (Option Addr → Nat → Nat → Bool → Option R) → Option R) (k : Nat) (p202 : Option Addr) (q203 : Option Addr) (l204 : Nat) (c205 : Nat) (n206 : Int) (n207 : Int) (H : Heap) (K : Xit → Env → Heap → Option R) : evJ (R09_Writer_Bytes_Ct) (R09_Writer_Bytes_Jt k R09_Writer_Bytes_p0 R09_Writer_Bytes_l1 R09_Writer_Bytes_p2 R09_Writer_Bytes_l3 R09_Writer_Bytes_p4 R09_Writer_Bytes_p5) R09_Writer_Bytes_i2 (List.zip [0, 3, 4, 5] [.pointer p202, .slice q203 l204 c205, .int .i64 n206, .int .i64 n207]) H (fun x e' H' => K x (clean e' ((⟨[0, 3, 4, 5], [], []⟩ : Out).of x)) H') = R09_Writer_Bytes_p2_b k p202 q203 l204 c205 n206 n207 H (fun p1034 q1035 l1036 c1037 n1038 n1039 => K .normal [(0, .pointer p1034), (3, .slice q1035 l1036 c1037), (4, .int .i64 n1038), (5, .int .i64 n1039)] H) := by kernel_rfl
theorem R09_Writer_Bytes_j2 {R : Type} (k : Nat) : JS Try.prog 82 (R09_Writer_Bytes_a2 R k k) [0, 3, 4, 5] ⟨[0, 3, 4, 5], [], []⟩ (sel [1, 1, 1, 0, 1, 0, 0, 1, 0, 1, 0] (Try.f20.body.getD .skip)) :=
  piece_ok (nt := 82) (c := (sel [1, 1, 1, 0, 1, 0, 0, 1, 0, 1, 0] (Try.f20.body.getD .skip))) (C := R09_Writer_Bytes_C R k) (an := An) (t := (.seq (.reg [0, 3, 4, 5, 35] []) (.cond (.reg [0, 3, 4, 5] []) .leaf))) (ic := R09_Writer_Bytes_i2) (R09_Writer_Bytes_S R k) (R09_Writer_Bytes_J R k) (by kernel_rfl) (And.intro True.intro (And.intro True.intro True.intro)) (R09_Writer_Bytes_a2 R k k)
    (fun vals H K r h => by
      unfold R09_Writer_Bytes_a2 R09_Writer_Bytes_aa2 at h
      split at h <;> first | (cases h; done) | exact Eq.trans (R09_Writer_Bytes_e2 (R09_Writer_Bytes_p0 k) (R09_Writer_Bytes_l1 k) (R09_Writer_Bytes_p2 k) (R09_Writer_Bytes_l3 k) (R09_Writer_Bytes_p4 k) (R09_Writer_Bytes_p5 k) k _ _ _ _ _ _ H K) h)
theorem R09_Writer_Bytes_e1 {R : Type} (R09_Writer_Bytes_p0 : Option Addr → Heap → (Option Addr → Option R) → (Option Addr → Nat → Nat → Option R) → Option R) (R09_Writer_Bytes_l1 : (Option Addr → Nat → Nat → Heap → Option R) → Nat → Option Addr → Option Addr → Nat → Nat → Int → Heap → Option R) (R09_Writer_Bytes_p2 : Option Addr → Option Addr → Nat → Nat → Int → Int → Heap → (Option Addr → Option Addr → Nat → Nat → Int → Int → Option R) → Option R) (R09_Writer_Bytes_l3 : (Option Addr → Option Addr → Nat → Nat → Int → Int → Option R) → Nat → Option Addr → Option Addr → Nat → Nat → Int → Int → Int → Int → Heap → Option R) (R09_Writer_Bytes_p4 : Option Addr → Option Addr → Nat → Nat → Int → Int → Int → Int → Heap → (Option Addr → Option Addr → Nat → Nat → Int → Int → Int → Int → Option R) → Option R) (R09_Writer_Bytes_p5 : Option Addr → Nat → Nat → Heap → (Option Addr → Nat → Nat → Bool → Option R) → Option R) (k n : Nat) (p192 : Option Addr) (q193 : Option Addr) (l194 : Nat) (c195 : Nat) (n196 : Int) (H : Heap) (K : Xit → Env → Heap → Option R) : evJ (R09_Writer_Bytes_Ct) (R09_Writer_Bytes_Jt k R09_Writer_Bytes_p0 R09_Writer_Bytes_l1 R09_Writer_Bytes_p2 R09_Writer_Bytes_l3 R09_Writer_Bytes_p4 R09_Writer_Bytes_p5) R09_Writer_Bytes_i1 (List.zip [0, 3, 4] [.pointer p192, .slice q193 l194 c195, .int .i64 n196]) H (fun x e' H' => match x with | .normal => R09_Writer_Bytes_aa1 R09_Writer_Bytes_l1 n ((clean e' [0, 3, 4]).map (·.2)) H' K | x => K x (clean e' ((⟨[], [(0, [3])], []⟩ : Out).of x)) H') = R09_Writer_Bytes_l1_b R09_Writer_Bytes_p2 R09_Writer_Bytes_l3 (R09_Writer_Bytes_l1 (fun q1031 l1032 c1033 H => K (.exit 0) [(3, .slice q1031 l1032 c1033)] H) n) (fun q1031 l1032 c1033 H => K (.exit 0) [(3, .slice q1031 l1032 c1033)] H) k p192 q193 l194 c195 n196 H := by kernel_rfl
theorem R09_Writer_Bytes_j1 {R : Type} (k : Nat) : JS Try.prog 82 (R09_Writer_Bytes_a1 R k k) [0, 3, 4] ⟨[], [(0, [3])], []⟩ (.loop (sel [1, 1, 1, 0, 1, 0, 0] (Try.f20.body.getD .skip))) :=
  loop_ok (nt := 82) (c := (sel [1, 1, 1, 0, 1, 0, 0] (Try.f20.body.getD .skip))) (C := R09_Writer_Bytes_C R k) (an := An) (t := (.seq (.seq (.reg [0, 3, 4, 23] []) (.cond .leaf .leaf)) (.node (.seq (.reg [0, 3, 4, 5] []) (.seq (.opq 2 [0, 3, 4, 5] ⟨[0, 3, 4, 5], [], []⟩ (.seq (.reg [0, 3, 4, 5, 35] []) (.cond (.reg [0, 3, 4, 5] []) .leaf))) (.seq (.reg [0, 3, 4, 5, 6] []) (.seq (.seq (.reg [0, 3, 4, 5, 6, 7] []) (.node (.opq 3 [0, 3, 4, 5, 6, 7] ⟨[], [(2, [0, 3, 4, 6])], []⟩ (.node (.seq (.seq (.reg [0, 3, 4, 5, 6, 7, 38] []) (.cond .leaf .leaf)) (.seq (.node (.seq (.reg [0, 3, 4, 5, 6, 7] []) (.seq (.opq 4 [0, 3, 4, 5, 6, 7] ⟨[0, 3, 4, 5, 6, 7], [], []⟩ (.seq (.reg [0, 3, 4, 5, 6, 7, 49] []) (.cond (.reg [0, 3, 4, 5, 6, 7] []) .leaf))) (.reg [0, 3, 4, 5, 6, 7] [])))) (.reg [0, 3, 4, 5, 6, 7] []))))))) (.reg [0, 3, 4] [])))))))) (ic := R09_Writer_Bytes_i1) (R09_Writer_Bytes_S R k) (R09_Writer_Bytes_J R k) (by kernel_rfl) (And.intro (And.intro True.intro (And.intro True.intro True.intro)) (And.intro True.intro (And.intro (R09_Writer_Bytes_j2 k) (And.intro True.intro (And.intro (And.intro True.intro (R09_Writer_Bytes_j3 k)) True.intro))))) (R09_Writer_Bytes_a1 R k) (fun vals H K => by unfold R09_Writer_Bytes_a1 R09_Writer_Bytes_aa1; split <;> rfl)
    (fun n vals H K r h => by
      unfold R09_Writer_Bytes_a1 R09_Writer_Bytes_aa1 at h
      split at h <;> first | (cases h; done) | exact Eq.trans (R09_Writer_Bytes_e1 (R09_Writer_Bytes_p0 k) (R09_Writer_Bytes_l1 k) (R09_Writer_Bytes_p2 k) (R09_Writer_Bytes_l3 k) (R09_Writer_Bytes_p4 k) (R09_Writer_Bytes_p5 k) k n _ _ _ _ _ H K) h) k
theorem R09_Writer_Bytes_e0 {R : Type} (R09_Writer_Bytes_p0 : Option Addr → Heap → (Option Addr → Option R) → (Option Addr → Nat → Nat → Option R) → Option R) (R09_Writer_Bytes_l1 : (Option Addr → Nat → Nat → Heap → Option R) → Nat → Option Addr → Option Addr → Nat → Nat → Int → Heap → Option R) (R09_Writer_Bytes_p2 : Option Addr → Option Addr → Nat → Nat → Int → Int → Heap → (Option Addr → Option Addr → Nat → Nat → Int → Int → Option R) → Option R) (R09_Writer_Bytes_l3 : (Option Addr → Option Addr → Nat → Nat → Int → Int → Option R) → Nat → Option Addr → Option Addr → Nat → Nat → Int → Int → Int → Int → Heap → Option R) (R09_Writer_Bytes_p4 : Option Addr → Option Addr → Nat → Nat → Int → Int → Int → Int → Heap → (Option Addr → Option Addr → Nat → Nat → Int → Int → Int → Int → Option R) → Option R) (R09_Writer_Bytes_p5 : Option Addr → Nat → Nat → Heap → (Option Addr → Nat → Nat → Bool → Option R) → Option R) (k : Nat) (p183 : Option Addr) (H : Heap) (K : Xit → Env → Heap → Option R) : evJ (R09_Writer_Bytes_Ct) (R09_Writer_Bytes_Jt k R09_Writer_Bytes_p0 R09_Writer_Bytes_l1 R09_Writer_Bytes_p2 R09_Writer_Bytes_l3 R09_Writer_Bytes_p4 R09_Writer_Bytes_p5) R09_Writer_Bytes_i0 (List.zip [0] [.pointer p183]) H (fun x e' H' => K x (clean e' ((⟨[0], [], [2]⟩ : Out).of x)) H') = R09_Writer_Bytes_p0_b k p183 H (fun p1027 => K .normal [(0, .pointer p1027)] H) (fun q1028 l1029 c1030 => K .ret [(2, .slice q1028 l1029 c1030)] H) := by kernel_rfl
theorem R09_Writer_Bytes_j0 {R : Type} (k : Nat) : JS Try.prog 82 (R09_Writer_Bytes_a0 R k k) [0] ⟨[0], [], [2]⟩ (sel [1, 0] (Try.f20.body.getD .skip)) :=
  piece_ok (nt := 82) (c := (sel [1, 0] (Try.f20.body.getD .skip))) (C := R09_Writer_Bytes_C R k) (an := An) (t := (.seq (.reg [0, 16] []) (.cond (.seq (.reg [2] []) .leaf) .leaf))) (ic := R09_Writer_Bytes_i0) (R09_Writer_Bytes_S R k) (R09_Writer_Bytes_J R k) (by kernel_rfl) (And.intro True.intro (And.intro (And.intro True.intro True.intro) True.intro)) (R09_Writer_Bytes_a0 R k k)
    (fun vals H K r h => by
      unfold R09_Writer_Bytes_a0 R09_Writer_Bytes_aa0 at h
      split at h <;> first | (cases h; done) | exact Eq.trans (R09_Writer_Bytes_e0 (R09_Writer_Bytes_p0 k) (R09_Writer_Bytes_l1 k) (R09_Writer_Bytes_p2 k) (R09_Writer_Bytes_l3 k) (R09_Writer_Bytes_p4 k) (R09_Writer_Bytes_p5 k) k _ H K) h)
def R09_Writer_Bytes_ca {R : Type} (f : Option Addr → Heap → (Option Addr → Nat → Nat → Heap → Option R) → Option R) (args : List Value) (H : Heap) (K : Value → Heap → Option R) : Option R :=
  match args with
  | [.pointer p182] => f p182 H (fun q1058 l1059 c1060 H => K (.slice q1058 l1059 c1060) H)
  | _ => none
def R09_Writer_Bytes_c (R : Type) (k : Nat) (args : List Value) (H : Heap) (K : Value → Heap → Option R) : Option R := R09_Writer_Bytes_ca (R09_Writer_Bytes k) args H K
theorem R09_Writer_Bytes_e {R : Type} (R09_Writer_Bytes_p0 : Option Addr → Heap → (Option Addr → Option R) → (Option Addr → Nat → Nat → Option R) → Option R) (R09_Writer_Bytes_l1 : (Option Addr → Nat → Nat → Heap → Option R) → Nat → Option Addr → Option Addr → Nat → Nat → Int → Heap → Option R) (R09_Writer_Bytes_p2 : Option Addr → Option Addr → Nat → Nat → Int → Int → Heap → (Option Addr → Option Addr → Nat → Nat → Int → Int → Option R) → Option R) (R09_Writer_Bytes_l3 : (Option Addr → Option Addr → Nat → Nat → Int → Int → Option R) → Nat → Option Addr → Option Addr → Nat → Nat → Int → Int → Int → Int → Heap → Option R) (R09_Writer_Bytes_p4 : Option Addr → Option Addr → Nat → Nat → Int → Int → Int → Int → Heap → (Option Addr → Option Addr → Nat → Nat → Int → Int → Int → Int → Option R) → Option R) (R09_Writer_Bytes_p5 : Option Addr → Nat → Nat → Heap → (Option Addr → Nat → Nat → Bool → Option R) → Option R) (k : Nat) (p182 : Option Addr) (H : Heap) (K : Value → Heap → Option R) : evF (R09_Writer_Bytes_Ct) (R09_Writer_Bytes_Jt k R09_Writer_Bytes_p0 R09_Writer_Bytes_l1 R09_Writer_Bytes_p2 R09_Writer_Bytes_l3 R09_Writer_Bytes_p4 R09_Writer_Bytes_p5) R09_Writer_Bytes_f [.pointer p182] H K = R09_Writer_Bytes_b R09_Writer_Bytes_p0 R09_Writer_Bytes_l1 R09_Writer_Bytes_p5 k p182 H (fun q1058 l1059 c1060 H => K (.slice q1058 l1059 c1060) H) := by kernel_rfl
theorem R09_Writer_Bytes_cs (R : Type) (k : Nat) : ∀ args H K r, R09_Writer_Bytes_c R k args H K = some r → ∃ v H', Tri Try.prog 20 args H v H' ∧ K v H' = some r := by
  intro args H K r h
  unfold R09_Writer_Bytes_c R09_Writer_Bytes_ca at h
  split at h
  · exact evF_ok (C := R09_Writer_Bytes_C R k) (an := An) (t := R09_Writer_Bytes_at) (fn := Try.f20) (c := (Try.f20.body.getD .skip)) (ifn := R09_Writer_Bytes_f) (R09_Writer_Bytes_S R k) (R09_Writer_Bytes_J R k) Try.func20 (by kernel_rfl) (by kernel_rfl) (And.intro True.intro (And.intro (R09_Writer_Bytes_j0 k) (And.intro True.intro (And.intro (And.intro True.intro (R09_Writer_Bytes_j1 k)) (And.intro (And.intro (R09_Writer_Bytes_j5 k) (And.intro True.intro True.intro)) (And.intro True.intro True.intro)))))) rfl (Eq.trans (R09_Writer_Bytes_e (R09_Writer_Bytes_p0 k) (R09_Writer_Bytes_l1 k) (R09_Writer_Bytes_p2 k) (R09_Writer_Bytes_l3 k) (R09_Writer_Bytes_p4 k) (R09_Writer_Bytes_p5 k) k _ H K) h)
  · cases h
end Go.Proofs.Ytiapgcgpdndkiaa.Sh
