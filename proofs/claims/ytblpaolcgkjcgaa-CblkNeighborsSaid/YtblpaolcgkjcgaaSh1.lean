/- Lean functions that stand for Go's, over an explicit heap, and the proofs that they do (written by this claim's program shallow.py). -/
import Derived.Test.YtblpaolcgkjcgaaSh0
set_option maxRecDepth 100000
set_option linter.unusedVariables false
set_option linter.unusedSimpArgs false
namespace Go.Proofs.Ytblpaolcgkjcgaa.Sh
open Go.Proofs.Ytblpaolcgkjcgaa.FW
/-! ### cblk_Block_Set: function 42 -/
def cblk_Block_Set_p0_b {R : Type} (k : Nat) (n196 : Int) (p197 : Option Addr) (KN : Int → Option Addr → Option R) (KR : Int → Option R) : Option R :=
bif decide (n196 > 1152921504606846975) then (KR 2)
 else (bif decide (n196 < (-1152921504606846975)) then (KR 2)
 else (KN n196 p197))
def cblk_Block_Set_p0 {R : Type} (k : Nat) (n196 : Int) (p197 : Option Addr) (KN : Int → Option Addr → Option R) (KR : Int → Option R) : Option R := cblk_Block_Set_p0_b k n196 p197 KN KR

def cblk_Block_Set_b {R : Type} (cblk_Block_at : Option Addr → Int → Int → Heap → (Option Addr → Option R) → Option R) (cblk_Block_missing : Option Addr → Heap → (Int → Option R) → Option R) (cblk_Block_Set_p0 : Int → Option Addr → (Int → Option Addr → Option R) → (Int → Option R) → Option R) (k : Nat) (p190 : Option Addr) (n191 : Int) (n192 : Int) (n193 : Int) (H : Heap) (K : Int → Heap → Option R) : Option R :=
cblk_Block_at p190 n191 n192 H fun p194 =>
bif p194.isNone then (cblk_Block_missing p190 H fun n195 =>
K n195 H)
 else (cblk_Block_Set_p0 n193 p194 (fun n201 p202 =>
hnil p202 fun p203 =>
hfad 0 p203 fun p204 =>
hst1 H p204 (.int .i64 n201) fun H205 =>
K 0 H205) (fun n206 =>
K n206 H))

def cblk_Block_Set {R : Type} (k : Nat) (p190 : Option Addr) (n191 : Int) (n192 : Int) (n193 : Int) (H : Heap) (K : Int → Heap → Option R) : Option R := cblk_Block_Set_b (cblk_Block_at k) cblk_Block_missing (cblk_Block_Set_p0 k) k p190 n191 n192 n193 H K

def cblk_Block_Set_Ct {R : Type} (cblk_Block_at : Option Addr → Int → Int → Heap → (Option Addr → Option R) → Option R) (cblk_Block_missing : Option Addr → Heap → (Int → Option R) → Option R) : Tab R := tcons 46 (cblk_Block_at_ca cblk_Block_at) <| tcons 47 (cblk_Block_missing_ca cblk_Block_missing) <| fun _ _ _ _ => none
def cblk_Block_Set_C (R : Type) (k : Nat) : Tab R := cblk_Block_Set_Ct (cblk_Block_at k) cblk_Block_missing
theorem cblk_Block_Set_S (R : Type) (k : Nat) : CSound Try.prog (cblk_Block_Set_C R k) := csound_cons (cblk_Block_at_cs R k) <| csound_cons (cblk_Block_missing_cs R k) <| csound_nil
def cblk_Block_Set_aa0 {R : Type} (f : Int → Option Addr → (Int → Option Addr → Option R) → (Int → Option R) → Option R) (n : Nat) (vals : List Value) (H : Heap) (K : Xit → Env → Heap → Option R) : Option R :=
  match vals with
  | [.int .i64 n196, .pointer p197] => f n196 p197 (fun n1115 p1116 => K .normal [(3, .int .i64 n1115), (9, .pointer p1116)] H) (fun n1117 => K .ret [(8, .int .i64 n1117)] H)
  | _ => none
def cblk_Block_Set_a0 (R : Type) (k n : Nat) (vals : List Value) (H : Heap) (K : Xit → Env → Heap → Option R) : Option R := cblk_Block_Set_aa0 (cblk_Block_Set_p0 k) n vals H K
def cblk_Block_Set_Jt {R : Type} (k : Nat) (cblk_Block_Set_p0 : Int → Option Addr → (Int → Option Addr → Option R) → (Int → Option R) → Option R) : JTab R := tcons 0 (cblk_Block_Set_aa0 cblk_Block_Set_p0 k) <| fun _ _ _ _ => none
def cblk_Block_Set_J (R : Type) (k : Nat) : JTab R := cblk_Block_Set_Jt k (cblk_Block_Set_p0 k)
def cblk_Block_Set_at : AT := (.seq (.reg [0, 1, 2, 3] []) (.seq (.reg [0, 3, 9] []) (.seq (.seq (.reg [0, 3, 9, 15] []) (.cond (.seq (.reg [8] []) .leaf) .leaf)) (.seq (.opq 0 [3, 9] ⟨[3, 9], [], [8]⟩ (.seq (.reg [3, 9, 23] []) (.cond (.seq (.reg [8] []) .leaf) .leaf))) (.seq (.reg [] []) (.seq (.reg [8] []) .leaf))))))
def cblk_Block_Set_i0 : IC := (.seq (.reg [⟨some 18, .mov (.t 3), none⟩,
 ⟨some 19, .cmp .gtr (.t 18) (.c (Go.Value.int Go.IntKind.i64 1152921504606846975)), none⟩,
 ⟨some 20, .mov (.t 19), none⟩,
 ⟨some 21, .mov (.t 3), some (20, false)⟩,
 ⟨some 22, .cmp .lss (.t 21) (.c (Go.Value.int Go.IntKind.i64 (-1152921504606846975))), some (20, false)⟩,
 ⟨some 23, .pick (.t 20) (.c (Go.Value.bool true)) (.t 22), none⟩] [3, 9, 23]) (.cond (.t 23) (.seq (.reg [⟨some 8, .mov (.c (Go.Value.int Go.IntKind.i64 2)), none⟩] [8]) .ret) .skip))
def cblk_Block_Set_f : IFn := ⟨28, [.t 8], (.seq (.reg [⟨some 8, .mov (.c (Go.Value.int Go.IntKind.i64 0)), none⟩] [0, 1, 2, 3]) (.seq (.reg [⟨some 10, .mov (.t 0), none⟩,
 ⟨some 11, .mov (.t 1), none⟩,
 ⟨some 12, .mov (.t 2), none⟩,
 ⟨some 13, .call 46 [(.t 10), (.t 11), (.t 12)] (.one (.sc .ptr)), none⟩,
 ⟨some 9, .mov (.t 13), none⟩] [0, 3, 9]) (.seq (.seq (.reg [⟨some 14, .mov (.t 9), none⟩,
 ⟨some 15, .eqnil (.t 14) false 0, none⟩] [0, 3, 9, 15]) (.cond (.t 15) (.seq (.reg [⟨some 16, .mov (.t 0), none⟩,
 ⟨some 17, .call 47 [(.t 16)] (.one (.sc (.int .i64))), none⟩,
 ⟨some 8, .mov (.t 17), none⟩] [8]) .ret) .skip)) (.seq (.opq 0 [3, 9] cblk_Block_Set_i0) (.seq (.reg [⟨some 24, .mov (.t 9), none⟩,
 ⟨some 25, .mov (.t 3), none⟩,
 ⟨some 26, .nilc (.t 24), none⟩,
 ⟨some 27, .fad 0 (.t 26), none⟩,
 ⟨none, .st 1 (.t 27) (.t 25), none⟩] []) (.seq (.reg [⟨some 8, .mov (.c (Go.Value.int Go.IntKind.i64 0)), none⟩] [8]) .ret))))))⟩
theorem cblk_Block_Set_e0 {R : Type} (cblk_Block_at : Option Addr → Int → Int → Heap → (Option Addr → Option R) → Option R) (cblk_Block_missing : Option Addr → Heap → (Int → Option R) → Option R) (cblk_Block_Set_p0 : Int → Option Addr → (Int → Option Addr → Option R) → (Int → Option R) → Option R) (k : Nat) (n196 : Int) (p197 : Option Addr) (H : Heap) (K : Xit → Env → Heap → Option R) : evJ (cblk_Block_Set_Ct cblk_Block_at cblk_Block_missing) (cblk_Block_Set_Jt k cblk_Block_Set_p0) cblk_Block_Set_i0 (List.zip [3, 9] [.int .i64 n196, .pointer p197]) H (fun x e' H' => K x (clean e' ((⟨[3, 9], [], [8]⟩ : Out).of x)) H') = cblk_Block_Set_p0_b k n196 p197 (fun n1115 p1116 => K .normal [(3, .int .i64 n1115), (9, .pointer p1116)] H) (fun n1117 => K .ret [(8, .int .i64 n1117)] H) := by kernel_rfl
theorem cblk_Block_Set_j0 {R : Type} (k : Nat) : JS Try.prog 28 (cblk_Block_Set_a0 R k k) [3, 9] ⟨[3, 9], [], [8]⟩ (sel [1, 1, 1, 0] (Try.f42.body.getD .skip)) :=
  piece_ok (nt := 28) (c := (sel [1, 1, 1, 0] (Try.f42.body.getD .skip))) (C := cblk_Block_Set_C R k) (an := An) (t := (.seq (.reg [3, 9, 23] []) (.cond (.seq (.reg [8] []) .leaf) .leaf))) (ic := cblk_Block_Set_i0) (cblk_Block_Set_S R k) (cblk_Block_Set_J R k) (by kernel_rfl) (And.intro True.intro (And.intro (And.intro True.intro True.intro) True.intro)) (cblk_Block_Set_a0 R k k)
    (fun vals H K r h => by
      unfold cblk_Block_Set_a0 cblk_Block_Set_aa0 at h
      split at h <;> first | (cases h; done) | exact Eq.trans (cblk_Block_Set_e0 (cblk_Block_at k) cblk_Block_missing (cblk_Block_Set_p0 k) k _ _ H K) h)
def cblk_Block_Set_ca {R : Type} (f : Option Addr → Int → Int → Int → Heap → (Int → Heap → Option R) → Option R) (args : List Value) (H : Heap) (K : Value → Heap → Option R) : Option R :=
  match args with
  | [.pointer p190, .int .i64 n191, .int .i64 n192, .int .i64 n193] => f p190 n191 n192 n193 H (fun n1118 H => K (.int .i64 n1118) H)
  | _ => none
def cblk_Block_Set_c (R : Type) (k : Nat) (args : List Value) (H : Heap) (K : Value → Heap → Option R) : Option R := cblk_Block_Set_ca (cblk_Block_Set k) args H K
theorem cblk_Block_Set_e {R : Type} (cblk_Block_at : Option Addr → Int → Int → Heap → (Option Addr → Option R) → Option R) (cblk_Block_missing : Option Addr → Heap → (Int → Option R) → Option R) (cblk_Block_Set_p0 : Int → Option Addr → (Int → Option Addr → Option R) → (Int → Option R) → Option R) (k : Nat) (p190 : Option Addr) (n191 : Int) (n192 : Int) (n193 : Int) (H : Heap) (K : Value → Heap → Option R) : evF (cblk_Block_Set_Ct cblk_Block_at cblk_Block_missing) (cblk_Block_Set_Jt k cblk_Block_Set_p0) cblk_Block_Set_f [.pointer p190, .int .i64 n191, .int .i64 n192, .int .i64 n193] H K = cblk_Block_Set_b cblk_Block_at cblk_Block_missing cblk_Block_Set_p0 k p190 n191 n192 n193 H (fun n1118 H => K (.int .i64 n1118) H) := by kernel_rfl
theorem cblk_Block_Set_cs (R : Type) (k : Nat) : ∀ args H K r, cblk_Block_Set_c R k args H K = some r → ∃ v H', Tri Try.prog 42 args H v H' ∧ K v H' = some r := by
  intro args H K r h
  unfold cblk_Block_Set_c cblk_Block_Set_ca at h
  split at h
  · exact evF_ok (C := cblk_Block_Set_C R k) (an := An) (t := cblk_Block_Set_at) (fn := Try.f42) (c := (Try.f42.body.getD .skip)) (ifn := cblk_Block_Set_f) (cblk_Block_Set_S R k) (cblk_Block_Set_J R k) Try.func42 (by kernel_rfl) (by kernel_rfl) (And.intro True.intro (And.intro True.intro (And.intro (And.intro True.intro (And.intro (And.intro True.intro True.intro) True.intro)) (And.intro (cblk_Block_Set_j0 k) (And.intro True.intro (And.intro True.intro True.intro)))))) rfl (Eq.trans (cblk_Block_Set_e (cblk_Block_at k) cblk_Block_missing (cblk_Block_Set_p0 k) k _ _ _ _ H K) h)
  · cases h
/-! ### cblk_Block_Mark: function 27 -/
def cblk_Block_Mark_b {R : Type} (cblk_Block_at : Option Addr → Int → Int → Heap → (Option Addr → Option R) → Option R) (cblk_Block_missing : Option Addr → Heap → (Int → Option R) → Option R) (k : Nat) (p214 : Option Addr) (n215 : Int) (n216 : Int) (H : Heap) (K : Int → Heap → Option R) : Option R :=
cblk_Block_at p214 n215 n216 H fun p217 =>
bif p217.isNone then (cblk_Block_missing p214 H fun n218 =>
K n218 H)
 else (hnil p217 fun p219 =>
hfad 1 p219 fun p220 =>
hst1 H p220 (.bool true) fun H221 =>
K 0 H221)

def cblk_Block_Mark {R : Type} (k : Nat) (p214 : Option Addr) (n215 : Int) (n216 : Int) (H : Heap) (K : Int → Heap → Option R) : Option R := cblk_Block_Mark_b (cblk_Block_at k) cblk_Block_missing k p214 n215 n216 H K

def cblk_Block_Mark_Ct {R : Type} (cblk_Block_at : Option Addr → Int → Int → Heap → (Option Addr → Option R) → Option R) (cblk_Block_missing : Option Addr → Heap → (Int → Option R) → Option R) : Tab R := tcons 46 (cblk_Block_at_ca cblk_Block_at) <| tcons 47 (cblk_Block_missing_ca cblk_Block_missing) <| fun _ _ _ _ => none
def cblk_Block_Mark_C (R : Type) (k : Nat) : Tab R := cblk_Block_Mark_Ct (cblk_Block_at k) cblk_Block_missing
theorem cblk_Block_Mark_S (R : Type) (k : Nat) : CSound Try.prog (cblk_Block_Mark_C R k) := csound_cons (cblk_Block_at_cs R k) <| csound_cons (cblk_Block_missing_cs R k) <| csound_nil
def cblk_Block_Mark_Jt {R : Type} (k : Nat) : JTab R := fun _ _ _ _ => none
def cblk_Block_Mark_J (R : Type) (k : Nat) : JTab R := cblk_Block_Mark_Jt k
def cblk_Block_Mark_at : AT := (.seq (.reg [0, 1, 2] []) (.seq (.reg [0, 7] []) (.seq (.seq (.reg [0, 7, 13] []) (.cond (.seq (.reg [6] []) .leaf) .leaf)) (.seq (.reg [] []) (.seq (.reg [6] []) .leaf)))))
def cblk_Block_Mark_f : IFn := ⟨19, [.t 6], (.seq (.reg [⟨some 6, .mov (.c (Go.Value.int Go.IntKind.i64 0)), none⟩] [0, 1, 2]) (.seq (.reg [⟨some 8, .mov (.t 0), none⟩,
 ⟨some 9, .mov (.t 1), none⟩,
 ⟨some 10, .mov (.t 2), none⟩,
 ⟨some 11, .call 46 [(.t 8), (.t 9), (.t 10)] (.one (.sc .ptr)), none⟩,
 ⟨some 7, .mov (.t 11), none⟩] [0, 7]) (.seq (.seq (.reg [⟨some 12, .mov (.t 7), none⟩,
 ⟨some 13, .eqnil (.t 12) false 0, none⟩] [0, 7, 13]) (.cond (.t 13) (.seq (.reg [⟨some 14, .mov (.t 0), none⟩,
 ⟨some 15, .call 47 [(.t 14)] (.one (.sc (.int .i64))), none⟩,
 ⟨some 6, .mov (.t 15), none⟩] [6]) .ret) .skip)) (.seq (.reg [⟨some 16, .mov (.t 7), none⟩,
 ⟨some 17, .nilc (.t 16), none⟩,
 ⟨some 18, .fad 1 (.t 17), none⟩,
 ⟨none, .st 1 (.t 18) (.c (Go.Value.bool true)), none⟩] []) (.seq (.reg [⟨some 6, .mov (.c (Go.Value.int Go.IntKind.i64 0)), none⟩] [6]) .ret)))))⟩
def cblk_Block_Mark_ca {R : Type} (f : Option Addr → Int → Int → Heap → (Int → Heap → Option R) → Option R) (args : List Value) (H : Heap) (K : Value → Heap → Option R) : Option R :=
  match args with
  | [.pointer p214, .int .i64 n215, .int .i64 n216] => f p214 n215 n216 H (fun n1119 H => K (.int .i64 n1119) H)
  | _ => none
def cblk_Block_Mark_c (R : Type) (k : Nat) (args : List Value) (H : Heap) (K : Value → Heap → Option R) : Option R := cblk_Block_Mark_ca (cblk_Block_Mark k) args H K
theorem cblk_Block_Mark_e {R : Type} (cblk_Block_at : Option Addr → Int → Int → Heap → (Option Addr → Option R) → Option R) (cblk_Block_missing : Option Addr → Heap → (Int → Option R) → Option R) (k : Nat) (p214 : Option Addr) (n215 : Int) (n216 : Int) (H : Heap) (K : Value → Heap → Option R) : evF (cblk_Block_Mark_Ct cblk_Block_at cblk_Block_missing) (cblk_Block_Mark_Jt k) cblk_Block_Mark_f [.pointer p214, .int .i64 n215, .int .i64 n216] H K = cblk_Block_Mark_b cblk_Block_at cblk_Block_missing k p214 n215 n216 H (fun n1119 H => K (.int .i64 n1119) H) := by kernel_rfl
theorem cblk_Block_Mark_cs (R : Type) (k : Nat) : ∀ args H K r, cblk_Block_Mark_c R k args H K = some r → ∃ v H', Tri Try.prog 27 args H v H' ∧ K v H' = some r := by
  intro args H K r h
  unfold cblk_Block_Mark_c cblk_Block_Mark_ca at h
  split at h
  · exact evF_ok (C := cblk_Block_Mark_C R k) (an := An) (t := cblk_Block_Mark_at) (fn := Try.f27) (c := (Try.f27.body.getD .skip)) (ifn := cblk_Block_Mark_f) (cblk_Block_Mark_S R k) (cblk_Block_Mark_J R k) Try.func27 (by kernel_rfl) (by kernel_rfl) (And.intro True.intro (And.intro True.intro (And.intro (And.intro True.intro (And.intro (And.intro True.intro True.intro) True.intro)) (And.intro True.intro (And.intro True.intro True.intro))))) rfl (Eq.trans (cblk_Block_Mark_e (cblk_Block_at k) cblk_Block_missing k _ _ _ H K) h)
  · cases h
/-! ### cblk_Block_Significant: function 25 -/
def cblk_Block_Significant_b {R : Type} (cblk_Block_at : Option Addr → Int → Int → Heap → (Option Addr → Option R) → Option R) (k : Nat) (p214 : Option Addr) (n215 : Int) (n216 : Int) (H : Heap) (K : Bool → Option R) : Option R :=
cblk_Block_at p214 n215 n216 H fun p217 =>
bif p217.isSome then (hnil p217 fun p218 =>
hfad 1 p218 fun p219 =>
ldB H p219 fun t220 =>
K t220)
 else (K false)

def cblk_Block_Significant {R : Type} (k : Nat) (p214 : Option Addr) (n215 : Int) (n216 : Int) (H : Heap) (K : Bool → Option R) : Option R := cblk_Block_Significant_b (cblk_Block_at k) k p214 n215 n216 H K

def cblk_Block_Significant_Ct {R : Type} (cblk_Block_at : Option Addr → Int → Int → Heap → (Option Addr → Option R) → Option R) : Tab R := tcons 46 (cblk_Block_at_ca cblk_Block_at) <| fun _ _ _ _ => none
def cblk_Block_Significant_C (R : Type) (k : Nat) : Tab R := cblk_Block_Significant_Ct (cblk_Block_at k)
theorem cblk_Block_Significant_S (R : Type) (k : Nat) : CSound Try.prog (cblk_Block_Significant_C R k) := csound_cons (cblk_Block_at_cs R k) <| csound_nil
def cblk_Block_Significant_Jt {R : Type} (k : Nat) : JTab R := fun _ _ _ _ => none
def cblk_Block_Significant_J (R : Type) (k : Nat) : JTab R := cblk_Block_Significant_Jt k
def cblk_Block_Significant_at : AT := (.seq (.reg [0, 1, 2] []) (.seq (.reg [7] []) (.seq (.reg [6] []) .leaf)))
def cblk_Block_Significant_f : IFn := ⟨20, [.t 6], (.seq (.reg [⟨some 6, .mov (.c (Go.Value.bool false)), none⟩] [0, 1, 2]) (.seq (.reg [⟨some 8, .mov (.t 0), none⟩,
 ⟨some 9, .mov (.t 1), none⟩,
 ⟨some 10, .mov (.t 2), none⟩,
 ⟨some 11, .call 46 [(.t 8), (.t 9), (.t 10)] (.one (.sc .ptr)), none⟩,
 ⟨some 7, .mov (.t 11), none⟩] [7]) (.seq (.reg [⟨some 12, .mov (.t 7), none⟩,
 ⟨some 13, .eqnil (.t 12) true 0, none⟩,
 ⟨some 14, .mov (.t 13), none⟩,
 ⟨some 15, .mov (.t 7), some (14, true)⟩,
 ⟨some 16, .nilc (.t 15), some (14, true)⟩,
 ⟨some 17, .fad 1 (.t 16), some (14, true)⟩,
 ⟨some 18, .ld (.sc .bool) (.t 17), some (14, true)⟩,
 ⟨some 19, .pick (.t 14) (.t 18) (.c (Go.Value.bool false)), none⟩,
 ⟨some 6, .mov (.t 19), none⟩] [6]) .ret)))⟩
def cblk_Block_Significant_ca {R : Type} (f : Option Addr → Int → Int → Heap → (Bool → Option R) → Option R) (args : List Value) (H : Heap) (K : Value → Heap → Option R) : Option R :=
  match args with
  | [.pointer p214, .int .i64 n215, .int .i64 n216] => f p214 n215 n216 H (fun t1120 => K (.bool t1120) H)
  | _ => none
def cblk_Block_Significant_c (R : Type) (k : Nat) (args : List Value) (H : Heap) (K : Value → Heap → Option R) : Option R := cblk_Block_Significant_ca (cblk_Block_Significant k) args H K
theorem cblk_Block_Significant_e {R : Type} (cblk_Block_at : Option Addr → Int → Int → Heap → (Option Addr → Option R) → Option R) (k : Nat) (p214 : Option Addr) (n215 : Int) (n216 : Int) (H : Heap) (K : Value → Heap → Option R) : evF (cblk_Block_Significant_Ct cblk_Block_at) (cblk_Block_Significant_Jt k) cblk_Block_Significant_f [.pointer p214, .int .i64 n215, .int .i64 n216] H K = cblk_Block_Significant_b cblk_Block_at k p214 n215 n216 H (fun t1120 => K (.bool t1120) H) := by kernel_rfl
theorem cblk_Block_Significant_cs (R : Type) (k : Nat) : ∀ args H K r, cblk_Block_Significant_c R k args H K = some r → ∃ v H', Tri Try.prog 25 args H v H' ∧ K v H' = some r := by
  intro args H K r h
  unfold cblk_Block_Significant_c cblk_Block_Significant_ca at h
  split at h
  · exact evF_ok (C := cblk_Block_Significant_C R k) (an := An) (t := cblk_Block_Significant_at) (fn := Try.f25) (c := (Try.f25.body.getD .skip)) (ifn := cblk_Block_Significant_f) (cblk_Block_Significant_S R k) (cblk_Block_Significant_J R k) Try.func25 (by kernel_rfl) (by kernel_rfl) (And.intro True.intro (And.intro True.intro (And.intro True.intro True.intro))) rfl (Eq.trans (cblk_Block_Significant_e (cblk_Block_at k) k _ _ _ H K) h)
  · cases h
/-! ### cblk_Block_one: function 48 -/
def cblk_Block_one_b {R : Type} (cblk_Block_Significant : Option Addr → Int → Int → Heap → (Bool → Option R) → Option R) (k : Nat) (p211 : Option Addr) (n212 : Int) (n213 : Int) (H : Heap) (K : Int → Option R) : Option R :=
cblk_Block_Significant p211 n212 n213 H fun t214 =>
bif t214 then (K 1)
 else (K 0)

def cblk_Block_one {R : Type} (k : Nat) (p211 : Option Addr) (n212 : Int) (n213 : Int) (H : Heap) (K : Int → Option R) : Option R := cblk_Block_one_b (cblk_Block_Significant k) k p211 n212 n213 H K

def cblk_Block_one_Ct {R : Type} (cblk_Block_Significant : Option Addr → Int → Int → Heap → (Bool → Option R) → Option R) : Tab R := tcons 25 (cblk_Block_Significant_ca cblk_Block_Significant) <| fun _ _ _ _ => none
def cblk_Block_one_C (R : Type) (k : Nat) : Tab R := cblk_Block_one_Ct (cblk_Block_Significant k)
theorem cblk_Block_one_S (R : Type) (k : Nat) : CSound Try.prog (cblk_Block_one_C R k) := csound_cons (cblk_Block_Significant_cs R k) <| csound_nil
def cblk_Block_one_Jt {R : Type} (k : Nat) : JTab R := fun _ _ _ _ => none
def cblk_Block_one_J (R : Type) (k : Nat) : JTab R := cblk_Block_one_Jt k
def cblk_Block_one_at : AT := (.seq (.reg [0, 1, 2] []) (.seq (.seq (.reg [10] []) (.cond (.seq (.reg [6] []) .leaf) .leaf)) (.seq (.reg [6] []) .leaf)))
def cblk_Block_one_f : IFn := ⟨11, [.t 6], (.seq (.reg [⟨some 6, .mov (.c (Go.Value.int Go.IntKind.i64 0)), none⟩] [0, 1, 2]) (.seq (.seq (.reg [⟨some 7, .mov (.t 0), none⟩,
 ⟨some 8, .mov (.t 1), none⟩,
 ⟨some 9, .mov (.t 2), none⟩,
 ⟨some 10, .call 25 [(.t 7), (.t 8), (.t 9)] (.one (.sc .bool)), none⟩] [10]) (.cond (.t 10) (.seq (.reg [⟨some 6, .mov (.c (Go.Value.int Go.IntKind.i64 1)), none⟩] [6]) .ret) .skip)) (.seq (.reg [⟨some 6, .mov (.c (Go.Value.int Go.IntKind.i64 0)), none⟩] [6]) .ret)))⟩
def cblk_Block_one_ca {R : Type} (f : Option Addr → Int → Int → Heap → (Int → Option R) → Option R) (args : List Value) (H : Heap) (K : Value → Heap → Option R) : Option R :=
  match args with
  | [.pointer p211, .int .i64 n212, .int .i64 n213] => f p211 n212 n213 H (fun n1121 => K (.int .i64 n1121) H)
  | _ => none
def cblk_Block_one_c (R : Type) (k : Nat) (args : List Value) (H : Heap) (K : Value → Heap → Option R) : Option R := cblk_Block_one_ca (cblk_Block_one k) args H K
theorem cblk_Block_one_e {R : Type} (cblk_Block_Significant : Option Addr → Int → Int → Heap → (Bool → Option R) → Option R) (k : Nat) (p211 : Option Addr) (n212 : Int) (n213 : Int) (H : Heap) (K : Value → Heap → Option R) : evF (cblk_Block_one_Ct cblk_Block_Significant) (cblk_Block_one_Jt k) cblk_Block_one_f [.pointer p211, .int .i64 n212, .int .i64 n213] H K = cblk_Block_one_b cblk_Block_Significant k p211 n212 n213 H (fun n1121 => K (.int .i64 n1121) H) := by kernel_rfl
theorem cblk_Block_one_cs (R : Type) (k : Nat) : ∀ args H K r, cblk_Block_one_c R k args H K = some r → ∃ v H', Tri Try.prog 48 args H v H' ∧ K v H' = some r := by
  intro args H K r h
  unfold cblk_Block_one_c cblk_Block_one_ca at h
  split at h
  · exact evF_ok (C := cblk_Block_one_C R k) (an := An) (t := cblk_Block_one_at) (fn := Try.f48) (c := (Try.f48.body.getD .skip)) (ifn := cblk_Block_one_f) (cblk_Block_one_S R k) (cblk_Block_one_J R k) Try.func48 (by kernel_rfl) (by kernel_rfl) (And.intro True.intro (And.intro (And.intro True.intro (And.intro (And.intro True.intro True.intro) True.intro)) (And.intro True.intro True.intro))) rfl (Eq.trans (cblk_Block_one_e (cblk_Block_Significant k) k _ _ _ H K) h)
  · cases h
/-! ### cblk_Block_Neighbors: function 29 -/
def cblk_Block_Neighbors_p0_b {R : Type} (k : Nat) (p216 : Option Addr) (n217 : Int) (n218 : Int) (t219 : Bool) (n220 : Int) (n221 : Int) (n222 : Int) (KN : Option Addr → Int → Int → Int → Int → Int → Bool → Option R) : Option R :=
bif (!t219) then (KN p216 n217 n218 n220 n221 n222 true)
 else (KN p216 n217 n218 n220 n221 n222 ((Int.tmod n218 4) != 3))
def cblk_Block_Neighbors_p0 {R : Type} (k : Nat) (p216 : Option Addr) (n217 : Int) (n218 : Int) (t219 : Bool) (n220 : Int) (n221 : Int) (n222 : Int) (KN : Option Addr → Int → Int → Int → Int → Int → Bool → Option R) : Option R := cblk_Block_Neighbors_p0_b k p216 n217 n218 t219 n220 n221 n222 KN

def cblk_Block_Neighbors_b {R : Type} (cblk_Block_at : Option Addr → Int → Int → Heap → (Option Addr → Option R) → Option R) (cblk_Block_one : Option Addr → Int → Int → Heap → (Int → Option R) → Option R) (cblk_Block_Neighbors_p0 : Option Addr → Int → Int → Bool → Int → Int → Int → (Option Addr → Int → Int → Int → Int → Int → Bool → Option R) → Option R) (k : Nat) (p206 : Option Addr) (n207 : Int) (n208 : Int) (t209 : Bool) (H : Heap) (K : Int → Int → Int → Option R) : Option R :=
cblk_Block_at p206 n207 n208 H fun p210 =>
bif p210.isNone then (K 0 0 0)
 else (cblk_Block_one p206 (IntKind.wrap .i64 (n207 - 1)) n208 H fun n211 =>
cblk_Block_one p206 (IntKind.wrap .i64 (n207 + 1)) n208 H fun n212 =>
cblk_Block_one p206 n207 (IntKind.wrap .i64 (n208 - 1)) H fun n213 =>
cblk_Block_one p206 (IntKind.wrap .i64 (n207 - 1)) (IntKind.wrap .i64 (n208 - 1)) H fun n214 =>
cblk_Block_one p206 (IntKind.wrap .i64 (n207 + 1)) (IntKind.wrap .i64 (n208 - 1)) H fun n215 =>
cblk_Block_Neighbors_p0 p206 n207 n208 t209 (IntKind.wrap .i64 (n211 + n212)) n213 (IntKind.wrap .i64 (n214 + n215)) (fun p230 n231 n232 n233 n234 n235 t236 =>
bif t236 then (cblk_Block_one p230 n231 (IntKind.wrap .i64 (n232 + 1)) H fun n237 =>
cblk_Block_one p230 (IntKind.wrap .i64 (n231 - 1)) (IntKind.wrap .i64 (n232 + 1)) H fun n238 =>
cblk_Block_one p230 (IntKind.wrap .i64 (n231 + 1)) (IntKind.wrap .i64 (n232 + 1)) H fun n239 =>
K n233 (IntKind.wrap .i64 (n234 + n237)) (IntKind.wrap .i64 (n235 + (IntKind.wrap .i64 (n238 + n239)))))
 else (K n233 n234 n235)))

def cblk_Block_Neighbors {R : Type} (k : Nat) (p206 : Option Addr) (n207 : Int) (n208 : Int) (t209 : Bool) (H : Heap) (K : Int → Int → Int → Option R) : Option R := cblk_Block_Neighbors_b (cblk_Block_at k) (cblk_Block_one k) (cblk_Block_Neighbors_p0 k) k p206 n207 n208 t209 H K

def cblk_Block_Neighbors_Ct {R : Type} (cblk_Block_at : Option Addr → Int → Int → Heap → (Option Addr → Option R) → Option R) (cblk_Block_one : Option Addr → Int → Int → Heap → (Int → Option R) → Option R) : Tab R := tcons 46 (cblk_Block_at_ca cblk_Block_at) <| tcons 48 (cblk_Block_one_ca cblk_Block_one) <| fun _ _ _ _ => none
def cblk_Block_Neighbors_C (R : Type) (k : Nat) : Tab R := cblk_Block_Neighbors_Ct (cblk_Block_at k) (cblk_Block_one k)
theorem cblk_Block_Neighbors_S (R : Type) (k : Nat) : CSound Try.prog (cblk_Block_Neighbors_C R k) := csound_cons (cblk_Block_at_cs R k) <| csound_cons (cblk_Block_one_cs R k) <| csound_nil
def cblk_Block_Neighbors_aa0 {R : Type} (f : Option Addr → Int → Int → Bool → Int → Int → Int → (Option Addr → Int → Int → Int → Int → Int → Bool → Option R) → Option R) (n : Nat) (vals : List Value) (H : Heap) (K : Xit → Env → Heap → Option R) : Option R :=
  match vals with
  | [.pointer p216, .int .i64 n217, .int .i64 n218, .bool t219, .int .i64 n220, .int .i64 n221, .int .i64 n222] => f p216 n217 n218 t219 n220 n221 n222 (fun p1122 n1123 n1124 n1125 n1126 n1127 t1128 => K .normal [(0, .pointer p1122), (1, .int .i64 n1123), (2, .int .i64 n1124), (8, .int .i64 n1125), (9, .int .i64 n1126), (10, .int .i64 n1127), (51, .bool t1128)] H)
  | _ => none
def cblk_Block_Neighbors_a0 (R : Type) (k n : Nat) (vals : List Value) (H : Heap) (K : Xit → Env → Heap → Option R) : Option R := cblk_Block_Neighbors_aa0 (cblk_Block_Neighbors_p0 k) n vals H K
def cblk_Block_Neighbors_Jt {R : Type} (k : Nat) (cblk_Block_Neighbors_p0 : Option Addr → Int → Int → Bool → Int → Int → Int → (Option Addr → Int → Int → Int → Int → Int → Bool → Option R) → Option R) : JTab R := tcons 0 (cblk_Block_Neighbors_aa0 cblk_Block_Neighbors_p0 k) <| fun _ _ _ _ => none
def cblk_Block_Neighbors_J (R : Type) (k : Nat) : JTab R := cblk_Block_Neighbors_Jt k (cblk_Block_Neighbors_p0 k)
def cblk_Block_Neighbors_at : AT := (.seq (.reg [0, 1, 2, 3] []) (.seq (.seq (.reg [0, 1, 2, 3, 15] []) (.cond (.seq (.reg [8, 9, 10] []) .leaf) .leaf)) (.seq (.reg [0, 1, 2, 3, 8] []) (.seq (.reg [0, 1, 2, 3, 8, 9] []) (.seq (.reg [0, 1, 2, 3, 8, 9, 10] []) (.seq (.seq (.opq 0 [0, 1, 2, 3, 8, 9, 10] ⟨[0, 1, 2, 8, 9, 10, 51], [], []⟩ (.reg [0, 1, 2, 8, 9, 10, 51] [])) (.cond (.seq (.reg [0, 1, 2, 8, 9, 10] []) (.reg [8, 9, 10] [])) .leaf)) (.seq (.reg [8, 9, 10] []) .leaf)))))))
def cblk_Block_Neighbors_i0 : IC := (.reg [⟨some 45, .mov (.t 3), none⟩,
 ⟨some 46, .lnot (.t 45), none⟩,
 ⟨some 47, .mov (.t 46), none⟩,
 ⟨some 48, .mov (.t 2), some (47, false)⟩,
 ⟨some 49, .bin .rem .i64 (.t 48) (.c (Go.Value.int Go.IntKind.i64 4)), some (47, false)⟩,
 ⟨some 50, .cmp .neq (.t 49) (.c (Go.Value.int Go.IntKind.i64 3)), some (47, false)⟩,
 ⟨some 51, .pick (.t 47) (.c (Go.Value.bool true)) (.t 50), none⟩] [0, 1, 2, 8, 9, 10, 51])
def cblk_Block_Neighbors_f : IFn := ⟨77, [.t 8, .t 9, .t 10], (.seq (.reg [⟨some 8, .mov (.c (Go.Value.int Go.IntKind.i64 0)), none⟩,
 ⟨some 9, .mov (.c (Go.Value.int Go.IntKind.i64 0)), none⟩,
 ⟨some 10, .mov (.c (Go.Value.int Go.IntKind.i64 0)), none⟩] [0, 1, 2, 3]) (.seq (.seq (.reg [⟨some 11, .mov (.t 0), none⟩,
 ⟨some 12, .mov (.t 1), none⟩,
 ⟨some 13, .mov (.t 2), none⟩,
 ⟨some 14, .call 46 [(.t 11), (.t 12), (.t 13)] (.one (.sc .ptr)), none⟩,
 ⟨some 15, .eqnil (.t 14) false 0, none⟩] [0, 1, 2, 3, 15]) (.cond (.t 15) (.seq (.reg [⟨some 8, .mov (.c (Go.Value.int Go.IntKind.i64 0)), none⟩,
 ⟨some 9, .mov (.c (Go.Value.int Go.IntKind.i64 0)), none⟩,
 ⟨some 10, .mov (.c (Go.Value.int Go.IntKind.i64 0)), none⟩] [8, 9, 10]) .ret) .skip)) (.seq (.reg [⟨some 16, .mov (.t 0), none⟩,
 ⟨some 17, .mov (.t 1), none⟩,
 ⟨some 18, .bin .sub .i64 (.t 17) (.c (Go.Value.int Go.IntKind.i64 1)), none⟩,
 ⟨some 19, .mov (.t 2), none⟩,
 ⟨some 20, .call 48 [(.t 16), (.t 18), (.t 19)] (.one (.sc (.int .i64))), none⟩,
 ⟨some 21, .mov (.t 0), none⟩,
 ⟨some 22, .mov (.t 1), none⟩,
 ⟨some 23, .bin .add .i64 (.t 22) (.c (Go.Value.int Go.IntKind.i64 1)), none⟩,
 ⟨some 24, .mov (.t 2), none⟩,
 ⟨some 25, .call 48 [(.t 21), (.t 23), (.t 24)] (.one (.sc (.int .i64))), none⟩,
 ⟨some 26, .bin .add .i64 (.t 20) (.t 25), none⟩,
 ⟨some 8, .mov (.t 26), none⟩] [0, 1, 2, 3, 8]) (.seq (.reg [⟨some 27, .mov (.t 0), none⟩,
 ⟨some 28, .mov (.t 1), none⟩,
 ⟨some 29, .mov (.t 2), none⟩,
 ⟨some 30, .bin .sub .i64 (.t 29) (.c (Go.Value.int Go.IntKind.i64 1)), none⟩,
 ⟨some 31, .call 48 [(.t 27), (.t 28), (.t 30)] (.one (.sc (.int .i64))), none⟩,
 ⟨some 9, .mov (.t 31), none⟩] [0, 1, 2, 3, 8, 9]) (.seq (.reg [⟨some 32, .mov (.t 0), none⟩,
 ⟨some 33, .mov (.t 1), none⟩,
 ⟨some 34, .bin .sub .i64 (.t 33) (.c (Go.Value.int Go.IntKind.i64 1)), none⟩,
 ⟨some 35, .mov (.t 2), none⟩,
 ⟨some 36, .bin .sub .i64 (.t 35) (.c (Go.Value.int Go.IntKind.i64 1)), none⟩,
 ⟨some 37, .call 48 [(.t 32), (.t 34), (.t 36)] (.one (.sc (.int .i64))), none⟩,
 ⟨some 38, .mov (.t 0), none⟩,
 ⟨some 39, .mov (.t 1), none⟩,
 ⟨some 40, .bin .add .i64 (.t 39) (.c (Go.Value.int Go.IntKind.i64 1)), none⟩,
 ⟨some 41, .mov (.t 2), none⟩,
 ⟨some 42, .bin .sub .i64 (.t 41) (.c (Go.Value.int Go.IntKind.i64 1)), none⟩,
 ⟨some 43, .call 48 [(.t 38), (.t 40), (.t 42)] (.one (.sc (.int .i64))), none⟩,
 ⟨some 44, .bin .add .i64 (.t 37) (.t 43), none⟩,
 ⟨some 10, .mov (.t 44), none⟩] [0, 1, 2, 3, 8, 9, 10]) (.seq (.seq (.opq 0 [0, 1, 2, 3, 8, 9, 10] cblk_Block_Neighbors_i0) (.cond (.t 51) (.seq (.reg [⟨some 52, .mov (.t 9), none⟩,
 ⟨some 53, .mov (.t 0), none⟩,
 ⟨some 54, .mov (.t 1), none⟩,
 ⟨some 55, .mov (.t 2), none⟩,
 ⟨some 56, .bin .add .i64 (.t 55) (.c (Go.Value.int Go.IntKind.i64 1)), none⟩,
 ⟨some 57, .call 48 [(.t 53), (.t 54), (.t 56)] (.one (.sc (.int .i64))), none⟩,
 ⟨some 58, .bin .add .i64 (.t 52) (.t 57), none⟩,
 ⟨some 9, .mov (.t 58), none⟩] [0, 1, 2, 8, 9, 10]) (.reg [⟨some 59, .mov (.t 10), none⟩,
 ⟨some 60, .mov (.t 0), none⟩,
 ⟨some 61, .mov (.t 1), none⟩,
 ⟨some 62, .bin .sub .i64 (.t 61) (.c (Go.Value.int Go.IntKind.i64 1)), none⟩,
 ⟨some 63, .mov (.t 2), none⟩,
 ⟨some 64, .bin .add .i64 (.t 63) (.c (Go.Value.int Go.IntKind.i64 1)), none⟩,
 ⟨some 65, .call 48 [(.t 60), (.t 62), (.t 64)] (.one (.sc (.int .i64))), none⟩,
 ⟨some 66, .mov (.t 0), none⟩,
 ⟨some 67, .mov (.t 1), none⟩,
 ⟨some 68, .bin .add .i64 (.t 67) (.c (Go.Value.int Go.IntKind.i64 1)), none⟩,
 ⟨some 69, .mov (.t 2), none⟩,
 ⟨some 70, .bin .add .i64 (.t 69) (.c (Go.Value.int Go.IntKind.i64 1)), none⟩,
 ⟨some 71, .call 48 [(.t 66), (.t 68), (.t 70)] (.one (.sc (.int .i64))), none⟩,
 ⟨some 72, .bin .add .i64 (.t 65) (.t 71), none⟩,
 ⟨some 73, .bin .add .i64 (.t 59) (.t 72), none⟩,
 ⟨some 10, .mov (.t 73), none⟩] [8, 9, 10])) .skip)) (.seq (.reg [⟨some 74, .mov (.t 8), none⟩,
 ⟨some 75, .mov (.t 9), none⟩,
 ⟨some 76, .mov (.t 10), none⟩,
 ⟨some 8, .mov (.t 74), none⟩,
 ⟨some 9, .mov (.t 75), none⟩,
 ⟨some 10, .mov (.t 76), none⟩] [8, 9, 10]) .ret)))))))⟩
theorem cblk_Block_Neighbors_e0 {R : Type} (cblk_Block_at : Option Addr → Int → Int → Heap → (Option Addr → Option R) → Option R) (cblk_Block_one : Option Addr → Int → Int → Heap → (Int → Option R) → Option R) (cblk_Block_Neighbors_p0 : Option Addr → Int → Int → Bool → Int → Int → Int → (Option Addr → Int → Int → Int → Int → Int → Bool → Option R) → Option R) (k : Nat) (p216 : Option Addr) (n217 : Int) (n218 : Int) (t219 : Bool) (n220 : Int) (n221 : Int) (n222 : Int) (H : Heap) (K : Xit → Env → Heap → Option R) : evJ (cblk_Block_Neighbors_Ct cblk_Block_at cblk_Block_one) (cblk_Block_Neighbors_Jt k cblk_Block_Neighbors_p0) cblk_Block_Neighbors_i0 (List.zip [0, 1, 2, 3, 8, 9, 10] [.pointer p216, .int .i64 n217, .int .i64 n218, .bool t219, .int .i64 n220, .int .i64 n221, .int .i64 n222]) H (fun x e' H' => K x (clean e' ((⟨[0, 1, 2, 8, 9, 10, 51], [], []⟩ : Out).of x)) H') = cblk_Block_Neighbors_p0_b k p216 n217 n218 t219 n220 n221 n222 (fun p1122 n1123 n1124 n1125 n1126 n1127 t1128 => K .normal [(0, .pointer p1122), (1, .int .i64 n1123), (2, .int .i64 n1124), (8, .int .i64 n1125), (9, .int .i64 n1126), (10, .int .i64 n1127), (51, .bool t1128)] H) := by kernel_rfl
theorem cblk_Block_Neighbors_j0 {R : Type} (k : Nat) : JS Try.prog 77 (cblk_Block_Neighbors_a0 R k k) [0, 1, 2, 3, 8, 9, 10] ⟨[0, 1, 2, 8, 9, 10, 51], [], []⟩ (sel [1, 1, 1, 1, 1, 0, 0] (Try.f29.body.getD .skip)) :=
  piece_ok (nt := 77) (c := (sel [1, 1, 1, 1, 1, 0, 0] (Try.f29.body.getD .skip))) (C := cblk_Block_Neighbors_C R k) (an := An) (t := (.reg [0, 1, 2, 8, 9, 10, 51] [])) (ic := cblk_Block_Neighbors_i0) (cblk_Block_Neighbors_S R k) (cblk_Block_Neighbors_J R k) (by kernel_rfl) True.intro (cblk_Block_Neighbors_a0 R k k)
    (fun vals H K r h => by
      unfold cblk_Block_Neighbors_a0 cblk_Block_Neighbors_aa0 at h
      split at h <;> first | (cases h; done) | exact Eq.trans (cblk_Block_Neighbors_e0 (cblk_Block_at k) (cblk_Block_one k) (cblk_Block_Neighbors_p0 k) k _ _ _ _ _ _ _ H K) h)
def cblk_Block_Neighbors_ca {R : Type} (f : Option Addr → Int → Int → Bool → Heap → (Int → Int → Int → Option R) → Option R) (args : List Value) (H : Heap) (K : Value → Heap → Option R) : Option R :=
  match args with
  | [.pointer p206, .int .i64 n207, .int .i64 n208, .bool t209] => f p206 n207 n208 t209 H (fun n1129 n1130 n1131 => K (.tuple ⟨[.int .i64 n1129, .int .i64 n1130, .int .i64 n1131]⟩) H)
  | _ => none
def cblk_Block_Neighbors_c (R : Type) (k : Nat) (args : List Value) (H : Heap) (K : Value → Heap → Option R) : Option R := cblk_Block_Neighbors_ca (cblk_Block_Neighbors k) args H K
theorem cblk_Block_Neighbors_e {R : Type} (cblk_Block_at : Option Addr → Int → Int → Heap → (Option Addr → Option R) → Option R) (cblk_Block_one : Option Addr → Int → Int → Heap → (Int → Option R) → Option R) (cblk_Block_Neighbors_p0 : Option Addr → Int → Int → Bool → Int → Int → Int → (Option Addr → Int → Int → Int → Int → Int → Bool → Option R) → Option R) (k : Nat) (p206 : Option Addr) (n207 : Int) (n208 : Int) (t209 : Bool) (H : Heap) (K : Value → Heap → Option R) : evF (cblk_Block_Neighbors_Ct cblk_Block_at cblk_Block_one) (cblk_Block_Neighbors_Jt k cblk_Block_Neighbors_p0) cblk_Block_Neighbors_f [.pointer p206, .int .i64 n207, .int .i64 n208, .bool t209] H K = cblk_Block_Neighbors_b cblk_Block_at cblk_Block_one cblk_Block_Neighbors_p0 k p206 n207 n208 t209 H (fun n1129 n1130 n1131 => K (.tuple ⟨[.int .i64 n1129, .int .i64 n1130, .int .i64 n1131]⟩) H) := by kernel_rfl
theorem cblk_Block_Neighbors_cs (R : Type) (k : Nat) : ∀ args H K r, cblk_Block_Neighbors_c R k args H K = some r → ∃ v H', Tri Try.prog 29 args H v H' ∧ K v H' = some r := by
  intro args H K r h
  unfold cblk_Block_Neighbors_c cblk_Block_Neighbors_ca at h
  split at h
  · exact evF_ok (C := cblk_Block_Neighbors_C R k) (an := An) (t := cblk_Block_Neighbors_at) (fn := Try.f29) (c := (Try.f29.body.getD .skip)) (ifn := cblk_Block_Neighbors_f) (cblk_Block_Neighbors_S R k) (cblk_Block_Neighbors_J R k) Try.func29 (by kernel_rfl) (by kernel_rfl) (And.intro True.intro (And.intro (And.intro True.intro (And.intro (And.intro True.intro True.intro) True.intro)) (And.intro True.intro (And.intro True.intro (And.intro True.intro (And.intro (And.intro (cblk_Block_Neighbors_j0 k) (And.intro (And.intro True.intro True.intro) True.intro)) (And.intro True.intro True.intro))))))) rfl (Eq.trans (cblk_Block_Neighbors_e (cblk_Block_at k) (cblk_Block_one k) (cblk_Block_Neighbors_p0 k) k _ _ _ _ H K) h)
  · cases h
/-! ### cblk_Block_sign: function 49 -/
def cblk_Block_sign_p0_b {R : Type} (k : Nat) (p275 : Option Addr) (H : Heap) (KN : Option Addr → Option R) (KR : Int → Option R) : Option R :=
bif p275.isNone then (KR 0)
 else (hnil p275 fun p276 =>
hfad 1 p276 fun p277 =>
ldB H p277 fun t278 =>
bif (!t278) then (KR 0)
 else (KN p275))
def cblk_Block_sign_p0 {R : Type} (k : Nat) (p275 : Option Addr) (H : Heap) (KN : Option Addr → Option R) (KR : Int → Option R) : Option R := cblk_Block_sign_p0_b k p275 H KN KR

def cblk_Block_sign_b {R : Type} (cblk_Block_at : Option Addr → Int → Int → Heap → (Option Addr → Option R) → Option R) (cblk_Block_sign_p0 : Option Addr → Heap → (Option Addr → Option R) → (Int → Option R) → Option R) (k : Nat) (p271 : Option Addr) (n272 : Int) (n273 : Int) (H : Heap) (K : Int → Option R) : Option R :=
cblk_Block_at p271 n272 n273 H fun p274 =>
cblk_Block_sign_p0 p274 H (fun p281 =>
hnil p281 fun p282 =>
hfad 0 p282 fun p283 =>
ldI .i64 H p283 fun n284 =>
bif decide (n284 < 0) then (K (-1))
 else (K 1)) (fun n285 =>
K n285)

def cblk_Block_sign {R : Type} (k : Nat) (p271 : Option Addr) (n272 : Int) (n273 : Int) (H : Heap) (K : Int → Option R) : Option R := cblk_Block_sign_b (cblk_Block_at k) (cblk_Block_sign_p0 k) k p271 n272 n273 H K

def cblk_Block_sign_Ct {R : Type} (cblk_Block_at : Option Addr → Int → Int → Heap → (Option Addr → Option R) → Option R) : Tab R := tcons 46 (cblk_Block_at_ca cblk_Block_at) <| fun _ _ _ _ => none
def cblk_Block_sign_C (R : Type) (k : Nat) : Tab R := cblk_Block_sign_Ct (cblk_Block_at k)
theorem cblk_Block_sign_S (R : Type) (k : Nat) : CSound Try.prog (cblk_Block_sign_C R k) := csound_cons (cblk_Block_at_cs R k) <| csound_nil
def cblk_Block_sign_aa0 {R : Type} (f : Option Addr → Heap → (Option Addr → Option R) → (Int → Option R) → Option R) (n : Nat) (vals : List Value) (H : Heap) (K : Xit → Env → Heap → Option R) : Option R :=
  match vals with
  | [.pointer p275] => f p275 H (fun p1132 => K .normal [(7, .pointer p1132)] H) (fun n1133 => K .ret [(6, .int .i64 n1133)] H)
  | _ => none
def cblk_Block_sign_a0 (R : Type) (k n : Nat) (vals : List Value) (H : Heap) (K : Xit → Env → Heap → Option R) : Option R := cblk_Block_sign_aa0 (cblk_Block_sign_p0 k) n vals H K
def cblk_Block_sign_Jt {R : Type} (k : Nat) (cblk_Block_sign_p0 : Option Addr → Heap → (Option Addr → Option R) → (Int → Option R) → Option R) : JTab R := tcons 0 (cblk_Block_sign_aa0 cblk_Block_sign_p0 k) <| fun _ _ _ _ => none
def cblk_Block_sign_J (R : Type) (k : Nat) : JTab R := cblk_Block_sign_Jt k (cblk_Block_sign_p0 k)
def cblk_Block_sign_at : AT := (.seq (.reg [0, 1, 2] []) (.seq (.reg [7] []) (.seq (.opq 0 [7] ⟨[7], [], [6]⟩ (.seq (.reg [7, 20] []) (.cond (.seq (.reg [6] []) .leaf) .leaf))) (.seq (.seq (.reg [25] []) (.cond (.seq (.reg [6] []) .leaf) .leaf)) (.seq (.reg [6] []) .leaf)))))
def cblk_Block_sign_i0 : IC := (.seq (.reg [⟨some 12, .mov (.t 7), none⟩,
 ⟨some 13, .eqnil (.t 12) false 0, none⟩,
 ⟨some 14, .mov (.t 13), none⟩,
 ⟨some 15, .mov (.t 7), some (14, false)⟩,
 ⟨some 16, .nilc (.t 15), some (14, false)⟩,
 ⟨some 17, .fad 1 (.t 16), some (14, false)⟩,
 ⟨some 18, .ld (.sc .bool) (.t 17), some (14, false)⟩,
 ⟨some 19, .lnot (.t 18), some (14, false)⟩,
 ⟨some 20, .pick (.t 14) (.c (Go.Value.bool true)) (.t 19), none⟩] [7, 20]) (.cond (.t 20) (.seq (.reg [⟨some 6, .mov (.c (Go.Value.int Go.IntKind.i64 0)), none⟩] [6]) .ret) .skip))
def cblk_Block_sign_f : IFn := ⟨26, [.t 6], (.seq (.reg [⟨some 6, .mov (.c (Go.Value.int Go.IntKind.i64 0)), none⟩] [0, 1, 2]) (.seq (.reg [⟨some 8, .mov (.t 0), none⟩,
 ⟨some 9, .mov (.t 1), none⟩,
 ⟨some 10, .mov (.t 2), none⟩,
 ⟨some 11, .call 46 [(.t 8), (.t 9), (.t 10)] (.one (.sc .ptr)), none⟩,
 ⟨some 7, .mov (.t 11), none⟩] [7]) (.seq (.opq 0 [7] cblk_Block_sign_i0) (.seq (.seq (.reg [⟨some 21, .mov (.t 7), none⟩,
 ⟨some 22, .nilc (.t 21), none⟩,
 ⟨some 23, .fad 0 (.t 22), none⟩,
 ⟨some 24, .ld (.sc (.int .i64)) (.t 23), none⟩,
 ⟨some 25, .cmp .lss (.t 24) (.c (Go.Value.int Go.IntKind.i64 0)), none⟩] [25]) (.cond (.t 25) (.seq (.reg [⟨some 6, .mov (.c (Go.Value.int Go.IntKind.i64 (-1))), none⟩] [6]) .ret) .skip)) (.seq (.reg [⟨some 6, .mov (.c (Go.Value.int Go.IntKind.i64 1)), none⟩] [6]) .ret)))))⟩
theorem cblk_Block_sign_e0 {R : Type} (cblk_Block_at : Option Addr → Int → Int → Heap → (Option Addr → Option R) → Option R) (cblk_Block_sign_p0 : Option Addr → Heap → (Option Addr → Option R) → (Int → Option R) → Option R) (k : Nat) (p275 : Option Addr) (H : Heap) (K : Xit → Env → Heap → Option R) : evJ (cblk_Block_sign_Ct cblk_Block_at) (cblk_Block_sign_Jt k cblk_Block_sign_p0) cblk_Block_sign_i0 (List.zip [7] [.pointer p275]) H (fun x e' H' => K x (clean e' ((⟨[7], [], [6]⟩ : Out).of x)) H') = cblk_Block_sign_p0_b k p275 H (fun p1132 => K .normal [(7, .pointer p1132)] H) (fun n1133 => K .ret [(6, .int .i64 n1133)] H) := by kernel_rfl
theorem cblk_Block_sign_j0 {R : Type} (k : Nat) : JS Try.prog 26 (cblk_Block_sign_a0 R k k) [7] ⟨[7], [], [6]⟩ (sel [1, 1, 0] (Try.f49.body.getD .skip)) :=
  piece_ok (nt := 26) (c := (sel [1, 1, 0] (Try.f49.body.getD .skip))) (C := cblk_Block_sign_C R k) (an := An) (t := (.seq (.reg [7, 20] []) (.cond (.seq (.reg [6] []) .leaf) .leaf))) (ic := cblk_Block_sign_i0) (cblk_Block_sign_S R k) (cblk_Block_sign_J R k) (by kernel_rfl) (And.intro True.intro (And.intro (And.intro True.intro True.intro) True.intro)) (cblk_Block_sign_a0 R k k)
    (fun vals H K r h => by
      unfold cblk_Block_sign_a0 cblk_Block_sign_aa0 at h
      split at h <;> first | (cases h; done) | exact Eq.trans (cblk_Block_sign_e0 (cblk_Block_at k) (cblk_Block_sign_p0 k) k _ H K) h)
def cblk_Block_sign_ca {R : Type} (f : Option Addr → Int → Int → Heap → (Int → Option R) → Option R) (args : List Value) (H : Heap) (K : Value → Heap → Option R) : Option R :=
  match args with
  | [.pointer p271, .int .i64 n272, .int .i64 n273] => f p271 n272 n273 H (fun n1134 => K (.int .i64 n1134) H)
  | _ => none
def cblk_Block_sign_c (R : Type) (k : Nat) (args : List Value) (H : Heap) (K : Value → Heap → Option R) : Option R := cblk_Block_sign_ca (cblk_Block_sign k) args H K
theorem cblk_Block_sign_e {R : Type} (cblk_Block_at : Option Addr → Int → Int → Heap → (Option Addr → Option R) → Option R) (cblk_Block_sign_p0 : Option Addr → Heap → (Option Addr → Option R) → (Int → Option R) → Option R) (k : Nat) (p271 : Option Addr) (n272 : Int) (n273 : Int) (H : Heap) (K : Value → Heap → Option R) : evF (cblk_Block_sign_Ct cblk_Block_at) (cblk_Block_sign_Jt k cblk_Block_sign_p0) cblk_Block_sign_f [.pointer p271, .int .i64 n272, .int .i64 n273] H K = cblk_Block_sign_b cblk_Block_at cblk_Block_sign_p0 k p271 n272 n273 H (fun n1134 => K (.int .i64 n1134) H) := by kernel_rfl
theorem cblk_Block_sign_cs (R : Type) (k : Nat) : ∀ args H K r, cblk_Block_sign_c R k args H K = some r → ∃ v H', Tri Try.prog 49 args H v H' ∧ K v H' = some r := by
  intro args H K r h
  unfold cblk_Block_sign_c cblk_Block_sign_ca at h
  split at h
  · exact evF_ok (C := cblk_Block_sign_C R k) (an := An) (t := cblk_Block_sign_at) (fn := Try.f49) (c := (Try.f49.body.getD .skip)) (ifn := cblk_Block_sign_f) (cblk_Block_sign_S R k) (cblk_Block_sign_J R k) Try.func49 (by kernel_rfl) (by kernel_rfl) (And.intro True.intro (And.intro True.intro (And.intro (cblk_Block_sign_j0 k) (And.intro (And.intro True.intro (And.intro (And.intro True.intro True.intro) True.intro)) (And.intro True.intro True.intro))))) rfl (Eq.trans (cblk_Block_sign_e (cblk_Block_at k) (cblk_Block_sign_p0 k) k _ _ _ H K) h)
  · cases h
/-! ### cblk_joint: function 50 -/
def cblk_joint_b {R : Type} (k : Nat) (n282 : Int) (n283 : Int) (K : Int → Option R) : Option R :=
K (imn (imx (IntKind.wrap .i64 (n282 + n283)) (-1)) 1)

def cblk_joint {R : Type} (n282 : Int) (n283 : Int) (K : Int → Option R) : Option R := cblk_joint_b 0 n282 n283 K

def cblk_joint_Ct {R : Type} : Tab R := fun _ _ _ _ => none
def cblk_joint_C (R : Type) (k : Nat) : Tab R := cblk_joint_Ct
theorem cblk_joint_S (R : Type) (k : Nat) : CSound Try.prog (cblk_joint_C R k) := csound_nil
def cblk_joint_Jt {R : Type} (k : Nat) : JTab R := fun _ _ _ _ => none
def cblk_joint_J (R : Type) (k : Nat) : JTab R := cblk_joint_Jt k
def cblk_joint_at : AT := (.seq (.reg [0, 1] []) (.seq (.reg [4] []) .leaf))
def cblk_joint_f : IFn := ⟨10, [.t 4], (.seq (.reg [⟨some 4, .mov (.c (Go.Value.int Go.IntKind.i64 0)), none⟩] [0, 1]) (.seq (.reg [⟨some 5, .mov (.t 0), none⟩,
 ⟨some 6, .mov (.t 1), none⟩,
 ⟨some 7, .bin .add .i64 (.t 5) (.t 6), none⟩,
 ⟨some 8, .mx (.t 7) (.c (Go.Value.int Go.IntKind.i64 (-1))), none⟩,
 ⟨some 9, .mn (.t 8) (.c (Go.Value.int Go.IntKind.i64 1)), none⟩,
 ⟨some 4, .mov (.t 9), none⟩] [4]) .ret))⟩
def cblk_joint_ca {R : Type} (f : Int → Int → (Int → Option R) → Option R) (args : List Value) (H : Heap) (K : Value → Heap → Option R) : Option R :=
  match args with
  | [.int .i64 n282, .int .i64 n283] => f n282 n283 (fun n1135 => K (.int .i64 n1135) H)
  | _ => none
def cblk_joint_c (R : Type) (k : Nat) (args : List Value) (H : Heap) (K : Value → Heap → Option R) : Option R := cblk_joint_ca cblk_joint args H K
theorem cblk_joint_e {R : Type} (k : Nat) (n282 : Int) (n283 : Int) (H : Heap) (K : Value → Heap → Option R) : evF (cblk_joint_Ct) (cblk_joint_Jt k) cblk_joint_f [.int .i64 n282, .int .i64 n283] H K = cblk_joint_b k n282 n283 (fun n1135 => K (.int .i64 n1135) H) := by kernel_rfl
theorem cblk_joint_cs (R : Type) (k : Nat) : ∀ args H K r, cblk_joint_c R k args H K = some r → ∃ v H', Tri Try.prog 50 args H v H' ∧ K v H' = some r := by
  intro args H K r h
  unfold cblk_joint_c cblk_joint_ca at h
  split at h
  · exact evF_ok (C := cblk_joint_C R 0) (an := An) (t := cblk_joint_at) (fn := Try.f50) (c := (Try.f50.body.getD .skip)) (ifn := cblk_joint_f) (cblk_joint_S R 0) (cblk_joint_J R 0) Try.func50 (by kernel_rfl) (by kernel_rfl) (And.intro True.intro (And.intro True.intro True.intro)) rfl (Eq.trans (cblk_joint_e 0 _ _ H K) h)
  · cases h
/-! ### cblk_Block_Signs: function 30 -/
def cblk_Block_Signs_p1_b {R : Type} (k : Nat) (p256 : Option Addr) (n257 : Int) (n258 : Int) (t259 : Bool) (n260 : Int) (KN : Option Addr → Int → Int → Int → Bool → Option R) : Option R :=
bif (!t259) then (KN p256 n257 n258 n260 true)
 else (KN p256 n257 n258 n260 ((Int.tmod n258 4) != 3))
def cblk_Block_Signs_p1 {R : Type} (k : Nat) (p256 : Option Addr) (n257 : Int) (n258 : Int) (t259 : Bool) (n260 : Int) (KN : Option Addr → Int → Int → Int → Bool → Option R) : Option R := cblk_Block_Signs_p1_b k p256 n257 n258 t259 n260 KN

def cblk_Block_Signs_p0_b {R : Type} (cblk_Block_Signs_p1 : Option Addr → Int → Int → Bool → Int → (Option Addr → Int → Int → Int → Bool → Option R) → Option R) (cblk_Block_sign : Option Addr → Int → Int → Heap → (Int → Option R) → Option R) (k : Nat) (p251 : Option Addr) (n252 : Int) (n253 : Int) (t254 : Bool) (n255 : Int) (H : Heap) (KN : Option Addr → Int → Int → Int → Option R) : Option R :=
cblk_Block_Signs_p1 p251 n252 n253 t254 n255 (fun p266 n267 n268 n269 t270 =>
bif t270 then (cblk_Block_sign p266 n267 (IntKind.wrap .i64 (n268 + 1)) H fun n271 =>
KN p266 n267 n268 n271)
 else (KN p266 n267 n268 n269))
def cblk_Block_Signs_p0 {R : Type} (k : Nat) (p251 : Option Addr) (n252 : Int) (n253 : Int) (t254 : Bool) (n255 : Int) (H : Heap) (KN : Option Addr → Int → Int → Int → Option R) : Option R := cblk_Block_Signs_p0_b (cblk_Block_Signs_p1 k) (cblk_Block_sign k) k p251 n252 n253 t254 n255 H KN

def cblk_Block_Signs_b {R : Type} (cblk_Block_at : Option Addr → Int → Int → Heap → (Option Addr → Option R) → Option R) (cblk_Block_Signs_p0 : Option Addr → Int → Int → Bool → Int → Heap → (Option Addr → Int → Int → Int → Option R) → Option R) (cblk_Block_sign : Option Addr → Int → Int → Heap → (Int → Option R) → Option R) (cblk_joint : Int → Int → (Int → Option R) → Option R) (k : Nat) (p246 : Option Addr) (n247 : Int) (n248 : Int) (t249 : Bool) (H : Heap) (K : Int → Int → Option R) : Option R :=
cblk_Block_at p246 n247 n248 H fun p250 =>
bif p250.isNone then (K 0 0)
 else (cblk_Block_Signs_p0 p246 n247 n248 t249 0 H (fun p276 n277 n278 n279 =>
cblk_Block_sign p276 (IntKind.wrap .i64 (n277 - 1)) n278 H fun n280 =>
cblk_Block_sign p276 (IntKind.wrap .i64 (n277 + 1)) n278 H fun n281 =>
cblk_joint n280 n281 fun n282 =>
cblk_Block_sign p276 n277 (IntKind.wrap .i64 (n278 - 1)) H fun n283 =>
cblk_joint n283 n279 fun n284 =>
K n282 n284))

def cblk_Block_Signs {R : Type} (k : Nat) (p246 : Option Addr) (n247 : Int) (n248 : Int) (t249 : Bool) (H : Heap) (K : Int → Int → Option R) : Option R := cblk_Block_Signs_b (cblk_Block_at k) (cblk_Block_Signs_p0 k) (cblk_Block_sign k) cblk_joint k p246 n247 n248 t249 H K

def cblk_Block_Signs_Ct {R : Type} (cblk_Block_at : Option Addr → Int → Int → Heap → (Option Addr → Option R) → Option R) (cblk_Block_sign : Option Addr → Int → Int → Heap → (Int → Option R) → Option R) (cblk_joint : Int → Int → (Int → Option R) → Option R) : Tab R := tcons 46 (cblk_Block_at_ca cblk_Block_at) <| tcons 49 (cblk_Block_sign_ca cblk_Block_sign) <| tcons 50 (cblk_joint_ca cblk_joint) <| fun _ _ _ _ => none
def cblk_Block_Signs_C (R : Type) (k : Nat) : Tab R := cblk_Block_Signs_Ct (cblk_Block_at k) (cblk_Block_sign k) cblk_joint
theorem cblk_Block_Signs_S (R : Type) (k : Nat) : CSound Try.prog (cblk_Block_Signs_C R k) := csound_cons (cblk_Block_at_cs R k) <| csound_cons (cblk_Block_sign_cs R k) <| csound_cons (cblk_joint_cs R k) <| csound_nil
def cblk_Block_Signs_aa0 {R : Type} (f : Option Addr → Int → Int → Bool → Int → Heap → (Option Addr → Int → Int → Int → Option R) → Option R) (n : Nat) (vals : List Value) (H : Heap) (K : Xit → Env → Heap → Option R) : Option R :=
  match vals with
  | [.pointer p251, .int .i64 n252, .int .i64 n253, .bool t254, .int .i64 n255] => f p251 n252 n253 t254 n255 H (fun p1136 n1137 n1138 n1139 => K .normal [(0, .pointer p1136), (1, .int .i64 n1137), (2, .int .i64 n1138), (10, .int .i64 n1139)] H)
  | _ => none
def cblk_Block_Signs_a0 (R : Type) (k n : Nat) (vals : List Value) (H : Heap) (K : Xit → Env → Heap → Option R) : Option R := cblk_Block_Signs_aa0 (cblk_Block_Signs_p0 k) n vals H K
def cblk_Block_Signs_aa1 {R : Type} (f : Option Addr → Int → Int → Bool → Int → (Option Addr → Int → Int → Int → Bool → Option R) → Option R) (n : Nat) (vals : List Value) (H : Heap) (K : Xit → Env → Heap → Option R) : Option R :=
  match vals with
  | [.pointer p256, .int .i64 n257, .int .i64 n258, .bool t259, .int .i64 n260] => f p256 n257 n258 t259 n260 (fun p1140 n1141 n1142 n1143 t1144 => K .normal [(0, .pointer p1140), (1, .int .i64 n1141), (2, .int .i64 n1142), (10, .int .i64 n1143), (22, .bool t1144)] H)
  | _ => none
def cblk_Block_Signs_a1 (R : Type) (k n : Nat) (vals : List Value) (H : Heap) (K : Xit → Env → Heap → Option R) : Option R := cblk_Block_Signs_aa1 (cblk_Block_Signs_p1 k) n vals H K
def cblk_Block_Signs_Jt {R : Type} (k : Nat) (cblk_Block_Signs_p0 : Option Addr → Int → Int → Bool → Int → Heap → (Option Addr → Int → Int → Int → Option R) → Option R) (cblk_Block_Signs_p1 : Option Addr → Int → Int → Bool → Int → (Option Addr → Int → Int → Int → Bool → Option R) → Option R) : JTab R := tcons 0 (cblk_Block_Signs_aa0 cblk_Block_Signs_p0 k) <| tcons 1 (cblk_Block_Signs_aa1 cblk_Block_Signs_p1 k) <| fun _ _ _ _ => none
def cblk_Block_Signs_J (R : Type) (k : Nat) : JTab R := cblk_Block_Signs_Jt k (cblk_Block_Signs_p0 k) (cblk_Block_Signs_p1 k)
def cblk_Block_Signs_at : AT := (.seq (.reg [0, 1, 2, 3] []) (.seq (.seq (.reg [0, 1, 2, 3, 15] []) (.cond (.seq (.reg [8, 9] []) .leaf) .leaf)) (.seq (.reg [0, 1, 2, 3, 10] []) (.seq (.opq 0 [0, 1, 2, 3, 10] ⟨[0, 1, 2, 10], [], []⟩ (.seq (.opq 1 [0, 1, 2, 3, 10] ⟨[0, 1, 2, 10, 22], [], []⟩ (.reg [0, 1, 2, 10, 22] [])) (.cond (.reg [0, 1, 2, 10] []) .leaf))) (.seq (.reg [8, 9] []) .leaf)))))
def cblk_Block_Signs_i1 : IC := (.reg [⟨some 16, .mov (.t 3), none⟩,
 ⟨some 17, .lnot (.t 16), none⟩,
 ⟨some 18, .mov (.t 17), none⟩,
 ⟨some 19, .mov (.t 2), some (18, false)⟩,
 ⟨some 20, .bin .rem .i64 (.t 19) (.c (Go.Value.int Go.IntKind.i64 4)), some (18, false)⟩,
 ⟨some 21, .cmp .neq (.t 20) (.c (Go.Value.int Go.IntKind.i64 3)), some (18, false)⟩,
 ⟨some 22, .pick (.t 18) (.c (Go.Value.bool true)) (.t 21), none⟩] [0, 1, 2, 10, 22])
def cblk_Block_Signs_i0 : IC := (.seq (.opq 1 [0, 1, 2, 3, 10] cblk_Block_Signs_i1) (.cond (.t 22) (.reg [⟨some 23, .mov (.t 0), none⟩,
 ⟨some 24, .mov (.t 1), none⟩,
 ⟨some 25, .mov (.t 2), none⟩,
 ⟨some 26, .bin .add .i64 (.t 25) (.c (Go.Value.int Go.IntKind.i64 1)), none⟩,
 ⟨some 27, .call 49 [(.t 23), (.t 24), (.t 26)] (.one (.sc (.int .i64))), none⟩,
 ⟨some 10, .mov (.t 27), none⟩] [0, 1, 2, 10]) .skip))
def cblk_Block_Signs_f : IFn := ⟨46, [.t 8, .t 9], (.seq (.reg [⟨some 8, .mov (.c (Go.Value.int Go.IntKind.i64 0)), none⟩,
 ⟨some 9, .mov (.c (Go.Value.int Go.IntKind.i64 0)), none⟩] [0, 1, 2, 3]) (.seq (.seq (.reg [⟨some 11, .mov (.t 0), none⟩,
 ⟨some 12, .mov (.t 1), none⟩,
 ⟨some 13, .mov (.t 2), none⟩,
 ⟨some 14, .call 46 [(.t 11), (.t 12), (.t 13)] (.one (.sc .ptr)), none⟩,
 ⟨some 15, .eqnil (.t 14) false 0, none⟩] [0, 1, 2, 3, 15]) (.cond (.t 15) (.seq (.reg [⟨some 8, .mov (.c (Go.Value.int Go.IntKind.i64 0)), none⟩,
 ⟨some 9, .mov (.c (Go.Value.int Go.IntKind.i64 0)), none⟩] [8, 9]) .ret) .skip)) (.seq (.reg [⟨some 10, .mov (.c (Go.Value.int Go.IntKind.i64 0)), none⟩] [0, 1, 2, 3, 10]) (.seq (.opq 0 [0, 1, 2, 3, 10] cblk_Block_Signs_i0) (.seq (.reg [⟨some 28, .mov (.t 0), none⟩,
 ⟨some 29, .mov (.t 1), none⟩,
 ⟨some 30, .bin .sub .i64 (.t 29) (.c (Go.Value.int Go.IntKind.i64 1)), none⟩,
 ⟨some 31, .mov (.t 2), none⟩,
 ⟨some 32, .call 49 [(.t 28), (.t 30), (.t 31)] (.one (.sc (.int .i64))), none⟩,
 ⟨some 33, .mov (.t 0), none⟩,
 ⟨some 34, .mov (.t 1), none⟩,
 ⟨some 35, .bin .add .i64 (.t 34) (.c (Go.Value.int Go.IntKind.i64 1)), none⟩,
 ⟨some 36, .mov (.t 2), none⟩,
 ⟨some 37, .call 49 [(.t 33), (.t 35), (.t 36)] (.one (.sc (.int .i64))), none⟩,
 ⟨some 38, .call 50 [(.t 32), (.t 37)] (.one (.sc (.int .i64))), none⟩,
 ⟨some 39, .mov (.t 0), none⟩,
 ⟨some 40, .mov (.t 1), none⟩,
 ⟨some 41, .mov (.t 2), none⟩,
 ⟨some 42, .bin .sub .i64 (.t 41) (.c (Go.Value.int Go.IntKind.i64 1)), none⟩,
 ⟨some 43, .call 49 [(.t 39), (.t 40), (.t 42)] (.one (.sc (.int .i64))), none⟩,
 ⟨some 44, .mov (.t 10), none⟩,
 ⟨some 45, .call 50 [(.t 43), (.t 44)] (.one (.sc (.int .i64))), none⟩,
 ⟨some 8, .mov (.t 38), none⟩,
 ⟨some 9, .mov (.t 45), none⟩] [8, 9]) .ret)))))⟩
theorem cblk_Block_Signs_e1 {R : Type} (cblk_Block_at : Option Addr → Int → Int → Heap → (Option Addr → Option R) → Option R) (cblk_Block_sign : Option Addr → Int → Int → Heap → (Int → Option R) → Option R) (cblk_joint : Int → Int → (Int → Option R) → Option R) (cblk_Block_Signs_p0 : Option Addr → Int → Int → Bool → Int → Heap → (Option Addr → Int → Int → Int → Option R) → Option R) (cblk_Block_Signs_p1 : Option Addr → Int → Int → Bool → Int → (Option Addr → Int → Int → Int → Bool → Option R) → Option R) (k : Nat) (p256 : Option Addr) (n257 : Int) (n258 : Int) (t259 : Bool) (n260 : Int) (H : Heap) (K : Xit → Env → Heap → Option R) : evJ (cblk_Block_Signs_Ct cblk_Block_at cblk_Block_sign cblk_joint) (cblk_Block_Signs_Jt k cblk_Block_Signs_p0 cblk_Block_Signs_p1) cblk_Block_Signs_i1 (List.zip [0, 1, 2, 3, 10] [.pointer p256, .int .i64 n257, .int .i64 n258, .bool t259, .int .i64 n260]) H (fun x e' H' => K x (clean e' ((⟨[0, 1, 2, 10, 22], [], []⟩ : Out).of x)) H') = cblk_Block_Signs_p1_b k p256 n257 n258 t259 n260 (fun p1140 n1141 n1142 n1143 t1144 => K .normal [(0, .pointer p1140), (1, .int .i64 n1141), (2, .int .i64 n1142), (10, .int .i64 n1143), (22, .bool t1144)] H) := by kernel_rfl
theorem cblk_Block_Signs_j1 {R : Type} (k : Nat) : JS Try.prog 46 (cblk_Block_Signs_a1 R k k) [0, 1, 2, 3, 10] ⟨[0, 1, 2, 10, 22], [], []⟩ (sel [1, 1, 1, 0, 0] (Try.f30.body.getD .skip)) :=
  piece_ok (nt := 46) (c := (sel [1, 1, 1, 0, 0] (Try.f30.body.getD .skip))) (C := cblk_Block_Signs_C R k) (an := An) (t := (.reg [0, 1, 2, 10, 22] [])) (ic := cblk_Block_Signs_i1) (cblk_Block_Signs_S R k) (cblk_Block_Signs_J R k) (by kernel_rfl) True.intro (cblk_Block_Signs_a1 R k k)
    (fun vals H K r h => by
      unfold cblk_Block_Signs_a1 cblk_Block_Signs_aa1 at h
      split at h <;> first | (cases h; done) | exact Eq.trans (cblk_Block_Signs_e1 (cblk_Block_at k) (cblk_Block_sign k) cblk_joint (cblk_Block_Signs_p0 k) (cblk_Block_Signs_p1 k) k _ _ _ _ _ H K) h)
theorem cblk_Block_Signs_e0 {R : Type} (cblk_Block_at : Option Addr → Int → Int → Heap → (Option Addr → Option R) → Option R) (cblk_Block_sign : Option Addr → Int → Int → Heap → (Int → Option R) → Option R) (cblk_joint : Int → Int → (Int → Option R) → Option R) (cblk_Block_Signs_p0 : Option Addr → Int → Int → Bool → Int → Heap → (Option Addr → Int → Int → Int → Option R) → Option R) (cblk_Block_Signs_p1 : Option Addr → Int → Int → Bool → Int → (Option Addr → Int → Int → Int → Bool → Option R) → Option R) (k : Nat) (p251 : Option Addr) (n252 : Int) (n253 : Int) (t254 : Bool) (n255 : Int) (H : Heap) (K : Xit → Env → Heap → Option R) : evJ (cblk_Block_Signs_Ct cblk_Block_at cblk_Block_sign cblk_joint) (cblk_Block_Signs_Jt k cblk_Block_Signs_p0 cblk_Block_Signs_p1) cblk_Block_Signs_i0 (List.zip [0, 1, 2, 3, 10] [.pointer p251, .int .i64 n252, .int .i64 n253, .bool t254, .int .i64 n255]) H (fun x e' H' => K x (clean e' ((⟨[0, 1, 2, 10], [], []⟩ : Out).of x)) H') = cblk_Block_Signs_p0_b cblk_Block_Signs_p1 cblk_Block_sign k p251 n252 n253 t254 n255 H (fun p1136 n1137 n1138 n1139 => K .normal [(0, .pointer p1136), (1, .int .i64 n1137), (2, .int .i64 n1138), (10, .int .i64 n1139)] H) := by kernel_rfl
theorem cblk_Block_Signs_j0 {R : Type} (k : Nat) : JS Try.prog 46 (cblk_Block_Signs_a0 R k k) [0, 1, 2, 3, 10] ⟨[0, 1, 2, 10], [], []⟩ (sel [1, 1, 1, 0] (Try.f30.body.getD .skip)) :=
  piece_ok (nt := 46) (c := (sel [1, 1, 1, 0] (Try.f30.body.getD .skip))) (C := cblk_Block_Signs_C R k) (an := An) (t := (.seq (.opq 1 [0, 1, 2, 3, 10] ⟨[0, 1, 2, 10, 22], [], []⟩ (.reg [0, 1, 2, 10, 22] [])) (.cond (.reg [0, 1, 2, 10] []) .leaf))) (ic := cblk_Block_Signs_i0) (cblk_Block_Signs_S R k) (cblk_Block_Signs_J R k) (by kernel_rfl) (And.intro (cblk_Block_Signs_j1 k) (And.intro True.intro True.intro)) (cblk_Block_Signs_a0 R k k)
    (fun vals H K r h => by
      unfold cblk_Block_Signs_a0 cblk_Block_Signs_aa0 at h
      split at h <;> first | (cases h; done) | exact Eq.trans (cblk_Block_Signs_e0 (cblk_Block_at k) (cblk_Block_sign k) cblk_joint (cblk_Block_Signs_p0 k) (cblk_Block_Signs_p1 k) k _ _ _ _ _ H K) h)
def cblk_Block_Signs_ca {R : Type} (f : Option Addr → Int → Int → Bool → Heap → (Int → Int → Option R) → Option R) (args : List Value) (H : Heap) (K : Value → Heap → Option R) : Option R :=
  match args with
  | [.pointer p246, .int .i64 n247, .int .i64 n248, .bool t249] => f p246 n247 n248 t249 H (fun n1145 n1146 => K (.tuple ⟨[.int .i64 n1145, .int .i64 n1146]⟩) H)
  | _ => none
def cblk_Block_Signs_c (R : Type) (k : Nat) (args : List Value) (H : Heap) (K : Value → Heap → Option R) : Option R := cblk_Block_Signs_ca (cblk_Block_Signs k) args H K
theorem cblk_Block_Signs_e {R : Type} (cblk_Block_at : Option Addr → Int → Int → Heap → (Option Addr → Option R) → Option R) (cblk_Block_sign : Option Addr → Int → Int → Heap → (Int → Option R) → Option R) (cblk_joint : Int → Int → (Int → Option R) → Option R) (cblk_Block_Signs_p0 : Option Addr → Int → Int → Bool → Int → Heap → (Option Addr → Int → Int → Int → Option R) → Option R) (cblk_Block_Signs_p1 : Option Addr → Int → Int → Bool → Int → (Option Addr → Int → Int → Int → Bool → Option R) → Option R) (k : Nat) (p246 : Option Addr) (n247 : Int) (n248 : Int) (t249 : Bool) (H : Heap) (K : Value → Heap → Option R) : evF (cblk_Block_Signs_Ct cblk_Block_at cblk_Block_sign cblk_joint) (cblk_Block_Signs_Jt k cblk_Block_Signs_p0 cblk_Block_Signs_p1) cblk_Block_Signs_f [.pointer p246, .int .i64 n247, .int .i64 n248, .bool t249] H K = cblk_Block_Signs_b cblk_Block_at cblk_Block_Signs_p0 cblk_Block_sign cblk_joint k p246 n247 n248 t249 H (fun n1145 n1146 => K (.tuple ⟨[.int .i64 n1145, .int .i64 n1146]⟩) H) := by kernel_rfl
theorem cblk_Block_Signs_cs (R : Type) (k : Nat) : ∀ args H K r, cblk_Block_Signs_c R k args H K = some r → ∃ v H', Tri Try.prog 30 args H v H' ∧ K v H' = some r := by
  intro args H K r h
  unfold cblk_Block_Signs_c cblk_Block_Signs_ca at h
  split at h
  · exact evF_ok (C := cblk_Block_Signs_C R k) (an := An) (t := cblk_Block_Signs_at) (fn := Try.f30) (c := (Try.f30.body.getD .skip)) (ifn := cblk_Block_Signs_f) (cblk_Block_Signs_S R k) (cblk_Block_Signs_J R k) Try.func30 (by kernel_rfl) (by kernel_rfl) (And.intro True.intro (And.intro (And.intro True.intro (And.intro (And.intro True.intro True.intro) True.intro)) (And.intro True.intro (And.intro (cblk_Block_Signs_j0 k) (And.intro True.intro True.intro))))) rfl (Eq.trans (cblk_Block_Signs_e (cblk_Block_at k) (cblk_Block_sign k) cblk_joint (cblk_Block_Signs_p0 k) (cblk_Block_Signs_p1 k) k _ _ _ _ H K) h)
  · cases h
end Go.Proofs.Ytblpaolcgkjcgaa.Sh
