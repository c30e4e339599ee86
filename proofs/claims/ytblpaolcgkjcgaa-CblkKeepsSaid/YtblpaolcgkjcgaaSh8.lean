/- Lean functions that stand for Go's, over an explicit heap, and the proofs that they do (written by this claim's program shallow.py). -/
import Derived.Test.YtblpaolcgkjcgaaSh0
set_option maxRecDepth 100000
set_option linter.unusedVariables false
set_option linter.unusedSimpArgs false
namespace Go.Proofs.Ytblpaolcgkjcgaa.Sh
open Go.Proofs.Ytblpaolcgkjcgaa.FW
/-! ### cblk_Block_Value: function 33 -/
def cblk_Block_Value_b {R : Type} (cblk_Block_at : Option Addr → Int → Int → Heap → (Option Addr → Option R) → Option R) (k : Nat) (p754 : Option Addr) (n755 : Int) (n756 : Int) (H : Heap) (K : Int → Option R) : Option R :=
cblk_Block_at p754 n755 n756 H fun p757 =>
bif p757.isSome then (hnil p757 fun p758 =>
hfad 0 p758 fun p759 =>
ldI .i64 H p759 fun n760 =>
K n760)
 else (K 0)

def cblk_Block_Value {R : Type} (k : Nat) (p754 : Option Addr) (n755 : Int) (n756 : Int) (H : Heap) (K : Int → Option R) : Option R := cblk_Block_Value_b (cblk_Block_at k) k p754 n755 n756 H K

def cblk_Block_Value_Ct {R : Type} (cblk_Block_at : Option Addr → Int → Int → Heap → (Option Addr → Option R) → Option R) : Tab R := tcons 46 (cblk_Block_at_ca cblk_Block_at) <| fun _ _ _ _ => none
def cblk_Block_Value_C (R : Type) (k : Nat) : Tab R := cblk_Block_Value_Ct (cblk_Block_at k)
theorem cblk_Block_Value_S (R : Type) (k : Nat) : CSound Try.prog (cblk_Block_Value_C R k) := csound_cons (cblk_Block_at_cs R k) <| csound_nil
def cblk_Block_Value_Jt {R : Type} (k : Nat) : JTab R := fun _ _ _ _ => none
def cblk_Block_Value_J (R : Type) (k : Nat) : JTab R := cblk_Block_Value_Jt k
def cblk_Block_Value_at : AT := (.seq (.reg [0, 1, 2] []) (.seq (.seq (.reg [7] []) (.seq (.reg [7, 13] []) (.cond (.seq (.reg [6] []) .leaf) .leaf))) (.seq (.reg [6] []) .leaf)))
def cblk_Block_Value_f : IFn := ⟨18, [.t 6], (.seq (.reg [⟨some 6, .mov (.c (Go.Value.int Go.IntKind.i64 0)), none⟩] [0, 1, 2]) (.seq (.seq (.reg [⟨some 8, .mov (.t 0), none⟩,
 ⟨some 9, .mov (.t 1), none⟩,
 ⟨some 10, .mov (.t 2), none⟩,
 ⟨some 11, .call 46 [(.t 8), (.t 9), (.t 10)] (.one (.sc .ptr)), none⟩,
 ⟨some 7, .mov (.t 11), none⟩] [7]) (.seq (.reg [⟨some 12, .mov (.t 7), none⟩,
 ⟨some 13, .eqnil (.t 12) true 0, none⟩] [7, 13]) (.cond (.t 13) (.seq (.reg [⟨some 14, .mov (.t 7), none⟩,
 ⟨some 15, .nilc (.t 14), none⟩,
 ⟨some 16, .fad 0 (.t 15), none⟩,
 ⟨some 17, .ld (.sc (.int .i64)) (.t 16), none⟩,
 ⟨some 6, .mov (.t 17), none⟩] [6]) .ret) .skip))) (.seq (.reg [⟨some 6, .mov (.c (Go.Value.int Go.IntKind.i64 0)), none⟩] [6]) .ret)))⟩
def cblk_Block_Value_ca {R : Type} (f : Option Addr → Int → Int → Heap → (Int → Option R) → Option R) (args : List Value) (H : Heap) (K : Value → Heap → Option R) : Option R :=
  match args with
  | [.pointer p754, .int .i64 n755, .int .i64 n756] => f p754 n755 n756 H (fun n1190 => K (.int .i64 n1190) H)
  | _ => none
def cblk_Block_Value_c (R : Type) (k : Nat) (args : List Value) (H : Heap) (K : Value → Heap → Option R) : Option R := cblk_Block_Value_ca (cblk_Block_Value k) args H K
theorem cblk_Block_Value_e {R : Type} (cblk_Block_at : Option Addr → Int → Int → Heap → (Option Addr → Option R) → Option R) (k : Nat) (p754 : Option Addr) (n755 : Int) (n756 : Int) (H : Heap) (K : Value → Heap → Option R) : evF (cblk_Block_Value_Ct cblk_Block_at) (cblk_Block_Value_Jt k) cblk_Block_Value_f [.pointer p754, .int .i64 n755, .int .i64 n756] H K = cblk_Block_Value_b cblk_Block_at k p754 n755 n756 H (fun n1190 => K (.int .i64 n1190) H) := by kernel_rfl
theorem cblk_Block_Value_cs (R : Type) (k : Nat) : ∀ args H K r, cblk_Block_Value_c R k args H K = some r → ∃ v H', Tri Try.prog 33 args H v H' ∧ K v H' = some r := by
  intro args H K r h
  unfold cblk_Block_Value_c cblk_Block_Value_ca at h
  split at h
  · exact evF_ok (C := cblk_Block_Value_C R k) (an := An) (t := cblk_Block_Value_at) (fn := Try.f33) (c := (Try.f33.body.getD .skip)) (ifn := cblk_Block_Value_f) (cblk_Block_Value_S R k) (cblk_Block_Value_J R k) Try.func33 (by kernel_rfl) (by kernel_rfl) (And.intro True.intro (And.intro (And.intro True.intro (And.intro True.intro (And.intro (And.intro True.intro True.intro) True.intro))) (And.intro True.intro True.intro))) rfl (Eq.trans (cblk_Block_Value_e (cblk_Block_at k) k _ _ _ H K) h)
  · cases h
/-! ### cblk_Block_Touched: function 34 -/
def cblk_Block_Touched_b {R : Type} (cblk_Block_at : Option Addr → Int → Int → Heap → (Option Addr → Option R) → Option R) (k : Nat) (p767 : Option Addr) (n768 : Int) (n769 : Int) (H : Heap) (K : Bool → Option R) : Option R :=
cblk_Block_at p767 n768 n769 H fun p770 =>
bif p770.isSome then (hnil p770 fun p771 =>
hfad 2 p771 fun p772 =>
ldB H p772 fun t773 =>
K t773)
 else (K false)

def cblk_Block_Touched {R : Type} (k : Nat) (p767 : Option Addr) (n768 : Int) (n769 : Int) (H : Heap) (K : Bool → Option R) : Option R := cblk_Block_Touched_b (cblk_Block_at k) k p767 n768 n769 H K

def cblk_Block_Touched_Ct {R : Type} (cblk_Block_at : Option Addr → Int → Int → Heap → (Option Addr → Option R) → Option R) : Tab R := tcons 46 (cblk_Block_at_ca cblk_Block_at) <| fun _ _ _ _ => none
def cblk_Block_Touched_C (R : Type) (k : Nat) : Tab R := cblk_Block_Touched_Ct (cblk_Block_at k)
theorem cblk_Block_Touched_S (R : Type) (k : Nat) : CSound Try.prog (cblk_Block_Touched_C R k) := csound_cons (cblk_Block_at_cs R k) <| csound_nil
def cblk_Block_Touched_Jt {R : Type} (k : Nat) : JTab R := fun _ _ _ _ => none
def cblk_Block_Touched_J (R : Type) (k : Nat) : JTab R := cblk_Block_Touched_Jt k
def cblk_Block_Touched_at : AT := (.seq (.reg [0, 1, 2] []) (.seq (.reg [7] []) (.seq (.reg [6] []) .leaf)))
def cblk_Block_Touched_f : IFn := ⟨20, [.t 6], (.seq (.reg [⟨some 6, .mov (.c (Go.Value.bool false)), none⟩] [0, 1, 2]) (.seq (.reg [⟨some 8, .mov (.t 0), none⟩,
 ⟨some 9, .mov (.t 1), none⟩,
 ⟨some 10, .mov (.t 2), none⟩,
 ⟨some 11, .call 46 [(.t 8), (.t 9), (.t 10)] (.one (.sc .ptr)), none⟩,
 ⟨some 7, .mov (.t 11), none⟩] [7]) (.seq (.reg [⟨some 12, .mov (.t 7), none⟩,
 ⟨some 13, .eqnil (.t 12) true 0, none⟩,
 ⟨some 14, .mov (.t 13), none⟩,
 ⟨some 15, .mov (.t 7), some (14, true)⟩,
 ⟨some 16, .nilc (.t 15), some (14, true)⟩,
 ⟨some 17, .fad 2 (.t 16), some (14, true)⟩,
 ⟨some 18, .ld (.sc .bool) (.t 17), some (14, true)⟩,
 ⟨some 19, .pick (.t 14) (.t 18) (.c (Go.Value.bool false)), none⟩,
 ⟨some 6, .mov (.t 19), none⟩] [6]) .ret)))⟩
def cblk_Block_Touched_ca {R : Type} (f : Option Addr → Int → Int → Heap → (Bool → Option R) → Option R) (args : List Value) (H : Heap) (K : Value → Heap → Option R) : Option R :=
  match args with
  | [.pointer p767, .int .i64 n768, .int .i64 n769] => f p767 n768 n769 H (fun t1191 => K (.bool t1191) H)
  | _ => none
def cblk_Block_Touched_c (R : Type) (k : Nat) (args : List Value) (H : Heap) (K : Value → Heap → Option R) : Option R := cblk_Block_Touched_ca (cblk_Block_Touched k) args H K
theorem cblk_Block_Touched_e {R : Type} (cblk_Block_at : Option Addr → Int → Int → Heap → (Option Addr → Option R) → Option R) (k : Nat) (p767 : Option Addr) (n768 : Int) (n769 : Int) (H : Heap) (K : Value → Heap → Option R) : evF (cblk_Block_Touched_Ct cblk_Block_at) (cblk_Block_Touched_Jt k) cblk_Block_Touched_f [.pointer p767, .int .i64 n768, .int .i64 n769] H K = cblk_Block_Touched_b cblk_Block_at k p767 n768 n769 H (fun t1191 => K (.bool t1191) H) := by kernel_rfl
theorem cblk_Block_Touched_cs (R : Type) (k : Nat) : ∀ args H K r, cblk_Block_Touched_c R k args H K = some r → ∃ v H', Tri Try.prog 34 args H v H' ∧ K v H' = some r := by
  intro args H K r h
  unfold cblk_Block_Touched_c cblk_Block_Touched_ca at h
  split at h
  · exact evF_ok (C := cblk_Block_Touched_C R k) (an := An) (t := cblk_Block_Touched_at) (fn := Try.f34) (c := (Try.f34.body.getD .skip)) (ifn := cblk_Block_Touched_f) (cblk_Block_Touched_S R k) (cblk_Block_Touched_J R k) Try.func34 (by kernel_rfl) (by kernel_rfl) (And.intro True.intro (And.intro True.intro (And.intro True.intro True.intro))) rfl (Eq.trans (cblk_Block_Touched_e (cblk_Block_at k) k _ _ _ H K) h)
  · cases h
/-! ### cblk_Block_Refined: function 35 -/
def cblk_Block_Refined_b {R : Type} (cblk_Block_at : Option Addr → Int → Int → Heap → (Option Addr → Option R) → Option R) (k : Nat) (p777 : Option Addr) (n778 : Int) (n779 : Int) (H : Heap) (K : Bool → Option R) : Option R :=
cblk_Block_at p777 n778 n779 H fun p780 =>
bif p780.isSome then (hnil p780 fun p781 =>
hfad 3 p781 fun p782 =>
ldB H p782 fun t783 =>
K t783)
 else (K false)

def cblk_Block_Refined {R : Type} (k : Nat) (p777 : Option Addr) (n778 : Int) (n779 : Int) (H : Heap) (K : Bool → Option R) : Option R := cblk_Block_Refined_b (cblk_Block_at k) k p777 n778 n779 H K

def cblk_Block_Refined_Ct {R : Type} (cblk_Block_at : Option Addr → Int → Int → Heap → (Option Addr → Option R) → Option R) : Tab R := tcons 46 (cblk_Block_at_ca cblk_Block_at) <| fun _ _ _ _ => none
def cblk_Block_Refined_C (R : Type) (k : Nat) : Tab R := cblk_Block_Refined_Ct (cblk_Block_at k)
theorem cblk_Block_Refined_S (R : Type) (k : Nat) : CSound Try.prog (cblk_Block_Refined_C R k) := csound_cons (cblk_Block_at_cs R k) <| csound_nil
def cblk_Block_Refined_Jt {R : Type} (k : Nat) : JTab R := fun _ _ _ _ => none
def cblk_Block_Refined_J (R : Type) (k : Nat) : JTab R := cblk_Block_Refined_Jt k
def cblk_Block_Refined_at : AT := (.seq (.reg [0, 1, 2] []) (.seq (.reg [7] []) (.seq (.reg [6] []) .leaf)))
def cblk_Block_Refined_f : IFn := ⟨20, [.t 6], (.seq (.reg [⟨some 6, .mov (.c (Go.Value.bool false)), none⟩] [0, 1, 2]) (.seq (.reg [⟨some 8, .mov (.t 0), none⟩,
 ⟨some 9, .mov (.t 1), none⟩,
 ⟨some 10, .mov (.t 2), none⟩,
 ⟨some 11, .call 46 [(.t 8), (.t 9), (.t 10)] (.one (.sc .ptr)), none⟩,
 ⟨some 7, .mov (.t 11), none⟩] [7]) (.seq (.reg [⟨some 12, .mov (.t 7), none⟩,
 ⟨some 13, .eqnil (.t 12) true 0, none⟩,
 ⟨some 14, .mov (.t 13), none⟩,
 ⟨some 15, .mov (.t 7), some (14, true)⟩,
 ⟨some 16, .nilc (.t 15), some (14, true)⟩,
 ⟨some 17, .fad 3 (.t 16), some (14, true)⟩,
 ⟨some 18, .ld (.sc .bool) (.t 17), some (14, true)⟩,
 ⟨some 19, .pick (.t 14) (.t 18) (.c (Go.Value.bool false)), none⟩,
 ⟨some 6, .mov (.t 19), none⟩] [6]) .ret)))⟩
def cblk_Block_Refined_ca {R : Type} (f : Option Addr → Int → Int → Heap → (Bool → Option R) → Option R) (args : List Value) (H : Heap) (K : Value → Heap → Option R) : Option R :=
  match args with
  | [.pointer p777, .int .i64 n778, .int .i64 n779] => f p777 n778 n779 H (fun t1192 => K (.bool t1192) H)
  | _ => none
def cblk_Block_Refined_c (R : Type) (k : Nat) (args : List Value) (H : Heap) (K : Value → Heap → Option R) : Option R := cblk_Block_Refined_ca (cblk_Block_Refined k) args H K
theorem cblk_Block_Refined_e {R : Type} (cblk_Block_at : Option Addr → Int → Int → Heap → (Option Addr → Option R) → Option R) (k : Nat) (p777 : Option Addr) (n778 : Int) (n779 : Int) (H : Heap) (K : Value → Heap → Option R) : evF (cblk_Block_Refined_Ct cblk_Block_at) (cblk_Block_Refined_Jt k) cblk_Block_Refined_f [.pointer p777, .int .i64 n778, .int .i64 n779] H K = cblk_Block_Refined_b cblk_Block_at k p777 n778 n779 H (fun t1192 => K (.bool t1192) H) := by kernel_rfl
theorem cblk_Block_Refined_cs (R : Type) (k : Nat) : ∀ args H K r, cblk_Block_Refined_c R k args H K = some r → ∃ v H', Tri Try.prog 35 args H v H' ∧ K v H' = some r := by
  intro args H K r h
  unfold cblk_Block_Refined_c cblk_Block_Refined_ca at h
  split at h
  · exact evF_ok (C := cblk_Block_Refined_C R k) (an := An) (t := cblk_Block_Refined_at) (fn := Try.f35) (c := (Try.f35.body.getD .skip)) (ifn := cblk_Block_Refined_f) (cblk_Block_Refined_S R k) (cblk_Block_Refined_J R k) Try.func35 (by kernel_rfl) (by kernel_rfl) (And.intro True.intro (And.intro True.intro (And.intro True.intro True.intro))) rfl (Eq.trans (cblk_Block_Refined_e (cblk_Block_at k) k _ _ _ H K) h)
  · cases h
end Go.Proofs.Ytblpaolcgkjcgaa.Sh
