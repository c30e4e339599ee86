/- Lean functions that stand for Go's, over an explicit heap, and the proofs that they do (written by this claim's program shallow.py). -/
import Derived.Test.YtoeoolnkndkefaaProg
import Derived.Test.YtoeoolnkndkefaaFwL
set_option maxRecDepth 100000
set_option linter.unusedVariables false
set_option linter.unusedSimpArgs false
namespace Go.Proofs.Ytoeoolnkndkefaa.Sh
open Go.Proofs.Ytoeoolnkndkefaa.FW
def An : Ann := ⟨[], [3, 5, 6, 7, 11, 12, 13, 14, 15, 16, 17, 20, 21, 22, 23, 26, 29, 30, 31, 34, 35, 36, 37, 38, 40, 42, 43, 44, 45, 46, 47, 48, 49, 50, 51, 52, 53, 54, 55, 56, 57, 58, 59, 60, 61, 62, 63, 64, 65, 66, 67, 68, 69, 70, 71], [18, 19, 24, 25, 27, 28, 32, 33, 39, 41], [4, 8, 9, 10, 18, 32, 39]⟩

/-! ### color_quarter: function 50 -/
def color_quarter_b {R : Type} (k : Nat) (n40 : Int) (K : Int → Option R) : Option R :=
K (Int.fdiv n40 4)

def color_quarter {R : Type} (n40 : Int) (K : Int → Option R) : Option R := color_quarter_b 0 n40 K

def color_quarter_Ct {R : Type} : Tab R := fun _ _ _ _ => none
def color_quarter_C (R : Type) (k : Nat) : Tab R := color_quarter_Ct
theorem color_quarter_S (R : Type) (k : Nat) : CSound Try.prog (color_quarter_C R k) := csound_nil
def color_quarter_Jt {R : Type} (k : Nat) : JTab R := fun _ _ _ _ => none
def color_quarter_J (R : Type) (k : Nat) : JTab R := color_quarter_Jt k
def color_quarter_at : AT := (.seq (.reg [0] []) (.seq (.reg [2] []) .leaf))
def color_quarter_f : IFn := ⟨5, [.t 2], (.seq (.reg [⟨some 2, .mov (.c (Go.Value.int Go.IntKind.i64 0)), none⟩] [0]) (.seq (.reg [⟨some 3, .mov (.t 0), none⟩,
 ⟨some 4, .bin .shr .i64 (.t 3) (.c (Go.Value.int Go.IntKind.u64 2)), none⟩,
 ⟨some 2, .mov (.t 4), none⟩] [2]) .ret))⟩
def color_quarter_ca {R : Type} (f : Int → (Int → Option R) → Option R) (args : List Value) (H : Heap) (K : Value → Heap → Option R) : Option R :=
  match args with
  | [.int .i64 n40] => f n40 (fun n1017 => K (.int .i64 n1017) H)
  | _ => none
def color_quarter_c (R : Type) (k : Nat) (args : List Value) (H : Heap) (K : Value → Heap → Option R) : Option R := color_quarter_ca color_quarter args H K
theorem color_quarter_e {R : Type} (k : Nat) (n40 : Int) (H : Heap) (K : Value → Heap → Option R) : evF (color_quarter_Ct) (color_quarter_Jt k) color_quarter_f [.int .i64 n40] H K = color_quarter_b k n40 (fun n1017 => K (.int .i64 n1017) H) := by kernel_rfl
theorem color_quarter_cs (R : Type) (k : Nat) : ∀ args H K r, color_quarter_c R k args H K = some r → ∃ v H', Tri Try.prog 50 args H v H' ∧ K v H' = some r := by
  intro args H K r h
  unfold color_quarter_c color_quarter_ca at h
  split at h
  · exact evF_ok (C := color_quarter_C R 0) (an := An) (t := color_quarter_at) (fn := Try.f50) (c := (Try.f50.body.getD .skip)) (ifn := color_quarter_f) (color_quarter_S R 0) (color_quarter_J R 0) Try.func50 (by kernel_rfl) (by kernel_rfl) (And.intro True.intro (And.intro True.intro True.intro)) rfl (Eq.trans (color_quarter_e 0 _ H K) h)
  · cases h
/-! ### color_half: function 51 -/
def color_half_b {R : Type} (k : Nat) (n61 : Int) (K : Int → Option R) : Option R :=
K (Int.fdiv n61 2)

def color_half {R : Type} (n61 : Int) (K : Int → Option R) : Option R := color_half_b 0 n61 K

def color_half_Ct {R : Type} : Tab R := fun _ _ _ _ => none
def color_half_C (R : Type) (k : Nat) : Tab R := color_half_Ct
theorem color_half_S (R : Type) (k : Nat) : CSound Try.prog (color_half_C R k) := csound_nil
def color_half_Jt {R : Type} (k : Nat) : JTab R := fun _ _ _ _ => none
def color_half_J (R : Type) (k : Nat) : JTab R := color_half_Jt k
def color_half_at : AT := (.seq (.reg [0] []) (.seq (.reg [2] []) .leaf))
def color_half_f : IFn := ⟨5, [.t 2], (.seq (.reg [⟨some 2, .mov (.c (Go.Value.int Go.IntKind.i64 0)), none⟩] [0]) (.seq (.reg [⟨some 3, .mov (.t 0), none⟩,
 ⟨some 4, .bin .shr .i64 (.t 3) (.c (Go.Value.int Go.IntKind.u64 1)), none⟩,
 ⟨some 2, .mov (.t 4), none⟩] [2]) .ret))⟩
def color_half_ca {R : Type} (f : Int → (Int → Option R) → Option R) (args : List Value) (H : Heap) (K : Value → Heap → Option R) : Option R :=
  match args with
  | [.int .i64 n61] => f n61 (fun n1018 => K (.int .i64 n1018) H)
  | _ => none
def color_half_c (R : Type) (k : Nat) (args : List Value) (H : Heap) (K : Value → Heap → Option R) : Option R := color_half_ca color_half args H K
theorem color_half_e {R : Type} (k : Nat) (n61 : Int) (H : Heap) (K : Value → Heap → Option R) : evF (color_half_Ct) (color_half_Jt k) color_half_f [.int .i64 n61] H K = color_half_b k n61 (fun n1018 => K (.int .i64 n1018) H) := by kernel_rfl
theorem color_half_cs (R : Type) (k : Nat) : ∀ args H K r, color_half_c R k args H K = some r → ∃ v H', Tri Try.prog 51 args H v H' ∧ K v H' = some r := by
  intro args H K r h
  unfold color_half_c color_half_ca at h
  split at h
  · exact evF_ok (C := color_half_C R 0) (an := An) (t := color_half_at) (fn := Try.f51) (c := (Try.f51.body.getD .skip)) (ifn := color_half_f) (color_half_S R 0) (color_half_J R 0) Try.func51 (by kernel_rfl) (by kernel_rfl) (And.intro True.intro (And.intro True.intro True.intro)) rfl (Eq.trans (color_half_e 0 _ H K) h)
  · cases h
/-! ### color_forward: function 35 -/
def color_forward_b {R : Type} (color_quarter : Int → (Int → Option R) → Option R) (color_half : Int → (Int → Option R) → Option R) (k : Nat) (n26 : Int) (n27 : Int) (n28 : Int) (n29 : Int) (H : Heap) (K : Int → Int → Int → Heap → Option R) : Option R :=
hal H [.int .i64 n27, .int .i64 n28, .int .i64 n29] fun p30 H31 =>
hal H31 [.int .i64 0, .int .i64 0, .int .i64 0] fun p32 H33 =>
bif (n26 == 1) then (hidx p30 3 0 1 fun p34 =>
ldI .i64 H33 p34 fun n35 =>
hidx p30 3 1 1 fun p36 =>
ldI .i64 H33 p36 fun n37 =>
hidx p30 3 2 1 fun p38 =>
ldI .i64 H33 p38 fun n39 =>
color_quarter (IntKind.wrap .i64 ((IntKind.wrap .i64 (n35 + (IntKind.wrap .i64 (2 * n37)))) + n39)) fun n40 =>
hidx p30 3 2 1 fun p41 =>
ldI .i64 H33 p41 fun n42 =>
hidx p30 3 1 1 fun p43 =>
ldI .i64 H33 p43 fun n44 =>
hidx p30 3 0 1 fun p45 =>
ldI .i64 H33 p45 fun n46 =>
hidx p30 3 1 1 fun p47 =>
ldI .i64 H33 p47 fun n48 =>
hst H33 p32 [.int .i64 n40, .int .i64 (IntKind.wrap .i64 (n42 - n44)), .int .i64 (IntKind.wrap .i64 (n46 - n48))] fun H49 =>
ldI .i64 H49 (pad p32 0) fun n50 =>
ldI .i64 H49 (pad p32 1) fun n51 =>
ldI .i64 H49 (pad p32 2) fun n52 =>
K n50 n51 n52 H49)
 else (bif (n26 == 2) then (hidx p30 3 0 1 fun p53 =>
ldI .i64 H33 p53 fun n54 =>
hidx p30 3 2 1 fun p55 =>
ldI .i64 H33 p55 fun n56 =>
hidx p30 3 2 1 fun p57 =>
ldI .i64 H33 p57 fun n58 =>
color_half (IntKind.wrap .i64 (n54 - n56)) fun n59 =>
hidx p30 3 1 1 fun p60 =>
ldI .i64 H33 p60 fun n61 =>
color_half (IntKind.wrap .i64 (n61 - (IntKind.wrap .i64 (n58 + n59)))) fun n62 =>
hst H33 p32 [.int .i64 (IntKind.wrap .i64 ((IntKind.wrap .i64 (n58 + n59)) + n62)), .int .i64 (IntKind.wrap .i64 (n54 - n56)), .int .i64 (IntKind.wrap .i64 (n61 - (IntKind.wrap .i64 (n58 + n59))))] fun H63 =>
ldI .i64 H63 (pad p32 0) fun n64 =>
ldI .i64 H63 (pad p32 1) fun n65 =>
ldI .i64 H63 (pad p32 2) fun n66 =>
K n64 n65 n66 H63)
 else (ldI .i64 H33 (pad p30 0) fun n67 =>
ldI .i64 H33 (pad p30 1) fun n68 =>
ldI .i64 H33 (pad p30 2) fun n69 =>
hst H33 p32 [.int .i64 n67, .int .i64 n68, .int .i64 n69] fun H70 =>
ldI .i64 H70 (pad p32 0) fun n71 =>
ldI .i64 H70 (pad p32 1) fun n72 =>
ldI .i64 H70 (pad p32 2) fun n73 =>
K n71 n72 n73 H70))

def color_forward {R : Type} (n26 : Int) (n27 : Int) (n28 : Int) (n29 : Int) (H : Heap) (K : Int → Int → Int → Heap → Option R) : Option R := color_forward_b color_quarter color_half 0 n26 n27 n28 n29 H K

def color_forward_Ct {R : Type} (color_quarter : Int → (Int → Option R) → Option R) (color_half : Int → (Int → Option R) → Option R) : Tab R := tcons 50 (color_quarter_ca color_quarter) <| tcons 51 (color_half_ca color_half) <| fun _ _ _ _ => none
def color_forward_C (R : Type) (k : Nat) : Tab R := color_forward_Ct color_quarter color_half
theorem color_forward_S (R : Type) (k : Nat) : CSound Try.prog (color_forward_C R k) := csound_cons (color_quarter_cs R k) <| csound_cons (color_half_cs R k) <| csound_nil
def color_forward_Jt {R : Type} (k : Nat) : JTab R := fun _ _ _ _ => none
def color_forward_J (R : Type) (k : Nat) : JTab R := color_forward_Jt k
def color_forward_at : AT := (.seq (.reg [0, 3, 4] []) (.seq (.seq (.reg [3, 4, 8] []) (.node (.seq (.reg [3, 4, 8, 9] []) (.cond (.seq (.reg [4] [[], [0], [], [2], [2, 3], [0, 1, 2, 3, 4], [], [6], [0, 1, 2, 3, 4, 5, 6, 7], [0, 1, 2, 3, 4, 5, 6, 7, 8], [], [10], [], [12], [10, 11, 12, 13], [], [15], [], [17], [15, 16, 17, 18], [0, 1, 2, 3, 4, 5, 6, 7, 8, 9, 10, 11, 12, 13, 14, 15, 16, 17, 18, 19], [0, 1, 2, 3, 4, 5, 6, 7, 8, 9, 10, 11, 12, 13, 14, 15, 16, 17, 18, 19, 20]]) .leaf) (.seq (.reg [3, 4, 32] []) (.cond (.seq (.reg [3, 4, 5] []) (.seq (.reg [3, 4, 5, 6] [[], [0], [], [2], [0, 1, 2, 3], [0, 1, 2, 3, 4]]) (.seq (.reg [4, 5, 6, 7] []) (.seq (.reg [4] []) .leaf)))) .leaf)))))) (.seq (.reg [4] []) .leaf)))
def color_forward_f : IFn := ⟨56, [.cell 4 (.agg [(.int .i64), (.int .i64), (.int .i64)])], (.seq (.reg [⟨some 3, .box (.t 1), none⟩,
 ⟨some 4, .alc [.int .i64 0, .int .i64 0, .int .i64 0], none⟩] [0, 3, 4]) (.seq (.seq (.reg [⟨some 8, .mov (.t 0), none⟩] [3, 4, 8]) (.block 0 (.seq (.reg [⟨some 10, .cmp .eql (.t 8) (.c (Go.Value.int Go.IntKind.i64 1)), none⟩,
 ⟨some 9, .mov (.t 10), none⟩] [3, 4, 8, 9]) (.cond (.t 9) (.seq (.reg [⟨some 11, .ida 3 1 (.t 3) (.c (Go.Value.int Go.IntKind.i64 0)), none⟩,
 ⟨some 12, .ld (.sc (.int .i64)) (.t 11), none⟩,
 ⟨some 13, .ida 3 1 (.t 3) (.c (Go.Value.int Go.IntKind.i64 1)), none⟩,
 ⟨some 14, .ld (.sc (.int .i64)) (.t 13), none⟩,
 ⟨some 15, .bin .mul .i64 (.c (Go.Value.int Go.IntKind.i64 2)) (.t 14), none⟩,
 ⟨some 16, .bin .add .i64 (.t 12) (.t 15), none⟩,
 ⟨some 17, .ida 3 1 (.t 3) (.c (Go.Value.int Go.IntKind.i64 2)), none⟩,
 ⟨some 18, .ld (.sc (.int .i64)) (.t 17), none⟩,
 ⟨some 19, .bin .add .i64 (.t 16) (.t 18), none⟩,
 ⟨some 20, .calp 50 [(.t 19)] (.one (.sc (.int .i64))), none⟩,
 ⟨some 21, .ida 3 1 (.t 3) (.c (Go.Value.int Go.IntKind.i64 2)), none⟩,
 ⟨some 22, .ld (.sc (.int .i64)) (.t 21), none⟩,
 ⟨some 23, .ida 3 1 (.t 3) (.c (Go.Value.int Go.IntKind.i64 1)), none⟩,
 ⟨some 24, .ld (.sc (.int .i64)) (.t 23), none⟩,
 ⟨some 25, .bin .sub .i64 (.t 22) (.t 24), none⟩,
 ⟨some 26, .ida 3 1 (.t 3) (.c (Go.Value.int Go.IntKind.i64 0)), none⟩,
 ⟨some 27, .ld (.sc (.int .i64)) (.t 26), none⟩,
 ⟨some 28, .ida 3 1 (.t 3) (.c (Go.Value.int Go.IntKind.i64 1)), none⟩,
 ⟨some 29, .ld (.sc (.int .i64)) (.t 28), none⟩,
 ⟨some 30, .bin .sub .i64 (.t 27) (.t 29), none⟩,
 ⟨some 31, .bld [.int .i64 0, .int .i64 0, .int .i64 0] [(0, 1, (.t 20)), (1, 1, (.t 25)), (2, 1, (.t 30))], none⟩,
 ⟨none, .st 3 (.t 4) (.t 31), none⟩] [4]) .ret) (.seq (.reg [⟨some 33, .cmp .eql (.t 8) (.c (Go.Value.int Go.IntKind.i64 2)), none⟩,
 ⟨some 32, .mov (.t 33), none⟩] [3, 4, 32]) (.cond (.t 32) (.seq (.reg [⟨some 34, .ida 3 1 (.t 3) (.c (Go.Value.int Go.IntKind.i64 0)), none⟩,
 ⟨some 35, .ld (.sc (.int .i64)) (.t 34), none⟩,
 ⟨some 36, .ida 3 1 (.t 3) (.c (Go.Value.int Go.IntKind.i64 2)), none⟩,
 ⟨some 37, .ld (.sc (.int .i64)) (.t 36), none⟩,
 ⟨some 38, .bin .sub .i64 (.t 35) (.t 37), none⟩,
 ⟨some 5, .mov (.t 38), none⟩] [3, 4, 5]) (.seq (.reg [⟨some 39, .ida 3 1 (.t 3) (.c (Go.Value.int Go.IntKind.i64 2)), none⟩,
 ⟨some 40, .ld (.sc (.int .i64)) (.t 39), none⟩,
 ⟨some 41, .mov (.t 5), none⟩,
 ⟨some 42, .calp 51 [(.t 41)] (.one (.sc (.int .i64))), none⟩,
 ⟨some 43, .bin .add .i64 (.t 40) (.t 42), none⟩,
 ⟨some 6, .mov (.t 43), none⟩] [3, 4, 5, 6]) (.seq (.reg [⟨some 44, .ida 3 1 (.t 3) (.c (Go.Value.int Go.IntKind.i64 1)), none⟩,
 ⟨some 45, .ld (.sc (.int .i64)) (.t 44), none⟩,
 ⟨some 46, .mov (.t 6), none⟩,
 ⟨some 47, .bin .sub .i64 (.t 45) (.t 46), none⟩,
 ⟨some 7, .mov (.t 47), none⟩] [4, 5, 6, 7]) (.seq (.reg [⟨some 48, .mov (.t 6), none⟩,
 ⟨some 49, .mov (.t 7), none⟩,
 ⟨some 50, .call 51 [(.t 49)] (.one (.sc (.int .i64))), none⟩,
 ⟨some 51, .bin .add .i64 (.t 48) (.t 50), none⟩,
 ⟨some 52, .mov (.t 5), none⟩,
 ⟨some 53, .mov (.t 7), none⟩,
 ⟨some 54, .bld [.int .i64 0, .int .i64 0, .int .i64 0] [(0, 1, (.t 51)), (1, 1, (.t 52)), (2, 1, (.t 53))], none⟩,
 ⟨none, .st 3 (.t 4) (.t 54), none⟩] [4]) .ret)))) .skip)))))) (.seq (.reg [⟨some 55, .ld (.agg [(.int .i64), (.int .i64), (.int .i64)]) (.t 3), none⟩,
 ⟨none, .st 3 (.t 4) (.t 55), none⟩] [4]) .ret)))⟩
def color_forward_ca {R : Type} (f : Int → Int → Int → Int → Heap → (Int → Int → Int → Heap → Option R) → Option R) (args : List Value) (H : Heap) (K : Value → Heap → Option R) : Option R :=
  match args with
  | [.int .i64 n26, .agg ⟨[.int .i64 n27, .int .i64 n28, .int .i64 n29]⟩] => f n26 n27 n28 n29 H (fun n1019 n1020 n1021 H => K (.agg ⟨[.int .i64 n1019, .int .i64 n1020, .int .i64 n1021]⟩) H)
  | _ => none
def color_forward_c (R : Type) (k : Nat) (args : List Value) (H : Heap) (K : Value → Heap → Option R) : Option R := color_forward_ca color_forward args H K
theorem color_forward_e {R : Type} (color_quarter : Int → (Int → Option R) → Option R) (color_half : Int → (Int → Option R) → Option R) (k : Nat) (n26 : Int) (n27 : Int) (n28 : Int) (n29 : Int) (H : Heap) (K : Value → Heap → Option R) : evF (color_forward_Ct color_quarter color_half) (color_forward_Jt k) color_forward_f [.int .i64 n26, .agg ⟨[.int .i64 n27, .int .i64 n28, .int .i64 n29]⟩] H K = color_forward_b color_quarter color_half k n26 n27 n28 n29 H (fun n1019 n1020 n1021 H => K (.agg ⟨[.int .i64 n1019, .int .i64 n1020, .int .i64 n1021]⟩) H) := by kernel_rfl
theorem color_forward_cs (R : Type) (k : Nat) : ∀ args H K r, color_forward_c R k args H K = some r → ∃ v H', Tri Try.prog 35 args H v H' ∧ K v H' = some r := by
  intro args H K r h
  unfold color_forward_c color_forward_ca at h
  split at h
  · exact evF_ok (C := color_forward_C R 0) (an := An) (t := color_forward_at) (fn := Try.f35) (c := (Try.f35.body.getD .skip)) (ifn := color_forward_f) (color_forward_S R 0) (color_forward_J R 0) Try.func35 (by kernel_rfl) (by kernel_rfl) (And.intro True.intro (And.intro (And.intro True.intro (And.intro True.intro (And.intro (And.intro True.intro True.intro) (And.intro True.intro (And.intro (And.intro True.intro (And.intro True.intro (And.intro True.intro (And.intro True.intro True.intro)))) True.intro))))) (And.intro True.intro True.intro))) rfl (Eq.trans (color_forward_e color_quarter color_half 0 _ _ _ _ H K) h)
  · cases h
/-! ### color_Forward: function 13 -/
def color_Forward_b {R : Type} (color_forward : Int → Int → Int → Int → Heap → (Int → Int → Int → Heap → Option R) → Option R) (k : Nat) (n22 : Int) (n23 : Int) (n24 : Int) (n25 : Int) (H : Heap) (K : Int → Int → Int → Heap → Option R) : Option R :=
color_forward n22 n23 n24 n25 H fun n26 n27 n28 H29 =>
hal H29 [.int .i64 0, .int .i64 0, .int .i64 0] fun p30 H31 =>
hst H31 p30 [.int .i64 n26, .int .i64 n27, .int .i64 n28] fun H32 =>
hidx p30 3 0 1 fun p33 =>
ldI .i64 H32 p33 fun n34 =>
hidx p30 3 1 1 fun p35 =>
ldI .i64 H32 p35 fun n36 =>
hidx p30 3 2 1 fun p37 =>
ldI .i64 H32 p37 fun n38 =>
K n34 n36 n38 H32

def color_Forward {R : Type} (n22 : Int) (n23 : Int) (n24 : Int) (n25 : Int) (H : Heap) (K : Int → Int → Int → Heap → Option R) : Option R := color_Forward_b color_forward 0 n22 n23 n24 n25 H K

def color_Forward_Ct {R : Type} (color_forward : Int → Int → Int → Int → Heap → (Int → Int → Int → Heap → Option R) → Option R) : Tab R := tcons 35 (color_forward_ca color_forward) <| fun _ _ _ _ => none
def color_Forward_C (R : Type) (k : Nat) : Tab R := color_Forward_Ct color_forward
theorem color_Forward_S (R : Type) (k : Nat) : CSound Try.prog (color_Forward_C R k) := csound_cons (color_forward_cs R k) <| csound_nil
def color_Forward_Jt {R : Type} (k : Nat) : JTab R := fun _ _ _ _ => none
def color_Forward_J (R : Type) (k : Nat) : JTab R := color_Forward_Jt k
def color_Forward_at : AT := (.seq (.reg [0, 1, 2, 3] []) (.seq (.reg [11] []) (.seq (.reg [8, 9, 10] [[], [0], [], [2], [], [4], [0, 1], [0, 1, 2, 3, 6], [0, 1, 2, 3, 4, 5, 6, 7]]) .leaf)))
def color_Forward_f : IFn := ⟨24, [.t 8, .t 9, .t 10], (.seq (.reg [⟨some 8, .mov (.c (Go.Value.int Go.IntKind.i64 0)), none⟩,
 ⟨some 9, .mov (.c (Go.Value.int Go.IntKind.i64 0)), none⟩,
 ⟨some 10, .mov (.c (Go.Value.int Go.IntKind.i64 0)), none⟩] [0, 1, 2, 3]) (.seq (.reg [⟨some 12, .mov (.t 0), none⟩,
 ⟨some 13, .mov (.t 1), none⟩,
 ⟨some 14, .mov (.t 2), none⟩,
 ⟨some 15, .mov (.t 3), none⟩,
 ⟨some 16, .bld [.int .i64 0, .int .i64 0, .int .i64 0] [(0, 1, (.t 13)), (1, 1, (.t 14)), (2, 1, (.t 15))], none⟩,
 ⟨some 17, .call 35 [(.t 12), (.t 16)] (.one (.agg [(.int .i64), (.int .i64), (.int .i64)])), none⟩,
 ⟨some 11, .alc [.int .i64 0, .int .i64 0, .int .i64 0], none⟩,
 ⟨none, .st 3 (.t 11) (.t 17), none⟩] [11]) (.seq (.reg [⟨some 18, .ida 3 1 (.t 11) (.c (Go.Value.int Go.IntKind.i64 0)), none⟩,
 ⟨some 19, .ld (.sc (.int .i64)) (.t 18), none⟩,
 ⟨some 20, .ida 3 1 (.t 11) (.c (Go.Value.int Go.IntKind.i64 1)), none⟩,
 ⟨some 21, .ld (.sc (.int .i64)) (.t 20), none⟩,
 ⟨some 22, .ida 3 1 (.t 11) (.c (Go.Value.int Go.IntKind.i64 2)), none⟩,
 ⟨some 23, .ld (.sc (.int .i64)) (.t 22), none⟩,
 ⟨some 8, .mov (.t 19), none⟩,
 ⟨some 9, .mov (.t 21), none⟩,
 ⟨some 10, .mov (.t 23), none⟩] [8, 9, 10]) .ret)))⟩
def color_Forward_ca {R : Type} (f : Int → Int → Int → Int → Heap → (Int → Int → Int → Heap → Option R) → Option R) (args : List Value) (H : Heap) (K : Value → Heap → Option R) : Option R :=
  match args with
  | [.int .i64 n22, .int .i64 n23, .int .i64 n24, .int .i64 n25] => f n22 n23 n24 n25 H (fun n1022 n1023 n1024 H => K (.tuple ⟨[.int .i64 n1022, .int .i64 n1023, .int .i64 n1024]⟩) H)
  | _ => none
def color_Forward_c (R : Type) (k : Nat) (args : List Value) (H : Heap) (K : Value → Heap → Option R) : Option R := color_Forward_ca color_Forward args H K
theorem color_Forward_e {R : Type} (color_forward : Int → Int → Int → Int → Heap → (Int → Int → Int → Heap → Option R) → Option R) (k : Nat) (n22 : Int) (n23 : Int) (n24 : Int) (n25 : Int) (H : Heap) (K : Value → Heap → Option R) : evF (color_Forward_Ct color_forward) (color_Forward_Jt k) color_Forward_f [.int .i64 n22, .int .i64 n23, .int .i64 n24, .int .i64 n25] H K = color_Forward_b color_forward k n22 n23 n24 n25 H (fun n1022 n1023 n1024 H => K (.tuple ⟨[.int .i64 n1022, .int .i64 n1023, .int .i64 n1024]⟩) H) := by kernel_rfl
theorem color_Forward_cs (R : Type) (k : Nat) : ∀ args H K r, color_Forward_c R k args H K = some r → ∃ v H', Tri Try.prog 13 args H v H' ∧ K v H' = some r := by
  intro args H K r h
  unfold color_Forward_c color_Forward_ca at h
  split at h
  · exact evF_ok (C := color_Forward_C R 0) (an := An) (t := color_Forward_at) (fn := Try.f13) (c := (Try.f13.body.getD .skip)) (ifn := color_Forward_f) (color_Forward_S R 0) (color_Forward_J R 0) Try.func13 (by kernel_rfl) (by kernel_rfl) (And.intro True.intro (And.intro True.intro (And.intro True.intro True.intro))) rfl (Eq.trans (color_Forward_e color_forward 0 _ _ _ _ H K) h)
  · cases h
/-! ### color_inverse: function 37 -/
def color_inverse_b {R : Type} (color_quarter : Int → (Int → Option R) → Option R) (color_half : Int → (Int → Option R) → Option R) (k : Nat) (n50 : Int) (n51 : Int) (n52 : Int) (n53 : Int) (H : Heap) (K : Int → Int → Int → Heap → Option R) : Option R :=
hal H [.int .i64 n51, .int .i64 n52, .int .i64 n53] fun p54 H55 =>
hal H55 [.int .i64 0, .int .i64 0, .int .i64 0] fun p56 H57 =>
bif (n50 == 1) then (hidx p54 3 0 1 fun p58 =>
ldI .i64 H57 p58 fun n59 =>
hidx p54 3 1 1 fun p60 =>
ldI .i64 H57 p60 fun n61 =>
hidx p54 3 2 1 fun p62 =>
ldI .i64 H57 p62 fun n63 =>
color_quarter (IntKind.wrap .i64 (n61 + n63)) fun n64 =>
hidx p54 3 2 1 fun p65 =>
ldI .i64 H57 p65 fun n66 =>
hidx p54 3 1 1 fun p67 =>
ldI .i64 H57 p67 fun n68 =>
hst H57 p56 [.int .i64 (IntKind.wrap .i64 (n66 + (IntKind.wrap .i64 (n59 - n64)))), .int .i64 (IntKind.wrap .i64 (n59 - n64)), .int .i64 (IntKind.wrap .i64 (n68 + (IntKind.wrap .i64 (n59 - n64))))] fun H69 =>
ldI .i64 H69 (pad p56 0) fun n70 =>
ldI .i64 H69 (pad p56 1) fun n71 =>
ldI .i64 H69 (pad p56 2) fun n72 =>
K n70 n71 n72 H69)
 else (bif (n50 == 2) then (hidx p54 3 0 1 fun p73 =>
ldI .i64 H57 p73 fun n74 =>
hidx p54 3 2 1 fun p75 =>
ldI .i64 H57 p75 fun n76 =>
color_half n76 fun n77 =>
hidx p54 3 1 1 fun p78 =>
ldI .i64 H57 p78 fun n79 =>
color_half n79 fun n80 =>
hidx p54 3 1 1 fun p81 =>
ldI .i64 H57 p81 fun n82 =>
hidx p54 3 2 1 fun p83 =>
ldI .i64 H57 p83 fun n84 =>
hst H57 p56 [.int .i64 (IntKind.wrap .i64 ((IntKind.wrap .i64 ((IntKind.wrap .i64 (n74 - n77)) - n80)) + n82)), .int .i64 (IntKind.wrap .i64 (n84 + (IntKind.wrap .i64 (n74 - n77)))), .int .i64 (IntKind.wrap .i64 ((IntKind.wrap .i64 (n74 - n77)) - n80))] fun H85 =>
ldI .i64 H85 (pad p56 0) fun n86 =>
ldI .i64 H85 (pad p56 1) fun n87 =>
ldI .i64 H85 (pad p56 2) fun n88 =>
K n86 n87 n88 H85)
 else (ldI .i64 H57 (pad p54 0) fun n89 =>
ldI .i64 H57 (pad p54 1) fun n90 =>
ldI .i64 H57 (pad p54 2) fun n91 =>
hst H57 p56 [.int .i64 n89, .int .i64 n90, .int .i64 n91] fun H92 =>
ldI .i64 H92 (pad p56 0) fun n93 =>
ldI .i64 H92 (pad p56 1) fun n94 =>
ldI .i64 H92 (pad p56 2) fun n95 =>
K n93 n94 n95 H92))

def color_inverse {R : Type} (n50 : Int) (n51 : Int) (n52 : Int) (n53 : Int) (H : Heap) (K : Int → Int → Int → Heap → Option R) : Option R := color_inverse_b color_quarter color_half 0 n50 n51 n52 n53 H K

def color_inverse_Ct {R : Type} (color_quarter : Int → (Int → Option R) → Option R) (color_half : Int → (Int → Option R) → Option R) : Tab R := tcons 50 (color_quarter_ca color_quarter) <| tcons 51 (color_half_ca color_half) <| fun _ _ _ _ => none
def color_inverse_C (R : Type) (k : Nat) : Tab R := color_inverse_Ct color_quarter color_half
theorem color_inverse_S (R : Type) (k : Nat) : CSound Try.prog (color_inverse_C R k) := csound_cons (color_quarter_cs R k) <| csound_cons (color_half_cs R k) <| csound_nil
def color_inverse_Jt {R : Type} (k : Nat) : JTab R := fun _ _ _ _ => none
def color_inverse_J (R : Type) (k : Nat) : JTab R := color_inverse_Jt k
def color_inverse_at : AT := (.seq (.reg [0, 3, 4] []) (.seq (.seq (.reg [3, 4, 8] []) (.node (.seq (.reg [3, 4, 8, 9] []) (.cond (.seq (.reg [3, 4, 5] [[], [0], [], [2], [], [4], [2, 3, 4, 5], [2, 3, 4, 5, 6], [0, 1, 2, 3, 4, 5, 6, 7], [0, 1, 2, 3, 4, 5, 6, 7, 8]]) (.seq (.reg [4] []) .leaf)) (.seq (.reg [3, 4, 30] []) (.cond (.seq (.reg [3, 4, 6] [[], [0], [], [2], [2, 3], [0, 1, 2, 3, 4], [0, 1, 2, 3, 4, 5]]) (.seq (.reg [3, 4, 6, 7] []) (.seq (.reg [4] []) .leaf))) .leaf)))))) (.seq (.reg [4] []) .leaf)))
def color_inverse_f : IFn := ⟨54, [.cell 4 (.agg [(.int .i64), (.int .i64), (.int .i64)])], (.seq (.reg [⟨some 3, .box (.t 1), none⟩,
 ⟨some 4, .alc [.int .i64 0, .int .i64 0, .int .i64 0], none⟩] [0, 3, 4]) (.seq (.seq (.reg [⟨some 8, .mov (.t 0), none⟩] [3, 4, 8]) (.block 0 (.seq (.reg [⟨some 10, .cmp .eql (.t 8) (.c (Go.Value.int Go.IntKind.i64 1)), none⟩,
 ⟨some 9, .mov (.t 10), none⟩] [3, 4, 8, 9]) (.cond (.t 9) (.seq (.reg [⟨some 11, .ida 3 1 (.t 3) (.c (Go.Value.int Go.IntKind.i64 0)), none⟩,
 ⟨some 12, .ld (.sc (.int .i64)) (.t 11), none⟩,
 ⟨some 13, .ida 3 1 (.t 3) (.c (Go.Value.int Go.IntKind.i64 1)), none⟩,
 ⟨some 14, .ld (.sc (.int .i64)) (.t 13), none⟩,
 ⟨some 15, .ida 3 1 (.t 3) (.c (Go.Value.int Go.IntKind.i64 2)), none⟩,
 ⟨some 16, .ld (.sc (.int .i64)) (.t 15), none⟩,
 ⟨some 17, .bin .add .i64 (.t 14) (.t 16), none⟩,
 ⟨some 18, .calp 50 [(.t 17)] (.one (.sc (.int .i64))), none⟩,
 ⟨some 19, .bin .sub .i64 (.t 12) (.t 18), none⟩,
 ⟨some 5, .mov (.t 19), none⟩] [3, 4, 5]) (.seq (.reg [⟨some 20, .ida 3 1 (.t 3) (.c (Go.Value.int Go.IntKind.i64 2)), none⟩,
 ⟨some 21, .ld (.sc (.int .i64)) (.t 20), none⟩,
 ⟨some 22, .mov (.t 5), none⟩,
 ⟨some 23, .bin .add .i64 (.t 21) (.t 22), none⟩,
 ⟨some 24, .mov (.t 5), none⟩,
 ⟨some 25, .ida 3 1 (.t 3) (.c (Go.Value.int Go.IntKind.i64 1)), none⟩,
 ⟨some 26, .ld (.sc (.int .i64)) (.t 25), none⟩,
 ⟨some 27, .mov (.t 5), none⟩,
 ⟨some 28, .bin .add .i64 (.t 26) (.t 27), none⟩,
 ⟨some 29, .bld [.int .i64 0, .int .i64 0, .int .i64 0] [(0, 1, (.t 23)), (1, 1, (.t 24)), (2, 1, (.t 28))], none⟩,
 ⟨none, .st 3 (.t 4) (.t 29), none⟩] [4]) .ret)) (.seq (.reg [⟨some 31, .cmp .eql (.t 8) (.c (Go.Value.int Go.IntKind.i64 2)), none⟩,
 ⟨some 30, .mov (.t 31), none⟩] [3, 4, 30]) (.cond (.t 30) (.seq (.reg [⟨some 32, .ida 3 1 (.t 3) (.c (Go.Value.int Go.IntKind.i64 0)), none⟩,
 ⟨some 33, .ld (.sc (.int .i64)) (.t 32), none⟩,
 ⟨some 34, .ida 3 1 (.t 3) (.c (Go.Value.int Go.IntKind.i64 2)), none⟩,
 ⟨some 35, .ld (.sc (.int .i64)) (.t 34), none⟩,
 ⟨some 36, .calp 51 [(.t 35)] (.one (.sc (.int .i64))), none⟩,
 ⟨some 37, .bin .sub .i64 (.t 33) (.t 36), none⟩,
 ⟨some 6, .mov (.t 37), none⟩] [3, 4, 6]) (.seq (.reg [⟨some 38, .mov (.t 6), none⟩,
 ⟨some 39, .ida 3 1 (.t 3) (.c (Go.Value.int Go.IntKind.i64 1)), none⟩,
 ⟨some 40, .ld (.sc (.int .i64)) (.t 39), none⟩,
 ⟨some 41, .call 51 [(.t 40)] (.one (.sc (.int .i64))), none⟩,
 ⟨some 42, .bin .sub .i64 (.t 38) (.t 41), none⟩,
 ⟨some 7, .mov (.t 42), none⟩] [3, 4, 6, 7]) (.seq (.reg [⟨some 43, .mov (.t 7), none⟩,
 ⟨some 44, .ida 3 1 (.t 3) (.c (Go.Value.int Go.IntKind.i64 1)), none⟩,
 ⟨some 45, .ld (.sc (.int .i64)) (.t 44), none⟩,
 ⟨some 46, .bin .add .i64 (.t 43) (.t 45), none⟩,
 ⟨some 47, .ida 3 1 (.t 3) (.c (Go.Value.int Go.IntKind.i64 2)), none⟩,
 ⟨some 48, .ld (.sc (.int .i64)) (.t 47), none⟩,
 ⟨some 49, .mov (.t 6), none⟩,
 ⟨some 50, .bin .add .i64 (.t 48) (.t 49), none⟩,
 ⟨some 51, .mov (.t 7), none⟩,
 ⟨some 52, .bld [.int .i64 0, .int .i64 0, .int .i64 0] [(0, 1, (.t 46)), (1, 1, (.t 50)), (2, 1, (.t 51))], none⟩,
 ⟨none, .st 3 (.t 4) (.t 52), none⟩] [4]) .ret))) .skip)))))) (.seq (.reg [⟨some 53, .ld (.agg [(.int .i64), (.int .i64), (.int .i64)]) (.t 3), none⟩,
 ⟨none, .st 3 (.t 4) (.t 53), none⟩] [4]) .ret)))⟩
def color_inverse_ca {R : Type} (f : Int → Int → Int → Int → Heap → (Int → Int → Int → Heap → Option R) → Option R) (args : List Value) (H : Heap) (K : Value → Heap → Option R) : Option R :=
  match args with
  | [.int .i64 n50, .agg ⟨[.int .i64 n51, .int .i64 n52, .int .i64 n53]⟩] => f n50 n51 n52 n53 H (fun n1025 n1026 n1027 H => K (.agg ⟨[.int .i64 n1025, .int .i64 n1026, .int .i64 n1027]⟩) H)
  | _ => none
def color_inverse_c (R : Type) (k : Nat) (args : List Value) (H : Heap) (K : Value → Heap → Option R) : Option R := color_inverse_ca color_inverse args H K
theorem color_inverse_e {R : Type} (color_quarter : Int → (Int → Option R) → Option R) (color_half : Int → (Int → Option R) → Option R) (k : Nat) (n50 : Int) (n51 : Int) (n52 : Int) (n53 : Int) (H : Heap) (K : Value → Heap → Option R) : evF (color_inverse_Ct color_quarter color_half) (color_inverse_Jt k) color_inverse_f [.int .i64 n50, .agg ⟨[.int .i64 n51, .int .i64 n52, .int .i64 n53]⟩] H K = color_inverse_b color_quarter color_half k n50 n51 n52 n53 H (fun n1025 n1026 n1027 H => K (.agg ⟨[.int .i64 n1025, .int .i64 n1026, .int .i64 n1027]⟩) H) := by kernel_rfl
theorem color_inverse_cs (R : Type) (k : Nat) : ∀ args H K r, color_inverse_c R k args H K = some r → ∃ v H', Tri Try.prog 37 args H v H' ∧ K v H' = some r := by
  intro args H K r h
  unfold color_inverse_c color_inverse_ca at h
  split at h
  · exact evF_ok (C := color_inverse_C R 0) (an := An) (t := color_inverse_at) (fn := Try.f37) (c := (Try.f37.body.getD .skip)) (ifn := color_inverse_f) (color_inverse_S R 0) (color_inverse_J R 0) Try.func37 (by kernel_rfl) (by kernel_rfl) (And.intro True.intro (And.intro (And.intro True.intro (And.intro True.intro (And.intro (And.intro True.intro (And.intro True.intro True.intro)) (And.intro True.intro (And.intro (And.intro True.intro (And.intro True.intro (And.intro True.intro True.intro))) True.intro))))) (And.intro True.intro True.intro))) rfl (Eq.trans (color_inverse_e color_quarter color_half 0 _ _ _ _ H K) h)
  · cases h
/-! ### color_Inverse: function 15 -/
def color_Inverse_b {R : Type} (color_inverse : Int → Int → Int → Int → Heap → (Int → Int → Int → Heap → Option R) → Option R) (k : Nat) (n46 : Int) (n47 : Int) (n48 : Int) (n49 : Int) (H : Heap) (K : Int → Int → Int → Heap → Option R) : Option R :=
color_inverse n46 n47 n48 n49 H fun n50 n51 n52 H53 =>
hal H53 [.int .i64 0, .int .i64 0, .int .i64 0] fun p54 H55 =>
hst H55 p54 [.int .i64 n50, .int .i64 n51, .int .i64 n52] fun H56 =>
hidx p54 3 0 1 fun p57 =>
ldI .i64 H56 p57 fun n58 =>
hidx p54 3 1 1 fun p59 =>
ldI .i64 H56 p59 fun n60 =>
hidx p54 3 2 1 fun p61 =>
ldI .i64 H56 p61 fun n62 =>
K n58 n60 n62 H56

def color_Inverse {R : Type} (n46 : Int) (n47 : Int) (n48 : Int) (n49 : Int) (H : Heap) (K : Int → Int → Int → Heap → Option R) : Option R := color_Inverse_b color_inverse 0 n46 n47 n48 n49 H K

def color_Inverse_Ct {R : Type} (color_inverse : Int → Int → Int → Int → Heap → (Int → Int → Int → Heap → Option R) → Option R) : Tab R := tcons 37 (color_inverse_ca color_inverse) <| fun _ _ _ _ => none
def color_Inverse_C (R : Type) (k : Nat) : Tab R := color_Inverse_Ct color_inverse
theorem color_Inverse_S (R : Type) (k : Nat) : CSound Try.prog (color_Inverse_C R k) := csound_cons (color_inverse_cs R k) <| csound_nil
def color_Inverse_Jt {R : Type} (k : Nat) : JTab R := fun _ _ _ _ => none
def color_Inverse_J (R : Type) (k : Nat) : JTab R := color_Inverse_Jt k
def color_Inverse_at : AT := (.seq (.reg [0, 1, 2, 3] []) (.seq (.reg [11] []) (.seq (.reg [8, 9, 10] [[], [0], [], [2], [], [4], [0, 1], [0, 1, 2, 3, 6], [0, 1, 2, 3, 4, 5, 6, 7]]) .leaf)))
def color_Inverse_f : IFn := ⟨24, [.t 8, .t 9, .t 10], (.seq (.reg [⟨some 8, .mov (.c (Go.Value.int Go.IntKind.i64 0)), none⟩,
 ⟨some 9, .mov (.c (Go.Value.int Go.IntKind.i64 0)), none⟩,
 ⟨some 10, .mov (.c (Go.Value.int Go.IntKind.i64 0)), none⟩] [0, 1, 2, 3]) (.seq (.reg [⟨some 12, .mov (.t 0), none⟩,
 ⟨some 13, .mov (.t 1), none⟩,
 ⟨some 14, .mov (.t 2), none⟩,
 ⟨some 15, .mov (.t 3), none⟩,
 ⟨some 16, .bld [.int .i64 0, .int .i64 0, .int .i64 0] [(0, 1, (.t 13)), (1, 1, (.t 14)), (2, 1, (.t 15))], none⟩,
 ⟨some 17, .call 37 [(.t 12), (.t 16)] (.one (.agg [(.int .i64), (.int .i64), (.int .i64)])), none⟩,
 ⟨some 11, .alc [.int .i64 0, .int .i64 0, .int .i64 0], none⟩,
 ⟨none, .st 3 (.t 11) (.t 17), none⟩] [11]) (.seq (.reg [⟨some 18, .ida 3 1 (.t 11) (.c (Go.Value.int Go.IntKind.i64 0)), none⟩,
 ⟨some 19, .ld (.sc (.int .i64)) (.t 18), none⟩,
 ⟨some 20, .ida 3 1 (.t 11) (.c (Go.Value.int Go.IntKind.i64 1)), none⟩,
 ⟨some 21, .ld (.sc (.int .i64)) (.t 20), none⟩,
 ⟨some 22, .ida 3 1 (.t 11) (.c (Go.Value.int Go.IntKind.i64 2)), none⟩,
 ⟨some 23, .ld (.sc (.int .i64)) (.t 22), none⟩,
 ⟨some 8, .mov (.t 19), none⟩,
 ⟨some 9, .mov (.t 21), none⟩,
 ⟨some 10, .mov (.t 23), none⟩] [8, 9, 10]) .ret)))⟩
def color_Inverse_ca {R : Type} (f : Int → Int → Int → Int → Heap → (Int → Int → Int → Heap → Option R) → Option R) (args : List Value) (H : Heap) (K : Value → Heap → Option R) : Option R :=
  match args with
  | [.int .i64 n46, .int .i64 n47, .int .i64 n48, .int .i64 n49] => f n46 n47 n48 n49 H (fun n1028 n1029 n1030 H => K (.tuple ⟨[.int .i64 n1028, .int .i64 n1029, .int .i64 n1030]⟩) H)
  | _ => none
def color_Inverse_c (R : Type) (k : Nat) (args : List Value) (H : Heap) (K : Value → Heap → Option R) : Option R := color_Inverse_ca color_Inverse args H K
theorem color_Inverse_e {R : Type} (color_inverse : Int → Int → Int → Int → Heap → (Int → Int → Int → Heap → Option R) → Option R) (k : Nat) (n46 : Int) (n47 : Int) (n48 : Int) (n49 : Int) (H : Heap) (K : Value → Heap → Option R) : evF (color_Inverse_Ct color_inverse) (color_Inverse_Jt k) color_Inverse_f [.int .i64 n46, .int .i64 n47, .int .i64 n48, .int .i64 n49] H K = color_Inverse_b color_inverse k n46 n47 n48 n49 H (fun n1028 n1029 n1030 H => K (.tuple ⟨[.int .i64 n1028, .int .i64 n1029, .int .i64 n1030]⟩) H) := by kernel_rfl
theorem color_Inverse_cs (R : Type) (k : Nat) : ∀ args H K r, color_Inverse_c R k args H K = some r → ∃ v H', Tri Try.prog 15 args H v H' ∧ K v H' = some r := by
  intro args H K r h
  unfold color_Inverse_c color_Inverse_ca at h
  split at h
  · exact evF_ok (C := color_Inverse_C R 0) (an := An) (t := color_Inverse_at) (fn := Try.f15) (c := (Try.f15.body.getD .skip)) (ifn := color_Inverse_f) (color_Inverse_S R 0) (color_Inverse_J R 0) Try.func15 (by kernel_rfl) (by kernel_rfl) (And.intro True.intro (And.intro True.intro (And.intro True.intro True.intro))) rfl (Eq.trans (color_Inverse_e color_inverse 0 _ _ _ _ H K) h)
  · cases h
/-! ### rect_Valid: function 52 -/
def rect_Valid_b {R : Type} (k : Nat) (n146 : Int) (n147 : Int) (n148 : Int) (n149 : Int) (H : Heap) (K : Bool → Heap → Option R) : Option R :=
hal H [.int .i64 n146, .int .i64 n147, .int .i64 n148, .int .i64 n149] fun p150 H151 =>
hfad 0 p150 fun p152 =>
ldI .i64 H151 p152 fun n153 =>
bif decide (0 ≤ n153) then (hfad 0 p150 fun p154 =>
ldI .i64 H151 p154 fun n155 =>
hfad 2 p150 fun p156 =>
ldI .i64 H151 p156 fun n157 =>
bif decide (n155 ≤ n157) then (hfad 2 p150 fun p158 =>
ldI .i64 H151 p158 fun n159 =>
bif decide (n159 ≤ 4096) then (hfad 1 p150 fun p160 =>
ldI .i64 H151 p160 fun n161 =>
bif decide (0 ≤ n161) then (hfad 1 p150 fun p162 =>
ldI .i64 H151 p162 fun n163 =>
hfad 3 p150 fun p164 =>
ldI .i64 H151 p164 fun n165 =>
bif decide (n163 ≤ n165) then (hfad 3 p150 fun p166 =>
ldI .i64 H151 p166 fun n167 =>
K (decide (n167 ≤ 4096)) H151)
 else (K false H151))
 else (K false H151))
 else (K false H151))
 else (K false H151))
 else (K false H151)

def rect_Valid {R : Type} (n146 : Int) (n147 : Int) (n148 : Int) (n149 : Int) (H : Heap) (K : Bool → Heap → Option R) : Option R := rect_Valid_b 0 n146 n147 n148 n149 H K

def rect_Valid_Ct {R : Type} : Tab R := fun _ _ _ _ => none
def rect_Valid_C (R : Type) (k : Nat) : Tab R := rect_Valid_Ct
theorem rect_Valid_S (R : Type) (k : Nat) : CSound Try.prog (rect_Valid_C R k) := csound_nil
def rect_Valid_Jt {R : Type} (k : Nat) : JTab R := fun _ _ _ _ => none
def rect_Valid_J (R : Type) (k : Nat) : JTab R := rect_Valid_Jt k
def rect_Valid_at : AT := (.seq (.reg [1] []) (.seq (.reg [2] []) .leaf))
def rect_Valid_f : IFn := ⟨35, [.t 2], (.seq (.reg [⟨some 1, .box (.t 0), none⟩,
 ⟨some 2, .mov (.c (Go.Value.bool false)), none⟩] [1]) (.seq (.reg [⟨some 3, .fad 0 (.t 1), none⟩,
 ⟨some 4, .ld (.sc (.int .i64)) (.t 3), none⟩,
 ⟨some 5, .cmp .leq (.c (Go.Value.int Go.IntKind.i64 0)) (.t 4), none⟩,
 ⟨some 6, .mov (.t 5), none⟩,
 ⟨some 7, .fad 0 (.t 1), some (6, true)⟩,
 ⟨some 8, .ld (.sc (.int .i64)) (.t 7), some (6, true)⟩,
 ⟨some 9, .fad 2 (.t 1), some (6, true)⟩,
 ⟨some 10, .ld (.sc (.int .i64)) (.t 9), some (6, true)⟩,
 ⟨some 11, .cmp .leq (.t 8) (.t 10), some (6, true)⟩,
 ⟨some 12, .pick (.t 6) (.t 11) (.c (Go.Value.bool false)), none⟩,
 ⟨some 13, .mov (.t 12), none⟩,
 ⟨some 14, .fad 2 (.t 1), some (13, true)⟩,
 ⟨some 15, .ld (.sc (.int .i64)) (.t 14), some (13, true)⟩,
 ⟨some 16, .cmp .leq (.t 15) (.c (Go.Value.int Go.IntKind.i64 4096)), some (13, true)⟩,
 ⟨some 17, .pick (.t 13) (.t 16) (.c (Go.Value.bool false)), none⟩,
 ⟨some 18, .mov (.t 17), none⟩,
 ⟨some 19, .fad 1 (.t 1), some (18, true)⟩,
 ⟨some 20, .ld (.sc (.int .i64)) (.t 19), some (18, true)⟩,
 ⟨some 21, .cmp .leq (.c (Go.Value.int Go.IntKind.i64 0)) (.t 20), some (18, true)⟩,
 ⟨some 22, .pick (.t 18) (.t 21) (.c (Go.Value.bool false)), none⟩,
 ⟨some 23, .mov (.t 22), none⟩,
 ⟨some 24, .fad 1 (.t 1), some (23, true)⟩,
 ⟨some 25, .ld (.sc (.int .i64)) (.t 24), some (23, true)⟩,
 ⟨some 26, .fad 3 (.t 1), some (23, true)⟩,
 ⟨some 27, .ld (.sc (.int .i64)) (.t 26), some (23, true)⟩,
 ⟨some 28, .cmp .leq (.t 25) (.t 27), some (23, true)⟩,
 ⟨some 29, .pick (.t 23) (.t 28) (.c (Go.Value.bool false)), none⟩,
 ⟨some 30, .mov (.t 29), none⟩,
 ⟨some 31, .fad 3 (.t 1), some (30, true)⟩,
 ⟨some 32, .ld (.sc (.int .i64)) (.t 31), some (30, true)⟩,
 ⟨some 33, .cmp .leq (.t 32) (.c (Go.Value.int Go.IntKind.i64 4096)), some (30, true)⟩,
 ⟨some 34, .pick (.t 30) (.t 33) (.c (Go.Value.bool false)), none⟩,
 ⟨some 2, .mov (.t 34), none⟩] [2]) .ret))⟩
def rect_Valid_ca {R : Type} (f : Int → Int → Int → Int → Heap → (Bool → Heap → Option R) → Option R) (args : List Value) (H : Heap) (K : Value → Heap → Option R) : Option R :=
  match args with
  | [.agg ⟨[.int .i64 n146, .int .i64 n147, .int .i64 n148, .int .i64 n149]⟩] => f n146 n147 n148 n149 H (fun t1031 H => K (.bool t1031) H)
  | _ => none
def rect_Valid_c (R : Type) (k : Nat) (args : List Value) (H : Heap) (K : Value → Heap → Option R) : Option R := rect_Valid_ca rect_Valid args H K
theorem rect_Valid_e {R : Type} (k : Nat) (n146 : Int) (n147 : Int) (n148 : Int) (n149 : Int) (H : Heap) (K : Value → Heap → Option R) : evF (rect_Valid_Ct) (rect_Valid_Jt k) rect_Valid_f [.agg ⟨[.int .i64 n146, .int .i64 n147, .int .i64 n148, .int .i64 n149]⟩] H K = rect_Valid_b k n146 n147 n148 n149 H (fun t1031 H => K (.bool t1031) H) := by kernel_rfl
theorem rect_Valid_cs (R : Type) (k : Nat) : ∀ args H K r, rect_Valid_c R k args H K = some r → ∃ v H', Tri Try.prog 52 args H v H' ∧ K v H' = some r := by
  intro args H K r h
  unfold rect_Valid_c rect_Valid_ca at h
  split at h
  · exact evF_ok (C := rect_Valid_C R 0) (an := An) (t := rect_Valid_at) (fn := Try.f52) (c := (Try.f52.body.getD .skip)) (ifn := rect_Valid_f) (rect_Valid_S R 0) (rect_Valid_J R 0) Try.func52 (by kernel_rfl) (by kernel_rfl) (And.intro True.intro (And.intro True.intro True.intro)) rfl (Eq.trans (rect_Valid_e 0 _ _ _ _ H K) h)
  · cases h
/-! ### rect_Area: function 53 -/
def rect_Area_b {R : Type} (rect_Valid : Int → Int → Int → Int → Heap → (Bool → Heap → Option R) → Option R) (k : Nat) (n176 : Int) (n177 : Int) (n178 : Int) (n179 : Int) (H : Heap) (K : Int → Heap → Option R) : Option R :=
hal H [.int .i64 n176, .int .i64 n177, .int .i64 n178, .int .i64 n179] fun p180 H181 =>
ldI .i64 H181 (pad p180 0) fun n182 =>
ldI .i64 H181 (pad p180 1) fun n183 =>
ldI .i64 H181 (pad p180 2) fun n184 =>
ldI .i64 H181 (pad p180 3) fun n185 =>
rect_Valid n182 n183 n184 n185 H181 fun t186 H187 =>
bif (!t186) then (K 0 H187)
 else (hfad 2 p180 fun p188 =>
ldI .i64 H187 p188 fun n189 =>
hfad 0 p180 fun p190 =>
ldI .i64 H187 p190 fun n191 =>
hfad 3 p180 fun p192 =>
ldI .i64 H187 p192 fun n193 =>
hfad 1 p180 fun p194 =>
ldI .i64 H187 p194 fun n195 =>
K (IntKind.wrap .i64 ((IntKind.wrap .i64 (n189 - n191)) * (IntKind.wrap .i64 (n193 - n195)))) H187)

def rect_Area {R : Type} (n176 : Int) (n177 : Int) (n178 : Int) (n179 : Int) (H : Heap) (K : Int → Heap → Option R) : Option R := rect_Area_b rect_Valid 0 n176 n177 n178 n179 H K

def rect_Area_Ct {R : Type} (rect_Valid : Int → Int → Int → Int → Heap → (Bool → Heap → Option R) → Option R) : Tab R := tcons 52 (rect_Valid_ca rect_Valid) <| fun _ _ _ _ => none
def rect_Area_C (R : Type) (k : Nat) : Tab R := rect_Area_Ct rect_Valid
theorem rect_Area_S (R : Type) (k : Nat) : CSound Try.prog (rect_Area_C R k) := csound_cons (rect_Valid_cs R k) <| csound_nil
def rect_Area_Jt {R : Type} (k : Nat) : JTab R := fun _ _ _ _ => none
def rect_Area_J (R : Type) (k : Nat) : JTab R := rect_Area_Jt k
def rect_Area_at : AT := (.seq (.reg [1] []) (.seq (.seq (.reg [1, 5] []) (.cond (.seq (.reg [2] []) .leaf) .leaf)) (.seq (.reg [2] []) .leaf)))
def rect_Area_f : IFn := ⟨17, [.t 2], (.seq (.reg [⟨some 1, .box (.t 0), none⟩,
 ⟨some 2, .mov (.c (Go.Value.int Go.IntKind.i64 0)), none⟩] [1]) (.seq (.seq (.reg [⟨some 3, .ld (.agg [(.int .i64), (.int .i64), (.int .i64), (.int .i64)]) (.t 1), none⟩,
 ⟨some 4, .call 52 [(.t 3)] (.one (.sc .bool)), none⟩,
 ⟨some 5, .lnot (.t 4), none⟩] [1, 5]) (.cond (.t 5) (.seq (.reg [⟨some 2, .mov (.c (Go.Value.int Go.IntKind.i64 0)), none⟩] [2]) .ret) .skip)) (.seq (.reg [⟨some 6, .fad 2 (.t 1), none⟩,
 ⟨some 7, .ld (.sc (.int .i64)) (.t 6), none⟩,
 ⟨some 8, .fad 0 (.t 1), none⟩,
 ⟨some 9, .ld (.sc (.int .i64)) (.t 8), none⟩,
 ⟨some 10, .bin .sub .i64 (.t 7) (.t 9), none⟩,
 ⟨some 11, .fad 3 (.t 1), none⟩,
 ⟨some 12, .ld (.sc (.int .i64)) (.t 11), none⟩,
 ⟨some 13, .fad 1 (.t 1), none⟩,
 ⟨some 14, .ld (.sc (.int .i64)) (.t 13), none⟩,
 ⟨some 15, .bin .sub .i64 (.t 12) (.t 14), none⟩,
 ⟨some 16, .bin .mul .i64 (.t 10) (.t 15), none⟩,
 ⟨some 2, .mov (.t 16), none⟩] [2]) .ret)))⟩
def rect_Area_ca {R : Type} (f : Int → Int → Int → Int → Heap → (Int → Heap → Option R) → Option R) (args : List Value) (H : Heap) (K : Value → Heap → Option R) : Option R :=
  match args with
  | [.agg ⟨[.int .i64 n176, .int .i64 n177, .int .i64 n178, .int .i64 n179]⟩] => f n176 n177 n178 n179 H (fun n1032 H => K (.int .i64 n1032) H)
  | _ => none
def rect_Area_c (R : Type) (k : Nat) (args : List Value) (H : Heap) (K : Value → Heap → Option R) : Option R := rect_Area_ca rect_Area args H K
theorem rect_Area_e {R : Type} (rect_Valid : Int → Int → Int → Int → Heap → (Bool → Heap → Option R) → Option R) (k : Nat) (n176 : Int) (n177 : Int) (n178 : Int) (n179 : Int) (H : Heap) (K : Value → Heap → Option R) : evF (rect_Area_Ct rect_Valid) (rect_Area_Jt k) rect_Area_f [.agg ⟨[.int .i64 n176, .int .i64 n177, .int .i64 n178, .int .i64 n179]⟩] H K = rect_Area_b rect_Valid k n176 n177 n178 n179 H (fun n1032 H => K (.int .i64 n1032) H) := by kernel_rfl
theorem rect_Area_cs (R : Type) (k : Nat) : ∀ args H K r, rect_Area_c R k args H K = some r → ∃ v H', Tri Try.prog 53 args H v H' ∧ K v H' = some r := by
  intro args H K r h
  unfold rect_Area_c rect_Area_ca at h
  split at h
  · exact evF_ok (C := rect_Area_C R 0) (an := An) (t := rect_Area_at) (fn := Try.f53) (c := (Try.f53.body.getD .skip)) (ifn := rect_Area_f) (rect_Area_S R 0) (rect_Area_J R 0) Try.func53 (by kernel_rfl) (by kernel_rfl) (And.intro True.intro (And.intro (And.intro True.intro (And.intro (And.intro True.intro True.intro) True.intro)) (And.intro True.intro True.intro))) rfl (Eq.trans (rect_Area_e rect_Valid 0 _ _ _ _ H K) h)
  · cases h
end Go.Proofs.Ytoeoolnkndkefaa.Sh
