/- Lean functions that stand for Go's, over an explicit heap, and the proofs that they do (written by this claim's program shallow.py). -/
import Derived.Test.YtblpaolcgkjcgaaSh0
import Derived.Test.YtblpaolcgkjcgaaSh1
import Derived.Test.YtblpaolcgkjcgaaSh2
set_option maxRecDepth 100000
set_option linter.unusedVariables false
set_option linter.unusedSimpArgs false
namespace Go.Proofs.Ytblpaolcgkjcgaa.Sh
open Go.Proofs.Ytblpaolcgkjcgaa.FW
/-! ### R01_FloorDiv: function 43 -/
def R01_FloorDiv_b {R : Type} (k : Nat) (n25 : Int) (n26 : Int) (K : Int → Option R) : Option R :=
bif decide (n26 < 1) then (K 0)
 else (hbin .quo .i64 n25 n26 fun n27 =>
hbin .rem .i64 n25 n26 fun n28 =>
bif decide (n28 < 0) then (K (IntKind.wrap .i64 (n27 - 1)))
 else (K n27))

def R01_FloorDiv {R : Type} (n25 : Int) (n26 : Int) (K : Int → Option R) : Option R := R01_FloorDiv_b 0 n25 n26 K

def R01_FloorDiv_Ct {R : Type} : Tab R := fun _ _ _ _ => none
def R01_FloorDiv_C (R : Type) (k : Nat) : Tab R := R01_FloorDiv_Ct
theorem R01_FloorDiv_S (R : Type) (k : Nat) : CSound Try.prog (R01_FloorDiv_C R k) := csound_nil
def R01_FloorDiv_Jt {R : Type} (k : Nat) : JTab R := fun _ _ _ _ => none
def R01_FloorDiv_J (R : Type) (k : Nat) : JTab R := R01_FloorDiv_Jt k
def R01_FloorDiv_at : AT := (.seq (.reg [0, 1] []) (.seq (.seq (.reg [0, 1, 7] []) (.cond (.seq (.reg [4] []) .leaf) .leaf)) (.seq (.reg [0, 1, 5] []) (.seq (.seq (.reg [5, 14] []) (.cond (.reg [5] []) .leaf)) (.seq (.reg [4] []) .leaf)))))
def R01_FloorDiv_f : IFn := ⟨18, [.t 4], (.seq (.reg [⟨some 4, .mov (.c (Go.Value.int Go.IntKind.i64 0)), none⟩] [0, 1]) (.seq (.seq (.reg [⟨some 6, .mov (.t 1), none⟩,
 ⟨some 7, .cmp .lss (.t 6) (.c (Go.Value.int Go.IntKind.i64 1)), none⟩] [0, 1, 7]) (.cond (.t 7) (.seq (.reg [⟨some 4, .mov (.c (Go.Value.int Go.IntKind.i64 0)), none⟩] [4]) .ret) .skip)) (.seq (.reg [⟨some 8, .mov (.t 0), none⟩,
 ⟨some 9, .mov (.t 1), none⟩,
 ⟨some 10, .bin .quo .i64 (.t 8) (.t 9), none⟩,
 ⟨some 5, .mov (.t 10), none⟩] [0, 1, 5]) (.seq (.seq (.reg [⟨some 11, .mov (.t 0), none⟩,
 ⟨some 12, .mov (.t 1), none⟩,
 ⟨some 13, .bin .rem .i64 (.t 11) (.t 12), none⟩,
 ⟨some 14, .cmp .lss (.t 13) (.c (Go.Value.int Go.IntKind.i64 0)), none⟩] [5, 14]) (.cond (.t 14) (.reg [⟨some 15, .mov (.t 5), none⟩,
 ⟨some 16, .bin .sub .i64 (.t 15) (.c (Go.Value.int Go.IntKind.i64 1)), none⟩,
 ⟨some 5, .mov (.t 16), none⟩] [5]) .skip)) (.seq (.reg [⟨some 17, .mov (.t 5), none⟩,
 ⟨some 4, .mov (.t 17), none⟩] [4]) .ret)))))⟩
def R01_FloorDiv_ca {R : Type} (f : Int → Int → (Int → Option R) → Option R) (args : List Value) (H : Heap) (K : Value → Heap → Option R) : Option R :=
  match args with
  | [.int .i64 n25, .int .i64 n26] => f n25 n26 (fun n1225 => K (.int .i64 n1225) H)
  | _ => none
def R01_FloorDiv_c (R : Type) (k : Nat) (args : List Value) (H : Heap) (K : Value → Heap → Option R) : Option R := R01_FloorDiv_ca R01_FloorDiv args H K
theorem R01_FloorDiv_e {R : Type} (k : Nat) (n25 : Int) (n26 : Int) (H : Heap) (K : Value → Heap → Option R) : evF (R01_FloorDiv_Ct) (R01_FloorDiv_Jt k) R01_FloorDiv_f [.int .i64 n25, .int .i64 n26] H K = R01_FloorDiv_b k n25 n26 (fun n1225 => K (.int .i64 n1225) H) := by kernel_rfl
theorem R01_FloorDiv_cs (R : Type) (k : Nat) : ∀ args H K r, R01_FloorDiv_c R k args H K = some r → ∃ v H', Tri Try.prog 43 args H v H' ∧ K v H' = some r := by
  intro args H K r h
  unfold R01_FloorDiv_c R01_FloorDiv_ca at h
  split at h
  · exact evF_ok (C := R01_FloorDiv_C R 0) (an := An) (t := R01_FloorDiv_at) (fn := Try.f43) (c := (Try.f43.body.getD .skip)) (ifn := R01_FloorDiv_f) (R01_FloorDiv_S R 0) (R01_FloorDiv_J R 0) Try.func43 (by kernel_rfl) (by kernel_rfl) (And.intro True.intro (And.intro (And.intro True.intro (And.intro (And.intro True.intro True.intro) True.intro)) (And.intro True.intro (And.intro (And.intro True.intro (And.intro True.intro True.intro)) (And.intro True.intro True.intro))))) rfl (Eq.trans (R01_FloorDiv_e 0 _ _ H K) h)
  · cases h
/-! ### R14_Pass: function 16 -/
def R14_Pass_b {R : Type} (R01_FloorDiv : Int → Int → (Int → Option R) → Option R) (k : Nat) (n24 : Int) (K : Int → Int → Option R) : Option R :=
bif decide (n24 < 0) then (K (-1) (-1))
 else (bif (n24 == 0) then (K 0 2)
 else (R01_FloorDiv (IntKind.wrap .i64 (n24 - 1)) 3 fun n25 =>
K (IntKind.wrap .i64 (1 + n25)) (Int.tmod (IntKind.wrap .i64 (n24 - 1)) 3)))

def R14_Pass {R : Type} (n24 : Int) (K : Int → Int → Option R) : Option R := R14_Pass_b R01_FloorDiv 0 n24 K

def R14_Pass_Ct {R : Type} (R01_FloorDiv : Int → Int → (Int → Option R) → Option R) : Tab R := tcons 43 (R01_FloorDiv_ca R01_FloorDiv) <| fun _ _ _ _ => none
def R14_Pass_C (R : Type) (k : Nat) : Tab R := R14_Pass_Ct R01_FloorDiv
theorem R14_Pass_S (R : Type) (k : Nat) : CSound Try.prog (R14_Pass_C R k) := csound_cons (R01_FloorDiv_cs R k) <| csound_nil
def R14_Pass_Jt {R : Type} (k : Nat) : JTab R := fun _ _ _ _ => none
def R14_Pass_J (R : Type) (k : Nat) : JTab R := R14_Pass_Jt k
def R14_Pass_at : AT := (.seq (.reg [0] []) (.seq (.seq (.reg [0, 5] []) (.cond (.seq (.reg [2, 3] []) .leaf) .leaf)) (.seq (.seq (.reg [0, 7] []) (.cond (.seq (.reg [2, 3] []) .leaf) .leaf)) (.seq (.reg [2, 3] []) .leaf))))
def R14_Pass_f : IFn := ⟨15, [.t 2, .t 3], (.seq (.reg [⟨some 2, .mov (.c (Go.Value.int Go.IntKind.i64 0)), none⟩,
 ⟨some 3, .mov (.c (Go.Value.int Go.IntKind.i64 0)), none⟩] [0]) (.seq (.seq (.reg [⟨some 4, .mov (.t 0), none⟩,
 ⟨some 5, .cmp .lss (.t 4) (.c (Go.Value.int Go.IntKind.i64 0)), none⟩] [0, 5]) (.cond (.t 5) (.seq (.reg [⟨some 2, .mov (.c (Go.Value.int Go.IntKind.i64 (-1))), none⟩,
 ⟨some 3, .mov (.c (Go.Value.int Go.IntKind.i64 (-1))), none⟩] [2, 3]) .ret) .skip)) (.seq (.seq (.reg [⟨some 6, .mov (.t 0), none⟩,
 ⟨some 7, .cmp .eql (.t 6) (.c (Go.Value.int Go.IntKind.i64 0)), none⟩] [0, 7]) (.cond (.t 7) (.seq (.reg [⟨some 2, .mov (.c (Go.Value.int Go.IntKind.i64 0)), none⟩,
 ⟨some 3, .mov (.c (Go.Value.int Go.IntKind.i64 2)), none⟩] [2, 3]) .ret) .skip)) (.seq (.reg [⟨some 8, .mov (.t 0), none⟩,
 ⟨some 9, .bin .sub .i64 (.t 8) (.c (Go.Value.int Go.IntKind.i64 1)), none⟩,
 ⟨some 10, .call 43 [(.t 9), (.c (Go.Value.int Go.IntKind.i64 3))] (.one (.sc (.int .i64))), none⟩,
 ⟨some 11, .bin .add .i64 (.c (Go.Value.int Go.IntKind.i64 1)) (.t 10), none⟩,
 ⟨some 12, .mov (.t 0), none⟩,
 ⟨some 13, .bin .sub .i64 (.t 12) (.c (Go.Value.int Go.IntKind.i64 1)), none⟩,
 ⟨some 14, .bin .rem .i64 (.t 13) (.c (Go.Value.int Go.IntKind.i64 3)), none⟩,
 ⟨some 2, .mov (.t 11), none⟩,
 ⟨some 3, .mov (.t 14), none⟩] [2, 3]) .ret))))⟩
def R14_Pass_ca {R : Type} (f : Int → (Int → Int → Option R) → Option R) (args : List Value) (H : Heap) (K : Value → Heap → Option R) : Option R :=
  match args with
  | [.int .i64 n24] => f n24 (fun n1226 n1227 => K (.tuple ⟨[.int .i64 n1226, .int .i64 n1227]⟩) H)
  | _ => none
def R14_Pass_c (R : Type) (k : Nat) (args : List Value) (H : Heap) (K : Value → Heap → Option R) : Option R := R14_Pass_ca R14_Pass args H K
theorem R14_Pass_e {R : Type} (R01_FloorDiv : Int → Int → (Int → Option R) → Option R) (k : Nat) (n24 : Int) (H : Heap) (K : Value → Heap → Option R) : evF (R14_Pass_Ct R01_FloorDiv) (R14_Pass_Jt k) R14_Pass_f [.int .i64 n24] H K = R14_Pass_b R01_FloorDiv k n24 (fun n1226 n1227 => K (.tuple ⟨[.int .i64 n1226, .int .i64 n1227]⟩) H) := by kernel_rfl
theorem R14_Pass_cs (R : Type) (k : Nat) : ∀ args H K r, R14_Pass_c R k args H K = some r → ∃ v H', Tri Try.prog 16 args H v H' ∧ K v H' = some r := by
  intro args H K r h
  unfold R14_Pass_c R14_Pass_ca at h
  split at h
  · exact evF_ok (C := R14_Pass_C R 0) (an := An) (t := R14_Pass_at) (fn := Try.f16) (c := (Try.f16.body.getD .skip)) (ifn := R14_Pass_f) (R14_Pass_S R 0) (R14_Pass_J R 0) Try.func16 (by kernel_rfl) (by kernel_rfl) (And.intro True.intro (And.intro (And.intro True.intro (And.intro (And.intro True.intro True.intro) True.intro)) (And.intro (And.intro True.intro (And.intro (And.intro True.intro True.intro) True.intro)) (And.intro True.intro True.intro)))) rfl (Eq.trans (R14_Pass_e R01_FloorDiv 0 _ H K) h)
  · cases h
/-! ### R14_Raw: function 18 -/
def R14_Raw_b {R : Type} (R14_Pass : Int → (Int → Int → Option R) → Option R) (k : Nat) (n42 : Int) (t43 : Bool) (t44 : Bool) (t45 : Bool) (t46 : Bool) (t47 : Bool) (H : Heap) (K : Bool → Heap → Option R) : Option R :=
hal H [.bool t43, .bool t44, .bool t45, .bool t46, .bool t47] fun p48 H49 =>
R14_Pass n42 fun n50 n51 =>
hfad 0 p48 fun p52 =>
ldB H49 p52 fun t53 =>
bif t53 then (bif decide (n50 ≥ 4) then (K (n51 != 2) H49)
 else (K false H49))
 else (K false H49)

def R14_Raw {R : Type} (n42 : Int) (t43 : Bool) (t44 : Bool) (t45 : Bool) (t46 : Bool) (t47 : Bool) (H : Heap) (K : Bool → Heap → Option R) : Option R := R14_Raw_b R14_Pass 0 n42 t43 t44 t45 t46 t47 H K

def R14_Raw_Ct {R : Type} (R14_Pass : Int → (Int → Int → Option R) → Option R) : Tab R := tcons 16 (R14_Pass_ca R14_Pass) <| fun _ _ _ _ => none
def R14_Raw_C (R : Type) (k : Nat) : Tab R := R14_Raw_Ct R14_Pass
theorem R14_Raw_S (R : Type) (k : Nat) : CSound Try.prog (R14_Raw_C R k) := csound_cons (R14_Pass_cs R k) <| csound_nil
def R14_Raw_Jt {R : Type} (k : Nat) : JTab R := fun _ _ _ _ => none
def R14_Raw_J (R : Type) (k : Nat) : JTab R := R14_Raw_Jt k
def R14_Raw_at : AT := (.seq (.reg [0, 3] []) (.seq (.reg [3, 5, 6] []) (.seq (.reg [4] []) .leaf)))
def R14_Raw_f : IFn := ⟨22, [.t 4], (.seq (.reg [⟨some 3, .box (.t 1), none⟩,
 ⟨some 4, .mov (.c (Go.Value.bool false)), none⟩] [0, 3]) (.seq (.reg [⟨some 8, .mov (.t 0), none⟩,
 ⟨some 9, .call 16 [(.t 8)] (.tup [(.sc (.int .i64)), (.sc (.int .i64))]), none⟩,
 ⟨some 7, .mov (.t 9), none⟩,
 ⟨some 10, .ext 0 (.t 7), none⟩,
 ⟨some 11, .ext 1 (.t 7), none⟩,
 ⟨some 5, .mov (.t 10), none⟩,
 ⟨some 6, .mov (.t 11), none⟩] [3, 5, 6]) (.seq (.reg [⟨some 12, .fad 0 (.t 3), none⟩,
 ⟨some 13, .ld (.sc .bool) (.t 12), none⟩,
 ⟨some 14, .mov (.t 13), none⟩,
 ⟨some 15, .mov (.t 5), some (14, true)⟩,
 ⟨some 16, .cmp .geq (.t 15) (.c (Go.Value.int Go.IntKind.i64 4)), some (14, true)⟩,
 ⟨some 17, .pick (.t 14) (.t 16) (.c (Go.Value.bool false)), none⟩,
 ⟨some 18, .mov (.t 17), none⟩,
 ⟨some 19, .mov (.t 6), some (18, true)⟩,
 ⟨some 20, .cmp .neq (.t 19) (.c (Go.Value.int Go.IntKind.i64 2)), some (18, true)⟩,
 ⟨some 21, .pick (.t 18) (.t 20) (.c (Go.Value.bool false)), none⟩,
 ⟨some 4, .mov (.t 21), none⟩] [4]) .ret)))⟩
def R14_Raw_ca {R : Type} (f : Int → Bool → Bool → Bool → Bool → Bool → Heap → (Bool → Heap → Option R) → Option R) (args : List Value) (H : Heap) (K : Value → Heap → Option R) : Option R :=
  match args with
  | [.int .i64 n42, .agg ⟨[.bool t43, .bool t44, .bool t45, .bool t46, .bool t47]⟩] => f n42 t43 t44 t45 t46 t47 H (fun t1228 H => K (.bool t1228) H)
  | _ => none
def R14_Raw_c (R : Type) (k : Nat) (args : List Value) (H : Heap) (K : Value → Heap → Option R) : Option R := R14_Raw_ca R14_Raw args H K
theorem R14_Raw_e {R : Type} (R14_Pass : Int → (Int → Int → Option R) → Option R) (k : Nat) (n42 : Int) (t43 : Bool) (t44 : Bool) (t45 : Bool) (t46 : Bool) (t47 : Bool) (H : Heap) (K : Value → Heap → Option R) : evF (R14_Raw_Ct R14_Pass) (R14_Raw_Jt k) R14_Raw_f [.int .i64 n42, .agg ⟨[.bool t43, .bool t44, .bool t45, .bool t46, .bool t47]⟩] H K = R14_Raw_b R14_Pass k n42 t43 t44 t45 t46 t47 H (fun t1228 H => K (.bool t1228) H) := by kernel_rfl
theorem R14_Raw_cs (R : Type) (k : Nat) : ∀ args H K r, R14_Raw_c R k args H K = some r → ∃ v H', Tri Try.prog 18 args H v H' ∧ K v H' = some r := by
  intro args H K r h
  unfold R14_Raw_c R14_Raw_ca at h
  split at h
  · exact evF_ok (C := R14_Raw_C R 0) (an := An) (t := R14_Raw_at) (fn := Try.f18) (c := (Try.f18.body.getD .skip)) (ifn := R14_Raw_f) (R14_Raw_S R 0) (R14_Raw_J R 0) Try.func18 (by kernel_rfl) (by kernel_rfl) (And.intro True.intro (And.intro True.intro (And.intro True.intro True.intro))) rfl (Eq.trans (R14_Raw_e R14_Pass 0 _ _ _ _ _ _ H K) h)
  · cases h
/-! ### R14_Segments: function 21 -/
def R14_Segments_p0_b {R : Type} (k : Nat) (n79 : Int) (p80 : Option Addr) (KN : Int → Option Addr → Option R) (KR : Option Addr → Nat → Nat → Option R) : Option R :=
bif decide (n79 < 1) then (KR none 0 0)
 else (bif decide (n79 > 178) then (KR none 0 0)
 else (KN n79 p80))
def R14_Segments_p0 {R : Type} (k : Nat) (n79 : Int) (p80 : Option Addr) (KN : Int → Option Addr → Option R) (KR : Option Addr → Nat → Nat → Option R) : Option R := R14_Segments_p0_b k n79 p80 KN KR

def R14_Segments_p3_b {R : Type} (k : Nat) (p101 : Option Addr) (q102 : Option Addr) (l103 : Nat) (c104 : Nat) (n105 : Int) (n106 : Int) (H : Heap) (KN : Option Addr → Option Addr → Nat → Nat → Int → Int → Bool → Option R) : Option R :=
hfad 0 p101 fun p107 =>
ldB H p107 fun t108 =>
bif t108 then (KN p101 q102 l103 c104 n105 n106 (((l103 : Nat) : Int) == 0))
 else (KN p101 q102 l103 c104 n105 n106 false)
def R14_Segments_p3 {R : Type} (k : Nat) (p101 : Option Addr) (q102 : Option Addr) (l103 : Nat) (c104 : Nat) (n105 : Int) (n106 : Int) (H : Heap) (KN : Option Addr → Option Addr → Nat → Nat → Int → Int → Bool → Option R) : Option R := R14_Segments_p3_b k p101 q102 l103 c104 n105 n106 H KN

def R14_Segments_p2_b {R : Type} (R14_Segments_p3 : Option Addr → Option Addr → Nat → Nat → Int → Int → Heap → (Option Addr → Option Addr → Nat → Nat → Int → Int → Bool → Option R) → Option R) (k : Nat) (p93 : Option Addr) (q94 : Option Addr) (l95 : Nat) (c96 : Nat) (n97 : Int) (n98 : Int) (H : Heap) (KN : Option Addr → Option Addr → Nat → Nat → Int → Int → Option R) : Option R :=
hfad 1 p93 fun p99 =>
ldB H p99 fun t100 =>
bif t100 then (KN p93 q94 l95 c96 n97 1)
 else (R14_Segments_p3 p93 q94 l95 c96 n97 n98 H (fun p116 q117 l118 c119 n120 n121 t122 =>
bif t122 then (KN p116 q117 l118 c119 n120 (imn n120 10))
 else (hfad 0 p116 fun p123 =>
ldB H p123 fun t124 =>
bif t124 then (KN p116 q117 l118 c119 n120 (imn n120 (IntKind.wrap .i64 (1 + (Int.tmod ((l118 : Nat) : Int) 2)))))
 else (KN p116 q117 l118 c119 n120 n121))))
def R14_Segments_p2 {R : Type} (k : Nat) (p93 : Option Addr) (q94 : Option Addr) (l95 : Nat) (c96 : Nat) (n97 : Int) (n98 : Int) (H : Heap) (KN : Option Addr → Option Addr → Nat → Nat → Int → Int → Option R) : Option R := R14_Segments_p2_b (R14_Segments_p3 k) k p93 q94 l95 c96 n97 n98 H KN

def R14_Segments_l1_b {R : Type} (R14_Segments_p2 : Option Addr → Option Addr → Nat → Nat → Int → Int → Heap → (Option Addr → Option Addr → Nat → Nat → Int → Int → Option R) → Option R) (rec : Option Addr → Option Addr → Nat → Nat → Int → Heap → Option R) (KE0 : Option Addr → Nat → Nat → Heap → Option R) (k : Nat) (p88 : Option Addr) (q89 : Option Addr) (l90 : Nat) (c91 : Nat) (n92 : Int) (H : Heap) : Option R :=
bif decide (n92 > 0) then (R14_Segments_p2 p88 q89 l90 c91 n92 n92 H (fun p131 q132 l133 c134 n135 n136 =>
hal H [.int .i64 n136] fun p137 H138 =>
happS 1 8 H138 q132 l133 c134 p137 1 fun q139 l140 c141 H142 =>
rec p131 q139 l140 c141 (IntKind.wrap .i64 (n135 - n136)) H142))
 else (KE0 q89 l90 c91 H)
def R14_Segments_l1 {R : Type} (k : Nat) (KE0 : Option Addr → Nat → Nat → Heap → Option R) : Nat → Option Addr → Option Addr → Nat → Nat → Int → Heap → Option R
  | 0, _, _, _, _, _, _ => none
  | n + 1, p88, q89, l90, c91, n92, H => R14_Segments_l1_b (R14_Segments_p2 k) (R14_Segments_l1 k KE0 n) KE0 k p88 q89 l90 c91 n92 H

def R14_Segments_b {R : Type} (R14_Segments_p0 : Int → Option Addr → (Int → Option Addr → Option R) → (Option Addr → Nat → Nat → Option R) → Option R) (R14_Segments_l1 : (Option Addr → Nat → Nat → Heap → Option R) → Nat → Option Addr → Option Addr → Nat → Nat → Int → Heap → Option R) (k : Nat) (n71 : Int) (t72 : Bool) (t73 : Bool) (t74 : Bool) (t75 : Bool) (t76 : Bool) (H : Heap) (K : Option Addr → Nat → Nat → Heap → Option R) : Option R :=
hal H [.bool t72, .bool t73, .bool t74, .bool t75, .bool t76] fun p77 H78 =>
R14_Segments_p0 n71 p77 (fun n86 p87 =>
R14_Segments_l1 (fun q146 l147 c148 H149 =>
K q146 l147 c148 H149) k p87 none 0 0 n86 H78) (fun q150 l151 c152 =>
K q150 l151 c152 H78)

def R14_Segments {R : Type} (k : Nat) (n71 : Int) (t72 : Bool) (t73 : Bool) (t74 : Bool) (t75 : Bool) (t76 : Bool) (H : Heap) (K : Option Addr → Nat → Nat → Heap → Option R) : Option R := R14_Segments_b (R14_Segments_p0 k) (R14_Segments_l1 k) k n71 t72 t73 t74 t75 t76 H K

def R14_Segments_Ct {R : Type} : Tab R := fun _ _ _ _ => none
def R14_Segments_C (R : Type) (k : Nat) : Tab R := R14_Segments_Ct
theorem R14_Segments_S (R : Type) (k : Nat) : CSound Try.prog (R14_Segments_C R k) := csound_nil
def R14_Segments_aa0 {R : Type} (f : Int → Option Addr → (Int → Option Addr → Option R) → (Option Addr → Nat → Nat → Option R) → Option R) (n : Nat) (vals : List Value) (H : Heap) (K : Xit → Env → Heap → Option R) : Option R :=
  match vals with
  | [.int .i64 n79, .pointer p80] => f n79 p80 (fun n1229 p1230 => K .normal [(0, .int .i64 n1229), (3, .pointer p1230)] H) (fun q1231 l1232 c1233 => K .ret [(4, .slice q1231 l1232 c1233)] H)
  | _ => none
def R14_Segments_a0 (R : Type) (k n : Nat) (vals : List Value) (H : Heap) (K : Xit → Env → Heap → Option R) : Option R := R14_Segments_aa0 (R14_Segments_p0 k) n vals H K
def R14_Segments_aa1 {R : Type} (f : (Option Addr → Nat → Nat → Heap → Option R) → Nat → Option Addr → Option Addr → Nat → Nat → Int → Heap → Option R) (n : Nat) (vals : List Value) (H : Heap) (K : Xit → Env → Heap → Option R) : Option R :=
  match vals with
  | [.pointer p88, .slice q89 l90 c91, .int .i64 n92] => f (fun q1234 l1235 c1236 H => K (.exit 0) [(5, .slice q1234 l1235 c1236)] H) n p88 q89 l90 c91 n92 H
  | _ => none
def R14_Segments_a1 (R : Type) (k n : Nat) (vals : List Value) (H : Heap) (K : Xit → Env → Heap → Option R) : Option R := R14_Segments_aa1 (R14_Segments_l1 k) n vals H K
def R14_Segments_aa2 {R : Type} (f : Option Addr → Option Addr → Nat → Nat → Int → Int → Heap → (Option Addr → Option Addr → Nat → Nat → Int → Int → Option R) → Option R) (n : Nat) (vals : List Value) (H : Heap) (K : Xit → Env → Heap → Option R) : Option R :=
  match vals with
  | [.pointer p93, .slice q94 l95 c96, .int .i64 n97, .int .i64 n98] => f p93 q94 l95 c96 n97 n98 H (fun p1237 q1238 l1239 c1240 n1241 n1242 => K .normal [(3, .pointer p1237), (5, .slice q1238 l1239 c1240), (6, .int .i64 n1241), (7, .int .i64 n1242)] H)
  | _ => none
def R14_Segments_a2 (R : Type) (k n : Nat) (vals : List Value) (H : Heap) (K : Xit → Env → Heap → Option R) : Option R := R14_Segments_aa2 (R14_Segments_p2 k) n vals H K
def R14_Segments_aa3 {R : Type} (f : Option Addr → Option Addr → Nat → Nat → Int → Int → Heap → (Option Addr → Option Addr → Nat → Nat → Int → Int → Bool → Option R) → Option R) (n : Nat) (vals : List Value) (H : Heap) (K : Xit → Env → Heap → Option R) : Option R :=
  match vals with
  | [.pointer p101, .slice q102 l103 c104, .int .i64 n105, .int .i64 n106] => f p101 q102 l103 c104 n105 n106 H (fun p1243 q1244 l1245 c1246 n1247 n1248 t1249 => K .normal [(3, .pointer p1243), (5, .slice q1244 l1245 c1246), (6, .int .i64 n1247), (7, .int .i64 n1248), (26, .bool t1249)] H)
  | _ => none
def R14_Segments_a3 (R : Type) (k n : Nat) (vals : List Value) (H : Heap) (K : Xit → Env → Heap → Option R) : Option R := R14_Segments_aa3 (R14_Segments_p3 k) n vals H K
def R14_Segments_Jt {R : Type} (k : Nat) (R14_Segments_p0 : Int → Option Addr → (Int → Option Addr → Option R) → (Option Addr → Nat → Nat → Option R) → Option R) (R14_Segments_l1 : (Option Addr → Nat → Nat → Heap → Option R) → Nat → Option Addr → Option Addr → Nat → Nat → Int → Heap → Option R) (R14_Segments_p2 : Option Addr → Option Addr → Nat → Nat → Int → Int → Heap → (Option Addr → Option Addr → Nat → Nat → Int → Int → Option R) → Option R) (R14_Segments_p3 : Option Addr → Option Addr → Nat → Nat → Int → Int → Heap → (Option Addr → Option Addr → Nat → Nat → Int → Int → Bool → Option R) → Option R) : JTab R := tcons 0 (R14_Segments_aa0 R14_Segments_p0 k) <| tcons 1 (R14_Segments_aa1 R14_Segments_l1 k) <| tcons 2 (R14_Segments_aa2 R14_Segments_p2 k) <| tcons 3 (R14_Segments_aa3 R14_Segments_p3 k) <| fun _ _ _ _ => none
def R14_Segments_J (R : Type) (k : Nat) : JTab R := R14_Segments_Jt k (R14_Segments_p0 k) (R14_Segments_l1 k) (R14_Segments_p2 k) (R14_Segments_p3 k)
def R14_Segments_at : AT := (.seq (.reg [0, 3] []) (.seq (.opq 0 [0, 3] ⟨[0, 3], [], [4]⟩ (.seq (.reg [0, 3, 13] []) (.cond (.seq (.reg [4] []) .leaf) .leaf))) (.seq (.reg [0, 3, 5] []) (.seq (.reg [3, 5, 6] []) (.seq (.node (.opq 1 [3, 5, 6] ⟨[], [(0, [5])], []⟩ (.node (.seq (.seq (.reg [3, 5, 6, 16] []) (.cond .leaf .leaf)) (.node (.seq (.reg [3, 5, 6, 7] []) (.seq (.opq 2 [3, 5, 6, 7] ⟨[3, 5, 6, 7], [], []⟩ (.seq (.reg [3, 5, 6, 7, 19] []) (.cond (.reg [3, 5, 6, 7] []) (.seq (.opq 3 [3, 5, 6, 7] ⟨[3, 5, 6, 7, 26], [], []⟩ (.reg [3, 5, 6, 7, 26] [])) (.cond (.reg [3, 5, 6, 7] []) (.seq (.reg [3, 5, 6, 7, 30] []) (.cond (.reg [3, 5, 6, 7] []) .leaf))))))) (.seq (.reg [3, 5, 6, 7] []) (.reg [3, 5, 6] []))))))))) (.seq (.reg [4] []) .leaf))))))
def R14_Segments_i3 : IC := (.reg [⟨some 20, .fad 0 (.t 3), none⟩,
 ⟨some 21, .ld (.sc .bool) (.t 20), none⟩,
 ⟨some 22, .mov (.t 21), none⟩,
 ⟨some 23, .mov (.t 5), some (22, true)⟩,
 ⟨some 24, .len false (.t 23), some (22, true)⟩,
 ⟨some 25, .cmp .eql (.t 24) (.c (Go.Value.int Go.IntKind.i64 0)), some (22, true)⟩,
 ⟨some 26, .pick (.t 22) (.t 25) (.c (Go.Value.bool false)), none⟩] [3, 5, 6, 7, 26])
def R14_Segments_i2 : IC := (.seq (.reg [⟨some 18, .fad 1 (.t 3), none⟩,
 ⟨some 19, .ld (.sc .bool) (.t 18), none⟩] [3, 5, 6, 7, 19]) (.cond (.t 19) (.reg [⟨some 7, .mov (.c (Go.Value.int Go.IntKind.i64 1)), none⟩] [3, 5, 6, 7]) (.seq (.opq 3 [3, 5, 6, 7] R14_Segments_i3) (.cond (.t 26) (.reg [⟨some 27, .mov (.t 6), none⟩,
 ⟨some 28, .mn (.t 27) (.c (Go.Value.int Go.IntKind.i64 10)), none⟩,
 ⟨some 7, .mov (.t 28), none⟩] [3, 5, 6, 7]) (.seq (.reg [⟨some 29, .fad 0 (.t 3), none⟩,
 ⟨some 30, .ld (.sc .bool) (.t 29), none⟩] [3, 5, 6, 7, 30]) (.cond (.t 30) (.reg [⟨some 31, .mov (.t 6), none⟩,
 ⟨some 32, .mov (.t 5), none⟩,
 ⟨some 33, .len false (.t 32), none⟩,
 ⟨some 34, .bin .rem .i64 (.t 33) (.c (Go.Value.int Go.IntKind.i64 2)), none⟩,
 ⟨some 35, .bin .add .i64 (.c (Go.Value.int Go.IntKind.i64 1)) (.t 34), none⟩,
 ⟨some 36, .mn (.t 31) (.t 35), none⟩,
 ⟨some 7, .mov (.t 36), none⟩] [3, 5, 6, 7]) .skip))))))
def R14_Segments_i1 : IC := (.seq (.seq (.reg [⟨some 15, .mov (.t 6), none⟩,
 ⟨some 16, .cmp .gtr (.t 15) (.c (Go.Value.int Go.IntKind.i64 0)), none⟩] [3, 5, 6, 16]) (.cond (.t 16) .skip (.exit 0))) (.block 1 (.seq (.reg [⟨some 17, .mov (.t 6), none⟩,
 ⟨some 7, .mov (.t 17), none⟩] [3, 5, 6, 7]) (.seq (.opq 2 [3, 5, 6, 7] R14_Segments_i2) (.seq (.reg [⟨some 37, .mov (.t 5), none⟩,
 ⟨some 38, .mov (.t 7), none⟩,
 ⟨some 39, .bls 1 [.int .i64 0] [(0, 1, (.t 38))], none⟩,
 ⟨some 40, .app [.int .i64 0] 8 (.t 37) (.t 39), none⟩,
 ⟨some 5, .mov (.t 40), none⟩] [3, 5, 6, 7]) (.reg [⟨some 41, .mov (.t 6), none⟩,
 ⟨some 42, .mov (.t 7), none⟩,
 ⟨some 43, .bin .sub .i64 (.t 41) (.t 42), none⟩,
 ⟨some 6, .mov (.t 43), none⟩] [3, 5, 6]))))))
def R14_Segments_i0 : IC := (.seq (.reg [⟨some 8, .mov (.t 0), none⟩,
 ⟨some 9, .cmp .lss (.t 8) (.c (Go.Value.int Go.IntKind.i64 1)), none⟩,
 ⟨some 10, .mov (.t 9), none⟩,
 ⟨some 11, .mov (.t 0), some (10, false)⟩,
 ⟨some 12, .cmp .gtr (.t 11) (.c (Go.Value.int Go.IntKind.i64 178)), some (10, false)⟩,
 ⟨some 13, .pick (.t 10) (.c (Go.Value.bool true)) (.t 12), none⟩] [0, 3, 13]) (.cond (.t 13) (.seq (.reg [⟨some 4, .mov (.c (Go.Value.slice none 0 0)), none⟩] [4]) .ret) .skip))
def R14_Segments_f : IFn := ⟨45, [.t 4], (.seq (.reg [⟨some 3, .box (.t 1), none⟩,
 ⟨some 4, .mov (.c (Go.Value.slice none 0 0)), none⟩] [0, 3]) (.seq (.opq 0 [0, 3] R14_Segments_i0) (.seq (.reg [⟨some 5, .mov (.c (Go.Value.slice none 0 0)), none⟩] [0, 3, 5]) (.seq (.reg [⟨some 14, .mov (.t 0), none⟩,
 ⟨some 6, .mov (.t 14), none⟩] [3, 5, 6]) (.seq (.block 0 (.opq 1 [3, 5, 6] (.loop R14_Segments_i1))) (.seq (.reg [⟨some 44, .mov (.t 5), none⟩,
 ⟨some 4, .mov (.t 44), none⟩] [4]) .ret))))))⟩
theorem R14_Segments_e3 {R : Type} (R14_Segments_p0 : Int → Option Addr → (Int → Option Addr → Option R) → (Option Addr → Nat → Nat → Option R) → Option R) (R14_Segments_l1 : (Option Addr → Nat → Nat → Heap → Option R) → Nat → Option Addr → Option Addr → Nat → Nat → Int → Heap → Option R) (R14_Segments_p2 : Option Addr → Option Addr → Nat → Nat → Int → Int → Heap → (Option Addr → Option Addr → Nat → Nat → Int → Int → Option R) → Option R) (R14_Segments_p3 : Option Addr → Option Addr → Nat → Nat → Int → Int → Heap → (Option Addr → Option Addr → Nat → Nat → Int → Int → Bool → Option R) → Option R) (k : Nat) (p101 : Option Addr) (q102 : Option Addr) (l103 : Nat) (c104 : Nat) (n105 : Int) (n106 : Int) (H : Heap) (K : Xit → Env → Heap → Option R) : evJ (R14_Segments_Ct) (R14_Segments_Jt k R14_Segments_p0 R14_Segments_l1 R14_Segments_p2 R14_Segments_p3) R14_Segments_i3 (List.zip [3, 5, 6, 7] [.pointer p101, .slice q102 l103 c104, .int .i64 n105, .int .i64 n106]) H (fun x e' H' => K x (clean e' ((⟨[3, 5, 6, 7, 26], [], []⟩ : Out).of x)) H') = R14_Segments_p3_b k p101 q102 l103 c104 n105 n106 H (fun p1243 q1244 l1245 c1246 n1247 n1248 t1249 => K .normal [(3, .pointer p1243), (5, .slice q1244 l1245 c1246), (6, .int .i64 n1247), (7, .int .i64 n1248), (26, .bool t1249)] H) := by kernel_rfl
theorem R14_Segments_j3 {R : Type} (k : Nat) : JS Try.prog 45 (R14_Segments_a3 R k k) [3, 5, 6, 7] ⟨[3, 5, 6, 7, 26], [], []⟩ (sel [1, 1, 1, 1, 0, 0, 0, 1, 0, 1, 0, 1, 1, 0] (Try.f21.body.getD .skip)) :=
  piece_ok (nt := 45) (c := (sel [1, 1, 1, 1, 0, 0, 0, 1, 0, 1, 0, 1, 1, 0] (Try.f21.body.getD .skip))) (C := R14_Segments_C R k) (an := An) (t := (.reg [3, 5, 6, 7, 26] [])) (ic := R14_Segments_i3) (R14_Segments_S R k) (R14_Segments_J R k) (by kernel_rfl) True.intro (R14_Segments_a3 R k k)
    (fun vals H K r h => by
      unfold R14_Segments_a3 R14_Segments_aa3 at h
      split at h <;> first | (cases h; done) | exact Eq.trans (R14_Segments_e3 (R14_Segments_p0 k) (R14_Segments_l1 k) (R14_Segments_p2 k) (R14_Segments_p3 k) k _ _ _ _ _ _ H K) h)
theorem R14_Segments_e2 {R : Type} (R14_Segments_p0 : Int → Option Addr → (Int → Option Addr → Option R) → (Option Addr → Nat → Nat → Option R) → Option R) (R14_Segments_l1 : (Option Addr → Nat → Nat → Heap → Option R) → Nat → Option Addr → Option Addr → Nat → Nat → Int → Heap → Option R) (R14_Segments_p2 : Option Addr → Option Addr → Nat → Nat → Int → Int → Heap → (Option Addr → Option Addr → Nat → Nat → Int → Int → Option R) → Option R) (R14_Segments_p3 : Option Addr → Option Addr → Nat → Nat → Int → Int → Heap → (Option Addr → Option Addr → Nat → Nat → Int → Int → Bool → Option R) → Option R) (k : Nat) (p93 : Option Addr) (q94 : Option Addr) (l95 : Nat) (c96 : Nat) (n97 : Int) (n98 : Int) (H : Heap) (K : Xit → Env → Heap → Option R) : evJ (R14_Segments_Ct) (R14_Segments_Jt k R14_Segments_p0 R14_Segments_l1 R14_Segments_p2 R14_Segments_p3) R14_Segments_i2 (List.zip [3, 5, 6, 7] [.pointer p93, .slice q94 l95 c96, .int .i64 n97, .int .i64 n98]) H (fun x e' H' => K x (clean e' ((⟨[3, 5, 6, 7], [], []⟩ : Out).of x)) H') = R14_Segments_p2_b R14_Segments_p3 k p93 q94 l95 c96 n97 n98 H (fun p1237 q1238 l1239 c1240 n1241 n1242 => K .normal [(3, .pointer p1237), (5, .slice q1238 l1239 c1240), (6, .int .i64 n1241), (7, .int .i64 n1242)] H) := by kernel_rfl
theorem R14_Segments_j2 {R : Type} (k : Nat) : JS Try.prog 45 (R14_Segments_a2 R k k) [3, 5, 6, 7] ⟨[3, 5, 6, 7], [], []⟩ (sel [1, 1, 1, 1, 0, 0, 0, 1, 0, 1, 0] (Try.f21.body.getD .skip)) :=
  piece_ok (nt := 45) (c := (sel [1, 1, 1, 1, 0, 0, 0, 1, 0, 1, 0] (Try.f21.body.getD .skip))) (C := R14_Segments_C R k) (an := An) (t := (.seq (.reg [3, 5, 6, 7, 19] []) (.cond (.reg [3, 5, 6, 7] []) (.seq (.opq 3 [3, 5, 6, 7] ⟨[3, 5, 6, 7, 26], [], []⟩ (.reg [3, 5, 6, 7, 26] [])) (.cond (.reg [3, 5, 6, 7] []) (.seq (.reg [3, 5, 6, 7, 30] []) (.cond (.reg [3, 5, 6, 7] []) .leaf))))))) (ic := R14_Segments_i2) (R14_Segments_S R k) (R14_Segments_J R k) (by kernel_rfl) (And.intro True.intro (And.intro True.intro (And.intro (R14_Segments_j3 k) (And.intro True.intro (And.intro True.intro (And.intro True.intro True.intro)))))) (R14_Segments_a2 R k k)
    (fun vals H K r h => by
      unfold R14_Segments_a2 R14_Segments_aa2 at h
      split at h <;> first | (cases h; done) | exact Eq.trans (R14_Segments_e2 (R14_Segments_p0 k) (R14_Segments_l1 k) (R14_Segments_p2 k) (R14_Segments_p3 k) k _ _ _ _ _ _ H K) h)
theorem R14_Segments_e1 {R : Type} (R14_Segments_p0 : Int → Option Addr → (Int → Option Addr → Option R) → (Option Addr → Nat → Nat → Option R) → Option R) (R14_Segments_l1 : (Option Addr → Nat → Nat → Heap → Option R) → Nat → Option Addr → Option Addr → Nat → Nat → Int → Heap → Option R) (R14_Segments_p2 : Option Addr → Option Addr → Nat → Nat → Int → Int → Heap → (Option Addr → Option Addr → Nat → Nat → Int → Int → Option R) → Option R) (R14_Segments_p3 : Option Addr → Option Addr → Nat → Nat → Int → Int → Heap → (Option Addr → Option Addr → Nat → Nat → Int → Int → Bool → Option R) → Option R) (k n : Nat) (p88 : Option Addr) (q89 : Option Addr) (l90 : Nat) (c91 : Nat) (n92 : Int) (H : Heap) (K : Xit → Env → Heap → Option R) : evJ (R14_Segments_Ct) (R14_Segments_Jt k R14_Segments_p0 R14_Segments_l1 R14_Segments_p2 R14_Segments_p3) R14_Segments_i1 (List.zip [3, 5, 6] [.pointer p88, .slice q89 l90 c91, .int .i64 n92]) H (fun x e' H' => match x with | .normal => R14_Segments_aa1 R14_Segments_l1 n ((clean e' [3, 5, 6]).map (·.2)) H' K | x => K x (clean e' ((⟨[], [(0, [5])], []⟩ : Out).of x)) H') = R14_Segments_l1_b R14_Segments_p2 (R14_Segments_l1 (fun q1234 l1235 c1236 H => K (.exit 0) [(5, .slice q1234 l1235 c1236)] H) n) (fun q1234 l1235 c1236 H => K (.exit 0) [(5, .slice q1234 l1235 c1236)] H) k p88 q89 l90 c91 n92 H := by kernel_rfl
theorem R14_Segments_j1 {R : Type} (k : Nat) : JS Try.prog 45 (R14_Segments_a1 R k k) [3, 5, 6] ⟨[], [(0, [5])], []⟩ (.loop (sel [1, 1, 1, 1, 0, 0, 0] (Try.f21.body.getD .skip))) :=
  loop_ok (nt := 45) (c := (sel [1, 1, 1, 1, 0, 0, 0] (Try.f21.body.getD .skip))) (C := R14_Segments_C R k) (an := An) (t := (.seq (.seq (.reg [3, 5, 6, 16] []) (.cond .leaf .leaf)) (.node (.seq (.reg [3, 5, 6, 7] []) (.seq (.opq 2 [3, 5, 6, 7] ⟨[3, 5, 6, 7], [], []⟩ (.seq (.reg [3, 5, 6, 7, 19] []) (.cond (.reg [3, 5, 6, 7] []) (.seq (.opq 3 [3, 5, 6, 7] ⟨[3, 5, 6, 7, 26], [], []⟩ (.reg [3, 5, 6, 7, 26] [])) (.cond (.reg [3, 5, 6, 7] []) (.seq (.reg [3, 5, 6, 7, 30] []) (.cond (.reg [3, 5, 6, 7] []) .leaf))))))) (.seq (.reg [3, 5, 6, 7] []) (.reg [3, 5, 6] []))))))) (ic := R14_Segments_i1) (R14_Segments_S R k) (R14_Segments_J R k) (by kernel_rfl) (And.intro (And.intro True.intro (And.intro True.intro True.intro)) (And.intro True.intro (And.intro (R14_Segments_j2 k) (And.intro True.intro True.intro)))) (R14_Segments_a1 R k) (fun vals H K => by unfold R14_Segments_a1 R14_Segments_aa1; split <;> rfl)
    (fun n vals H K r h => by
      unfold R14_Segments_a1 R14_Segments_aa1 at h
      split at h <;> first | (cases h; done) | exact Eq.trans (R14_Segments_e1 (R14_Segments_p0 k) (R14_Segments_l1 k) (R14_Segments_p2 k) (R14_Segments_p3 k) k n _ _ _ _ _ H K) h) k
theorem R14_Segments_e0 {R : Type} (R14_Segments_p0 : Int → Option Addr → (Int → Option Addr → Option R) → (Option Addr → Nat → Nat → Option R) → Option R) (R14_Segments_l1 : (Option Addr → Nat → Nat → Heap → Option R) → Nat → Option Addr → Option Addr → Nat → Nat → Int → Heap → Option R) (R14_Segments_p2 : Option Addr → Option Addr → Nat → Nat → Int → Int → Heap → (Option Addr → Option Addr → Nat → Nat → Int → Int → Option R) → Option R) (R14_Segments_p3 : Option Addr → Option Addr → Nat → Nat → Int → Int → Heap → (Option Addr → Option Addr → Nat → Nat → Int → Int → Bool → Option R) → Option R) (k : Nat) (n79 : Int) (p80 : Option Addr) (H : Heap) (K : Xit → Env → Heap → Option R) : evJ (R14_Segments_Ct) (R14_Segments_Jt k R14_Segments_p0 R14_Segments_l1 R14_Segments_p2 R14_Segments_p3) R14_Segments_i0 (List.zip [0, 3] [.int .i64 n79, .pointer p80]) H (fun x e' H' => K x (clean e' ((⟨[0, 3], [], [4]⟩ : Out).of x)) H') = R14_Segments_p0_b k n79 p80 (fun n1229 p1230 => K .normal [(0, .int .i64 n1229), (3, .pointer p1230)] H) (fun q1231 l1232 c1233 => K .ret [(4, .slice q1231 l1232 c1233)] H) := by kernel_rfl
theorem R14_Segments_j0 {R : Type} (k : Nat) : JS Try.prog 45 (R14_Segments_a0 R k k) [0, 3] ⟨[0, 3], [], [4]⟩ (sel [1, 0] (Try.f21.body.getD .skip)) :=
  piece_ok (nt := 45) (c := (sel [1, 0] (Try.f21.body.getD .skip))) (C := R14_Segments_C R k) (an := An) (t := (.seq (.reg [0, 3, 13] []) (.cond (.seq (.reg [4] []) .leaf) .leaf))) (ic := R14_Segments_i0) (R14_Segments_S R k) (R14_Segments_J R k) (by kernel_rfl) (And.intro True.intro (And.intro (And.intro True.intro True.intro) True.intro)) (R14_Segments_a0 R k k)
    (fun vals H K r h => by
      unfold R14_Segments_a0 R14_Segments_aa0 at h
      split at h <;> first | (cases h; done) | exact Eq.trans (R14_Segments_e0 (R14_Segments_p0 k) (R14_Segments_l1 k) (R14_Segments_p2 k) (R14_Segments_p3 k) k _ _ H K) h)
def R14_Segments_ca {R : Type} (f : Int → Bool → Bool → Bool → Bool → Bool → Heap → (Option Addr → Nat → Nat → Heap → Option R) → Option R) (args : List Value) (H : Heap) (K : Value → Heap → Option R) : Option R :=
  match args with
  | [.int .i64 n71, .agg ⟨[.bool t72, .bool t73, .bool t74, .bool t75, .bool t76]⟩] => f n71 t72 t73 t74 t75 t76 H (fun q1250 l1251 c1252 H => K (.slice q1250 l1251 c1252) H)
  | _ => none
def R14_Segments_c (R : Type) (k : Nat) (args : List Value) (H : Heap) (K : Value → Heap → Option R) : Option R := R14_Segments_ca (R14_Segments k) args H K
theorem R14_Segments_e {R : Type} (R14_Segments_p0 : Int → Option Addr → (Int → Option Addr → Option R) → (Option Addr → Nat → Nat → Option R) → Option R) (R14_Segments_l1 : (Option Addr → Nat → Nat → Heap → Option R) → Nat → Option Addr → Option Addr → Nat → Nat → Int → Heap → Option R) (R14_Segments_p2 : Option Addr → Option Addr → Nat → Nat → Int → Int → Heap → (Option Addr → Option Addr → Nat → Nat → Int → Int → Option R) → Option R) (R14_Segments_p3 : Option Addr → Option Addr → Nat → Nat → Int → Int → Heap → (Option Addr → Option Addr → Nat → Nat → Int → Int → Bool → Option R) → Option R) (k : Nat) (n71 : Int) (t72 : Bool) (t73 : Bool) (t74 : Bool) (t75 : Bool) (t76 : Bool) (H : Heap) (K : Value → Heap → Option R) : evF (R14_Segments_Ct) (R14_Segments_Jt k R14_Segments_p0 R14_Segments_l1 R14_Segments_p2 R14_Segments_p3) R14_Segments_f [.int .i64 n71, .agg ⟨[.bool t72, .bool t73, .bool t74, .bool t75, .bool t76]⟩] H K = R14_Segments_b R14_Segments_p0 R14_Segments_l1 k n71 t72 t73 t74 t75 t76 H (fun q1250 l1251 c1252 H => K (.slice q1250 l1251 c1252) H) := by kernel_rfl
theorem R14_Segments_cs (R : Type) (k : Nat) : ∀ args H K r, R14_Segments_c R k args H K = some r → ∃ v H', Tri Try.prog 21 args H v H' ∧ K v H' = some r := by
  intro args H K r h
  unfold R14_Segments_c R14_Segments_ca at h
  split at h
  · exact evF_ok (C := R14_Segments_C R k) (an := An) (t := R14_Segments_at) (fn := Try.f21) (c := (Try.f21.body.getD .skip)) (ifn := R14_Segments_f) (R14_Segments_S R k) (R14_Segments_J R k) Try.func21 (by kernel_rfl) (by kernel_rfl) (And.intro True.intro (And.intro (R14_Segments_j0 k) (And.intro True.intro (And.intro True.intro (And.intro (R14_Segments_j1 k) (And.intro True.intro True.intro)))))) rfl (Eq.trans (R14_Segments_e (R14_Segments_p0 k) (R14_Segments_l1 k) (R14_Segments_p2 k) (R14_Segments_p3 k) k _ _ _ _ _ _ H K) h)
  · cases h
/-! ### L_CblkPasses: function 4 -/
def L_CblkPasses_b {R : Type} (cblk_Pass : Int → (Int → Int → Option R) → Option R) (R14_Pass : Int → (Int → Int → Option R) → Option R) (cblk_Raw : Int → Bool → Bool → Bool → Bool → Bool → Heap → (Bool → Heap → Option R) → Option R) (R14_Raw : Int → Bool → Bool → Bool → Bool → Bool → Heap → (Bool → Heap → Option R) → Option R) (cblk_Segments : Int → Bool → Bool → Bool → Bool → Bool → Heap → (Option Addr → Nat → Nat → Heap → Option R) → Option R) (R14_Segments : Int → Bool → Bool → Bool → Bool → Bool → Heap → (Option Addr → Nat → Nat → Heap → Option R) → Option R) (R02_SameInts : Option Addr → Nat → Nat → Option Addr → Nat → Nat → Heap → (Bool → Option R) → Option R) (L_exampleHoldsq : (Bool → Option R) → Option R) (k : Nat) (n14 : Int) (t15 : Bool) (t16 : Bool) (t17 : Bool) (t18 : Bool) (t19 : Bool) (H : Heap) (K : Bool → Heap → Option R) : Option R :=
hal H [.bool t15, .bool t16, .bool t17, .bool t18, .bool t19] fun p20 H21 =>
cblk_Pass n14 fun n22 n23 =>
R14_Pass n14 fun n24 n25 =>
bif (n22 == n24) then (bif (n23 == n25) then (ldB H21 (pad p20 0) fun t26 =>
ldB H21 (pad p20 1) fun t27 =>
ldB H21 (pad p20 2) fun t28 =>
ldB H21 (pad p20 3) fun t29 =>
ldB H21 (pad p20 4) fun t30 =>
cblk_Raw n14 t26 t27 t28 t29 t30 (roH H21) fun t31 H32 =>
ldB H21 (pad p20 0) fun t33 =>
ldB H21 (pad p20 1) fun t34 =>
ldB H21 (pad p20 2) fun t35 =>
ldB H21 (pad p20 3) fun t36 =>
ldB H21 (pad p20 4) fun t37 =>
R14_Raw n14 t33 t34 t35 t36 t37 H21 fun t38 H39 =>
bif (t31 == t38) then (ldB H39 (pad p20 0) fun t40 =>
ldB H39 (pad p20 1) fun t41 =>
ldB H39 (pad p20 2) fun t42 =>
ldB H39 (pad p20 3) fun t43 =>
ldB H39 (pad p20 4) fun t44 =>
cblk_Segments n14 t40 t41 t42 t43 t44 (roH H39) fun q45 l46 c47 H48 =>
ldB (H39 ++ H48.drop H39.length) (pad p20 0) fun t49 =>
ldB (H39 ++ H48.drop H39.length) (pad p20 1) fun t50 =>
ldB (H39 ++ H48.drop H39.length) (pad p20 2) fun t51 =>
ldB (H39 ++ H48.drop H39.length) (pad p20 3) fun t52 =>
ldB (H39 ++ H48.drop H39.length) (pad p20 4) fun t53 =>
R14_Segments n14 t49 t50 t51 t52 t53 (H39 ++ H48.drop H39.length) fun q54 l55 c56 H57 =>
R02_SameInts q45 l46 c47 q54 l55 c56 H57 fun t58 =>
bif t58 then (L_exampleHoldsq fun t59 =>
K t59 H57)
 else (K false H57))
 else (K false H39))
 else (K false H21))
 else (K false H21)

def L_CblkPasses {R : Type} (k : Nat) (n14 : Int) (t15 : Bool) (t16 : Bool) (t17 : Bool) (t18 : Bool) (t19 : Bool) (H : Heap) (K : Bool → Heap → Option R) : Option R := L_CblkPasses_b cblk_Pass R14_Pass (cblk_Raw k) R14_Raw (cblk_Segments k) (R14_Segments k) (R02_SameInts k) L_exampleHoldsq k n14 t15 t16 t17 t18 t19 H K

def L_CblkPasses_Ct {R : Type} (cblk_Pass : Int → (Int → Int → Option R) → Option R) (R14_Pass : Int → (Int → Int → Option R) → Option R) (cblk_Raw : Int → Bool → Bool → Bool → Bool → Bool → Heap → (Bool → Heap → Option R) → Option R) (R14_Raw : Int → Bool → Bool → Bool → Bool → Bool → Heap → (Bool → Heap → Option R) → Option R) (cblk_Segments : Int → Bool → Bool → Bool → Bool → Bool → Heap → (Option Addr → Nat → Nat → Heap → Option R) → Option R) (R14_Segments : Int → Bool → Bool → Bool → Bool → Bool → Heap → (Option Addr → Nat → Nat → Heap → Option R) → Option R) (R02_SameInts : Option Addr → Nat → Nat → Option Addr → Nat → Nat → Heap → (Bool → Option R) → Option R) (L_exampleHoldsq : (Bool → Option R) → Option R) : Tab R := tcons 15 (cblk_Pass_ca cblk_Pass) <| tcons 16 (R14_Pass_ca R14_Pass) <| tcons 17 (cblk_Raw_ca cblk_Raw) <| tcons 18 (R14_Raw_ca R14_Raw) <| tcons 20 (cblk_Segments_ca cblk_Segments) <| tcons 21 (R14_Segments_ca R14_Segments) <| tcons 19 (R02_SameInts_ca R02_SameInts) <| tcons 14 (L_exampleHoldsq_ca L_exampleHoldsq) <| fun _ _ _ _ => none
def L_CblkPasses_C (R : Type) (k : Nat) : Tab R := L_CblkPasses_Ct cblk_Pass R14_Pass (cblk_Raw k) R14_Raw (cblk_Segments k) (R14_Segments k) (R02_SameInts k) L_exampleHoldsq
theorem L_CblkPasses_S (R : Type) (k : Nat) : CSound Try.prog (L_CblkPasses_C R k) := csound_cons (cblk_Pass_cs R k) <| csound_cons (R14_Pass_cs R k) <| csound_cons (cblk_Raw_cs R k) <| csound_cons (R14_Raw_cs R k) <| csound_cons (cblk_Segments_cs R k) <| csound_cons (R14_Segments_cs R k) <| csound_cons (R02_SameInts_cs R k) <| csound_cons (L_exampleHoldsq_cs R k) <| csound_nil
def L_CblkPasses_Jt {R : Type} (k : Nat) : JTab R := fun _ _ _ _ => none
def L_CblkPasses_J (R : Type) (k : Nat) : JTab R := L_CblkPasses_Jt k
def L_CblkPasses_at : AT := (.seq (.reg [0, 3] []) (.seq (.reg [0, 3, 5, 6] []) (.seq (.reg [0, 3, 5, 6, 7, 8] []) (.seq (.reg [4] [[], [], [0, 1], [0, 1, 2], [0, 1, 2, 3], [0, 1, 2, 3], [0, 1, 2, 3, 4, 5], [0, 1, 2, 3, 4, 5, 6], [0, 1, 2, 3, 4, 5, 6, 7], [0, 1, 2, 3, 4, 5, 6, 7, 8], [0, 1, 2, 3, 4, 5, 6, 7, 8], [0, 1, 2, 3, 4, 5, 6, 7, 8, 9, 10], [0, 1, 2, 3, 4, 5, 6, 7, 8], [0, 1, 2, 3, 4, 5, 6, 7, 8], [0, 1, 2, 3, 4, 5, 6, 7, 8, 9, 10, 11, 12, 13], [0, 1, 2, 3, 4, 5, 6, 7, 8, 9, 10, 11, 12, 13, 14], [0, 1, 2, 3, 4, 5, 6, 7, 8, 9, 10, 11, 12, 13, 14, 15], [0, 1, 2, 3, 4, 5, 6, 7, 8, 9, 10, 11, 12, 13, 14, 15, 16], [0, 1, 2, 3, 4, 5, 6, 7, 8, 9, 10, 11, 12, 13, 14, 15, 16, 17], [0, 1, 2, 3, 4, 5, 6, 7, 8, 9, 10, 11, 12, 13, 14, 15, 16, 17], [0, 1, 2, 3, 4, 5, 6, 7, 8, 9, 10, 11, 12, 13, 14, 15, 16, 17, 18, 19], [0, 1, 2, 3, 4, 5, 6, 7, 8, 9, 10, 11, 12, 13, 14, 15, 16, 17], [0, 1, 2, 3, 4, 5, 6, 7, 8, 9, 10, 11, 12, 13, 14, 15, 16, 17], [0, 1, 2, 3, 4, 5, 6, 7, 8, 9, 10, 11, 12, 13, 14, 15, 16, 17, 18, 19, 20, 21, 22], [0, 1, 2, 3, 4, 5, 6, 7, 8, 9, 10, 11, 12, 13, 14, 15, 16, 17, 18, 19, 20, 21, 22, 23], [0, 1, 2, 3, 4, 5, 6, 7, 8, 9, 10, 11, 12, 13, 14, 15, 16, 17, 18, 19, 20, 21, 22, 23, 24], [0, 1, 2, 3, 4, 5, 6, 7, 8, 9, 10, 11, 12, 13, 14, 15, 16, 17, 18, 19, 20, 21, 22, 23, 24, 25], [0, 1, 2, 3, 4, 5, 6, 7, 8, 9, 10, 11, 12, 13, 14, 15, 16, 17, 18, 19, 20, 21, 22, 23, 24, 25, 26], [0, 1, 2, 3, 4, 5, 6, 7, 8, 9, 10, 11, 12, 13, 14, 15, 16, 17, 18, 19, 20, 21, 22, 23, 24, 25, 26, 27], [0, 1, 2, 3, 4, 5, 6, 7, 8, 9, 10, 11, 12, 13, 14, 15, 16, 17, 18, 19, 20, 21, 22, 23, 24, 25, 26, 27, 28]]) .leaf))))
def L_CblkPasses_f : IFn := ⟨48, [.t 4], (.seq (.reg [⟨some 3, .box (.t 1), none⟩,
 ⟨some 4, .mov (.c (Go.Value.bool false)), none⟩] [0, 3]) (.seq (.reg [⟨some 10, .mov (.t 0), none⟩,
 ⟨some 11, .call 15 [(.t 10)] (.tup [(.sc (.int .i64)), (.sc (.int .i64))]), none⟩,
 ⟨some 9, .mov (.t 11), none⟩,
 ⟨some 12, .ext 0 (.t 9), none⟩,
 ⟨some 13, .ext 1 (.t 9), none⟩,
 ⟨some 5, .mov (.t 12), none⟩,
 ⟨some 6, .mov (.t 13), none⟩] [0, 3, 5, 6]) (.seq (.reg [⟨some 15, .mov (.t 0), none⟩,
 ⟨some 16, .call 16 [(.t 15)] (.tup [(.sc (.int .i64)), (.sc (.int .i64))]), none⟩,
 ⟨some 14, .mov (.t 16), none⟩,
 ⟨some 17, .ext 0 (.t 14), none⟩,
 ⟨some 18, .ext 1 (.t 14), none⟩,
 ⟨some 7, .mov (.t 17), none⟩,
 ⟨some 8, .mov (.t 18), none⟩] [0, 3, 5, 6, 7, 8]) (.seq (.reg [⟨some 19, .mov (.t 5), none⟩,
 ⟨some 20, .mov (.t 7), none⟩,
 ⟨some 21, .cmp .eql (.t 19) (.t 20), none⟩,
 ⟨some 22, .mov (.t 21), none⟩,
 ⟨some 23, .mov (.t 6), some (22, true)⟩,
 ⟨some 24, .mov (.t 8), some (22, true)⟩,
 ⟨some 25, .cmp .eql (.t 23) (.t 24), some (22, true)⟩,
 ⟨some 26, .pick (.t 22) (.t 25) (.c (Go.Value.bool false)), none⟩,
 ⟨some 27, .mov (.t 26), none⟩,
 ⟨some 28, .mov (.t 0), some (27, true)⟩,
 ⟨some 29, .ld (.agg [.bool, .bool, .bool, .bool, .bool]) (.t 3), some (27, true)⟩,
 ⟨some 30, .calp 17 [(.t 28), (.t 29)] (.one (.sc .bool)), some (27, true)⟩,
 ⟨some 31, .mov (.t 0), some (27, true)⟩,
 ⟨some 32, .ld (.agg [.bool, .bool, .bool, .bool, .bool]) (.t 3), some (27, true)⟩,
 ⟨some 33, .call 18 [(.t 31), (.t 32)] (.one (.sc .bool)), some (27, true)⟩,
 ⟨some 34, .eqb (.t 30) (.t 33) false, some (27, true)⟩,
 ⟨some 35, .pick (.t 27) (.t 34) (.c (Go.Value.bool false)), none⟩,
 ⟨some 36, .mov (.t 35), none⟩,
 ⟨some 37, .mov (.t 0), some (36, true)⟩,
 ⟨some 38, .ld (.agg [.bool, .bool, .bool, .bool, .bool]) (.t 3), some (36, true)⟩,
 ⟨some 39, .calf 20 [(.t 37), (.t 38)] [] (.one (.sc .slc)), some (36, true)⟩,
 ⟨some 40, .mov (.t 0), some (36, true)⟩,
 ⟨some 41, .ld (.agg [.bool, .bool, .bool, .bool, .bool]) (.t 3), some (36, true)⟩,
 ⟨some 42, .call 21 [(.t 40), (.t 41)] (.one (.sc .slc)), some (36, true)⟩,
 ⟨some 43, .call 19 [(.t 39), (.t 42)] (.one (.sc .bool)), some (36, true)⟩,
 ⟨some 44, .pick (.t 36) (.t 43) (.c (Go.Value.bool false)), none⟩,
 ⟨some 45, .mov (.t 44), none⟩,
 ⟨some 46, .call 14 [] (.one (.sc .bool)), some (45, true)⟩,
 ⟨some 47, .pick (.t 45) (.t 46) (.c (Go.Value.bool false)), none⟩,
 ⟨some 4, .mov (.t 47), none⟩] [4]) .ret))))⟩
def L_CblkPasses_ca {R : Type} (f : Int → Bool → Bool → Bool → Bool → Bool → Heap → (Bool → Heap → Option R) → Option R) (args : List Value) (H : Heap) (K : Value → Heap → Option R) : Option R :=
  match args with
  | [.int .i64 n14, .agg ⟨[.bool t15, .bool t16, .bool t17, .bool t18, .bool t19]⟩] => f n14 t15 t16 t17 t18 t19 H (fun t1253 H => K (.bool t1253) H)
  | _ => none
def L_CblkPasses_c (R : Type) (k : Nat) (args : List Value) (H : Heap) (K : Value → Heap → Option R) : Option R := L_CblkPasses_ca (L_CblkPasses k) args H K
theorem L_CblkPasses_e {R : Type} (cblk_Pass : Int → (Int → Int → Option R) → Option R) (R14_Pass : Int → (Int → Int → Option R) → Option R) (cblk_Raw : Int → Bool → Bool → Bool → Bool → Bool → Heap → (Bool → Heap → Option R) → Option R) (R14_Raw : Int → Bool → Bool → Bool → Bool → Bool → Heap → (Bool → Heap → Option R) → Option R) (cblk_Segments : Int → Bool → Bool → Bool → Bool → Bool → Heap → (Option Addr → Nat → Nat → Heap → Option R) → Option R) (R14_Segments : Int → Bool → Bool → Bool → Bool → Bool → Heap → (Option Addr → Nat → Nat → Heap → Option R) → Option R) (R02_SameInts : Option Addr → Nat → Nat → Option Addr → Nat → Nat → Heap → (Bool → Option R) → Option R) (L_exampleHoldsq : (Bool → Option R) → Option R) (k : Nat) (n14 : Int) (t15 : Bool) (t16 : Bool) (t17 : Bool) (t18 : Bool) (t19 : Bool) (H : Heap) (K : Value → Heap → Option R) : evF (L_CblkPasses_Ct cblk_Pass R14_Pass cblk_Raw R14_Raw cblk_Segments R14_Segments R02_SameInts L_exampleHoldsq) (L_CblkPasses_Jt k) L_CblkPasses_f [.int .i64 n14, .agg ⟨[.bool t15, .bool t16, .bool t17, .bool t18, .bool t19]⟩] H K = L_CblkPasses_b cblk_Pass R14_Pass cblk_Raw R14_Raw cblk_Segments R14_Segments R02_SameInts L_exampleHoldsq k n14 t15 t16 t17 t18 t19 H (fun t1253 H => K (.bool t1253) H) := by kernel_rfl
theorem L_CblkPasses_cs (R : Type) (k : Nat) : ∀ args H K r, L_CblkPasses_c R k args H K = some r → ∃ v H', Tri Try.prog 4 args H v H' ∧ K v H' = some r := by
  intro args H K r h
  unfold L_CblkPasses_c L_CblkPasses_ca at h
  split at h
  · exact evF_ok (C := L_CblkPasses_C R k) (an := An) (t := L_CblkPasses_at) (fn := Try.f4) (c := (Try.f4.body.getD .skip)) (ifn := L_CblkPasses_f) (L_CblkPasses_S R k) (L_CblkPasses_J R k) Try.func4 (by kernel_rfl) (by kernel_rfl) (And.intro True.intro (And.intro True.intro (And.intro True.intro (And.intro True.intro True.intro)))) rfl (Eq.trans (L_CblkPasses_e cblk_Pass R14_Pass (cblk_Raw k) R14_Raw (cblk_Segments k) (R14_Segments k) (R02_SameInts k) L_exampleHoldsq k _ _ _ _ _ _ H K) h)
  · cases h
end Go.Proofs.Ytblpaolcgkjcgaa.Sh
