/- Lean functions that stand for Go's, over an explicit heap, and the proofs that they do (written by this claim's program shallow.py). -/
import Derived.Test.YtblpaolcgkjcgaaSh2
set_option maxRecDepth 100000
set_option linter.unusedVariables false
set_option linter.unusedSimpArgs false
namespace Go.Proofs.Ytblpaolcgkjcgaa.Sh
open Go.Proofs.Ytblpaolcgkjcgaa.FW
/-! ### waveletref14_Pass: function 16 -/
def waveletref14_Pass_b {R : Type} (waveletref01_FloorDiv : Int → Int → (Int → Option R) → Option R) (k : Nat) (n24 : Int) (K : Int → Int → Option R) : Option R :=
bif decide (n24 < 0) then (K (-1) (-1))
 else (bif (n24 == 0) then (K 0 2)
 else (waveletref01_FloorDiv (IntKind.wrap .i64 (n24 - 1)) 3 fun n25 =>
K (IntKind.wrap .i64 (1 + n25)) (Int.tmod (IntKind.wrap .i64 (n24 - 1)) 3)))

def waveletref14_Pass {R : Type} (n24 : Int) (K : Int → Int → Option R) : Option R := waveletref14_Pass_b waveletref01_FloorDiv 0 n24 K

def waveletref14_Pass_Ct {R : Type} (waveletref01_FloorDiv : Int → Int → (Int → Option R) → Option R) : Tab R := tcons 43 (waveletref01_FloorDiv_ca waveletref01_FloorDiv) <| fun _ _ _ _ => none
def waveletref14_Pass_C (R : Type) (k : Nat) : Tab R := waveletref14_Pass_Ct waveletref01_FloorDiv
theorem waveletref14_Pass_S (R : Type) (k : Nat) : CSound Try.prog (waveletref14_Pass_C R k) := csound_cons (waveletref01_FloorDiv_cs R k) <| csound_nil
def waveletref14_Pass_Jt {R : Type} (k : Nat) : JTab R := fun _ _ _ _ => none
def waveletref14_Pass_J (R : Type) (k : Nat) : JTab R := waveletref14_Pass_Jt k
def waveletref14_Pass_at : AT := (.seq (.reg [0] []) (.seq (.seq (.reg [0, 5] []) (.cond (.seq (.reg [2, 3] []) .leaf) .leaf)) (.seq (.seq (.reg [0, 7] []) (.cond (.seq (.reg [2, 3] []) .leaf) .leaf)) (.seq (.reg [2, 3] []) .leaf))))
def waveletref14_Pass_f : IFn := ⟨15, [.t 2, .t 3], (.seq (.reg [⟨some 2, .mov (.c (Go.Value.int Go.IntKind.i64 0)), none⟩,
 ⟨some 3, .mov (.c (Go.Value.int Go.IntKind.i64 0)), none⟩] [0]) (.seq (.seq (.reg [⟨some 4, .mov (.t 0), none⟩,
 ⟨some 5, .cmp .lss (.t 4) (.c (Go.Value.int Go.IntKind.i64 0)), none⟩] [0, 5]) (.cond (.t 5) (.seq (.reg [⟨some 2, .mov (.c (Go.Value.int Go.IntKind.i64 (-1))), none⟩,
 ⟨some 3, .mov (.c (Go.Value.int Go.IntKind.i64 (-1))), none⟩] [2, 3]) .ret) .skip)) (.seq (.seq (.reg [⟨some 6, .mov (.t 0), none⟩,
 ⟨some 7, .cmp .eql (.t 6) (.c (Go.Value.int Go.IntKind.i64 0)), none⟩] [0, 7]) (.cond (.t 7) (.seq (.reg [⟨some 2, .mov (.c (Go.Value.int Go.IntKind.i64 0)), none⟩,
 ⟨some 3, .mov (.c (Go.Value.int Go.IntKind.i64 2)), none⟩] [2, 3]) .ret) .skip)) (.seq (.reg [⟨some 8, .mov (.t 0), none⟩,
 ⟨some 9, .bin .sub .i64 (.t 8) (.c (Go.Value.int Go.IntKind.i64 1)), none⟩,
 ⟨some 10, .call 43 [(.t 9), (.c (Go.Value.int Go.IntKind.i64 3))] (.one (.sc (.int .i64))), none⟩,
 ⟨some 11, .bin .add .i64 (.c (Go.Value.int Go.IntKind.i64 1)) (.t 10), none⟩,
 ⟨some 12, .mov (.t 0), none⟩,
 ⟨some 13, .bin .sub .i64 (.t 12) (.c (Go.Value.int Go.IntKind.i64 1)), none⟩,
 ⟨some 14, .bin .rem .i64 (.t 13) (.c (Go.Value.int Go.IntKind.i64 3)), none⟩,
 ⟨some 2, .mov (.t 11), none⟩,
 ⟨some 3, .mov (.t 14), none⟩] [2, 3]) .ret))))⟩
def waveletref14_Pass_ca {R : Type} (f : Int → (Int → Int → Option R) → Option R) (args : List Value) (H : Heap) (K : Value → Heap → Option R) : Option R :=
  match args with
  | [.int .i64 n24] => f n24 (fun n1482 n1483 => K (.tuple ⟨[.int .i64 n1482, .int .i64 n1483]⟩) H)
  | _ => none
def waveletref14_Pass_c (R : Type) (k : Nat) (args : List Value) (H : Heap) (K : Value → Heap → Option R) : Option R := waveletref14_Pass_ca waveletref14_Pass args H K
theorem waveletref14_Pass_e {R : Type} (waveletref01_FloorDiv : Int → Int → (Int → Option R) → Option R) (k : Nat) (n24 : Int) (H : Heap) (K : Value → Heap → Option R) : evF (waveletref14_Pass_Ct waveletref01_FloorDiv) (waveletref14_Pass_Jt k) waveletref14_Pass_f [.int .i64 n24] H K = waveletref14_Pass_b waveletref01_FloorDiv k n24 (fun n1482 n1483 => K (.tuple ⟨[.int .i64 n1482, .int .i64 n1483]⟩) H) := by kernel_rfl
theorem waveletref14_Pass_cs (R : Type) (k : Nat) : ∀ args H K r, waveletref14_Pass_c R k args H K = some r → ∃ v H', Tri Try.prog 16 args H v H' ∧ K v H' = some r := by
  intro args H K r h
  unfold waveletref14_Pass_c waveletref14_Pass_ca at h
  split at h
  · exact evF_ok (C := waveletref14_Pass_C R 0) (an := An) (t := waveletref14_Pass_at) (fn := Try.f16) (c := (Try.f16.body.getD .skip)) (ifn := waveletref14_Pass_f) (waveletref14_Pass_S R 0) (waveletref14_Pass_J R 0) Try.func16 (by kernel_rfl) (by kernel_rfl) (And.intro True.intro (And.intro (And.intro True.intro (And.intro (And.intro True.intro True.intro) True.intro)) (And.intro (And.intro True.intro (And.intro (And.intro True.intro True.intro) True.intro)) (And.intro True.intro True.intro)))) rfl (Eq.trans (waveletref14_Pass_e waveletref01_FloorDiv 0 _ H K) h)
  · cases h
/-! ### waveletref14_Raw: function 18 -/
def waveletref14_Raw_b {R : Type} (waveletref14_Pass : Int → (Int → Int → Option R) → Option R) (k : Nat) (n42 : Int) (t43 : Bool) (t44 : Bool) (t45 : Bool) (t46 : Bool) (t47 : Bool) (H : Heap) (K : Bool → Heap → Option R) : Option R :=
hal H [.bool t43, .bool t44, .bool t45, .bool t46, .bool t47] fun p48 H49 =>
waveletref14_Pass n42 fun n50 n51 =>
hfad 0 p48 fun p52 =>
ldB H49 p52 fun t53 =>
bif t53 then (bif decide (n50 ≥ 4) then (K (n51 != 2) H49)
 else (K false H49))
 else (K false H49)

def waveletref14_Raw {R : Type} (n42 : Int) (t43 : Bool) (t44 : Bool) (t45 : Bool) (t46 : Bool) (t47 : Bool) (H : Heap) (K : Bool → Heap → Option R) : Option R := waveletref14_Raw_b waveletref14_Pass 0 n42 t43 t44 t45 t46 t47 H K

def waveletref14_Raw_Ct {R : Type} (waveletref14_Pass : Int → (Int → Int → Option R) → Option R) : Tab R := tcons 16 (waveletref14_Pass_ca waveletref14_Pass) <| fun _ _ _ _ => none
def waveletref14_Raw_C (R : Type) (k : Nat) : Tab R := waveletref14_Raw_Ct waveletref14_Pass
theorem waveletref14_Raw_S (R : Type) (k : Nat) : CSound Try.prog (waveletref14_Raw_C R k) := csound_cons (waveletref14_Pass_cs R k) <| csound_nil
def waveletref14_Raw_Jt {R : Type} (k : Nat) : JTab R := fun _ _ _ _ => none
def waveletref14_Raw_J (R : Type) (k : Nat) : JTab R := waveletref14_Raw_Jt k
def waveletref14_Raw_at : AT := (.seq (.reg [0, 3, 15, 16, 19, 20] []) (.seq (.reg [3, 5, 6, 15, 16, 19, 20] []) (.seq (.reg [4] []) .leaf)))
def waveletref14_Raw_f : IFn := ⟨22, [.t 4], (.seq (.reg [⟨some 3, .box (.t 1), none⟩,
 ⟨some 4, .mov (.c (Go.Value.bool false)), none⟩] [0, 3, 15, 16, 19, 20]) (.seq (.reg [⟨some 8, .mov (.t 0), none⟩,
 ⟨some 9, .call 16 [(.t 8)] (.tup [(.sc (.int .i64)), (.sc (.int .i64))]), none⟩,
 ⟨some 7, .mov (.t 9), none⟩,
 ⟨some 10, .ext 0 (.t 7), none⟩,
 ⟨some 11, .ext 1 (.t 7), none⟩,
 ⟨some 5, .mov (.t 10), none⟩,
 ⟨some 6, .mov (.t 11), none⟩] [3, 5, 6, 15, 16, 19, 20]) (.seq (.reg [⟨some 12, .fad 0 (.t 3), none⟩,
 ⟨some 13, .ld (.sc .bool) (.t 12), none⟩,
 ⟨some 14, .mov (.t 13), none⟩,
 ⟨some 15, .mov (.t 5), some (14, true)⟩,
 ⟨some 16, .cmp .geq (.t 15) (.c (Go.Value.int Go.IntKind.i64 4)), some (14, true)⟩,
 ⟨some 17, .pick (.t 14) (.t 16) (.c (Go.Value.bool false)), none⟩,
 ⟨some 18, .mov (.t 17), none⟩,
 ⟨some 19, .mov (.t 6), some (18, true)⟩,
 ⟨some 20, .cmp .neq (.t 19) (.c (Go.Value.int Go.IntKind.i64 2)), some (18, true)⟩,
 ⟨some 21, .pick (.t 18) (.t 20) (.c (Go.Value.bool false)), none⟩,
 ⟨some 4, .mov (.t 21), none⟩] [4]) .ret)))⟩
def waveletref14_Raw_ca {R : Type} (f : Int → Bool → Bool → Bool → Bool → Bool → Heap → (Bool → Heap → Option R) → Option R) (args : List Value) (H : Heap) (K : Value → Heap → Option R) : Option R :=
  match args with
  | [.int .i64 n42, .agg ⟨[.bool t43, .bool t44, .bool t45, .bool t46, .bool t47]⟩] => f n42 t43 t44 t45 t46 t47 H (fun t1484 H => K (.bool t1484) H)
  | _ => none
def waveletref14_Raw_c (R : Type) (k : Nat) (args : List Value) (H : Heap) (K : Value → Heap → Option R) : Option R := waveletref14_Raw_ca waveletref14_Raw args H K
theorem waveletref14_Raw_e {R : Type} (waveletref14_Pass : Int → (Int → Int → Option R) → Option R) (k : Nat) (n42 : Int) (t43 : Bool) (t44 : Bool) (t45 : Bool) (t46 : Bool) (t47 : Bool) (H : Heap) (K : Value → Heap → Option R) : evF (waveletref14_Raw_Ct waveletref14_Pass) (waveletref14_Raw_Jt k) waveletref14_Raw_f [.int .i64 n42, .agg ⟨[.bool t43, .bool t44, .bool t45, .bool t46, .bool t47]⟩] H K = waveletref14_Raw_b waveletref14_Pass k n42 t43 t44 t45 t46 t47 H (fun t1484 H => K (.bool t1484) H) := by kernel_rfl
theorem waveletref14_Raw_cs (R : Type) (k : Nat) : ∀ args H K r, waveletref14_Raw_c R k args H K = some r → ∃ v H', Tri Try.prog 18 args H v H' ∧ K v H' = some r := by
  intro args H K r h
  unfold waveletref14_Raw_c waveletref14_Raw_ca at h
  split at h
  · exact evF_ok (C := waveletref14_Raw_C R 0) (an := An) (t := waveletref14_Raw_at) (fn := Try.f18) (c := (Try.f18.body.getD .skip)) (ifn := waveletref14_Raw_f) (waveletref14_Raw_S R 0) (waveletref14_Raw_J R 0) Try.func18 (by kernel_rfl) (by kernel_rfl) (And.intro True.intro (And.intro True.intro (And.intro True.intro True.intro))) rfl (Eq.trans (waveletref14_Raw_e waveletref14_Pass 0 _ _ _ _ _ _ H K) h)
  · cases h
/-! ### waveletref14_Segments: function 21 -/
def waveletref14_Segments_p0_b {R : Type} (k : Nat) (n79 : Int) (p80 : Option Addr) (KN : Int → Option Addr → Option R) (KR : Option Addr → Nat → Nat → Option R) : Option R :=
bif decide (n79 < 1) then (KR none 0 0)
 else (bif decide (n79 > 178) then (KR none 0 0)
 else (KN n79 p80))
def waveletref14_Segments_p0 {R : Type} (k : Nat) (n79 : Int) (p80 : Option Addr) (KN : Int → Option Addr → Option R) (KR : Option Addr → Nat → Nat → Option R) : Option R := waveletref14_Segments_p0_b k n79 p80 KN KR

def waveletref14_Segments_p3_b {R : Type} (k : Nat) (p101 : Option Addr) (q102 : Option Addr) (l103 : Nat) (c104 : Nat) (n105 : Int) (n106 : Int) (H : Heap) (KN : Option Addr → Option Addr → Nat → Nat → Int → Int → Bool → Option R) : Option R :=
hfad 0 p101 fun p107 =>
ldB H p107 fun t108 =>
bif t108 then (KN p101 q102 l103 c104 n105 n106 (((l103 : Nat) : Int) == 0))
 else (KN p101 q102 l103 c104 n105 n106 false)
def waveletref14_Segments_p3 {R : Type} (k : Nat) (p101 : Option Addr) (q102 : Option Addr) (l103 : Nat) (c104 : Nat) (n105 : Int) (n106 : Int) (H : Heap) (KN : Option Addr → Option Addr → Nat → Nat → Int → Int → Bool → Option R) : Option R := waveletref14_Segments_p3_b k p101 q102 l103 c104 n105 n106 H KN

def waveletref14_Segments_p2_b {R : Type} (waveletref14_Segments_p3 : Option Addr → Option Addr → Nat → Nat → Int → Int → Heap → (Option Addr → Option Addr → Nat → Nat → Int → Int → Bool → Option R) → Option R) (k : Nat) (p93 : Option Addr) (q94 : Option Addr) (l95 : Nat) (c96 : Nat) (n97 : Int) (n98 : Int) (H : Heap) (KN : Option Addr → Option Addr → Nat → Nat → Int → Int → Option R) : Option R :=
hfad 1 p93 fun p99 =>
ldB H p99 fun t100 =>
bif t100 then (KN p93 q94 l95 c96 n97 1)
 else (waveletref14_Segments_p3 p93 q94 l95 c96 n97 n98 H (fun p116 q117 l118 c119 n120 n121 t122 =>
bif t122 then (KN p116 q117 l118 c119 n120 (imn n120 10))
 else (hfad 0 p116 fun p123 =>
ldB H p123 fun t124 =>
bif t124 then (KN p116 q117 l118 c119 n120 (imn n120 (IntKind.wrap .i64 (1 + (Int.tmod ((l118 : Nat) : Int) 2)))))
 else (KN p116 q117 l118 c119 n120 n121))))
def waveletref14_Segments_p2 {R : Type} (k : Nat) (p93 : Option Addr) (q94 : Option Addr) (l95 : Nat) (c96 : Nat) (n97 : Int) (n98 : Int) (H : Heap) (KN : Option Addr → Option Addr → Nat → Nat → Int → Int → Option R) : Option R := waveletref14_Segments_p2_b (waveletref14_Segments_p3 k) k p93 q94 l95 c96 n97 n98 H KN

def waveletref14_Segments_l1_b {R : Type} (waveletref14_Segments_p2 : Option Addr → Option Addr → Nat → Nat → Int → Int → Heap → (Option Addr → Option Addr → Nat → Nat → Int → Int → Option R) → Option R) (rec : Option Addr → Option Addr → Nat → Nat → Int → Heap → Option R) (KE0 : Option Addr → Nat → Nat → Heap → Option R) (k : Nat) (p88 : Option Addr) (q89 : Option Addr) (l90 : Nat) (c91 : Nat) (n92 : Int) (H : Heap) : Option R :=
bif decide (n92 > 0) then (waveletref14_Segments_p2 p88 q89 l90 c91 n92 n92 H (fun p131 q132 l133 c134 n135 n136 =>
hal H [.int .i64 n136] fun p137 H138 =>
happS 1 8 H138 q132 l133 c134 p137 1 fun q139 l140 c141 H142 =>
rec p131 q139 l140 c141 (IntKind.wrap .i64 (n135 - n136)) H142))
 else (KE0 q89 l90 c91 H)
def waveletref14_Segments_l1 {R : Type} (k : Nat) (KE0 : Option Addr → Nat → Nat → Heap → Option R) : Nat → Option Addr → Option Addr → Nat → Nat → Int → Heap → Option R
  | 0, _, _, _, _, _, _ => none
  | n + 1, p88, q89, l90, c91, n92, H => waveletref14_Segments_l1_b (waveletref14_Segments_p2 k) (waveletref14_Segments_l1 k KE0 n) KE0 k p88 q89 l90 c91 n92 H

def waveletref14_Segments_b {R : Type} (waveletref14_Segments_p0 : Int → Option Addr → (Int → Option Addr → Option R) → (Option Addr → Nat → Nat → Option R) → Option R) (waveletref14_Segments_l1 : (Option Addr → Nat → Nat → Heap → Option R) → Nat → Option Addr → Option Addr → Nat → Nat → Int → Heap → Option R) (k : Nat) (n71 : Int) (t72 : Bool) (t73 : Bool) (t74 : Bool) (t75 : Bool) (t76 : Bool) (H : Heap) (K : Option Addr → Nat → Nat → Heap → Option R) : Option R :=
hal H [.bool t72, .bool t73, .bool t74, .bool t75, .bool t76] fun p77 H78 =>
waveletref14_Segments_p0 n71 p77 (fun n86 p87 =>
waveletref14_Segments_l1 (fun q146 l147 c148 H149 =>
K q146 l147 c148 H149) k p87 none 0 0 n86 H78) (fun q150 l151 c152 =>
K q150 l151 c152 H78)

def waveletref14_Segments {R : Type} (k : Nat) (n71 : Int) (t72 : Bool) (t73 : Bool) (t74 : Bool) (t75 : Bool) (t76 : Bool) (H : Heap) (K : Option Addr → Nat → Nat → Heap → Option R) : Option R := waveletref14_Segments_b (waveletref14_Segments_p0 k) (waveletref14_Segments_l1 k) k n71 t72 t73 t74 t75 t76 H K

def waveletref14_Segments_Ct {R : Type} : Tab R := fun _ _ _ _ => none
def waveletref14_Segments_C (R : Type) (k : Nat) : Tab R := waveletref14_Segments_Ct
theorem waveletref14_Segments_S (R : Type) (k : Nat) : CSound Try.prog (waveletref14_Segments_C R k) := csound_nil
def waveletref14_Segments_aa0 {R : Type} (f : Int → Option Addr → (Int → Option Addr → Option R) → (Option Addr → Nat → Nat → Option R) → Option R) (n : Nat) (vals : List Value) (H : Heap) (K : Xit → Env → Heap → Option R) : Option R :=
  match vals with
  | [.int .i64 n79, .pointer p80] => f n79 p80 (fun n1485 p1486 => K .normal [(0, .int .i64 n1485), (3, .pointer p1486)] H) (fun q1487 l1488 c1489 => K .ret [(4, .slice q1487 l1488 c1489)] H)
  | _ => none
def waveletref14_Segments_a0 (R : Type) (k n : Nat) (vals : List Value) (H : Heap) (K : Xit → Env → Heap → Option R) : Option R := waveletref14_Segments_aa0 (waveletref14_Segments_p0 k) n vals H K
def waveletref14_Segments_aa1 {R : Type} (f : (Option Addr → Nat → Nat → Heap → Option R) → Nat → Option Addr → Option Addr → Nat → Nat → Int → Heap → Option R) (n : Nat) (vals : List Value) (H : Heap) (K : Xit → Env → Heap → Option R) : Option R :=
  match vals with
  | [.pointer p88, .slice q89 l90 c91, .int .i64 n92] => f (fun q1490 l1491 c1492 H => K (.exit 0) [(5, .slice q1490 l1491 c1492)] H) n p88 q89 l90 c91 n92 H
  | _ => none
def waveletref14_Segments_a1 (R : Type) (k n : Nat) (vals : List Value) (H : Heap) (K : Xit → Env → Heap → Option R) : Option R := waveletref14_Segments_aa1 (waveletref14_Segments_l1 k) n vals H K
def waveletref14_Segments_aa2 {R : Type} (f : Option Addr → Option Addr → Nat → Nat → Int → Int → Heap → (Option Addr → Option Addr → Nat → Nat → Int → Int → Option R) → Option R) (n : Nat) (vals : List Value) (H : Heap) (K : Xit → Env → Heap → Option R) : Option R :=
  match vals with
  | [.pointer p93, .slice q94 l95 c96, .int .i64 n97, .int .i64 n98] => f p93 q94 l95 c96 n97 n98 H (fun p1493 q1494 l1495 c1496 n1497 n1498 => K .normal [(3, .pointer p1493), (5, .slice q1494 l1495 c1496), (6, .int .i64 n1497), (7, .int .i64 n1498)] H)
  | _ => none
def waveletref14_Segments_a2 (R : Type) (k n : Nat) (vals : List Value) (H : Heap) (K : Xit → Env → Heap → Option R) : Option R := waveletref14_Segments_aa2 (waveletref14_Segments_p2 k) n vals H K
def waveletref14_Segments_aa3 {R : Type} (f : Option Addr → Option Addr → Nat → Nat → Int → Int → Heap → (Option Addr → Option Addr → Nat → Nat → Int → Int → Bool → Option R) → Option R) (n : Nat) (vals : List Value) (H : Heap) (K : Xit → Env → Heap → Option R) : Option R :=
  match vals with
  | [.pointer p101, .slice q102 l103 c104, .int .i64 n105, .int .i64 n106] => f p101 q102 l103 c104 n105 n106 H (fun p1499 q1500 l1501 c1502 n1503 n1504 t1505 => K .normal [(3, .pointer p1499), (5, .slice q1500 l1501 c1502), (6, .int .i64 n1503), (7, .int .i64 n1504), (26, .bool t1505)] H)
  | _ => none
def waveletref14_Segments_a3 (R : Type) (k n : Nat) (vals : List Value) (H : Heap) (K : Xit → Env → Heap → Option R) : Option R := waveletref14_Segments_aa3 (waveletref14_Segments_p3 k) n vals H K
def waveletref14_Segments_Jt {R : Type} (k : Nat) (waveletref14_Segments_p0 : Int → Option Addr → (Int → Option Addr → Option R) → (Option Addr → Nat → Nat → Option R) → Option R) (waveletref14_Segments_l1 : (Option Addr → Nat → Nat → Heap → Option R) → Nat → Option Addr → Option Addr → Nat → Nat → Int → Heap → Option R) (waveletref14_Segments_p2 : Option Addr → Option Addr → Nat → Nat → Int → Int → Heap → (Option Addr → Option Addr → Nat → Nat → Int → Int → Option R) → Option R) (waveletref14_Segments_p3 : Option Addr → Option Addr → Nat → Nat → Int → Int → Heap → (Option Addr → Option Addr → Nat → Nat → Int → Int → Bool → Option R) → Option R) : JTab R := tcons 0 (waveletref14_Segments_aa0 waveletref14_Segments_p0 k) <| tcons 1 (waveletref14_Segments_aa1 waveletref14_Segments_l1 k) <| tcons 2 (waveletref14_Segments_aa2 waveletref14_Segments_p2 k) <| tcons 3 (waveletref14_Segments_aa3 waveletref14_Segments_p3 k) <| fun _ _ _ _ => none
def waveletref14_Segments_J (R : Type) (k : Nat) : JTab R := waveletref14_Segments_Jt k (waveletref14_Segments_p0 k) (waveletref14_Segments_l1 k) (waveletref14_Segments_p2 k) (waveletref14_Segments_p3 k)
def waveletref14_Segments_at : AT := (.seq (.reg [0, 3, 11, 12, 23, 24, 25] []) (.seq (.opq 0 [0, 3] ⟨[0, 3], [], [4]⟩ (.seq (.reg [0, 3, 13, 23, 24, 25] []) (.cond (.seq (.reg [4] []) .leaf) .leaf))) (.seq (.reg [0, 3, 5, 23, 24, 25] []) (.seq (.reg [3, 5, 6, 23, 24, 25] []) (.seq (.node (.opq 1 [3, 5, 6] ⟨[], [(0, [5])], []⟩ (.node (.seq (.seq (.reg [3, 5, 6, 16, 23, 24, 25] []) (.cond .leaf .leaf)) (.node (.seq (.reg [3, 5, 6, 7, 23, 24, 25] []) (.seq (.opq 2 [3, 5, 6, 7] ⟨[3, 5, 6, 7], [], []⟩ (.seq (.reg [3, 5, 6, 7, 19, 23, 24, 25] []) (.cond (.reg [3, 5, 6, 7, 23, 24, 25] []) (.seq (.opq 3 [3, 5, 6, 7] ⟨[3, 5, 6, 7, 26], [], []⟩ (.reg [3, 5, 6, 7, 23, 24, 25, 26] [])) (.cond (.reg [3, 5, 6, 7, 23, 24, 25] []) (.seq (.reg [3, 5, 6, 7, 23, 24, 25, 30] []) (.cond (.reg [3, 5, 6, 7, 23, 24, 25] []) .leaf))))))) (.seq (.reg [3, 5, 6, 7, 23, 24, 25] []) (.reg [3, 5, 6, 23, 24, 25] []))))))))) (.seq (.reg [4] []) .leaf))))))
def waveletref14_Segments_i3 : IC := (.reg [⟨some 20, .fad 0 (.t 3), none⟩,
 ⟨some 21, .ld (.sc .bool) (.t 20), none⟩,
 ⟨some 22, .mov (.t 21), none⟩,
 ⟨some 23, .mov (.t 5), some (22, true)⟩,
 ⟨some 24, .len false (.t 23), some (22, true)⟩,
 ⟨some 25, .cmp .eql (.t 24) (.c (Go.Value.int Go.IntKind.i64 0)), some (22, true)⟩,
 ⟨some 26, .pick (.t 22) (.t 25) (.c (Go.Value.bool false)), none⟩] [3, 5, 6, 7, 23, 24, 25, 26])
def waveletref14_Segments_i2 : IC := (.seq (.reg [⟨some 18, .fad 1 (.t 3), none⟩,
 ⟨some 19, .ld (.sc .bool) (.t 18), none⟩] [3, 5, 6, 7, 19, 23, 24, 25]) (.cond (.t 19) (.reg [⟨some 7, .mov (.c (Go.Value.int Go.IntKind.i64 1)), none⟩] [3, 5, 6, 7, 23, 24, 25]) (.seq (.opq 3 [3, 5, 6, 7] waveletref14_Segments_i3) (.cond (.t 26) (.reg [⟨some 27, .mov (.t 6), none⟩,
 ⟨some 28, .mn (.t 27) (.c (Go.Value.int Go.IntKind.i64 10)), none⟩,
 ⟨some 7, .mov (.t 28), none⟩] [3, 5, 6, 7, 23, 24, 25]) (.seq (.reg [⟨some 29, .fad 0 (.t 3), none⟩,
 ⟨some 30, .ld (.sc .bool) (.t 29), none⟩] [3, 5, 6, 7, 23, 24, 25, 30]) (.cond (.t 30) (.reg [⟨some 31, .mov (.t 6), none⟩,
 ⟨some 32, .mov (.t 5), none⟩,
 ⟨some 33, .len false (.t 32), none⟩,
 ⟨some 34, .bin .rem .i64 (.t 33) (.c (Go.Value.int Go.IntKind.i64 2)), none⟩,
 ⟨some 35, .bin .add .i64 (.c (Go.Value.int Go.IntKind.i64 1)) (.t 34), none⟩,
 ⟨some 36, .mn (.t 31) (.t 35), none⟩,
 ⟨some 7, .mov (.t 36), none⟩] [3, 5, 6, 7, 23, 24, 25]) .skip))))))
def waveletref14_Segments_i1 : IC := (.seq (.seq (.reg [⟨some 15, .mov (.t 6), none⟩,
 ⟨some 16, .cmp .gtr (.t 15) (.c (Go.Value.int Go.IntKind.i64 0)), none⟩] [3, 5, 6, 16, 23, 24, 25]) (.cond (.t 16) .skip (.exit 0))) (.block 1 (.seq (.reg [⟨some 17, .mov (.t 6), none⟩,
 ⟨some 7, .mov (.t 17), none⟩] [3, 5, 6, 7, 23, 24, 25]) (.seq (.opq 2 [3, 5, 6, 7] waveletref14_Segments_i2) (.seq (.reg [⟨some 37, .mov (.t 5), none⟩,
 ⟨some 38, .mov (.t 7), none⟩,
 ⟨some 39, .bls 1 [.int .i64 0] [(0, 1, (.t 38))], none⟩,
 ⟨some 40, .app [.int .i64 0] 8 (.t 37) (.t 39), none⟩,
 ⟨some 5, .mov (.t 40), none⟩] [3, 5, 6, 7, 23, 24, 25]) (.reg [⟨some 41, .mov (.t 6), none⟩,
 ⟨some 42, .mov (.t 7), none⟩,
 ⟨some 43, .bin .sub .i64 (.t 41) (.t 42), none⟩,
 ⟨some 6, .mov (.t 43), none⟩] [3, 5, 6, 23, 24, 25]))))))
def waveletref14_Segments_i0 : IC := (.seq (.reg [⟨some 8, .mov (.t 0), none⟩,
 ⟨some 9, .cmp .lss (.t 8) (.c (Go.Value.int Go.IntKind.i64 1)), none⟩,
 ⟨some 10, .mov (.t 9), none⟩,
 ⟨some 11, .mov (.t 0), some (10, false)⟩,
 ⟨some 12, .cmp .gtr (.t 11) (.c (Go.Value.int Go.IntKind.i64 178)), some (10, false)⟩,
 ⟨some 13, .pick (.t 10) (.c (Go.Value.bool true)) (.t 12), none⟩] [0, 3, 13, 23, 24, 25]) (.cond (.t 13) (.seq (.reg [⟨some 4, .mov (.c (Go.Value.slice none 0 0)), none⟩] [4]) .ret) .skip))
def waveletref14_Segments_f : IFn := ⟨45, [.t 4], (.seq (.reg [⟨some 3, .box (.t 1), none⟩,
 ⟨some 4, .mov (.c (Go.Value.slice none 0 0)), none⟩] [0, 3, 11, 12, 23, 24, 25]) (.seq (.opq 0 [0, 3] waveletref14_Segments_i0) (.seq (.reg [⟨some 5, .mov (.c (Go.Value.slice none 0 0)), none⟩] [0, 3, 5, 23, 24, 25]) (.seq (.reg [⟨some 14, .mov (.t 0), none⟩,
 ⟨some 6, .mov (.t 14), none⟩] [3, 5, 6, 23, 24, 25]) (.seq (.block 0 (.opq 1 [3, 5, 6] (.loop waveletref14_Segments_i1))) (.seq (.reg [⟨some 44, .mov (.t 5), none⟩,
 ⟨some 4, .mov (.t 44), none⟩] [4]) .ret))))))⟩
theorem waveletref14_Segments_e3 {R : Type} (waveletref14_Segments_p0 : Int → Option Addr → (Int → Option Addr → Option R) → (Option Addr → Nat → Nat → Option R) → Option R) (waveletref14_Segments_l1 : (Option Addr → Nat → Nat → Heap → Option R) → Nat → Option Addr → Option Addr → Nat → Nat → Int → Heap → Option R) (waveletref14_Segments_p2 : Option Addr → Option Addr → Nat → Nat → Int → Int → Heap → (Option Addr → Option Addr → Nat → Nat → Int → Int → Option R) → Option R) (waveletref14_Segments_p3 : Option Addr → Option Addr → Nat → Nat → Int → Int → Heap → (Option Addr → Option Addr → Nat → Nat → Int → Int → Bool → Option R) → Option R) (k : Nat) (p101 : Option Addr) (q102 : Option Addr) (l103 : Nat) (c104 : Nat) (n105 : Int) (n106 : Int) (H : Heap) (K : Xit → Env → Heap → Option R) : evJ (waveletref14_Segments_Ct) (waveletref14_Segments_Jt k waveletref14_Segments_p0 waveletref14_Segments_l1 waveletref14_Segments_p2 waveletref14_Segments_p3) waveletref14_Segments_i3 (List.zip [3, 5, 6, 7] [.pointer p101, .slice q102 l103 c104, .int .i64 n105, .int .i64 n106]) H (fun x e' H' => K x (clean e' ((⟨[3, 5, 6, 7, 26], [], []⟩ : Out).of x)) H') = waveletref14_Segments_p3_b k p101 q102 l103 c104 n105 n106 H (fun p1499 q1500 l1501 c1502 n1503 n1504 t1505 => K .normal [(3, .pointer p1499), (5, .slice q1500 l1501 c1502), (6, .int .i64 n1503), (7, .int .i64 n1504), (26, .bool t1505)] H) := by kernel_rfl
theorem waveletref14_Segments_j3 {R : Type} (k : Nat) : JS Try.prog 45 (waveletref14_Segments_a3 R k k) [3, 5, 6, 7] ⟨[3, 5, 6, 7, 26], [], []⟩ (sel [1, 1, 1, 1, 0, 0, 0, 1, 0, 1, 0, 1, 1, 0] (Try.f21.body.getD .skip)) :=
  piece_ok (nt := 45) (c := (sel [1, 1, 1, 1, 0, 0, 0, 1, 0, 1, 0, 1, 1, 0] (Try.f21.body.getD .skip))) (C := waveletref14_Segments_C R k) (an := An) (t := (.reg [3, 5, 6, 7, 23, 24, 25, 26] [])) (ic := waveletref14_Segments_i3) (waveletref14_Segments_S R k) (waveletref14_Segments_J R k) (by kernel_rfl) True.intro (waveletref14_Segments_a3 R k k)
    (fun vals H K r h => by
      unfold waveletref14_Segments_a3 waveletref14_Segments_aa3 at h
      split at h <;> first | (cases h; done) | exact Eq.trans (waveletref14_Segments_e3 (waveletref14_Segments_p0 k) (waveletref14_Segments_l1 k) (waveletref14_Segments_p2 k) (waveletref14_Segments_p3 k) k _ _ _ _ _ _ H K) h)
theorem waveletref14_Segments_e2 {R : Type} (waveletref14_Segments_p0 : Int → Option Addr → (Int → Option Addr → Option R) → (Option Addr → Nat → Nat → Option R) → Option R) (waveletref14_Segments_l1 : (Option Addr → Nat → Nat → Heap → Option R) → Nat → Option Addr → Option Addr → Nat → Nat → Int → Heap → Option R) (waveletref14_Segments_p2 : Option Addr → Option Addr → Nat → Nat → Int → Int → Heap → (Option Addr → Option Addr → Nat → Nat → Int → Int → Option R) → Option R) (waveletref14_Segments_p3 : Option Addr → Option Addr → Nat → Nat → Int → Int → Heap → (Option Addr → Option Addr → Nat → Nat → Int → Int → Bool → Option R) → Option R) (k : Nat) (p93 : Option Addr) (q94 : Option Addr) (l95 : Nat) (c96 : Nat) (n97 : Int) (n98 : Int) (H : Heap) (K : Xit → Env → Heap → Option R) : evJ (waveletref14_Segments_Ct) (waveletref14_Segments_Jt k waveletref14_Segments_p0 waveletref14_Segments_l1 waveletref14_Segments_p2 waveletref14_Segments_p3) waveletref14_Segments_i2 (List.zip [3, 5, 6, 7] [.pointer p93, .slice q94 l95 c96, .int .i64 n97, .int .i64 n98]) H (fun x e' H' => K x (clean e' ((⟨[3, 5, 6, 7], [], []⟩ : Out).of x)) H') = waveletref14_Segments_p2_b waveletref14_Segments_p3 k p93 q94 l95 c96 n97 n98 H (fun p1493 q1494 l1495 c1496 n1497 n1498 => K .normal [(3, .pointer p1493), (5, .slice q1494 l1495 c1496), (6, .int .i64 n1497), (7, .int .i64 n1498)] H) := by kernel_rfl
theorem waveletref14_Segments_j2 {R : Type} (k : Nat) : JS Try.prog 45 (waveletref14_Segments_a2 R k k) [3, 5, 6, 7] ⟨[3, 5, 6, 7], [], []⟩ (sel [1, 1, 1, 1, 0, 0, 0, 1, 0, 1, 0] (Try.f21.body.getD .skip)) :=
  piece_ok (nt := 45) (c := (sel [1, 1, 1, 1, 0, 0, 0, 1, 0, 1, 0] (Try.f21.body.getD .skip))) (C := waveletref14_Segments_C R k) (an := An) (t := (.seq (.reg [3, 5, 6, 7, 19, 23, 24, 25] []) (.cond (.reg [3, 5, 6, 7, 23, 24, 25] []) (.seq (.opq 3 [3, 5, 6, 7] ⟨[3, 5, 6, 7, 26], [], []⟩ (.reg [3, 5, 6, 7, 23, 24, 25, 26] [])) (.cond (.reg [3, 5, 6, 7, 23, 24, 25] []) (.seq (.reg [3, 5, 6, 7, 23, 24, 25, 30] []) (.cond (.reg [3, 5, 6, 7, 23, 24, 25] []) .leaf))))))) (ic := waveletref14_Segments_i2) (waveletref14_Segments_S R k) (waveletref14_Segments_J R k) (by kernel_rfl) (And.intro True.intro (And.intro True.intro (And.intro (waveletref14_Segments_j3 k) (And.intro True.intro (And.intro True.intro (And.intro True.intro True.intro)))))) (waveletref14_Segments_a2 R k k)
    (fun vals H K r h => by
      unfold waveletref14_Segments_a2 waveletref14_Segments_aa2 at h
      split at h <;> first | (cases h; done) | exact Eq.trans (waveletref14_Segments_e2 (waveletref14_Segments_p0 k) (waveletref14_Segments_l1 k) (waveletref14_Segments_p2 k) (waveletref14_Segments_p3 k) k _ _ _ _ _ _ H K) h)
theorem waveletref14_Segments_e1 {R : Type} (waveletref14_Segments_p0 : Int → Option Addr → (Int → Option Addr → Option R) → (Option Addr → Nat → Nat → Option R) → Option R) (waveletref14_Segments_l1 : (Option Addr → Nat → Nat → Heap → Option R) → Nat → Option Addr → Option Addr → Nat → Nat → Int → Heap → Option R) (waveletref14_Segments_p2 : Option Addr → Option Addr → Nat → Nat → Int → Int → Heap → (Option Addr → Option Addr → Nat → Nat → Int → Int → Option R) → Option R) (waveletref14_Segments_p3 : Option Addr → Option Addr → Nat → Nat → Int → Int → Heap → (Option Addr → Option Addr → Nat → Nat → Int → Int → Bool → Option R) → Option R) (k n : Nat) (p88 : Option Addr) (q89 : Option Addr) (l90 : Nat) (c91 : Nat) (n92 : Int) (H : Heap) (K : Xit → Env → Heap → Option R) : evJ (waveletref14_Segments_Ct) (waveletref14_Segments_Jt k waveletref14_Segments_p0 waveletref14_Segments_l1 waveletref14_Segments_p2 waveletref14_Segments_p3) waveletref14_Segments_i1 (List.zip [3, 5, 6] [.pointer p88, .slice q89 l90 c91, .int .i64 n92]) H (fun x e' H' => match x with | .normal => waveletref14_Segments_aa1 waveletref14_Segments_l1 n ((clean e' [3, 5, 6]).map (·.2)) H' K | x => K x (clean e' ((⟨[], [(0, [5])], []⟩ : Out).of x)) H') = waveletref14_Segments_l1_b waveletref14_Segments_p2 (waveletref14_Segments_l1 (fun q1490 l1491 c1492 H => K (.exit 0) [(5, .slice q1490 l1491 c1492)] H) n) (fun q1490 l1491 c1492 H => K (.exit 0) [(5, .slice q1490 l1491 c1492)] H) k p88 q89 l90 c91 n92 H := by kernel_rfl
theorem waveletref14_Segments_j1 {R : Type} (k : Nat) : JS Try.prog 45 (waveletref14_Segments_a1 R k k) [3, 5, 6] ⟨[], [(0, [5])], []⟩ (.loop (sel [1, 1, 1, 1, 0, 0, 0] (Try.f21.body.getD .skip))) :=
  loop_ok (nt := 45) (c := (sel [1, 1, 1, 1, 0, 0, 0] (Try.f21.body.getD .skip))) (C := waveletref14_Segments_C R k) (an := An) (t := (.seq (.seq (.reg [3, 5, 6, 16, 23, 24, 25] []) (.cond .leaf .leaf)) (.node (.seq (.reg [3, 5, 6, 7, 23, 24, 25] []) (.seq (.opq 2 [3, 5, 6, 7] ⟨[3, 5, 6, 7], [], []⟩ (.seq (.reg [3, 5, 6, 7, 19, 23, 24, 25] []) (.cond (.reg [3, 5, 6, 7, 23, 24, 25] []) (.seq (.opq 3 [3, 5, 6, 7] ⟨[3, 5, 6, 7, 26], [], []⟩ (.reg [3, 5, 6, 7, 23, 24, 25, 26] [])) (.cond (.reg [3, 5, 6, 7, 23, 24, 25] []) (.seq (.reg [3, 5, 6, 7, 23, 24, 25, 30] []) (.cond (.reg [3, 5, 6, 7, 23, 24, 25] []) .leaf))))))) (.seq (.reg [3, 5, 6, 7, 23, 24, 25] []) (.reg [3, 5, 6, 23, 24, 25] []))))))) (ic := waveletref14_Segments_i1) (waveletref14_Segments_S R k) (waveletref14_Segments_J R k) (by kernel_rfl) (And.intro (And.intro True.intro (And.intro True.intro True.intro)) (And.intro True.intro (And.intro (waveletref14_Segments_j2 k) (And.intro True.intro True.intro)))) (waveletref14_Segments_a1 R k) (fun vals H K => by unfold waveletref14_Segments_a1 waveletref14_Segments_aa1; split <;> rfl)
    (fun n vals H K r h => by
      unfold waveletref14_Segments_a1 waveletref14_Segments_aa1 at h
      split at h <;> first | (cases h; done) | exact Eq.trans (waveletref14_Segments_e1 (waveletref14_Segments_p0 k) (waveletref14_Segments_l1 k) (waveletref14_Segments_p2 k) (waveletref14_Segments_p3 k) k n _ _ _ _ _ H K) h) k
theorem waveletref14_Segments_e0 {R : Type} (waveletref14_Segments_p0 : Int → Option Addr → (Int → Option Addr → Option R) → (Option Addr → Nat → Nat → Option R) → Option R) (waveletref14_Segments_l1 : (Option Addr → Nat → Nat → Heap → Option R) → Nat → Option Addr → Option Addr → Nat → Nat → Int → Heap → Option R) (waveletref14_Segments_p2 : Option Addr → Option Addr → Nat → Nat → Int → Int → Heap → (Option Addr → Option Addr → Nat → Nat → Int → Int → Option R) → Option R) (waveletref14_Segments_p3 : Option Addr → Option Addr → Nat → Nat → Int → Int → Heap → (Option Addr → Option Addr → Nat → Nat → Int → Int → Bool → Option R) → Option R) (k : Nat) (n79 : Int) (p80 : Option Addr) (H : Heap) (K : Xit → Env → Heap → Option R) : evJ (waveletref14_Segments_Ct) (waveletref14_Segments_Jt k waveletref14_Segments_p0 waveletref14_Segments_l1 waveletref14_Segments_p2 waveletref14_Segments_p3) waveletref14_Segments_i0 (List.zip [0, 3] [.int .i64 n79, .pointer p80]) H (fun x e' H' => K x (clean e' ((⟨[0, 3], [], [4]⟩ : Out).of x)) H') = waveletref14_Segments_p0_b k n79 p80 (fun n1485 p1486 => K .normal [(0, .int .i64 n1485), (3, .pointer p1486)] H) (fun q1487 l1488 c1489 => K .ret [(4, .slice q1487 l1488 c1489)] H) := by kernel_rfl
theorem waveletref14_Segments_j0 {R : Type} (k : Nat) : JS Try.prog 45 (waveletref14_Segments_a0 R k k) [0, 3] ⟨[0, 3], [], [4]⟩ (sel [1, 0] (Try.f21.body.getD .skip)) :=
  piece_ok (nt := 45) (c := (sel [1, 0] (Try.f21.body.getD .skip))) (C := waveletref14_Segments_C R k) (an := An) (t := (.seq (.reg [0, 3, 13, 23, 24, 25] []) (.cond (.seq (.reg [4] []) .leaf) .leaf))) (ic := waveletref14_Segments_i0) (waveletref14_Segments_S R k) (waveletref14_Segments_J R k) (by kernel_rfl) (And.intro True.intro (And.intro (And.intro True.intro True.intro) True.intro)) (waveletref14_Segments_a0 R k k)
    (fun vals H K r h => by
      unfold waveletref14_Segments_a0 waveletref14_Segments_aa0 at h
      split at h <;> first | (cases h; done) | exact Eq.trans (waveletref14_Segments_e0 (waveletref14_Segments_p0 k) (waveletref14_Segments_l1 k) (waveletref14_Segments_p2 k) (waveletref14_Segments_p3 k) k _ _ H K) h)
def waveletref14_Segments_ca {R : Type} (f : Int → Bool → Bool → Bool → Bool → Bool → Heap → (Option Addr → Nat → Nat → Heap → Option R) → Option R) (args : List Value) (H : Heap) (K : Value → Heap → Option R) : Option R :=
  match args with
  | [.int .i64 n71, .agg ⟨[.bool t72, .bool t73, .bool t74, .bool t75, .bool t76]⟩] => f n71 t72 t73 t74 t75 t76 H (fun q1506 l1507 c1508 H => K (.slice q1506 l1507 c1508) H)
  | _ => none
def waveletref14_Segments_c (R : Type) (k : Nat) (args : List Value) (H : Heap) (K : Value → Heap → Option R) : Option R := waveletref14_Segments_ca (waveletref14_Segments k) args H K
theorem waveletref14_Segments_e {R : Type} (waveletref14_Segments_p0 : Int → Option Addr → (Int → Option Addr → Option R) → (Option Addr → Nat → Nat → Option R) → Option R) (waveletref14_Segments_l1 : (Option Addr → Nat → Nat → Heap → Option R) → Nat → Option Addr → Option Addr → Nat → Nat → Int → Heap → Option R) (waveletref14_Segments_p2 : Option Addr → Option Addr → Nat → Nat → Int → Int → Heap → (Option Addr → Option Addr → Nat → Nat → Int → Int → Option R) → Option R) (waveletref14_Segments_p3 : Option Addr → Option Addr → Nat → Nat → Int → Int → Heap → (Option Addr → Option Addr → Nat → Nat → Int → Int → Bool → Option R) → Option R) (k : Nat) (n71 : Int) (t72 : Bool) (t73 : Bool) (t74 : Bool) (t75 : Bool) (t76 : Bool) (H : Heap) (K : Value → Heap → Option R) : evF (waveletref14_Segments_Ct) (waveletref14_Segments_Jt k waveletref14_Segments_p0 waveletref14_Segments_l1 waveletref14_Segments_p2 waveletref14_Segments_p3) waveletref14_Segments_f [.int .i64 n71, .agg ⟨[.bool t72, .bool t73, .bool t74, .bool t75, .bool t76]⟩] H K = waveletref14_Segments_b waveletref14_Segments_p0 waveletref14_Segments_l1 k n71 t72 t73 t74 t75 t76 H (fun q1506 l1507 c1508 H => K (.slice q1506 l1507 c1508) H) := by kernel_rfl
theorem waveletref14_Segments_cs (R : Type) (k : Nat) : ∀ args H K r, waveletref14_Segments_c R k args H K = some r → ∃ v H', Tri Try.prog 21 args H v H' ∧ K v H' = some r := by
  intro args H K r h
  unfold waveletref14_Segments_c waveletref14_Segments_ca at h
  split at h
  · exact evF_ok (C := waveletref14_Segments_C R k) (an := An) (t := waveletref14_Segments_at) (fn := Try.f21) (c := (Try.f21.body.getD .skip)) (ifn := waveletref14_Segments_f) (waveletref14_Segments_S R k) (waveletref14_Segments_J R k) Try.func21 (by kernel_rfl) (by kernel_rfl) (And.intro True.intro (And.intro (waveletref14_Segments_j0 k) (And.intro True.intro (And.intro True.intro (And.intro (waveletref14_Segments_j1 k) (And.intro True.intro True.intro)))))) rfl (Eq.trans (waveletref14_Segments_e (waveletref14_Segments_p0 k) (waveletref14_Segments_l1 k) (waveletref14_Segments_p2 k) (waveletref14_Segments_p3 k) k _ _ _ _ _ _ H K) h)
  · cases h
/-! ### waveletlaw14_CblkPasses: function 4 -/
def waveletlaw14_CblkPasses_b {R : Type} (cblk_Pass : Int → (Int → Int → Option R) → Option R) (waveletref14_Pass : Int → (Int → Int → Option R) → Option R) (cblk_Raw : Int → Bool → Bool → Bool → Bool → Bool → Heap → (Bool → Heap → Option R) → Option R) (waveletref14_Raw : Int → Bool → Bool → Bool → Bool → Bool → Heap → (Bool → Heap → Option R) → Option R) (cblk_Segments : Int → Bool → Bool → Bool → Bool → Bool → Heap → (Option Addr → Nat → Nat → Heap → Option R) → Option R) (waveletref14_Segments : Int → Bool → Bool → Bool → Bool → Bool → Heap → (Option Addr → Nat → Nat → Heap → Option R) → Option R) (waveletref02_SameInts : Option Addr → Nat → Nat → Option Addr → Nat → Nat → Heap → (Bool → Option R) → Option R) (waveletlaw14_exampleHoldsq : (Bool → Option R) → Option R) (k : Nat) (n14 : Int) (t15 : Bool) (t16 : Bool) (t17 : Bool) (t18 : Bool) (t19 : Bool) (H : Heap) (K : Bool → Heap → Option R) : Option R :=
hal H [.bool t15, .bool t16, .bool t17, .bool t18, .bool t19] fun p20 H21 =>
cblk_Pass n14 fun n22 n23 =>
waveletref14_Pass n14 fun n24 n25 =>
bif (n22 == n24) then (bif (n23 == n25) then (ldB H21 (pad p20 0) fun t26 =>
ldB H21 (pad p20 1) fun t27 =>
ldB H21 (pad p20 2) fun t28 =>
ldB H21 (pad p20 3) fun t29 =>
ldB H21 (pad p20 4) fun t30 =>
cblk_Raw n14 t26 t27 t28 t29 t30 (roH H21) fun t31 H32 =>
ldB H21 (pad p20 0) fun t33 =>
ldB H21 (pad p20 1) fun t34 =>
ldB H21 (pad p20 2) fun t35 =>
ldB H21 (pad p20 3) fun t36 =>
ldB H21 (pad p20 4) fun t37 =>
waveletref14_Raw n14 t33 t34 t35 t36 t37 H21 fun t38 H39 =>
bif (t31 == t38) then (ldB H39 (pad p20 0) fun t40 =>
ldB H39 (pad p20 1) fun t41 =>
ldB H39 (pad p20 2) fun t42 =>
ldB H39 (pad p20 3) fun t43 =>
ldB H39 (pad p20 4) fun t44 =>
cblk_Segments n14 t40 t41 t42 t43 t44 (roH H39) fun q45 l46 c47 H48 =>
ldB (H39 ++ H48.drop H39.length) (pad p20 0) fun t49 =>
ldB (H39 ++ H48.drop H39.length) (pad p20 1) fun t50 =>
ldB (H39 ++ H48.drop H39.length) (pad p20 2) fun t51 =>
ldB (H39 ++ H48.drop H39.length) (pad p20 3) fun t52 =>
ldB (H39 ++ H48.drop H39.length) (pad p20 4) fun t53 =>
waveletref14_Segments n14 t49 t50 t51 t52 t53 (H39 ++ H48.drop H39.length) fun q54 l55 c56 H57 =>
waveletref02_SameInts q45 l46 c47 q54 l55 c56 H57 fun t58 =>
bif t58 then (waveletlaw14_exampleHoldsq fun t59 =>
K t59 H57)
 else (K false H57))
 else (K false H39))
 else (K false H21))
 else (K false H21)

def waveletlaw14_CblkPasses {R : Type} (k : Nat) (n14 : Int) (t15 : Bool) (t16 : Bool) (t17 : Bool) (t18 : Bool) (t19 : Bool) (H : Heap) (K : Bool → Heap → Option R) : Option R := waveletlaw14_CblkPasses_b cblk_Pass waveletref14_Pass (cblk_Raw k) waveletref14_Raw (cblk_Segments k) (waveletref14_Segments k) (waveletref02_SameInts k) waveletlaw14_exampleHoldsq k n14 t15 t16 t17 t18 t19 H K

def waveletlaw14_CblkPasses_Ct {R : Type} (cblk_Pass : Int → (Int → Int → Option R) → Option R) (waveletref14_Pass : Int → (Int → Int → Option R) → Option R) (cblk_Raw : Int → Bool → Bool → Bool → Bool → Bool → Heap → (Bool → Heap → Option R) → Option R) (waveletref14_Raw : Int → Bool → Bool → Bool → Bool → Bool → Heap → (Bool → Heap → Option R) → Option R) (cblk_Segments : Int → Bool → Bool → Bool → Bool → Bool → Heap → (Option Addr → Nat → Nat → Heap → Option R) → Option R) (waveletref14_Segments : Int → Bool → Bool → Bool → Bool → Bool → Heap → (Option Addr → Nat → Nat → Heap → Option R) → Option R) (waveletref02_SameInts : Option Addr → Nat → Nat → Option Addr → Nat → Nat → Heap → (Bool → Option R) → Option R) (waveletlaw14_exampleHoldsq : (Bool → Option R) → Option R) : Tab R := tcons 15 (cblk_Pass_ca cblk_Pass) <| tcons 16 (waveletref14_Pass_ca waveletref14_Pass) <| tcons 17 (cblk_Raw_ca cblk_Raw) <| tcons 18 (waveletref14_Raw_ca waveletref14_Raw) <| tcons 20 (cblk_Segments_ca cblk_Segments) <| tcons 21 (waveletref14_Segments_ca waveletref14_Segments) <| tcons 19 (waveletref02_SameInts_ca waveletref02_SameInts) <| tcons 14 (waveletlaw14_exampleHoldsq_ca waveletlaw14_exampleHoldsq) <| fun _ _ _ _ => none
def waveletlaw14_CblkPasses_C (R : Type) (k : Nat) : Tab R := waveletlaw14_CblkPasses_Ct cblk_Pass waveletref14_Pass (cblk_Raw k) waveletref14_Raw (cblk_Segments k) (waveletref14_Segments k) (waveletref02_SameInts k) waveletlaw14_exampleHoldsq
theorem waveletlaw14_CblkPasses_S (R : Type) (k : Nat) : CSound Try.prog (waveletlaw14_CblkPasses_C R k) := csound_cons (cblk_Pass_cs R k) <| csound_cons (waveletref14_Pass_cs R k) <| csound_cons (cblk_Raw_cs R k) <| csound_cons (waveletref14_Raw_cs R k) <| csound_cons (cblk_Segments_cs R k) <| csound_cons (waveletref14_Segments_cs R k) <| csound_cons (waveletref02_SameInts_cs R k) <| csound_cons (waveletlaw14_exampleHoldsq_cs R k) <| csound_nil
def waveletlaw14_CblkPasses_Jt {R : Type} (k : Nat) : JTab R := fun _ _ _ _ => none
def waveletlaw14_CblkPasses_J (R : Type) (k : Nat) : JTab R := waveletlaw14_CblkPasses_Jt k
def waveletlaw14_CblkPasses_at : AT := (.seq (.reg [0, 3, 23, 24, 25, 28, 29, 30, 31, 32, 33, 34, 37, 38, 39, 40, 41, 42, 43, 46] []) (.seq (.reg [0, 3, 5, 6, 23, 24, 25, 28, 29, 30, 31, 32, 33, 34, 37, 38, 39, 40, 41, 42, 43, 46] []) (.seq (.reg [0, 3, 5, 6, 7, 8, 23, 24, 25, 28, 29, 30, 31, 32, 33, 34, 37, 38, 39, 40, 41, 42, 43, 46] []) (.seq (.reg [4] [[], [], [0, 1], [0, 1, 2], [0, 1, 2, 3], [0, 1, 2, 3], [0, 1, 2, 3, 4, 5], [0, 1, 2, 3, 4, 5, 6], [0, 1, 2, 3, 4, 5, 6, 7], [0, 1, 2, 3, 4, 5, 6, 7, 8], [0, 1, 2, 3, 4, 5, 6, 7, 8], [0, 1, 2, 3, 4, 5, 6, 7, 8, 9, 10], [0, 1, 2, 3, 4, 5, 6, 7, 8], [0, 1, 2, 3, 4, 5, 6, 7, 8], [0, 1, 2, 3, 4, 5, 6, 7, 8, 9, 10, 11, 12, 13], [0, 1, 2, 3, 4, 5, 6, 7, 8, 9, 10, 11, 12, 13, 14], [0, 1, 2, 3, 4, 5, 6, 7, 8, 9, 10, 11, 12, 13, 14, 15], [0, 1, 2, 3, 4, 5, 6, 7, 8, 9, 10, 11, 12, 13, 14, 15, 16], [0, 1, 2, 3, 4, 5, 6, 7, 8, 9, 10, 11, 12, 13, 14, 15, 16, 17], [0, 1, 2, 3, 4, 5, 6, 7, 8, 9, 10, 11, 12, 13, 14, 15, 16, 17], [0, 1, 2, 3, 4, 5, 6, 7, 8, 9, 10, 11, 12, 13, 14, 15, 16, 17, 18, 19], [0, 1, 2, 3, 4, 5, 6, 7, 8, 9, 10, 11, 12, 13, 14, 15, 16, 17], [0, 1, 2, 3, 4, 5, 6, 7, 8, 9, 10, 11, 12, 13, 14, 15, 16, 17], [0, 1, 2, 3, 4, 5, 6, 7, 8, 9, 10, 11, 12, 13, 14, 15, 16, 17, 18, 19, 20, 21, 22], [0, 1, 2, 3, 4, 5, 6, 7, 8, 9, 10, 11, 12, 13, 14, 15, 16, 17, 18, 19, 20, 21, 22, 23], [0, 1, 2, 3, 4, 5, 6, 7, 8, 9, 10, 11, 12, 13, 14, 15, 16, 17, 18, 19, 20, 21, 22, 23, 24], [0, 1, 2, 3, 4, 5, 6, 7, 8, 9, 10, 11, 12, 13, 14, 15, 16, 17, 18, 19, 20, 21, 22, 23, 24, 25], [0, 1, 2, 3, 4, 5, 6, 7, 8, 9, 10, 11, 12, 13, 14, 15, 16, 17, 18, 19, 20, 21, 22, 23, 24, 25, 26], [0, 1, 2, 3, 4, 5, 6, 7, 8, 9, 10, 11, 12, 13, 14, 15, 16, 17, 18, 19, 20, 21, 22, 23, 24, 25, 26, 27], [0, 1, 2, 3, 4, 5, 6, 7, 8, 9, 10, 11, 12, 13, 14, 15, 16, 17, 18, 19, 20, 21, 22, 23, 24, 25, 26, 27, 28]]) .leaf))))
def waveletlaw14_CblkPasses_f : IFn := ⟨48, [.t 4], (.seq (.reg [⟨some 3, .box (.t 1), none⟩,
 ⟨some 4, .mov (.c (Go.Value.bool false)), none⟩] [0, 3, 23, 24, 25, 28, 29, 30, 31, 32, 33, 34, 37, 38, 39, 40, 41, 42, 43, 46]) (.seq (.reg [⟨some 10, .mov (.t 0), none⟩,
 ⟨some 11, .call 15 [(.t 10)] (.tup [(.sc (.int .i64)), (.sc (.int .i64))]), none⟩,
 ⟨some 9, .mov (.t 11), none⟩,
 ⟨some 12, .ext 0 (.t 9), none⟩,
 ⟨some 13, .ext 1 (.t 9), none⟩,
 ⟨some 5, .mov (.t 12), none⟩,
 ⟨some 6, .mov (.t 13), none⟩] [0, 3, 5, 6, 23, 24, 25, 28, 29, 30, 31, 32, 33, 34, 37, 38, 39, 40, 41, 42, 43, 46]) (.seq (.reg [⟨some 15, .mov (.t 0), none⟩,
 ⟨some 16, .call 16 [(.t 15)] (.tup [(.sc (.int .i64)), (.sc (.int .i64))]), none⟩,
 ⟨some 14, .mov (.t 16), none⟩,
 ⟨some 17, .ext 0 (.t 14), none⟩,
 ⟨some 18, .ext 1 (.t 14), none⟩,
 ⟨some 7, .mov (.t 17), none⟩,
 ⟨some 8, .mov (.t 18), none⟩] [0, 3, 5, 6, 7, 8, 23, 24, 25, 28, 29, 30, 31, 32, 33, 34, 37, 38, 39, 40, 41, 42, 43, 46]) (.seq (.reg [⟨some 19, .mov (.t 5), none⟩,
 ⟨some 20, .mov (.t 7), none⟩,
 ⟨some 21, .cmp .eql (.t 19) (.t 20), none⟩,
 ⟨some 22, .mov (.t 21), none⟩,
 ⟨some 23, .mov (.t 6), some (22, true)⟩,
 ⟨some 24, .mov (.t 8), some (22, true)⟩,
 ⟨some 25, .cmp .eql (.t 23) (.t 24), some (22, true)⟩,
 ⟨some 26, .pick (.t 22) (.t 25) (.c (Go.Value.bool false)), none⟩,
 ⟨some 27, .mov (.t 26), none⟩,
 ⟨some 28, .mov (.t 0), some (27, true)⟩,
 ⟨some 29, .ld (.agg [.bool, .bool, .bool, .bool, .bool]) (.t 3), some (27, true)⟩,
 ⟨some 30, .calp 17 [(.t 28), (.t 29)] (.one (.sc .bool)), some (27, true)⟩,
 ⟨some 31, .mov (.t 0), some (27, true)⟩,
 ⟨some 32, .ld (.agg [.bool, .bool, .bool, .bool, .bool]) (.t 3), some (27, true)⟩,
 ⟨some 33, .call 18 [(.t 31), (.t 32)] (.one (.sc .bool)), some (27, true)⟩,
 ⟨some 34, .eqb (.t 30) (.t 33) false, some (27, true)⟩,
 ⟨some 35, .pick (.t 27) (.t 34) (.c (Go.Value.bool false)), none⟩,
 ⟨some 36, .mov (.t 35), none⟩,
 ⟨some 37, .mov (.t 0), some (36, true)⟩,
 ⟨some 38, .ld (.agg [.bool, .bool, .bool, .bool, .bool]) (.t 3), some (36, true)⟩,
 ⟨some 39, .calf 20 [(.t 37), (.t 38)] [] (.one (.sc .slc)), some (36, true)⟩,
 ⟨some 40, .mov (.t 0), some (36, true)⟩,
 ⟨some 41, .ld (.agg [.bool, .bool, .bool, .bool, .bool]) (.t 3), some (36, true)⟩,
 ⟨some 42, .call 21 [(.t 40), (.t 41)] (.one (.sc .slc)), some (36, true)⟩,
 ⟨some 43, .call 19 [(.t 39), (.t 42)] (.one (.sc .bool)), some (36, true)⟩,
 ⟨some 44, .pick (.t 36) (.t 43) (.c (Go.Value.bool false)), none⟩,
 ⟨some 45, .mov (.t 44), none⟩,
 ⟨some 46, .call 14 [] (.one (.sc .bool)), some (45, true)⟩,
 ⟨some 47, .pick (.t 45) (.t 46) (.c (Go.Value.bool false)), none⟩,
 ⟨some 4, .mov (.t 47), none⟩] [4]) .ret))))⟩
def waveletlaw14_CblkPasses_ca {R : Type} (f : Int → Bool → Bool → Bool → Bool → Bool → Heap → (Bool → Heap → Option R) → Option R) (args : List Value) (H : Heap) (K : Value → Heap → Option R) : Option R :=
  match args with
  | [.int .i64 n14, .agg ⟨[.bool t15, .bool t16, .bool t17, .bool t18, .bool t19]⟩] => f n14 t15 t16 t17 t18 t19 H (fun t1509 H => K (.bool t1509) H)
  | _ => none
def waveletlaw14_CblkPasses_c (R : Type) (k : Nat) (args : List Value) (H : Heap) (K : Value → Heap → Option R) : Option R := waveletlaw14_CblkPasses_ca (waveletlaw14_CblkPasses k) args H K
theorem waveletlaw14_CblkPasses_e {R : Type} (cblk_Pass : Int → (Int → Int → Option R) → Option R) (waveletref14_Pass : Int → (Int → Int → Option R) → Option R) (cblk_Raw : Int → Bool → Bool → Bool → Bool → Bool → Heap → (Bool → Heap → Option R) → Option R) (waveletref14_Raw : Int → Bool → Bool → Bool → Bool → Bool → Heap → (Bool → Heap → Option R) → Option R) (cblk_Segments : Int → Bool → Bool → Bool → Bool → Bool → Heap → (Option Addr → Nat → Nat → Heap → Option R) → Option R) (waveletref14_Segments : Int → Bool → Bool → Bool → Bool → Bool → Heap → (Option Addr → Nat → Nat → Heap → Option R) → Option R) (waveletref02_SameInts : Option Addr → Nat → Nat → Option Addr → Nat → Nat → Heap → (Bool → Option R) → Option R) (waveletlaw14_exampleHoldsq : (Bool → Option R) → Option R) (k : Nat) (n14 : Int) (t15 : Bool) (t16 : Bool) (t17 : Bool) (t18 : Bool) (t19 : Bool) (H : Heap) (K : Value → Heap → Option R) : evF (waveletlaw14_CblkPasses_Ct cblk_Pass waveletref14_Pass cblk_Raw waveletref14_Raw cblk_Segments waveletref14_Segments waveletref02_SameInts waveletlaw14_exampleHoldsq) (waveletlaw14_CblkPasses_Jt k) waveletlaw14_CblkPasses_f [.int .i64 n14, .agg ⟨[.bool t15, .bool t16, .bool t17, .bool t18, .bool t19]⟩] H K = waveletlaw14_CblkPasses_b cblk_Pass waveletref14_Pass cblk_Raw waveletref14_Raw cblk_Segments waveletref14_Segments waveletref02_SameInts waveletlaw14_exampleHoldsq k n14 t15 t16 t17 t18 t19 H (fun t1509 H => K (.bool t1509) H) := by kernel_rfl
theorem waveletlaw14_CblkPasses_cs (R : Type) (k : Nat) : ∀ args H K r, waveletlaw14_CblkPasses_c R k args H K = some r → ∃ v H', Tri Try.prog 4 args H v H' ∧ K v H' = some r := by
  intro args H K r h
  unfold waveletlaw14_CblkPasses_c waveletlaw14_CblkPasses_ca at h
  split at h
  · exact evF_ok (C := waveletlaw14_CblkPasses_C R k) (an := An) (t := waveletlaw14_CblkPasses_at) (fn := Try.f4) (c := (Try.f4.body.getD .skip)) (ifn := waveletlaw14_CblkPasses_f) (waveletlaw14_CblkPasses_S R k) (waveletlaw14_CblkPasses_J R k) Try.func4 (by kernel_rfl) (by kernel_rfl) (And.intro True.intro (And.intro True.intro (And.intro True.intro (And.intro True.intro True.intro)))) rfl (Eq.trans (waveletlaw14_CblkPasses_e cblk_Pass waveletref14_Pass (cblk_Raw k) waveletref14_Raw (cblk_Segments k) (waveletref14_Segments k) (waveletref02_SameInts k) waveletlaw14_exampleHoldsq k _ _ _ _ _ _ H K) h)
  · cases h
/-! ### waveletlaw14_CblkOrders: function 5 -/
def waveletlaw14_CblkOrders_p1_b {R : Type} (k : Nat) (n102 : Int) (p103 : Option Addr) (n104 : Int) (n105 : Int) (q106 : Option Addr) (l107 : Nat) (c108 : Nat) (q109 : Option Addr) (l110 : Nat) (c111 : Nat) (n112 : Int) (p113 : Option Addr) (H : Heap) (KN : Int → Option Addr → Int → Int → Option Addr → Nat → Nat → Option Addr → Nat → Nat → Int → Option Addr → Option Addr → Int → Int → Bool → Option Addr → Int → Bool → Option Addr → Int → Int → Bool → Option Addr → Nat → Nat → Option Addr → Int → Int → Int → Option Addr → Int → Int → Option Addr → Bool → Option R) (KR : Bool → Option R) : Option R :=
hfad 0 p113 fun p114 =>
ldI .i64 H p114 fun n115 =>
bif decide (n115 < 0) then (KR false)
 else (hfad 0 p113 fun p116 =>
ldI .i64 H p116 fun n117 =>
bif decide (n117 ≥ n104) then (KR false)
 else (hfad 1 p113 fun p118 =>
ldI .i64 H p118 fun n119 =>
bif decide (n119 < 0) then (KR false)
 else (hfad 1 p113 fun p120 =>
ldI .i64 H p120 fun n121 =>
bif decide (n121 ≥ n105) then (KR false)
 else (hfad 1 p113 fun p122 =>
ldI .i64 H p122 fun n123 =>
hfad 0 p113 fun p124 =>
ldI .i64 H p124 fun n125 =>
hidx q109 l110 (IntKind.wrap .i64 ((IntKind.wrap .i64 (n123 * n104)) + n125)) 1 fun p126 =>
ldB H p126 fun t127 =>
bif t127 then (KR false)
 else (KN n102 p103 n104 n105 q106 l107 c108 q109 l110 c111 n112 p113 p116 n117 n104 (decide (n117 ≥ n104)) p118 n119 (decide (n119 < 0)) p120 n121 n105 (decide (n121 ≥ n105)) q109 l110 c111 p122 n123 n104 (IntKind.wrap .i64 (n123 * n104)) p124 n125 (IntKind.wrap .i64 ((IntKind.wrap .i64 (n123 * n104)) + n125)) p126 t127)))))
def waveletlaw14_CblkOrders_p1 {R : Type} (k : Nat) (n102 : Int) (p103 : Option Addr) (n104 : Int) (n105 : Int) (q106 : Option Addr) (l107 : Nat) (c108 : Nat) (q109 : Option Addr) (l110 : Nat) (c111 : Nat) (n112 : Int) (p113 : Option Addr) (H : Heap) (KN : Int → Option Addr → Int → Int → Option Addr → Nat → Nat → Option Addr → Nat → Nat → Int → Option Addr → Option Addr → Int → Int → Bool → Option Addr → Int → Bool → Option Addr → Int → Int → Bool → Option Addr → Nat → Nat → Option Addr → Int → Int → Int → Option Addr → Int → Int → Option Addr → Bool → Option R) (KR : Bool → Option R) : Option R := waveletlaw14_CblkOrders_p1_b k n102 p103 n104 n105 q106 l107 c108 q109 l110 c111 n112 p113 H KN KR

def waveletlaw14_CblkOrders_l0_b {R : Type} (waveletlaw14_CblkOrders_p1 : Int → Option Addr → Int → Int → Option Addr → Nat → Nat → Option Addr → Nat → Nat → Int → Option Addr → Heap → (Int → Option Addr → Int → Int → Option Addr → Nat → Nat → Option Addr → Nat → Nat → Int → Option Addr → Option Addr → Int → Int → Bool → Option Addr → Int → Bool → Option Addr → Int → Int → Bool → Option Addr → Nat → Nat → Option Addr → Int → Int → Int → Option Addr → Int → Int → Option Addr → Bool → Option R) → (Bool → Option R) → Option R) (rec : Int → Option Addr → Int → Int → Option Addr → Nat → Nat → Option Addr → Nat → Nat → Int → Heap → Option R) (KE0 : Int → Option Addr → Int → Int → Option Addr → Nat → Nat → Heap → Option R) (KR : Bool → Heap → Option R) (k : Nat) (n85 : Int) (p86 : Option Addr) (n87 : Int) (n88 : Int) (q89 : Option Addr) (l90 : Nat) (c91 : Nat) (q92 : Option Addr) (l93 : Nat) (c94 : Nat) (n95 : Int) (H : Heap) : Option R :=
bif decide (n95 < ((l90 : Nat) : Int)) then (hidx q89 l90 n95 2 fun p96 =>
ldI .i64 H (pad p96 0) fun n97 =>
ldI .i64 H (pad p96 1) fun n98 =>
hal H [.int .i64 0, .int .i64 0] fun p99 H100 =>
hst H100 p99 [.int .i64 n97, .int .i64 n98] fun H101 =>
waveletlaw14_CblkOrders_p1 n85 p86 n87 n88 q89 l90 c91 q92 l93 c94 n95 p99 H101 (fun n164 p165 n166 n167 q168 l169 c170 q171 l172 c173 n174 p175 p176 n177 n178 t179 p180 n181 t182 p183 n184 n185 t186 q187 l188 c189 p190 n191 n192 n193 p194 n195 n196 p197 t198 =>
hfad 1 p175 fun p199 =>
ldI .i64 H101 p199 fun n200 =>
hfad 0 p175 fun p201 =>
ldI .i64 H101 p201 fun n202 =>
hidx q171 l172 (IntKind.wrap .i64 ((IntKind.wrap .i64 (n200 * n166)) + n202)) 1 fun p203 =>
hst1 H101 p203 (.bool true) fun H204 =>
rec n164 p165 n166 n167 q168 l169 c170 q171 l172 c173 (IntKind.wrap .i64 (n174 + 1)) H204) (fun t205 =>
KR t205 H101))
 else (KE0 n85 p86 n87 n88 q89 l90 c91 H)
def waveletlaw14_CblkOrders_l0 {R : Type} (k : Nat) (KE0 : Int → Option Addr → Int → Int → Option Addr → Nat → Nat → Heap → Option R) (KR : Bool → Heap → Option R) : Nat → Int → Option Addr → Int → Int → Option Addr → Nat → Nat → Option Addr → Nat → Nat → Int → Heap → Option R
  | 0, _, _, _, _, _, _, _, _, _, _, _, _ => none
  | n + 1, n85, p86, n87, n88, q89, l90, c91, q92, l93, c94, n95, H => waveletlaw14_CblkOrders_l0_b (waveletlaw14_CblkOrders_p1 k) (waveletlaw14_CblkOrders_l0 k KE0 KR n) KE0 KR k n85 p86 n87 n88 q89 l90 c91 q92 l93 c94 n95 H

def waveletlaw14_CblkOrders_p3_b {R : Type} (k : Nat) (p243 : Option Addr) (n244 : Int) (n245 : Int) (q246 : Option Addr) (l247 : Nat) (c248 : Nat) (n249 : Int) (q250 : Option Addr) (l251 : Nat) (c252 : Nat) (n253 : Int) (n254 : Int) (H : Heap) (KN : Option Addr → Int → Int → Option Addr → Nat → Nat → Int → Option Addr → Nat → Nat → Int → Int → Int → Option Addr → Nat → Nat → Int → Option Addr → Int → Int → Int → Bool → Option R) (KR : Bool → Option R) : Option R :=
hidx q250 l251 n254 1 fun p255 =>
ldI .i64 H p255 fun n256 =>
bif decide (n256 < 1) then (KR false)
 else (hidx q250 l251 n254 1 fun p257 =>
ldI .i64 H p257 fun n258 =>
bif decide ((IntKind.wrap .i64 (n253 + n258)) > n249) then (KR false)
 else (KN p243 n244 n245 q246 l247 c248 n249 q250 l251 c252 n253 n254 n253 q250 l251 c252 n254 p257 n258 (IntKind.wrap .i64 (n253 + n258)) n249 (decide ((IntKind.wrap .i64 (n253 + n258)) > n249))))
def waveletlaw14_CblkOrders_p3 {R : Type} (k : Nat) (p243 : Option Addr) (n244 : Int) (n245 : Int) (q246 : Option Addr) (l247 : Nat) (c248 : Nat) (n249 : Int) (q250 : Option Addr) (l251 : Nat) (c252 : Nat) (n253 : Int) (n254 : Int) (H : Heap) (KN : Option Addr → Int → Int → Option Addr → Nat → Nat → Int → Option Addr → Nat → Nat → Int → Int → Int → Option Addr → Nat → Nat → Int → Option Addr → Int → Int → Int → Bool → Option R) (KR : Bool → Option R) : Option R := waveletlaw14_CblkOrders_p3_b k p243 n244 n245 q246 l247 c248 n249 q250 l251 c252 n253 n254 H KN KR

def waveletlaw14_CblkOrders_l4_b {R : Type} (cblk_Raw : Int → Bool → Bool → Bool → Bool → Bool → Heap → (Bool → Heap → Option R) → Option R) (rec : Option Addr → Int → Int → Option Addr → Nat → Nat → Int → Option Addr → Nat → Nat → Int → Int → Int → Int → Option Addr → Nat → Nat → Int → Option Addr → Int → Int → Int → Bool → Heap → Option R) (KE4 : Option Addr → Int → Int → Option Addr → Nat → Nat → Int → Option Addr → Nat → Nat → Int → Int → Int → Option Addr → Nat → Nat → Int → Option Addr → Int → Int → Int → Bool → Heap → Option R) (KR : Bool → Heap → Option R) (k : Nat) (p304 : Option Addr) (n305 : Int) (n306 : Int) (q307 : Option Addr) (l308 : Nat) (c309 : Nat) (n310 : Int) (q311 : Option Addr) (l312 : Nat) (c313 : Nat) (n314 : Int) (n315 : Int) (n316 : Int) (n317 : Int) (q318 : Option Addr) (l319 : Nat) (c320 : Nat) (n321 : Int) (p322 : Option Addr) (n323 : Int) (n324 : Int) (n325 : Int) (t326 : Bool) (H : Heap) : Option R :=
hidx q311 l312 n315 1 fun p327 =>
ldI .i64 H p327 fun n328 =>
bif decide (n316 < (IntKind.wrap .i64 (n314 + n328))) then (ldB H (pad p304 0) fun t329 =>
ldB H (pad p304 1) fun t330 =>
ldB H (pad p304 2) fun t331 =>
ldB H (pad p304 3) fun t332 =>
ldB H (pad p304 4) fun t333 =>
cblk_Raw n316 t329 t330 t331 t332 t333 (roH H) fun t334 H335 =>
ldB H (pad p304 0) fun t336 =>
ldB H (pad p304 1) fun t337 =>
ldB H (pad p304 2) fun t338 =>
ldB H (pad p304 3) fun t339 =>
ldB H (pad p304 4) fun t340 =>
cblk_Raw n314 t336 t337 t338 t339 t340 H fun t341 H342 =>
bif !(t334 == t341) then (KR false H342)
 else (rec p304 n305 n306 q307 l308 c309 n310 q311 l312 c313 n314 n315 (IntKind.wrap .i64 (n316 + 1)) n317 q318 l319 c320 n321 p322 n323 n324 n325 t326 H342))
 else (KE4 p304 n305 n306 q307 l308 c309 n310 q311 l312 c313 n314 n315 n317 q318 l319 c320 n321 p322 n323 n324 n325 t326 H)
def waveletlaw14_CblkOrders_l4 {R : Type} (k : Nat) (KE4 : Option Addr → Int → Int → Option Addr → Nat → Nat → Int → Option Addr → Nat → Nat → Int → Int → Int → Option Addr → Nat → Nat → Int → Option Addr → Int → Int → Int → Bool → Heap → Option R) (KR : Bool → Heap → Option R) : Nat → Option Addr → Int → Int → Option Addr → Nat → Nat → Int → Option Addr → Nat → Nat → Int → Int → Int → Int → Option Addr → Nat → Nat → Int → Option Addr → Int → Int → Int → Bool → Heap → Option R
  | 0, _, _, _, _, _, _, _, _, _, _, _, _, _, _, _, _, _, _, _, _, _, _, _, _ => none
  | n + 1, p304, n305, n306, q307, l308, c309, n310, q311, l312, c313, n314, n315, n316, n317, q318, l319, c320, n321, p322, n323, n324, n325, t326, H => waveletlaw14_CblkOrders_l4_b (cblk_Raw k) (waveletlaw14_CblkOrders_l4 k KE4 KR n) KE4 KR k p304 n305 n306 q307 l308 c309 n310 q311 l312 c313 n314 n315 n316 n317 q318 l319 c320 n321 p322 n323 n324 n325 t326 H

def waveletlaw14_CblkOrders_l2_b {R : Type} (waveletlaw14_CblkOrders_p3 : Option Addr → Int → Int → Option Addr → Nat → Nat → Int → Option Addr → Nat → Nat → Int → Int → Heap → (Option Addr → Int → Int → Option Addr → Nat → Nat → Int → Option Addr → Nat → Nat → Int → Int → Int → Option Addr → Nat → Nat → Int → Option Addr → Int → Int → Int → Bool → Option R) → (Bool → Option R) → Option R) (waveletlaw14_CblkOrders_l4 : (Option Addr → Int → Int → Option Addr → Nat → Nat → Int → Option Addr → Nat → Nat → Int → Int → Int → Option Addr → Nat → Nat → Int → Option Addr → Int → Int → Int → Bool → Heap → Option R) → (Bool → Heap → Option R) → Nat → Option Addr → Int → Int → Option Addr → Nat → Nat → Int → Option Addr → Nat → Nat → Int → Int → Int → Int → Option Addr → Nat → Nat → Int → Option Addr → Int → Int → Int → Bool → Heap → Option R) (rec : Option Addr → Int → Int → Option Addr → Nat → Nat → Int → Option Addr → Nat → Nat → Int → Int → Heap → Option R) (KE2 : Option Addr → Int → Int → Option Addr → Nat → Nat → Int → Option Addr → Nat → Nat → Int → Heap → Option R) (KR : Bool → Heap → Option R) (k : Nat) (p231 : Option Addr) (n232 : Int) (n233 : Int) (q234 : Option Addr) (l235 : Nat) (c236 : Nat) (n237 : Int) (q238 : Option Addr) (l239 : Nat) (c240 : Nat) (n241 : Int) (n242 : Int) (H : Heap) : Option R :=
bif decide (n242 < ((l239 : Nat) : Int)) then (waveletlaw14_CblkOrders_p3 p231 n232 n233 q234 l235 c236 n237 q238 l239 c240 n241 n242 H (fun p282 n283 n284 q285 l286 c287 n288 q289 l290 c291 n292 n293 n294 q295 l296 c297 n298 p299 n300 n301 n302 t303 =>
waveletlaw14_CblkOrders_l4 (fun p366 n367 n368 q369 l370 c371 n372 q373 l374 c375 n376 n377 n378 q379 l380 c381 n382 p383 n384 n385 n386 t387 H388 =>
hidx q373 l374 n377 1 fun p389 =>
ldI .i64 H388 p389 fun n390 =>
rec p366 n367 n368 q369 l370 c371 n372 q373 l374 c375 (IntKind.wrap .i64 (n376 + n390)) (IntKind.wrap .i64 (n377 + 1)) H388) (fun t391 H392 =>
KR t391 H392) k p282 n283 n284 q285 l286 c287 n288 q289 l290 c291 n292 n293 n292 n294 q295 l296 c297 n298 p299 n300 n301 n302 t303 H) (fun t393 =>
KR t393 H))
 else (KE2 p231 n232 n233 q234 l235 c236 n237 q238 l239 c240 n241 H)
def waveletlaw14_CblkOrders_l2 {R : Type} (k : Nat) (KE2 : Option Addr → Int → Int → Option Addr → Nat → Nat → Int → Option Addr → Nat → Nat → Int → Heap → Option R) (KR : Bool → Heap → Option R) : Nat → Option Addr → Int → Int → Option Addr → Nat → Nat → Int → Option Addr → Nat → Nat → Int → Int → Heap → Option R
  | 0, _, _, _, _, _, _, _, _, _, _, _, _, _ => none
  | n + 1, p231, n232, n233, q234, l235, c236, n237, q238, l239, c240, n241, n242, H => waveletlaw14_CblkOrders_l2_b (waveletlaw14_CblkOrders_p3 k) (waveletlaw14_CblkOrders_l4 k) (waveletlaw14_CblkOrders_l2 k KE2 KR n) KE2 KR k p231 n232 n233 q234 l235 c236 n237 q238 l239 c240 n241 n242 H

def waveletlaw14_CblkOrders_p5_b {R : Type} (k : Nat) (p418 : Option Addr) (n419 : Int) (n420 : Int) (q421 : Option Addr) (l422 : Nat) (c423 : Nat) (n424 : Int) (q425 : Option Addr) (l426 : Nat) (c427 : Nat) (n428 : Int) (KN : Option Addr → Int → Option Addr → Nat → Nat → Option R) (KR : Bool → Option R) : Option R :=
bif (n428 != n424) then (KR false)
 else (bif (((l422 : Nat) : Int) != (IntKind.wrap .i64 (n419 * n420))) then (KR false)
 else (KN p418 n424 q425 l426 c427))
def waveletlaw14_CblkOrders_p5 {R : Type} (k : Nat) (p418 : Option Addr) (n419 : Int) (n420 : Int) (q421 : Option Addr) (l422 : Nat) (c423 : Nat) (n424 : Int) (q425 : Option Addr) (l426 : Nat) (c427 : Nat) (n428 : Int) (KN : Option Addr → Int → Option Addr → Nat → Nat → Option R) (KR : Bool → Option R) : Option R := waveletlaw14_CblkOrders_p5_b k p418 n419 n420 q421 l422 c423 n424 q425 l426 c427 n428 KN KR

def waveletlaw14_CblkOrders_p7_b {R : Type} (k : Nat) (n457 : Int) (q458 : Option Addr) (l459 : Nat) (c460 : Nat) (q461 : Option Addr) (l462 : Nat) (c463 : Nat) (n464 : Int) (H : Heap) (KN : Int → Option Addr → Nat → Nat → Option Addr → Nat → Nat → Int → Option Addr → Nat → Nat → Int → Option Addr → Int → Option Addr → Nat → Nat → Int → Option Addr → Int → Bool → Option R) (KR : Bool → Option R) : Option R :=
bif decide (n464 ≥ ((l462 : Nat) : Int)) then (KR false)
 else (hidx q461 l462 n464 1 fun p465 =>
ldI .i64 H p465 fun n466 =>
hidx q458 l459 n464 1 fun p467 =>
ldI .i64 H p467 fun n468 =>
bif (n466 != n468) then (KR false)
 else (KN n457 q458 l459 c460 q461 l462 c463 n464 q461 l462 c463 n464 p465 n466 q458 l459 c460 n464 p467 n468 (n466 != n468)))
def waveletlaw14_CblkOrders_p7 {R : Type} (k : Nat) (n457 : Int) (q458 : Option Addr) (l459 : Nat) (c460 : Nat) (q461 : Option Addr) (l462 : Nat) (c463 : Nat) (n464 : Int) (H : Heap) (KN : Int → Option Addr → Nat → Nat → Option Addr → Nat → Nat → Int → Option Addr → Nat → Nat → Int → Option Addr → Int → Option Addr → Nat → Nat → Int → Option Addr → Int → Bool → Option R) (KR : Bool → Option R) : Option R := waveletlaw14_CblkOrders_p7_b k n457 q458 l459 c460 q461 l462 c463 n464 H KN KR

def waveletlaw14_CblkOrders_l6_b {R : Type} (waveletlaw14_CblkOrders_p7 : Int → Option Addr → Nat → Nat → Option Addr → Nat → Nat → Int → Heap → (Int → Option Addr → Nat → Nat → Option Addr → Nat → Nat → Int → Option Addr → Nat → Nat → Int → Option Addr → Int → Option Addr → Nat → Nat → Int → Option Addr → Int → Bool → Option R) → (Bool → Option R) → Option R) (rec : Int → Option Addr → Nat → Nat → Option Addr → Nat → Nat → Int → Heap → Option R) (KE6 : Int → Option R) (KR : Bool → Option R) (k : Nat) (n449 : Int) (q450 : Option Addr) (l451 : Nat) (c452 : Nat) (q453 : Option Addr) (l454 : Nat) (c455 : Nat) (n456 : Int) (H : Heap) : Option R :=
bif decide ((IntKind.wrap .i64 (n456 + 1)) < ((l451 : Nat) : Int)) then (waveletlaw14_CblkOrders_p7 n449 q450 l451 c452 q453 l454 c455 n456 H (fun n491 q492 l493 c494 q495 l496 c497 n498 q499 l500 c501 n502 p503 n504 q505 l506 c507 n508 p509 n510 t511 =>
rec n491 q492 l493 c494 q495 l496 c497 (IntKind.wrap .i64 (n498 + 1)) H) (fun t512 =>
KR t512))
 else (KE6 n449)
def waveletlaw14_CblkOrders_l6 {R : Type} (k : Nat) (KE6 : Int → Option R) (KR : Bool → Option R) : Nat → Int → Option Addr → Nat → Nat → Option Addr → Nat → Nat → Int → Heap → Option R
  | 0, _, _, _, _, _, _, _, _, _ => none
  | n + 1, n449, q450, l451, c452, q453, l454, c455, n456, H => waveletlaw14_CblkOrders_l6_b (waveletlaw14_CblkOrders_p7 k) (waveletlaw14_CblkOrders_l6 k KE6 KR n) KE6 KR k n449 q450 l451 c452 q453 l454 c455 n456 H

def waveletlaw14_CblkOrders_b {R : Type} (cblk_Scan : Int → Int → Heap → (Option Addr → Nat → Nat → Heap → Option R) → Option R) (waveletlaw14_CblkOrders_l0 : (Int → Option Addr → Int → Int → Option Addr → Nat → Nat → Heap → Option R) → (Bool → Heap → Option R) → Nat → Int → Option Addr → Int → Int → Option Addr → Nat → Nat → Option Addr → Nat → Nat → Int → Heap → Option R) (cblk_Segments : Int → Bool → Bool → Bool → Bool → Bool → Heap → (Option Addr → Nat → Nat → Heap → Option R) → Option R) (waveletlaw14_CblkOrders_l2 : (Option Addr → Int → Int → Option Addr → Nat → Nat → Int → Option Addr → Nat → Nat → Int → Heap → Option R) → (Bool → Heap → Option R) → Nat → Option Addr → Int → Int → Option Addr → Nat → Nat → Int → Option Addr → Nat → Nat → Int → Int → Heap → Option R) (waveletlaw14_CblkOrders_p5 : Option Addr → Int → Int → Option Addr → Nat → Nat → Int → Option Addr → Nat → Nat → Int → (Option Addr → Int → Option Addr → Nat → Nat → Option R) → (Bool → Option R) → Option R) (waveletlaw14_CblkOrders_l6 : (Int → Option R) → (Bool → Option R) → Nat → Int → Option Addr → Nat → Nat → Option Addr → Nat → Nat → Int → Heap → Option R) (cblk_Pass : Int → (Int → Int → Option R) → Option R) (waveletlaw14_exampleHoldsq : (Bool → Option R) → Option R) (k : Nat) (n61 : Int) (n62 : Int) (n63 : Int) (t64 : Bool) (t65 : Bool) (t66 : Bool) (t67 : Bool) (t68 : Bool) (H : Heap) (K : Bool → Heap → Option R) : Option R :=
hal H [.int .u8 n61, .int .u8 n62] fun p69 H70 =>
hal H70 [.bool t64, .bool t65, .bool t66, .bool t67, .bool t68] fun p71 H72 =>
hidx p69 2 0 1 fun p73 =>
ldI .u8 H72 p73 fun n74 =>
hidx p69 2 1 1 fun p75 =>
ldI .u8 H72 p75 fun n76 =>
cblk_Scan (IntKind.wrap .i64 ((Int.tmod (IntKind.wrap .i64 n74) 64) + 1)) (IntKind.wrap .i64 ((Int.tmod (IntKind.wrap .i64 n76) 64) + 1)) H72 fun q77 l78 c79 H80 =>
hmk [.bool false] 1 H80 (IntKind.wrap .i64 ((IntKind.wrap .i64 ((Int.tmod (IntKind.wrap .i64 n74) 64) + 1)) * (IntKind.wrap .i64 ((Int.tmod (IntKind.wrap .i64 n76) 64) + 1)))) (IntKind.wrap .i64 ((IntKind.wrap .i64 ((Int.tmod (IntKind.wrap .i64 n74) 64) + 1)) * (IntKind.wrap .i64 ((Int.tmod (IntKind.wrap .i64 n76) 64) + 1)))) fun q81 l82 c83 H84 =>
waveletlaw14_CblkOrders_l0 (fun n214 p215 n216 n217 q218 l219 c220 H221 =>
ldB H221 (pad p215 0) fun t222 =>
ldB H221 (pad p215 1) fun t223 =>
ldB H221 (pad p215 2) fun t224 =>
ldB H221 (pad p215 3) fun t225 =>
ldB H221 (pad p215 4) fun t226 =>
cblk_Segments (IntKind.wrap .i64 ((Int.tmod (IntKind.wrap .i64 n214) 178) + 1)) t222 t223 t224 t225 t226 H221 fun q227 l228 c229 H230 =>
waveletlaw14_CblkOrders_l2 (fun p406 n407 n408 q409 l410 c411 n412 q413 l414 c415 n416 H417 =>
waveletlaw14_CblkOrders_p5 p406 n407 n408 q409 l410 c411 n412 q413 l414 c415 n416 (fun p435 n436 q437 l438 c439 =>
ldB H417 (pad p435 0) fun t440 =>
ldB H417 (pad p435 1) fun t441 =>
ldB H417 (pad p435 2) fun t442 =>
ldB H417 (pad p435 3) fun t443 =>
ldB H417 (pad p435 4) fun t444 =>
cblk_Segments (imn (IntKind.wrap .i64 (n436 + 1)) 178) t440 t441 t442 t443 t444 H417 fun q445 l446 c447 H448 =>
waveletlaw14_CblkOrders_l6 (fun n515 =>
cblk_Pass (IntKind.wrap .i64 (3 * (Int.tmod n515 60))) fun n516 n517 =>
cblk_Pass (IntKind.wrap .i64 ((IntKind.wrap .i64 (3 * (Int.tmod n515 60))) + 1)) fun n518 n519 =>
bif (n516 == (Int.tmod n515 60)) then (bif (n517 == 2) then (bif (n518 == (IntKind.wrap .i64 ((Int.tmod n515 60) + 1))) then (bif (n519 == 0) then (waveletlaw14_exampleHoldsq fun t520 =>
K t520 H448)
 else (K false H448))
 else (K false H448))
 else (K false H448))
 else (K false H448)) (fun t521 =>
K t521 H448) k n436 q437 l438 c439 q445 l446 c447 0 H448) (fun t522 =>
K t522 H417)) (fun t523 H524 =>
K t523 H524) k p215 n216 n217 q218 l219 c220 (IntKind.wrap .i64 ((Int.tmod (IntKind.wrap .i64 n214) 178) + 1)) q227 l228 c229 0 0 H230) (fun t525 H526 =>
K t525 H526) k n63 p71 (IntKind.wrap .i64 ((Int.tmod (IntKind.wrap .i64 n74) 64) + 1)) (IntKind.wrap .i64 ((Int.tmod (IntKind.wrap .i64 n76) 64) + 1)) q77 l78 c79 q81 l82 c83 0 H84

def waveletlaw14_CblkOrders {R : Type} (k : Nat) (n61 : Int) (n62 : Int) (n63 : Int) (t64 : Bool) (t65 : Bool) (t66 : Bool) (t67 : Bool) (t68 : Bool) (H : Heap) (K : Bool → Heap → Option R) : Option R := waveletlaw14_CblkOrders_b (cblk_Scan k) (waveletlaw14_CblkOrders_l0 k) (cblk_Segments k) (waveletlaw14_CblkOrders_l2 k) (waveletlaw14_CblkOrders_p5 k) (waveletlaw14_CblkOrders_l6 k) cblk_Pass waveletlaw14_exampleHoldsq k n61 n62 n63 t64 t65 t66 t67 t68 H K

def waveletlaw14_CblkOrders_Ct {R : Type} (cblk_Scan : Int → Int → Heap → (Option Addr → Nat → Nat → Heap → Option R) → Option R) (cblk_Segments : Int → Bool → Bool → Bool → Bool → Bool → Heap → (Option Addr → Nat → Nat → Heap → Option R) → Option R) (cblk_Raw : Int → Bool → Bool → Bool → Bool → Bool → Heap → (Bool → Heap → Option R) → Option R) (cblk_Pass : Int → (Int → Int → Option R) → Option R) (waveletlaw14_exampleHoldsq : (Bool → Option R) → Option R) : Tab R := tcons 12 (cblk_Scan_ca cblk_Scan) <| tcons 20 (cblk_Segments_ca cblk_Segments) <| tcons 17 (cblk_Raw_ca cblk_Raw) <| tcons 15 (cblk_Pass_ca cblk_Pass) <| tcons 14 (waveletlaw14_exampleHoldsq_ca waveletlaw14_exampleHoldsq) <| fun _ _ _ _ => none
def waveletlaw14_CblkOrders_C (R : Type) (k : Nat) : Tab R := waveletlaw14_CblkOrders_Ct (cblk_Scan k) (cblk_Segments k) (cblk_Raw k) cblk_Pass waveletlaw14_exampleHoldsq
theorem waveletlaw14_CblkOrders_S (R : Type) (k : Nat) : CSound Try.prog (waveletlaw14_CblkOrders_C R k) := csound_cons (cblk_Scan_cs R k) <| csound_cons (cblk_Segments_cs R k) <| csound_cons (cblk_Raw_cs R k) <| csound_cons (cblk_Pass_cs R k) <| csound_cons (waveletlaw14_exampleHoldsq_cs R k) <| csound_nil
def waveletlaw14_CblkOrders_aa0 {R : Type} (f : (Int → Option Addr → Int → Int → Option Addr → Nat → Nat → Heap → Option R) → (Bool → Heap → Option R) → Nat → Int → Option Addr → Int → Int → Option Addr → Nat → Nat → Option Addr → Nat → Nat → Int → Heap → Option R) (n : Nat) (vals : List Value) (H : Heap) (K : Xit → Env → Heap → Option R) : Option R :=
  match vals with
  | [.int .u8 n85, .pointer p86, .int .i64 n87, .int .i64 n88, .slice q89 l90 c91, .slice q92 l93 c94, .int .i64 n95] => f (fun n1510 p1511 n1512 n1513 q1514 l1515 c1516 H => K (.exit 0) [(1, .int .u8 n1510), (5, .pointer p1511), (7, .int .i64 n1512), (8, .int .i64 n1513), (9, .slice q1514 l1515 c1516)] H) (fun t1517 H => K .ret [(6, .bool t1517)] H) n n85 p86 n87 n88 q89 l90 c91 q92 l93 c94 n95 H
  | _ => none
def waveletlaw14_CblkOrders_a0 (R : Type) (k n : Nat) (vals : List Value) (H : Heap) (K : Xit → Env → Heap → Option R) : Option R := waveletlaw14_CblkOrders_aa0 (waveletlaw14_CblkOrders_l0 k) n vals H K
def waveletlaw14_CblkOrders_aa1 {R : Type} (f : Int → Option Addr → Int → Int → Option Addr → Nat → Nat → Option Addr → Nat → Nat → Int → Option Addr → Heap → (Int → Option Addr → Int → Int → Option Addr → Nat → Nat → Option Addr → Nat → Nat → Int → Option Addr → Option Addr → Int → Int → Bool → Option Addr → Int → Bool → Option Addr → Int → Int → Bool → Option Addr → Nat → Nat → Option Addr → Int → Int → Int → Option Addr → Int → Int → Option Addr → Bool → Option R) → (Bool → Option R) → Option R) (n : Nat) (vals : List Value) (H : Heap) (K : Xit → Env → Heap → Option R) : Option R :=
  match vals with
  | [.int .u8 n102, .pointer p103, .int .i64 n104, .int .i64 n105, .slice q106 l107 c108, .slice q109 l110 c111, .int .i64 n112, .pointer p113] => f n102 p103 n104 n105 q106 l107 c108 q109 l110 c111 n112 p113 H (fun n1518 p1519 n1520 n1521 q1522 l1523 c1524 q1525 l1526 c1527 n1528 p1529 p1530 n1531 n1532 t1533 p1534 n1535 t1536 p1537 n1538 n1539 t1540 q1541 l1542 c1543 p1544 n1545 n1546 n1547 p1548 n1549 n1550 p1551 t1552 => K .normal [(1, .int .u8 n1518), (5, .pointer p1519), (7, .int .i64 n1520), (8, .int .i64 n1521), (9, .slice q1522 l1523 c1524), (10, .slice q1525 l1526 c1527), (11, .int .i64 n1528), (12, .pointer p1529), (56, .pointer p1530), (57, .int .i64 n1531), (58, .int .i64 n1532), (59, .bool t1533), (62, .pointer p1534), (63, .int .i64 n1535), (64, .bool t1536), (67, .pointer p1537), (68, .int .i64 n1538), (69, .int .i64 n1539), (70, .bool t1540), (73, .slice q1541 l1542 c1543), (74, .pointer p1544), (75, .int .i64 n1545), (76, .int .i64 n1546), (77, .int .i64 n1547), (78, .pointer p1548), (79, .int .i64 n1549), (80, .int .i64 n1550), (81, .pointer p1551), (82, .bool t1552)] H) (fun t1553 => K .ret [(6, .bool t1553)] H)
  | _ => none
def waveletlaw14_CblkOrders_a1 (R : Type) (k n : Nat) (vals : List Value) (H : Heap) (K : Xit → Env → Heap → Option R) : Option R := waveletlaw14_CblkOrders_aa1 (waveletlaw14_CblkOrders_p1 k) n vals H K
def waveletlaw14_CblkOrders_aa2 {R : Type} (f : (Option Addr → Int → Int → Option Addr → Nat → Nat → Int → Option Addr → Nat → Nat → Int → Heap → Option R) → (Bool → Heap → Option R) → Nat → Option Addr → Int → Int → Option Addr → Nat → Nat → Int → Option Addr → Nat → Nat → Int → Int → Heap → Option R) (n : Nat) (vals : List Value) (H : Heap) (K : Xit → Env → Heap → Option R) : Option R :=
  match vals with
  | [.pointer p231, .int .i64 n232, .int .i64 n233, .slice q234 l235 c236, .int .i64 n237, .slice q238 l239 c240, .int .i64 n241, .int .i64 n242] => f (fun p1554 n1555 n1556 q1557 l1558 c1559 n1560 q1561 l1562 c1563 n1564 H => K (.exit 2) [(5, .pointer p1554), (7, .int .i64 n1555), (8, .int .i64 n1556), (9, .slice q1557 l1558 c1559), (13, .int .i64 n1560), (14, .slice q1561 l1562 c1563), (15, .int .i64 n1564)] H) (fun t1565 H => K .ret [(6, .bool t1565)] H) n p231 n232 n233 q234 l235 c236 n237 q238 l239 c240 n241 n242 H
  | _ => none
def waveletlaw14_CblkOrders_a2 (R : Type) (k n : Nat) (vals : List Value) (H : Heap) (K : Xit → Env → Heap → Option R) : Option R := waveletlaw14_CblkOrders_aa2 (waveletlaw14_CblkOrders_l2 k) n vals H K
def waveletlaw14_CblkOrders_aa3 {R : Type} (f : Option Addr → Int → Int → Option Addr → Nat → Nat → Int → Option Addr → Nat → Nat → Int → Int → Heap → (Option Addr → Int → Int → Option Addr → Nat → Nat → Int → Option Addr → Nat → Nat → Int → Int → Int → Option Addr → Nat → Nat → Int → Option Addr → Int → Int → Int → Bool → Option R) → (Bool → Option R) → Option R) (n : Nat) (vals : List Value) (H : Heap) (K : Xit → Env → Heap → Option R) : Option R :=
  match vals with
  | [.pointer p243, .int .i64 n244, .int .i64 n245, .slice q246 l247 c248, .int .i64 n249, .slice q250 l251 c252, .int .i64 n253, .int .i64 n254] => f p243 n244 n245 q246 l247 c248 n249 q250 l251 c252 n253 n254 H (fun p1566 n1567 n1568 q1569 l1570 c1571 n1572 q1573 l1574 c1575 n1576 n1577 n1578 q1579 l1580 c1581 n1582 p1583 n1584 n1585 n1586 t1587 => K .normal [(5, .pointer p1566), (7, .int .i64 n1567), (8, .int .i64 n1568), (9, .slice q1569 l1570 c1571), (13, .int .i64 n1572), (14, .slice q1573 l1574 c1575), (15, .int .i64 n1576), (16, .int .i64 n1577), (112, .int .i64 n1578), (113, .slice q1579 l1580 c1581), (114, .int .i64 n1582), (115, .pointer p1583), (116, .int .i64 n1584), (117, .int .i64 n1585), (118, .int .i64 n1586), (119, .bool t1587)] H) (fun t1588 => K .ret [(6, .bool t1588)] H)
  | _ => none
def waveletlaw14_CblkOrders_a3 (R : Type) (k n : Nat) (vals : List Value) (H : Heap) (K : Xit → Env → Heap → Option R) : Option R := waveletlaw14_CblkOrders_aa3 (waveletlaw14_CblkOrders_p3 k) n vals H K
def waveletlaw14_CblkOrders_aa4 {R : Type} (f : (Option Addr → Int → Int → Option Addr → Nat → Nat → Int → Option Addr → Nat → Nat → Int → Int → Int → Option Addr → Nat → Nat → Int → Option Addr → Int → Int → Int → Bool → Heap → Option R) → (Bool → Heap → Option R) → Nat → Option Addr → Int → Int → Option Addr → Nat → Nat → Int → Option Addr → Nat → Nat → Int → Int → Int → Int → Option Addr → Nat → Nat → Int → Option Addr → Int → Int → Int → Bool → Heap → Option R) (n : Nat) (vals : List Value) (H : Heap) (K : Xit → Env → Heap → Option R) : Option R :=
  match vals with
  | [.pointer p304, .int .i64 n305, .int .i64 n306, .slice q307 l308 c309, .int .i64 n310, .slice q311 l312 c313, .int .i64 n314, .int .i64 n315, .int .i64 n316, .int .i64 n317, .slice q318 l319 c320, .int .i64 n321, .pointer p322, .int .i64 n323, .int .i64 n324, .int .i64 n325, .bool t326] => f (fun p1589 n1590 n1591 q1592 l1593 c1594 n1595 q1596 l1597 c1598 n1599 n1600 n1601 q1602 l1603 c1604 n1605 p1606 n1607 n1608 n1609 t1610 H => K (.exit 4) [(5, .pointer p1589), (7, .int .i64 n1590), (8, .int .i64 n1591), (9, .slice q1592 l1593 c1594), (13, .int .i64 n1595), (14, .slice q1596 l1597 c1598), (15, .int .i64 n1599), (16, .int .i64 n1600), (112, .int .i64 n1601), (113, .slice q1602 l1603 c1604), (114, .int .i64 n1605), (115, .pointer p1606), (116, .int .i64 n1607), (117, .int .i64 n1608), (118, .int .i64 n1609), (119, .bool t1610)] H) (fun t1611 H => K .ret [(6, .bool t1611)] H) n p304 n305 n306 q307 l308 c309 n310 q311 l312 c313 n314 n315 n316 n317 q318 l319 c320 n321 p322 n323 n324 n325 t326 H
  | _ => none
def waveletlaw14_CblkOrders_a4 (R : Type) (k n : Nat) (vals : List Value) (H : Heap) (K : Xit → Env → Heap → Option R) : Option R := waveletlaw14_CblkOrders_aa4 (waveletlaw14_CblkOrders_l4 k) n vals H K
def waveletlaw14_CblkOrders_aa5 {R : Type} (f : Option Addr → Int → Int → Option Addr → Nat → Nat → Int → Option Addr → Nat → Nat → Int → (Option Addr → Int → Option Addr → Nat → Nat → Option R) → (Bool → Option R) → Option R) (n : Nat) (vals : List Value) (H : Heap) (K : Xit → Env → Heap → Option R) : Option R :=
  match vals with
  | [.pointer p418, .int .i64 n419, .int .i64 n420, .slice q421 l422 c423, .int .i64 n424, .slice q425 l426 c427, .int .i64 n428] => f p418 n419 n420 q421 l422 c423 n424 q425 l426 c427 n428 (fun p1612 n1613 q1614 l1615 c1616 => K .normal [(5, .pointer p1612), (13, .int .i64 n1613), (14, .slice q1614 l1615 c1616)] H) (fun t1617 => K .ret [(6, .bool t1617)] H)
  | _ => none
def waveletlaw14_CblkOrders_a5 (R : Type) (k n : Nat) (vals : List Value) (H : Heap) (K : Xit → Env → Heap → Option R) : Option R := waveletlaw14_CblkOrders_aa5 (waveletlaw14_CblkOrders_p5 k) n vals H K
def waveletlaw14_CblkOrders_aa6 {R : Type} (f : (Int → Option R) → (Bool → Option R) → Nat → Int → Option Addr → Nat → Nat → Option Addr → Nat → Nat → Int → Heap → Option R) (n : Nat) (vals : List Value) (H : Heap) (K : Xit → Env → Heap → Option R) : Option R :=
  match vals with
  | [.int .i64 n449, .slice q450 l451 c452, .slice q453 l454 c455, .int .i64 n456] => f (fun n1618 => K (.exit 6) [(13, .int .i64 n1618)] H) (fun t1619 => K .ret [(6, .bool t1619)] H) n n449 q450 l451 c452 q453 l454 c455 n456 H
  | _ => none
def waveletlaw14_CblkOrders_a6 (R : Type) (k n : Nat) (vals : List Value) (H : Heap) (K : Xit → Env → Heap → Option R) : Option R := waveletlaw14_CblkOrders_aa6 (waveletlaw14_CblkOrders_l6 k) n vals H K
def waveletlaw14_CblkOrders_aa7 {R : Type} (f : Int → Option Addr → Nat → Nat → Option Addr → Nat → Nat → Int → Heap → (Int → Option Addr → Nat → Nat → Option Addr → Nat → Nat → Int → Option Addr → Nat → Nat → Int → Option Addr → Int → Option Addr → Nat → Nat → Int → Option Addr → Int → Bool → Option R) → (Bool → Option R) → Option R) (n : Nat) (vals : List Value) (H : Heap) (K : Xit → Env → Heap → Option R) : Option R :=
  match vals with
  | [.int .i64 n457, .slice q458 l459 c460, .slice q461 l462 c463, .int .i64 n464] => f n457 q458 l459 c460 q461 l462 c463 n464 H (fun n1620 q1621 l1622 c1623 q1624 l1625 c1626 n1627 q1628 l1629 c1630 n1631 p1632 n1633 q1634 l1635 c1636 n1637 p1638 n1639 t1640 => K .normal [(13, .int .i64 n1620), (14, .slice q1621 l1622 c1623), (18, .slice q1624 l1625 c1626), (19, .int .i64 n1627), (173, .slice q1628 l1629 c1630), (174, .int .i64 n1631), (175, .pointer p1632), (176, .int .i64 n1633), (177, .slice q1634 l1635 c1636), (178, .int .i64 n1637), (179, .pointer p1638), (180, .int .i64 n1639), (181, .bool t1640)] H) (fun t1641 => K .ret [(6, .bool t1641)] H)
  | _ => none
def waveletlaw14_CblkOrders_a7 (R : Type) (k n : Nat) (vals : List Value) (H : Heap) (K : Xit → Env → Heap → Option R) : Option R := waveletlaw14_CblkOrders_aa7 (waveletlaw14_CblkOrders_p7 k) n vals H K
def waveletlaw14_CblkOrders_Jt {R : Type} (k : Nat) (waveletlaw14_CblkOrders_l0 : (Int → Option Addr → Int → Int → Option Addr → Nat → Nat → Heap → Option R) → (Bool → Heap → Option R) → Nat → Int → Option Addr → Int → Int → Option Addr → Nat → Nat → Option Addr → Nat → Nat → Int → Heap → Option R) (waveletlaw14_CblkOrders_p1 : Int → Option Addr → Int → Int → Option Addr → Nat → Nat → Option Addr → Nat → Nat → Int → Option Addr → Heap → (Int → Option Addr → Int → Int → Option Addr → Nat → Nat → Option Addr → Nat → Nat → Int → Option Addr → Option Addr → Int → Int → Bool → Option Addr → Int → Bool → Option Addr → Int → Int → Bool → Option Addr → Nat → Nat → Option Addr → Int → Int → Int → Option Addr → Int → Int → Option Addr → Bool → Option R) → (Bool → Option R) → Option R) (waveletlaw14_CblkOrders_l2 : (Option Addr → Int → Int → Option Addr → Nat → Nat → Int → Option Addr → Nat → Nat → Int → Heap → Option R) → (Bool → Heap → Option R) → Nat → Option Addr → Int → Int → Option Addr → Nat → Nat → Int → Option Addr → Nat → Nat → Int → Int → Heap → Option R) (waveletlaw14_CblkOrders_p3 : Option Addr → Int → Int → Option Addr → Nat → Nat → Int → Option Addr → Nat → Nat → Int → Int → Heap → (Option Addr → Int → Int → Option Addr → Nat → Nat → Int → Option Addr → Nat → Nat → Int → Int → Int → Option Addr → Nat → Nat → Int → Option Addr → Int → Int → Int → Bool → Option R) → (Bool → Option R) → Option R) (waveletlaw14_CblkOrders_l4 : (Option Addr → Int → Int → Option Addr → Nat → Nat → Int → Option Addr → Nat → Nat → Int → Int → Int → Option Addr → Nat → Nat → Int → Option Addr → Int → Int → Int → Bool → Heap → Option R) → (Bool → Heap → Option R) → Nat → Option Addr → Int → Int → Option Addr → Nat → Nat → Int → Option Addr → Nat → Nat → Int → Int → Int → Int → Option Addr → Nat → Nat → Int → Option Addr → Int → Int → Int → Bool → Heap → Option R) (waveletlaw14_CblkOrders_p5 : Option Addr → Int → Int → Option Addr → Nat → Nat → Int → Option Addr → Nat → Nat → Int → (Option Addr → Int → Option Addr → Nat → Nat → Option R) → (Bool → Option R) → Option R) (waveletlaw14_CblkOrders_l6 : (Int → Option R) → (Bool → Option R) → Nat → Int → Option Addr → Nat → Nat → Option Addr → Nat → Nat → Int → Heap → Option R) (waveletlaw14_CblkOrders_p7 : Int → Option Addr → Nat → Nat → Option Addr → Nat → Nat → Int → Heap → (Int → Option Addr → Nat → Nat → Option Addr → Nat → Nat → Int → Option Addr → Nat → Nat → Int → Option Addr → Int → Option Addr → Nat → Nat → Int → Option Addr → Int → Bool → Option R) → (Bool → Option R) → Option R) : JTab R := tcons 0 (waveletlaw14_CblkOrders_aa0 waveletlaw14_CblkOrders_l0 k) <| tcons 1 (waveletlaw14_CblkOrders_aa1 waveletlaw14_CblkOrders_p1 k) <| tcons 2 (waveletlaw14_CblkOrders_aa2 waveletlaw14_CblkOrders_l2 k) <| tcons 3 (waveletlaw14_CblkOrders_aa3 waveletlaw14_CblkOrders_p3 k) <| tcons 4 (waveletlaw14_CblkOrders_aa4 waveletlaw14_CblkOrders_l4 k) <| tcons 5 (waveletlaw14_CblkOrders_aa5 waveletlaw14_CblkOrders_p5 k) <| tcons 6 (waveletlaw14_CblkOrders_aa6 waveletlaw14_CblkOrders_l6 k) <| tcons 7 (waveletlaw14_CblkOrders_aa7 waveletlaw14_CblkOrders_p7 k) <| fun _ _ _ _ => none
def waveletlaw14_CblkOrders_J (R : Type) (k : Nat) : JTab R := waveletlaw14_CblkOrders_Jt k (waveletlaw14_CblkOrders_l0 k) (waveletlaw14_CblkOrders_p1 k) (waveletlaw14_CblkOrders_l2 k) (waveletlaw14_CblkOrders_p3 k) (waveletlaw14_CblkOrders_l4 k) (waveletlaw14_CblkOrders_p5 k) (waveletlaw14_CblkOrders_l6 k) (waveletlaw14_CblkOrders_p7 k)
def waveletlaw14_CblkOrders_at : AT := (.seq (.reg [1, 3, 5, 56, 57, 58, 59, 62, 63, 64, 67, 68, 69, 70, 73, 74, 75, 76, 77, 78, 79, 80, 81, 82, 112, 113, 114, 115, 116, 117, 118, 119, 149, 150, 151, 152, 153, 154, 173, 174, 175, 176, 177, 178, 179, 180, 181, 202, 203, 206, 207, 208, 209, 212, 213, 216] []) (.seq (.reg [1, 5, 7, 8, 56, 57, 58, 59, 62, 63, 64, 67, 68, 69, 70, 73, 74, 75, 76, 77, 78, 79, 80, 81, 82, 112, 113, 114, 115, 116, 117, 118, 119, 149, 150, 151, 152, 153, 154, 173, 174, 175, 176, 177, 178, 179, 180, 181, 202, 203, 206, 207, 208, 209, 212, 213, 216] [[], [0], [0, 1], [0, 1, 2], [0, 1, 2, 3], [], [5], [5, 6], [5, 6, 7], [5, 6, 7, 8], [0, 1, 2, 3, 4], [0, 1, 2, 3, 4, 5, 6, 7, 8, 9, 10]]) (.seq (.reg [1, 5, 7, 8, 9, 56, 57, 58, 59, 62, 63, 64, 67, 68, 69, 70, 73, 74, 75, 76, 77, 78, 79, 80, 81, 82, 112, 113, 114, 115, 116, 117, 118, 119, 149, 150, 151, 152, 153, 154, 173, 174, 175, 176, 177, 178, 179, 180, 181, 202, 203, 206, 207, 208, 209, 212, 213, 216] []) (.seq (.reg [1, 5, 7, 8, 9, 10, 56, 57, 58, 59, 62, 63, 64, 67, 68, 69, 70, 73, 74, 75, 76, 77, 78, 79, 80, 81, 82, 112, 113, 114, 115, 116, 117, 118, 119, 149, 150, 151, 152, 153, 154, 173, 174, 175, 176, 177, 178, 179, 180, 181, 202, 203, 206, 207, 208, 209, 212, 213, 216] []) (.seq (.seq (.reg [1, 5, 7, 8, 9, 10, 11, 56, 57, 58, 59, 62, 63, 64, 67, 68, 69, 70, 73, 74, 75, 76, 77, 78, 79, 80, 81, 82, 112, 113, 114, 115, 116, 117, 118, 119, 149, 150, 151, 152, 153, 154, 173, 174, 175, 176, 177, 178, 179, 180, 181, 202, 203, 206, 207, 208, 209, 212, 213, 216] []) (.node (.opq 0 [1, 5, 7, 8, 9, 10, 11] ⟨[], [(0, [1, 5, 7, 8, 9])], [6]⟩ (.node (.seq (.seq (.reg [1, 5, 7, 8, 9, 10, 11, 45, 56, 57, 58, 59, 62, 63, 64, 67, 68, 69, 70, 73, 74, 75, 76, 77, 78, 79, 80, 81, 82, 112, 113, 114, 115, 116, 117, 118, 119, 149, 150, 151, 152, 153, 154, 173, 174, 175, 176, 177, 178, 179, 180, 181, 202, 203, 206, 207, 208, 209, 212, 213, 216] []) (.cond .leaf .leaf)) (.seq (.node (.seq (.reg [1, 5, 7, 8, 9, 10, 11, 12, 56, 57, 58, 59, 62, 63, 64, 67, 68, 69, 70, 73, 74, 75, 76, 77, 78, 79, 80, 81, 82, 112, 113, 114, 115, 116, 117, 118, 119, 149, 150, 151, 152, 153, 154, 173, 174, 175, 176, 177, 178, 179, 180, 181, 202, 203, 206, 207, 208, 209, 212, 213, 216] []) (.seq (.opq 1 [1, 5, 7, 8, 9, 10, 11, 12] ⟨[1, 5, 7, 8, 9, 10, 11, 12, 56, 57, 58, 59, 62, 63, 64, 67, 68, 69, 70, 73, 74, 75, 76, 77, 78, 79, 80, 81, 82], [], [6]⟩ (.seq (.reg [1, 5, 7, 8, 9, 10, 11, 12, 56, 57, 58, 59, 62, 63, 64, 67, 68, 69, 70, 73, 74, 75, 76, 77, 78, 79, 80, 81, 82, 83, 112, 113, 114, 115, 116, 117, 118, 119, 149, 150, 151, 152, 153, 154, 173, 174, 175, 176, 177, 178, 179, 180, 181, 202, 203, 206, 207, 208, 209, 212, 213, 216] []) (.cond (.seq (.reg [6] []) .leaf) .leaf))) (.reg [1, 5, 7, 8, 9, 10, 11, 56, 57, 58, 59, 62, 63, 64, 67, 68, 69, 70, 73, 74, 75, 76, 77, 78, 79, 80, 81, 82, 112, 113, 114, 115, 116, 117, 118, 119, 149, 150, 151, 152, 153, 154, 173, 174, 175, 176, 177, 178, 179, 180, 181, 202, 203, 206, 207, 208, 209, 212, 213, 216] [])))) (.reg [1, 5, 7, 8, 9, 10, 11, 56, 57, 58, 59, 62, 63, 64, 67, 68, 69, 70, 73, 74, 75, 76, 77, 78, 79, 80, 81, 82, 112, 113, 114, 115, 116, 117, 118, 119, 149, 150, 151, 152, 153, 154, 173, 174, 175, 176, 177, 178, 179, 180, 181, 202, 203, 206, 207, 208, 209, 212, 213, 216] []))))))) (.seq (.reg [5, 7, 8, 9, 13, 112, 113, 114, 115, 116, 117, 118, 119, 149, 150, 151, 152, 153, 154, 173, 174, 175, 176, 177, 178, 179, 180, 181, 202, 203, 206, 207, 208, 209, 212, 213, 216] []) (.seq (.reg [5, 7, 8, 9, 13, 14, 112, 113, 114, 115, 116, 117, 118, 119, 149, 150, 151, 152, 153, 154, 173, 174, 175, 176, 177, 178, 179, 180, 181, 202, 203, 206, 207, 208, 209, 212, 213, 216] []) (.seq (.reg [5, 7, 8, 9, 13, 14, 15, 112, 113, 114, 115, 116, 117, 118, 119, 149, 150, 151, 152, 153, 154, 173, 174, 175, 176, 177, 178, 179, 180, 181, 202, 203, 206, 207, 208, 209, 212, 213, 216] []) (.seq (.seq (.reg [5, 7, 8, 9, 13, 14, 15, 16, 112, 113, 114, 115, 116, 117, 118, 119, 149, 150, 151, 152, 153, 154, 173, 174, 175, 176, 177, 178, 179, 180, 181, 202, 203, 206, 207, 208, 209, 212, 213, 216] []) (.node (.opq 2 [5, 7, 8, 9, 13, 14, 15, 16] ⟨[], [(2, [5, 7, 8, 9, 13, 14, 15])], [6]⟩ (.node (.seq (.seq (.reg [5, 7, 8, 9, 13, 14, 15, 16, 103, 112, 113, 114, 115, 116, 117, 118, 119, 149, 150, 151, 152, 153, 154, 173, 174, 175, 176, 177, 178, 179, 180, 181, 202, 203, 206, 207, 208, 209, 212, 213, 216] []) (.cond .leaf .leaf)) (.seq (.node (.seq (.opq 3 [5, 7, 8, 9, 13, 14, 15, 16] ⟨[5, 7, 8, 9, 13, 14, 15, 16, 112, 113, 114, 115, 116, 117, 118, 119], [], [6]⟩ (.seq (.reg [5, 7, 8, 9, 13, 14, 15, 16, 112, 113, 114, 115, 116, 117, 118, 119, 120, 149, 150, 151, 152, 153, 154, 173, 174, 175, 176, 177, 178, 179, 180, 181, 202, 203, 206, 207, 208, 209, 212, 213, 216] []) (.cond (.seq (.reg [6] []) .leaf) .leaf))) (.seq (.seq (.reg [5, 7, 8, 9, 13, 14, 15, 16, 17, 112, 113, 114, 115, 116, 117, 118, 119, 149, 150, 151, 152, 153, 154, 173, 174, 175, 176, 177, 178, 179, 180, 181, 202, 203, 206, 207, 208, 209, 212, 213, 216] []) (.node (.opq 4 [5, 7, 8, 9, 13, 14, 15, 16, 17, 112, 113, 114, 115, 116, 117, 118, 119] ⟨[], [(4, [5, 7, 8, 9, 13, 14, 15, 16, 112, 113, 114, 115, 116, 117, 118, 119])], [6]⟩ (.node (.seq (.seq (.reg [5, 7, 8, 9, 13, 14, 15, 16, 17, 112, 113, 114, 115, 116, 117, 118, 119, 129, 149, 150, 151, 152, 153, 154, 173, 174, 175, 176, 177, 178, 179, 180, 181, 202, 203, 206, 207, 208, 209, 212, 213, 216] []) (.cond .leaf .leaf)) (.seq (.node (.seq (.reg [5, 7, 8, 9, 13, 14, 15, 16, 17, 112, 113, 114, 115, 116, 117, 118, 119, 138, 149, 150, 151, 152, 153, 154, 173, 174, 175, 176, 177, 178, 179, 180, 181, 202, 203, 206, 207, 208, 209, 212, 213, 216] [[], [], [0, 1], [], [], [0, 1, 2, 3, 4], [0, 1, 2, 3, 4, 5]]) (.cond (.seq (.reg [6] []) .leaf) .leaf))) (.reg [5, 7, 8, 9, 13, 14, 15, 16, 17, 112, 113, 114, 115, 116, 117, 118, 119, 149, 150, 151, 152, 153, 154, 173, 174, 175, 176, 177, 178, 179, 180, 181, 202, 203, 206, 207, 208, 209, 212, 213, 216] []))))))) (.reg [5, 7, 8, 9, 13, 14, 15, 16, 112, 113, 114, 115, 116, 117, 118, 119, 149, 150, 151, 152, 153, 154, 173, 174, 175, 176, 177, 178, 179, 180, 181, 202, 203, 206, 207, 208, 209, 212, 213, 216] [])))) (.reg [5, 7, 8, 9, 13, 14, 15, 16, 112, 113, 114, 115, 116, 117, 118, 119, 149, 150, 151, 152, 153, 154, 173, 174, 175, 176, 177, 178, 179, 180, 181, 202, 203, 206, 207, 208, 209, 212, 213, 216] []))))))) (.seq (.opq 5 [5, 7, 8, 9, 13, 14, 15] ⟨[5, 13, 14], [], [6]⟩ (.seq (.reg [5, 13, 14, 155, 173, 174, 175, 176, 177, 178, 179, 180, 181, 202, 203, 206, 207, 208, 209, 212, 213, 216] []) (.cond (.seq (.reg [6] []) .leaf) .leaf))) (.seq (.reg [13, 14, 18, 173, 174, 175, 176, 177, 178, 179, 180, 181, 202, 203, 206, 207, 208, 209, 212, 213, 216] []) (.seq (.seq (.reg [13, 14, 18, 19, 173, 174, 175, 176, 177, 178, 179, 180, 181, 202, 203, 206, 207, 208, 209, 212, 213, 216] []) (.node (.opq 6 [13, 14, 18, 19] ⟨[], [(6, [13])], [6]⟩ (.node (.seq (.seq (.reg [13, 14, 18, 19, 165, 173, 174, 175, 176, 177, 178, 179, 180, 181, 202, 203, 206, 207, 208, 209, 212, 213, 216] []) (.cond .leaf .leaf)) (.seq (.opq 7 [13, 14, 18, 19] ⟨[13, 14, 18, 19, 173, 174, 175, 176, 177, 178, 179, 180, 181], [], [6]⟩ (.node (.seq (.reg [13, 14, 18, 19, 173, 174, 175, 176, 177, 178, 179, 180, 181, 182, 202, 203, 206, 207, 208, 209, 212, 213, 216] [[], [], [1], [0, 1, 2], [0, 1, 2, 3], [0, 1, 2, 3, 4], [0, 1, 2, 3, 4], [0, 1, 2, 3, 4, 5, 6], [0, 1, 2, 3, 4, 5, 6, 7], [0, 1, 2, 3, 4], [0, 1, 2, 3, 4], [0, 1, 2, 3, 4, 9, 10], [0, 1, 2, 3, 4, 9, 10, 11], [0, 1, 2, 3, 4, 5, 6, 7, 8, 9, 10, 11, 12], [0, 1, 2, 3, 4, 5, 6, 7, 8, 9, 10, 11, 12, 13]]) (.cond (.seq (.reg [6] []) .leaf) .leaf)))) (.reg [13, 14, 18, 19, 173, 174, 175, 176, 177, 178, 179, 180, 181, 202, 203, 206, 207, 208, 209, 212, 213, 216] []))))))) (.seq (.reg [20, 202, 203, 206, 207, 208, 209, 212, 213, 216] []) (.seq (.reg [20, 21, 22, 202, 203, 206, 207, 208, 209, 212, 213, 216] []) (.seq (.reg [20, 21, 22, 23, 24, 202, 203, 206, 207, 208, 209, 212, 213, 216] []) (.seq (.reg [6] []) .leaf))))))))))))))))
def waveletlaw14_CblkOrders_i7 : IC := (.block 7 (.seq (.reg [⟨some 168, .mov (.t 19), none⟩,
 ⟨some 169, .mov (.t 18), none⟩,
 ⟨some 170, .len false (.t 169), none⟩,
 ⟨some 171, .cmp .geq (.t 168) (.t 170), none⟩,
 ⟨some 172, .mov (.t 171), none⟩,
 ⟨some 173, .mov (.t 18), some (172, false)⟩,
 ⟨some 174, .mov (.t 19), some (172, false)⟩,
 ⟨some 175, .ids 1 (.t 173) (.t 174), some (172, false)⟩,
 ⟨some 176, .ld (.sc (.int .i64)) (.t 175), some (172, false)⟩,
 ⟨some 177, .mov (.t 14), some (172, false)⟩,
 ⟨some 178, .mov (.t 19), some (172, false)⟩,
 ⟨some 179, .ids 1 (.t 177) (.t 178), some (172, false)⟩,
 ⟨some 180, .ld (.sc (.int .i64)) (.t 179), some (172, false)⟩,
 ⟨some 181, .cmp .neq (.t 176) (.t 180), some (172, false)⟩,
 ⟨some 182, .pick (.t 172) (.c (Go.Value.bool true)) (.t 181), none⟩] [13, 14, 18, 19, 173, 174, 175, 176, 177, 178, 179, 180, 181, 182, 202, 203, 206, 207, 208, 209, 212, 213, 216]) (.cond (.t 182) (.seq (.reg [⟨some 6, .mov (.c (Go.Value.bool false)), none⟩] [6]) .ret) .skip)))
def waveletlaw14_CblkOrders_i6 : IC := (.seq (.seq (.reg [⟨some 161, .mov (.t 19), none⟩,
 ⟨some 162, .bin .add .i64 (.t 161) (.c (Go.Value.int Go.IntKind.i64 1)), none⟩,
 ⟨some 163, .mov (.t 14), none⟩,
 ⟨some 164, .len false (.t 163), none⟩,
 ⟨some 165, .cmp .lss (.t 162) (.t 164), none⟩] [13, 14, 18, 19, 165, 173, 174, 175, 176, 177, 178, 179, 180, 181, 202, 203, 206, 207, 208, 209, 212, 213, 216]) (.cond (.t 165) .skip (.exit 6))) (.seq (.opq 7 [13, 14, 18, 19] waveletlaw14_CblkOrders_i7) (.reg [⟨some 166, .mov (.t 19), none⟩,
 ⟨some 167, .bin .add .i64 (.t 166) (.c (Go.Value.int Go.IntKind.i64 1)), none⟩,
 ⟨some 19, .mov (.t 167), none⟩] [13, 14, 18, 19, 173, 174, 175, 176, 177, 178, 179, 180, 181, 202, 203, 206, 207, 208, 209, 212, 213, 216])))
def waveletlaw14_CblkOrders_i5 : IC := (.seq (.reg [⟨some 145, .mov (.t 15), none⟩,
 ⟨some 146, .mov (.t 13), none⟩,
 ⟨some 147, .cmp .neq (.t 145) (.t 146), none⟩,
 ⟨some 148, .mov (.t 147), none⟩,
 ⟨some 149, .mov (.t 9), some (148, false)⟩,
 ⟨some 150, .len false (.t 149), some (148, false)⟩,
 ⟨some 151, .mov (.t 7), some (148, false)⟩,
 ⟨some 152, .mov (.t 8), some (148, false)⟩,
 ⟨some 153, .bin .mul .i64 (.t 151) (.t 152), some (148, false)⟩,
 ⟨some 154, .cmp .neq (.t 150) (.t 153), some (148, false)⟩,
 ⟨some 155, .pick (.t 148) (.c (Go.Value.bool true)) (.t 154), none⟩] [5, 13, 14, 155, 173, 174, 175, 176, 177, 178, 179, 180, 181, 202, 203, 206, 207, 208, 209, 212, 213, 216]) (.cond (.t 155) (.seq (.reg [⟨some 6, .mov (.c (Go.Value.bool false)), none⟩] [6]) .ret) .skip))
def waveletlaw14_CblkOrders_i4 : IC := (.seq (.seq (.reg [⟨some 122, .mov (.t 17), none⟩,
 ⟨some 123, .mov (.t 15), none⟩,
 ⟨some 124, .mov (.t 14), none⟩,
 ⟨some 125, .mov (.t 16), none⟩,
 ⟨some 126, .ids 1 (.t 124) (.t 125), none⟩,
 ⟨some 127, .ld (.sc (.int .i64)) (.t 126), none⟩,
 ⟨some 128, .bin .add .i64 (.t 123) (.t 127), none⟩,
 ⟨some 129, .cmp .lss (.t 122) (.t 128), none⟩] [5, 7, 8, 9, 13, 14, 15, 16, 17, 112, 113, 114, 115, 116, 117, 118, 119, 129, 149, 150, 151, 152, 153, 154, 173, 174, 175, 176, 177, 178, 179, 180, 181, 202, 203, 206, 207, 208, 209, 212, 213, 216]) (.cond (.t 129) .skip (.exit 4))) (.seq (.block 5 (.seq (.reg [⟨some 132, .mov (.t 17), none⟩,
 ⟨some 133, .ld (.agg [.bool, .bool, .bool, .bool, .bool]) (.t 5), none⟩,
 ⟨some 134, .calp 17 [(.t 132), (.t 133)] (.one (.sc .bool)), none⟩,
 ⟨some 135, .mov (.t 15), none⟩,
 ⟨some 136, .ld (.agg [.bool, .bool, .bool, .bool, .bool]) (.t 5), none⟩,
 ⟨some 137, .call 17 [(.t 135), (.t 136)] (.one (.sc .bool)), none⟩,
 ⟨some 138, .eqb (.t 134) (.t 137) true, none⟩] [5, 7, 8, 9, 13, 14, 15, 16, 17, 112, 113, 114, 115, 116, 117, 118, 119, 138, 149, 150, 151, 152, 153, 154, 173, 174, 175, 176, 177, 178, 179, 180, 181, 202, 203, 206, 207, 208, 209, 212, 213, 216]) (.cond (.t 138) (.seq (.reg [⟨some 6, .mov (.c (Go.Value.bool false)), none⟩] [6]) .ret) .skip))) (.reg [⟨some 130, .mov (.t 17), none⟩,
 ⟨some 131, .bin .add .i64 (.t 130) (.c (Go.Value.int Go.IntKind.i64 1)), none⟩,
 ⟨some 17, .mov (.t 131), none⟩] [5, 7, 8, 9, 13, 14, 15, 16, 17, 112, 113, 114, 115, 116, 117, 118, 119, 149, 150, 151, 152, 153, 154, 173, 174, 175, 176, 177, 178, 179, 180, 181, 202, 203, 206, 207, 208, 209, 212, 213, 216])))
def waveletlaw14_CblkOrders_i3 : IC := (.seq (.reg [⟨some 106, .mov (.t 14), none⟩,
 ⟨some 107, .mov (.t 16), none⟩,
 ⟨some 108, .ids 1 (.t 106) (.t 107), none⟩,
 ⟨some 109, .ld (.sc (.int .i64)) (.t 108), none⟩,
 ⟨some 110, .cmp .lss (.t 109) (.c (Go.Value.int Go.IntKind.i64 1)), none⟩,
 ⟨some 111, .mov (.t 110), none⟩,
 ⟨some 112, .mov (.t 15), some (111, false)⟩,
 ⟨some 113, .mov (.t 14), some (111, false)⟩,
 ⟨some 114, .mov (.t 16), some (111, false)⟩,
 ⟨some 115, .ids 1 (.t 113) (.t 114), some (111, false)⟩,
 ⟨some 116, .ld (.sc (.int .i64)) (.t 115), some (111, false)⟩,
 ⟨some 117, .bin .add .i64 (.t 112) (.t 116), some (111, false)⟩,
 ⟨some 118, .mov (.t 13), some (111, false)⟩,
 ⟨some 119, .cmp .gtr (.t 117) (.t 118), some (111, false)⟩,
 ⟨some 120, .pick (.t 111) (.c (Go.Value.bool true)) (.t 119), none⟩] [5, 7, 8, 9, 13, 14, 15, 16, 112, 113, 114, 115, 116, 117, 118, 119, 120, 149, 150, 151, 152, 153, 154, 173, 174, 175, 176, 177, 178, 179, 180, 181, 202, 203, 206, 207, 208, 209, 212, 213, 216]) (.cond (.t 120) (.seq (.reg [⟨some 6, .mov (.c (Go.Value.bool false)), none⟩] [6]) .ret) .skip))
def waveletlaw14_CblkOrders_i2 : IC := (.seq (.seq (.reg [⟨some 100, .mov (.t 16), none⟩,
 ⟨some 101, .mov (.t 14), none⟩,
 ⟨some 102, .len false (.t 101), none⟩,
 ⟨some 103, .cmp .lss (.t 100) (.t 102), none⟩] [5, 7, 8, 9, 13, 14, 15, 16, 103, 112, 113, 114, 115, 116, 117, 118, 119, 149, 150, 151, 152, 153, 154, 173, 174, 175, 176, 177, 178, 179, 180, 181, 202, 203, 206, 207, 208, 209, 212, 213, 216]) (.cond (.t 103) .skip (.exit 2))) (.seq (.block 3 (.seq (.opq 3 [5, 7, 8, 9, 13, 14, 15, 16] waveletlaw14_CblkOrders_i3) (.seq (.seq (.reg [⟨some 121, .mov (.t 15), none⟩,
 ⟨some 17, .mov (.t 121), none⟩] [5, 7, 8, 9, 13, 14, 15, 16, 17, 112, 113, 114, 115, 116, 117, 118, 119, 149, 150, 151, 152, 153, 154, 173, 174, 175, 176, 177, 178, 179, 180, 181, 202, 203, 206, 207, 208, 209, 212, 213, 216]) (.block 4 (.opq 4 [5, 7, 8, 9, 13, 14, 15, 16, 17, 112, 113, 114, 115, 116, 117, 118, 119] (.loop waveletlaw14_CblkOrders_i4)))) (.reg [⟨some 139, .mov (.t 15), none⟩,
 ⟨some 140, .mov (.t 14), none⟩,
 ⟨some 141, .mov (.t 16), none⟩,
 ⟨some 142, .ids 1 (.t 140) (.t 141), none⟩,
 ⟨some 143, .ld (.sc (.int .i64)) (.t 142), none⟩,
 ⟨some 144, .bin .add .i64 (.t 139) (.t 143), none⟩,
 ⟨some 15, .mov (.t 144), none⟩] [5, 7, 8, 9, 13, 14, 15, 16, 112, 113, 114, 115, 116, 117, 118, 119, 149, 150, 151, 152, 153, 154, 173, 174, 175, 176, 177, 178, 179, 180, 181, 202, 203, 206, 207, 208, 209, 212, 213, 216])))) (.reg [⟨some 104, .mov (.t 16), none⟩,
 ⟨some 105, .bin .add .i64 (.t 104) (.c (Go.Value.int Go.IntKind.i64 1)), none⟩,
 ⟨some 16, .mov (.t 105), none⟩] [5, 7, 8, 9, 13, 14, 15, 16, 112, 113, 114, 115, 116, 117, 118, 119, 149, 150, 151, 152, 153, 154, 173, 174, 175, 176, 177, 178, 179, 180, 181, 202, 203, 206, 207, 208, 209, 212, 213, 216])))
def waveletlaw14_CblkOrders_i1 : IC := (.seq (.reg [⟨some 52, .fad 0 (.t 12), none⟩,
 ⟨some 53, .ld (.sc (.int .i64)) (.t 52), none⟩,
 ⟨some 54, .cmp .lss (.t 53) (.c (Go.Value.int Go.IntKind.i64 0)), none⟩,
 ⟨some 55, .mov (.t 54), none⟩,
 ⟨some 56, .fad 0 (.t 12), some (55, false)⟩,
 ⟨some 57, .ld (.sc (.int .i64)) (.t 56), some (55, false)⟩,
 ⟨some 58, .mov (.t 7), some (55, false)⟩,
 ⟨some 59, .cmp .geq (.t 57) (.t 58), some (55, false)⟩,
 ⟨some 60, .pick (.t 55) (.c (Go.Value.bool true)) (.t 59), none⟩,
 ⟨some 61, .mov (.t 60), none⟩,
 ⟨some 62, .fad 1 (.t 12), some (61, false)⟩,
 ⟨some 63, .ld (.sc (.int .i64)) (.t 62), some (61, false)⟩,
 ⟨some 64, .cmp .lss (.t 63) (.c (Go.Value.int Go.IntKind.i64 0)), some (61, false)⟩,
 ⟨some 65, .pick (.t 61) (.c (Go.Value.bool true)) (.t 64), none⟩,
 ⟨some 66, .mov (.t 65), none⟩,
 ⟨some 67, .fad 1 (.t 12), some (66, false)⟩,
 ⟨some 68, .ld (.sc (.int .i64)) (.t 67), some (66, false)⟩,
 ⟨some 69, .mov (.t 8), some (66, false)⟩,
 ⟨some 70, .cmp .geq (.t 68) (.t 69), some (66, false)⟩,
 ⟨some 71, .pick (.t 66) (.c (Go.Value.bool true)) (.t 70), none⟩,
 ⟨some 72, .mov (.t 71), none⟩,
 ⟨some 73, .mov (.t 10), some (72, false)⟩,
 ⟨some 74, .fad 1 (.t 12), some (72, false)⟩,
 ⟨some 75, .ld (.sc (.int .i64)) (.t 74), some (72, false)⟩,
 ⟨some 76, .mov (.t 7), some (72, false)⟩,
 ⟨some 77, .bin .mul .i64 (.t 75) (.t 76), some (72, false)⟩,
 ⟨some 78, .fad 0 (.t 12), some (72, false)⟩,
 ⟨some 79, .ld (.sc (.int .i64)) (.t 78), some (72, false)⟩,
 ⟨some 80, .bin .add .i64 (.t 77) (.t 79), some (72, false)⟩,
 ⟨some 81, .ids 1 (.t 73) (.t 80), some (72, false)⟩,
 ⟨some 82, .ld (.sc .bool) (.t 81), some (72, false)⟩,
 ⟨some 83, .pick (.t 72) (.c (Go.Value.bool true)) (.t 82), none⟩] [1, 5, 7, 8, 9, 10, 11, 12, 56, 57, 58, 59, 62, 63, 64, 67, 68, 69, 70, 73, 74, 75, 76, 77, 78, 79, 80, 81, 82, 83, 112, 113, 114, 115, 116, 117, 118, 119, 149, 150, 151, 152, 153, 154, 173, 174, 175, 176, 177, 178, 179, 180, 181, 202, 203, 206, 207, 208, 209, 212, 213, 216]) (.cond (.t 83) (.seq (.reg [⟨some 6, .mov (.c (Go.Value.bool false)), none⟩] [6]) .ret) .skip))
def waveletlaw14_CblkOrders_i0 : IC := (.seq (.seq (.reg [⟨some 42, .mov (.t 11), none⟩,
 ⟨some 43, .mov (.t 9), none⟩,
 ⟨some 44, .len false (.t 43), none⟩,
 ⟨some 45, .cmp .lss (.t 42) (.t 44), none⟩] [1, 5, 7, 8, 9, 10, 11, 45, 56, 57, 58, 59, 62, 63, 64, 67, 68, 69, 70, 73, 74, 75, 76, 77, 78, 79, 80, 81, 82, 112, 113, 114, 115, 116, 117, 118, 119, 149, 150, 151, 152, 153, 154, 173, 174, 175, 176, 177, 178, 179, 180, 181, 202, 203, 206, 207, 208, 209, 212, 213, 216]) (.cond (.t 45) .skip (.exit 0))) (.seq (.block 1 (.seq (.reg [⟨some 48, .mov (.t 9), none⟩,
 ⟨some 49, .mov (.t 11), none⟩,
 ⟨some 50, .ids 2 (.t 48) (.t 49), none⟩,
 ⟨some 51, .ld (.agg [(.int .i64), (.int .i64)]) (.t 50), none⟩,
 ⟨some 12, .alc [.int .i64 0, .int .i64 0], none⟩,
 ⟨none, .st 2 (.t 12) (.t 51), none⟩] [1, 5, 7, 8, 9, 10, 11, 12, 56, 57, 58, 59, 62, 63, 64, 67, 68, 69, 70, 73, 74, 75, 76, 77, 78, 79, 80, 81, 82, 112, 113, 114, 115, 116, 117, 118, 119, 149, 150, 151, 152, 153, 154, 173, 174, 175, 176, 177, 178, 179, 180, 181, 202, 203, 206, 207, 208, 209, 212, 213, 216]) (.seq (.opq 1 [1, 5, 7, 8, 9, 10, 11, 12] waveletlaw14_CblkOrders_i1) (.reg [⟨some 84, .mov (.t 10), none⟩,
 ⟨some 85, .fad 1 (.t 12), none⟩,
 ⟨some 86, .ld (.sc (.int .i64)) (.t 85), none⟩,
 ⟨some 87, .mov (.t 7), none⟩,
 ⟨some 88, .bin .mul .i64 (.t 86) (.t 87), none⟩,
 ⟨some 89, .fad 0 (.t 12), none⟩,
 ⟨some 90, .ld (.sc (.int .i64)) (.t 89), none⟩,
 ⟨some 91, .bin .add .i64 (.t 88) (.t 90), none⟩,
 ⟨some 92, .ids 1 (.t 84) (.t 91), none⟩,
 ⟨none, .st 1 (.t 92) (.c (Go.Value.bool true)), none⟩] [1, 5, 7, 8, 9, 10, 11, 56, 57, 58, 59, 62, 63, 64, 67, 68, 69, 70, 73, 74, 75, 76, 77, 78, 79, 80, 81, 82, 112, 113, 114, 115, 116, 117, 118, 119, 149, 150, 151, 152, 153, 154, 173, 174, 175, 176, 177, 178, 179, 180, 181, 202, 203, 206, 207, 208, 209, 212, 213, 216])))) (.reg [⟨some 46, .mov (.t 11), none⟩,
 ⟨some 47, .bin .add .i64 (.t 46) (.c (Go.Value.int Go.IntKind.i64 1)), none⟩,
 ⟨some 11, .mov (.t 47), none⟩] [1, 5, 7, 8, 9, 10, 11, 56, 57, 58, 59, 62, 63, 64, 67, 68, 69, 70, 73, 74, 75, 76, 77, 78, 79, 80, 81, 82, 112, 113, 114, 115, 116, 117, 118, 119, 149, 150, 151, 152, 153, 154, 173, 174, 175, 176, 177, 178, 179, 180, 181, 202, 203, 206, 207, 208, 209, 212, 213, 216])))
def waveletlaw14_CblkOrders_f : IFn := ⟨218, [.t 6], (.seq (.reg [⟨some 3, .box (.t 0), none⟩,
 ⟨some 5, .box (.t 2), none⟩,
 ⟨some 6, .mov (.c (Go.Value.bool false)), none⟩] [1, 3, 5, 56, 57, 58, 59, 62, 63, 64, 67, 68, 69, 70, 73, 74, 75, 76, 77, 78, 79, 80, 81, 82, 112, 113, 114, 115, 116, 117, 118, 119, 149, 150, 151, 152, 153, 154, 173, 174, 175, 176, 177, 178, 179, 180, 181, 202, 203, 206, 207, 208, 209, 212, 213, 216]) (.seq (.reg [⟨some 25, .ida 2 1 (.t 3) (.c (Go.Value.int Go.IntKind.i64 0)), none⟩,
 ⟨some 26, .ld (.sc (.int .u8)) (.t 25), none⟩,
 ⟨some 27, .cnv .i64 (.t 26), none⟩,
 ⟨some 28, .bin .rem .i64 (.t 27) (.c (Go.Value.int Go.IntKind.i64 64)), none⟩,
 ⟨some 29, .bin .add .i64 (.t 28) (.c (Go.Value.int Go.IntKind.i64 1)), none⟩,
 ⟨some 30, .ida 2 1 (.t 3) (.c (Go.Value.int Go.IntKind.i64 1)), none⟩,
 ⟨some 31, .ld (.sc (.int .u8)) (.t 30), none⟩,
 ⟨some 32, .cnv .i64 (.t 31), none⟩,
 ⟨some 33, .bin .rem .i64 (.t 32) (.c (Go.Value.int Go.IntKind.i64 64)), none⟩,
 ⟨some 34, .bin .add .i64 (.t 33) (.c (Go.Value.int Go.IntKind.i64 1)), none⟩,
 ⟨some 7, .mov (.t 29), none⟩,
 ⟨some 8, .mov (.t 34), none⟩] [1, 5, 7, 8, 56, 57, 58, 59, 62, 63, 64, 67, 68, 69, 70, 73, 74, 75, 76, 77, 78, 79, 80, 81, 82, 112, 113, 114, 115, 116, 117, 118, 119, 149, 150, 151, 152, 153, 154, 173, 174, 175, 176, 177, 178, 179, 180, 181, 202, 203, 206, 207, 208, 209, 212, 213, 216]) (.seq (.reg [⟨some 35, .mov (.t 7), none⟩,
 ⟨some 36, .mov (.t 8), none⟩,
 ⟨some 37, .call 12 [(.t 35), (.t 36)] (.one (.sc .slc)), none⟩,
 ⟨some 9, .mov (.t 37), none⟩] [1, 5, 7, 8, 9, 56, 57, 58, 59, 62, 63, 64, 67, 68, 69, 70, 73, 74, 75, 76, 77, 78, 79, 80, 81, 82, 112, 113, 114, 115, 116, 117, 118, 119, 149, 150, 151, 152, 153, 154, 173, 174, 175, 176, 177, 178, 179, 180, 181, 202, 203, 206, 207, 208, 209, 212, 213, 216]) (.seq (.reg [⟨some 38, .mov (.t 7), none⟩,
 ⟨some 39, .mov (.t 8), none⟩,
 ⟨some 40, .bin .mul .i64 (.t 38) (.t 39), none⟩,
 ⟨some 41, .mks [.bool false] 1 (.t 40) (.t 40), none⟩,
 ⟨some 10, .mov (.t 41), none⟩] [1, 5, 7, 8, 9, 10, 56, 57, 58, 59, 62, 63, 64, 67, 68, 69, 70, 73, 74, 75, 76, 77, 78, 79, 80, 81, 82, 112, 113, 114, 115, 116, 117, 118, 119, 149, 150, 151, 152, 153, 154, 173, 174, 175, 176, 177, 178, 179, 180, 181, 202, 203, 206, 207, 208, 209, 212, 213, 216]) (.seq (.seq (.reg [⟨some 11, .mov (.c (Go.Value.int Go.IntKind.i64 0)), none⟩] [1, 5, 7, 8, 9, 10, 11, 56, 57, 58, 59, 62, 63, 64, 67, 68, 69, 70, 73, 74, 75, 76, 77, 78, 79, 80, 81, 82, 112, 113, 114, 115, 116, 117, 118, 119, 149, 150, 151, 152, 153, 154, 173, 174, 175, 176, 177, 178, 179, 180, 181, 202, 203, 206, 207, 208, 209, 212, 213, 216]) (.block 0 (.opq 0 [1, 5, 7, 8, 9, 10, 11] (.loop waveletlaw14_CblkOrders_i0)))) (.seq (.reg [⟨some 93, .mov (.t 1), none⟩,
 ⟨some 94, .cnv .i64 (.t 93), none⟩,
 ⟨some 95, .bin .rem .i64 (.t 94) (.c (Go.Value.int Go.IntKind.i64 178)), none⟩,
 ⟨some 96, .bin .add .i64 (.t 95) (.c (Go.Value.int Go.IntKind.i64 1)), none⟩,
 ⟨some 13, .mov (.t 96), none⟩] [5, 7, 8, 9, 13, 112, 113, 114, 115, 116, 117, 118, 119, 149, 150, 151, 152, 153, 154, 173, 174, 175, 176, 177, 178, 179, 180, 181, 202, 203, 206, 207, 208, 209, 212, 213, 216]) (.seq (.reg [⟨some 97, .mov (.t 13), none⟩,
 ⟨some 98, .ld (.agg [.bool, .bool, .bool, .bool, .bool]) (.t 5), none⟩,
 ⟨some 99, .call 20 [(.t 97), (.t 98)] (.one (.sc .slc)), none⟩,
 ⟨some 14, .mov (.t 99), none⟩] [5, 7, 8, 9, 13, 14, 112, 113, 114, 115, 116, 117, 118, 119, 149, 150, 151, 152, 153, 154, 173, 174, 175, 176, 177, 178, 179, 180, 181, 202, 203, 206, 207, 208, 209, 212, 213, 216]) (.seq (.reg [⟨some 15, .mov (.c (Go.Value.int Go.IntKind.i64 0)), none⟩] [5, 7, 8, 9, 13, 14, 15, 112, 113, 114, 115, 116, 117, 118, 119, 149, 150, 151, 152, 153, 154, 173, 174, 175, 176, 177, 178, 179, 180, 181, 202, 203, 206, 207, 208, 209, 212, 213, 216]) (.seq (.seq (.reg [⟨some 16, .mov (.c (Go.Value.int Go.IntKind.i64 0)), none⟩] [5, 7, 8, 9, 13, 14, 15, 16, 112, 113, 114, 115, 116, 117, 118, 119, 149, 150, 151, 152, 153, 154, 173, 174, 175, 176, 177, 178, 179, 180, 181, 202, 203, 206, 207, 208, 209, 212, 213, 216]) (.block 2 (.opq 2 [5, 7, 8, 9, 13, 14, 15, 16] (.loop waveletlaw14_CblkOrders_i2)))) (.seq (.opq 5 [5, 7, 8, 9, 13, 14, 15] waveletlaw14_CblkOrders_i5) (.seq (.reg [⟨some 156, .mov (.t 13), none⟩,
 ⟨some 157, .bin .add .i64 (.t 156) (.c (Go.Value.int Go.IntKind.i64 1)), none⟩,
 ⟨some 158, .mn (.t 157) (.c (Go.Value.int Go.IntKind.i64 178)), none⟩,
 ⟨some 159, .ld (.agg [.bool, .bool, .bool, .bool, .bool]) (.t 5), none⟩,
 ⟨some 160, .call 20 [(.t 158), (.t 159)] (.one (.sc .slc)), none⟩,
 ⟨some 18, .mov (.t 160), none⟩] [13, 14, 18, 173, 174, 175, 176, 177, 178, 179, 180, 181, 202, 203, 206, 207, 208, 209, 212, 213, 216]) (.seq (.seq (.reg [⟨some 19, .mov (.c (Go.Value.int Go.IntKind.i64 0)), none⟩] [13, 14, 18, 19, 173, 174, 175, 176, 177, 178, 179, 180, 181, 202, 203, 206, 207, 208, 209, 212, 213, 216]) (.block 6 (.opq 6 [13, 14, 18, 19] (.loop waveletlaw14_CblkOrders_i6)))) (.seq (.reg [⟨some 183, .mov (.t 13), none⟩,
 ⟨some 184, .bin .rem .i64 (.t 183) (.c (Go.Value.int Go.IntKind.i64 60)), none⟩,
 ⟨some 20, .mov (.t 184), none⟩] [20, 202, 203, 206, 207, 208, 209, 212, 213, 216]) (.seq (.reg [⟨some 186, .mov (.t 20), none⟩,
 ⟨some 187, .bin .mul .i64 (.c (Go.Value.int Go.IntKind.i64 3)) (.t 186), none⟩,
 ⟨some 188, .call 15 [(.t 187)] (.tup [(.sc (.int .i64)), (.sc (.int .i64))]), none⟩,
 ⟨some 185, .mov (.t 188), none⟩,
 ⟨some 189, .ext 0 (.t 185), none⟩,
 ⟨some 190, .ext 1 (.t 185), none⟩,
 ⟨some 21, .mov (.t 189), none⟩,
 ⟨some 22, .mov (.t 190), none⟩] [20, 21, 22, 202, 203, 206, 207, 208, 209, 212, 213, 216]) (.seq (.reg [⟨some 192, .mov (.t 20), none⟩,
 ⟨some 193, .bin .mul .i64 (.c (Go.Value.int Go.IntKind.i64 3)) (.t 192), none⟩,
 ⟨some 194, .bin .add .i64 (.t 193) (.c (Go.Value.int Go.IntKind.i64 1)), none⟩,
 ⟨some 195, .call 15 [(.t 194)] (.tup [(.sc (.int .i64)), (.sc (.int .i64))]), none⟩,
 ⟨some 191, .mov (.t 195), none⟩,
 ⟨some 196, .ext 0 (.t 191), none⟩,
 ⟨some 197, .ext 1 (.t 191), none⟩,
 ⟨some 23, .mov (.t 196), none⟩,
 ⟨some 24, .mov (.t 197), none⟩] [20, 21, 22, 23, 24, 202, 203, 206, 207, 208, 209, 212, 213, 216]) (.seq (.reg [⟨some 198, .mov (.t 21), none⟩,
 ⟨some 199, .mov (.t 20), none⟩,
 ⟨some 200, .cmp .eql (.t 198) (.t 199), none⟩,
 ⟨some 201, .mov (.t 200), none⟩,
 ⟨some 202, .mov (.t 22), some (201, true)⟩,
 ⟨some 203, .cmp .eql (.t 202) (.c (Go.Value.int Go.IntKind.i64 2)), some (201, true)⟩,
 ⟨some 204, .pick (.t 201) (.t 203) (.c (Go.Value.bool false)), none⟩,
 ⟨some 205, .mov (.t 204), none⟩,
 ⟨some 206, .mov (.t 23), some (205, true)⟩,
 ⟨some 207, .mov (.t 20), some (205, true)⟩,
 ⟨some 208, .bin .add .i64 (.t 207) (.c (Go.Value.int Go.IntKind.i64 1)), some (205, true)⟩,
 ⟨some 209, .cmp .eql (.t 206) (.t 208), some (205, true)⟩,
 ⟨some 210, .pick (.t 205) (.t 209) (.c (Go.Value.bool false)), none⟩,
 ⟨some 211, .mov (.t 210), none⟩,
 ⟨some 212, .mov (.t 24), some (211, true)⟩,
 ⟨some 213, .cmp .eql (.t 212) (.c (Go.Value.int Go.IntKind.i64 0)), some (211, true)⟩,
 ⟨some 214, .pick (.t 211) (.t 213) (.c (Go.Value.bool false)), none⟩,
 ⟨some 215, .mov (.t 214), none⟩,
 ⟨some 216, .call 14 [] (.one (.sc .bool)), some (215, true)⟩,
 ⟨some 217, .pick (.t 215) (.t 216) (.c (Go.Value.bool false)), none⟩,
 ⟨some 6, .mov (.t 217), none⟩] [6]) .ret))))))))))))))))⟩
theorem waveletlaw14_CblkOrders_e7 {R : Type} (cblk_Scan : Int → Int → Heap → (Option Addr → Nat → Nat → Heap → Option R) → Option R) (cblk_Segments : Int → Bool → Bool → Bool → Bool → Bool → Heap → (Option Addr → Nat → Nat → Heap → Option R) → Option R) (cblk_Raw : Int → Bool → Bool → Bool → Bool → Bool → Heap → (Bool → Heap → Option R) → Option R) (cblk_Pass : Int → (Int → Int → Option R) → Option R) (waveletlaw14_exampleHoldsq : (Bool → Option R) → Option R) (waveletlaw14_CblkOrders_l0 : (Int → Option Addr → Int → Int → Option Addr → Nat → Nat → Heap → Option R) → (Bool → Heap → Option R) → Nat → Int → Option Addr → Int → Int → Option Addr → Nat → Nat → Option Addr → Nat → Nat → Int → Heap → Option R) (waveletlaw14_CblkOrders_p1 : Int → Option Addr → Int → Int → Option Addr → Nat → Nat → Option Addr → Nat → Nat → Int → Option Addr → Heap → (Int → Option Addr → Int → Int → Option Addr → Nat → Nat → Option Addr → Nat → Nat → Int → Option Addr → Option Addr → Int → Int → Bool → Option Addr → Int → Bool → Option Addr → Int → Int → Bool → Option Addr → Nat → Nat → Option Addr → Int → Int → Int → Option Addr → Int → Int → Option Addr → Bool → Option R) → (Bool → Option R) → Option R) (waveletlaw14_CblkOrders_l2 : (Option Addr → Int → Int → Option Addr → Nat → Nat → Int → Option Addr → Nat → Nat → Int → Heap → Option R) → (Bool → Heap → Option R) → Nat → Option Addr → Int → Int → Option Addr → Nat → Nat → Int → Option Addr → Nat → Nat → Int → Int → Heap → Option R) (waveletlaw14_CblkOrders_p3 : Option Addr → Int → Int → Option Addr → Nat → Nat → Int → Option Addr → Nat → Nat → Int → Int → Heap → (Option Addr → Int → Int → Option Addr → Nat → Nat → Int → Option Addr → Nat → Nat → Int → Int → Int → Option Addr → Nat → Nat → Int → Option Addr → Int → Int → Int → Bool → Option R) → (Bool → Option R) → Option R) (waveletlaw14_CblkOrders_l4 : (Option Addr → Int → Int → Option Addr → Nat → Nat → Int → Option Addr → Nat → Nat → Int → Int → Int → Option Addr → Nat → Nat → Int → Option Addr → Int → Int → Int → Bool → Heap → Option R) → (Bool → Heap → Option R) → Nat → Option Addr → Int → Int → Option Addr → Nat → Nat → Int → Option Addr → Nat → Nat → Int → Int → Int → Int → Option Addr → Nat → Nat → Int → Option Addr → Int → Int → Int → Bool → Heap → Option R) (waveletlaw14_CblkOrders_p5 : Option Addr → Int → Int → Option Addr → Nat → Nat → Int → Option Addr → Nat → Nat → Int → (Option Addr → Int → Option Addr → Nat → Nat → Option R) → (Bool → Option R) → Option R) (waveletlaw14_CblkOrders_l6 : (Int → Option R) → (Bool → Option R) → Nat → Int → Option Addr → Nat → Nat → Option Addr → Nat → Nat → Int → Heap → Option R) (waveletlaw14_CblkOrders_p7 : Int → Option Addr → Nat → Nat → Option Addr → Nat → Nat → Int → Heap → (Int → Option Addr → Nat → Nat → Option Addr → Nat → Nat → Int → Option Addr → Nat → Nat → Int → Option Addr → Int → Option Addr → Nat → Nat → Int → Option Addr → Int → Bool → Option R) → (Bool → Option R) → Option R) (k : Nat) (n457 : Int) (q458 : Option Addr) (l459 : Nat) (c460 : Nat) (q461 : Option Addr) (l462 : Nat) (c463 : Nat) (n464 : Int) (H : Heap) (K : Xit → Env → Heap → Option R) : evJ (waveletlaw14_CblkOrders_Ct cblk_Scan cblk_Segments cblk_Raw cblk_Pass waveletlaw14_exampleHoldsq) (waveletlaw14_CblkOrders_Jt k waveletlaw14_CblkOrders_l0 waveletlaw14_CblkOrders_p1 waveletlaw14_CblkOrders_l2 waveletlaw14_CblkOrders_p3 waveletlaw14_CblkOrders_l4 waveletlaw14_CblkOrders_p5 waveletlaw14_CblkOrders_l6 waveletlaw14_CblkOrders_p7) waveletlaw14_CblkOrders_i7 (List.zip [13, 14, 18, 19] [.int .i64 n457, .slice q458 l459 c460, .slice q461 l462 c463, .int .i64 n464]) H (fun x e' H' => K x (clean e' ((⟨[13, 14, 18, 19, 173, 174, 175, 176, 177, 178, 179, 180, 181], [], [6]⟩ : Out).of x)) H') = waveletlaw14_CblkOrders_p7_b k n457 q458 l459 c460 q461 l462 c463 n464 H (fun n1620 q1621 l1622 c1623 q1624 l1625 c1626 n1627 q1628 l1629 c1630 n1631 p1632 n1633 q1634 l1635 c1636 n1637 p1638 n1639 t1640 => K .normal [(13, .int .i64 n1620), (14, .slice q1621 l1622 c1623), (18, .slice q1624 l1625 c1626), (19, .int .i64 n1627), (173, .slice q1628 l1629 c1630), (174, .int .i64 n1631), (175, .pointer p1632), (176, .int .i64 n1633), (177, .slice q1634 l1635 c1636), (178, .int .i64 n1637), (179, .pointer p1638), (180, .int .i64 n1639), (181, .bool t1640)] H) (fun t1641 => K .ret [(6, .bool t1641)] H) := by kernel_rfl
theorem waveletlaw14_CblkOrders_j7 {R : Type} (k : Nat) : JS Try.prog 218 (waveletlaw14_CblkOrders_a7 R k k) [13, 14, 18, 19] ⟨[13, 14, 18, 19, 173, 174, 175, 176, 177, 178, 179, 180, 181], [], [6]⟩ (sel [1, 1, 1, 1, 1, 1, 1, 1, 1, 1, 1, 0, 1, 0, 0, 1, 0] (Try.f5.body.getD .skip)) :=
  piece_ok (nt := 218) (c := (sel [1, 1, 1, 1, 1, 1, 1, 1, 1, 1, 1, 0, 1, 0, 0, 1, 0] (Try.f5.body.getD .skip))) (C := waveletlaw14_CblkOrders_C R k) (an := An) (t := (.node (.seq (.reg [13, 14, 18, 19, 173, 174, 175, 176, 177, 178, 179, 180, 181, 182, 202, 203, 206, 207, 208, 209, 212, 213, 216] [[], [], [1], [0, 1, 2], [0, 1, 2, 3], [0, 1, 2, 3, 4], [0, 1, 2, 3, 4], [0, 1, 2, 3, 4, 5, 6], [0, 1, 2, 3, 4, 5, 6, 7], [0, 1, 2, 3, 4], [0, 1, 2, 3, 4], [0, 1, 2, 3, 4, 9, 10], [0, 1, 2, 3, 4, 9, 10, 11], [0, 1, 2, 3, 4, 5, 6, 7, 8, 9, 10, 11, 12], [0, 1, 2, 3, 4, 5, 6, 7, 8, 9, 10, 11, 12, 13]]) (.cond (.seq (.reg [6] []) .leaf) .leaf)))) (ic := waveletlaw14_CblkOrders_i7) (waveletlaw14_CblkOrders_S R k) (waveletlaw14_CblkOrders_J R k) (by kernel_rfl) (And.intro True.intro (And.intro (And.intro True.intro True.intro) True.intro)) (waveletlaw14_CblkOrders_a7 R k k)
    (fun vals H K r h => by
      unfold waveletlaw14_CblkOrders_a7 waveletlaw14_CblkOrders_aa7 at h
      split at h <;> first | (cases h; done) | exact Eq.trans (waveletlaw14_CblkOrders_e7 (cblk_Scan k) (cblk_Segments k) (cblk_Raw k) cblk_Pass waveletlaw14_exampleHoldsq (waveletlaw14_CblkOrders_l0 k) (waveletlaw14_CblkOrders_p1 k) (waveletlaw14_CblkOrders_l2 k) (waveletlaw14_CblkOrders_p3 k) (waveletlaw14_CblkOrders_l4 k) (waveletlaw14_CblkOrders_p5 k) (waveletlaw14_CblkOrders_l6 k) (waveletlaw14_CblkOrders_p7 k) k _ _ _ _ _ _ _ _ H K) h)
theorem waveletlaw14_CblkOrders_e6 {R : Type} (cblk_Scan : Int → Int → Heap → (Option Addr → Nat → Nat → Heap → Option R) → Option R) (cblk_Segments : Int → Bool → Bool → Bool → Bool → Bool → Heap → (Option Addr → Nat → Nat → Heap → Option R) → Option R) (cblk_Raw : Int → Bool → Bool → Bool → Bool → Bool → Heap → (Bool → Heap → Option R) → Option R) (cblk_Pass : Int → (Int → Int → Option R) → Option R) (waveletlaw14_exampleHoldsq : (Bool → Option R) → Option R) (waveletlaw14_CblkOrders_l0 : (Int → Option Addr → Int → Int → Option Addr → Nat → Nat → Heap → Option R) → (Bool → Heap → Option R) → Nat → Int → Option Addr → Int → Int → Option Addr → Nat → Nat → Option Addr → Nat → Nat → Int → Heap → Option R) (waveletlaw14_CblkOrders_p1 : Int → Option Addr → Int → Int → Option Addr → Nat → Nat → Option Addr → Nat → Nat → Int → Option Addr → Heap → (Int → Option Addr → Int → Int → Option Addr → Nat → Nat → Option Addr → Nat → Nat → Int → Option Addr → Option Addr → Int → Int → Bool → Option Addr → Int → Bool → Option Addr → Int → Int → Bool → Option Addr → Nat → Nat → Option Addr → Int → Int → Int → Option Addr → Int → Int → Option Addr → Bool → Option R) → (Bool → Option R) → Option R) (waveletlaw14_CblkOrders_l2 : (Option Addr → Int → Int → Option Addr → Nat → Nat → Int → Option Addr → Nat → Nat → Int → Heap → Option R) → (Bool → Heap → Option R) → Nat → Option Addr → Int → Int → Option Addr → Nat → Nat → Int → Option Addr → Nat → Nat → Int → Int → Heap → Option R) (waveletlaw14_CblkOrders_p3 : Option Addr → Int → Int → Option Addr → Nat → Nat → Int → Option Addr → Nat → Nat → Int → Int → Heap → (Option Addr → Int → Int → Option Addr → Nat → Nat → Int → Option Addr → Nat → Nat → Int → Int → Int → Option Addr → Nat → Nat → Int → Option Addr → Int → Int → Int → Bool → Option R) → (Bool → Option R) → Option R) (waveletlaw14_CblkOrders_l4 : (Option Addr → Int → Int → Option Addr → Nat → Nat → Int → Option Addr → Nat → Nat → Int → Int → Int → Option Addr → Nat → Nat → Int → Option Addr → Int → Int → Int → Bool → Heap → Option R) → (Bool → Heap → Option R) → Nat → Option Addr → Int → Int → Option Addr → Nat → Nat → Int → Option Addr → Nat → Nat → Int → Int → Int → Int → Option Addr → Nat → Nat → Int → Option Addr → Int → Int → Int → Bool → Heap → Option R) (waveletlaw14_CblkOrders_p5 : Option Addr → Int → Int → Option Addr → Nat → Nat → Int → Option Addr → Nat → Nat → Int → (Option Addr → Int → Option Addr → Nat → Nat → Option R) → (Bool → Option R) → Option R) (waveletlaw14_CblkOrders_l6 : (Int → Option R) → (Bool → Option R) → Nat → Int → Option Addr → Nat → Nat → Option Addr → Nat → Nat → Int → Heap → Option R) (waveletlaw14_CblkOrders_p7 : Int → Option Addr → Nat → Nat → Option Addr → Nat → Nat → Int → Heap → (Int → Option Addr → Nat → Nat → Option Addr → Nat → Nat → Int → Option Addr → Nat → Nat → Int → Option Addr → Int → Option Addr → Nat → Nat → Int → Option Addr → Int → Bool → Option R) → (Bool → Option R) → Option R) (k n : Nat) (n449 : Int) (q450 : Option Addr) (l451 : Nat) (c452 : Nat) (q453 : Option Addr) (l454 : Nat) (c455 : Nat) (n456 : Int) (H : Heap) (K : Xit → Env → Heap → Option R) : evJ (waveletlaw14_CblkOrders_Ct cblk_Scan cblk_Segments cblk_Raw cblk_Pass waveletlaw14_exampleHoldsq) (waveletlaw14_CblkOrders_Jt k waveletlaw14_CblkOrders_l0 waveletlaw14_CblkOrders_p1 waveletlaw14_CblkOrders_l2 waveletlaw14_CblkOrders_p3 waveletlaw14_CblkOrders_l4 waveletlaw14_CblkOrders_p5 waveletlaw14_CblkOrders_l6 waveletlaw14_CblkOrders_p7) waveletlaw14_CblkOrders_i6 (List.zip [13, 14, 18, 19] [.int .i64 n449, .slice q450 l451 c452, .slice q453 l454 c455, .int .i64 n456]) H (fun x e' H' => match x with | .normal => waveletlaw14_CblkOrders_aa6 waveletlaw14_CblkOrders_l6 n ((clean e' [13, 14, 18, 19]).map (·.2)) H' K | x => K x (clean e' ((⟨[], [(6, [13])], [6]⟩ : Out).of x)) H') = waveletlaw14_CblkOrders_l6_b waveletlaw14_CblkOrders_p7 (waveletlaw14_CblkOrders_l6 (fun n1618 => K (.exit 6) [(13, .int .i64 n1618)] H) (fun t1619 => K .ret [(6, .bool t1619)] H) n) (fun n1618 => K (.exit 6) [(13, .int .i64 n1618)] H) (fun t1619 => K .ret [(6, .bool t1619)] H) k n449 q450 l451 c452 q453 l454 c455 n456 H := by kernel_rfl
theorem waveletlaw14_CblkOrders_j6 {R : Type} (k : Nat) : JS Try.prog 218 (waveletlaw14_CblkOrders_a6 R k k) [13, 14, 18, 19] ⟨[], [(6, [13])], [6]⟩ (.loop (sel [1, 1, 1, 1, 1, 1, 1, 1, 1, 1, 1, 0, 1, 0, 0] (Try.f5.body.getD .skip))) :=
  loop_ok (nt := 218) (c := (sel [1, 1, 1, 1, 1, 1, 1, 1, 1, 1, 1, 0, 1, 0, 0] (Try.f5.body.getD .skip))) (C := waveletlaw14_CblkOrders_C R k) (an := An) (t := (.seq (.seq (.reg [13, 14, 18, 19, 165, 173, 174, 175, 176, 177, 178, 179, 180, 181, 202, 203, 206, 207, 208, 209, 212, 213, 216] []) (.cond .leaf .leaf)) (.seq (.opq 7 [13, 14, 18, 19] ⟨[13, 14, 18, 19, 173, 174, 175, 176, 177, 178, 179, 180, 181], [], [6]⟩ (.node (.seq (.reg [13, 14, 18, 19, 173, 174, 175, 176, 177, 178, 179, 180, 181, 182, 202, 203, 206, 207, 208, 209, 212, 213, 216] [[], [], [1], [0, 1, 2], [0, 1, 2, 3], [0, 1, 2, 3, 4], [0, 1, 2, 3, 4], [0, 1, 2, 3, 4, 5, 6], [0, 1, 2, 3, 4, 5, 6, 7], [0, 1, 2, 3, 4], [0, 1, 2, 3, 4], [0, 1, 2, 3, 4, 9, 10], [0, 1, 2, 3, 4, 9, 10, 11], [0, 1, 2, 3, 4, 5, 6, 7, 8, 9, 10, 11, 12], [0, 1, 2, 3, 4, 5, 6, 7, 8, 9, 10, 11, 12, 13]]) (.cond (.seq (.reg [6] []) .leaf) .leaf)))) (.reg [13, 14, 18, 19, 173, 174, 175, 176, 177, 178, 179, 180, 181, 202, 203, 206, 207, 208, 209, 212, 213, 216] [])))) (ic := waveletlaw14_CblkOrders_i6) (waveletlaw14_CblkOrders_S R k) (waveletlaw14_CblkOrders_J R k) (by kernel_rfl) (And.intro (And.intro True.intro (And.intro True.intro True.intro)) (And.intro (waveletlaw14_CblkOrders_j7 k) True.intro)) (waveletlaw14_CblkOrders_a6 R k) (fun vals H K => by unfold waveletlaw14_CblkOrders_a6 waveletlaw14_CblkOrders_aa6; split <;> rfl)
    (fun n vals H K r h => by
      unfold waveletlaw14_CblkOrders_a6 waveletlaw14_CblkOrders_aa6 at h
      split at h <;> first | (cases h; done) | exact Eq.trans (waveletlaw14_CblkOrders_e6 (cblk_Scan k) (cblk_Segments k) (cblk_Raw k) cblk_Pass waveletlaw14_exampleHoldsq (waveletlaw14_CblkOrders_l0 k) (waveletlaw14_CblkOrders_p1 k) (waveletlaw14_CblkOrders_l2 k) (waveletlaw14_CblkOrders_p3 k) (waveletlaw14_CblkOrders_l4 k) (waveletlaw14_CblkOrders_p5 k) (waveletlaw14_CblkOrders_l6 k) (waveletlaw14_CblkOrders_p7 k) k n _ _ _ _ _ _ _ _ H K) h) k
theorem waveletlaw14_CblkOrders_e5 {R : Type} (cblk_Scan : Int → Int → Heap → (Option Addr → Nat → Nat → Heap → Option R) → Option R) (cblk_Segments : Int → Bool → Bool → Bool → Bool → Bool → Heap → (Option Addr → Nat → Nat → Heap → Option R) → Option R) (cblk_Raw : Int → Bool → Bool → Bool → Bool → Bool → Heap → (Bool → Heap → Option R) → Option R) (cblk_Pass : Int → (Int → Int → Option R) → Option R) (waveletlaw14_exampleHoldsq : (Bool → Option R) → Option R) (waveletlaw14_CblkOrders_l0 : (Int → Option Addr → Int → Int → Option Addr → Nat → Nat → Heap → Option R) → (Bool → Heap → Option R) → Nat → Int → Option Addr → Int → Int → Option Addr → Nat → Nat → Option Addr → Nat → Nat → Int → Heap → Option R) (waveletlaw14_CblkOrders_p1 : Int → Option Addr → Int → Int → Option Addr → Nat → Nat → Option Addr → Nat → Nat → Int → Option Addr → Heap → (Int → Option Addr → Int → Int → Option Addr → Nat → Nat → Option Addr → Nat → Nat → Int → Option Addr → Option Addr → Int → Int → Bool → Option Addr → Int → Bool → Option Addr → Int → Int → Bool → Option Addr → Nat → Nat → Option Addr → Int → Int → Int → Option Addr → Int → Int → Option Addr → Bool → Option R) → (Bool → Option R) → Option R) (waveletlaw14_CblkOrders_l2 : (Option Addr → Int → Int → Option Addr → Nat → Nat → Int → Option Addr → Nat → Nat → Int → Heap → Option R) → (Bool → Heap → Option R) → Nat → Option Addr → Int → Int → Option Addr → Nat → Nat → Int → Option Addr → Nat → Nat → Int → Int → Heap → Option R) (waveletlaw14_CblkOrders_p3 : Option Addr → Int → Int → Option Addr → Nat → Nat → Int → Option Addr → Nat → Nat → Int → Int → Heap → (Option Addr → Int → Int → Option Addr → Nat → Nat → Int → Option Addr → Nat → Nat → Int → Int → Int → Option Addr → Nat → Nat → Int → Option Addr → Int → Int → Int → Bool → Option R) → (Bool → Option R) → Option R) (waveletlaw14_CblkOrders_l4 : (Option Addr → Int → Int → Option Addr → Nat → Nat → Int → Option Addr → Nat → Nat → Int → Int → Int → Option Addr → Nat → Nat → Int → Option Addr → Int → Int → Int → Bool → Heap → Option R) → (Bool → Heap → Option R) → Nat → Option Addr → Int → Int → Option Addr → Nat → Nat → Int → Option Addr → Nat → Nat → Int → Int → Int → Int → Option Addr → Nat → Nat → Int → Option Addr → Int → Int → Int → Bool → Heap → Option R) (waveletlaw14_CblkOrders_p5 : Option Addr → Int → Int → Option Addr → Nat → Nat → Int → Option Addr → Nat → Nat → Int → (Option Addr → Int → Option Addr → Nat → Nat → Option R) → (Bool → Option R) → Option R) (waveletlaw14_CblkOrders_l6 : (Int → Option R) → (Bool → Option R) → Nat → Int → Option Addr → Nat → Nat → Option Addr → Nat → Nat → Int → Heap → Option R) (waveletlaw14_CblkOrders_p7 : Int → Option Addr → Nat → Nat → Option Addr → Nat → Nat → Int → Heap → (Int → Option Addr → Nat → Nat → Option Addr → Nat → Nat → Int → Option Addr → Nat → Nat → Int → Option Addr → Int → Option Addr → Nat → Nat → Int → Option Addr → Int → Bool → Option R) → (Bool → Option R) → Option R) (k : Nat) (p418 : Option Addr) (n419 : Int) (n420 : Int) (q421 : Option Addr) (l422 : Nat) (c423 : Nat) (n424 : Int) (q425 : Option Addr) (l426 : Nat) (c427 : Nat) (n428 : Int) (H : Heap) (K : Xit → Env → Heap → Option R) : evJ (waveletlaw14_CblkOrders_Ct cblk_Scan cblk_Segments cblk_Raw cblk_Pass waveletlaw14_exampleHoldsq) (waveletlaw14_CblkOrders_Jt k waveletlaw14_CblkOrders_l0 waveletlaw14_CblkOrders_p1 waveletlaw14_CblkOrders_l2 waveletlaw14_CblkOrders_p3 waveletlaw14_CblkOrders_l4 waveletlaw14_CblkOrders_p5 waveletlaw14_CblkOrders_l6 waveletlaw14_CblkOrders_p7) waveletlaw14_CblkOrders_i5 (List.zip [5, 7, 8, 9, 13, 14, 15] [.pointer p418, .int .i64 n419, .int .i64 n420, .slice q421 l422 c423, .int .i64 n424, .slice q425 l426 c427, .int .i64 n428]) H (fun x e' H' => K x (clean e' ((⟨[5, 13, 14], [], [6]⟩ : Out).of x)) H') = waveletlaw14_CblkOrders_p5_b k p418 n419 n420 q421 l422 c423 n424 q425 l426 c427 n428 (fun p1612 n1613 q1614 l1615 c1616 => K .normal [(5, .pointer p1612), (13, .int .i64 n1613), (14, .slice q1614 l1615 c1616)] H) (fun t1617 => K .ret [(6, .bool t1617)] H) := by kernel_rfl
theorem waveletlaw14_CblkOrders_j5 {R : Type} (k : Nat) : JS Try.prog 218 (waveletlaw14_CblkOrders_a5 R k k) [5, 7, 8, 9, 13, 14, 15] ⟨[5, 13, 14], [], [6]⟩ (sel [1, 1, 1, 1, 1, 1, 1, 1, 1, 0] (Try.f5.body.getD .skip)) :=
  piece_ok (nt := 218) (c := (sel [1, 1, 1, 1, 1, 1, 1, 1, 1, 0] (Try.f5.body.getD .skip))) (C := waveletlaw14_CblkOrders_C R k) (an := An) (t := (.seq (.reg [5, 13, 14, 155, 173, 174, 175, 176, 177, 178, 179, 180, 181, 202, 203, 206, 207, 208, 209, 212, 213, 216] []) (.cond (.seq (.reg [6] []) .leaf) .leaf))) (ic := waveletlaw14_CblkOrders_i5) (waveletlaw14_CblkOrders_S R k) (waveletlaw14_CblkOrders_J R k) (by kernel_rfl) (And.intro True.intro (And.intro (And.intro True.intro True.intro) True.intro)) (waveletlaw14_CblkOrders_a5 R k k)
    (fun vals H K r h => by
      unfold waveletlaw14_CblkOrders_a5 waveletlaw14_CblkOrders_aa5 at h
      split at h <;> first | (cases h; done) | exact Eq.trans (waveletlaw14_CblkOrders_e5 (cblk_Scan k) (cblk_Segments k) (cblk_Raw k) cblk_Pass waveletlaw14_exampleHoldsq (waveletlaw14_CblkOrders_l0 k) (waveletlaw14_CblkOrders_p1 k) (waveletlaw14_CblkOrders_l2 k) (waveletlaw14_CblkOrders_p3 k) (waveletlaw14_CblkOrders_l4 k) (waveletlaw14_CblkOrders_p5 k) (waveletlaw14_CblkOrders_l6 k) (waveletlaw14_CblkOrders_p7 k) k _ _ _ _ _ _ _ _ _ _ _ H K) h)
theorem waveletlaw14_CblkOrders_e4 {R : Type} (cblk_Scan : Int → Int → Heap → (Option Addr → Nat → Nat → Heap → Option R) → Option R) (cblk_Segments : Int → Bool → Bool → Bool → Bool → Bool → Heap → (Option Addr → Nat → Nat → Heap → Option R) → Option R) (cblk_Raw : Int → Bool → Bool → Bool → Bool → Bool → Heap → (Bool → Heap → Option R) → Option R) (cblk_Pass : Int → (Int → Int → Option R) → Option R) (waveletlaw14_exampleHoldsq : (Bool → Option R) → Option R) (waveletlaw14_CblkOrders_l0 : (Int → Option Addr → Int → Int → Option Addr → Nat → Nat → Heap → Option R) → (Bool → Heap → Option R) → Nat → Int → Option Addr → Int → Int → Option Addr → Nat → Nat → Option Addr → Nat → Nat → Int → Heap → Option R) (waveletlaw14_CblkOrders_p1 : Int → Option Addr → Int → Int → Option Addr → Nat → Nat → Option Addr → Nat → Nat → Int → Option Addr → Heap → (Int → Option Addr → Int → Int → Option Addr → Nat → Nat → Option Addr → Nat → Nat → Int → Option Addr → Option Addr → Int → Int → Bool → Option Addr → Int → Bool → Option Addr → Int → Int → Bool → Option Addr → Nat → Nat → Option Addr → Int → Int → Int → Option Addr → Int → Int → Option Addr → Bool → Option R) → (Bool → Option R) → Option R) (waveletlaw14_CblkOrders_l2 : (Option Addr → Int → Int → Option Addr → Nat → Nat → Int → Option Addr → Nat → Nat → Int → Heap → Option R) → (Bool → Heap → Option R) → Nat → Option Addr → Int → Int → Option Addr → Nat → Nat → Int → Option Addr → Nat → Nat → Int → Int → Heap → Option R) (waveletlaw14_CblkOrders_p3 : Option Addr → Int → Int → Option Addr → Nat → Nat → Int → Option Addr → Nat → Nat → Int → Int → Heap → (Option Addr → Int → Int → Option Addr → Nat → Nat → Int → Option Addr → Nat → Nat → Int → Int → Int → Option Addr → Nat → Nat → Int → Option Addr → Int → Int → Int → Bool → Option R) → (Bool → Option R) → Option R) (waveletlaw14_CblkOrders_l4 : (Option Addr → Int → Int → Option Addr → Nat → Nat → Int → Option Addr → Nat → Nat → Int → Int → Int → Option Addr → Nat → Nat → Int → Option Addr → Int → Int → Int → Bool → Heap → Option R) → (Bool → Heap → Option R) → Nat → Option Addr → Int → Int → Option Addr → Nat → Nat → Int → Option Addr → Nat → Nat → Int → Int → Int → Int → Option Addr → Nat → Nat → Int → Option Addr → Int → Int → Int → Bool → Heap → Option R) (waveletlaw14_CblkOrders_p5 : Option Addr → Int → Int → Option Addr → Nat → Nat → Int → Option Addr → Nat → Nat → Int → (Option Addr → Int → Option Addr → Nat → Nat → Option R) → (Bool → Option R) → Option R) (waveletlaw14_CblkOrders_l6 : (Int → Option R) → (Bool → Option R) → Nat → Int → Option Addr → Nat → Nat → Option Addr → Nat → Nat → Int → Heap → Option R) (waveletlaw14_CblkOrders_p7 : Int → Option Addr → Nat → Nat → Option Addr → Nat → Nat → Int → Heap → (Int → Option Addr → Nat → Nat → Option Addr → Nat → Nat → Int → Option Addr → Nat → Nat → Int → Option Addr → Int → Option Addr → Nat → Nat → Int → Option Addr → Int → Bool → Option R) → (Bool → Option R) → Option R) (k n : Nat) (p304 : Option Addr) (n305 : Int) (n306 : Int) (q307 : Option Addr) (l308 : Nat) (c309 : Nat) (n310 : Int) (q311 : Option Addr) (l312 : Nat) (c313 : Nat) (n314 : Int) (n315 : Int) (n316 : Int) (n317 : Int) (q318 : Option Addr) (l319 : Nat) (c320 : Nat) (n321 : Int) (p322 : Option Addr) (n323 : Int) (n324 : Int) (n325 : Int) (t326 : Bool) (H : Heap) (K : Xit → Env → Heap → Option R) : evJ (waveletlaw14_CblkOrders_Ct cblk_Scan cblk_Segments cblk_Raw cblk_Pass waveletlaw14_exampleHoldsq) (waveletlaw14_CblkOrders_Jt k waveletlaw14_CblkOrders_l0 waveletlaw14_CblkOrders_p1 waveletlaw14_CblkOrders_l2 waveletlaw14_CblkOrders_p3 waveletlaw14_CblkOrders_l4 waveletlaw14_CblkOrders_p5 waveletlaw14_CblkOrders_l6 waveletlaw14_CblkOrders_p7) waveletlaw14_CblkOrders_i4 (List.zip [5, 7, 8, 9, 13, 14, 15, 16, 17, 112, 113, 114, 115, 116, 117, 118, 119] [.pointer p304, .int .i64 n305, .int .i64 n306, .slice q307 l308 c309, .int .i64 n310, .slice q311 l312 c313, .int .i64 n314, .int .i64 n315, .int .i64 n316, .int .i64 n317, .slice q318 l319 c320, .int .i64 n321, .pointer p322, .int .i64 n323, .int .i64 n324, .int .i64 n325, .bool t326]) H (fun x e' H' => match x with | .normal => waveletlaw14_CblkOrders_aa4 waveletlaw14_CblkOrders_l4 n ((clean e' [5, 7, 8, 9, 13, 14, 15, 16, 17, 112, 113, 114, 115, 116, 117, 118, 119]).map (·.2)) H' K | x => K x (clean e' ((⟨[], [(4, [5, 7, 8, 9, 13, 14, 15, 16, 112, 113, 114, 115, 116, 117, 118, 119])], [6]⟩ : Out).of x)) H') = waveletlaw14_CblkOrders_l4_b cblk_Raw (waveletlaw14_CblkOrders_l4 (fun p1589 n1590 n1591 q1592 l1593 c1594 n1595 q1596 l1597 c1598 n1599 n1600 n1601 q1602 l1603 c1604 n1605 p1606 n1607 n1608 n1609 t1610 H => K (.exit 4) [(5, .pointer p1589), (7, .int .i64 n1590), (8, .int .i64 n1591), (9, .slice q1592 l1593 c1594), (13, .int .i64 n1595), (14, .slice q1596 l1597 c1598), (15, .int .i64 n1599), (16, .int .i64 n1600), (112, .int .i64 n1601), (113, .slice q1602 l1603 c1604), (114, .int .i64 n1605), (115, .pointer p1606), (116, .int .i64 n1607), (117, .int .i64 n1608), (118, .int .i64 n1609), (119, .bool t1610)] H) (fun t1611 H => K .ret [(6, .bool t1611)] H) n) (fun p1589 n1590 n1591 q1592 l1593 c1594 n1595 q1596 l1597 c1598 n1599 n1600 n1601 q1602 l1603 c1604 n1605 p1606 n1607 n1608 n1609 t1610 H => K (.exit 4) [(5, .pointer p1589), (7, .int .i64 n1590), (8, .int .i64 n1591), (9, .slice q1592 l1593 c1594), (13, .int .i64 n1595), (14, .slice q1596 l1597 c1598), (15, .int .i64 n1599), (16, .int .i64 n1600), (112, .int .i64 n1601), (113, .slice q1602 l1603 c1604), (114, .int .i64 n1605), (115, .pointer p1606), (116, .int .i64 n1607), (117, .int .i64 n1608), (118, .int .i64 n1609), (119, .bool t1610)] H) (fun t1611 H => K .ret [(6, .bool t1611)] H) k p304 n305 n306 q307 l308 c309 n310 q311 l312 c313 n314 n315 n316 n317 q318 l319 c320 n321 p322 n323 n324 n325 t326 H := by kernel_rfl
theorem waveletlaw14_CblkOrders_j4 {R : Type} (k : Nat) : JS Try.prog 218 (waveletlaw14_CblkOrders_a4 R k k) [5, 7, 8, 9, 13, 14, 15, 16, 17, 112, 113, 114, 115, 116, 117, 118, 119] ⟨[], [(4, [5, 7, 8, 9, 13, 14, 15, 16, 112, 113, 114, 115, 116, 117, 118, 119])], [6]⟩ (.loop (sel [1, 1, 1, 1, 1, 1, 1, 1, 0, 1, 0, 0, 1, 0, 0, 1, 0, 1, 0, 0] (Try.f5.body.getD .skip))) :=
  loop_ok (nt := 218) (c := (sel [1, 1, 1, 1, 1, 1, 1, 1, 0, 1, 0, 0, 1, 0, 0, 1, 0, 1, 0, 0] (Try.f5.body.getD .skip))) (C := waveletlaw14_CblkOrders_C R k) (an := An) (t := (.seq (.seq (.reg [5, 7, 8, 9, 13, 14, 15, 16, 17, 112, 113, 114, 115, 116, 117, 118, 119, 129, 149, 150, 151, 152, 153, 154, 173, 174, 175, 176, 177, 178, 179, 180, 181, 202, 203, 206, 207, 208, 209, 212, 213, 216] []) (.cond .leaf .leaf)) (.seq (.node (.seq (.reg [5, 7, 8, 9, 13, 14, 15, 16, 17, 112, 113, 114, 115, 116, 117, 118, 119, 138, 149, 150, 151, 152, 153, 154, 173, 174, 175, 176, 177, 178, 179, 180, 181, 202, 203, 206, 207, 208, 209, 212, 213, 216] [[], [], [0, 1], [], [], [0, 1, 2, 3, 4], [0, 1, 2, 3, 4, 5]]) (.cond (.seq (.reg [6] []) .leaf) .leaf))) (.reg [5, 7, 8, 9, 13, 14, 15, 16, 17, 112, 113, 114, 115, 116, 117, 118, 119, 149, 150, 151, 152, 153, 154, 173, 174, 175, 176, 177, 178, 179, 180, 181, 202, 203, 206, 207, 208, 209, 212, 213, 216] [])))) (ic := waveletlaw14_CblkOrders_i4) (waveletlaw14_CblkOrders_S R k) (waveletlaw14_CblkOrders_J R k) (by kernel_rfl) (And.intro (And.intro True.intro (And.intro True.intro True.intro)) (And.intro (And.intro True.intro (And.intro (And.intro True.intro True.intro) True.intro)) True.intro)) (waveletlaw14_CblkOrders_a4 R k) (fun vals H K => by unfold waveletlaw14_CblkOrders_a4 waveletlaw14_CblkOrders_aa4; split <;> rfl)
    (fun n vals H K r h => by
      unfold waveletlaw14_CblkOrders_a4 waveletlaw14_CblkOrders_aa4 at h
      split at h <;> first | (cases h; done) | exact Eq.trans (waveletlaw14_CblkOrders_e4 (cblk_Scan k) (cblk_Segments k) (cblk_Raw k) cblk_Pass waveletlaw14_exampleHoldsq (waveletlaw14_CblkOrders_l0 k) (waveletlaw14_CblkOrders_p1 k) (waveletlaw14_CblkOrders_l2 k) (waveletlaw14_CblkOrders_p3 k) (waveletlaw14_CblkOrders_l4 k) (waveletlaw14_CblkOrders_p5 k) (waveletlaw14_CblkOrders_l6 k) (waveletlaw14_CblkOrders_p7 k) k n _ _ _ _ _ _ _ _ _ _ _ _ _ _ _ _ _ _ _ _ _ _ _ H K) h) k
theorem waveletlaw14_CblkOrders_e3 {R : Type} (cblk_Scan : Int → Int → Heap → (Option Addr → Nat → Nat → Heap → Option R) → Option R) (cblk_Segments : Int → Bool → Bool → Bool → Bool → Bool → Heap → (Option Addr → Nat → Nat → Heap → Option R) → Option R) (cblk_Raw : Int → Bool → Bool → Bool → Bool → Bool → Heap → (Bool → Heap → Option R) → Option R) (cblk_Pass : Int → (Int → Int → Option R) → Option R) (waveletlaw14_exampleHoldsq : (Bool → Option R) → Option R) (waveletlaw14_CblkOrders_l0 : (Int → Option Addr → Int → Int → Option Addr → Nat → Nat → Heap → Option R) → (Bool → Heap → Option R) → Nat → Int → Option Addr → Int → Int → Option Addr → Nat → Nat → Option Addr → Nat → Nat → Int → Heap → Option R) (waveletlaw14_CblkOrders_p1 : Int → Option Addr → Int → Int → Option Addr → Nat → Nat → Option Addr → Nat → Nat → Int → Option Addr → Heap → (Int → Option Addr → Int → Int → Option Addr → Nat → Nat → Option Addr → Nat → Nat → Int → Option Addr → Option Addr → Int → Int → Bool → Option Addr → Int → Bool → Option Addr → Int → Int → Bool → Option Addr → Nat → Nat → Option Addr → Int → Int → Int → Option Addr → Int → Int → Option Addr → Bool → Option R) → (Bool → Option R) → Option R) (waveletlaw14_CblkOrders_l2 : (Option Addr → Int → Int → Option Addr → Nat → Nat → Int → Option Addr → Nat → Nat → Int → Heap → Option R) → (Bool → Heap → Option R) → Nat → Option Addr → Int → Int → Option Addr → Nat → Nat → Int → Option Addr → Nat → Nat → Int → Int → Heap → Option R) (waveletlaw14_CblkOrders_p3 : Option Addr → Int → Int → Option Addr → Nat → Nat → Int → Option Addr → Nat → Nat → Int → Int → Heap → (Option Addr → Int → Int → Option Addr → Nat → Nat → Int → Option Addr → Nat → Nat → Int → Int → Int → Option Addr → Nat → Nat → Int → Option Addr → Int → Int → Int → Bool → Option R) → (Bool → Option R) → Option R) (waveletlaw14_CblkOrders_l4 : (Option Addr → Int → Int → Option Addr → Nat → Nat → Int → Option Addr → Nat → Nat → Int → Int → Int → Option Addr → Nat → Nat → Int → Option Addr → Int → Int → Int → Bool → Heap → Option R) → (Bool → Heap → Option R) → Nat → Option Addr → Int → Int → Option Addr → Nat → Nat → Int → Option Addr → Nat → Nat → Int → Int → Int → Int → Option Addr → Nat → Nat → Int → Option Addr → Int → Int → Int → Bool → Heap → Option R) (waveletlaw14_CblkOrders_p5 : Option Addr → Int → Int → Option Addr → Nat → Nat → Int → Option Addr → Nat → Nat → Int → (Option Addr → Int → Option Addr → Nat → Nat → Option R) → (Bool → Option R) → Option R) (waveletlaw14_CblkOrders_l6 : (Int → Option R) → (Bool → Option R) → Nat → Int → Option Addr → Nat → Nat → Option Addr → Nat → Nat → Int → Heap → Option R) (waveletlaw14_CblkOrders_p7 : Int → Option Addr → Nat → Nat → Option Addr → Nat → Nat → Int → Heap → (Int → Option Addr → Nat → Nat → Option Addr → Nat → Nat → Int → Option Addr → Nat → Nat → Int → Option Addr → Int → Option Addr → Nat → Nat → Int → Option Addr → Int → Bool → Option R) → (Bool → Option R) → Option R) (k : Nat) (p243 : Option Addr) (n244 : Int) (n245 : Int) (q246 : Option Addr) (l247 : Nat) (c248 : Nat) (n249 : Int) (q250 : Option Addr) (l251 : Nat) (c252 : Nat) (n253 : Int) (n254 : Int) (H : Heap) (K : Xit → Env → Heap → Option R) : evJ (waveletlaw14_CblkOrders_Ct cblk_Scan cblk_Segments cblk_Raw cblk_Pass waveletlaw14_exampleHoldsq) (waveletlaw14_CblkOrders_Jt k waveletlaw14_CblkOrders_l0 waveletlaw14_CblkOrders_p1 waveletlaw14_CblkOrders_l2 waveletlaw14_CblkOrders_p3 waveletlaw14_CblkOrders_l4 waveletlaw14_CblkOrders_p5 waveletlaw14_CblkOrders_l6 waveletlaw14_CblkOrders_p7) waveletlaw14_CblkOrders_i3 (List.zip [5, 7, 8, 9, 13, 14, 15, 16] [.pointer p243, .int .i64 n244, .int .i64 n245, .slice q246 l247 c248, .int .i64 n249, .slice q250 l251 c252, .int .i64 n253, .int .i64 n254]) H (fun x e' H' => K x (clean e' ((⟨[5, 7, 8, 9, 13, 14, 15, 16, 112, 113, 114, 115, 116, 117, 118, 119], [], [6]⟩ : Out).of x)) H') = waveletlaw14_CblkOrders_p3_b k p243 n244 n245 q246 l247 c248 n249 q250 l251 c252 n253 n254 H (fun p1566 n1567 n1568 q1569 l1570 c1571 n1572 q1573 l1574 c1575 n1576 n1577 n1578 q1579 l1580 c1581 n1582 p1583 n1584 n1585 n1586 t1587 => K .normal [(5, .pointer p1566), (7, .int .i64 n1567), (8, .int .i64 n1568), (9, .slice q1569 l1570 c1571), (13, .int .i64 n1572), (14, .slice q1573 l1574 c1575), (15, .int .i64 n1576), (16, .int .i64 n1577), (112, .int .i64 n1578), (113, .slice q1579 l1580 c1581), (114, .int .i64 n1582), (115, .pointer p1583), (116, .int .i64 n1584), (117, .int .i64 n1585), (118, .int .i64 n1586), (119, .bool t1587)] H) (fun t1588 => K .ret [(6, .bool t1588)] H) := by kernel_rfl
theorem waveletlaw14_CblkOrders_j3 {R : Type} (k : Nat) : JS Try.prog 218 (waveletlaw14_CblkOrders_a3 R k k) [5, 7, 8, 9, 13, 14, 15, 16] ⟨[5, 7, 8, 9, 13, 14, 15, 16, 112, 113, 114, 115, 116, 117, 118, 119], [], [6]⟩ (sel [1, 1, 1, 1, 1, 1, 1, 1, 0, 1, 0, 0, 1, 0, 0, 0] (Try.f5.body.getD .skip)) :=
  piece_ok (nt := 218) (c := (sel [1, 1, 1, 1, 1, 1, 1, 1, 0, 1, 0, 0, 1, 0, 0, 0] (Try.f5.body.getD .skip))) (C := waveletlaw14_CblkOrders_C R k) (an := An) (t := (.seq (.reg [5, 7, 8, 9, 13, 14, 15, 16, 112, 113, 114, 115, 116, 117, 118, 119, 120, 149, 150, 151, 152, 153, 154, 173, 174, 175, 176, 177, 178, 179, 180, 181, 202, 203, 206, 207, 208, 209, 212, 213, 216] []) (.cond (.seq (.reg [6] []) .leaf) .leaf))) (ic := waveletlaw14_CblkOrders_i3) (waveletlaw14_CblkOrders_S R k) (waveletlaw14_CblkOrders_J R k) (by kernel_rfl) (And.intro True.intro (And.intro (And.intro True.intro True.intro) True.intro)) (waveletlaw14_CblkOrders_a3 R k k)
    (fun vals H K r h => by
      unfold waveletlaw14_CblkOrders_a3 waveletlaw14_CblkOrders_aa3 at h
      split at h <;> first | (cases h; done) | exact Eq.trans (waveletlaw14_CblkOrders_e3 (cblk_Scan k) (cblk_Segments k) (cblk_Raw k) cblk_Pass waveletlaw14_exampleHoldsq (waveletlaw14_CblkOrders_l0 k) (waveletlaw14_CblkOrders_p1 k) (waveletlaw14_CblkOrders_l2 k) (waveletlaw14_CblkOrders_p3 k) (waveletlaw14_CblkOrders_l4 k) (waveletlaw14_CblkOrders_p5 k) (waveletlaw14_CblkOrders_l6 k) (waveletlaw14_CblkOrders_p7 k) k _ _ _ _ _ _ _ _ _ _ _ _ H K) h)
theorem waveletlaw14_CblkOrders_e2 {R : Type} (cblk_Scan : Int → Int → Heap → (Option Addr → Nat → Nat → Heap → Option R) → Option R) (cblk_Segments : Int → Bool → Bool → Bool → Bool → Bool → Heap → (Option Addr → Nat → Nat → Heap → Option R) → Option R) (cblk_Raw : Int → Bool → Bool → Bool → Bool → Bool → Heap → (Bool → Heap → Option R) → Option R) (cblk_Pass : Int → (Int → Int → Option R) → Option R) (waveletlaw14_exampleHoldsq : (Bool → Option R) → Option R) (waveletlaw14_CblkOrders_l0 : (Int → Option Addr → Int → Int → Option Addr → Nat → Nat → Heap → Option R) → (Bool → Heap → Option R) → Nat → Int → Option Addr → Int → Int → Option Addr → Nat → Nat → Option Addr → Nat → Nat → Int → Heap → Option R) (waveletlaw14_CblkOrders_p1 : Int → Option Addr → Int → Int → Option Addr → Nat → Nat → Option Addr → Nat → Nat → Int → Option Addr → Heap → (Int → Option Addr → Int → Int → Option Addr → Nat → Nat → Option Addr → Nat → Nat → Int → Option Addr → Option Addr → Int → Int → Bool → Option Addr → Int → Bool → Option Addr → Int → Int → Bool → Option Addr → Nat → Nat → Option Addr → Int → Int → Int → Option Addr → Int → Int → Option Addr → Bool → Option R) → (Bool → Option R) → Option R) (waveletlaw14_CblkOrders_l2 : (Option Addr → Int → Int → Option Addr → Nat → Nat → Int → Option Addr → Nat → Nat → Int → Heap → Option R) → (Bool → Heap → Option R) → Nat → Option Addr → Int → Int → Option Addr → Nat → Nat → Int → Option Addr → Nat → Nat → Int → Int → Heap → Option R) (waveletlaw14_CblkOrders_p3 : Option Addr → Int → Int → Option Addr → Nat → Nat → Int → Option Addr → Nat → Nat → Int → Int → Heap → (Option Addr → Int → Int → Option Addr → Nat → Nat → Int → Option Addr → Nat → Nat → Int → Int → Int → Option Addr → Nat → Nat → Int → Option Addr → Int → Int → Int → Bool → Option R) → (Bool → Option R) → Option R) (waveletlaw14_CblkOrders_l4 : (Option Addr → Int → Int → Option Addr → Nat → Nat → Int → Option Addr → Nat → Nat → Int → Int → Int → Option Addr → Nat → Nat → Int → Option Addr → Int → Int → Int → Bool → Heap → Option R) → (Bool → Heap → Option R) → Nat → Option Addr → Int → Int → Option Addr → Nat → Nat → Int → Option Addr → Nat → Nat → Int → Int → Int → Int → Option Addr → Nat → Nat → Int → Option Addr → Int → Int → Int → Bool → Heap → Option R) (waveletlaw14_CblkOrders_p5 : Option Addr → Int → Int → Option Addr → Nat → Nat → Int → Option Addr → Nat → Nat → Int → (Option Addr → Int → Option Addr → Nat → Nat → Option R) → (Bool → Option R) → Option R) (waveletlaw14_CblkOrders_l6 : (Int → Option R) → (Bool → Option R) → Nat → Int → Option Addr → Nat → Nat → Option Addr → Nat → Nat → Int → Heap → Option R) (waveletlaw14_CblkOrders_p7 : Int → Option Addr → Nat → Nat → Option Addr → Nat → Nat → Int → Heap → (Int → Option Addr → Nat → Nat → Option Addr → Nat → Nat → Int → Option Addr → Nat → Nat → Int → Option Addr → Int → Option Addr → Nat → Nat → Int → Option Addr → Int → Bool → Option R) → (Bool → Option R) → Option R) (k n : Nat) (p231 : Option Addr) (n232 : Int) (n233 : Int) (q234 : Option Addr) (l235 : Nat) (c236 : Nat) (n237 : Int) (q238 : Option Addr) (l239 : Nat) (c240 : Nat) (n241 : Int) (n242 : Int) (H : Heap) (K : Xit → Env → Heap → Option R) : evJ (waveletlaw14_CblkOrders_Ct cblk_Scan cblk_Segments cblk_Raw cblk_Pass waveletlaw14_exampleHoldsq) (waveletlaw14_CblkOrders_Jt k waveletlaw14_CblkOrders_l0 waveletlaw14_CblkOrders_p1 waveletlaw14_CblkOrders_l2 waveletlaw14_CblkOrders_p3 waveletlaw14_CblkOrders_l4 waveletlaw14_CblkOrders_p5 waveletlaw14_CblkOrders_l6 waveletlaw14_CblkOrders_p7) waveletlaw14_CblkOrders_i2 (List.zip [5, 7, 8, 9, 13, 14, 15, 16] [.pointer p231, .int .i64 n232, .int .i64 n233, .slice q234 l235 c236, .int .i64 n237, .slice q238 l239 c240, .int .i64 n241, .int .i64 n242]) H (fun x e' H' => match x with | .normal => waveletlaw14_CblkOrders_aa2 waveletlaw14_CblkOrders_l2 n ((clean e' [5, 7, 8, 9, 13, 14, 15, 16]).map (·.2)) H' K | x => K x (clean e' ((⟨[], [(2, [5, 7, 8, 9, 13, 14, 15])], [6]⟩ : Out).of x)) H') = waveletlaw14_CblkOrders_l2_b waveletlaw14_CblkOrders_p3 waveletlaw14_CblkOrders_l4 (waveletlaw14_CblkOrders_l2 (fun p1554 n1555 n1556 q1557 l1558 c1559 n1560 q1561 l1562 c1563 n1564 H => K (.exit 2) [(5, .pointer p1554), (7, .int .i64 n1555), (8, .int .i64 n1556), (9, .slice q1557 l1558 c1559), (13, .int .i64 n1560), (14, .slice q1561 l1562 c1563), (15, .int .i64 n1564)] H) (fun t1565 H => K .ret [(6, .bool t1565)] H) n) (fun p1554 n1555 n1556 q1557 l1558 c1559 n1560 q1561 l1562 c1563 n1564 H => K (.exit 2) [(5, .pointer p1554), (7, .int .i64 n1555), (8, .int .i64 n1556), (9, .slice q1557 l1558 c1559), (13, .int .i64 n1560), (14, .slice q1561 l1562 c1563), (15, .int .i64 n1564)] H) (fun t1565 H => K .ret [(6, .bool t1565)] H) k p231 n232 n233 q234 l235 c236 n237 q238 l239 c240 n241 n242 H := by kernel_rfl
theorem waveletlaw14_CblkOrders_j2 {R : Type} (k : Nat) : JS Try.prog 218 (waveletlaw14_CblkOrders_a2 R k k) [5, 7, 8, 9, 13, 14, 15, 16] ⟨[], [(2, [5, 7, 8, 9, 13, 14, 15])], [6]⟩ (.loop (sel [1, 1, 1, 1, 1, 1, 1, 1, 0, 1, 0, 0] (Try.f5.body.getD .skip))) :=
  loop_ok (nt := 218) (c := (sel [1, 1, 1, 1, 1, 1, 1, 1, 0, 1, 0, 0] (Try.f5.body.getD .skip))) (C := waveletlaw14_CblkOrders_C R k) (an := An) (t := (.seq (.seq (.reg [5, 7, 8, 9, 13, 14, 15, 16, 103, 112, 113, 114, 115, 116, 117, 118, 119, 149, 150, 151, 152, 153, 154, 173, 174, 175, 176, 177, 178, 179, 180, 181, 202, 203, 206, 207, 208, 209, 212, 213, 216] []) (.cond .leaf .leaf)) (.seq (.node (.seq (.opq 3 [5, 7, 8, 9, 13, 14, 15, 16] ⟨[5, 7, 8, 9, 13, 14, 15, 16, 112, 113, 114, 115, 116, 117, 118, 119], [], [6]⟩ (.seq (.reg [5, 7, 8, 9, 13, 14, 15, 16, 112, 113, 114, 115, 116, 117, 118, 119, 120, 149, 150, 151, 152, 153, 154, 173, 174, 175, 176, 177, 178, 179, 180, 181, 202, 203, 206, 207, 208, 209, 212, 213, 216] []) (.cond (.seq (.reg [6] []) .leaf) .leaf))) (.seq (.seq (.reg [5, 7, 8, 9, 13, 14, 15, 16, 17, 112, 113, 114, 115, 116, 117, 118, 119, 149, 150, 151, 152, 153, 154, 173, 174, 175, 176, 177, 178, 179, 180, 181, 202, 203, 206, 207, 208, 209, 212, 213, 216] []) (.node (.opq 4 [5, 7, 8, 9, 13, 14, 15, 16, 17, 112, 113, 114, 115, 116, 117, 118, 119] ⟨[], [(4, [5, 7, 8, 9, 13, 14, 15, 16, 112, 113, 114, 115, 116, 117, 118, 119])], [6]⟩ (.node (.seq (.seq (.reg [5, 7, 8, 9, 13, 14, 15, 16, 17, 112, 113, 114, 115, 116, 117, 118, 119, 129, 149, 150, 151, 152, 153, 154, 173, 174, 175, 176, 177, 178, 179, 180, 181, 202, 203, 206, 207, 208, 209, 212, 213, 216] []) (.cond .leaf .leaf)) (.seq (.node (.seq (.reg [5, 7, 8, 9, 13, 14, 15, 16, 17, 112, 113, 114, 115, 116, 117, 118, 119, 138, 149, 150, 151, 152, 153, 154, 173, 174, 175, 176, 177, 178, 179, 180, 181, 202, 203, 206, 207, 208, 209, 212, 213, 216] [[], [], [0, 1], [], [], [0, 1, 2, 3, 4], [0, 1, 2, 3, 4, 5]]) (.cond (.seq (.reg [6] []) .leaf) .leaf))) (.reg [5, 7, 8, 9, 13, 14, 15, 16, 17, 112, 113, 114, 115, 116, 117, 118, 119, 149, 150, 151, 152, 153, 154, 173, 174, 175, 176, 177, 178, 179, 180, 181, 202, 203, 206, 207, 208, 209, 212, 213, 216] []))))))) (.reg [5, 7, 8, 9, 13, 14, 15, 16, 112, 113, 114, 115, 116, 117, 118, 119, 149, 150, 151, 152, 153, 154, 173, 174, 175, 176, 177, 178, 179, 180, 181, 202, 203, 206, 207, 208, 209, 212, 213, 216] [])))) (.reg [5, 7, 8, 9, 13, 14, 15, 16, 112, 113, 114, 115, 116, 117, 118, 119, 149, 150, 151, 152, 153, 154, 173, 174, 175, 176, 177, 178, 179, 180, 181, 202, 203, 206, 207, 208, 209, 212, 213, 216] [])))) (ic := waveletlaw14_CblkOrders_i2) (waveletlaw14_CblkOrders_S R k) (waveletlaw14_CblkOrders_J R k) (by kernel_rfl) (And.intro (And.intro True.intro (And.intro True.intro True.intro)) (And.intro (And.intro (waveletlaw14_CblkOrders_j3 k) (And.intro (And.intro True.intro (waveletlaw14_CblkOrders_j4 k)) True.intro)) True.intro)) (waveletlaw14_CblkOrders_a2 R k) (fun vals H K => by unfold waveletlaw14_CblkOrders_a2 waveletlaw14_CblkOrders_aa2; split <;> rfl)
    (fun n vals H K r h => by
      unfold waveletlaw14_CblkOrders_a2 waveletlaw14_CblkOrders_aa2 at h
      split at h <;> first | (cases h; done) | exact Eq.trans (waveletlaw14_CblkOrders_e2 (cblk_Scan k) (cblk_Segments k) (cblk_Raw k) cblk_Pass waveletlaw14_exampleHoldsq (waveletlaw14_CblkOrders_l0 k) (waveletlaw14_CblkOrders_p1 k) (waveletlaw14_CblkOrders_l2 k) (waveletlaw14_CblkOrders_p3 k) (waveletlaw14_CblkOrders_l4 k) (waveletlaw14_CblkOrders_p5 k) (waveletlaw14_CblkOrders_l6 k) (waveletlaw14_CblkOrders_p7 k) k n _ _ _ _ _ _ _ _ _ _ _ _ H K) h) k
theorem waveletlaw14_CblkOrders_e1 {R : Type} (cblk_Scan : Int → Int → Heap → (Option Addr → Nat → Nat → Heap → Option R) → Option R) (cblk_Segments : Int → Bool → Bool → Bool → Bool → Bool → Heap → (Option Addr → Nat → Nat → Heap → Option R) → Option R) (cblk_Raw : Int → Bool → Bool → Bool → Bool → Bool → Heap → (Bool → Heap → Option R) → Option R) (cblk_Pass : Int → (Int → Int → Option R) → Option R) (waveletlaw14_exampleHoldsq : (Bool → Option R) → Option R) (waveletlaw14_CblkOrders_l0 : (Int → Option Addr → Int → Int → Option Addr → Nat → Nat → Heap → Option R) → (Bool → Heap → Option R) → Nat → Int → Option Addr → Int → Int → Option Addr → Nat → Nat → Option Addr → Nat → Nat → Int → Heap → Option R) (waveletlaw14_CblkOrders_p1 : Int → Option Addr → Int → Int → Option Addr → Nat → Nat → Option Addr → Nat → Nat → Int → Option Addr → Heap → (Int → Option Addr → Int → Int → Option Addr → Nat → Nat → Option Addr → Nat → Nat → Int → Option Addr → Option Addr → Int → Int → Bool → Option Addr → Int → Bool → Option Addr → Int → Int → Bool → Option Addr → Nat → Nat → Option Addr → Int → Int → Int → Option Addr → Int → Int → Option Addr → Bool → Option R) → (Bool → Option R) → Option R) (waveletlaw14_CblkOrders_l2 : (Option Addr → Int → Int → Option Addr → Nat → Nat → Int → Option Addr → Nat → Nat → Int → Heap → Option R) → (Bool → Heap → Option R) → Nat → Option Addr → Int → Int → Option Addr → Nat → Nat → Int → Option Addr → Nat → Nat → Int → Int → Heap → Option R) (waveletlaw14_CblkOrders_p3 : Option Addr → Int → Int → Option Addr → Nat → Nat → Int → Option Addr → Nat → Nat → Int → Int → Heap → (Option Addr → Int → Int → Option Addr → Nat → Nat → Int → Option Addr → Nat → Nat → Int → Int → Int → Option Addr → Nat → Nat → Int → Option Addr → Int → Int → Int → Bool → Option R) → (Bool → Option R) → Option R) (waveletlaw14_CblkOrders_l4 : (Option Addr → Int → Int → Option Addr → Nat → Nat → Int → Option Addr → Nat → Nat → Int → Int → Int → Option Addr → Nat → Nat → Int → Option Addr → Int → Int → Int → Bool → Heap → Option R) → (Bool → Heap → Option R) → Nat → Option Addr → Int → Int → Option Addr → Nat → Nat → Int → Option Addr → Nat → Nat → Int → Int → Int → Int → Option Addr → Nat → Nat → Int → Option Addr → Int → Int → Int → Bool → Heap → Option R) (waveletlaw14_CblkOrders_p5 : Option Addr → Int → Int → Option Addr → Nat → Nat → Int → Option Addr → Nat → Nat → Int → (Option Addr → Int → Option Addr → Nat → Nat → Option R) → (Bool → Option R) → Option R) (waveletlaw14_CblkOrders_l6 : (Int → Option R) → (Bool → Option R) → Nat → Int → Option Addr → Nat → Nat → Option Addr → Nat → Nat → Int → Heap → Option R) (waveletlaw14_CblkOrders_p7 : Int → Option Addr → Nat → Nat → Option Addr → Nat → Nat → Int → Heap → (Int → Option Addr → Nat → Nat → Option Addr → Nat → Nat → Int → Option Addr → Nat → Nat → Int → Option Addr → Int → Option Addr → Nat → Nat → Int → Option Addr → Int → Bool → Option R) → (Bool → Option R) → Option R) (k : Nat) (n102 : Int) (p103 : Option Addr) (n104 : Int) (n105 : Int) (q106 : Option Addr) (l107 : Nat) (c108 : Nat) (q109 : Option Addr) (l110 : Nat) (c111 : Nat) (n112 : Int) (p113 : Option Addr) (H : Heap) (K : Xit → Env → Heap → Option R) : evJ (waveletlaw14_CblkOrders_Ct cblk_Scan cblk_Segments cblk_Raw cblk_Pass waveletlaw14_exampleHoldsq) (waveletlaw14_CblkOrders_Jt k waveletlaw14_CblkOrders_l0 waveletlaw14_CblkOrders_p1 waveletlaw14_CblkOrders_l2 waveletlaw14_CblkOrders_p3 waveletlaw14_CblkOrders_l4 waveletlaw14_CblkOrders_p5 waveletlaw14_CblkOrders_l6 waveletlaw14_CblkOrders_p7) waveletlaw14_CblkOrders_i1 (List.zip [1, 5, 7, 8, 9, 10, 11, 12] [.int .u8 n102, .pointer p103, .int .i64 n104, .int .i64 n105, .slice q106 l107 c108, .slice q109 l110 c111, .int .i64 n112, .pointer p113]) H (fun x e' H' => K x (clean e' ((⟨[1, 5, 7, 8, 9, 10, 11, 12, 56, 57, 58, 59, 62, 63, 64, 67, 68, 69, 70, 73, 74, 75, 76, 77, 78, 79, 80, 81, 82], [], [6]⟩ : Out).of x)) H') = waveletlaw14_CblkOrders_p1_b k n102 p103 n104 n105 q106 l107 c108 q109 l110 c111 n112 p113 H (fun n1518 p1519 n1520 n1521 q1522 l1523 c1524 q1525 l1526 c1527 n1528 p1529 p1530 n1531 n1532 t1533 p1534 n1535 t1536 p1537 n1538 n1539 t1540 q1541 l1542 c1543 p1544 n1545 n1546 n1547 p1548 n1549 n1550 p1551 t1552 => K .normal [(1, .int .u8 n1518), (5, .pointer p1519), (7, .int .i64 n1520), (8, .int .i64 n1521), (9, .slice q1522 l1523 c1524), (10, .slice q1525 l1526 c1527), (11, .int .i64 n1528), (12, .pointer p1529), (56, .pointer p1530), (57, .int .i64 n1531), (58, .int .i64 n1532), (59, .bool t1533), (62, .pointer p1534), (63, .int .i64 n1535), (64, .bool t1536), (67, .pointer p1537), (68, .int .i64 n1538), (69, .int .i64 n1539), (70, .bool t1540), (73, .slice q1541 l1542 c1543), (74, .pointer p1544), (75, .int .i64 n1545), (76, .int .i64 n1546), (77, .int .i64 n1547), (78, .pointer p1548), (79, .int .i64 n1549), (80, .int .i64 n1550), (81, .pointer p1551), (82, .bool t1552)] H) (fun t1553 => K .ret [(6, .bool t1553)] H) := by kernel_rfl
theorem waveletlaw14_CblkOrders_j1 {R : Type} (k : Nat) : JS Try.prog 218 (waveletlaw14_CblkOrders_a1 R k k) [1, 5, 7, 8, 9, 10, 11, 12] ⟨[1, 5, 7, 8, 9, 10, 11, 12, 56, 57, 58, 59, 62, 63, 64, 67, 68, 69, 70, 73, 74, 75, 76, 77, 78, 79, 80, 81, 82], [], [6]⟩ (sel [1, 1, 1, 1, 0, 1, 0, 0, 1, 0, 0, 1, 0] (Try.f5.body.getD .skip)) :=
  piece_ok (nt := 218) (c := (sel [1, 1, 1, 1, 0, 1, 0, 0, 1, 0, 0, 1, 0] (Try.f5.body.getD .skip))) (C := waveletlaw14_CblkOrders_C R k) (an := An) (t := (.seq (.reg [1, 5, 7, 8, 9, 10, 11, 12, 56, 57, 58, 59, 62, 63, 64, 67, 68, 69, 70, 73, 74, 75, 76, 77, 78, 79, 80, 81, 82, 83, 112, 113, 114, 115, 116, 117, 118, 119, 149, 150, 151, 152, 153, 154, 173, 174, 175, 176, 177, 178, 179, 180, 181, 202, 203, 206, 207, 208, 209, 212, 213, 216] []) (.cond (.seq (.reg [6] []) .leaf) .leaf))) (ic := waveletlaw14_CblkOrders_i1) (waveletlaw14_CblkOrders_S R k) (waveletlaw14_CblkOrders_J R k) (by kernel_rfl) (And.intro True.intro (And.intro (And.intro True.intro True.intro) True.intro)) (waveletlaw14_CblkOrders_a1 R k k)
    (fun vals H K r h => by
      unfold waveletlaw14_CblkOrders_a1 waveletlaw14_CblkOrders_aa1 at h
      split at h <;> first | (cases h; done) | exact Eq.trans (waveletlaw14_CblkOrders_e1 (cblk_Scan k) (cblk_Segments k) (cblk_Raw k) cblk_Pass waveletlaw14_exampleHoldsq (waveletlaw14_CblkOrders_l0 k) (waveletlaw14_CblkOrders_p1 k) (waveletlaw14_CblkOrders_l2 k) (waveletlaw14_CblkOrders_p3 k) (waveletlaw14_CblkOrders_l4 k) (waveletlaw14_CblkOrders_p5 k) (waveletlaw14_CblkOrders_l6 k) (waveletlaw14_CblkOrders_p7 k) k _ _ _ _ _ _ _ _ _ _ _ _ H K) h)
theorem waveletlaw14_CblkOrders_e0 {R : Type} (cblk_Scan : Int → Int → Heap → (Option Addr → Nat → Nat → Heap → Option R) → Option R) (cblk_Segments : Int → Bool → Bool → Bool → Bool → Bool → Heap → (Option Addr → Nat → Nat → Heap → Option R) → Option R) (cblk_Raw : Int → Bool → Bool → Bool → Bool → Bool → Heap → (Bool → Heap → Option R) → Option R) (cblk_Pass : Int → (Int → Int → Option R) → Option R) (waveletlaw14_exampleHoldsq : (Bool → Option R) → Option R) (waveletlaw14_CblkOrders_l0 : (Int → Option Addr → Int → Int → Option Addr → Nat → Nat → Heap → Option R) → (Bool → Heap → Option R) → Nat → Int → Option Addr → Int → Int → Option Addr → Nat → Nat → Option Addr → Nat → Nat → Int → Heap → Option R) (waveletlaw14_CblkOrders_p1 : Int → Option Addr → Int → Int → Option Addr → Nat → Nat → Option Addr → Nat → Nat → Int → Option Addr → Heap → (Int → Option Addr → Int → Int → Option Addr → Nat → Nat → Option Addr → Nat → Nat → Int → Option Addr → Option Addr → Int → Int → Bool → Option Addr → Int → Bool → Option Addr → Int → Int → Bool → Option Addr → Nat → Nat → Option Addr → Int → Int → Int → Option Addr → Int → Int → Option Addr → Bool → Option R) → (Bool → Option R) → Option R) (waveletlaw14_CblkOrders_l2 : (Option Addr → Int → Int → Option Addr → Nat → Nat → Int → Option Addr → Nat → Nat → Int → Heap → Option R) → (Bool → Heap → Option R) → Nat → Option Addr → Int → Int → Option Addr → Nat → Nat → Int → Option Addr → Nat → Nat → Int → Int → Heap → Option R) (waveletlaw14_CblkOrders_p3 : Option Addr → Int → Int → Option Addr → Nat → Nat → Int → Option Addr → Nat → Nat → Int → Int → Heap → (Option Addr → Int → Int → Option Addr → Nat → Nat → Int → Option Addr → Nat → Nat → Int → Int → Int → Option Addr → Nat → Nat → Int → Option Addr → Int → Int → Int → Bool → Option R) → (Bool → Option R) → Option R) (waveletlaw14_CblkOrders_l4 : (Option Addr → Int → Int → Option Addr → Nat → Nat → Int → Option Addr → Nat → Nat → Int → Int → Int → Option Addr → Nat → Nat → Int → Option Addr → Int → Int → Int → Bool → Heap → Option R) → (Bool → Heap → Option R) → Nat → Option Addr → Int → Int → Option Addr → Nat → Nat → Int → Option Addr → Nat → Nat → Int → Int → Int → Int → Option Addr → Nat → Nat → Int → Option Addr → Int → Int → Int → Bool → Heap → Option R) (waveletlaw14_CblkOrders_p5 : Option Addr → Int → Int → Option Addr → Nat → Nat → Int → Option Addr → Nat → Nat → Int → (Option Addr → Int → Option Addr → Nat → Nat → Option R) → (Bool → Option R) → Option R) (waveletlaw14_CblkOrders_l6 : (Int → Option R) → (Bool → Option R) → Nat → Int → Option Addr → Nat → Nat → Option Addr → Nat → Nat → Int → Heap → Option R) (waveletlaw14_CblkOrders_p7 : Int → Option Addr → Nat → Nat → Option Addr → Nat → Nat → Int → Heap → (Int → Option Addr → Nat → Nat → Option Addr → Nat → Nat → Int → Option Addr → Nat → Nat → Int → Option Addr → Int → Option Addr → Nat → Nat → Int → Option Addr → Int → Bool → Option R) → (Bool → Option R) → Option R) (k n : Nat) (n85 : Int) (p86 : Option Addr) (n87 : Int) (n88 : Int) (q89 : Option Addr) (l90 : Nat) (c91 : Nat) (q92 : Option Addr) (l93 : Nat) (c94 : Nat) (n95 : Int) (H : Heap) (K : Xit → Env → Heap → Option R) : evJ (waveletlaw14_CblkOrders_Ct cblk_Scan cblk_Segments cblk_Raw cblk_Pass waveletlaw14_exampleHoldsq) (waveletlaw14_CblkOrders_Jt k waveletlaw14_CblkOrders_l0 waveletlaw14_CblkOrders_p1 waveletlaw14_CblkOrders_l2 waveletlaw14_CblkOrders_p3 waveletlaw14_CblkOrders_l4 waveletlaw14_CblkOrders_p5 waveletlaw14_CblkOrders_l6 waveletlaw14_CblkOrders_p7) waveletlaw14_CblkOrders_i0 (List.zip [1, 5, 7, 8, 9, 10, 11] [.int .u8 n85, .pointer p86, .int .i64 n87, .int .i64 n88, .slice q89 l90 c91, .slice q92 l93 c94, .int .i64 n95]) H (fun x e' H' => match x with | .normal => waveletlaw14_CblkOrders_aa0 waveletlaw14_CblkOrders_l0 n ((clean e' [1, 5, 7, 8, 9, 10, 11]).map (·.2)) H' K | x => K x (clean e' ((⟨[], [(0, [1, 5, 7, 8, 9])], [6]⟩ : Out).of x)) H') = waveletlaw14_CblkOrders_l0_b waveletlaw14_CblkOrders_p1 (waveletlaw14_CblkOrders_l0 (fun n1510 p1511 n1512 n1513 q1514 l1515 c1516 H => K (.exit 0) [(1, .int .u8 n1510), (5, .pointer p1511), (7, .int .i64 n1512), (8, .int .i64 n1513), (9, .slice q1514 l1515 c1516)] H) (fun t1517 H => K .ret [(6, .bool t1517)] H) n) (fun n1510 p1511 n1512 n1513 q1514 l1515 c1516 H => K (.exit 0) [(1, .int .u8 n1510), (5, .pointer p1511), (7, .int .i64 n1512), (8, .int .i64 n1513), (9, .slice q1514 l1515 c1516)] H) (fun t1517 H => K .ret [(6, .bool t1517)] H) k n85 p86 n87 n88 q89 l90 c91 q92 l93 c94 n95 H := by kernel_rfl
theorem waveletlaw14_CblkOrders_j0 {R : Type} (k : Nat) : JS Try.prog 218 (waveletlaw14_CblkOrders_a0 R k k) [1, 5, 7, 8, 9, 10, 11] ⟨[], [(0, [1, 5, 7, 8, 9])], [6]⟩ (.loop (sel [1, 1, 1, 1, 0, 1, 0, 0] (Try.f5.body.getD .skip))) :=
  loop_ok (nt := 218) (c := (sel [1, 1, 1, 1, 0, 1, 0, 0] (Try.f5.body.getD .skip))) (C := waveletlaw14_CblkOrders_C R k) (an := An) (t := (.seq (.seq (.reg [1, 5, 7, 8, 9, 10, 11, 45, 56, 57, 58, 59, 62, 63, 64, 67, 68, 69, 70, 73, 74, 75, 76, 77, 78, 79, 80, 81, 82, 112, 113, 114, 115, 116, 117, 118, 119, 149, 150, 151, 152, 153, 154, 173, 174, 175, 176, 177, 178, 179, 180, 181, 202, 203, 206, 207, 208, 209, 212, 213, 216] []) (.cond .leaf .leaf)) (.seq (.node (.seq (.reg [1, 5, 7, 8, 9, 10, 11, 12, 56, 57, 58, 59, 62, 63, 64, 67, 68, 69, 70, 73, 74, 75, 76, 77, 78, 79, 80, 81, 82, 112, 113, 114, 115, 116, 117, 118, 119, 149, 150, 151, 152, 153, 154, 173, 174, 175, 176, 177, 178, 179, 180, 181, 202, 203, 206, 207, 208, 209, 212, 213, 216] []) (.seq (.opq 1 [1, 5, 7, 8, 9, 10, 11, 12] ⟨[1, 5, 7, 8, 9, 10, 11, 12, 56, 57, 58, 59, 62, 63, 64, 67, 68, 69, 70, 73, 74, 75, 76, 77, 78, 79, 80, 81, 82], [], [6]⟩ (.seq (.reg [1, 5, 7, 8, 9, 10, 11, 12, 56, 57, 58, 59, 62, 63, 64, 67, 68, 69, 70, 73, 74, 75, 76, 77, 78, 79, 80, 81, 82, 83, 112, 113, 114, 115, 116, 117, 118, 119, 149, 150, 151, 152, 153, 154, 173, 174, 175, 176, 177, 178, 179, 180, 181, 202, 203, 206, 207, 208, 209, 212, 213, 216] []) (.cond (.seq (.reg [6] []) .leaf) .leaf))) (.reg [1, 5, 7, 8, 9, 10, 11, 56, 57, 58, 59, 62, 63, 64, 67, 68, 69, 70, 73, 74, 75, 76, 77, 78, 79, 80, 81, 82, 112, 113, 114, 115, 116, 117, 118, 119, 149, 150, 151, 152, 153, 154, 173, 174, 175, 176, 177, 178, 179, 180, 181, 202, 203, 206, 207, 208, 209, 212, 213, 216] [])))) (.reg [1, 5, 7, 8, 9, 10, 11, 56, 57, 58, 59, 62, 63, 64, 67, 68, 69, 70, 73, 74, 75, 76, 77, 78, 79, 80, 81, 82, 112, 113, 114, 115, 116, 117, 118, 119, 149, 150, 151, 152, 153, 154, 173, 174, 175, 176, 177, 178, 179, 180, 181, 202, 203, 206, 207, 208, 209, 212, 213, 216] [])))) (ic := waveletlaw14_CblkOrders_i0) (waveletlaw14_CblkOrders_S R k) (waveletlaw14_CblkOrders_J R k) (by kernel_rfl) (And.intro (And.intro True.intro (And.intro True.intro True.intro)) (And.intro (And.intro True.intro (And.intro (waveletlaw14_CblkOrders_j1 k) True.intro)) True.intro)) (waveletlaw14_CblkOrders_a0 R k) (fun vals H K => by unfold waveletlaw14_CblkOrders_a0 waveletlaw14_CblkOrders_aa0; split <;> rfl)
    (fun n vals H K r h => by
      unfold waveletlaw14_CblkOrders_a0 waveletlaw14_CblkOrders_aa0 at h
      split at h <;> first | (cases h; done) | exact Eq.trans (waveletlaw14_CblkOrders_e0 (cblk_Scan k) (cblk_Segments k) (cblk_Raw k) cblk_Pass waveletlaw14_exampleHoldsq (waveletlaw14_CblkOrders_l0 k) (waveletlaw14_CblkOrders_p1 k) (waveletlaw14_CblkOrders_l2 k) (waveletlaw14_CblkOrders_p3 k) (waveletlaw14_CblkOrders_l4 k) (waveletlaw14_CblkOrders_p5 k) (waveletlaw14_CblkOrders_l6 k) (waveletlaw14_CblkOrders_p7 k) k n _ _ _ _ _ _ _ _ _ _ _ H K) h) k
def waveletlaw14_CblkOrders_ca {R : Type} (f : Int → Int → Int → Bool → Bool → Bool → Bool → Bool → Heap → (Bool → Heap → Option R) → Option R) (args : List Value) (H : Heap) (K : Value → Heap → Option R) : Option R :=
  match args with
  | [.agg ⟨[.int .u8 n61, .int .u8 n62]⟩, .int .u8 n63, .agg ⟨[.bool t64, .bool t65, .bool t66, .bool t67, .bool t68]⟩] => f n61 n62 n63 t64 t65 t66 t67 t68 H (fun t1642 H => K (.bool t1642) H)
  | _ => none
def waveletlaw14_CblkOrders_c (R : Type) (k : Nat) (args : List Value) (H : Heap) (K : Value → Heap → Option R) : Option R := waveletlaw14_CblkOrders_ca (waveletlaw14_CblkOrders k) args H K
theorem waveletlaw14_CblkOrders_e {R : Type} (cblk_Scan : Int → Int → Heap → (Option Addr → Nat → Nat → Heap → Option R) → Option R) (cblk_Segments : Int → Bool → Bool → Bool → Bool → Bool → Heap → (Option Addr → Nat → Nat → Heap → Option R) → Option R) (cblk_Raw : Int → Bool → Bool → Bool → Bool → Bool → Heap → (Bool → Heap → Option R) → Option R) (cblk_Pass : Int → (Int → Int → Option R) → Option R) (waveletlaw14_exampleHoldsq : (Bool → Option R) → Option R) (waveletlaw14_CblkOrders_l0 : (Int → Option Addr → Int → Int → Option Addr → Nat → Nat → Heap → Option R) → (Bool → Heap → Option R) → Nat → Int → Option Addr → Int → Int → Option Addr → Nat → Nat → Option Addr → Nat → Nat → Int → Heap → Option R) (waveletlaw14_CblkOrders_p1 : Int → Option Addr → Int → Int → Option Addr → Nat → Nat → Option Addr → Nat → Nat → Int → Option Addr → Heap → (Int → Option Addr → Int → Int → Option Addr → Nat → Nat → Option Addr → Nat → Nat → Int → Option Addr → Option Addr → Int → Int → Bool → Option Addr → Int → Bool → Option Addr → Int → Int → Bool → Option Addr → Nat → Nat → Option Addr → Int → Int → Int → Option Addr → Int → Int → Option Addr → Bool → Option R) → (Bool → Option R) → Option R) (waveletlaw14_CblkOrders_l2 : (Option Addr → Int → Int → Option Addr → Nat → Nat → Int → Option Addr → Nat → Nat → Int → Heap → Option R) → (Bool → Heap → Option R) → Nat → Option Addr → Int → Int → Option Addr → Nat → Nat → Int → Option Addr → Nat → Nat → Int → Int → Heap → Option R) (waveletlaw14_CblkOrders_p3 : Option Addr → Int → Int → Option Addr → Nat → Nat → Int → Option Addr → Nat → Nat → Int → Int → Heap → (Option Addr → Int → Int → Option Addr → Nat → Nat → Int → Option Addr → Nat → Nat → Int → Int → Int → Option Addr → Nat → Nat → Int → Option Addr → Int → Int → Int → Bool → Option R) → (Bool → Option R) → Option R) (waveletlaw14_CblkOrders_l4 : (Option Addr → Int → Int → Option Addr → Nat → Nat → Int → Option Addr → Nat → Nat → Int → Int → Int → Option Addr → Nat → Nat → Int → Option Addr → Int → Int → Int → Bool → Heap → Option R) → (Bool → Heap → Option R) → Nat → Option Addr → Int → Int → Option Addr → Nat → Nat → Int → Option Addr → Nat → Nat → Int → Int → Int → Int → Option Addr → Nat → Nat → Int → Option Addr → Int → Int → Int → Bool → Heap → Option R) (waveletlaw14_CblkOrders_p5 : Option Addr → Int → Int → Option Addr → Nat → Nat → Int → Option Addr → Nat → Nat → Int → (Option Addr → Int → Option Addr → Nat → Nat → Option R) → (Bool → Option R) → Option R) (waveletlaw14_CblkOrders_l6 : (Int → Option R) → (Bool → Option R) → Nat → Int → Option Addr → Nat → Nat → Option Addr → Nat → Nat → Int → Heap → Option R) (waveletlaw14_CblkOrders_p7 : Int → Option Addr → Nat → Nat → Option Addr → Nat → Nat → Int → Heap → (Int → Option Addr → Nat → Nat → Option Addr → Nat → Nat → Int → Option Addr → Nat → Nat → Int → Option Addr → Int → Option Addr → Nat → Nat → Int → Option Addr → Int → Bool → Option R) → (Bool → Option R) → Option R) (k : Nat) (n61 : Int) (n62 : Int) (n63 : Int) (t64 : Bool) (t65 : Bool) (t66 : Bool) (t67 : Bool) (t68 : Bool) (H : Heap) (K : Value → Heap → Option R) : evF (waveletlaw14_CblkOrders_Ct cblk_Scan cblk_Segments cblk_Raw cblk_Pass waveletlaw14_exampleHoldsq) (waveletlaw14_CblkOrders_Jt k waveletlaw14_CblkOrders_l0 waveletlaw14_CblkOrders_p1 waveletlaw14_CblkOrders_l2 waveletlaw14_CblkOrders_p3 waveletlaw14_CblkOrders_l4 waveletlaw14_CblkOrders_p5 waveletlaw14_CblkOrders_l6 waveletlaw14_CblkOrders_p7) waveletlaw14_CblkOrders_f [.agg ⟨[.int .u8 n61, .int .u8 n62]⟩, .int .u8 n63, .agg ⟨[.bool t64, .bool t65, .bool t66, .bool t67, .bool t68]⟩] H K = waveletlaw14_CblkOrders_b cblk_Scan waveletlaw14_CblkOrders_l0 cblk_Segments waveletlaw14_CblkOrders_l2 waveletlaw14_CblkOrders_p5 waveletlaw14_CblkOrders_l6 cblk_Pass waveletlaw14_exampleHoldsq k n61 n62 n63 t64 t65 t66 t67 t68 H (fun t1642 H => K (.bool t1642) H) := by kernel_rfl
theorem waveletlaw14_CblkOrders_cs (R : Type) (k : Nat) : ∀ args H K r, waveletlaw14_CblkOrders_c R k args H K = some r → ∃ v H', Tri Try.prog 5 args H v H' ∧ K v H' = some r := by
  intro args H K r h
  unfold waveletlaw14_CblkOrders_c waveletlaw14_CblkOrders_ca at h
  split at h
  · exact evF_ok (C := waveletlaw14_CblkOrders_C R k) (an := An) (t := waveletlaw14_CblkOrders_at) (fn := Try.f5) (c := (Try.f5.body.getD .skip)) (ifn := waveletlaw14_CblkOrders_f) (waveletlaw14_CblkOrders_S R k) (waveletlaw14_CblkOrders_J R k) Try.func5 (by kernel_rfl) (by kernel_rfl) (And.intro True.intro (And.intro True.intro (And.intro True.intro (And.intro True.intro (And.intro (And.intro True.intro (waveletlaw14_CblkOrders_j0 k)) (And.intro True.intro (And.intro True.intro (And.intro True.intro (And.intro (And.intro True.intro (waveletlaw14_CblkOrders_j2 k)) (And.intro (waveletlaw14_CblkOrders_j5 k) (And.intro True.intro (And.intro (And.intro True.intro (waveletlaw14_CblkOrders_j6 k)) (And.intro True.intro (And.intro True.intro (And.intro True.intro (And.intro True.intro True.intro)))))))))))))))) rfl (Eq.trans (waveletlaw14_CblkOrders_e (cblk_Scan k) (cblk_Segments k) (cblk_Raw k) cblk_Pass waveletlaw14_exampleHoldsq (waveletlaw14_CblkOrders_l0 k) (waveletlaw14_CblkOrders_p1 k) (waveletlaw14_CblkOrders_l2 k) (waveletlaw14_CblkOrders_p3 k) (waveletlaw14_CblkOrders_l4 k) (waveletlaw14_CblkOrders_p5 k) (waveletlaw14_CblkOrders_l6 k) (waveletlaw14_CblkOrders_p7 k) k _ _ _ _ _ _ _ _ H K) h)
  · cases h
/-! ### waveletlaw14_small: function 22 -/
def waveletlaw14_small_b {R : Type} (k : Nat) (n533 : Int) (n534 : Int) (q535 : Option Addr) (l536 : Nat) (c537 : Nat) (K : Bool → Option R) : Option R :=
bif decide (1 ≤ n533) then (bif decide (n533 ≤ 12) then (bif decide (1 ≤ n534) then (bif decide (n534 ≤ 12) then (K (decide (((l536 : Nat) : Int) ≤ 100)))
 else (K false))
 else (K false))
 else (K false))
 else (K false)

def waveletlaw14_small {R : Type} (n533 : Int) (n534 : Int) (q535 : Option Addr) (l536 : Nat) (c537 : Nat) (K : Bool → Option R) : Option R := waveletlaw14_small_b 0 n533 n534 q535 l536 c537 K

def waveletlaw14_small_Ct {R : Type} : Tab R := fun _ _ _ _ => none
def waveletlaw14_small_C (R : Type) (k : Nat) : Tab R := waveletlaw14_small_Ct
theorem waveletlaw14_small_S (R : Type) (k : Nat) : CSound Try.prog (waveletlaw14_small_C R k) := csound_nil
def waveletlaw14_small_Jt {R : Type} (k : Nat) : JTab R := fun _ _ _ _ => none
def waveletlaw14_small_J (R : Type) (k : Nat) : JTab R := waveletlaw14_small_Jt k
def waveletlaw14_small_at : AT := (.seq (.reg [0, 1, 2, 10, 11, 14, 15, 18, 19, 22, 23, 24] []) (.seq (.reg [6] []) .leaf))
def waveletlaw14_small_f : IFn := ⟨26, [.t 6], (.seq (.reg [⟨some 6, .mov (.c (Go.Value.bool false)), none⟩] [0, 1, 2, 10, 11, 14, 15, 18, 19, 22, 23, 24]) (.seq (.reg [⟨some 7, .mov (.t 0), none⟩,
 ⟨some 8, .cmp .leq (.c (Go.Value.int Go.IntKind.i64 1)) (.t 7), none⟩,
 ⟨some 9, .mov (.t 8), none⟩,
 ⟨some 10, .mov (.t 0), some (9, true)⟩,
 ⟨some 11, .cmp .leq (.t 10) (.c (Go.Value.int Go.IntKind.i64 12)), some (9, true)⟩,
 ⟨some 12, .pick (.t 9) (.t 11) (.c (Go.Value.bool false)), none⟩,
 ⟨some 13, .mov (.t 12), none⟩,
 ⟨some 14, .mov (.t 1), some (13, true)⟩,
 ⟨some 15, .cmp .leq (.c (Go.Value.int Go.IntKind.i64 1)) (.t 14), some (13, true)⟩,
 ⟨some 16, .pick (.t 13) (.t 15) (.c (Go.Value.bool false)), none⟩,
 ⟨some 17, .mov (.t 16), none⟩,
 ⟨some 18, .mov (.t 1), some (17, true)⟩,
 ⟨some 19, .cmp .leq (.t 18) (.c (Go.Value.int Go.IntKind.i64 12)), some (17, true)⟩,
 ⟨some 20, .pick (.t 17) (.t 19) (.c (Go.Value.bool false)), none⟩,
 ⟨some 21, .mov (.t 20), none⟩,
 ⟨some 22, .mov (.t 2), some (21, true)⟩,
 ⟨some 23, .len false (.t 22), some (21, true)⟩,
 ⟨some 24, .cmp .leq (.t 23) (.c (Go.Value.int Go.IntKind.i64 100)), some (21, true)⟩,
 ⟨some 25, .pick (.t 21) (.t 24) (.c (Go.Value.bool false)), none⟩,
 ⟨some 6, .mov (.t 25), none⟩] [6]) .ret))⟩
def waveletlaw14_small_ca {R : Type} (f : Int → Int → Option Addr → Nat → Nat → (Bool → Option R) → Option R) (args : List Value) (H : Heap) (K : Value → Heap → Option R) : Option R :=
  match args with
  | [.int .i64 n533, .int .i64 n534, .slice q535 l536 c537] => f n533 n534 q535 l536 c537 (fun t1643 => K (.bool t1643) H)
  | _ => none
def waveletlaw14_small_c (R : Type) (k : Nat) (args : List Value) (H : Heap) (K : Value → Heap → Option R) : Option R := waveletlaw14_small_ca waveletlaw14_small args H K
theorem waveletlaw14_small_e {R : Type} (k : Nat) (n533 : Int) (n534 : Int) (q535 : Option Addr) (l536 : Nat) (c537 : Nat) (H : Heap) (K : Value → Heap → Option R) : evF (waveletlaw14_small_Ct) (waveletlaw14_small_Jt k) waveletlaw14_small_f [.int .i64 n533, .int .i64 n534, .slice q535 l536 c537] H K = waveletlaw14_small_b k n533 n534 q535 l536 c537 (fun t1643 => K (.bool t1643) H) := by kernel_rfl
theorem waveletlaw14_small_cs (R : Type) (k : Nat) : ∀ args H K r, waveletlaw14_small_c R k args H K = some r → ∃ v H', Tri Try.prog 22 args H v H' ∧ K v H' = some r := by
  intro args H K r h
  unfold waveletlaw14_small_c waveletlaw14_small_ca at h
  split at h
  · exact evF_ok (C := waveletlaw14_small_C R 0) (an := An) (t := waveletlaw14_small_at) (fn := Try.f22) (c := (Try.f22.body.getD .skip)) (ifn := waveletlaw14_small_f) (waveletlaw14_small_S R 0) (waveletlaw14_small_J R 0) Try.func22 (by kernel_rfl) (by kernel_rfl) (And.intro True.intro (And.intro True.intro True.intro)) rfl (Eq.trans (waveletlaw14_small_e 0 _ _ _ _ _ H K) h)
  · cases h
/-! ### waveletref14_New: function 36 -/
def waveletref14_New_b {R : Type} (waveletref14_ValidSize : Int → Int → (Bool → Option R) → Option R) (k : Nat) (n549 : Int) (n550 : Int) (H : Heap) (K : Option Addr → Int → Heap → Option R) : Option R :=
waveletref14_ValidSize n549 n550 fun t551 =>
bif (!t551) then (K none 2 H)
 else (hmk [.int .i64 0, .bool false, .bool false, .bool false] 16 H (IntKind.wrap .i64 (n549 * n550)) (IntKind.wrap .i64 (n549 * n550)) fun q552 l553 c554 H555 =>
hal H555 [.int .i64 n549, .int .i64 n550, .slice q552 l553 c554] fun p556 H557 =>
K p556 0 H557)

def waveletref14_New {R : Type} (n549 : Int) (n550 : Int) (H : Heap) (K : Option Addr → Int → Heap → Option R) : Option R := waveletref14_New_b waveletref14_ValidSize 0 n549 n550 H K

def waveletref14_New_Ct {R : Type} (waveletref14_ValidSize : Int → Int → (Bool → Option R) → Option R) : Tab R := tcons 41 (waveletref14_ValidSize_ca waveletref14_ValidSize) <| fun _ _ _ _ => none
def waveletref14_New_C (R : Type) (k : Nat) : Tab R := waveletref14_New_Ct waveletref14_ValidSize
theorem waveletref14_New_S (R : Type) (k : Nat) : CSound Try.prog (waveletref14_New_C R k) := csound_cons (waveletref14_ValidSize_cs R k) <| csound_nil
def waveletref14_New_Jt {R : Type} (k : Nat) : JTab R := fun _ _ _ _ => none
def waveletref14_New_J (R : Type) (k : Nat) : JTab R := waveletref14_New_Jt k
def waveletref14_New_at : AT := (.seq (.reg [0, 1] []) (.seq (.seq (.reg [0, 1, 9] []) (.cond (.seq (.reg [4, 5] []) .leaf) .leaf)) (.seq (.reg [4, 5] []) .leaf)))
def waveletref14_New_f : IFn := ⟨18, [.t 4, .t 5], (.seq (.reg [⟨some 4, .mov (.c (Go.Value.pointer none)), none⟩,
 ⟨some 5, .mov (.c (Go.Value.int Go.IntKind.i64 0)), none⟩] [0, 1]) (.seq (.seq (.reg [⟨some 6, .mov (.t 0), none⟩,
 ⟨some 7, .mov (.t 1), none⟩,
 ⟨some 8, .call 41 [(.t 6), (.t 7)] (.one (.sc .bool)), none⟩,
 ⟨some 9, .lnot (.t 8), none⟩] [0, 1, 9]) (.cond (.t 9) (.seq (.reg [⟨some 4, .mov (.c (Go.Value.pointer none)), none⟩,
 ⟨some 5, .mov (.c (Go.Value.int Go.IntKind.i64 2)), none⟩] [4, 5]) .ret) .skip)) (.seq (.reg [⟨some 10, .mov (.t 0), none⟩,
 ⟨some 11, .mov (.t 1), none⟩,
 ⟨some 12, .mov (.t 0), none⟩,
 ⟨some 13, .mov (.t 1), none⟩,
 ⟨some 14, .bin .mul .i64 (.t 12) (.t 13), none⟩,
 ⟨some 15, .mks [.int .i64 0, .bool false, .bool false, .bool false] 16 (.t 14) (.t 14), none⟩,
 ⟨some 16, .bld [.int .i64 0, .int .i64 0, .slice none 0 0] [(0, 1, (.t 10)), (1, 1, (.t 11)), (2, 1, (.t 15))], none⟩,
 ⟨some 17, .box (.t 16), none⟩,
 ⟨some 4, .mov (.t 17), none⟩,
 ⟨some 5, .mov (.c (Go.Value.int Go.IntKind.i64 0)), none⟩] [4, 5]) .ret)))⟩
def waveletref14_New_ca {R : Type} (f : Int → Int → Heap → (Option Addr → Int → Heap → Option R) → Option R) (args : List Value) (H : Heap) (K : Value → Heap → Option R) : Option R :=
  match args with
  | [.int .i64 n549, .int .i64 n550] => f n549 n550 H (fun p1644 n1645 H => K (.tuple ⟨[.pointer p1644, .int .i64 n1645]⟩) H)
  | _ => none
def waveletref14_New_c (R : Type) (k : Nat) (args : List Value) (H : Heap) (K : Value → Heap → Option R) : Option R := waveletref14_New_ca waveletref14_New args H K
theorem waveletref14_New_e {R : Type} (waveletref14_ValidSize : Int → Int → (Bool → Option R) → Option R) (k : Nat) (n549 : Int) (n550 : Int) (H : Heap) (K : Value → Heap → Option R) : evF (waveletref14_New_Ct waveletref14_ValidSize) (waveletref14_New_Jt k) waveletref14_New_f [.int .i64 n549, .int .i64 n550] H K = waveletref14_New_b waveletref14_ValidSize k n549 n550 H (fun p1644 n1645 H => K (.tuple ⟨[.pointer p1644, .int .i64 n1645]⟩) H) := by kernel_rfl
theorem waveletref14_New_cs (R : Type) (k : Nat) : ∀ args H K r, waveletref14_New_c R k args H K = some r → ∃ v H', Tri Try.prog 36 args H v H' ∧ K v H' = some r := by
  intro args H K r h
  unfold waveletref14_New_c waveletref14_New_ca at h
  split at h
  · exact evF_ok (C := waveletref14_New_C R 0) (an := An) (t := waveletref14_New_at) (fn := Try.f36) (c := (Try.f36.body.getD .skip)) (ifn := waveletref14_New_f) (waveletref14_New_S R 0) (waveletref14_New_J R 0) Try.func36 (by kernel_rfl) (by kernel_rfl) (And.intro True.intro (And.intro (And.intro True.intro (And.intro (And.intro True.intro True.intro) True.intro)) (And.intro True.intro True.intro))) rfl (Eq.trans (waveletref14_New_e waveletref14_ValidSize 0 _ _ H K) h)
  · cases h
/-! ### cblk_Block_Touch: function 51 -/
def cblk_Block_Touch_b {R : Type} (cblk_Block_at : Option Addr → Int → Int → Heap → (Option Addr → Option R) → Option R) (cblk_Block_missing : Option Addr → Heap → (Int → Option R) → Option R) (k : Nat) (p601 : Option Addr) (n602 : Int) (n603 : Int) (t604 : Bool) (H : Heap) (K : Int → Heap → Option R) : Option R :=
cblk_Block_at p601 n602 n603 H fun p605 =>
bif p605.isNone then (cblk_Block_missing p601 H fun n606 =>
K n606 H)
 else (hnil p605 fun p607 =>
hfad 2 p607 fun p608 =>
hst1 H p608 (.bool t604) fun H609 =>
K 0 H609)

def cblk_Block_Touch {R : Type} (k : Nat) (p601 : Option Addr) (n602 : Int) (n603 : Int) (t604 : Bool) (H : Heap) (K : Int → Heap → Option R) : Option R := cblk_Block_Touch_b (cblk_Block_at k) cblk_Block_missing k p601 n602 n603 t604 H K

def cblk_Block_Touch_Ct {R : Type} (cblk_Block_at : Option Addr → Int → Int → Heap → (Option Addr → Option R) → Option R) (cblk_Block_missing : Option Addr → Heap → (Int → Option R) → Option R) : Tab R := tcons 46 (cblk_Block_at_ca cblk_Block_at) <| tcons 47 (cblk_Block_missing_ca cblk_Block_missing) <| fun _ _ _ _ => none
def cblk_Block_Touch_C (R : Type) (k : Nat) : Tab R := cblk_Block_Touch_Ct (cblk_Block_at k) cblk_Block_missing
theorem cblk_Block_Touch_S (R : Type) (k : Nat) : CSound Try.prog (cblk_Block_Touch_C R k) := csound_cons (cblk_Block_at_cs R k) <| csound_cons (cblk_Block_missing_cs R k) <| csound_nil
def cblk_Block_Touch_Jt {R : Type} (k : Nat) : JTab R := fun _ _ _ _ => none
def cblk_Block_Touch_J (R : Type) (k : Nat) : JTab R := cblk_Block_Touch_Jt k
def cblk_Block_Touch_at : AT := (.seq (.reg [0, 1, 2, 3] []) (.seq (.reg [0, 3, 9] []) (.seq (.seq (.reg [0, 3, 9, 15] []) (.cond (.seq (.reg [8] []) .leaf) .leaf)) (.seq (.reg [] []) (.seq (.reg [8] []) .leaf)))))
def cblk_Block_Touch_f : IFn := ⟨22, [.t 8], (.seq (.reg [⟨some 8, .mov (.c (Go.Value.int Go.IntKind.i64 0)), none⟩] [0, 1, 2, 3]) (.seq (.reg [⟨some 10, .mov (.t 0), none⟩,
 ⟨some 11, .mov (.t 1), none⟩,
 ⟨some 12, .mov (.t 2), none⟩,
 ⟨some 13, .call 46 [(.t 10), (.t 11), (.t 12)] (.one (.sc .ptr)), none⟩,
 ⟨some 9, .mov (.t 13), none⟩] [0, 3, 9]) (.seq (.seq (.reg [⟨some 14, .mov (.t 9), none⟩,
 ⟨some 15, .eqnil (.t 14) false 0, none⟩] [0, 3, 9, 15]) (.cond (.t 15) (.seq (.reg [⟨some 16, .mov (.t 0), none⟩,
 ⟨some 17, .call 47 [(.t 16)] (.one (.sc (.int .i64))), none⟩,
 ⟨some 8, .mov (.t 17), none⟩] [8]) .ret) .skip)) (.seq (.reg [⟨some 18, .mov (.t 9), none⟩,
 ⟨some 19, .mov (.t 3), none⟩,
 ⟨some 20, .nilc (.t 18), none⟩,
 ⟨some 21, .fad 2 (.t 20), none⟩,
 ⟨none, .st 1 (.t 21) (.t 19), none⟩] []) (.seq (.reg [⟨some 8, .mov (.c (Go.Value.int Go.IntKind.i64 0)), none⟩] [8]) .ret)))))⟩
def cblk_Block_Touch_ca {R : Type} (f : Option Addr → Int → Int → Bool → Heap → (Int → Heap → Option R) → Option R) (args : List Value) (H : Heap) (K : Value → Heap → Option R) : Option R :=
  match args with
  | [.pointer p601, .int .i64 n602, .int .i64 n603, .bool t604] => f p601 n602 n603 t604 H (fun n1646 H => K (.int .i64 n1646) H)
  | _ => none
def cblk_Block_Touch_c (R : Type) (k : Nat) (args : List Value) (H : Heap) (K : Value → Heap → Option R) : Option R := cblk_Block_Touch_ca (cblk_Block_Touch k) args H K
theorem cblk_Block_Touch_e {R : Type} (cblk_Block_at : Option Addr → Int → Int → Heap → (Option Addr → Option R) → Option R) (cblk_Block_missing : Option Addr → Heap → (Int → Option R) → Option R) (k : Nat) (p601 : Option Addr) (n602 : Int) (n603 : Int) (t604 : Bool) (H : Heap) (K : Value → Heap → Option R) : evF (cblk_Block_Touch_Ct cblk_Block_at cblk_Block_missing) (cblk_Block_Touch_Jt k) cblk_Block_Touch_f [.pointer p601, .int .i64 n602, .int .i64 n603, .bool t604] H K = cblk_Block_Touch_b cblk_Block_at cblk_Block_missing k p601 n602 n603 t604 H (fun n1646 H => K (.int .i64 n1646) H) := by kernel_rfl
theorem cblk_Block_Touch_cs (R : Type) (k : Nat) : ∀ args H K r, cblk_Block_Touch_c R k args H K = some r → ∃ v H', Tri Try.prog 51 args H v H' ∧ K v H' = some r := by
  intro args H K r h
  unfold cblk_Block_Touch_c cblk_Block_Touch_ca at h
  split at h
  · exact evF_ok (C := cblk_Block_Touch_C R k) (an := An) (t := cblk_Block_Touch_at) (fn := Try.f51) (c := (Try.f51.body.getD .skip)) (ifn := cblk_Block_Touch_f) (cblk_Block_Touch_S R k) (cblk_Block_Touch_J R k) Try.func51 (by kernel_rfl) (by kernel_rfl) (And.intro True.intro (And.intro True.intro (And.intro (And.intro True.intro (And.intro (And.intro True.intro True.intro) True.intro)) (And.intro True.intro (And.intro True.intro True.intro))))) rfl (Eq.trans (cblk_Block_Touch_e (cblk_Block_at k) cblk_Block_missing k _ _ _ _ H K) h)
  · cases h
end Go.Proofs.Ytblpaolcgkjcgaa.Sh
