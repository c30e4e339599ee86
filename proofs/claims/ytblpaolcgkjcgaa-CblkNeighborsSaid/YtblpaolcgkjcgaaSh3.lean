/- Lean functions that stand for Go's, over an explicit heap, and the proofs that they do (written by this claim's program shallow.py). -/
import Derived.Test.YtblpaolcgkjcgaaSh2
set_option maxRecDepth 100000
set_option linter.unusedVariables false
set_option linter.unusedSimpArgs false
namespace Go.Proofs.Ytblpaolcgkjcgaa.Sh
open Go.Proofs.Ytblpaolcgkjcgaa.FW
/-! ### R14_Pass: function 16 -/
def R14_Pass_b {R : Type} (R01_FloorDiv : Int → Int → (Int → Option R) → Option R) (k : Nat) (n24 : Int) (K : Int → Int → Option R) : Option R :=
bif decide (n24 < 0) then (K (-1) (-1))
 else (bif (n24 == 0) then (K 0 2)
 else (R01_FloorDiv (IntKind.wrap .i64 (n24 - 1)) 3 fun n25 =>
K (IntKind.wrap .i64 (1 + n25)) (Int.tmod (IntKind.wrap .i64 (n24 - 1)) 3)))

def R14_Pass {R : Type} (n24 : Int) (K : Int → Int → Option R) : Option R := R14_Pass_b R01_FloorDiv 0 n24 K

def R14_Pass_Ct {R : Type} (R01_FloorDiv : Int → Int → (Int → Option R) → Option R) : Tab R := tcons 43 (R01_FloorDiv_ca R01_FloorDiv) <| fun _ _ _ _ => none
def R14_Pass_C (R : Type) (k : Nat) : Tab R := R14_Pass_Ct R01_FloorDiv
theorem R14_Pass_S (R : Type) (k : Nat) : CSound Try.prog (R14_Pass_C R k) := csound_cons (R01_FloorDiv_cs R k) <| csound_nil
def R14_Pass_Jt {R : Type} (k : Nat) : JTab R := fun _ _ _ _ => none
def R14_Pass_J (R : Type) (k : Nat) : JTab R := R14_Pass_Jt k
def R14_Pass_at : AT := (.seq (.reg [0] []) (.seq (.seq (.reg [0, 5] []) (.cond (.seq (.reg [2, 3] []) .leaf) .leaf)) (.seq (.seq (.reg [0, 7] []) (.cond (.seq (.reg [2, 3] []) .leaf) .leaf)) (.seq (.reg [2, 3] []) .leaf))))
def R14_Pass_f : IFn := ⟨15, [.t 2, .t 3], (.seq (.reg [⟨some 2, .mov (.c (Go.Value.int Go.IntKind.i64 0)), none⟩,
 ⟨some 3, .mov (.c (Go.Value.int Go.IntKind.i64 0)), none⟩] [0]) (.seq (.seq (.reg [⟨some 4, .mov (.t 0), none⟩,
 ⟨some 5, .cmp .lss (.t 4) (.c (Go.Value.int Go.IntKind.i64 0)), none⟩] [0, 5]) (.cond (.t 5) (.seq (.reg [⟨some 2, .mov (.c (Go.Value.int Go.IntKind.i64 (-1))), none⟩,
 ⟨some 3, .mov (.c (Go.Value.int Go.IntKind.i64 (-1))), none⟩] [2, 3]) .ret) .skip)) (.seq (.seq (.reg [⟨some 6, .mov (.t 0), none⟩,
 ⟨some 7, .cmp .eql (.t 6) (.c (Go.Value.int Go.IntKind.i64 0)), none⟩] [0, 7]) (.cond (.t 7) (.seq (.reg [⟨some 2, .mov (.c (Go.Value.int Go.IntKind.i64 0)), none⟩,
 ⟨some 3, .mov (.c (Go.Value.int Go.IntKind.i64 2)), none⟩] [2, 3]) .ret) .skip)) (.seq (.reg [⟨some 8, .mov (.t 0), none⟩,
 ⟨some 9, .bin .sub .i64 (.t 8) (.c (Go.Value.int Go.IntKind.i64 1)), none⟩,
 ⟨some 10, .call 43 [(.t 9), (.c (Go.Value.int Go.IntKind.i64 3))] (.one (.sc (.int .i64))), none⟩,
 ⟨some 11, .bin .add .i64 (.c (Go.Value.int Go.IntKind.i64 1)) (.t 10), none⟩,
 ⟨some 12, .mov (.t 0), none⟩,
 ⟨some 13, .bin .sub .i64 (.t 12) (.c (Go.Value.int Go.IntKind.i64 1)), none⟩,
 ⟨some 14, .bin .rem .i64 (.t 13) (.c (Go.Value.int Go.IntKind.i64 3)), none⟩,
 ⟨some 2, .mov (.t 11), none⟩,
 ⟨some 3, .mov (.t 14), none⟩] [2, 3]) .ret))))⟩
def R14_Pass_ca {R : Type} (f : Int → (Int → Int → Option R) → Option R) (args : List Value) (H : Heap) (K : Value → Heap → Option R) : Option R :=
  match args with
  | [.int .i64 n24] => f n24 (fun n1194 n1195 => K (.tuple ⟨[.int .i64 n1194, .int .i64 n1195]⟩) H)
  | _ => none
def R14_Pass_c (R : Type) (k : Nat) (args : List Value) (H : Heap) (K : Value → Heap → Option R) : Option R := R14_Pass_ca R14_Pass args H K
theorem R14_Pass_e {R : Type} (R01_FloorDiv : Int → Int → (Int → Option R) → Option R) (k : Nat) (n24 : Int) (H : Heap) (K : Value → Heap → Option R) : evF (R14_Pass_Ct R01_FloorDiv) (R14_Pass_Jt k) R14_Pass_f [.int .i64 n24] H K = R14_Pass_b R01_FloorDiv k n24 (fun n1194 n1195 => K (.tuple ⟨[.int .i64 n1194, .int .i64 n1195]⟩) H) := by kernel_rfl
theorem R14_Pass_cs (R : Type) (k : Nat) : ∀ args H K r, R14_Pass_c R k args H K = some r → ∃ v H', Tri Try.prog 16 args H v H' ∧ K v H' = some r := by
  intro args H K r h
  unfold R14_Pass_c R14_Pass_ca at h
  split at h
  · exact evF_ok (C := R14_Pass_C R 0) (an := An) (t := R14_Pass_at) (fn := Try.f16) (c := (Try.f16.body.getD .skip)) (ifn := R14_Pass_f) (R14_Pass_S R 0) (R14_Pass_J R 0) Try.func16 (by kernel_rfl) (by kernel_rfl) (And.intro True.intro (And.intro (And.intro True.intro (And.intro (And.intro True.intro True.intro) True.intro)) (And.intro (And.intro True.intro (And.intro (And.intro True.intro True.intro) True.intro)) (And.intro True.intro True.intro)))) rfl (Eq.trans (R14_Pass_e R01_FloorDiv 0 _ H K) h)
  · cases h
/-! ### R14_Raw: function 18 -/
def R14_Raw_b {R : Type} (R14_Pass : Int → (Int → Int → Option R) → Option R) (k : Nat) (n42 : Int) (t43 : Bool) (t44 : Bool) (t45 : Bool) (t46 : Bool) (t47 : Bool) (H : Heap) (K : Bool → Heap → Option R) : Option R :=
hal H [.bool t43, .bool t44, .bool t45, .bool t46, .bool t47] fun p48 H49 =>
R14_Pass n42 fun n50 n51 =>
hfad 0 p48 fun p52 =>
ldB H49 p52 fun t53 =>
bif t53 then (bif decide (n50 ≥ 4) then (K (n51 != 2) H49)
 else (K false H49))
 else (K false H49)

def R14_Raw {R : Type} (n42 : Int) (t43 : Bool) (t44 : Bool) (t45 : Bool) (t46 : Bool) (t47 : Bool) (H : Heap) (K : Bool → Heap → Option R) : Option R := R14_Raw_b R14_Pass 0 n42 t43 t44 t45 t46 t47 H K

def R14_Raw_Ct {R : Type} (R14_Pass : Int → (Int → Int → Option R) → Option R) : Tab R := tcons 16 (R14_Pass_ca R14_Pass) <| fun _ _ _ _ => none
def R14_Raw_C (R : Type) (k : Nat) : Tab R := R14_Raw_Ct R14_Pass
theorem R14_Raw_S (R : Type) (k : Nat) : CSound Try.prog (R14_Raw_C R k) := csound_cons (R14_Pass_cs R k) <| csound_nil
def R14_Raw_Jt {R : Type} (k : Nat) : JTab R := fun _ _ _ _ => none
def R14_Raw_J (R : Type) (k : Nat) : JTab R := R14_Raw_Jt k
def R14_Raw_at : AT := (.seq (.reg [0, 3] []) (.seq (.reg [3, 5, 6] []) (.seq (.reg [4] []) .leaf)))
def R14_Raw_f : IFn := ⟨22, [.t 4], (.seq (.reg [⟨some 3, .box (.t 1), none⟩,
 ⟨some 4, .mov (.c (Go.Value.bool false)), none⟩] [0, 3]) (.seq (.reg [⟨some 8, .mov (.t 0), none⟩,
 ⟨some 9, .call 16 [(.t 8)] (.tup [(.sc (.int .i64)), (.sc (.int .i64))]), none⟩,
 ⟨some 7, .mov (.t 9), none⟩,
 ⟨some 10, .ext 0 (.t 7), none⟩,
 ⟨some 11, .ext 1 (.t 7), none⟩,
 ⟨some 5, .mov (.t 10), none⟩,
 ⟨some 6, .mov (.t 11), none⟩] [3, 5, 6]) (.seq (.reg [⟨some 12, .fad 0 (.t 3), none⟩,
 ⟨some 13, .ld (.sc .bool) (.t 12), none⟩,
 ⟨some 14, .mov (.t 13), none⟩,
 ⟨some 15, .mov (.t 5), some (14, true)⟩,
 ⟨some 16, .cmp .geq (.t 15) (.c (Go.Value.int Go.IntKind.i64 4)), some (14, true)⟩,
 ⟨some 17, .pick (.t 14) (.t 16) (.c (Go.Value.bool false)), none⟩,
 ⟨some 18, .mov (.t 17), none⟩,
 ⟨some 19, .mov (.t 6), some (18, true)⟩,
 ⟨some 20, .cmp .neq (.t 19) (.c (Go.Value.int Go.IntKind.i64 2)), some (18, true)⟩,
 ⟨some 21, .pick (.t 18) (.t 20) (.c (Go.Value.bool false)), none⟩,
 ⟨some 4, .mov (.t 21), none⟩] [4]) .ret)))⟩
def R14_Raw_ca {R : Type} (f : Int → Bool → Bool → Bool → Bool → Bool → Heap → (Bool → Heap → Option R) → Option R) (args : List Value) (H : Heap) (K : Value → Heap → Option R) : Option R :=
  match args with
  | [.int .i64 n42, .agg ⟨[.bool t43, .bool t44, .bool t45, .bool t46, .bool t47]⟩] => f n42 t43 t44 t45 t46 t47 H (fun t1196 H => K (.bool t1196) H)
  | _ => none
def R14_Raw_c (R : Type) (k : Nat) (args : List Value) (H : Heap) (K : Value → Heap → Option R) : Option R := R14_Raw_ca R14_Raw args H K
theorem R14_Raw_e {R : Type} (R14_Pass : Int → (Int → Int → Option R) → Option R) (k : Nat) (n42 : Int) (t43 : Bool) (t44 : Bool) (t45 : Bool) (t46 : Bool) (t47 : Bool) (H : Heap) (K : Value → Heap → Option R) : evF (R14_Raw_Ct R14_Pass) (R14_Raw_Jt k) R14_Raw_f [.int .i64 n42, .agg ⟨[.bool t43, .bool t44, .bool t45, .bool t46, .bool t47]⟩] H K = R14_Raw_b R14_Pass k n42 t43 t44 t45 t46 t47 H (fun t1196 H => K (.bool t1196) H) := by kernel_rfl
theorem R14_Raw_cs (R : Type) (k : Nat) : ∀ args H K r, R14_Raw_c R k args H K = some r → ∃ v H', Tri Try.prog 18 args H v H' ∧ K v H' = some r := by
  intro args H K r h
  unfold R14_Raw_c R14_Raw_ca at h
  split at h
  · exact evF_ok (C := R14_Raw_C R 0) (an := An) (t := R14_Raw_at) (fn := Try.f18) (c := (Try.f18.body.getD .skip)) (ifn := R14_Raw_f) (R14_Raw_S R 0) (R14_Raw_J R 0) Try.func18 (by kernel_rfl) (by kernel_rfl) (And.intro True.intro (And.intro True.intro (And.intro True.intro True.intro))) rfl (Eq.trans (R14_Raw_e R14_Pass 0 _ _ _ _ _ _ H K) h)
  · cases h
/-! ### R14_Segments: function 21 -/
def R14_Segments_p0_b {R : Type} (k : Nat) (n79 : Int) (p80 : Option Addr) (KN : Int → Option Addr → Option R) (KR : Option Addr → Nat → Nat → Option R) : Option R :=
bif decide (n79 < 1) then (KR none 0 0)
 else (bif decide (n79 > 178) then (KR none 0 0)
 else (KN n79 p80))
def R14_Segments_p0 {R : Type} (k : Nat) (n79 : Int) (p80 : Option Addr) (KN : Int → Option Addr → Option R) (KR : Option Addr → Nat → Nat → Option R) : Option R := R14_Segments_p0_b k n79 p80 KN KR

def R14_Segments_p3_b {R : Type} (k : Nat) (p101 : Option Addr) (q102 : Option Addr) (l103 : Nat) (c104 : Nat) (n105 : Int) (n106 : Int) (H : Heap) (KN : Option Addr → Option Addr → Nat → Nat → Int → Int → Bool → Option R) : Option R :=
hfad 0 p101 fun p107 =>
ldB H p107 fun t108 =>
bif t108 then (KN p101 q102 l103 c104 n105 n106 (((l103 : Nat) : Int) == 0))
 else (KN p101 q102 l103 c104 n105 n106 false)
def R14_Segments_p3 {R : Type} (k : Nat) (p101 : Option Addr) (q102 : Option Addr) (l103 : Nat) (c104 : Nat) (n105 : Int) (n106 : Int) (H : Heap) (KN : Option Addr → Option Addr → Nat → Nat → Int → Int → Bool → Option R) : Option R := R14_Segments_p3_b k p101 q102 l103 c104 n105 n106 H KN

def R14_Segments_p2_b {R : Type} (R14_Segments_p3 : Option Addr → Option Addr → Nat → Nat → Int → Int → Heap → (Option Addr → Option Addr → Nat → Nat → Int → Int → Bool → Option R) → Option R) (k : Nat) (p93 : Option Addr) (q94 : Option Addr) (l95 : Nat) (c96 : Nat) (n97 : Int) (n98 : Int) (H : Heap) (KN : Option Addr → Option Addr → Nat → Nat → Int → Int → Option R) : Option R :=
hfad 1 p93 fun p99 =>
ldB H p99 fun t100 =>
bif t100 then (KN p93 q94 l95 c96 n97 1)
 else (R14_Segments_p3 p93 q94 l95 c96 n97 n98 H (fun p116 q117 l118 c119 n120 n121 t122 =>
bif t122 then (KN p116 q117 l118 c119 n120 (imn n120 10))
 else (hfad 0 p116 fun p123 =>
ldB H p123 fun t124 =>
bif t124 then (KN p116 q117 l118 c119 n120 (imn n120 (IntKind.wrap .i64 (1 + (Int.tmod ((l118 : Nat) : Int) 2)))))
 else (KN p116 q117 l118 c119 n120 n121))))
def R14_Segments_p2 {R : Type} (k : Nat) (p93 : Option Addr) (q94 : Option Addr) (l95 : Nat) (c96 : Nat) (n97 : Int) (n98 : Int) (H : Heap) (KN : Option Addr → Option Addr → Nat → Nat → Int → Int → Option R) : Option R := R14_Segments_p2_b (R14_Segments_p3 k) k p93 q94 l95 c96 n97 n98 H KN

def R14_Segments_l1_b {R : Type} (R14_Segments_p2 : Option Addr → Option Addr → Nat → Nat → Int → Int → Heap → (Option Addr → Option Addr → Nat → Nat → Int → Int → Option R) → Option R) (rec : Option Addr → Option Addr → Nat → Nat → Int → Heap → Option R) (KE0 : Option Addr → Nat → Nat → Heap → Option R) (k : Nat) (p88 : Option Addr) (q89 : Option Addr) (l90 : Nat) (c91 : Nat) (n92 : Int) (H : Heap) : Option R :=
bif decide (n92 > 0) then (R14_Segments_p2 p88 q89 l90 c91 n92 n92 H (fun p131 q132 l133 c134 n135 n136 =>
hal H [.int .i64 n136] fun p137 H138 =>
happS 1 8 H138 q132 l133 c134 p137 1 fun q139 l140 c141 H142 =>
rec p131 q139 l140 c141 (IntKind.wrap .i64 (n135 - n136)) H142))
 else (KE0 q89 l90 c91 H)
def R14_Segments_l1 {R : Type} (k : Nat) (KE0 : Option Addr → Nat → Nat → Heap → Option R) : Nat → Option Addr → Option Addr → Nat → Nat → Int → Heap → Option R
  | 0, _, _, _, _, _, _ => none
  | n + 1, p88, q89, l90, c91, n92, H => R14_Segments_l1_b (R14_Segments_p2 k) (R14_Segments_l1 k KE0 n) KE0 k p88 q89 l90 c91 n92 H

def R14_Segments_b {R : Type} (R14_Segments_p0 : Int → Option Addr → (Int → Option Addr → Option R) → (Option Addr → Nat → Nat → Option R) → Option R) (R14_Segments_l1 : (Option Addr → Nat → Nat → Heap → Option R) → Nat → Option Addr → Option Addr → Nat → Nat → Int → Heap → Option R) (k : Nat) (n71 : Int) (t72 : Bool) (t73 : Bool) (t74 : Bool) (t75 : Bool) (t76 : Bool) (H : Heap) (K : Option Addr → Nat → Nat → Heap → Option R) : Option R :=
hal H [.bool t72, .bool t73, .bool t74, .bool t75, .bool t76] fun p77 H78 =>
R14_Segments_p0 n71 p77 (fun n86 p87 =>
R14_Segments_l1 (fun q146 l147 c148 H149 =>
K q146 l147 c148 H149) k p87 none 0 0 n86 H78) (fun q150 l151 c152 =>
K q150 l151 c152 H78)

def R14_Segments {R : Type} (k : Nat) (n71 : Int) (t72 : Bool) (t73 : Bool) (t74 : Bool) (t75 : Bool) (t76 : Bool) (H : Heap) (K : Option Addr → Nat → Nat → Heap → Option R) : Option R := R14_Segments_b (R14_Segments_p0 k) (R14_Segments_l1 k) k n71 t72 t73 t74 t75 t76 H K

def R14_Segments_Ct {R : Type} : Tab R := fun _ _ _ _ => none
def R14_Segments_C (R : Type) (k : Nat) : Tab R := R14_Segments_Ct
theorem R14_Segments_S (R : Type) (k : Nat) : CSound Try.prog (R14_Segments_C R k) := csound_nil
def R14_Segments_aa0 {R : Type} (f : Int → Option Addr → (Int → Option Addr → Option R) → (Option Addr → Nat → Nat → Option R) → Option R) (n : Nat) (vals : List Value) (H : Heap) (K : Xit → Env → Heap → Option R) : Option R :=
  match vals with
  | [.int .i64 n79, .pointer p80] => f n79 p80 (fun n1197 p1198 => K .normal [(0, .int .i64 n1197), (3, .pointer p1198)] H) (fun q1199 l1200 c1201 => K .ret [(4, .slice q1199 l1200 c1201)] H)
  | _ => none
def R14_Segments_a0 (R : Type) (k n : Nat) (vals : List Value) (H : Heap) (K : Xit → Env → Heap → Option R) : Option R := R14_Segments_aa0 (R14_Segments_p0 k) n vals H K
def R14_Segments_aa1 {R : Type} (f : (Option Addr → Nat → Nat → Heap → Option R) → Nat → Option Addr → Option Addr → Nat → Nat → Int → Heap → Option R) (n : Nat) (vals : List Value) (H : Heap) (K : Xit → Env → Heap → Option R) : Option R :=
  match vals with
  | [.pointer p88, .slice q89 l90 c91, .int .i64 n92] => f (fun q1202 l1203 c1204 H => K (.exit 0) [(5, .slice q1202 l1203 c1204)] H) n p88 q89 l90 c91 n92 H
  | _ => none
def R14_Segments_a1 (R : Type) (k n : Nat) (vals : List Value) (H : Heap) (K : Xit → Env → Heap → Option R) : Option R := R14_Segments_aa1 (R14_Segments_l1 k) n vals H K
def R14_Segments_aa2 {R : Type} (f : Option Addr → Option Addr → Nat → Nat → Int → Int → Heap → (Option Addr → Option Addr → Nat → Nat → Int → Int → Option R) → Option R) (n : Nat) (vals : List Value) (H : Heap) (K : Xit → Env → Heap → Option R) : Option R :=
  match vals with
  | [.pointer p93, .slice q94 l95 c96, .int .i64 n97, .int .i64 n98] => f p93 q94 l95 c96 n97 n98 H (fun p1205 q1206 l1207 c1208 n1209 n1210 => K .normal [(3, .pointer p1205), (5, .slice q1206 l1207 c1208), (6, .int .i64 n1209), (7, .int .i64 n1210)] H)
  | _ => none
def R14_Segments_a2 (R : Type) (k n : Nat) (vals : List Value) (H : Heap) (K : Xit → Env → Heap → Option R) : Option R := R14_Segments_aa2 (R14_Segments_p2 k) n vals H K
def R14_Segments_aa3 {R : Type} (f : Option Addr → Option Addr → Nat → Nat → Int → Int → Heap → (Option Addr → Option Addr → Nat → Nat → Int → Int → Bool → Option R) → Option R) (n : Nat) (vals : List Value) (H : Heap) (K : Xit → Env → Heap → Option R) : Option R :=
  match vals with
  | [.pointer p101, .slice q102 l103 c104, .int .i64 n105, .int .i64 n106] => f p101 q102 l103 c104 n105 n106 H (fun p1211 q1212 l1213 c1214 n1215 n1216 t1217 => K .normal [(3, .pointer p1211), (5, .slice q1212 l1213 c1214), (6, .int .i64 n1215), (7, .int .i64 n1216), (26, .bool t1217)] H)
  | _ => none
def R14_Segments_a3 (R : Type) (k n : Nat) (vals : List Value) (H : Heap) (K : Xit → Env → Heap → Option R) : Option R := R14_Segments_aa3 (R14_Segments_p3 k) n vals H K
def R14_Segments_Jt {R : Type} (k : Nat) (R14_Segments_p0 : Int → Option Addr → (Int → Option Addr → Option R) → (Option Addr → Nat → Nat → Option R) → Option R) (R14_Segments_l1 : (Option Addr → Nat → Nat → Heap → Option R) → Nat → Option Addr → Option Addr → Nat → Nat → Int → Heap → Option R) (R14_Segments_p2 : Option Addr → Option Addr → Nat → Nat → Int → Int → Heap → (Option Addr → Option Addr → Nat → Nat → Int → Int → Option R) → Option R) (R14_Segments_p3 : Option Addr → Option Addr → Nat → Nat → Int → Int → Heap → (Option Addr → Option Addr → Nat → Nat → Int → Int → Bool → Option R) → Option R) : JTab R := tcons 0 (R14_Segments_aa0 R14_Segments_p0 k) <| tcons 1 (R14_Segments_aa1 R14_Segments_l1 k) <| tcons 2 (R14_Segments_aa2 R14_Segments_p2 k) <| tcons 3 (R14_Segments_aa3 R14_Segments_p3 k) <| fun _ _ _ _ => none
def R14_Segments_J (R : Type) (k : Nat) : JTab R := R14_Segments_Jt k (R14_Segments_p0 k) (R14_Segments_l1 k) (R14_Segments_p2 k) (R14_Segments_p3 k)
def R14_Segments_at : AT := (.seq (.reg [0, 3] []) (.seq (.opq 0 [0, 3] ⟨[0, 3], [], [4]⟩ (.seq (.reg [0, 3, 13] []) (.cond (.seq (.reg [4] []) .leaf) .leaf))) (.seq (.reg [0, 3, 5] []) (.seq (.reg [3, 5, 6] []) (.seq (.node (.opq 1 [3, 5, 6] ⟨[], [(0, [5])], []⟩ (.node (.seq (.seq (.reg [3, 5, 6, 16] []) (.cond .leaf .leaf)) (.node (.seq (.reg [3, 5, 6, 7] []) (.seq (.opq 2 [3, 5, 6, 7] ⟨[3, 5, 6, 7], [], []⟩ (.seq (.reg [3, 5, 6, 7, 19] []) (.cond (.reg [3, 5, 6, 7] []) (.seq (.opq 3 [3, 5, 6, 7] ⟨[3, 5, 6, 7, 26], [], []⟩ (.reg [3, 5, 6, 7, 26] [])) (.cond (.reg [3, 5, 6, 7] []) (.seq (.reg [3, 5, 6, 7, 30] []) (.cond (.reg [3, 5, 6, 7] []) .leaf))))))) (.seq (.reg [3, 5, 6, 7] []) (.reg [3, 5, 6] []))))))))) (.seq (.reg [4] []) .leaf))))))
def R14_Segments_i3 : IC := (.reg [⟨some 20, .fad 0 (.t 3), none⟩,
 ⟨some 21, .ld (.sc .bool) (.t 20), none⟩,
 ⟨some 22, .mov (.t 21), none⟩,
 ⟨some 23, .mov (.t 5), some (22, true)⟩,
 ⟨some 24, .len false (.t 23), some (22, true)⟩,
 ⟨some 25, .cmp .eql (.t 24) (.c (Go.Value.int Go.IntKind.i64 0)), some (22, true)⟩,
 ⟨some 26, .pick (.t 22) (.t 25) (.c (Go.Value.bool false)), none⟩] [3, 5, 6, 7, 26])
def R14_Segments_i2 : IC := (.seq (.reg [⟨some 18, .fad 1 (.t 3), none⟩,
 ⟨some 19, .ld (.sc .bool) (.t 18), none⟩] [3, 5, 6, 7, 19]) (.cond (.t 19) (.reg [⟨some 7, .mov (.c (Go.Value.int Go.IntKind.i64 1)), none⟩] [3, 5, 6, 7]) (.seq (.opq 3 [3, 5, 6, 7] R14_Segments_i3) (.cond (.t 26) (.reg [⟨some 27, .mov (.t 6), none⟩,
 ⟨some 28, .mn (.t 27) (.c (Go.Value.int Go.IntKind.i64 10)), none⟩,
 ⟨some 7, .mov (.t 28), none⟩] [3, 5, 6, 7]) (.seq (.reg [⟨some 29, .fad 0 (.t 3), none⟩,
 ⟨some 30, .ld (.sc .bool) (.t 29), none⟩] [3, 5, 6, 7, 30]) (.cond (.t 30) (.reg [⟨some 31, .mov (.t 6), none⟩,
 ⟨some 32, .mov (.t 5), none⟩,
 ⟨some 33, .len false (.t 32), none⟩,
 ⟨some 34, .bin .rem .i64 (.t 33) (.c (Go.Value.int Go.IntKind.i64 2)), none⟩,
 ⟨some 35, .bin .add .i64 (.c (Go.Value.int Go.IntKind.i64 1)) (.t 34), none⟩,
 ⟨some 36, .mn (.t 31) (.t 35), none⟩,
 ⟨some 7, .mov (.t 36), none⟩] [3, 5, 6, 7]) .skip))))))
def R14_Segments_i1 : IC := (.seq (.seq (.reg [⟨some 15, .mov (.t 6), none⟩,
 ⟨some 16, .cmp .gtr (.t 15) (.c (Go.Value.int Go.IntKind.i64 0)), none⟩] [3, 5, 6, 16]) (.cond (.t 16) .skip (.exit 0))) (.block 1 (.seq (.reg [⟨some 17, .mov (.t 6), none⟩,
 ⟨some 7, .mov (.t 17), none⟩] [3, 5, 6, 7]) (.seq (.opq 2 [3, 5, 6, 7] R14_Segments_i2) (.seq (.reg [⟨some 37, .mov (.t 5), none⟩,
 ⟨some 38, .mov (.t 7), none⟩,
 ⟨some 39, .bls 1 [.int .i64 0] [(0, 1, (.t 38))], none⟩,
 ⟨some 40, .app [.int .i64 0] 8 (.t 37) (.t 39), none⟩,
 ⟨some 5, .mov (.t 40), none⟩] [3, 5, 6, 7]) (.reg [⟨some 41, .mov (.t 6), none⟩,
 ⟨some 42, .mov (.t 7), none⟩,
 ⟨some 43, .bin .sub .i64 (.t 41) (.t 42), none⟩,
 ⟨some 6, .mov (.t 43), none⟩] [3, 5, 6]))))))
def R14_Segments_i0 : IC := (.seq (.reg [⟨some 8, .mov (.t 0), none⟩,
 ⟨some 9, .cmp .lss (.t 8) (.c (Go.Value.int Go.IntKind.i64 1)), none⟩,
 ⟨some 10, .mov (.t 9), none⟩,
 ⟨some 11, .mov (.t 0), some (10, false)⟩,
 ⟨some 12, .cmp .gtr (.t 11) (.c (Go.Value.int Go.IntKind.i64 178)), some (10, false)⟩,
 ⟨some 13, .pick (.t 10) (.c (Go.Value.bool true)) (.t 12), none⟩] [0, 3, 13]) (.cond (.t 13) (.seq (.reg [⟨some 4, .mov (.c (Go.Value.slice none 0 0)), none⟩] [4]) .ret) .skip))
def R14_Segments_f : IFn := ⟨45, [.t 4], (.seq (.reg [⟨some 3, .box (.t 1), none⟩,
 ⟨some 4, .mov (.c (Go.Value.slice none 0 0)), none⟩] [0, 3]) (.seq (.opq 0 [0, 3] R14_Segments_i0) (.seq (.reg [⟨some 5, .mov (.c (Go.Value.slice none 0 0)), none⟩] [0, 3, 5]) (.seq (.reg [⟨some 14, .mov (.t 0), none⟩,
 ⟨some 6, .mov (.t 14), none⟩] [3, 5, 6]) (.seq (.block 0 (.opq 1 [3, 5, 6] (.loop R14_Segments_i1))) (.seq (.reg [⟨some 44, .mov (.t 5), none⟩,
 ⟨some 4, .mov (.t 44), none⟩] [4]) .ret))))))⟩
theorem R14_Segments_e3 {R : Type} (R14_Segments_p0 : Int → Option Addr → (Int → Option Addr → Option R) → (Option Addr → Nat → Nat → Option R) → Option R) (R14_Segments_l1 : (Option Addr → Nat → Nat → Heap → Option R) → Nat → Option Addr → Option Addr → Nat → Nat → Int → Heap → Option R) (R14_Segments_p2 : Option Addr → Option Addr → Nat → Nat → Int → Int → Heap → (Option Addr → Option Addr → Nat → Nat → Int → Int → Option R) → Option R) (R14_Segments_p3 : Option Addr → Option Addr → Nat → Nat → Int → Int → Heap → (Option Addr → Option Addr → Nat → Nat → Int → Int → Bool → Option R) → Option R) (k : Nat) (p101 : Option Addr) (q102 : Option Addr) (l103 : Nat) (c104 : Nat) (n105 : Int) (n106 : Int) (H : Heap) (K : Xit → Env → Heap → Option R) : evJ (R14_Segments_Ct) (R14_Segments_Jt k R14_Segments_p0 R14_Segments_l1 R14_Segments_p2 R14_Segments_p3) R14_Segments_i3 (List.zip [3, 5, 6, 7] [.pointer p101, .slice q102 l103 c104, .int .i64 n105, .int .i64 n106]) H (fun x e' H' => K x (clean e' ((⟨[3, 5, 6, 7, 26], [], []⟩ : Out).of x)) H') = R14_Segments_p3_b k p101 q102 l103 c104 n105 n106 H (fun p1211 q1212 l1213 c1214 n1215 n1216 t1217 => K .normal [(3, .pointer p1211), (5, .slice q1212 l1213 c1214), (6, .int .i64 n1215), (7, .int .i64 n1216), (26, .bool t1217)] H) := by kernel_rfl
theorem R14_Segments_j3 {R : Type} (k : Nat) : JS Try.prog 45 (R14_Segments_a3 R k k) [3, 5, 6, 7] ⟨[3, 5, 6, 7, 26], [], []⟩ (sel [1, 1, 1, 1, 0, 0, 0, 1, 0, 1, 0, 1, 1, 0] (Try.f21.body.getD .skip)) :=
  piece_ok (nt := 45) (c := (sel [1, 1, 1, 1, 0, 0, 0, 1, 0, 1, 0, 1, 1, 0] (Try.f21.body.getD .skip))) (C := R14_Segments_C R k) (an := An) (t := (.reg [3, 5, 6, 7, 26] [])) (ic := R14_Segments_i3) (R14_Segments_S R k) (R14_Segments_J R k) (by kernel_rfl) True.intro (R14_Segments_a3 R k k)
    (fun vals H K r h => by
      unfold R14_Segments_a3 R14_Segments_aa3 at h
      split at h <;> first | (cases h; done) | exact Eq.trans (R14_Segments_e3 (R14_Segments_p0 k) (R14_Segments_l1 k) (R14_Segments_p2 k) (R14_Segments_p3 k) k _ _ _ _ _ _ H K) h)
theorem R14_Segments_e2 {R : Type} (R14_Segments_p0 : Int → Option Addr → (Int → Option Addr → Option R) → (Option Addr → Nat → Nat → Option R) → Option R) (R14_Segments_l1 : (Option Addr → Nat → Nat → Heap → Option R) → Nat → Option Addr → Option Addr → Nat → Nat → Int → Heap → Option R) (R14_Segments_p2 : Option Addr → Option Addr → Nat → Nat → Int → Int → Heap → (Option Addr → Option Addr → Nat → Nat → Int → Int → Option R) → Option R) (R14_Segments_p3 : Option Addr → Option Addr → Nat → Nat → Int → Int → Heap → (Option Addr → Option Addr → Nat → Nat → Int → Int → Bool → Option R) → Option R) (k : Nat) (p93 : Option Addr) (q94 : Option Addr) (l95 : Nat) (c96 : Nat) (n97 : Int) (n98 : Int) (H : Heap) (K : Xit → Env → Heap → Option R) : evJ (R14_Segments_Ct) (R14_Segments_Jt k R14_Segments_p0 R14_Segments_l1 R14_Segments_p2 R14_Segments_p3) R14_Segments_i2 (List.zip [3, 5, 6, 7] [.pointer p93, .slice q94 l95 c96, .int .i64 n97, .int .i64 n98]) H (fun x e' H' => K x (clean e' ((⟨[3, 5, 6, 7], [], []⟩ : Out).of x)) H') = R14_Segments_p2_b R14_Segments_p3 k p93 q94 l95 c96 n97 n98 H (fun p1205 q1206 l1207 c1208 n1209 n1210 => K .normal [(3, .pointer p1205), (5, .slice q1206 l1207 c1208), (6, .int .i64 n1209), (7, .int .i64 n1210)] H) := by kernel_rfl
theorem R14_Segments_j2 {R : Type} (k : Nat) : JS Try.prog 45 (R14_Segments_a2 R k k) [3, 5, 6, 7] ⟨[3, 5, 6, 7], [], []⟩ (sel [1, 1, 1, 1, 0, 0, 0, 1, 0, 1, 0] (Try.f21.body.getD .skip)) :=
  piece_ok (nt := 45) (c := (sel [1, 1, 1, 1, 0, 0, 0, 1, 0, 1, 0] (Try.f21.body.getD .skip))) (C := R14_Segments_C R k) (an := An) (t := (.seq (.reg [3, 5, 6, 7, 19] []) (.cond (.reg [3, 5, 6, 7] []) (.seq (.opq 3 [3, 5, 6, 7] ⟨[3, 5, 6, 7, 26], [], []⟩ (.reg [3, 5, 6, 7, 26] [])) (.cond (.reg [3, 5, 6, 7] []) (.seq (.reg [3, 5, 6, 7, 30] []) (.cond (.reg [3, 5, 6, 7] []) .leaf))))))) (ic := R14_Segments_i2) (R14_Segments_S R k) (R14_Segments_J R k) (by kernel_rfl) (And.intro True.intro (And.intro True.intro (And.intro (R14_Segments_j3 k) (And.intro True.intro (And.intro True.intro (And.intro True.intro True.intro)))))) (R14_Segments_a2 R k k)
    (fun vals H K r h => by
      unfold R14_Segments_a2 R14_Segments_aa2 at h
      split at h <;> first | (cases h; done) | exact Eq.trans (R14_Segments_e2 (R14_Segments_p0 k) (R14_Segments_l1 k) (R14_Segments_p2 k) (R14_Segments_p3 k) k _ _ _ _ _ _ H K) h)
theorem R14_Segments_e1 {R : Type} (R14_Segments_p0 : Int → Option Addr → (Int → Option Addr → Option R) → (Option Addr → Nat → Nat → Option R) → Option R) (R14_Segments_l1 : (Option Addr → Nat → Nat → Heap → Option R) → Nat → Option Addr → Option Addr → Nat → Nat → Int → Heap → Option R) (R14_Segments_p2 : Option Addr → Option Addr → Nat → Nat → Int → Int → Heap → (Option Addr → Option Addr → Nat → Nat → Int → Int → Option R) → Option R) (R14_Segments_p3 : Option Addr → Option Addr → Nat → Nat → Int → Int → Heap → (Option Addr → Option Addr → Nat → Nat → Int → Int → Bool → Option R) → Option R) (k n : Nat) (p88 : Option Addr) (q89 : Option Addr) (l90 : Nat) (c91 : Nat) (n92 : Int) (H : Heap) (K : Xit → Env → Heap → Option R) : evJ (R14_Segments_Ct) (R14_Segments_Jt k R14_Segments_p0 R14_Segments_l1 R14_Segments_p2 R14_Segments_p3) R14_Segments_i1 (List.zip [3, 5, 6] [.pointer p88, .slice q89 l90 c91, .int .i64 n92]) H (fun x e' H' => match x with | .normal => R14_Segments_aa1 R14_Segments_l1 n ((clean e' [3, 5, 6]).map (·.2)) H' K | x => K x (clean e' ((⟨[], [(0, [5])], []⟩ : Out).of x)) H') = R14_Segments_l1_b R14_Segments_p2 (R14_Segments_l1 (fun q1202 l1203 c1204 H => K (.exit 0) [(5, .slice q1202 l1203 c1204)] H) n) (fun q1202 l1203 c1204 H => K (.exit 0) [(5, .slice q1202 l1203 c1204)] H) k p88 q89 l90 c91 n92 H := by kernel_rfl
theorem R14_Segments_j1 {R : Type} (k : Nat) : JS Try.prog 45 (R14_Segments_a1 R k k) [3, 5, 6] ⟨[], [(0, [5])], []⟩ (.loop (sel [1, 1, 1, 1, 0, 0, 0] (Try.f21.body.getD .skip))) :=
  loop_ok (nt := 45) (c := (sel [1, 1, 1, 1, 0, 0, 0] (Try.f21.body.getD .skip))) (C := R14_Segments_C R k) (an := An) (t := (.seq (.seq (.reg [3, 5, 6, 16] []) (.cond .leaf .leaf)) (.node (.seq (.reg [3, 5, 6, 7] []) (.seq (.opq 2 [3, 5, 6, 7] ⟨[3, 5, 6, 7], [], []⟩ (.seq (.reg [3, 5, 6, 7, 19] []) (.cond (.reg [3, 5, 6, 7] []) (.seq (.opq 3 [3, 5, 6, 7] ⟨[3, 5, 6, 7, 26], [], []⟩ (.reg [3, 5, 6, 7, 26] [])) (.cond (.reg [3, 5, 6, 7] []) (.seq (.reg [3, 5, 6, 7, 30] []) (.cond (.reg [3, 5, 6, 7] []) .leaf))))))) (.seq (.reg [3, 5, 6, 7] []) (.reg [3, 5, 6] []))))))) (ic := R14_Segments_i1) (R14_Segments_S R k) (R14_Segments_J R k) (by kernel_rfl) (And.intro (And.intro True.intro (And.intro True.intro True.intro)) (And.intro True.intro (And.intro (R14_Segments_j2 k) (And.intro True.intro True.intro)))) (R14_Segments_a1 R k) (fun vals H K => by unfold R14_Segments_a1 R14_Segments_aa1; split <;> rfl)
    (fun n vals H K r h => by
      unfold R14_Segments_a1 R14_Segments_aa1 at h
      split at h <;> first | (cases h; done) | exact Eq.trans (R14_Segments_e1 (R14_Segments_p0 k) (R14_Segments_l1 k) (R14_Segments_p2 k) (R14_Segments_p3 k) k n _ _ _ _ _ H K) h) k
theorem R14_Segments_e0 {R : Type} (R14_Segments_p0 : Int → Option Addr → (Int → Option Addr → Option R) → (Option Addr → Nat → Nat → Option R) → Option R) (R14_Segments_l1 : (Option Addr → Nat → Nat → Heap → Option R) → Nat → Option Addr → Option Addr → Nat → Nat → Int → Heap → Option R) (R14_Segments_p2 : Option Addr → Option Addr → Nat → Nat → Int → Int → Heap → (Option Addr → Option Addr → Nat → Nat → Int → Int → Option R) → Option R) (R14_Segments_p3 : Option Addr → Option Addr → Nat → Nat → Int → Int → Heap → (Option Addr → Option Addr → Nat → Nat → Int → Int → Bool → Option R) → Option R) (k : Nat) (n79 : Int) (p80 : Option Addr) (H : Heap) (K : Xit → Env → Heap → Option R) : evJ (R14_Segments_Ct) (R14_Segments_Jt k R14_Segments_p0 R14_Segments_l1 R14_Segments_p2 R14_Segments_p3) R14_Segments_i0 (List.zip [0, 3] [.int .i64 n79, .pointer p80]) H (fun x e' H' => K x (clean e' ((⟨[0, 3], [], [4]⟩ : Out).of x)) H') = R14_Segments_p0_b k n79 p80 (fun n1197 p1198 => K .normal [(0, .int .i64 n1197), (3, .pointer p1198)] H) (fun q1199 l1200 c1201 => K .ret [(4, .slice q1199 l1200 c1201)] H) := by kernel_rfl
theorem R14_Segments_j0 {R : Type} (k : Nat) : JS Try.prog 45 (R14_Segments_a0 R k k) [0, 3] ⟨[0, 3], [], [4]⟩ (sel [1, 0] (Try.f21.body.getD .skip)) :=
  piece_ok (nt := 45) (c := (sel [1, 0] (Try.f21.body.getD .skip))) (C := R14_Segments_C R k) (an := An) (t := (.seq (.reg [0, 3, 13] []) (.cond (.seq (.reg [4] []) .leaf) .leaf))) (ic := R14_Segments_i0) (R14_Segments_S R k) (R14_Segments_J R k) (by kernel_rfl) (And.intro True.intro (And.intro (And.intro True.intro True.intro) True.intro)) (R14_Segments_a0 R k k)
    (fun vals H K r h => by
      unfold R14_Segments_a0 R14_Segments_aa0 at h
      split at h <;> first | (cases h; done) | exact Eq.trans (R14_Segments_e0 (R14_Segments_p0 k) (R14_Segments_l1 k) (R14_Segments_p2 k) (R14_Segments_p3 k) k _ _ H K) h)
def R14_Segments_ca {R : Type} (f : Int → Bool → Bool → Bool → Bool → Bool → Heap → (Option Addr → Nat → Nat → Heap → Option R) → Option R) (args : List Value) (H : Heap) (K : Value → Heap → Option R) : Option R :=
  match args with
  | [.int .i64 n71, .agg ⟨[.bool t72, .bool t73, .bool t74, .bool t75, .bool t76]⟩] => f n71 t72 t73 t74 t75 t76 H (fun q1218 l1219 c1220 H => K (.slice q1218 l1219 c1220) H)
  | _ => none
def R14_Segments_c (R : Type) (k : Nat) (args : List Value) (H : Heap) (K : Value → Heap → Option R) : Option R := R14_Segments_ca (R14_Segments k) args H K
theorem R14_Segments_e {R : Type} (R14_Segments_p0 : Int → Option Addr → (Int → Option Addr → Option R) → (Option Addr → Nat → Nat → Option R) → Option R) (R14_Segments_l1 : (Option Addr → Nat → Nat → Heap → Option R) → Nat → Option Addr → Option Addr → Nat → Nat → Int → Heap → Option R) (R14_Segments_p2 : Option Addr → Option Addr → Nat → Nat → Int → Int → Heap → (Option Addr → Option Addr → Nat → Nat → Int → Int → Option R) → Option R) (R14_Segments_p3 : Option Addr → Option Addr → Nat → Nat → Int → Int → Heap → (Option Addr → Option Addr → Nat → Nat → Int → Int → Bool → Option R) → Option R) (k : Nat) (n71 : Int) (t72 : Bool) (t73 : Bool) (t74 : Bool) (t75 : Bool) (t76 : Bool) (H : Heap) (K : Value → Heap → Option R) : evF (R14_Segments_Ct) (R14_Segments_Jt k R14_Segments_p0 R14_Segments_l1 R14_Segments_p2 R14_Segments_p3) R14_Segments_f [.int .i64 n71, .agg ⟨[.bool t72, .bool t73, .bool t74, .bool t75, .bool t76]⟩] H K = R14_Segments_b R14_Segments_p0 R14_Segments_l1 k n71 t72 t73 t74 t75 t76 H (fun q1218 l1219 c1220 H => K (.slice q1218 l1219 c1220) H) := by kernel_rfl
theorem R14_Segments_cs (R : Type) (k : Nat) : ∀ args H K r, R14_Segments_c R k args H K = some r → ∃ v H', Tri Try.prog 21 args H v H' ∧ K v H' = some r := by
  intro args H K r h
  unfold R14_Segments_c R14_Segments_ca at h
  split at h
  · exact evF_ok (C := R14_Segments_C R k) (an := An) (t := R14_Segments_at) (fn := Try.f21) (c := (Try.f21.body.getD .skip)) (ifn := R14_Segments_f) (R14_Segments_S R k) (R14_Segments_J R k) Try.func21 (by kernel_rfl) (by kernel_rfl) (And.intro True.intro (And.intro (R14_Segments_j0 k) (And.intro True.intro (And.intro True.intro (And.intro (R14_Segments_j1 k) (And.intro True.intro True.intro)))))) rfl (Eq.trans (R14_Segments_e (R14_Segments_p0 k) (R14_Segments_l1 k) (R14_Segments_p2 k) (R14_Segments_p3 k) k _ _ _ _ _ _ H K) h)
  · cases h
/-! ### L_CblkPasses: function 4 -/
def L_CblkPasses_b {R : Type} (cblk_Pass : Int → (Int → Int → Option R) → Option R) (R14_Pass : Int → (Int → Int → Option R) → Option R) (cblk_Raw : Int → Bool → Bool → Bool → Bool → Bool → Heap → (Bool → Heap → Option R) → Option R) (R14_Raw : Int → Bool → Bool → Bool → Bool → Bool → Heap → (Bool → Heap → Option R) → Option R) (cblk_Segments : Int → Bool → Bool → Bool → Bool → Bool → Heap → (Option Addr → Nat → Nat → Heap → Option R) → Option R) (R14_Segments : Int → Bool → Bool → Bool → Bool → Bool → Heap → (Option Addr → Nat → Nat → Heap → Option R) → Option R) (R02_SameInts : Option Addr → Nat → Nat → Option Addr → Nat → Nat → Heap → (Bool → Option R) → Option R) (L_exampleHoldsq : (Bool → Option R) → Option R) (k : Nat) (n14 : Int) (t15 : Bool) (t16 : Bool) (t17 : Bool) (t18 : Bool) (t19 : Bool) (H : Heap) (K : Bool → Heap → Option R) : Option R :=
hal H [.bool t15, .bool t16, .bool t17, .bool t18, .bool t19] fun p20 H21 =>
cblk_Pass n14 fun n22 n23 =>
R14_Pass n14 fun n24 n25 =>
bif (n22 == n24) then (bif (n23 == n25) then (ldB H21 (pad p20 0) fun t26 =>
ldB H21 (pad p20 1) fun t27 =>
ldB H21 (pad p20 2) fun t28 =>
ldB H21 (pad p20 3) fun t29 =>
ldB H21 (pad p20 4) fun t30 =>
cblk_Raw n14 t26 t27 t28 t29 t30 (roH H21) fun t31 H32 =>
ldB H21 (pad p20 0) fun t33 =>
ldB H21 (pad p20 1) fun t34 =>
ldB H21 (pad p20 2) fun t35 =>
ldB H21 (pad p20 3) fun t36 =>
ldB H21 (pad p20 4) fun t37 =>
R14_Raw n14 t33 t34 t35 t36 t37 H21 fun t38 H39 =>
bif (t31 == t38) then (ldB H39 (pad p20 0) fun t40 =>
ldB H39 (pad p20 1) fun t41 =>
ldB H39 (pad p20 2) fun t42 =>
ldB H39 (pad p20 3) fun t43 =>
ldB H39 (pad p20 4) fun t44 =>
cblk_Segments n14 t40 t41 t42 t43 t44 (roH H39) fun q45 l46 c47 H48 =>
ldB (H39 ++ H48.drop H39.length) (pad p20 0) fun t49 =>
ldB (H39 ++ H48.drop H39.length) (pad p20 1) fun t50 =>
ldB (H39 ++ H48.drop H39.length) (pad p20 2) fun t51 =>
ldB (H39 ++ H48.drop H39.length) (pad p20 3) fun t52 =>
ldB (H39 ++ H48.drop H39.length) (pad p20 4) fun t53 =>
R14_Segments n14 t49 t50 t51 t52 t53 (H39 ++ H48.drop H39.length) fun q54 l55 c56 H57 =>
R02_SameInts q45 l46 c47 q54 l55 c56 H57 fun t58 =>
bif t58 then (L_exampleHoldsq fun t59 =>
K t59 H57)
 else (K false H57))
 else (K false H39))
 else (K false H21))
 else (K false H21)

def L_CblkPasses {R : Type} (k : Nat) (n14 : Int) (t15 : Bool) (t16 : Bool) (t17 : Bool) (t18 : Bool) (t19 : Bool) (H : Heap) (K : Bool → Heap → Option R) : Option R := L_CblkPasses_b cblk_Pass R14_Pass (cblk_Raw k) R14_Raw (cblk_Segments k) (R14_Segments k) (R02_SameInts k) L_exampleHoldsq k n14 t15 t16 t17 t18 t19 H K

def L_CblkPasses_Ct {R : Type} (cblk_Pass : Int → (Int → Int → Option R) → Option R) (R14_Pass : Int → (Int → Int → Option R) → Option R) (cblk_Raw : Int → Bool → Bool → Bool → Bool → Bool → Heap → (Bool → Heap → Option R) → Option R) (R14_Raw : Int → Bool → Bool → Bool → Bool → Bool → Heap → (Bool → Heap → Option R) → Option R) (cblk_Segments : Int → Bool → Bool → Bool → Bool → Bool → Heap → (Option Addr → Nat → Nat → Heap → Option R) → Option R) (R14_Segments : Int → Bool → Bool → Bool → Bool → Bool → Heap → (Option Addr → Nat → Nat → Heap → Option R) → Option R) (R02_SameInts : Option Addr → Nat → Nat → Option Addr → Nat → Nat → Heap → (Bool → Option R) → Option R) (L_exampleHoldsq : (Bool → Option R) → Option R) : Tab R := tcons 15 (cblk_Pass_ca cblk_Pass) <| tcons 16 (R14_Pass_ca R14_Pass) <| tcons 17 (cblk_Raw_ca cblk_Raw) <| tcons 18 (R14_Raw_ca R14_Raw) <| tcons 20 (cblk_Segments_ca cblk_Segments) <| tcons 21 (R14_Segments_ca R14_Segments) <| tcons 19 (R02_SameInts_ca R02_SameInts) <| tcons 14 (L_exampleHoldsq_ca L_exampleHoldsq) <| fun _ _ _ _ => none
def L_CblkPasses_C (R : Type) (k : Nat) : Tab R := L_CblkPasses_Ct cblk_Pass R14_Pass (cblk_Raw k) R14_Raw (cblk_Segments k) (R14_Segments k) (R02_SameInts k) L_exampleHoldsq
theorem L_CblkPasses_S (R : Type) (k : Nat) : CSound Try.prog (L_CblkPasses_C R k) := csound_cons (cblk_Pass_cs R k) <| csound_cons (R14_Pass_cs R k) <| csound_cons (cblk_Raw_cs R k) <| csound_cons (R14_Raw_cs R k) <| csound_cons (cblk_Segments_cs R k) <| csound_cons (R14_Segments_cs R k) <| csound_cons (R02_SameInts_cs R k) <| csound_cons (L_exampleHoldsq_cs R k) <| csound_nil
def L_CblkPasses_Jt {R : Type} (k : Nat) : JTab R := fun _ _ _ _ => none
def L_CblkPasses_J (R : Type) (k : Nat) : JTab R := L_CblkPasses_Jt k
def L_CblkPasses_at : AT := (.seq (.reg [0, 3] []) (.seq (.reg [0, 3, 5, 6] []) (.seq (.reg [0, 3, 5, 6, 7, 8] []) (.seq (.reg [4] [[], [], [0, 1], [0, 1, 2], [0, 1, 2, 3], [0, 1, 2, 3], [0, 1, 2, 3, 4, 5], [0, 1, 2, 3, 4, 5, 6], [0, 1, 2, 3, 4, 5, 6, 7], [0, 1, 2, 3, 4, 5, 6, 7, 8], [0, 1, 2, 3, 4, 5, 6, 7, 8], [0, 1, 2, 3, 4, 5, 6, 7, 8, 9, 10], [0, 1, 2, 3, 4, 5, 6, 7, 8], [0, 1, 2, 3, 4, 5, 6, 7, 8], [0, 1, 2, 3, 4, 5, 6, 7, 8, 9, 10, 11, 12, 13], [0, 1, 2, 3, 4, 5, 6, 7, 8, 9, 10, 11, 12, 13, 14], [0, 1, 2, 3, 4, 5, 6, 7, 8, 9, 10, 11, 12, 13, 14, 15], [0, 1, 2, 3, 4, 5, 6, 7, 8, 9, 10, 11, 12, 13, 14, 15, 16], [0, 1, 2, 3, 4, 5, 6, 7, 8, 9, 10, 11, 12, 13, 14, 15, 16, 17], [0, 1, 2, 3, 4, 5, 6, 7, 8, 9, 10, 11, 12, 13, 14, 15, 16, 17], [0, 1, 2, 3, 4, 5, 6, 7, 8, 9, 10, 11, 12, 13, 14, 15, 16, 17, 18, 19], [0, 1, 2, 3, 4, 5, 6, 7, 8, 9, 10, 11, 12, 13, 14, 15, 16, 17], [0, 1, 2, 3, 4, 5, 6, 7, 8, 9, 10, 11, 12, 13, 14, 15, 16, 17], [0, 1, 2, 3, 4, 5, 6, 7, 8, 9, 10, 11, 12, 13, 14, 15, 16, 17, 18, 19, 20, 21, 22], [0, 1, 2, 3, 4, 5, 6, 7, 8, 9, 10, 11, 12, 13, 14, 15, 16, 17, 18, 19, 20, 21, 22, 23], [0, 1, 2, 3, 4, 5, 6, 7, 8, 9, 10, 11, 12, 13, 14, 15, 16, 17, 18, 19, 20, 21, 22, 23, 24], [0, 1, 2, 3, 4, 5, 6, 7, 8, 9, 10, 11, 12, 13, 14, 15, 16, 17, 18, 19, 20, 21, 22, 23, 24, 25], [0, 1, 2, 3, 4, 5, 6, 7, 8, 9, 10, 11, 12, 13, 14, 15, 16, 17, 18, 19, 20, 21, 22, 23, 24, 25, 26], [0, 1, 2, 3, 4, 5, 6, 7, 8, 9, 10, 11, 12, 13, 14, 15, 16, 17, 18, 19, 20, 21, 22, 23, 24, 25, 26, 27], [0, 1, 2, 3, 4, 5, 6, 7, 8, 9, 10, 11, 12, 13, 14, 15, 16, 17, 18, 19, 20, 21, 22, 23, 24, 25, 26, 27, 28]]) .leaf))))
def L_CblkPasses_f : IFn := ⟨48, [.t 4], (.seq (.reg [⟨some 3, .box (.t 1), none⟩,
 ⟨some 4, .mov (.c (Go.Value.bool false)), none⟩] [0, 3]) (.seq (.reg [⟨some 10, .mov (.t 0), none⟩,
 ⟨some 11, .call 15 [(.t 10)] (.tup [(.sc (.int .i64)), (.sc (.int .i64))]), none⟩,
 ⟨some 9, .mov (.t 11), none⟩,
 ⟨some 12, .ext 0 (.t 9), none⟩,
 ⟨some 13, .ext 1 (.t 9), none⟩,
 ⟨some 5, .mov (.t 12), none⟩,
 ⟨some 6, .mov (.t 13), none⟩] [0, 3, 5, 6]) (.seq (.reg [⟨some 15, .mov (.t 0), none⟩,
 ⟨some 16, .call 16 [(.t 15)] (.tup [(.sc (.int .i64)), (.sc (.int .i64))]), none⟩,
 ⟨some 14, .mov (.t 16), none⟩,
 ⟨some 17, .ext 0 (.t 14), none⟩,
 ⟨some 18, .ext 1 (.t 14), none⟩,
 ⟨some 7, .mov (.t 17), none⟩,
 ⟨some 8, .mov (.t 18), none⟩] [0, 3, 5, 6, 7, 8]) (.seq (.reg [⟨some 19, .mov (.t 5), none⟩,
 ⟨some 20, .mov (.t 7), none⟩,
 ⟨some 21, .cmp .eql (.t 19) (.t 20), none⟩,
 ⟨some 22, .mov (.t 21), none⟩,
 ⟨some 23, .mov (.t 6), some (22, true)⟩,
 ⟨some 24, .mov (.t 8), some (22, true)⟩,
 ⟨some 25, .cmp .eql (.t 23) (.t 24), some (22, true)⟩,
 ⟨some 26, .pick (.t 22) (.t 25) (.c (Go.Value.bool false)), none⟩,
 ⟨some 27, .mov (.t 26), none⟩,
 ⟨some 28, .mov (.t 0), some (27, true)⟩,
 ⟨some 29, .ld (.agg [.bool, .bool, .bool, .bool, .bool]) (.t 3), some (27, true)⟩,
 ⟨some 30, .calp 17 [(.t 28), (.t 29)] (.one (.sc .bool)), some (27, true)⟩,
 ⟨some 31, .mov (.t 0), some (27, true)⟩,
 ⟨some 32, .ld (.agg [.bool, .bool, .bool, .bool, .bool]) (.t 3), some (27, true)⟩,
 ⟨some 33, .call 18 [(.t 31), (.t 32)] (.one (.sc .bool)), some (27, true)⟩,
 ⟨some 34, .eqb (.t 30) (.t 33) false, some (27, true)⟩,
 ⟨some 35, .pick (.t 27) (.t 34) (.c (Go.Value.bool false)), none⟩,
 ⟨some 36, .mov (.t 35), none⟩,
 ⟨some 37, .mov (.t 0), some (36, true)⟩,
 ⟨some 38, .ld (.agg [.bool, .bool, .bool, .bool, .bool]) (.t 3), some (36, true)⟩,
 ⟨some 39, .calf 20 [(.t 37), (.t 38)] [] (.one (.sc .slc)), some (36, true)⟩,
 ⟨some 40, .mov (.t 0), some (36, true)⟩,
 ⟨some 41, .ld (.agg [.bool, .bool, .bool, .bool, .bool]) (.t 3), some (36, true)⟩,
 ⟨some 42, .call 21 [(.t 40), (.t 41)] (.one (.sc .slc)), some (36, true)⟩,
 ⟨some 43, .call 19 [(.t 39), (.t 42)] (.one (.sc .bool)), some (36, true)⟩,
 ⟨some 44, .pick (.t 36) (.t 43) (.c (Go.Value.bool false)), none⟩,
 ⟨some 45, .mov (.t 44), none⟩,
 ⟨some 46, .call 14 [] (.one (.sc .bool)), some (45, true)⟩,
 ⟨some 47, .pick (.t 45) (.t 46) (.c (Go.Value.bool false)), none⟩,
 ⟨some 4, .mov (.t 47), none⟩] [4]) .ret))))⟩
def L_CblkPasses_ca {R : Type} (f : Int → Bool → Bool → Bool → Bool → Bool → Heap → (Bool → Heap → Option R) → Option R) (args : List Value) (H : Heap) (K : Value → Heap → Option R) : Option R :=
  match args with
  | [.int .i64 n14, .agg ⟨[.bool t15, .bool t16, .bool t17, .bool t18, .bool t19]⟩] => f n14 t15 t16 t17 t18 t19 H (fun t1221 H => K (.bool t1221) H)
  | _ => none
def L_CblkPasses_c (R : Type) (k : Nat) (args : List Value) (H : Heap) (K : Value → Heap → Option R) : Option R := L_CblkPasses_ca (L_CblkPasses k) args H K
theorem L_CblkPasses_e {R : Type} (cblk_Pass : Int → (Int → Int → Option R) → Option R) (R14_Pass : Int → (Int → Int → Option R) → Option R) (cblk_Raw : Int → Bool → Bool → Bool → Bool → Bool → Heap → (Bool → Heap → Option R) → Option R) (R14_Raw : Int → Bool → Bool → Bool → Bool → Bool → Heap → (Bool → Heap → Option R) → Option R) (cblk_Segments : Int → Bool → Bool → Bool → Bool → Bool → Heap → (Option Addr → Nat → Nat → Heap → Option R) → Option R) (R14_Segments : Int → Bool → Bool → Bool → Bool → Bool → Heap → (Option Addr → Nat → Nat → Heap → Option R) → Option R) (R02_SameInts : Option Addr → Nat → Nat → Option Addr → Nat → Nat → Heap → (Bool → Option R) → Option R) (L_exampleHoldsq : (Bool → Option R) → Option R) (k : Nat) (n14 : Int) (t15 : Bool) (t16 : Bool) (t17 : Bool) (t18 : Bool) (t19 : Bool) (H : Heap) (K : Value → Heap → Option R) : evF (L_CblkPasses_Ct cblk_Pass R14_Pass cblk_Raw R14_Raw cblk_Segments R14_Segments R02_SameInts L_exampleHoldsq) (L_CblkPasses_Jt k) L_CblkPasses_f [.int .i64 n14, .agg ⟨[.bool t15, .bool t16, .bool t17, .bool t18, .bool t19]⟩] H K = L_CblkPasses_b cblk_Pass R14_Pass cblk_Raw R14_Raw cblk_Segments R14_Segments R02_SameInts L_exampleHoldsq k n14 t15 t16 t17 t18 t19 H (fun t1221 H => K (.bool t1221) H) := by kernel_rfl
theorem L_CblkPasses_cs (R : Type) (k : Nat) : ∀ args H K r, L_CblkPasses_c R k args H K = some r → ∃ v H', Tri Try.prog 4 args H v H' ∧ K v H' = some r := by
  intro args H K r h
  unfold L_CblkPasses_c L_CblkPasses_ca at h
  split at h
  · exact evF_ok (C := L_CblkPasses_C R k) (an := An) (t := L_CblkPasses_at) (fn := Try.f4) (c := (Try.f4.body.getD .skip)) (ifn := L_CblkPasses_f) (L_CblkPasses_S R k) (L_CblkPasses_J R k) Try.func4 (by kernel_rfl) (by kernel_rfl) (And.intro True.intro (And.intro True.intro (And.intro True.intro (And.intro True.intro True.intro)))) rfl (Eq.trans (L_CblkPasses_e cblk_Pass R14_Pass (cblk_Raw k) R14_Raw (cblk_Segments k) (R14_Segments k) (R02_SameInts k) L_exampleHoldsq k _ _ _ _ _ _ H K) h)
  · cases h
/-! ### L_CblkOrders: function 5 -/
def L_CblkOrders_p1_b {R : Type} (k : Nat) (n102 : Int) (p103 : Option Addr) (n104 : Int) (n105 : Int) (q106 : Option Addr) (l107 : Nat) (c108 : Nat) (q109 : Option Addr) (l110 : Nat) (c111 : Nat) (n112 : Int) (p113 : Option Addr) (H : Heap) (KN : Int → Option Addr → Int → Int → Option Addr → Nat → Nat → Option Addr → Nat → Nat → Int → Option Addr → Option R) (KR : Bool → Option R) : Option R :=
hfad 0 p113 fun p114 =>
ldI .i64 H p114 fun n115 =>
bif decide (n115 < 0) then (KR false)
 else (hfad 0 p113 fun p116 =>
ldI .i64 H p116 fun n117 =>
bif decide (n117 ≥ n104) then (KR false)
 else (hfad 1 p113 fun p118 =>
ldI .i64 H p118 fun n119 =>
bif decide (n119 < 0) then (KR false)
 else (hfad 1 p113 fun p120 =>
ldI .i64 H p120 fun n121 =>
bif decide (n121 ≥ n105) then (KR false)
 else (hfad 1 p113 fun p122 =>
ldI .i64 H p122 fun n123 =>
hfad 0 p113 fun p124 =>
ldI .i64 H p124 fun n125 =>
hidx q109 l110 (IntKind.wrap .i64 ((IntKind.wrap .i64 (n123 * n104)) + n125)) 1 fun p126 =>
ldB H p126 fun t127 =>
bif t127 then (KR false)
 else (KN n102 p103 n104 n105 q106 l107 c108 q109 l110 c111 n112 p113)))))
def L_CblkOrders_p1 {R : Type} (k : Nat) (n102 : Int) (p103 : Option Addr) (n104 : Int) (n105 : Int) (q106 : Option Addr) (l107 : Nat) (c108 : Nat) (q109 : Option Addr) (l110 : Nat) (c111 : Nat) (n112 : Int) (p113 : Option Addr) (H : Heap) (KN : Int → Option Addr → Int → Int → Option Addr → Nat → Nat → Option Addr → Nat → Nat → Int → Option Addr → Option R) (KR : Bool → Option R) : Option R := L_CblkOrders_p1_b k n102 p103 n104 n105 q106 l107 c108 q109 l110 c111 n112 p113 H KN KR

def L_CblkOrders_l0_b {R : Type} (L_CblkOrders_p1 : Int → Option Addr → Int → Int → Option Addr → Nat → Nat → Option Addr → Nat → Nat → Int → Option Addr → Heap → (Int → Option Addr → Int → Int → Option Addr → Nat → Nat → Option Addr → Nat → Nat → Int → Option Addr → Option R) → (Bool → Option R) → Option R) (rec : Int → Option Addr → Int → Int → Option Addr → Nat → Nat → Option Addr → Nat → Nat → Int → Heap → Option R) (KE0 : Int → Option Addr → Int → Int → Option Addr → Nat → Nat → Heap → Option R) (KR : Bool → Heap → Option R) (k : Nat) (n85 : Int) (p86 : Option Addr) (n87 : Int) (n88 : Int) (q89 : Option Addr) (l90 : Nat) (c91 : Nat) (q92 : Option Addr) (l93 : Nat) (c94 : Nat) (n95 : Int) (H : Heap) : Option R :=
bif decide (n95 < ((l90 : Nat) : Int)) then (hidx q89 l90 n95 2 fun p96 =>
ldI .i64 H (pad p96 0) fun n97 =>
ldI .i64 H (pad p96 1) fun n98 =>
hal H [.int .i64 0, .int .i64 0] fun p99 H100 =>
hst H100 p99 [.int .i64 n97, .int .i64 n98] fun H101 =>
L_CblkOrders_p1 n85 p86 n87 n88 q89 l90 c91 q92 l93 c94 n95 p99 H101 (fun n141 p142 n143 n144 q145 l146 c147 q148 l149 c150 n151 p152 =>
hfad 1 p152 fun p153 =>
ldI .i64 H101 p153 fun n154 =>
hfad 0 p152 fun p155 =>
ldI .i64 H101 p155 fun n156 =>
hidx q148 l149 (IntKind.wrap .i64 ((IntKind.wrap .i64 (n154 * n143)) + n156)) 1 fun p157 =>
hst1 H101 p157 (.bool true) fun H158 =>
rec n141 p142 n143 n144 q145 l146 c147 q148 l149 c150 (IntKind.wrap .i64 (n151 + 1)) H158) (fun t159 =>
KR t159 H101))
 else (KE0 n85 p86 n87 n88 q89 l90 c91 H)
def L_CblkOrders_l0 {R : Type} (k : Nat) (KE0 : Int → Option Addr → Int → Int → Option Addr → Nat → Nat → Heap → Option R) (KR : Bool → Heap → Option R) : Nat → Int → Option Addr → Int → Int → Option Addr → Nat → Nat → Option Addr → Nat → Nat → Int → Heap → Option R
  | 0, _, _, _, _, _, _, _, _, _, _, _, _ => none
  | n + 1, n85, p86, n87, n88, q89, l90, c91, q92, l93, c94, n95, H => L_CblkOrders_l0_b (L_CblkOrders_p1 k) (L_CblkOrders_l0 k KE0 KR n) KE0 KR k n85 p86 n87 n88 q89 l90 c91 q92 l93 c94 n95 H

def L_CblkOrders_p3_b {R : Type} (k : Nat) (p197 : Option Addr) (n198 : Int) (n199 : Int) (q200 : Option Addr) (l201 : Nat) (c202 : Nat) (n203 : Int) (q204 : Option Addr) (l205 : Nat) (c206 : Nat) (n207 : Int) (n208 : Int) (H : Heap) (KN : Option Addr → Int → Int → Option Addr → Nat → Nat → Int → Option Addr → Nat → Nat → Int → Int → Option R) (KR : Bool → Option R) : Option R :=
hidx q204 l205 n208 1 fun p209 =>
ldI .i64 H p209 fun n210 =>
bif decide (n210 < 1) then (KR false)
 else (hidx q204 l205 n208 1 fun p211 =>
ldI .i64 H p211 fun n212 =>
bif decide ((IntKind.wrap .i64 (n207 + n212)) > n203) then (KR false)
 else (KN p197 n198 n199 q200 l201 c202 n203 q204 l205 c206 n207 n208))
def L_CblkOrders_p3 {R : Type} (k : Nat) (p197 : Option Addr) (n198 : Int) (n199 : Int) (q200 : Option Addr) (l201 : Nat) (c202 : Nat) (n203 : Int) (q204 : Option Addr) (l205 : Nat) (c206 : Nat) (n207 : Int) (n208 : Int) (H : Heap) (KN : Option Addr → Int → Int → Option Addr → Nat → Nat → Int → Option Addr → Nat → Nat → Int → Int → Option R) (KR : Bool → Option R) : Option R := L_CblkOrders_p3_b k p197 n198 n199 q200 l201 c202 n203 q204 l205 c206 n207 n208 H KN KR

def L_CblkOrders_l4_b {R : Type} (cblk_Raw : Int → Bool → Bool → Bool → Bool → Bool → Heap → (Bool → Heap → Option R) → Option R) (rec : Option Addr → Int → Int → Option Addr → Nat → Nat → Int → Option Addr → Nat → Nat → Int → Int → Int → Heap → Option R) (KE4 : Option Addr → Int → Int → Option Addr → Nat → Nat → Int → Option Addr → Nat → Nat → Int → Int → Heap → Option R) (KR : Bool → Heap → Option R) (k : Nat) (p238 : Option Addr) (n239 : Int) (n240 : Int) (q241 : Option Addr) (l242 : Nat) (c243 : Nat) (n244 : Int) (q245 : Option Addr) (l246 : Nat) (c247 : Nat) (n248 : Int) (n249 : Int) (n250 : Int) (H : Heap) : Option R :=
hidx q245 l246 n249 1 fun p251 =>
ldI .i64 H p251 fun n252 =>
bif decide (n250 < (IntKind.wrap .i64 (n248 + n252))) then (ldB H (pad p238 0) fun t253 =>
ldB H (pad p238 1) fun t254 =>
ldB H (pad p238 2) fun t255 =>
ldB H (pad p238 3) fun t256 =>
ldB H (pad p238 4) fun t257 =>
cblk_Raw n250 t253 t254 t255 t256 t257 (roH H) fun t258 H259 =>
ldB H (pad p238 0) fun t260 =>
ldB H (pad p238 1) fun t261 =>
ldB H (pad p238 2) fun t262 =>
ldB H (pad p238 3) fun t263 =>
ldB H (pad p238 4) fun t264 =>
cblk_Raw n248 t260 t261 t262 t263 t264 H fun t265 H266 =>
bif !(t258 == t265) then (KR false H266)
 else (rec p238 n239 n240 q241 l242 c243 n244 q245 l246 c247 n248 n249 (IntKind.wrap .i64 (n250 + 1)) H266))
 else (KE4 p238 n239 n240 q241 l242 c243 n244 q245 l246 c247 n248 n249 H)
def L_CblkOrders_l4 {R : Type} (k : Nat) (KE4 : Option Addr → Int → Int → Option Addr → Nat → Nat → Int → Option Addr → Nat → Nat → Int → Int → Heap → Option R) (KR : Bool → Heap → Option R) : Nat → Option Addr → Int → Int → Option Addr → Nat → Nat → Int → Option Addr → Nat → Nat → Int → Int → Int → Heap → Option R
  | 0, _, _, _, _, _, _, _, _, _, _, _, _, _, _ => none
  | n + 1, p238, n239, n240, q241, l242, c243, n244, q245, l246, c247, n248, n249, n250, H => L_CblkOrders_l4_b (cblk_Raw k) (L_CblkOrders_l4 k KE4 KR n) KE4 KR k p238 n239 n240 q241 l242 c243 n244 q245 l246 c247 n248 n249 n250 H

def L_CblkOrders_l2_b {R : Type} (L_CblkOrders_p3 : Option Addr → Int → Int → Option Addr → Nat → Nat → Int → Option Addr → Nat → Nat → Int → Int → Heap → (Option Addr → Int → Int → Option Addr → Nat → Nat → Int → Option Addr → Nat → Nat → Int → Int → Option R) → (Bool → Option R) → Option R) (L_CblkOrders_l4 : (Option Addr → Int → Int → Option Addr → Nat → Nat → Int → Option Addr → Nat → Nat → Int → Int → Heap → Option R) → (Bool → Heap → Option R) → Nat → Option Addr → Int → Int → Option Addr → Nat → Nat → Int → Option Addr → Nat → Nat → Int → Int → Int → Heap → Option R) (rec : Option Addr → Int → Int → Option Addr → Nat → Nat → Int → Option Addr → Nat → Nat → Int → Int → Heap → Option R) (KE2 : Option Addr → Int → Int → Option Addr → Nat → Nat → Int → Option Addr → Nat → Nat → Int → Heap → Option R) (KR : Bool → Heap → Option R) (k : Nat) (p185 : Option Addr) (n186 : Int) (n187 : Int) (q188 : Option Addr) (l189 : Nat) (c190 : Nat) (n191 : Int) (q192 : Option Addr) (l193 : Nat) (c194 : Nat) (n195 : Int) (n196 : Int) (H : Heap) : Option R :=
bif decide (n196 < ((l193 : Nat) : Int)) then (L_CblkOrders_p3 p185 n186 n187 q188 l189 c190 n191 q192 l193 c194 n195 n196 H (fun p226 n227 n228 q229 l230 c231 n232 q233 l234 c235 n236 n237 =>
L_CblkOrders_l4 (fun p280 n281 n282 q283 l284 c285 n286 q287 l288 c289 n290 n291 H292 =>
hidx q287 l288 n291 1 fun p293 =>
ldI .i64 H292 p293 fun n294 =>
rec p280 n281 n282 q283 l284 c285 n286 q287 l288 c289 (IntKind.wrap .i64 (n290 + n294)) (IntKind.wrap .i64 (n291 + 1)) H292) (fun t295 H296 =>
KR t295 H296) k p226 n227 n228 q229 l230 c231 n232 q233 l234 c235 n236 n237 n236 H) (fun t297 =>
KR t297 H))
 else (KE2 p185 n186 n187 q188 l189 c190 n191 q192 l193 c194 n195 H)
def L_CblkOrders_l2 {R : Type} (k : Nat) (KE2 : Option Addr → Int → Int → Option Addr → Nat → Nat → Int → Option Addr → Nat → Nat → Int → Heap → Option R) (KR : Bool → Heap → Option R) : Nat → Option Addr → Int → Int → Option Addr → Nat → Nat → Int → Option Addr → Nat → Nat → Int → Int → Heap → Option R
  | 0, _, _, _, _, _, _, _, _, _, _, _, _, _ => none
  | n + 1, p185, n186, n187, q188, l189, c190, n191, q192, l193, c194, n195, n196, H => L_CblkOrders_l2_b (L_CblkOrders_p3 k) (L_CblkOrders_l4 k) (L_CblkOrders_l2 k KE2 KR n) KE2 KR k p185 n186 n187 q188 l189 c190 n191 q192 l193 c194 n195 n196 H

def L_CblkOrders_p5_b {R : Type} (k : Nat) (p322 : Option Addr) (n323 : Int) (n324 : Int) (q325 : Option Addr) (l326 : Nat) (c327 : Nat) (n328 : Int) (q329 : Option Addr) (l330 : Nat) (c331 : Nat) (n332 : Int) (KN : Option Addr → Int → Option Addr → Nat → Nat → Option R) (KR : Bool → Option R) : Option R :=
bif (n332 != n328) then (KR false)
 else (bif (((l326 : Nat) : Int) != (IntKind.wrap .i64 (n323 * n324))) then (KR false)
 else (KN p322 n328 q329 l330 c331))
def L_CblkOrders_p5 {R : Type} (k : Nat) (p322 : Option Addr) (n323 : Int) (n324 : Int) (q325 : Option Addr) (l326 : Nat) (c327 : Nat) (n328 : Int) (q329 : Option Addr) (l330 : Nat) (c331 : Nat) (n332 : Int) (KN : Option Addr → Int → Option Addr → Nat → Nat → Option R) (KR : Bool → Option R) : Option R := L_CblkOrders_p5_b k p322 n323 n324 q325 l326 c327 n328 q329 l330 c331 n332 KN KR

def L_CblkOrders_p7_b {R : Type} (k : Nat) (n361 : Int) (q362 : Option Addr) (l363 : Nat) (c364 : Nat) (q365 : Option Addr) (l366 : Nat) (c367 : Nat) (n368 : Int) (H : Heap) (KN : Int → Option Addr → Nat → Nat → Option Addr → Nat → Nat → Int → Option R) (KR : Bool → Option R) : Option R :=
bif decide (n368 ≥ ((l366 : Nat) : Int)) then (KR false)
 else (hidx q365 l366 n368 1 fun p369 =>
ldI .i64 H p369 fun n370 =>
hidx q362 l363 n368 1 fun p371 =>
ldI .i64 H p371 fun n372 =>
bif (n370 != n372) then (KR false)
 else (KN n361 q362 l363 c364 q365 l366 c367 n368))
def L_CblkOrders_p7 {R : Type} (k : Nat) (n361 : Int) (q362 : Option Addr) (l363 : Nat) (c364 : Nat) (q365 : Option Addr) (l366 : Nat) (c367 : Nat) (n368 : Int) (H : Heap) (KN : Int → Option Addr → Nat → Nat → Option Addr → Nat → Nat → Int → Option R) (KR : Bool → Option R) : Option R := L_CblkOrders_p7_b k n361 q362 l363 c364 q365 l366 c367 n368 H KN KR

def L_CblkOrders_l6_b {R : Type} (L_CblkOrders_p7 : Int → Option Addr → Nat → Nat → Option Addr → Nat → Nat → Int → Heap → (Int → Option Addr → Nat → Nat → Option Addr → Nat → Nat → Int → Option R) → (Bool → Option R) → Option R) (rec : Int → Option Addr → Nat → Nat → Option Addr → Nat → Nat → Int → Heap → Option R) (KE6 : Int → Option R) (KR : Bool → Option R) (k : Nat) (n353 : Int) (q354 : Option Addr) (l355 : Nat) (c356 : Nat) (q357 : Option Addr) (l358 : Nat) (c359 : Nat) (n360 : Int) (H : Heap) : Option R :=
bif decide ((IntKind.wrap .i64 (n360 + 1)) < ((l355 : Nat) : Int)) then (L_CblkOrders_p7 n353 q354 l355 c356 q357 l358 c359 n360 H (fun n382 q383 l384 c385 q386 l387 c388 n389 =>
rec n382 q383 l384 c385 q386 l387 c388 (IntKind.wrap .i64 (n389 + 1)) H) (fun t390 =>
KR t390))
 else (KE6 n353)
def L_CblkOrders_l6 {R : Type} (k : Nat) (KE6 : Int → Option R) (KR : Bool → Option R) : Nat → Int → Option Addr → Nat → Nat → Option Addr → Nat → Nat → Int → Heap → Option R
  | 0, _, _, _, _, _, _, _, _, _ => none
  | n + 1, n353, q354, l355, c356, q357, l358, c359, n360, H => L_CblkOrders_l6_b (L_CblkOrders_p7 k) (L_CblkOrders_l6 k KE6 KR n) KE6 KR k n353 q354 l355 c356 q357 l358 c359 n360 H

def L_CblkOrders_b {R : Type} (cblk_Scan : Int → Int → Heap → (Option Addr → Nat → Nat → Heap → Option R) → Option R) (L_CblkOrders_l0 : (Int → Option Addr → Int → Int → Option Addr → Nat → Nat → Heap → Option R) → (Bool → Heap → Option R) → Nat → Int → Option Addr → Int → Int → Option Addr → Nat → Nat → Option Addr → Nat → Nat → Int → Heap → Option R) (cblk_Segments : Int → Bool → Bool → Bool → Bool → Bool → Heap → (Option Addr → Nat → Nat → Heap → Option R) → Option R) (L_CblkOrders_l2 : (Option Addr → Int → Int → Option Addr → Nat → Nat → Int → Option Addr → Nat → Nat → Int → Heap → Option R) → (Bool → Heap → Option R) → Nat → Option Addr → Int → Int → Option Addr → Nat → Nat → Int → Option Addr → Nat → Nat → Int → Int → Heap → Option R) (L_CblkOrders_p5 : Option Addr → Int → Int → Option Addr → Nat → Nat → Int → Option Addr → Nat → Nat → Int → (Option Addr → Int → Option Addr → Nat → Nat → Option R) → (Bool → Option R) → Option R) (L_CblkOrders_l6 : (Int → Option R) → (Bool → Option R) → Nat → Int → Option Addr → Nat → Nat → Option Addr → Nat → Nat → Int → Heap → Option R) (cblk_Pass : Int → (Int → Int → Option R) → Option R) (L_exampleHoldsq : (Bool → Option R) → Option R) (k : Nat) (n61 : Int) (n62 : Int) (n63 : Int) (t64 : Bool) (t65 : Bool) (t66 : Bool) (t67 : Bool) (t68 : Bool) (H : Heap) (K : Bool → Heap → Option R) : Option R :=
hal H [.int .u8 n61, .int .u8 n62] fun p69 H70 =>
hal H70 [.bool t64, .bool t65, .bool t66, .bool t67, .bool t68] fun p71 H72 =>
hidx p69 2 0 1 fun p73 =>
ldI .u8 H72 p73 fun n74 =>
hidx p69 2 1 1 fun p75 =>
ldI .u8 H72 p75 fun n76 =>
cblk_Scan (IntKind.wrap .i64 ((Int.tmod (IntKind.wrap .i64 n74) 64) + 1)) (IntKind.wrap .i64 ((Int.tmod (IntKind.wrap .i64 n76) 64) + 1)) H72 fun q77 l78 c79 H80 =>
hmk [.bool false] 1 H80 (IntKind.wrap .i64 ((IntKind.wrap .i64 ((Int.tmod (IntKind.wrap .i64 n74) 64) + 1)) * (IntKind.wrap .i64 ((Int.tmod (IntKind.wrap .i64 n76) 64) + 1)))) (IntKind.wrap .i64 ((IntKind.wrap .i64 ((Int.tmod (IntKind.wrap .i64 n74) 64) + 1)) * (IntKind.wrap .i64 ((Int.tmod (IntKind.wrap .i64 n76) 64) + 1)))) fun q81 l82 c83 H84 =>
L_CblkOrders_l0 (fun n168 p169 n170 n171 q172 l173 c174 H175 =>
ldB H175 (pad p169 0) fun t176 =>
ldB H175 (pad p169 1) fun t177 =>
ldB H175 (pad p169 2) fun t178 =>
ldB H175 (pad p169 3) fun t179 =>
ldB H175 (pad p169 4) fun t180 =>
cblk_Segments (IntKind.wrap .i64 ((Int.tmod (IntKind.wrap .i64 n168) 178) + 1)) t176 t177 t178 t179 t180 H175 fun q181 l182 c183 H184 =>
L_CblkOrders_l2 (fun p310 n311 n312 q313 l314 c315 n316 q317 l318 c319 n320 H321 =>
L_CblkOrders_p5 p310 n311 n312 q313 l314 c315 n316 q317 l318 c319 n320 (fun p339 n340 q341 l342 c343 =>
ldB H321 (pad p339 0) fun t344 =>
ldB H321 (pad p339 1) fun t345 =>
ldB H321 (pad p339 2) fun t346 =>
ldB H321 (pad p339 3) fun t347 =>
ldB H321 (pad p339 4) fun t348 =>
cblk_Segments (imn (IntKind.wrap .i64 (n340 + 1)) 178) t344 t345 t346 t347 t348 H321 fun q349 l350 c351 H352 =>
L_CblkOrders_l6 (fun n393 =>
cblk_Pass (IntKind.wrap .i64 (3 * (Int.tmod n393 60))) fun n394 n395 =>
cblk_Pass (IntKind.wrap .i64 ((IntKind.wrap .i64 (3 * (Int.tmod n393 60))) + 1)) fun n396 n397 =>
bif (n394 == (Int.tmod n393 60)) then (bif (n395 == 2) then (bif (n396 == (IntKind.wrap .i64 ((Int.tmod n393 60) + 1))) then (bif (n397 == 0) then (L_exampleHoldsq fun t398 =>
K t398 H352)
 else (K false H352))
 else (K false H352))
 else (K false H352))
 else (K false H352)) (fun t399 =>
K t399 H352) k n340 q341 l342 c343 q349 l350 c351 0 H352) (fun t400 =>
K t400 H321)) (fun t401 H402 =>
K t401 H402) k p169 n170 n171 q172 l173 c174 (IntKind.wrap .i64 ((Int.tmod (IntKind.wrap .i64 n168) 178) + 1)) q181 l182 c183 0 0 H184) (fun t403 H404 =>
K t403 H404) k n63 p71 (IntKind.wrap .i64 ((Int.tmod (IntKind.wrap .i64 n74) 64) + 1)) (IntKind.wrap .i64 ((Int.tmod (IntKind.wrap .i64 n76) 64) + 1)) q77 l78 c79 q81 l82 c83 0 H84

def L_CblkOrders {R : Type} (k : Nat) (n61 : Int) (n62 : Int) (n63 : Int) (t64 : Bool) (t65 : Bool) (t66 : Bool) (t67 : Bool) (t68 : Bool) (H : Heap) (K : Bool → Heap → Option R) : Option R := L_CblkOrders_b (cblk_Scan k) (L_CblkOrders_l0 k) (cblk_Segments k) (L_CblkOrders_l2 k) (L_CblkOrders_p5 k) (L_CblkOrders_l6 k) cblk_Pass L_exampleHoldsq k n61 n62 n63 t64 t65 t66 t67 t68 H K

def L_CblkOrders_Ct {R : Type} (cblk_Scan : Int → Int → Heap → (Option Addr → Nat → Nat → Heap → Option R) → Option R) (cblk_Segments : Int → Bool → Bool → Bool → Bool → Bool → Heap → (Option Addr → Nat → Nat → Heap → Option R) → Option R) (cblk_Raw : Int → Bool → Bool → Bool → Bool → Bool → Heap → (Bool → Heap → Option R) → Option R) (cblk_Pass : Int → (Int → Int → Option R) → Option R) (L_exampleHoldsq : (Bool → Option R) → Option R) : Tab R := tcons 12 (cblk_Scan_ca cblk_Scan) <| tcons 20 (cblk_Segments_ca cblk_Segments) <| tcons 17 (cblk_Raw_ca cblk_Raw) <| tcons 15 (cblk_Pass_ca cblk_Pass) <| tcons 14 (L_exampleHoldsq_ca L_exampleHoldsq) <| fun _ _ _ _ => none
def L_CblkOrders_C (R : Type) (k : Nat) : Tab R := L_CblkOrders_Ct (cblk_Scan k) (cblk_Segments k) (cblk_Raw k) cblk_Pass L_exampleHoldsq
theorem L_CblkOrders_S (R : Type) (k : Nat) : CSound Try.prog (L_CblkOrders_C R k) := csound_cons (cblk_Scan_cs R k) <| csound_cons (cblk_Segments_cs R k) <| csound_cons (cblk_Raw_cs R k) <| csound_cons (cblk_Pass_cs R k) <| csound_cons (L_exampleHoldsq_cs R k) <| csound_nil
def L_CblkOrders_aa0 {R : Type} (f : (Int → Option Addr → Int → Int → Option Addr → Nat → Nat → Heap → Option R) → (Bool → Heap → Option R) → Nat → Int → Option Addr → Int → Int → Option Addr → Nat → Nat → Option Addr → Nat → Nat → Int → Heap → Option R) (n : Nat) (vals : List Value) (H : Heap) (K : Xit → Env → Heap → Option R) : Option R :=
  match vals with
  | [.int .u8 n85, .pointer p86, .int .i64 n87, .int .i64 n88, .slice q89 l90 c91, .slice q92 l93 c94, .int .i64 n95] => f (fun n1222 p1223 n1224 n1225 q1226 l1227 c1228 H => K (.exit 0) [(1, .int .u8 n1222), (5, .pointer p1223), (7, .int .i64 n1224), (8, .int .i64 n1225), (9, .slice q1226 l1227 c1228)] H) (fun t1229 H => K .ret [(6, .bool t1229)] H) n n85 p86 n87 n88 q89 l90 c91 q92 l93 c94 n95 H
  | _ => none
def L_CblkOrders_a0 (R : Type) (k n : Nat) (vals : List Value) (H : Heap) (K : Xit → Env → Heap → Option R) : Option R := L_CblkOrders_aa0 (L_CblkOrders_l0 k) n vals H K
def L_CblkOrders_aa1 {R : Type} (f : Int → Option Addr → Int → Int → Option Addr → Nat → Nat → Option Addr → Nat → Nat → Int → Option Addr → Heap → (Int → Option Addr → Int → Int → Option Addr → Nat → Nat → Option Addr → Nat → Nat → Int → Option Addr → Option R) → (Bool → Option R) → Option R) (n : Nat) (vals : List Value) (H : Heap) (K : Xit → Env → Heap → Option R) : Option R :=
  match vals with
  | [.int .u8 n102, .pointer p103, .int .i64 n104, .int .i64 n105, .slice q106 l107 c108, .slice q109 l110 c111, .int .i64 n112, .pointer p113] => f n102 p103 n104 n105 q106 l107 c108 q109 l110 c111 n112 p113 H (fun n1230 p1231 n1232 n1233 q1234 l1235 c1236 q1237 l1238 c1239 n1240 p1241 => K .normal [(1, .int .u8 n1230), (5, .pointer p1231), (7, .int .i64 n1232), (8, .int .i64 n1233), (9, .slice q1234 l1235 c1236), (10, .slice q1237 l1238 c1239), (11, .int .i64 n1240), (12, .pointer p1241)] H) (fun t1242 => K .ret [(6, .bool t1242)] H)
  | _ => none
def L_CblkOrders_a1 (R : Type) (k n : Nat) (vals : List Value) (H : Heap) (K : Xit → Env → Heap → Option R) : Option R := L_CblkOrders_aa1 (L_CblkOrders_p1 k) n vals H K
def L_CblkOrders_aa2 {R : Type} (f : (Option Addr → Int → Int → Option Addr → Nat → Nat → Int → Option Addr → Nat → Nat → Int → Heap → Option R) → (Bool → Heap → Option R) → Nat → Option Addr → Int → Int → Option Addr → Nat → Nat → Int → Option Addr → Nat → Nat → Int → Int → Heap → Option R) (n : Nat) (vals : List Value) (H : Heap) (K : Xit → Env → Heap → Option R) : Option R :=
  match vals with
  | [.pointer p185, .int .i64 n186, .int .i64 n187, .slice q188 l189 c190, .int .i64 n191, .slice q192 l193 c194, .int .i64 n195, .int .i64 n196] => f (fun p1243 n1244 n1245 q1246 l1247 c1248 n1249 q1250 l1251 c1252 n1253 H => K (.exit 2) [(5, .pointer p1243), (7, .int .i64 n1244), (8, .int .i64 n1245), (9, .slice q1246 l1247 c1248), (13, .int .i64 n1249), (14, .slice q1250 l1251 c1252), (15, .int .i64 n1253)] H) (fun t1254 H => K .ret [(6, .bool t1254)] H) n p185 n186 n187 q188 l189 c190 n191 q192 l193 c194 n195 n196 H
  | _ => none
def L_CblkOrders_a2 (R : Type) (k n : Nat) (vals : List Value) (H : Heap) (K : Xit → Env → Heap → Option R) : Option R := L_CblkOrders_aa2 (L_CblkOrders_l2 k) n vals H K
def L_CblkOrders_aa3 {R : Type} (f : Option Addr → Int → Int → Option Addr → Nat → Nat → Int → Option Addr → Nat → Nat → Int → Int → Heap → (Option Addr → Int → Int → Option Addr → Nat → Nat → Int → Option Addr → Nat → Nat → Int → Int → Option R) → (Bool → Option R) → Option R) (n : Nat) (vals : List Value) (H : Heap) (K : Xit → Env → Heap → Option R) : Option R :=
  match vals with
  | [.pointer p197, .int .i64 n198, .int .i64 n199, .slice q200 l201 c202, .int .i64 n203, .slice q204 l205 c206, .int .i64 n207, .int .i64 n208] => f p197 n198 n199 q200 l201 c202 n203 q204 l205 c206 n207 n208 H (fun p1255 n1256 n1257 q1258 l1259 c1260 n1261 q1262 l1263 c1264 n1265 n1266 => K .normal [(5, .pointer p1255), (7, .int .i64 n1256), (8, .int .i64 n1257), (9, .slice q1258 l1259 c1260), (13, .int .i64 n1261), (14, .slice q1262 l1263 c1264), (15, .int .i64 n1265), (16, .int .i64 n1266)] H) (fun t1267 => K .ret [(6, .bool t1267)] H)
  | _ => none
def L_CblkOrders_a3 (R : Type) (k n : Nat) (vals : List Value) (H : Heap) (K : Xit → Env → Heap → Option R) : Option R := L_CblkOrders_aa3 (L_CblkOrders_p3 k) n vals H K
def L_CblkOrders_aa4 {R : Type} (f : (Option Addr → Int → Int → Option Addr → Nat → Nat → Int → Option Addr → Nat → Nat → Int → Int → Heap → Option R) → (Bool → Heap → Option R) → Nat → Option Addr → Int → Int → Option Addr → Nat → Nat → Int → Option Addr → Nat → Nat → Int → Int → Int → Heap → Option R) (n : Nat) (vals : List Value) (H : Heap) (K : Xit → Env → Heap → Option R) : Option R :=
  match vals with
  | [.pointer p238, .int .i64 n239, .int .i64 n240, .slice q241 l242 c243, .int .i64 n244, .slice q245 l246 c247, .int .i64 n248, .int .i64 n249, .int .i64 n250] => f (fun p1268 n1269 n1270 q1271 l1272 c1273 n1274 q1275 l1276 c1277 n1278 n1279 H => K (.exit 4) [(5, .pointer p1268), (7, .int .i64 n1269), (8, .int .i64 n1270), (9, .slice q1271 l1272 c1273), (13, .int .i64 n1274), (14, .slice q1275 l1276 c1277), (15, .int .i64 n1278), (16, .int .i64 n1279)] H) (fun t1280 H => K .ret [(6, .bool t1280)] H) n p238 n239 n240 q241 l242 c243 n244 q245 l246 c247 n248 n249 n250 H
  | _ => none
def L_CblkOrders_a4 (R : Type) (k n : Nat) (vals : List Value) (H : Heap) (K : Xit → Env → Heap → Option R) : Option R := L_CblkOrders_aa4 (L_CblkOrders_l4 k) n vals H K
def L_CblkOrders_aa5 {R : Type} (f : Option Addr → Int → Int → Option Addr → Nat → Nat → Int → Option Addr → Nat → Nat → Int → (Option Addr → Int → Option Addr → Nat → Nat → Option R) → (Bool → Option R) → Option R) (n : Nat) (vals : List Value) (H : Heap) (K : Xit → Env → Heap → Option R) : Option R :=
  match vals with
  | [.pointer p322, .int .i64 n323, .int .i64 n324, .slice q325 l326 c327, .int .i64 n328, .slice q329 l330 c331, .int .i64 n332] => f p322 n323 n324 q325 l326 c327 n328 q329 l330 c331 n332 (fun p1281 n1282 q1283 l1284 c1285 => K .normal [(5, .pointer p1281), (13, .int .i64 n1282), (14, .slice q1283 l1284 c1285)] H) (fun t1286 => K .ret [(6, .bool t1286)] H)
  | _ => none
def L_CblkOrders_a5 (R : Type) (k n : Nat) (vals : List Value) (H : Heap) (K : Xit → Env → Heap → Option R) : Option R := L_CblkOrders_aa5 (L_CblkOrders_p5 k) n vals H K
def L_CblkOrders_aa6 {R : Type} (f : (Int → Option R) → (Bool → Option R) → Nat → Int → Option Addr → Nat → Nat → Option Addr → Nat → Nat → Int → Heap → Option R) (n : Nat) (vals : List Value) (H : Heap) (K : Xit → Env → Heap → Option R) : Option R :=
  match vals with
  | [.int .i64 n353, .slice q354 l355 c356, .slice q357 l358 c359, .int .i64 n360] => f (fun n1287 => K (.exit 6) [(13, .int .i64 n1287)] H) (fun t1288 => K .ret [(6, .bool t1288)] H) n n353 q354 l355 c356 q357 l358 c359 n360 H
  | _ => none
def L_CblkOrders_a6 (R : Type) (k n : Nat) (vals : List Value) (H : Heap) (K : Xit → Env → Heap → Option R) : Option R := L_CblkOrders_aa6 (L_CblkOrders_l6 k) n vals H K
def L_CblkOrders_aa7 {R : Type} (f : Int → Option Addr → Nat → Nat → Option Addr → Nat → Nat → Int → Heap → (Int → Option Addr → Nat → Nat → Option Addr → Nat → Nat → Int → Option R) → (Bool → Option R) → Option R) (n : Nat) (vals : List Value) (H : Heap) (K : Xit → Env → Heap → Option R) : Option R :=
  match vals with
  | [.int .i64 n361, .slice q362 l363 c364, .slice q365 l366 c367, .int .i64 n368] => f n361 q362 l363 c364 q365 l366 c367 n368 H (fun n1289 q1290 l1291 c1292 q1293 l1294 c1295 n1296 => K .normal [(13, .int .i64 n1289), (14, .slice q1290 l1291 c1292), (18, .slice q1293 l1294 c1295), (19, .int .i64 n1296)] H) (fun t1297 => K .ret [(6, .bool t1297)] H)
  | _ => none
def L_CblkOrders_a7 (R : Type) (k n : Nat) (vals : List Value) (H : Heap) (K : Xit → Env → Heap → Option R) : Option R := L_CblkOrders_aa7 (L_CblkOrders_p7 k) n vals H K
def L_CblkOrders_Jt {R : Type} (k : Nat) (L_CblkOrders_l0 : (Int → Option Addr → Int → Int → Option Addr → Nat → Nat → Heap → Option R) → (Bool → Heap → Option R) → Nat → Int → Option Addr → Int → Int → Option Addr → Nat → Nat → Option Addr → Nat → Nat → Int → Heap → Option R) (L_CblkOrders_p1 : Int → Option Addr → Int → Int → Option Addr → Nat → Nat → Option Addr → Nat → Nat → Int → Option Addr → Heap → (Int → Option Addr → Int → Int → Option Addr → Nat → Nat → Option Addr → Nat → Nat → Int → Option Addr → Option R) → (Bool → Option R) → Option R) (L_CblkOrders_l2 : (Option Addr → Int → Int → Option Addr → Nat → Nat → Int → Option Addr → Nat → Nat → Int → Heap → Option R) → (Bool → Heap → Option R) → Nat → Option Addr → Int → Int → Option Addr → Nat → Nat → Int → Option Addr → Nat → Nat → Int → Int → Heap → Option R) (L_CblkOrders_p3 : Option Addr → Int → Int → Option Addr → Nat → Nat → Int → Option Addr → Nat → Nat → Int → Int → Heap → (Option Addr → Int → Int → Option Addr → Nat → Nat → Int → Option Addr → Nat → Nat → Int → Int → Option R) → (Bool → Option R) → Option R) (L_CblkOrders_l4 : (Option Addr → Int → Int → Option Addr → Nat → Nat → Int → Option Addr → Nat → Nat → Int → Int → Heap → Option R) → (Bool → Heap → Option R) → Nat → Option Addr → Int → Int → Option Addr → Nat → Nat → Int → Option Addr → Nat → Nat → Int → Int → Int → Heap → Option R) (L_CblkOrders_p5 : Option Addr → Int → Int → Option Addr → Nat → Nat → Int → Option Addr → Nat → Nat → Int → (Option Addr → Int → Option Addr → Nat → Nat → Option R) → (Bool → Option R) → Option R) (L_CblkOrders_l6 : (Int → Option R) → (Bool → Option R) → Nat → Int → Option Addr → Nat → Nat → Option Addr → Nat → Nat → Int → Heap → Option R) (L_CblkOrders_p7 : Int → Option Addr → Nat → Nat → Option Addr → Nat → Nat → Int → Heap → (Int → Option Addr → Nat → Nat → Option Addr → Nat → Nat → Int → Option R) → (Bool → Option R) → Option R) : JTab R := tcons 0 (L_CblkOrders_aa0 L_CblkOrders_l0 k) <| tcons 1 (L_CblkOrders_aa1 L_CblkOrders_p1 k) <| tcons 2 (L_CblkOrders_aa2 L_CblkOrders_l2 k) <| tcons 3 (L_CblkOrders_aa3 L_CblkOrders_p3 k) <| tcons 4 (L_CblkOrders_aa4 L_CblkOrders_l4 k) <| tcons 5 (L_CblkOrders_aa5 L_CblkOrders_p5 k) <| tcons 6 (L_CblkOrders_aa6 L_CblkOrders_l6 k) <| tcons 7 (L_CblkOrders_aa7 L_CblkOrders_p7 k) <| fun _ _ _ _ => none
def L_CblkOrders_J (R : Type) (k : Nat) : JTab R := L_CblkOrders_Jt k (L_CblkOrders_l0 k) (L_CblkOrders_p1 k) (L_CblkOrders_l2 k) (L_CblkOrders_p3 k) (L_CblkOrders_l4 k) (L_CblkOrders_p5 k) (L_CblkOrders_l6 k) (L_CblkOrders_p7 k)
def L_CblkOrders_at : AT := (.seq (.reg [1, 3, 5] []) (.seq (.reg [1, 5, 7, 8] [[], [0], [0, 1], [0, 1, 2], [0, 1, 2, 3], [], [5], [5, 6], [5, 6, 7], [5, 6, 7, 8], [0, 1, 2, 3, 4], [0, 1, 2, 3, 4, 5, 6, 7, 8, 9, 10]]) (.seq (.reg [1, 5, 7, 8, 9] []) (.seq (.reg [1, 5, 7, 8, 9, 10] []) (.seq (.seq (.reg [1, 5, 7, 8, 9, 10, 11] []) (.node (.opq 0 [1, 5, 7, 8, 9, 10, 11] ⟨[], [(0, [1, 5, 7, 8, 9])], [6]⟩ (.node (.seq (.seq (.reg [1, 5, 7, 8, 9, 10, 11, 45] []) (.cond .leaf .leaf)) (.seq (.node (.seq (.reg [1, 5, 7, 8, 9, 10, 11, 12] []) (.seq (.opq 1 [1, 5, 7, 8, 9, 10, 11, 12] ⟨[1, 5, 7, 8, 9, 10, 11, 12], [], [6]⟩ (.seq (.reg [1, 5, 7, 8, 9, 10, 11, 12, 83] []) (.cond (.seq (.reg [6] []) .leaf) .leaf))) (.reg [1, 5, 7, 8, 9, 10, 11] [])))) (.reg [1, 5, 7, 8, 9, 10, 11] []))))))) (.seq (.reg [5, 7, 8, 9, 13] []) (.seq (.reg [5, 7, 8, 9, 13, 14] []) (.seq (.reg [5, 7, 8, 9, 13, 14, 15] []) (.seq (.seq (.reg [5, 7, 8, 9, 13, 14, 15, 16] []) (.node (.opq 2 [5, 7, 8, 9, 13, 14, 15, 16] ⟨[], [(2, [5, 7, 8, 9, 13, 14, 15])], [6]⟩ (.node (.seq (.seq (.reg [5, 7, 8, 9, 13, 14, 15, 16, 103] []) (.cond .leaf .leaf)) (.seq (.node (.seq (.opq 3 [5, 7, 8, 9, 13, 14, 15, 16] ⟨[5, 7, 8, 9, 13, 14, 15, 16], [], [6]⟩ (.seq (.reg [5, 7, 8, 9, 13, 14, 15, 16, 120] []) (.cond (.seq (.reg [6] []) .leaf) .leaf))) (.seq (.seq (.reg [5, 7, 8, 9, 13, 14, 15, 16, 17] []) (.node (.opq 4 [5, 7, 8, 9, 13, 14, 15, 16, 17] ⟨[], [(4, [5, 7, 8, 9, 13, 14, 15, 16])], [6]⟩ (.node (.seq (.seq (.reg [5, 7, 8, 9, 13, 14, 15, 16, 17, 129] []) (.cond .leaf .leaf)) (.seq (.node (.seq (.reg [5, 7, 8, 9, 13, 14, 15, 16, 17, 138] [[], [], [0, 1], [], [], [0, 1, 2, 3, 4], [0, 1, 2, 3, 4, 5]]) (.cond (.seq (.reg [6] []) .leaf) .leaf))) (.reg [5, 7, 8, 9, 13, 14, 15, 16, 17] []))))))) (.reg [5, 7, 8, 9, 13, 14, 15, 16] [])))) (.reg [5, 7, 8, 9, 13, 14, 15, 16] []))))))) (.seq (.opq 5 [5, 7, 8, 9, 13, 14, 15] ⟨[5, 13, 14], [], [6]⟩ (.seq (.reg [5, 13, 14, 155] []) (.cond (.seq (.reg [6] []) .leaf) .leaf))) (.seq (.reg [13, 14, 18] []) (.seq (.seq (.reg [13, 14, 18, 19] []) (.node (.opq 6 [13, 14, 18, 19] ⟨[], [(6, [13])], [6]⟩ (.node (.seq (.seq (.reg [13, 14, 18, 19, 165] []) (.cond .leaf .leaf)) (.seq (.opq 7 [13, 14, 18, 19] ⟨[13, 14, 18, 19], [], [6]⟩ (.node (.seq (.reg [13, 14, 18, 19, 182] [[], [], [1], [0, 1, 2], [0, 1, 2, 3], [0, 1, 2, 3, 4], [0, 1, 2, 3, 4], [0, 1, 2, 3, 4, 5, 6], [0, 1, 2, 3, 4, 5, 6, 7], [0, 1, 2, 3, 4], [0, 1, 2, 3, 4], [0, 1, 2, 3, 4, 9, 10], [0, 1, 2, 3, 4, 9, 10, 11], [0, 1, 2, 3, 4, 5, 6, 7, 8, 9, 10, 11, 12], [0, 1, 2, 3, 4, 5, 6, 7, 8, 9, 10, 11, 12, 13]]) (.cond (.seq (.reg [6] []) .leaf) .leaf)))) (.reg [13, 14, 18, 19] []))))))) (.seq (.reg [20] []) (.seq (.reg [20, 21, 22] []) (.seq (.reg [20, 21, 22, 23, 24] []) (.seq (.reg [6] []) .leaf))))))))))))))))
def L_CblkOrders_i7 : IC := (.block 7 (.seq (.reg [⟨some 168, .mov (.t 19), none⟩,
 ⟨some 169, .mov (.t 18), none⟩,
 ⟨some 170, .len false (.t 169), none⟩,
 ⟨some 171, .cmp .geq (.t 168) (.t 170), none⟩,
 ⟨some 172, .mov (.t 171), none⟩,
 ⟨some 173, .mov (.t 18), some (172, false)⟩,
 ⟨some 174, .mov (.t 19), some (172, false)⟩,
 ⟨some 175, .ids 1 (.t 173) (.t 174), some (172, false)⟩,
 ⟨some 176, .ld (.sc (.int .i64)) (.t 175), some (172, false)⟩,
 ⟨some 177, .mov (.t 14), some (172, false)⟩,
 ⟨some 178, .mov (.t 19), some (172, false)⟩,
 ⟨some 179, .ids 1 (.t 177) (.t 178), some (172, false)⟩,
 ⟨some 180, .ld (.sc (.int .i64)) (.t 179), some (172, false)⟩,
 ⟨some 181, .cmp .neq (.t 176) (.t 180), some (172, false)⟩,
 ⟨some 182, .pick (.t 172) (.c (Go.Value.bool true)) (.t 181), none⟩] [13, 14, 18, 19, 182]) (.cond (.t 182) (.seq (.reg [⟨some 6, .mov (.c (Go.Value.bool false)), none⟩] [6]) .ret) .skip)))
def L_CblkOrders_i6 : IC := (.seq (.seq (.reg [⟨some 161, .mov (.t 19), none⟩,
 ⟨some 162, .bin .add .i64 (.t 161) (.c (Go.Value.int Go.IntKind.i64 1)), none⟩,
 ⟨some 163, .mov (.t 14), none⟩,
 ⟨some 164, .len false (.t 163), none⟩,
 ⟨some 165, .cmp .lss (.t 162) (.t 164), none⟩] [13, 14, 18, 19, 165]) (.cond (.t 165) .skip (.exit 6))) (.seq (.opq 7 [13, 14, 18, 19] L_CblkOrders_i7) (.reg [⟨some 166, .mov (.t 19), none⟩,
 ⟨some 167, .bin .add .i64 (.t 166) (.c (Go.Value.int Go.IntKind.i64 1)), none⟩,
 ⟨some 19, .mov (.t 167), none⟩] [13, 14, 18, 19])))
def L_CblkOrders_i5 : IC := (.seq (.reg [⟨some 145, .mov (.t 15), none⟩,
 ⟨some 146, .mov (.t 13), none⟩,
 ⟨some 147, .cmp .neq (.t 145) (.t 146), none⟩,
 ⟨some 148, .mov (.t 147), none⟩,
 ⟨some 149, .mov (.t 9), some (148, false)⟩,
 ⟨some 150, .len false (.t 149), some (148, false)⟩,
 ⟨some 151, .mov (.t 7), some (148, false)⟩,
 ⟨some 152, .mov (.t 8), some (148, false)⟩,
 ⟨some 153, .bin .mul .i64 (.t 151) (.t 152), some (148, false)⟩,
 ⟨some 154, .cmp .neq (.t 150) (.t 153), some (148, false)⟩,
 ⟨some 155, .pick (.t 148) (.c (Go.Value.bool true)) (.t 154), none⟩] [5, 13, 14, 155]) (.cond (.t 155) (.seq (.reg [⟨some 6, .mov (.c (Go.Value.bool false)), none⟩] [6]) .ret) .skip))
def L_CblkOrders_i4 : IC := (.seq (.seq (.reg [⟨some 122, .mov (.t 17), none⟩,
 ⟨some 123, .mov (.t 15), none⟩,
 ⟨some 124, .mov (.t 14), none⟩,
 ⟨some 125, .mov (.t 16), none⟩,
 ⟨some 126, .ids 1 (.t 124) (.t 125), none⟩,
 ⟨some 127, .ld (.sc (.int .i64)) (.t 126), none⟩,
 ⟨some 128, .bin .add .i64 (.t 123) (.t 127), none⟩,
 ⟨some 129, .cmp .lss (.t 122) (.t 128), none⟩] [5, 7, 8, 9, 13, 14, 15, 16, 17, 129]) (.cond (.t 129) .skip (.exit 4))) (.seq (.block 5 (.seq (.reg [⟨some 132, .mov (.t 17), none⟩,
 ⟨some 133, .ld (.agg [.bool, .bool, .bool, .bool, .bool]) (.t 5), none⟩,
 ⟨some 134, .calp 17 [(.t 132), (.t 133)] (.one (.sc .bool)), none⟩,
 ⟨some 135, .mov (.t 15), none⟩,
 ⟨some 136, .ld (.agg [.bool, .bool, .bool, .bool, .bool]) (.t 5), none⟩,
 ⟨some 137, .call 17 [(.t 135), (.t 136)] (.one (.sc .bool)), none⟩,
 ⟨some 138, .eqb (.t 134) (.t 137) true, none⟩] [5, 7, 8, 9, 13, 14, 15, 16, 17, 138]) (.cond (.t 138) (.seq (.reg [⟨some 6, .mov (.c (Go.Value.bool false)), none⟩] [6]) .ret) .skip))) (.reg [⟨some 130, .mov (.t 17), none⟩,
 ⟨some 131, .bin .add .i64 (.t 130) (.c (Go.Value.int Go.IntKind.i64 1)), none⟩,
 ⟨some 17, .mov (.t 131), none⟩] [5, 7, 8, 9, 13, 14, 15, 16, 17])))
def L_CblkOrders_i3 : IC := (.seq (.reg [⟨some 106, .mov (.t 14), none⟩,
 ⟨some 107, .mov (.t 16), none⟩,
 ⟨some 108, .ids 1 (.t 106) (.t 107), none⟩,
 ⟨some 109, .ld (.sc (.int .i64)) (.t 108), none⟩,
 ⟨some 110, .cmp .lss (.t 109) (.c (Go.Value.int Go.IntKind.i64 1)), none⟩,
 ⟨some 111, .mov (.t 110), none⟩,
 ⟨some 112, .mov (.t 15), some (111, false)⟩,
 ⟨some 113, .mov (.t 14), some (111, false)⟩,
 ⟨some 114, .mov (.t 16), some (111, false)⟩,
 ⟨some 115, .ids 1 (.t 113) (.t 114), some (111, false)⟩,
 ⟨some 116, .ld (.sc (.int .i64)) (.t 115), some (111, false)⟩,
 ⟨some 117, .bin .add .i64 (.t 112) (.t 116), some (111, false)⟩,
 ⟨some 118, .mov (.t 13), some (111, false)⟩,
 ⟨some 119, .cmp .gtr (.t 117) (.t 118), some (111, false)⟩,
 ⟨some 120, .pick (.t 111) (.c (Go.Value.bool true)) (.t 119), none⟩] [5, 7, 8, 9, 13, 14, 15, 16, 120]) (.cond (.t 120) (.seq (.reg [⟨some 6, .mov (.c (Go.Value.bool false)), none⟩] [6]) .ret) .skip))
def L_CblkOrders_i2 : IC := (.seq (.seq (.reg [⟨some 100, .mov (.t 16), none⟩,
 ⟨some 101, .mov (.t 14), none⟩,
 ⟨some 102, .len false (.t 101), none⟩,
 ⟨some 103, .cmp .lss (.t 100) (.t 102), none⟩] [5, 7, 8, 9, 13, 14, 15, 16, 103]) (.cond (.t 103) .skip (.exit 2))) (.seq (.block 3 (.seq (.opq 3 [5, 7, 8, 9, 13, 14, 15, 16] L_CblkOrders_i3) (.seq (.seq (.reg [⟨some 121, .mov (.t 15), none⟩,
 ⟨some 17, .mov (.t 121), none⟩] [5, 7, 8, 9, 13, 14, 15, 16, 17]) (.block 4 (.opq 4 [5, 7, 8, 9, 13, 14, 15, 16, 17] (.loop L_CblkOrders_i4)))) (.reg [⟨some 139, .mov (.t 15), none⟩,
 ⟨some 140, .mov (.t 14), none⟩,
 ⟨some 141, .mov (.t 16), none⟩,
 ⟨some 142, .ids 1 (.t 140) (.t 141), none⟩,
 ⟨some 143, .ld (.sc (.int .i64)) (.t 142), none⟩,
 ⟨some 144, .bin .add .i64 (.t 139) (.t 143), none⟩,
 ⟨some 15, .mov (.t 144), none⟩] [5, 7, 8, 9, 13, 14, 15, 16])))) (.reg [⟨some 104, .mov (.t 16), none⟩,
 ⟨some 105, .bin .add .i64 (.t 104) (.c (Go.Value.int Go.IntKind.i64 1)), none⟩,
 ⟨some 16, .mov (.t 105), none⟩] [5, 7, 8, 9, 13, 14, 15, 16])))
def L_CblkOrders_i1 : IC := (.seq (.reg [⟨some 52, .fad 0 (.t 12), none⟩,
 ⟨some 53, .ld (.sc (.int .i64)) (.t 52), none⟩,
 ⟨some 54, .cmp .lss (.t 53) (.c (Go.Value.int Go.IntKind.i64 0)), none⟩,
 ⟨some 55, .mov (.t 54), none⟩,
 ⟨some 56, .fad 0 (.t 12), some (55, false)⟩,
 ⟨some 57, .ld (.sc (.int .i64)) (.t 56), some (55, false)⟩,
 ⟨some 58, .mov (.t 7), some (55, false)⟩,
 ⟨some 59, .cmp .geq (.t 57) (.t 58), some (55, false)⟩,
 ⟨some 60, .pick (.t 55) (.c (Go.Value.bool true)) (.t 59), none⟩,
 ⟨some 61, .mov (.t 60), none⟩,
 ⟨some 62, .fad 1 (.t 12), some (61, false)⟩,
 ⟨some 63, .ld (.sc (.int .i64)) (.t 62), some (61, false)⟩,
 ⟨some 64, .cmp .lss (.t 63) (.c (Go.Value.int Go.IntKind.i64 0)), some (61, false)⟩,
 ⟨some 65, .pick (.t 61) (.c (Go.Value.bool true)) (.t 64), none⟩,
 ⟨some 66, .mov (.t 65), none⟩,
 ⟨some 67, .fad 1 (.t 12), some (66, false)⟩,
 ⟨some 68, .ld (.sc (.int .i64)) (.t 67), some (66, false)⟩,
 ⟨some 69, .mov (.t 8), some (66, false)⟩,
 ⟨some 70, .cmp .geq (.t 68) (.t 69), some (66, false)⟩,
 ⟨some 71, .pick (.t 66) (.c (Go.Value.bool true)) (.t 70), none⟩,
 ⟨some 72, .mov (.t 71), none⟩,
 ⟨some 73, .mov (.t 10), some (72, false)⟩,
 ⟨some 74, .fad 1 (.t 12), some (72, false)⟩,
 ⟨some 75, .ld (.sc (.int .i64)) (.t 74), some (72, false)⟩,
 ⟨some 76, .mov (.t 7), some (72, false)⟩,
 ⟨some 77, .bin .mul .i64 (.t 75) (.t 76), some (72, false)⟩,
 ⟨some 78, .fad 0 (.t 12), some (72, false)⟩,
 ⟨some 79, .ld (.sc (.int .i64)) (.t 78), some (72, false)⟩,
 ⟨some 80, .bin .add .i64 (.t 77) (.t 79), some (72, false)⟩,
 ⟨some 81, .ids 1 (.t 73) (.t 80), some (72, false)⟩,
 ⟨some 82, .ld (.sc .bool) (.t 81), some (72, false)⟩,
 ⟨some 83, .pick (.t 72) (.c (Go.Value.bool true)) (.t 82), none⟩] [1, 5, 7, 8, 9, 10, 11, 12, 83]) (.cond (.t 83) (.seq (.reg [⟨some 6, .mov (.c (Go.Value.bool false)), none⟩] [6]) .ret) .skip))
def L_CblkOrders_i0 : IC := (.seq (.seq (.reg [⟨some 42, .mov (.t 11), none⟩,
 ⟨some 43, .mov (.t 9), none⟩,
 ⟨some 44, .len false (.t 43), none⟩,
 ⟨some 45, .cmp .lss (.t 42) (.t 44), none⟩] [1, 5, 7, 8, 9, 10, 11, 45]) (.cond (.t 45) .skip (.exit 0))) (.seq (.block 1 (.seq (.reg [⟨some 48, .mov (.t 9), none⟩,
 ⟨some 49, .mov (.t 11), none⟩,
 ⟨some 50, .ids 2 (.t 48) (.t 49), none⟩,
 ⟨some 51, .ld (.agg [(.int .i64), (.int .i64)]) (.t 50), none⟩,
 ⟨some 12, .alc [.int .i64 0, .int .i64 0], none⟩,
 ⟨none, .st 2 (.t 12) (.t 51), none⟩] [1, 5, 7, 8, 9, 10, 11, 12]) (.seq (.opq 1 [1, 5, 7, 8, 9, 10, 11, 12] L_CblkOrders_i1) (.reg [⟨some 84, .mov (.t 10), none⟩,
 ⟨some 85, .fad 1 (.t 12), none⟩,
 ⟨some 86, .ld (.sc (.int .i64)) (.t 85), none⟩,
 ⟨some 87, .mov (.t 7), none⟩,
 ⟨some 88, .bin .mul .i64 (.t 86) (.t 87), none⟩,
 ⟨some 89, .fad 0 (.t 12), none⟩,
 ⟨some 90, .ld (.sc (.int .i64)) (.t 89), none⟩,
 ⟨some 91, .bin .add .i64 (.t 88) (.t 90), none⟩,
 ⟨some 92, .ids 1 (.t 84) (.t 91), none⟩,
 ⟨none, .st 1 (.t 92) (.c (Go.Value.bool true)), none⟩] [1, 5, 7, 8, 9, 10, 11])))) (.reg [⟨some 46, .mov (.t 11), none⟩,
 ⟨some 47, .bin .add .i64 (.t 46) (.c (Go.Value.int Go.IntKind.i64 1)), none⟩,
 ⟨some 11, .mov (.t 47), none⟩] [1, 5, 7, 8, 9, 10, 11])))
def L_CblkOrders_f : IFn := ⟨218, [.t 6], (.seq (.reg [⟨some 3, .box (.t 0), none⟩,
 ⟨some 5, .box (.t 2), none⟩,
 ⟨some 6, .mov (.c (Go.Value.bool false)), none⟩] [1, 3, 5]) (.seq (.reg [⟨some 25, .ida 2 1 (.t 3) (.c (Go.Value.int Go.IntKind.i64 0)), none⟩,
 ⟨some 26, .ld (.sc (.int .u8)) (.t 25), none⟩,
 ⟨some 27, .cnv .i64 (.t 26), none⟩,
 ⟨some 28, .bin .rem .i64 (.t 27) (.c (Go.Value.int Go.IntKind.i64 64)), none⟩,
 ⟨some 29, .bin .add .i64 (.t 28) (.c (Go.Value.int Go.IntKind.i64 1)), none⟩,
 ⟨some 30, .ida 2 1 (.t 3) (.c (Go.Value.int Go.IntKind.i64 1)), none⟩,
 ⟨some 31, .ld (.sc (.int .u8)) (.t 30), none⟩,
 ⟨some 32, .cnv .i64 (.t 31), none⟩,
 ⟨some 33, .bin .rem .i64 (.t 32) (.c (Go.Value.int Go.IntKind.i64 64)), none⟩,
 ⟨some 34, .bin .add .i64 (.t 33) (.c (Go.Value.int Go.IntKind.i64 1)), none⟩,
 ⟨some 7, .mov (.t 29), none⟩,
 ⟨some 8, .mov (.t 34), none⟩] [1, 5, 7, 8]) (.seq (.reg [⟨some 35, .mov (.t 7), none⟩,
 ⟨some 36, .mov (.t 8), none⟩,
 ⟨some 37, .call 12 [(.t 35), (.t 36)] (.one (.sc .slc)), none⟩,
 ⟨some 9, .mov (.t 37), none⟩] [1, 5, 7, 8, 9]) (.seq (.reg [⟨some 38, .mov (.t 7), none⟩,
 ⟨some 39, .mov (.t 8), none⟩,
 ⟨some 40, .bin .mul .i64 (.t 38) (.t 39), none⟩,
 ⟨some 41, .mks [.bool false] 1 (.t 40) (.t 40), none⟩,
 ⟨some 10, .mov (.t 41), none⟩] [1, 5, 7, 8, 9, 10]) (.seq (.seq (.reg [⟨some 11, .mov (.c (Go.Value.int Go.IntKind.i64 0)), none⟩] [1, 5, 7, 8, 9, 10, 11]) (.block 0 (.opq 0 [1, 5, 7, 8, 9, 10, 11] (.loop L_CblkOrders_i0)))) (.seq (.reg [⟨some 93, .mov (.t 1), none⟩,
 ⟨some 94, .cnv .i64 (.t 93), none⟩,
 ⟨some 95, .bin .rem .i64 (.t 94) (.c (Go.Value.int Go.IntKind.i64 178)), none⟩,
 ⟨some 96, .bin .add .i64 (.t 95) (.c (Go.Value.int Go.IntKind.i64 1)), none⟩,
 ⟨some 13, .mov (.t 96), none⟩] [5, 7, 8, 9, 13]) (.seq (.reg [⟨some 97, .mov (.t 13), none⟩,
 ⟨some 98, .ld (.agg [.bool, .bool, .bool, .bool, .bool]) (.t 5), none⟩,
 ⟨some 99, .call 20 [(.t 97), (.t 98)] (.one (.sc .slc)), none⟩,
 ⟨some 14, .mov (.t 99), none⟩] [5, 7, 8, 9, 13, 14]) (.seq (.reg [⟨some 15, .mov (.c (Go.Value.int Go.IntKind.i64 0)), none⟩] [5, 7, 8, 9, 13, 14, 15]) (.seq (.seq (.reg [⟨some 16, .mov (.c (Go.Value.int Go.IntKind.i64 0)), none⟩] [5, 7, 8, 9, 13, 14, 15, 16]) (.block 2 (.opq 2 [5, 7, 8, 9, 13, 14, 15, 16] (.loop L_CblkOrders_i2)))) (.seq (.opq 5 [5, 7, 8, 9, 13, 14, 15] L_CblkOrders_i5) (.seq (.reg [⟨some 156, .mov (.t 13), none⟩,
 ⟨some 157, .bin .add .i64 (.t 156) (.c (Go.Value.int Go.IntKind.i64 1)), none⟩,
 ⟨some 158, .mn (.t 157) (.c (Go.Value.int Go.IntKind.i64 178)), none⟩,
 ⟨some 159, .ld (.agg [.bool, .bool, .bool, .bool, .bool]) (.t 5), none⟩,
 ⟨some 160, .call 20 [(.t 158), (.t 159)] (.one (.sc .slc)), none⟩,
 ⟨some 18, .mov (.t 160), none⟩] [13, 14, 18]) (.seq (.seq (.reg [⟨some 19, .mov (.c (Go.Value.int Go.IntKind.i64 0)), none⟩] [13, 14, 18, 19]) (.block 6 (.opq 6 [13, 14, 18, 19] (.loop L_CblkOrders_i6)))) (.seq (.reg [⟨some 183, .mov (.t 13), none⟩,
 ⟨some 184, .bin .rem .i64 (.t 183) (.c (Go.Value.int Go.IntKind.i64 60)), none⟩,
 ⟨some 20, .mov (.t 184), none⟩] [20]) (.seq (.reg [⟨some 186, .mov (.t 20), none⟩,
 ⟨some 187, .bin .mul .i64 (.c (Go.Value.int Go.IntKind.i64 3)) (.t 186), none⟩,
 ⟨some 188, .call 15 [(.t 187)] (.tup [(.sc (.int .i64)), (.sc (.int .i64))]), none⟩,
 ⟨some 185, .mov (.t 188), none⟩,
 ⟨some 189, .ext 0 (.t 185), none⟩,
 ⟨some 190, .ext 1 (.t 185), none⟩,
 ⟨some 21, .mov (.t 189), none⟩,
 ⟨some 22, .mov (.t 190), none⟩] [20, 21, 22]) (.seq (.reg [⟨some 192, .mov (.t 20), none⟩,
 ⟨some 193, .bin .mul .i64 (.c (Go.Value.int Go.IntKind.i64 3)) (.t 192), none⟩,
 ⟨some 194, .bin .add .i64 (.t 193) (.c (Go.Value.int Go.IntKind.i64 1)), none⟩,
 ⟨some 195, .call 15 [(.t 194)] (.tup [(.sc (.int .i64)), (.sc (.int .i64))]), none⟩,
 ⟨some 191, .mov (.t 195), none⟩,
 ⟨some 196, .ext 0 (.t 191), none⟩,
 ⟨some 197, .ext 1 (.t 191), none⟩,
 ⟨some 23, .mov (.t 196), none⟩,
 ⟨some 24, .mov (.t 197), none⟩] [20, 21, 22, 23, 24]) (.seq (.reg [⟨some 198, .mov (.t 21), none⟩,
 ⟨some 199, .mov (.t 20), none⟩,
 ⟨some 200, .cmp .eql (.t 198) (.t 199), none⟩,
 ⟨some 201, .mov (.t 200), none⟩,
 ⟨some 202, .mov (.t 22), some (201, true)⟩,
 ⟨some 203, .cmp .eql (.t 202) (.c (Go.Value.int Go.IntKind.i64 2)), some (201, true)⟩,
 ⟨some 204, .pick (.t 201) (.t 203) (.c (Go.Value.bool false)), none⟩,
 ⟨some 205, .mov (.t 204), none⟩,
 ⟨some 206, .mov (.t 23), some (205, true)⟩,
 ⟨some 207, .mov (.t 20), some (205, true)⟩,
 ⟨some 208, .bin .add .i64 (.t 207) (.c (Go.Value.int Go.IntKind.i64 1)), some (205, true)⟩,
 ⟨some 209, .cmp .eql (.t 206) (.t 208), some (205, true)⟩,
 ⟨some 210, .pick (.t 205) (.t 209) (.c (Go.Value.bool false)), none⟩,
 ⟨some 211, .mov (.t 210), none⟩,
 ⟨some 212, .mov (.t 24), some (211, true)⟩,
 ⟨some 213, .cmp .eql (.t 212) (.c (Go.Value.int Go.IntKind.i64 0)), some (211, true)⟩,
 ⟨some 214, .pick (.t 211) (.t 213) (.c (Go.Value.bool false)), none⟩,
 ⟨some 215, .mov (.t 214), none⟩,
 ⟨some 216, .call 14 [] (.one (.sc .bool)), some (215, true)⟩,
 ⟨some 217, .pick (.t 215) (.t 216) (.c (Go.Value.bool false)), none⟩,
 ⟨some 6, .mov (.t 217), none⟩] [6]) .ret))))))))))))))))⟩
theorem L_CblkOrders_e7 {R : Type} (cblk_Scan : Int → Int → Heap → (Option Addr → Nat → Nat → Heap → Option R) → Option R) (cblk_Segments : Int → Bool → Bool → Bool → Bool → Bool → Heap → (Option Addr → Nat → Nat → Heap → Option R) → Option R) (cblk_Raw : Int → Bool → Bool → Bool → Bool → Bool → Heap → (Bool → Heap → Option R) → Option R) (cblk_Pass : Int → (Int → Int → Option R) → Option R) (L_exampleHoldsq : (Bool → Option R) → Option R) (L_CblkOrders_l0 : (Int → Option Addr → Int → Int → Option Addr → Nat → Nat → Heap → Option R) → (Bool → Heap → Option R) → Nat → Int → Option Addr → Int → Int → Option Addr → Nat → Nat → Option Addr → Nat → Nat → Int → Heap → Option R) (L_CblkOrders_p1 : Int → Option Addr → Int → Int → Option Addr → Nat → Nat → Option Addr → Nat → Nat → Int → Option Addr → Heap → (Int → Option Addr → Int → Int → Option Addr → Nat → Nat → Option Addr → Nat → Nat → Int → Option Addr → Option R) → (Bool → Option R) → Option R) (L_CblkOrders_l2 : (Option Addr → Int → Int → Option Addr → Nat → Nat → Int → Option Addr → Nat → Nat → Int → Heap → Option R) → (Bool → Heap → Option R) → Nat → Option Addr → Int → Int → Option Addr → Nat → Nat → Int → Option Addr → Nat → Nat → Int → Int → Heap → Option R) (L_CblkOrders_p3 : Option Addr → Int → Int → Option Addr → Nat → Nat → Int → Option Addr → Nat → Nat → Int → Int → Heap → (Option Addr → Int → Int → Option Addr → Nat → Nat → Int → Option Addr → Nat → Nat → Int → Int → Option R) → (Bool → Option R) → Option R) (L_CblkOrders_l4 : (Option Addr → Int → Int → Option Addr → Nat → Nat → Int → Option Addr → Nat → Nat → Int → Int → Heap → Option R) → (Bool → Heap → Option R) → Nat → Option Addr → Int → Int → Option Addr → Nat → Nat → Int → Option Addr → Nat → Nat → Int → Int → Int → Heap → Option R) (L_CblkOrders_p5 : Option Addr → Int → Int → Option Addr → Nat → Nat → Int → Option Addr → Nat → Nat → Int → (Option Addr → Int → Option Addr → Nat → Nat → Option R) → (Bool → Option R) → Option R) (L_CblkOrders_l6 : (Int → Option R) → (Bool → Option R) → Nat → Int → Option Addr → Nat → Nat → Option Addr → Nat → Nat → Int → Heap → Option R) (L_CblkOrders_p7 : Int → Option Addr → Nat → Nat → Option Addr → Nat → Nat → Int → Heap → (Int → Option Addr → Nat → Nat → Option Addr → Nat → Nat → Int → Option R) → (Bool → Option R) → Option R) (k : Nat) (n361 : Int) (q362 : Option Addr) (l363 : Nat) (c364 : Nat) (q365 : Option Addr) (l366 : Nat) (c367 : Nat) (n368 : Int) (H : Heap) (K : Xit → Env → Heap → Option R) : evJ (L_CblkOrders_Ct cblk_Scan cblk_Segments cblk_Raw cblk_Pass L_exampleHoldsq) (L_CblkOrders_Jt k L_CblkOrders_l0 L_CblkOrders_p1 L_CblkOrders_l2 L_CblkOrders_p3 L_CblkOrders_l4 L_CblkOrders_p5 L_CblkOrders_l6 L_CblkOrders_p7) L_CblkOrders_i7 (List.zip [13, 14, 18, 19] [.int .i64 n361, .slice q362 l363 c364, .slice q365 l366 c367, .int .i64 n368]) H (fun x e' H' => K x (clean e' ((⟨[13, 14, 18, 19], [], [6]⟩ : Out).of x)) H') = L_CblkOrders_p7_b k n361 q362 l363 c364 q365 l366 c367 n368 H (fun n1289 q1290 l1291 c1292 q1293 l1294 c1295 n1296 => K .normal [(13, .int .i64 n1289), (14, .slice q1290 l1291 c1292), (18, .slice q1293 l1294 c1295), (19, .int .i64 n1296)] H) (fun t1297 => K .ret [(6, .bool t1297)] H) := by kernel_rfl
theorem L_CblkOrders_j7 {R : Type} (k : Nat) : JS Try.prog 218 (L_CblkOrders_a7 R k k) [13, 14, 18, 19] ⟨[13, 14, 18, 19], [], [6]⟩ (sel [1, 1, 1, 1, 1, 1, 1, 1, 1, 1, 1, 0, 1, 0, 0, 1, 0] (Try.f5.body.getD .skip)) :=
  piece_ok (nt := 218) (c := (sel [1, 1, 1, 1, 1, 1, 1, 1, 1, 1, 1, 0, 1, 0, 0, 1, 0] (Try.f5.body.getD .skip))) (C := L_CblkOrders_C R k) (an := An) (t := (.node (.seq (.reg [13, 14, 18, 19, 182] [[], [], [1], [0, 1, 2], [0, 1, 2, 3], [0, 1, 2, 3, 4], [0, 1, 2, 3, 4], [0, 1, 2, 3, 4, 5, 6], [0, 1, 2, 3, 4, 5, 6, 7], [0, 1, 2, 3, 4], [0, 1, 2, 3, 4], [0, 1, 2, 3, 4, 9, 10], [0, 1, 2, 3, 4, 9, 10, 11], [0, 1, 2, 3, 4, 5, 6, 7, 8, 9, 10, 11, 12], [0, 1, 2, 3, 4, 5, 6, 7, 8, 9, 10, 11, 12, 13]]) (.cond (.seq (.reg [6] []) .leaf) .leaf)))) (ic := L_CblkOrders_i7) (L_CblkOrders_S R k) (L_CblkOrders_J R k) (by kernel_rfl) (And.intro True.intro (And.intro (And.intro True.intro True.intro) True.intro)) (L_CblkOrders_a7 R k k)
    (fun vals H K r h => by
      unfold L_CblkOrders_a7 L_CblkOrders_aa7 at h
      split at h <;> first | (cases h; done) | exact Eq.trans (L_CblkOrders_e7 (cblk_Scan k) (cblk_Segments k) (cblk_Raw k) cblk_Pass L_exampleHoldsq (L_CblkOrders_l0 k) (L_CblkOrders_p1 k) (L_CblkOrders_l2 k) (L_CblkOrders_p3 k) (L_CblkOrders_l4 k) (L_CblkOrders_p5 k) (L_CblkOrders_l6 k) (L_CblkOrders_p7 k) k _ _ _ _ _ _ _ _ H K) h)
theorem L_CblkOrders_e6 {R : Type} (cblk_Scan : Int → Int → Heap → (Option Addr → Nat → Nat → Heap → Option R) → Option R) (cblk_Segments : Int → Bool → Bool → Bool → Bool → Bool → Heap → (Option Addr → Nat → Nat → Heap → Option R) → Option R) (cblk_Raw : Int → Bool → Bool → Bool → Bool → Bool → Heap → (Bool → Heap → Option R) → Option R) (cblk_Pass : Int → (Int → Int → Option R) → Option R) (L_exampleHoldsq : (Bool → Option R) → Option R) (L_CblkOrders_l0 : (Int → Option Addr → Int → Int → Option Addr → Nat → Nat → Heap → Option R) → (Bool → Heap → Option R) → Nat → Int → Option Addr → Int → Int → Option Addr → Nat → Nat → Option Addr → Nat → Nat → Int → Heap → Option R) (L_CblkOrders_p1 : Int → Option Addr → Int → Int → Option Addr → Nat → Nat → Option Addr → Nat → Nat → Int → Option Addr → Heap → (Int → Option Addr → Int → Int → Option Addr → Nat → Nat → Option Addr → Nat → Nat → Int → Option Addr → Option R) → (Bool → Option R) → Option R) (L_CblkOrders_l2 : (Option Addr → Int → Int → Option Addr → Nat → Nat → Int → Option Addr → Nat → Nat → Int → Heap → Option R) → (Bool → Heap → Option R) → Nat → Option Addr → Int → Int → Option Addr → Nat → Nat → Int → Option Addr → Nat → Nat → Int → Int → Heap → Option R) (L_CblkOrders_p3 : Option Addr → Int → Int → Option Addr → Nat → Nat → Int → Option Addr → Nat → Nat → Int → Int → Heap → (Option Addr → Int → Int → Option Addr → Nat → Nat → Int → Option Addr → Nat → Nat → Int → Int → Option R) → (Bool → Option R) → Option R) (L_CblkOrders_l4 : (Option Addr → Int → Int → Option Addr → Nat → Nat → Int → Option Addr → Nat → Nat → Int → Int → Heap → Option R) → (Bool → Heap → Option R) → Nat → Option Addr → Int → Int → Option Addr → Nat → Nat → Int → Option Addr → Nat → Nat → Int → Int → Int → Heap → Option R) (L_CblkOrders_p5 : Option Addr → Int → Int → Option Addr → Nat → Nat → Int → Option Addr → Nat → Nat → Int → (Option Addr → Int → Option Addr → Nat → Nat → Option R) → (Bool → Option R) → Option R) (L_CblkOrders_l6 : (Int → Option R) → (Bool → Option R) → Nat → Int → Option Addr → Nat → Nat → Option Addr → Nat → Nat → Int → Heap → Option R) (L_CblkOrders_p7 : Int → Option Addr → Nat → Nat → Option Addr → Nat → Nat → Int → Heap → (Int → Option Addr → Nat → Nat → Option Addr → Nat → Nat → Int → Option R) → (Bool → Option R) → Option R) (k n : Nat) (n353 : Int) (q354 : Option Addr) (l355 : Nat) (c356 : Nat) (q357 : Option Addr) (l358 : Nat) (c359 : Nat) (n360 : Int) (H : Heap) (K : Xit → Env → Heap → Option R) : evJ (L_CblkOrders_Ct cblk_Scan cblk_Segments cblk_Raw cblk_Pass L_exampleHoldsq) (L_CblkOrders_Jt k L_CblkOrders_l0 L_CblkOrders_p1 L_CblkOrders_l2 L_CblkOrders_p3 L_CblkOrders_l4 L_CblkOrders_p5 L_CblkOrders_l6 L_CblkOrders_p7) L_CblkOrders_i6 (List.zip [13, 14, 18, 19] [.int .i64 n353, .slice q354 l355 c356, .slice q357 l358 c359, .int .i64 n360]) H (fun x e' H' => match x with | .normal => L_CblkOrders_aa6 L_CblkOrders_l6 n ((clean e' [13, 14, 18, 19]).map (·.2)) H' K | x => K x (clean e' ((⟨[], [(6, [13])], [6]⟩ : Out).of x)) H') = L_CblkOrders_l6_b L_CblkOrders_p7 (L_CblkOrders_l6 (fun n1287 => K (.exit 6) [(13, .int .i64 n1287)] H) (fun t1288 => K .ret [(6, .bool t1288)] H) n) (fun n1287 => K (.exit 6) [(13, .int .i64 n1287)] H) (fun t1288 => K .ret [(6, .bool t1288)] H) k n353 q354 l355 c356 q357 l358 c359 n360 H := by kernel_rfl
theorem L_CblkOrders_j6 {R : Type} (k : Nat) : JS Try.prog 218 (L_CblkOrders_a6 R k k) [13, 14, 18, 19] ⟨[], [(6, [13])], [6]⟩ (.loop (sel [1, 1, 1, 1, 1, 1, 1, 1, 1, 1, 1, 0, 1, 0, 0] (Try.f5.body.getD .skip))) :=
  loop_ok (nt := 218) (c := (sel [1, 1, 1, 1, 1, 1, 1, 1, 1, 1, 1, 0, 1, 0, 0] (Try.f5.body.getD .skip))) (C := L_CblkOrders_C R k) (an := An) (t := (.seq (.seq (.reg [13, 14, 18, 19, 165] []) (.cond .leaf .leaf)) (.seq (.opq 7 [13, 14, 18, 19] ⟨[13, 14, 18, 19], [], [6]⟩ (.node (.seq (.reg [13, 14, 18, 19, 182] [[], [], [1], [0, 1, 2], [0, 1, 2, 3], [0, 1, 2, 3, 4], [0, 1, 2, 3, 4], [0, 1, 2, 3, 4, 5, 6], [0, 1, 2, 3, 4, 5, 6, 7], [0, 1, 2, 3, 4], [0, 1, 2, 3, 4], [0, 1, 2, 3, 4, 9, 10], [0, 1, 2, 3, 4, 9, 10, 11], [0, 1, 2, 3, 4, 5, 6, 7, 8, 9, 10, 11, 12], [0, 1, 2, 3, 4, 5, 6, 7, 8, 9, 10, 11, 12, 13]]) (.cond (.seq (.reg [6] []) .leaf) .leaf)))) (.reg [13, 14, 18, 19] [])))) (ic := L_CblkOrders_i6) (L_CblkOrders_S R k) (L_CblkOrders_J R k) (by kernel_rfl) (And.intro (And.intro True.intro (And.intro True.intro True.intro)) (And.intro (L_CblkOrders_j7 k) True.intro)) (L_CblkOrders_a6 R k) (fun vals H K => by unfold L_CblkOrders_a6 L_CblkOrders_aa6; split <;> rfl)
    (fun n vals H K r h => by
      unfold L_CblkOrders_a6 L_CblkOrders_aa6 at h
      split at h <;> first | (cases h; done) | exact Eq.trans (L_CblkOrders_e6 (cblk_Scan k) (cblk_Segments k) (cblk_Raw k) cblk_Pass L_exampleHoldsq (L_CblkOrders_l0 k) (L_CblkOrders_p1 k) (L_CblkOrders_l2 k) (L_CblkOrders_p3 k) (L_CblkOrders_l4 k) (L_CblkOrders_p5 k) (L_CblkOrders_l6 k) (L_CblkOrders_p7 k) k n _ _ _ _ _ _ _ _ H K) h) k
theorem L_CblkOrders_e5 {R : Type} (cblk_Scan : Int → Int → Heap → (Option Addr → Nat → Nat → Heap → Option R) → Option R) (cblk_Segments : Int → Bool → Bool → Bool → Bool → Bool → Heap → (Option Addr → Nat → Nat → Heap → Option R) → Option R) (cblk_Raw : Int → Bool → Bool → Bool → Bool → Bool → Heap → (Bool → Heap → Option R) → Option R) (cblk_Pass : Int → (Int → Int → Option R) → Option R) (L_exampleHoldsq : (Bool → Option R) → Option R) (L_CblkOrders_l0 : (Int → Option Addr → Int → Int → Option Addr → Nat → Nat → Heap → Option R) → (Bool → Heap → Option R) → Nat → Int → Option Addr → Int → Int → Option Addr → Nat → Nat → Option Addr → Nat → Nat → Int → Heap → Option R) (L_CblkOrders_p1 : Int → Option Addr → Int → Int → Option Addr → Nat → Nat → Option Addr → Nat → Nat → Int → Option Addr → Heap → (Int → Option Addr → Int → Int → Option Addr → Nat → Nat → Option Addr → Nat → Nat → Int → Option Addr → Option R) → (Bool → Option R) → Option R) (L_CblkOrders_l2 : (Option Addr → Int → Int → Option Addr → Nat → Nat → Int → Option Addr → Nat → Nat → Int → Heap → Option R) → (Bool → Heap → Option R) → Nat → Option Addr → Int → Int → Option Addr → Nat → Nat → Int → Option Addr → Nat → Nat → Int → Int → Heap → Option R) (L_CblkOrders_p3 : Option Addr → Int → Int → Option Addr → Nat → Nat → Int → Option Addr → Nat → Nat → Int → Int → Heap → (Option Addr → Int → Int → Option Addr → Nat → Nat → Int → Option Addr → Nat → Nat → Int → Int → Option R) → (Bool → Option R) → Option R) (L_CblkOrders_l4 : (Option Addr → Int → Int → Option Addr → Nat → Nat → Int → Option Addr → Nat → Nat → Int → Int → Heap → Option R) → (Bool → Heap → Option R) → Nat → Option Addr → Int → Int → Option Addr → Nat → Nat → Int → Option Addr → Nat → Nat → Int → Int → Int → Heap → Option R) (L_CblkOrders_p5 : Option Addr → Int → Int → Option Addr → Nat → Nat → Int → Option Addr → Nat → Nat → Int → (Option Addr → Int → Option Addr → Nat → Nat → Option R) → (Bool → Option R) → Option R) (L_CblkOrders_l6 : (Int → Option R) → (Bool → Option R) → Nat → Int → Option Addr → Nat → Nat → Option Addr → Nat → Nat → Int → Heap → Option R) (L_CblkOrders_p7 : Int → Option Addr → Nat → Nat → Option Addr → Nat → Nat → Int → Heap → (Int → Option Addr → Nat → Nat → Option Addr → Nat → Nat → Int → Option R) → (Bool → Option R) → Option R) (k : Nat) (p322 : Option Addr) (n323 : Int) (n324 : Int) (q325 : Option Addr) (l326 : Nat) (c327 : Nat) (n328 : Int) (q329 : Option Addr) (l330 : Nat) (c331 : Nat) (n332 : Int) (H : Heap) (K : Xit → Env → Heap → Option R) : evJ (L_CblkOrders_Ct cblk_Scan cblk_Segments cblk_Raw cblk_Pass L_exampleHoldsq) (L_CblkOrders_Jt k L_CblkOrders_l0 L_CblkOrders_p1 L_CblkOrders_l2 L_CblkOrders_p3 L_CblkOrders_l4 L_CblkOrders_p5 L_CblkOrders_l6 L_CblkOrders_p7) L_CblkOrders_i5 (List.zip [5, 7, 8, 9, 13, 14, 15] [.pointer p322, .int .i64 n323, .int .i64 n324, .slice q325 l326 c327, .int .i64 n328, .slice q329 l330 c331, .int .i64 n332]) H (fun x e' H' => K x (clean e' ((⟨[5, 13, 14], [], [6]⟩ : Out).of x)) H') = L_CblkOrders_p5_b k p322 n323 n324 q325 l326 c327 n328 q329 l330 c331 n332 (fun p1281 n1282 q1283 l1284 c1285 => K .normal [(5, .pointer p1281), (13, .int .i64 n1282), (14, .slice q1283 l1284 c1285)] H) (fun t1286 => K .ret [(6, .bool t1286)] H) := by kernel_rfl
theorem L_CblkOrders_j5 {R : Type} (k : Nat) : JS Try.prog 218 (L_CblkOrders_a5 R k k) [5, 7, 8, 9, 13, 14, 15] ⟨[5, 13, 14], [], [6]⟩ (sel [1, 1, 1, 1, 1, 1, 1, 1, 1, 0] (Try.f5.body.getD .skip)) :=
  piece_ok (nt := 218) (c := (sel [1, 1, 1, 1, 1, 1, 1, 1, 1, 0] (Try.f5.body.getD .skip))) (C := L_CblkOrders_C R k) (an := An) (t := (.seq (.reg [5, 13, 14, 155] []) (.cond (.seq (.reg [6] []) .leaf) .leaf))) (ic := L_CblkOrders_i5) (L_CblkOrders_S R k) (L_CblkOrders_J R k) (by kernel_rfl) (And.intro True.intro (And.intro (And.intro True.intro True.intro) True.intro)) (L_CblkOrders_a5 R k k)
    (fun vals H K r h => by
      unfold L_CblkOrders_a5 L_CblkOrders_aa5 at h
      split at h <;> first | (cases h; done) | exact Eq.trans (L_CblkOrders_e5 (cblk_Scan k) (cblk_Segments k) (cblk_Raw k) cblk_Pass L_exampleHoldsq (L_CblkOrders_l0 k) (L_CblkOrders_p1 k) (L_CblkOrders_l2 k) (L_CblkOrders_p3 k) (L_CblkOrders_l4 k) (L_CblkOrders_p5 k) (L_CblkOrders_l6 k) (L_CblkOrders_p7 k) k _ _ _ _ _ _ _ _ _ _ _ H K) h)
theorem L_CblkOrders_e4 {R : Type} (cblk_Scan : Int → Int → Heap → (Option Addr → Nat → Nat → Heap → Option R) → Option R) (cblk_Segments : Int → Bool → Bool → Bool → Bool → Bool → Heap → (Option Addr → Nat → Nat → Heap → Option R) → Option R) (cblk_Raw : Int → Bool → Bool → Bool → Bool → Bool → Heap → (Bool → Heap → Option R) → Option R) (cblk_Pass : Int → (Int → Int → Option R) → Option R) (L_exampleHoldsq : (Bool → Option R) → Option R) (L_CblkOrders_l0 : (Int → Option Addr → Int → Int → Option Addr → Nat → Nat → Heap → Option R) → (Bool → Heap → Option R) → Nat → Int → Option Addr → Int → Int → Option Addr → Nat → Nat → Option Addr → Nat → Nat → Int → Heap → Option R) (L_CblkOrders_p1 : Int → Option Addr → Int → Int → Option Addr → Nat → Nat → Option Addr → Nat → Nat → Int → Option Addr → Heap → (Int → Option Addr → Int → Int → Option Addr → Nat → Nat → Option Addr → Nat → Nat → Int → Option Addr → Option R) → (Bool → Option R) → Option R) (L_CblkOrders_l2 : (Option Addr → Int → Int → Option Addr → Nat → Nat → Int → Option Addr → Nat → Nat → Int → Heap → Option R) → (Bool → Heap → Option R) → Nat → Option Addr → Int → Int → Option Addr → Nat → Nat → Int → Option Addr → Nat → Nat → Int → Int → Heap → Option R) (L_CblkOrders_p3 : Option Addr → Int → Int → Option Addr → Nat → Nat → Int → Option Addr → Nat → Nat → Int → Int → Heap → (Option Addr → Int → Int → Option Addr → Nat → Nat → Int → Option Addr → Nat → Nat → Int → Int → Option R) → (Bool → Option R) → Option R) (L_CblkOrders_l4 : (Option Addr → Int → Int → Option Addr → Nat → Nat → Int → Option Addr → Nat → Nat → Int → Int → Heap → Option R) → (Bool → Heap → Option R) → Nat → Option Addr → Int → Int → Option Addr → Nat → Nat → Int → Option Addr → Nat → Nat → Int → Int → Int → Heap → Option R) (L_CblkOrders_p5 : Option Addr → Int → Int → Option Addr → Nat → Nat → Int → Option Addr → Nat → Nat → Int → (Option Addr → Int → Option Addr → Nat → Nat → Option R) → (Bool → Option R) → Option R) (L_CblkOrders_l6 : (Int → Option R) → (Bool → Option R) → Nat → Int → Option Addr → Nat → Nat → Option Addr → Nat → Nat → Int → Heap → Option R) (L_CblkOrders_p7 : Int → Option Addr → Nat → Nat → Option Addr → Nat → Nat → Int → Heap → (Int → Option Addr → Nat → Nat → Option Addr → Nat → Nat → Int → Option R) → (Bool → Option R) → Option R) (k n : Nat) (p238 : Option Addr) (n239 : Int) (n240 : Int) (q241 : Option Addr) (l242 : Nat) (c243 : Nat) (n244 : Int) (q245 : Option Addr) (l246 : Nat) (c247 : Nat) (n248 : Int) (n249 : Int) (n250 : Int) (H : Heap) (K : Xit → Env → Heap → Option R) : evJ (L_CblkOrders_Ct cblk_Scan cblk_Segments cblk_Raw cblk_Pass L_exampleHoldsq) (L_CblkOrders_Jt k L_CblkOrders_l0 L_CblkOrders_p1 L_CblkOrders_l2 L_CblkOrders_p3 L_CblkOrders_l4 L_CblkOrders_p5 L_CblkOrders_l6 L_CblkOrders_p7) L_CblkOrders_i4 (List.zip [5, 7, 8, 9, 13, 14, 15, 16, 17] [.pointer p238, .int .i64 n239, .int .i64 n240, .slice q241 l242 c243, .int .i64 n244, .slice q245 l246 c247, .int .i64 n248, .int .i64 n249, .int .i64 n250]) H (fun x e' H' => match x with | .normal => L_CblkOrders_aa4 L_CblkOrders_l4 n ((clean e' [5, 7, 8, 9, 13, 14, 15, 16, 17]).map (·.2)) H' K | x => K x (clean e' ((⟨[], [(4, [5, 7, 8, 9, 13, 14, 15, 16])], [6]⟩ : Out).of x)) H') = L_CblkOrders_l4_b cblk_Raw (L_CblkOrders_l4 (fun p1268 n1269 n1270 q1271 l1272 c1273 n1274 q1275 l1276 c1277 n1278 n1279 H => K (.exit 4) [(5, .pointer p1268), (7, .int .i64 n1269), (8, .int .i64 n1270), (9, .slice q1271 l1272 c1273), (13, .int .i64 n1274), (14, .slice q1275 l1276 c1277), (15, .int .i64 n1278), (16, .int .i64 n1279)] H) (fun t1280 H => K .ret [(6, .bool t1280)] H) n) (fun p1268 n1269 n1270 q1271 l1272 c1273 n1274 q1275 l1276 c1277 n1278 n1279 H => K (.exit 4) [(5, .pointer p1268), (7, .int .i64 n1269), (8, .int .i64 n1270), (9, .slice q1271 l1272 c1273), (13, .int .i64 n1274), (14, .slice q1275 l1276 c1277), (15, .int .i64 n1278), (16, .int .i64 n1279)] H) (fun t1280 H => K .ret [(6, .bool t1280)] H) k p238 n239 n240 q241 l242 c243 n244 q245 l246 c247 n248 n249 n250 H := by kernel_rfl
theorem L_CblkOrders_j4 {R : Type} (k : Nat) : JS Try.prog 218 (L_CblkOrders_a4 R k k) [5, 7, 8, 9, 13, 14, 15, 16, 17] ⟨[], [(4, [5, 7, 8, 9, 13, 14, 15, 16])], [6]⟩ (.loop (sel [1, 1, 1, 1, 1, 1, 1, 1, 0, 1, 0, 0, 1, 0, 0, 1, 0, 1, 0, 0] (Try.f5.body.getD .skip))) :=
  loop_ok (nt := 218) (c := (sel [1, 1, 1, 1, 1, 1, 1, 1, 0, 1, 0, 0, 1, 0, 0, 1, 0, 1, 0, 0] (Try.f5.body.getD .skip))) (C := L_CblkOrders_C R k) (an := An) (t := (.seq (.seq (.reg [5, 7, 8, 9, 13, 14, 15, 16, 17, 129] []) (.cond .leaf .leaf)) (.seq (.node (.seq (.reg [5, 7, 8, 9, 13, 14, 15, 16, 17, 138] [[], [], [0, 1], [], [], [0, 1, 2, 3, 4], [0, 1, 2, 3, 4, 5]]) (.cond (.seq (.reg [6] []) .leaf) .leaf))) (.reg [5, 7, 8, 9, 13, 14, 15, 16, 17] [])))) (ic := L_CblkOrders_i4) (L_CblkOrders_S R k) (L_CblkOrders_J R k) (by kernel_rfl) (And.intro (And.intro True.intro (And.intro True.intro True.intro)) (And.intro (And.intro True.intro (And.intro (And.intro True.intro True.intro) True.intro)) True.intro)) (L_CblkOrders_a4 R k) (fun vals H K => by unfold L_CblkOrders_a4 L_CblkOrders_aa4; split <;> rfl)
    (fun n vals H K r h => by
      unfold L_CblkOrders_a4 L_CblkOrders_aa4 at h
      split at h <;> first | (cases h; done) | exact Eq.trans (L_CblkOrders_e4 (cblk_Scan k) (cblk_Segments k) (cblk_Raw k) cblk_Pass L_exampleHoldsq (L_CblkOrders_l0 k) (L_CblkOrders_p1 k) (L_CblkOrders_l2 k) (L_CblkOrders_p3 k) (L_CblkOrders_l4 k) (L_CblkOrders_p5 k) (L_CblkOrders_l6 k) (L_CblkOrders_p7 k) k n _ _ _ _ _ _ _ _ _ _ _ _ _ H K) h) k
theorem L_CblkOrders_e3 {R : Type} (cblk_Scan : Int → Int → Heap → (Option Addr → Nat → Nat → Heap → Option R) → Option R) (cblk_Segments : Int → Bool → Bool → Bool → Bool → Bool → Heap → (Option Addr → Nat → Nat → Heap → Option R) → Option R) (cblk_Raw : Int → Bool → Bool → Bool → Bool → Bool → Heap → (Bool → Heap → Option R) → Option R) (cblk_Pass : Int → (Int → Int → Option R) → Option R) (L_exampleHoldsq : (Bool → Option R) → Option R) (L_CblkOrders_l0 : (Int → Option Addr → Int → Int → Option Addr → Nat → Nat → Heap → Option R) → (Bool → Heap → Option R) → Nat → Int → Option Addr → Int → Int → Option Addr → Nat → Nat → Option Addr → Nat → Nat → Int → Heap → Option R) (L_CblkOrders_p1 : Int → Option Addr → Int → Int → Option Addr → Nat → Nat → Option Addr → Nat → Nat → Int → Option Addr → Heap → (Int → Option Addr → Int → Int → Option Addr → Nat → Nat → Option Addr → Nat → Nat → Int → Option Addr → Option R) → (Bool → Option R) → Option R) (L_CblkOrders_l2 : (Option Addr → Int → Int → Option Addr → Nat → Nat → Int → Option Addr → Nat → Nat → Int → Heap → Option R) → (Bool → Heap → Option R) → Nat → Option Addr → Int → Int → Option Addr → Nat → Nat → Int → Option Addr → Nat → Nat → Int → Int → Heap → Option R) (L_CblkOrders_p3 : Option Addr → Int → Int → Option Addr → Nat → Nat → Int → Option Addr → Nat → Nat → Int → Int → Heap → (Option Addr → Int → Int → Option Addr → Nat → Nat → Int → Option Addr → Nat → Nat → Int → Int → Option R) → (Bool → Option R) → Option R) (L_CblkOrders_l4 : (Option Addr → Int → Int → Option Addr → Nat → Nat → Int → Option Addr → Nat → Nat → Int → Int → Heap → Option R) → (Bool → Heap → Option R) → Nat → Option Addr → Int → Int → Option Addr → Nat → Nat → Int → Option Addr → Nat → Nat → Int → Int → Int → Heap → Option R) (L_CblkOrders_p5 : Option Addr → Int → Int → Option Addr → Nat → Nat → Int → Option Addr → Nat → Nat → Int → (Option Addr → Int → Option Addr → Nat → Nat → Option R) → (Bool → Option R) → Option R) (L_CblkOrders_l6 : (Int → Option R) → (Bool → Option R) → Nat → Int → Option Addr → Nat → Nat → Option Addr → Nat → Nat → Int → Heap → Option R) (L_CblkOrders_p7 : Int → Option Addr → Nat → Nat → Option Addr → Nat → Nat → Int → Heap → (Int → Option Addr → Nat → Nat → Option Addr → Nat → Nat → Int → Option R) → (Bool → Option R) → Option R) (k : Nat) (p197 : Option Addr) (n198 : Int) (n199 : Int) (q200 : Option Addr) (l201 : Nat) (c202 : Nat) (n203 : Int) (q204 : Option Addr) (l205 : Nat) (c206 : Nat) (n207 : Int) (n208 : Int) (H : Heap) (K : Xit → Env → Heap → Option R) : evJ (L_CblkOrders_Ct cblk_Scan cblk_Segments cblk_Raw cblk_Pass L_exampleHoldsq) (L_CblkOrders_Jt k L_CblkOrders_l0 L_CblkOrders_p1 L_CblkOrders_l2 L_CblkOrders_p3 L_CblkOrders_l4 L_CblkOrders_p5 L_CblkOrders_l6 L_CblkOrders_p7) L_CblkOrders_i3 (List.zip [5, 7, 8, 9, 13, 14, 15, 16] [.pointer p197, .int .i64 n198, .int .i64 n199, .slice q200 l201 c202, .int .i64 n203, .slice q204 l205 c206, .int .i64 n207, .int .i64 n208]) H (fun x e' H' => K x (clean e' ((⟨[5, 7, 8, 9, 13, 14, 15, 16], [], [6]⟩ : Out).of x)) H') = L_CblkOrders_p3_b k p197 n198 n199 q200 l201 c202 n203 q204 l205 c206 n207 n208 H (fun p1255 n1256 n1257 q1258 l1259 c1260 n1261 q1262 l1263 c1264 n1265 n1266 => K .normal [(5, .pointer p1255), (7, .int .i64 n1256), (8, .int .i64 n1257), (9, .slice q1258 l1259 c1260), (13, .int .i64 n1261), (14, .slice q1262 l1263 c1264), (15, .int .i64 n1265), (16, .int .i64 n1266)] H) (fun t1267 => K .ret [(6, .bool t1267)] H) := by kernel_rfl
theorem L_CblkOrders_j3 {R : Type} (k : Nat) : JS Try.prog 218 (L_CblkOrders_a3 R k k) [5, 7, 8, 9, 13, 14, 15, 16] ⟨[5, 7, 8, 9, 13, 14, 15, 16], [], [6]⟩ (sel [1, 1, 1, 1, 1, 1, 1, 1, 0, 1, 0, 0, 1, 0, 0, 0] (Try.f5.body.getD .skip)) :=
  piece_ok (nt := 218) (c := (sel [1, 1, 1, 1, 1, 1, 1, 1, 0, 1, 0, 0, 1, 0, 0, 0] (Try.f5.body.getD .skip))) (C := L_CblkOrders_C R k) (an := An) (t := (.seq (.reg [5, 7, 8, 9, 13, 14, 15, 16, 120] []) (.cond (.seq (.reg [6] []) .leaf) .leaf))) (ic := L_CblkOrders_i3) (L_CblkOrders_S R k) (L_CblkOrders_J R k) (by kernel_rfl) (And.intro True.intro (And.intro (And.intro True.intro True.intro) True.intro)) (L_CblkOrders_a3 R k k)
    (fun vals H K r h => by
      unfold L_CblkOrders_a3 L_CblkOrders_aa3 at h
      split at h <;> first | (cases h; done) | exact Eq.trans (L_CblkOrders_e3 (cblk_Scan k) (cblk_Segments k) (cblk_Raw k) cblk_Pass L_exampleHoldsq (L_CblkOrders_l0 k) (L_CblkOrders_p1 k) (L_CblkOrders_l2 k) (L_CblkOrders_p3 k) (L_CblkOrders_l4 k) (L_CblkOrders_p5 k) (L_CblkOrders_l6 k) (L_CblkOrders_p7 k) k _ _ _ _ _ _ _ _ _ _ _ _ H K) h)
theorem L_CblkOrders_e2 {R : Type} (cblk_Scan : Int → Int → Heap → (Option Addr → Nat → Nat → Heap → Option R) → Option R) (cblk_Segments : Int → Bool → Bool → Bool → Bool → Bool → Heap → (Option Addr → Nat → Nat → Heap → Option R) → Option R) (cblk_Raw : Int → Bool → Bool → Bool → Bool → Bool → Heap → (Bool → Heap → Option R) → Option R) (cblk_Pass : Int → (Int → Int → Option R) → Option R) (L_exampleHoldsq : (Bool → Option R) → Option R) (L_CblkOrders_l0 : (Int → Option Addr → Int → Int → Option Addr → Nat → Nat → Heap → Option R) → (Bool → Heap → Option R) → Nat → Int → Option Addr → Int → Int → Option Addr → Nat → Nat → Option Addr → Nat → Nat → Int → Heap → Option R) (L_CblkOrders_p1 : Int → Option Addr → Int → Int → Option Addr → Nat → Nat → Option Addr → Nat → Nat → Int → Option Addr → Heap → (Int → Option Addr → Int → Int → Option Addr → Nat → Nat → Option Addr → Nat → Nat → Int → Option Addr → Option R) → (Bool → Option R) → Option R) (L_CblkOrders_l2 : (Option Addr → Int → Int → Option Addr → Nat → Nat → Int → Option Addr → Nat → Nat → Int → Heap → Option R) → (Bool → Heap → Option R) → Nat → Option Addr → Int → Int → Option Addr → Nat → Nat → Int → Option Addr → Nat → Nat → Int → Int → Heap → Option R) (L_CblkOrders_p3 : Option Addr → Int → Int → Option Addr → Nat → Nat → Int → Option Addr → Nat → Nat → Int → Int → Heap → (Option Addr → Int → Int → Option Addr → Nat → Nat → Int → Option Addr → Nat → Nat → Int → Int → Option R) → (Bool → Option R) → Option R) (L_CblkOrders_l4 : (Option Addr → Int → Int → Option Addr → Nat → Nat → Int → Option Addr → Nat → Nat → Int → Int → Heap → Option R) → (Bool → Heap → Option R) → Nat → Option Addr → Int → Int → Option Addr → Nat → Nat → Int → Option Addr → Nat → Nat → Int → Int → Int → Heap → Option R) (L_CblkOrders_p5 : Option Addr → Int → Int → Option Addr → Nat → Nat → Int → Option Addr → Nat → Nat → Int → (Option Addr → Int → Option Addr → Nat → Nat → Option R) → (Bool → Option R) → Option R) (L_CblkOrders_l6 : (Int → Option R) → (Bool → Option R) → Nat → Int → Option Addr → Nat → Nat → Option Addr → Nat → Nat → Int → Heap → Option R) (L_CblkOrders_p7 : Int → Option Addr → Nat → Nat → Option Addr → Nat → Nat → Int → Heap → (Int → Option Addr → Nat → Nat → Option Addr → Nat → Nat → Int → Option R) → (Bool → Option R) → Option R) (k n : Nat) (p185 : Option Addr) (n186 : Int) (n187 : Int) (q188 : Option Addr) (l189 : Nat) (c190 : Nat) (n191 : Int) (q192 : Option Addr) (l193 : Nat) (c194 : Nat) (n195 : Int) (n196 : Int) (H : Heap) (K : Xit → Env → Heap → Option R) : evJ (L_CblkOrders_Ct cblk_Scan cblk_Segments cblk_Raw cblk_Pass L_exampleHoldsq) (L_CblkOrders_Jt k L_CblkOrders_l0 L_CblkOrders_p1 L_CblkOrders_l2 L_CblkOrders_p3 L_CblkOrders_l4 L_CblkOrders_p5 L_CblkOrders_l6 L_CblkOrders_p7) L_CblkOrders_i2 (List.zip [5, 7, 8, 9, 13, 14, 15, 16] [.pointer p185, .int .i64 n186, .int .i64 n187, .slice q188 l189 c190, .int .i64 n191, .slice q192 l193 c194, .int .i64 n195, .int .i64 n196]) H (fun x e' H' => match x with | .normal => L_CblkOrders_aa2 L_CblkOrders_l2 n ((clean e' [5, 7, 8, 9, 13, 14, 15, 16]).map (·.2)) H' K | x => K x (clean e' ((⟨[], [(2, [5, 7, 8, 9, 13, 14, 15])], [6]⟩ : Out).of x)) H') = L_CblkOrders_l2_b L_CblkOrders_p3 L_CblkOrders_l4 (L_CblkOrders_l2 (fun p1243 n1244 n1245 q1246 l1247 c1248 n1249 q1250 l1251 c1252 n1253 H => K (.exit 2) [(5, .pointer p1243), (7, .int .i64 n1244), (8, .int .i64 n1245), (9, .slice q1246 l1247 c1248), (13, .int .i64 n1249), (14, .slice q1250 l1251 c1252), (15, .int .i64 n1253)] H) (fun t1254 H => K .ret [(6, .bool t1254)] H) n) (fun p1243 n1244 n1245 q1246 l1247 c1248 n1249 q1250 l1251 c1252 n1253 H => K (.exit 2) [(5, .pointer p1243), (7, .int .i64 n1244), (8, .int .i64 n1245), (9, .slice q1246 l1247 c1248), (13, .int .i64 n1249), (14, .slice q1250 l1251 c1252), (15, .int .i64 n1253)] H) (fun t1254 H => K .ret [(6, .bool t1254)] H) k p185 n186 n187 q188 l189 c190 n191 q192 l193 c194 n195 n196 H := by kernel_rfl
theorem L_CblkOrders_j2 {R : Type} (k : Nat) : JS Try.prog 218 (L_CblkOrders_a2 R k k) [5, 7, 8, 9, 13, 14, 15, 16] ⟨[], [(2, [5, 7, 8, 9, 13, 14, 15])], [6]⟩ (.loop (sel [1, 1, 1, 1, 1, 1, 1, 1, 0, 1, 0, 0] (Try.f5.body.getD .skip))) :=
  loop_ok (nt := 218) (c := (sel [1, 1, 1, 1, 1, 1, 1, 1, 0, 1, 0, 0] (Try.f5.body.getD .skip))) (C := L_CblkOrders_C R k) (an := An) (t := (.seq (.seq (.reg [5, 7, 8, 9, 13, 14, 15, 16, 103] []) (.cond .leaf .leaf)) (.seq (.node (.seq (.opq 3 [5, 7, 8, 9, 13, 14, 15, 16] ⟨[5, 7, 8, 9, 13, 14, 15, 16], [], [6]⟩ (.seq (.reg [5, 7, 8, 9, 13, 14, 15, 16, 120] []) (.cond (.seq (.reg [6] []) .leaf) .leaf))) (.seq (.seq (.reg [5, 7, 8, 9, 13, 14, 15, 16, 17] []) (.node (.opq 4 [5, 7, 8, 9, 13, 14, 15, 16, 17] ⟨[], [(4, [5, 7, 8, 9, 13, 14, 15, 16])], [6]⟩ (.node (.seq (.seq (.reg [5, 7, 8, 9, 13, 14, 15, 16, 17, 129] []) (.cond .leaf .leaf)) (.seq (.node (.seq (.reg [5, 7, 8, 9, 13, 14, 15, 16, 17, 138] [[], [], [0, 1], [], [], [0, 1, 2, 3, 4], [0, 1, 2, 3, 4, 5]]) (.cond (.seq (.reg [6] []) .leaf) .leaf))) (.reg [5, 7, 8, 9, 13, 14, 15, 16, 17] []))))))) (.reg [5, 7, 8, 9, 13, 14, 15, 16] [])))) (.reg [5, 7, 8, 9, 13, 14, 15, 16] [])))) (ic := L_CblkOrders_i2) (L_CblkOrders_S R k) (L_CblkOrders_J R k) (by kernel_rfl) (And.intro (And.intro True.intro (And.intro True.intro True.intro)) (And.intro (And.intro (L_CblkOrders_j3 k) (And.intro (And.intro True.intro (L_CblkOrders_j4 k)) True.intro)) True.intro)) (L_CblkOrders_a2 R k) (fun vals H K => by unfold L_CblkOrders_a2 L_CblkOrders_aa2; split <;> rfl)
    (fun n vals H K r h => by
      unfold L_CblkOrders_a2 L_CblkOrders_aa2 at h
      split at h <;> first | (cases h; done) | exact Eq.trans (L_CblkOrders_e2 (cblk_Scan k) (cblk_Segments k) (cblk_Raw k) cblk_Pass L_exampleHoldsq (L_CblkOrders_l0 k) (L_CblkOrders_p1 k) (L_CblkOrders_l2 k) (L_CblkOrders_p3 k) (L_CblkOrders_l4 k) (L_CblkOrders_p5 k) (L_CblkOrders_l6 k) (L_CblkOrders_p7 k) k n _ _ _ _ _ _ _ _ _ _ _ _ H K) h) k
theorem L_CblkOrders_e1 {R : Type} (cblk_Scan : Int → Int → Heap → (Option Addr → Nat → Nat → Heap → Option R) → Option R) (cblk_Segments : Int → Bool → Bool → Bool → Bool → Bool → Heap → (Option Addr → Nat → Nat → Heap → Option R) → Option R) (cblk_Raw : Int → Bool → Bool → Bool → Bool → Bool → Heap → (Bool → Heap → Option R) → Option R) (cblk_Pass : Int → (Int → Int → Option R) → Option R) (L_exampleHoldsq : (Bool → Option R) → Option R) (L_CblkOrders_l0 : (Int → Option Addr → Int → Int → Option Addr → Nat → Nat → Heap → Option R) → (Bool → Heap → Option R) → Nat → Int → Option Addr → Int → Int → Option Addr → Nat → Nat → Option Addr → Nat → Nat → Int → Heap → Option R) (L_CblkOrders_p1 : Int → Option Addr → Int → Int → Option Addr → Nat → Nat → Option Addr → Nat → Nat → Int → Option Addr → Heap → (Int → Option Addr → Int → Int → Option Addr → Nat → Nat → Option Addr → Nat → Nat → Int → Option Addr → Option R) → (Bool → Option R) → Option R) (L_CblkOrders_l2 : (Option Addr → Int → Int → Option Addr → Nat → Nat → Int → Option Addr → Nat → Nat → Int → Heap → Option R) → (Bool → Heap → Option R) → Nat → Option Addr → Int → Int → Option Addr → Nat → Nat → Int → Option Addr → Nat → Nat → Int → Int → Heap → Option R) (L_CblkOrders_p3 : Option Addr → Int → Int → Option Addr → Nat → Nat → Int → Option Addr → Nat → Nat → Int → Int → Heap → (Option Addr → Int → Int → Option Addr → Nat → Nat → Int → Option Addr → Nat → Nat → Int → Int → Option R) → (Bool → Option R) → Option R) (L_CblkOrders_l4 : (Option Addr → Int → Int → Option Addr → Nat → Nat → Int → Option Addr → Nat → Nat → Int → Int → Heap → Option R) → (Bool → Heap → Option R) → Nat → Option Addr → Int → Int → Option Addr → Nat → Nat → Int → Option Addr → Nat → Nat → Int → Int → Int → Heap → Option R) (L_CblkOrders_p5 : Option Addr → Int → Int → Option Addr → Nat → Nat → Int → Option Addr → Nat → Nat → Int → (Option Addr → Int → Option Addr → Nat → Nat → Option R) → (Bool → Option R) → Option R) (L_CblkOrders_l6 : (Int → Option R) → (Bool → Option R) → Nat → Int → Option Addr → Nat → Nat → Option Addr → Nat → Nat → Int → Heap → Option R) (L_CblkOrders_p7 : Int → Option Addr → Nat → Nat → Option Addr → Nat → Nat → Int → Heap → (Int → Option Addr → Nat → Nat → Option Addr → Nat → Nat → Int → Option R) → (Bool → Option R) → Option R) (k : Nat) (n102 : Int) (p103 : Option Addr) (n104 : Int) (n105 : Int) (q106 : Option Addr) (l107 : Nat) (c108 : Nat) (q109 : Option Addr) (l110 : Nat) (c111 : Nat) (n112 : Int) (p113 : Option Addr) (H : Heap) (K : Xit → Env → Heap → Option R) : evJ (L_CblkOrders_Ct cblk_Scan cblk_Segments cblk_Raw cblk_Pass L_exampleHoldsq) (L_CblkOrders_Jt k L_CblkOrders_l0 L_CblkOrders_p1 L_CblkOrders_l2 L_CblkOrders_p3 L_CblkOrders_l4 L_CblkOrders_p5 L_CblkOrders_l6 L_CblkOrders_p7) L_CblkOrders_i1 (List.zip [1, 5, 7, 8, 9, 10, 11, 12] [.int .u8 n102, .pointer p103, .int .i64 n104, .int .i64 n105, .slice q106 l107 c108, .slice q109 l110 c111, .int .i64 n112, .pointer p113]) H (fun x e' H' => K x (clean e' ((⟨[1, 5, 7, 8, 9, 10, 11, 12], [], [6]⟩ : Out).of x)) H') = L_CblkOrders_p1_b k n102 p103 n104 n105 q106 l107 c108 q109 l110 c111 n112 p113 H (fun n1230 p1231 n1232 n1233 q1234 l1235 c1236 q1237 l1238 c1239 n1240 p1241 => K .normal [(1, .int .u8 n1230), (5, .pointer p1231), (7, .int .i64 n1232), (8, .int .i64 n1233), (9, .slice q1234 l1235 c1236), (10, .slice q1237 l1238 c1239), (11, .int .i64 n1240), (12, .pointer p1241)] H) (fun t1242 => K .ret [(6, .bool t1242)] H) := by kernel_rfl
theorem L_CblkOrders_j1 {R : Type} (k : Nat) : JS Try.prog 218 (L_CblkOrders_a1 R k k) [1, 5, 7, 8, 9, 10, 11, 12] ⟨[1, 5, 7, 8, 9, 10, 11, 12], [], [6]⟩ (sel [1, 1, 1, 1, 0, 1, 0, 0, 1, 0, 0, 1, 0] (Try.f5.body.getD .skip)) :=
  piece_ok (nt := 218) (c := (sel [1, 1, 1, 1, 0, 1, 0, 0, 1, 0, 0, 1, 0] (Try.f5.body.getD .skip))) (C := L_CblkOrders_C R k) (an := An) (t := (.seq (.reg [1, 5, 7, 8, 9, 10, 11, 12, 83] []) (.cond (.seq (.reg [6] []) .leaf) .leaf))) (ic := L_CblkOrders_i1) (L_CblkOrders_S R k) (L_CblkOrders_J R k) (by kernel_rfl) (And.intro True.intro (And.intro (And.intro True.intro True.intro) True.intro)) (L_CblkOrders_a1 R k k)
    (fun vals H K r h => by
      unfold L_CblkOrders_a1 L_CblkOrders_aa1 at h
      split at h <;> first | (cases h; done) | exact Eq.trans (L_CblkOrders_e1 (cblk_Scan k) (cblk_Segments k) (cblk_Raw k) cblk_Pass L_exampleHoldsq (L_CblkOrders_l0 k) (L_CblkOrders_p1 k) (L_CblkOrders_l2 k) (L_CblkOrders_p3 k) (L_CblkOrders_l4 k) (L_CblkOrders_p5 k) (L_CblkOrders_l6 k) (L_CblkOrders_p7 k) k _ _ _ _ _ _ _ _ _ _ _ _ H K) h)
theorem L_CblkOrders_e0 {R : Type} (cblk_Scan : Int → Int → Heap → (Option Addr → Nat → Nat → Heap → Option R) → Option R) (cblk_Segments : Int → Bool → Bool → Bool → Bool → Bool → Heap → (Option Addr → Nat → Nat → Heap → Option R) → Option R) (cblk_Raw : Int → Bool → Bool → Bool → Bool → Bool → Heap → (Bool → Heap → Option R) → Option R) (cblk_Pass : Int → (Int → Int → Option R) → Option R) (L_exampleHoldsq : (Bool → Option R) → Option R) (L_CblkOrders_l0 : (Int → Option Addr → Int → Int → Option Addr → Nat → Nat → Heap → Option R) → (Bool → Heap → Option R) → Nat → Int → Option Addr → Int → Int → Option Addr → Nat → Nat → Option Addr → Nat → Nat → Int → Heap → Option R) (L_CblkOrders_p1 : Int → Option Addr → Int → Int → Option Addr → Nat → Nat → Option Addr → Nat → Nat → Int → Option Addr → Heap → (Int → Option Addr → Int → Int → Option Addr → Nat → Nat → Option Addr → Nat → Nat → Int → Option Addr → Option R) → (Bool → Option R) → Option R) (L_CblkOrders_l2 : (Option Addr → Int → Int → Option Addr → Nat → Nat → Int → Option Addr → Nat → Nat → Int → Heap → Option R) → (Bool → Heap → Option R) → Nat → Option Addr → Int → Int → Option Addr → Nat → Nat → Int → Option Addr → Nat → Nat → Int → Int → Heap → Option R) (L_CblkOrders_p3 : Option Addr → Int → Int → Option Addr → Nat → Nat → Int → Option Addr → Nat → Nat → Int → Int → Heap → (Option Addr → Int → Int → Option Addr → Nat → Nat → Int → Option Addr → Nat → Nat → Int → Int → Option R) → (Bool → Option R) → Option R) (L_CblkOrders_l4 : (Option Addr → Int → Int → Option Addr → Nat → Nat → Int → Option Addr → Nat → Nat → Int → Int → Heap → Option R) → (Bool → Heap → Option R) → Nat → Option Addr → Int → Int → Option Addr → Nat → Nat → Int → Option Addr → Nat → Nat → Int → Int → Int → Heap → Option R) (L_CblkOrders_p5 : Option Addr → Int → Int → Option Addr → Nat → Nat → Int → Option Addr → Nat → Nat → Int → (Option Addr → Int → Option Addr → Nat → Nat → Option R) → (Bool → Option R) → Option R) (L_CblkOrders_l6 : (Int → Option R) → (Bool → Option R) → Nat → Int → Option Addr → Nat → Nat → Option Addr → Nat → Nat → Int → Heap → Option R) (L_CblkOrders_p7 : Int → Option Addr → Nat → Nat → Option Addr → Nat → Nat → Int → Heap → (Int → Option Addr → Nat → Nat → Option Addr → Nat → Nat → Int → Option R) → (Bool → Option R) → Option R) (k n : Nat) (n85 : Int) (p86 : Option Addr) (n87 : Int) (n88 : Int) (q89 : Option Addr) (l90 : Nat) (c91 : Nat) (q92 : Option Addr) (l93 : Nat) (c94 : Nat) (n95 : Int) (H : Heap) (K : Xit → Env → Heap → Option R) : evJ (L_CblkOrders_Ct cblk_Scan cblk_Segments cblk_Raw cblk_Pass L_exampleHoldsq) (L_CblkOrders_Jt k L_CblkOrders_l0 L_CblkOrders_p1 L_CblkOrders_l2 L_CblkOrders_p3 L_CblkOrders_l4 L_CblkOrders_p5 L_CblkOrders_l6 L_CblkOrders_p7) L_CblkOrders_i0 (List.zip [1, 5, 7, 8, 9, 10, 11] [.int .u8 n85, .pointer p86, .int .i64 n87, .int .i64 n88, .slice q89 l90 c91, .slice q92 l93 c94, .int .i64 n95]) H (fun x e' H' => match x with | .normal => L_CblkOrders_aa0 L_CblkOrders_l0 n ((clean e' [1, 5, 7, 8, 9, 10, 11]).map (·.2)) H' K | x => K x (clean e' ((⟨[], [(0, [1, 5, 7, 8, 9])], [6]⟩ : Out).of x)) H') = L_CblkOrders_l0_b L_CblkOrders_p1 (L_CblkOrders_l0 (fun n1222 p1223 n1224 n1225 q1226 l1227 c1228 H => K (.exit 0) [(1, .int .u8 n1222), (5, .pointer p1223), (7, .int .i64 n1224), (8, .int .i64 n1225), (9, .slice q1226 l1227 c1228)] H) (fun t1229 H => K .ret [(6, .bool t1229)] H) n) (fun n1222 p1223 n1224 n1225 q1226 l1227 c1228 H => K (.exit 0) [(1, .int .u8 n1222), (5, .pointer p1223), (7, .int .i64 n1224), (8, .int .i64 n1225), (9, .slice q1226 l1227 c1228)] H) (fun t1229 H => K .ret [(6, .bool t1229)] H) k n85 p86 n87 n88 q89 l90 c91 q92 l93 c94 n95 H := by kernel_rfl
theorem L_CblkOrders_j0 {R : Type} (k : Nat) : JS Try.prog 218 (L_CblkOrders_a0 R k k) [1, 5, 7, 8, 9, 10, 11] ⟨[], [(0, [1, 5, 7, 8, 9])], [6]⟩ (.loop (sel [1, 1, 1, 1, 0, 1, 0, 0] (Try.f5.body.getD .skip))) :=
  loop_ok (nt := 218) (c := (sel [1, 1, 1, 1, 0, 1, 0, 0] (Try.f5.body.getD .skip))) (C := L_CblkOrders_C R k) (an := An) (t := (.seq (.seq (.reg [1, 5, 7, 8, 9, 10, 11, 45] []) (.cond .leaf .leaf)) (.seq (.node (.seq (.reg [1, 5, 7, 8, 9, 10, 11, 12] []) (.seq (.opq 1 [1, 5, 7, 8, 9, 10, 11, 12] ⟨[1, 5, 7, 8, 9, 10, 11, 12], [], [6]⟩ (.seq (.reg [1, 5, 7, 8, 9, 10, 11, 12, 83] []) (.cond (.seq (.reg [6] []) .leaf) .leaf))) (.reg [1, 5, 7, 8, 9, 10, 11] [])))) (.reg [1, 5, 7, 8, 9, 10, 11] [])))) (ic := L_CblkOrders_i0) (L_CblkOrders_S R k) (L_CblkOrders_J R k) (by kernel_rfl) (And.intro (And.intro True.intro (And.intro True.intro True.intro)) (And.intro (And.intro True.intro (And.intro (L_CblkOrders_j1 k) True.intro)) True.intro)) (L_CblkOrders_a0 R k) (fun vals H K => by unfold L_CblkOrders_a0 L_CblkOrders_aa0; split <;> rfl)
    (fun n vals H K r h => by
      unfold L_CblkOrders_a0 L_CblkOrders_aa0 at h
      split at h <;> first | (cases h; done) | exact Eq.trans (L_CblkOrders_e0 (cblk_Scan k) (cblk_Segments k) (cblk_Raw k) cblk_Pass L_exampleHoldsq (L_CblkOrders_l0 k) (L_CblkOrders_p1 k) (L_CblkOrders_l2 k) (L_CblkOrders_p3 k) (L_CblkOrders_l4 k) (L_CblkOrders_p5 k) (L_CblkOrders_l6 k) (L_CblkOrders_p7 k) k n _ _ _ _ _ _ _ _ _ _ _ H K) h) k
def L_CblkOrders_ca {R : Type} (f : Int → Int → Int → Bool → Bool → Bool → Bool → Bool → Heap → (Bool → Heap → Option R) → Option R) (args : List Value) (H : Heap) (K : Value → Heap → Option R) : Option R :=
  match args with
  | [.agg ⟨[.int .u8 n61, .int .u8 n62]⟩, .int .u8 n63, .agg ⟨[.bool t64, .bool t65, .bool t66, .bool t67, .bool t68]⟩] => f n61 n62 n63 t64 t65 t66 t67 t68 H (fun t1298 H => K (.bool t1298) H)
  | _ => none
def L_CblkOrders_c (R : Type) (k : Nat) (args : List Value) (H : Heap) (K : Value → Heap → Option R) : Option R := L_CblkOrders_ca (L_CblkOrders k) args H K
theorem L_CblkOrders_e {R : Type} (cblk_Scan : Int → Int → Heap → (Option Addr → Nat → Nat → Heap → Option R) → Option R) (cblk_Segments : Int → Bool → Bool → Bool → Bool → Bool → Heap → (Option Addr → Nat → Nat → Heap → Option R) → Option R) (cblk_Raw : Int → Bool → Bool → Bool → Bool → Bool → Heap → (Bool → Heap → Option R) → Option R) (cblk_Pass : Int → (Int → Int → Option R) → Option R) (L_exampleHoldsq : (Bool → Option R) → Option R) (L_CblkOrders_l0 : (Int → Option Addr → Int → Int → Option Addr → Nat → Nat → Heap → Option R) → (Bool → Heap → Option R) → Nat → Int → Option Addr → Int → Int → Option Addr → Nat → Nat → Option Addr → Nat → Nat → Int → Heap → Option R) (L_CblkOrders_p1 : Int → Option Addr → Int → Int → Option Addr → Nat → Nat → Option Addr → Nat → Nat → Int → Option Addr → Heap → (Int → Option Addr → Int → Int → Option Addr → Nat → Nat → Option Addr → Nat → Nat → Int → Option Addr → Option R) → (Bool → Option R) → Option R) (L_CblkOrders_l2 : (Option Addr → Int → Int → Option Addr → Nat → Nat → Int → Option Addr → Nat → Nat → Int → Heap → Option R) → (Bool → Heap → Option R) → Nat → Option Addr → Int → Int → Option Addr → Nat → Nat → Int → Option Addr → Nat → Nat → Int → Int → Heap → Option R) (L_CblkOrders_p3 : Option Addr → Int → Int → Option Addr → Nat → Nat → Int → Option Addr → Nat → Nat → Int → Int → Heap → (Option Addr → Int → Int → Option Addr → Nat → Nat → Int → Option Addr → Nat → Nat → Int → Int → Option R) → (Bool → Option R) → Option R) (L_CblkOrders_l4 : (Option Addr → Int → Int → Option Addr → Nat → Nat → Int → Option Addr → Nat → Nat → Int → Int → Heap → Option R) → (Bool → Heap → Option R) → Nat → Option Addr → Int → Int → Option Addr → Nat → Nat → Int → Option Addr → Nat → Nat → Int → Int → Int → Heap → Option R) (L_CblkOrders_p5 : Option Addr → Int → Int → Option Addr → Nat → Nat → Int → Option Addr → Nat → Nat → Int → (Option Addr → Int → Option Addr → Nat → Nat → Option R) → (Bool → Option R) → Option R) (L_CblkOrders_l6 : (Int → Option R) → (Bool → Option R) → Nat → Int → Option Addr → Nat → Nat → Option Addr → Nat → Nat → Int → Heap → Option R) (L_CblkOrders_p7 : Int → Option Addr → Nat → Nat → Option Addr → Nat → Nat → Int → Heap → (Int → Option Addr → Nat → Nat → Option Addr → Nat → Nat → Int → Option R) → (Bool → Option R) → Option R) (k : Nat) (n61 : Int) (n62 : Int) (n63 : Int) (t64 : Bool) (t65 : Bool) (t66 : Bool) (t67 : Bool) (t68 : Bool) (H : Heap) (K : Value → Heap → Option R) : evF (L_CblkOrders_Ct cblk_Scan cblk_Segments cblk_Raw cblk_Pass L_exampleHoldsq) (L_CblkOrders_Jt k L_CblkOrders_l0 L_CblkOrders_p1 L_CblkOrders_l2 L_CblkOrders_p3 L_CblkOrders_l4 L_CblkOrders_p5 L_CblkOrders_l6 L_CblkOrders_p7) L_CblkOrders_f [.agg ⟨[.int .u8 n61, .int .u8 n62]⟩, .int .u8 n63, .agg ⟨[.bool t64, .bool t65, .bool t66, .bool t67, .bool t68]⟩] H K = L_CblkOrders_b cblk_Scan L_CblkOrders_l0 cblk_Segments L_CblkOrders_l2 L_CblkOrders_p5 L_CblkOrders_l6 cblk_Pass L_exampleHoldsq k n61 n62 n63 t64 t65 t66 t67 t68 H (fun t1298 H => K (.bool t1298) H) := by kernel_rfl
theorem L_CblkOrders_cs (R : Type) (k : Nat) : ∀ args H K r, L_CblkOrders_c R k args H K = some r → ∃ v H', Tri Try.prog 5 args H v H' ∧ K v H' = some r := by
  intro args H K r h
  unfold L_CblkOrders_c L_CblkOrders_ca at h
  split at h
  · exact evF_ok (C := L_CblkOrders_C R k) (an := An) (t := L_CblkOrders_at) (fn := Try.f5) (c := (Try.f5.body.getD .skip)) (ifn := L_CblkOrders_f) (L_CblkOrders_S R k) (L_CblkOrders_J R k) Try.func5 (by kernel_rfl) (by kernel_rfl) (And.intro True.intro (And.intro True.intro (And.intro True.intro (And.intro True.intro (And.intro (And.intro True.intro (L_CblkOrders_j0 k)) (And.intro True.intro (And.intro True.intro (And.intro True.intro (And.intro (And.intro True.intro (L_CblkOrders_j2 k)) (And.intro (L_CblkOrders_j5 k) (And.intro True.intro (And.intro (And.intro True.intro (L_CblkOrders_j6 k)) (And.intro True.intro (And.intro True.intro (And.intro True.intro (And.intro True.intro True.intro)))))))))))))))) rfl (Eq.trans (L_CblkOrders_e (cblk_Scan k) (cblk_Segments k) (cblk_Raw k) cblk_Pass L_exampleHoldsq (L_CblkOrders_l0 k) (L_CblkOrders_p1 k) (L_CblkOrders_l2 k) (L_CblkOrders_p3 k) (L_CblkOrders_l4 k) (L_CblkOrders_p5 k) (L_CblkOrders_l6 k) (L_CblkOrders_p7 k) k _ _ _ _ _ _ _ _ H K) h)
  · cases h
/-! ### L_small: function 22 -/
def L_small_b {R : Type} (k : Nat) (n411 : Int) (n412 : Int) (q413 : Option Addr) (l414 : Nat) (c415 : Nat) (K : Bool → Option R) : Option R :=
bif decide (1 ≤ n411) then (bif decide (n411 ≤ 12) then (bif decide (1 ≤ n412) then (bif decide (n412 ≤ 12) then (K (decide (((l414 : Nat) : Int) ≤ 100)))
 else (K false))
 else (K false))
 else (K false))
 else (K false)

def L_small {R : Type} (n411 : Int) (n412 : Int) (q413 : Option Addr) (l414 : Nat) (c415 : Nat) (K : Bool → Option R) : Option R := L_small_b 0 n411 n412 q413 l414 c415 K

def L_small_Ct {R : Type} : Tab R := fun _ _ _ _ => none
def L_small_C (R : Type) (k : Nat) : Tab R := L_small_Ct
theorem L_small_S (R : Type) (k : Nat) : CSound Try.prog (L_small_C R k) := csound_nil
def L_small_Jt {R : Type} (k : Nat) : JTab R := fun _ _ _ _ => none
def L_small_J (R : Type) (k : Nat) : JTab R := L_small_Jt k
def L_small_at : AT := (.seq (.reg [0, 1, 2] []) (.seq (.reg [6] []) .leaf))
def L_small_f : IFn := ⟨26, [.t 6], (.seq (.reg [⟨some 6, .mov (.c (Go.Value.bool false)), none⟩] [0, 1, 2]) (.seq (.reg [⟨some 7, .mov (.t 0), none⟩,
 ⟨some 8, .cmp .leq (.c (Go.Value.int Go.IntKind.i64 1)) (.t 7), none⟩,
 ⟨some 9, .mov (.t 8), none⟩,
 ⟨some 10, .mov (.t 0), some (9, true)⟩,
 ⟨some 11, .cmp .leq (.t 10) (.c (Go.Value.int Go.IntKind.i64 12)), some (9, true)⟩,
 ⟨some 12, .pick (.t 9) (.t 11) (.c (Go.Value.bool false)), none⟩,
 ⟨some 13, .mov (.t 12), none⟩,
 ⟨some 14, .mov (.t 1), some (13, true)⟩,
 ⟨some 15, .cmp .leq (.c (Go.Value.int Go.IntKind.i64 1)) (.t 14), some (13, true)⟩,
 ⟨some 16, .pick (.t 13) (.t 15) (.c (Go.Value.bool false)), none⟩,
 ⟨some 17, .mov (.t 16), none⟩,
 ⟨some 18, .mov (.t 1), some (17, true)⟩,
 ⟨some 19, .cmp .leq (.t 18) (.c (Go.Value.int Go.IntKind.i64 12)), some (17, true)⟩,
 ⟨some 20, .pick (.t 17) (.t 19) (.c (Go.Value.bool false)), none⟩,
 ⟨some 21, .mov (.t 20), none⟩,
 ⟨some 22, .mov (.t 2), some (21, true)⟩,
 ⟨some 23, .len false (.t 22), some (21, true)⟩,
 ⟨some 24, .cmp .leq (.t 23) (.c (Go.Value.int Go.IntKind.i64 100)), some (21, true)⟩,
 ⟨some 25, .pick (.t 21) (.t 24) (.c (Go.Value.bool false)), none⟩,
 ⟨some 6, .mov (.t 25), none⟩] [6]) .ret))⟩
def L_small_ca {R : Type} (f : Int → Int → Option Addr → Nat → Nat → (Bool → Option R) → Option R) (args : List Value) (H : Heap) (K : Value → Heap → Option R) : Option R :=
  match args with
  | [.int .i64 n411, .int .i64 n412, .slice q413 l414 c415] => f n411 n412 q413 l414 c415 (fun t1299 => K (.bool t1299) H)
  | _ => none
def L_small_c (R : Type) (k : Nat) (args : List Value) (H : Heap) (K : Value → Heap → Option R) : Option R := L_small_ca L_small args H K
theorem L_small_e {R : Type} (k : Nat) (n411 : Int) (n412 : Int) (q413 : Option Addr) (l414 : Nat) (c415 : Nat) (H : Heap) (K : Value → Heap → Option R) : evF (L_small_Ct) (L_small_Jt k) L_small_f [.int .i64 n411, .int .i64 n412, .slice q413 l414 c415] H K = L_small_b k n411 n412 q413 l414 c415 (fun t1299 => K (.bool t1299) H) := by kernel_rfl
theorem L_small_cs (R : Type) (k : Nat) : ∀ args H K r, L_small_c R k args H K = some r → ∃ v H', Tri Try.prog 22 args H v H' ∧ K v H' = some r := by
  intro args H K r h
  unfold L_small_c L_small_ca at h
  split at h
  · exact evF_ok (C := L_small_C R 0) (an := An) (t := L_small_at) (fn := Try.f22) (c := (Try.f22.body.getD .skip)) (ifn := L_small_f) (L_small_S R 0) (L_small_J R 0) Try.func22 (by kernel_rfl) (by kernel_rfl) (And.intro True.intro (And.intro True.intro True.intro)) rfl (Eq.trans (L_small_e 0 _ _ _ _ _ H K) h)
  · cases h
/-! ### R14_New: function 36 -/
def R14_New_b {R : Type} (R14_ValidSize : Int → Int → (Bool → Option R) → Option R) (k : Nat) (n427 : Int) (n428 : Int) (H : Heap) (K : Option Addr → Int → Heap → Option R) : Option R :=
R14_ValidSize n427 n428 fun t429 =>
bif (!t429) then (K none 2 H)
 else (hmk [.int .i64 0, .bool false, .bool false, .bool false] 16 H (IntKind.wrap .i64 (n427 * n428)) (IntKind.wrap .i64 (n427 * n428)) fun q430 l431 c432 H433 =>
hal H433 [.int .i64 n427, .int .i64 n428, .slice q430 l431 c432] fun p434 H435 =>
K p434 0 H435)

def R14_New {R : Type} (n427 : Int) (n428 : Int) (H : Heap) (K : Option Addr → Int → Heap → Option R) : Option R := R14_New_b R14_ValidSize 0 n427 n428 H K

def R14_New_Ct {R : Type} (R14_ValidSize : Int → Int → (Bool → Option R) → Option R) : Tab R := tcons 41 (R14_ValidSize_ca R14_ValidSize) <| fun _ _ _ _ => none
def R14_New_C (R : Type) (k : Nat) : Tab R := R14_New_Ct R14_ValidSize
theorem R14_New_S (R : Type) (k : Nat) : CSound Try.prog (R14_New_C R k) := csound_cons (R14_ValidSize_cs R k) <| csound_nil
def R14_New_Jt {R : Type} (k : Nat) : JTab R := fun _ _ _ _ => none
def R14_New_J (R : Type) (k : Nat) : JTab R := R14_New_Jt k
def R14_New_at : AT := (.seq (.reg [0, 1] []) (.seq (.seq (.reg [0, 1, 9] []) (.cond (.seq (.reg [4, 5] []) .leaf) .leaf)) (.seq (.reg [4, 5] []) .leaf)))
def R14_New_f : IFn := ⟨18, [.t 4, .t 5], (.seq (.reg [⟨some 4, .mov (.c (Go.Value.pointer none)), none⟩,
 ⟨some 5, .mov (.c (Go.Value.int Go.IntKind.i64 0)), none⟩] [0, 1]) (.seq (.seq (.reg [⟨some 6, .mov (.t 0), none⟩,
 ⟨some 7, .mov (.t 1), none⟩,
 ⟨some 8, .call 41 [(.t 6), (.t 7)] (.one (.sc .bool)), none⟩,
 ⟨some 9, .lnot (.t 8), none⟩] [0, 1, 9]) (.cond (.t 9) (.seq (.reg [⟨some 4, .mov (.c (Go.Value.pointer none)), none⟩,
 ⟨some 5, .mov (.c (Go.Value.int Go.IntKind.i64 2)), none⟩] [4, 5]) .ret) .skip)) (.seq (.reg [⟨some 10, .mov (.t 0), none⟩,
 ⟨some 11, .mov (.t 1), none⟩,
 ⟨some 12, .mov (.t 0), none⟩,
 ⟨some 13, .mov (.t 1), none⟩,
 ⟨some 14, .bin .mul .i64 (.t 12) (.t 13), none⟩,
 ⟨some 15, .mks [.int .i64 0, .bool false, .bool false, .bool false] 16 (.t 14) (.t 14), none⟩,
 ⟨some 16, .bld [.int .i64 0, .int .i64 0, .slice none 0 0] [(0, 1, (.t 10)), (1, 1, (.t 11)), (2, 1, (.t 15))], none⟩,
 ⟨some 17, .box (.t 16), none⟩,
 ⟨some 4, .mov (.t 17), none⟩,
 ⟨some 5, .mov (.c (Go.Value.int Go.IntKind.i64 0)), none⟩] [4, 5]) .ret)))⟩
def R14_New_ca {R : Type} (f : Int → Int → Heap → (Option Addr → Int → Heap → Option R) → Option R) (args : List Value) (H : Heap) (K : Value → Heap → Option R) : Option R :=
  match args with
  | [.int .i64 n427, .int .i64 n428] => f n427 n428 H (fun p1300 n1301 H => K (.tuple ⟨[.pointer p1300, .int .i64 n1301]⟩) H)
  | _ => none
def R14_New_c (R : Type) (k : Nat) (args : List Value) (H : Heap) (K : Value → Heap → Option R) : Option R := R14_New_ca R14_New args H K
theorem R14_New_e {R : Type} (R14_ValidSize : Int → Int → (Bool → Option R) → Option R) (k : Nat) (n427 : Int) (n428 : Int) (H : Heap) (K : Value → Heap → Option R) : evF (R14_New_Ct R14_ValidSize) (R14_New_Jt k) R14_New_f [.int .i64 n427, .int .i64 n428] H K = R14_New_b R14_ValidSize k n427 n428 H (fun p1300 n1301 H => K (.tuple ⟨[.pointer p1300, .int .i64 n1301]⟩) H) := by kernel_rfl
theorem R14_New_cs (R : Type) (k : Nat) : ∀ args H K r, R14_New_c R k args H K = some r → ∃ v H', Tri Try.prog 36 args H v H' ∧ K v H' = some r := by
  intro args H K r h
  unfold R14_New_c R14_New_ca at h
  split at h
  · exact evF_ok (C := R14_New_C R 0) (an := An) (t := R14_New_at) (fn := Try.f36) (c := (Try.f36.body.getD .skip)) (ifn := R14_New_f) (R14_New_S R 0) (R14_New_J R 0) Try.func36 (by kernel_rfl) (by kernel_rfl) (And.intro True.intro (And.intro (And.intro True.intro (And.intro (And.intro True.intro True.intro) True.intro)) (And.intro True.intro True.intro))) rfl (Eq.trans (R14_New_e R14_ValidSize 0 _ _ H K) h)
  · cases h
/-! ### cblk_Block_Touch: function 51 -/
def cblk_Block_Touch_b {R : Type} (cblk_Block_at : Option Addr → Int → Int → Heap → (Option Addr → Option R) → Option R) (cblk_Block_missing : Option Addr → Heap → (Int → Option R) → Option R) (k : Nat) (p479 : Option Addr) (n480 : Int) (n481 : Int) (t482 : Bool) (H : Heap) (K : Int → Heap → Option R) : Option R :=
cblk_Block_at p479 n480 n481 H fun p483 =>
bif p483.isNone then (cblk_Block_missing p479 H fun n484 =>
K n484 H)
 else (hnil p483 fun p485 =>
hfad 2 p485 fun p486 =>
hst1 H p486 (.bool t482) fun H487 =>
K 0 H487)

def cblk_Block_Touch {R : Type} (k : Nat) (p479 : Option Addr) (n480 : Int) (n481 : Int) (t482 : Bool) (H : Heap) (K : Int → Heap → Option R) : Option R := cblk_Block_Touch_b (cblk_Block_at k) cblk_Block_missing k p479 n480 n481 t482 H K

def cblk_Block_Touch_Ct {R : Type} (cblk_Block_at : Option Addr → Int → Int → Heap → (Option Addr → Option R) → Option R) (cblk_Block_missing : Option Addr → Heap → (Int → Option R) → Option R) : Tab R := tcons 46 (cblk_Block_at_ca cblk_Block_at) <| tcons 47 (cblk_Block_missing_ca cblk_Block_missing) <| fun _ _ _ _ => none
def cblk_Block_Touch_C (R : Type) (k : Nat) : Tab R := cblk_Block_Touch_Ct (cblk_Block_at k) cblk_Block_missing
theorem cblk_Block_Touch_S (R : Type) (k : Nat) : CSound Try.prog (cblk_Block_Touch_C R k) := csound_cons (cblk_Block_at_cs R k) <| csound_cons (cblk_Block_missing_cs R k) <| csound_nil
def cblk_Block_Touch_Jt {R : Type} (k : Nat) : JTab R := fun _ _ _ _ => none
def cblk_Block_Touch_J (R : Type) (k : Nat) : JTab R := cblk_Block_Touch_Jt k
def cblk_Block_Touch_at : AT := (.seq (.reg [0, 1, 2, 3] []) (.seq (.reg [0, 3, 9] []) (.seq (.seq (.reg [0, 3, 9, 15] []) (.cond (.seq (.reg [8] []) .leaf) .leaf)) (.seq (.reg [] []) (.seq (.reg [8] []) .leaf)))))
def cblk_Block_Touch_f : IFn := ⟨22, [.t 8], (.seq (.reg [⟨some 8, .mov (.c (Go.Value.int Go.IntKind.i64 0)), none⟩] [0, 1, 2, 3]) (.seq (.reg [⟨some 10, .mov (.t 0), none⟩,
 ⟨some 11, .mov (.t 1), none⟩,
 ⟨some 12, .mov (.t 2), none⟩,
 ⟨some 13, .call 46 [(.t 10), (.t 11), (.t 12)] (.one (.sc .ptr)), none⟩,
 ⟨some 9, .mov (.t 13), none⟩] [0, 3, 9]) (.seq (.seq (.reg [⟨some 14, .mov (.t 9), none⟩,
 ⟨some 15, .eqnil (.t 14) false 0, none⟩] [0, 3, 9, 15]) (.cond (.t 15) (.seq (.reg [⟨some 16, .mov (.t 0), none⟩,
 ⟨some 17, .call 47 [(.t 16)] (.one (.sc (.int .i64))), none⟩,
 ⟨some 8, .mov (.t 17), none⟩] [8]) .ret) .skip)) (.seq (.reg [⟨some 18, .mov (.t 9), none⟩,
 ⟨some 19, .mov (.t 3), none⟩,
 ⟨some 20, .nilc (.t 18), none⟩,
 ⟨some 21, .fad 2 (.t 20), none⟩,
 ⟨none, .st 1 (.t 21) (.t 19), none⟩] []) (.seq (.reg [⟨some 8, .mov (.c (Go.Value.int Go.IntKind.i64 0)), none⟩] [8]) .ret)))))⟩
def cblk_Block_Touch_ca {R : Type} (f : Option Addr → Int → Int → Bool → Heap → (Int → Heap → Option R) → Option R) (args : List Value) (H : Heap) (K : Value → Heap → Option R) : Option R :=
  match args with
  | [.pointer p479, .int .i64 n480, .int .i64 n481, .bool t482] => f p479 n480 n481 t482 H (fun n1302 H => K (.int .i64 n1302) H)
  | _ => none
def cblk_Block_Touch_c (R : Type) (k : Nat) (args : List Value) (H : Heap) (K : Value → Heap → Option R) : Option R := cblk_Block_Touch_ca (cblk_Block_Touch k) args H K
theorem cblk_Block_Touch_e {R : Type} (cblk_Block_at : Option Addr → Int → Int → Heap → (Option Addr → Option R) → Option R) (cblk_Block_missing : Option Addr → Heap → (Int → Option R) → Option R) (k : Nat) (p479 : Option Addr) (n480 : Int) (n481 : Int) (t482 : Bool) (H : Heap) (K : Value → Heap → Option R) : evF (cblk_Block_Touch_Ct cblk_Block_at cblk_Block_missing) (cblk_Block_Touch_Jt k) cblk_Block_Touch_f [.pointer p479, .int .i64 n480, .int .i64 n481, .bool t482] H K = cblk_Block_Touch_b cblk_Block_at cblk_Block_missing k p479 n480 n481 t482 H (fun n1302 H => K (.int .i64 n1302) H) := by kernel_rfl
theorem cblk_Block_Touch_cs (R : Type) (k : Nat) : ∀ args H K r, cblk_Block_Touch_c R k args H K = some r → ∃ v H', Tri Try.prog 51 args H v H' ∧ K v H' = some r := by
  intro args H K r h
  unfold cblk_Block_Touch_c cblk_Block_Touch_ca at h
  split at h
  · exact evF_ok (C := cblk_Block_Touch_C R k) (an := An) (t := cblk_Block_Touch_at) (fn := Try.f51) (c := (Try.f51.body.getD .skip)) (ifn := cblk_Block_Touch_f) (cblk_Block_Touch_S R k) (cblk_Block_Touch_J R k) Try.func51 (by kernel_rfl) (by kernel_rfl) (And.intro True.intro (And.intro True.intro (And.intro (And.intro True.intro (And.intro (And.intro True.intro True.intro) True.intro)) (And.intro True.intro (And.intro True.intro True.intro))))) rfl (Eq.trans (cblk_Block_Touch_e (cblk_Block_at k) cblk_Block_missing k _ _ _ _ H K) h)
  · cases h
end Go.Proofs.Ytblpaolcgkjcgaa.Sh
