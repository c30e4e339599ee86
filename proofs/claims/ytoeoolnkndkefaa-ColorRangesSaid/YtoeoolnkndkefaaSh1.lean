/- Lean functions that stand for Go's, over an explicit heap, and the proofs that they do (written by this claim's program shallow.py). -/
import Derived.Test.YtoeoolnkndkefaaSh0
set_option maxRecDepth 100000
set_option linter.unusedVariables false
set_option linter.unusedSimpArgs false
namespace Go.Proofs.Ytoeoolnkndkefaa.Sh
open Go.Proofs.Ytoeoolnkndkefaa.FW
/-! ### plane_Valid: function 44 -/
def plane_Valid_b {R : Type} (rect_Valid : Int → Int → Int → Int → Heap → (Bool → Heap → Option R) → Option R) (rect_Area : Int → Int → Int → Int → Heap → (Int → Heap → Option R) → Option R) (k : Nat) (n132 : Int) (n133 : Int) (n134 : Int) (n135 : Int) (q136 : Option Addr) (l137 : Nat) (c138 : Nat) (H : Heap) (K : Bool → Heap → Option R) : Option R :=
hal H [.int .i64 n132, .int .i64 n133, .int .i64 n134, .int .i64 n135, .slice q136 l137 c138] fun p139 H140 =>
hfad 0 p139 fun p141 =>
ldI .i64 H140 (pad p141 0) fun n142 =>
ldI .i64 H140 (pad p141 1) fun n143 =>
ldI .i64 H140 (pad p141 2) fun n144 =>
ldI .i64 H140 (pad p141 3) fun n145 =>
rect_Valid n142 n143 n144 n145 H140 fun t146 H147 =>
bif t146 then (hfad 0 p139 fun p148 =>
ldI .i64 H147 (pad p148 0) fun n149 =>
ldI .i64 H147 (pad p148 1) fun n150 =>
ldI .i64 H147 (pad p148 2) fun n151 =>
ldI .i64 H147 (pad p148 3) fun n152 =>
rect_Area n149 n150 n151 n152 H147 fun n153 H154 =>
bif decide (n153 ≤ 1048576) then (hfad 4 p139 fun p155 =>
ldL H154 p155 fun q156 l157 c158 =>
hfad 0 p139 fun p159 =>
ldI .i64 H154 (pad p159 0) fun n160 =>
ldI .i64 H154 (pad p159 1) fun n161 =>
ldI .i64 H154 (pad p159 2) fun n162 =>
ldI .i64 H154 (pad p159 3) fun n163 =>
rect_Area n160 n161 n162 n163 (roH H154) fun n164 H165 =>
K (((l157 : Nat) : Int) == n164) H154)
 else (K false H154))
 else (K false H147)

def plane_Valid {R : Type} (n132 : Int) (n133 : Int) (n134 : Int) (n135 : Int) (q136 : Option Addr) (l137 : Nat) (c138 : Nat) (H : Heap) (K : Bool → Heap → Option R) : Option R := plane_Valid_b rect_Valid rect_Area 0 n132 n133 n134 n135 q136 l137 c138 H K

def plane_Valid_Ct {R : Type} (rect_Valid : Int → Int → Int → Int → Heap → (Bool → Heap → Option R) → Option R) (rect_Area : Int → Int → Int → Int → Heap → (Int → Heap → Option R) → Option R) : Tab R := tcons 52 (rect_Valid_ca rect_Valid) <| tcons 53 (rect_Area_ca rect_Area) <| fun _ _ _ _ => none
def plane_Valid_C (R : Type) (k : Nat) : Tab R := plane_Valid_Ct rect_Valid rect_Area
theorem plane_Valid_S (R : Type) (k : Nat) : CSound Try.prog (plane_Valid_C R k) := csound_cons (rect_Valid_cs R k) <| csound_cons (rect_Area_cs R k) <| csound_nil
def plane_Valid_Jt {R : Type} (k : Nat) : JTab R := fun _ _ _ _ => none
def plane_Valid_J (R : Type) (k : Nat) : JTab R := plane_Valid_Jt k
def plane_Valid_at : AT := (.seq (.reg [1] []) (.seq (.reg [2] [[], [0], [0, 1], [0, 1, 2], [0, 1, 2, 3], [0, 1, 2, 3, 4], [0, 1, 2, 3, 4, 5], [0, 1, 2, 3, 4, 5, 6], [0, 1, 2, 3, 4, 5, 6, 7], [0, 1, 2, 3, 4, 5, 6, 7, 8], [0, 1, 2, 3, 4, 5, 6, 7, 8, 9], [0, 1, 2, 3, 4, 5, 6, 7, 8, 9, 10], [0, 1, 2, 3, 4, 5, 6, 7, 8, 9, 10, 11], [0, 1, 2, 3, 4, 5, 6, 7, 8, 9], [0, 1, 2, 3, 4, 5, 6, 7, 8, 9, 13], [0, 1, 2, 3, 4, 5, 6, 7, 8, 9, 13, 14], [0, 1, 2, 3, 4, 5, 6, 7, 8, 9, 10, 11, 12, 13, 14, 15], [0, 1, 2, 3, 4, 5, 6, 7, 8, 9, 10, 11, 12, 13, 14, 15, 16], [0, 1, 2, 3, 4, 5, 6, 7, 8, 9, 10, 11, 12, 13, 14, 15, 16, 17]]) .leaf))
def plane_Valid_f : IFn := ⟨21, [.t 2], (.seq (.reg [⟨some 1, .box (.t 0), none⟩,
 ⟨some 2, .mov (.c (Go.Value.bool false)), none⟩] [1]) (.seq (.reg [⟨some 3, .fad 0 (.t 1), none⟩,
 ⟨some 4, .ld (.agg [(.int .i64), (.int .i64), (.int .i64), (.int .i64)]) (.t 3), none⟩,
 ⟨some 5, .call 52 [(.t 4)] (.one (.sc .bool)), none⟩,
 ⟨some 6, .mov (.t 5), none⟩,
 ⟨some 7, .fad 0 (.t 1), some (6, true)⟩,
 ⟨some 8, .ld (.agg [(.int .i64), (.int .i64), (.int .i64), (.int .i64)]) (.t 7), some (6, true)⟩,
 ⟨some 9, .call 53 [(.t 8)] (.one (.sc (.int .i64))), some (6, true)⟩,
 ⟨some 10, .cmp .leq (.t 9) (.c (Go.Value.int Go.IntKind.i64 1048576)), some (6, true)⟩,
 ⟨some 11, .pick (.t 6) (.t 10) (.c (Go.Value.bool false)), none⟩,
 ⟨some 12, .mov (.t 11), none⟩,
 ⟨some 13, .fad 4 (.t 1), some (12, true)⟩,
 ⟨some 14, .ld (.sc .slc) (.t 13), some (12, true)⟩,
 ⟨some 15, .len false (.t 14), some (12, true)⟩,
 ⟨some 16, .fad 0 (.t 1), some (12, true)⟩,
 ⟨some 17, .ld (.agg [(.int .i64), (.int .i64), (.int .i64), (.int .i64)]) (.t 16), some (12, true)⟩,
 ⟨some 18, .calp 53 [(.t 17)] (.one (.sc (.int .i64))), some (12, true)⟩,
 ⟨some 19, .cmp .eql (.t 15) (.t 18), some (12, true)⟩,
 ⟨some 20, .pick (.t 12) (.t 19) (.c (Go.Value.bool false)), none⟩,
 ⟨some 2, .mov (.t 20), none⟩] [2]) .ret))⟩
def plane_Valid_ca {R : Type} (f : Int → Int → Int → Int → Option Addr → Nat → Nat → Heap → (Bool → Heap → Option R) → Option R) (args : List Value) (H : Heap) (K : Value → Heap → Option R) : Option R :=
  match args with
  | [.agg ⟨[.int .i64 n132, .int .i64 n133, .int .i64 n134, .int .i64 n135, .slice q136 l137 c138]⟩] => f n132 n133 n134 n135 q136 l137 c138 H (fun t1033 H => K (.bool t1033) H)
  | _ => none
def plane_Valid_c (R : Type) (k : Nat) (args : List Value) (H : Heap) (K : Value → Heap → Option R) : Option R := plane_Valid_ca plane_Valid args H K
theorem plane_Valid_e {R : Type} (rect_Valid : Int → Int → Int → Int → Heap → (Bool → Heap → Option R) → Option R) (rect_Area : Int → Int → Int → Int → Heap → (Int → Heap → Option R) → Option R) (k : Nat) (n132 : Int) (n133 : Int) (n134 : Int) (n135 : Int) (q136 : Option Addr) (l137 : Nat) (c138 : Nat) (H : Heap) (K : Value → Heap → Option R) : evF (plane_Valid_Ct rect_Valid rect_Area) (plane_Valid_Jt k) plane_Valid_f [.agg ⟨[.int .i64 n132, .int .i64 n133, .int .i64 n134, .int .i64 n135, .slice q136 l137 c138]⟩] H K = plane_Valid_b rect_Valid rect_Area k n132 n133 n134 n135 q136 l137 c138 H (fun t1033 H => K (.bool t1033) H) := by kernel_rfl
theorem plane_Valid_cs (R : Type) (k : Nat) : ∀ args H K r, plane_Valid_c R k args H K = some r → ∃ v H', Tri Try.prog 44 args H v H' ∧ K v H' = some r := by
  intro args H K r h
  unfold plane_Valid_c plane_Valid_ca at h
  split at h
  · exact evF_ok (C := plane_Valid_C R 0) (an := An) (t := plane_Valid_at) (fn := Try.f44) (c := (Try.f44.body.getD .skip)) (ifn := plane_Valid_f) (plane_Valid_S R 0) (plane_Valid_J R 0) Try.func44 (by kernel_rfl) (by kernel_rfl) (And.intro True.intro (And.intro True.intro True.intro)) rfl (Eq.trans (plane_Valid_e rect_Valid rect_Area 0 _ _ _ _ _ _ _ H K) h)
  · cases h
/-! ### color_deep: function 42 -/
def color_deep_b {R : Type} (k : Nat) (n179 : Int) (K : Bool → Option R) : Option R :=
bif decide (n179 ≥ 1) then (K (decide (n179 ≤ 16)))
 else (K false)

def color_deep {R : Type} (n179 : Int) (K : Bool → Option R) : Option R := color_deep_b 0 n179 K

def color_deep_Ct {R : Type} : Tab R := fun _ _ _ _ => none
def color_deep_C (R : Type) (k : Nat) : Tab R := color_deep_Ct
theorem color_deep_S (R : Type) (k : Nat) : CSound Try.prog (color_deep_C R k) := csound_nil
def color_deep_Jt {R : Type} (k : Nat) : JTab R := fun _ _ _ _ => none
def color_deep_J (R : Type) (k : Nat) : JTab R := color_deep_Jt k
def color_deep_at : AT := (.seq (.reg [0] []) (.seq (.reg [2] []) .leaf))
def color_deep_f : IFn := ⟨9, [.t 2], (.seq (.reg [⟨some 2, .mov (.c (Go.Value.bool false)), none⟩] [0]) (.seq (.reg [⟨some 3, .mov (.t 0), none⟩,
 ⟨some 4, .cmp .geq (.t 3) (.c (Go.Value.int Go.IntKind.i64 1)), none⟩,
 ⟨some 5, .mov (.t 4), none⟩,
 ⟨some 6, .mov (.t 0), some (5, true)⟩,
 ⟨some 7, .cmp .leq (.t 6) (.c (Go.Value.int Go.IntKind.i64 16)), some (5, true)⟩,
 ⟨some 8, .pick (.t 5) (.t 7) (.c (Go.Value.bool false)), none⟩,
 ⟨some 2, .mov (.t 8), none⟩] [2]) .ret))⟩
def color_deep_ca {R : Type} (f : Int → (Bool → Option R) → Option R) (args : List Value) (H : Heap) (K : Value → Heap → Option R) : Option R :=
  match args with
  | [.int .i64 n179] => f n179 (fun t1034 => K (.bool t1034) H)
  | _ => none
def color_deep_c (R : Type) (k : Nat) (args : List Value) (H : Heap) (K : Value → Heap → Option R) : Option R := color_deep_ca color_deep args H K
theorem color_deep_e {R : Type} (k : Nat) (n179 : Int) (H : Heap) (K : Value → Heap → Option R) : evF (color_deep_Ct) (color_deep_Jt k) color_deep_f [.int .i64 n179] H K = color_deep_b k n179 (fun t1034 => K (.bool t1034) H) := by kernel_rfl
theorem color_deep_cs (R : Type) (k : Nat) : ∀ args H K r, color_deep_c R k args H K = some r → ∃ v H', Tri Try.prog 42 args H v H' ∧ K v H' = some r := by
  intro args H K r h
  unfold color_deep_c color_deep_ca at h
  split at h
  · exact evF_ok (C := color_deep_C R 0) (an := An) (t := color_deep_at) (fn := Try.f42) (c := (Try.f42.body.getD .skip)) (ifn := color_deep_f) (color_deep_S R 0) (color_deep_J R 0) Try.func42 (by kernel_rfl) (by kernel_rfl) (And.intro True.intro (And.intro True.intro True.intro)) rfl (Eq.trans (color_deep_e 0 _ H K) h)
  · cases h
/-! ### color_Range: function 22 -/
def color_Range_b {R : Type} (color_deep : Int → (Bool → Option R) → Option R) (k : Nat) (n194 : Int) (t195 : Bool) (n196 : Int) (n197 : Int) (H : Heap) (K : Int → Int → Heap → Option R) : Option R :=
hal H [.int .i64 n194, .bool t195, .int .i64 n196, .int .i64 n197] fun p198 H199 =>
hfad 0 p198 fun p200 =>
ldI .i64 H199 p200 fun n201 =>
color_deep n201 fun t202 =>
bif (!t202) then (K 0 0 H199)
 else (hfad 1 p198 fun p203 =>
ldB H199 p203 fun t204 =>
bif t204 then (hfad 0 p198 fun p205 =>
ldI .i64 H199 p205 fun n206 =>
hbin .shl .i64 (-1) (IntKind.wrap .i64 (n206 - 1)) fun n207 =>
hfad 0 p198 fun p208 =>
ldI .i64 H199 p208 fun n209 =>
hbin .shl .i64 1 (IntKind.wrap .i64 (n209 - 1)) fun n210 =>
K n207 (IntKind.wrap .i64 (n210 - 1)) H199)
 else (hfad 0 p198 fun p211 =>
ldI .i64 H199 p211 fun n212 =>
hbin .shl .i64 1 n212 fun n213 =>
K 0 (IntKind.wrap .i64 (n213 - 1)) H199))

def color_Range {R : Type} (n194 : Int) (t195 : Bool) (n196 : Int) (n197 : Int) (H : Heap) (K : Int → Int → Heap → Option R) : Option R := color_Range_b color_deep 0 n194 t195 n196 n197 H K

def color_Range_Ct {R : Type} (color_deep : Int → (Bool → Option R) → Option R) : Tab R := tcons 42 (color_deep_ca color_deep) <| fun _ _ _ _ => none
def color_Range_C (R : Type) (k : Nat) : Tab R := color_Range_Ct color_deep
theorem color_Range_S (R : Type) (k : Nat) : CSound Try.prog (color_Range_C R k) := csound_cons (color_deep_cs R k) <| csound_nil
def color_Range_Jt {R : Type} (k : Nat) : JTab R := fun _ _ _ _ => none
def color_Range_J (R : Type) (k : Nat) : JTab R := color_Range_Jt k
def color_Range_at : AT := (.seq (.reg [1] []) (.seq (.seq (.reg [1, 7] []) (.cond (.seq (.reg [2, 3] []) .leaf) .leaf)) (.seq (.seq (.reg [1, 9] []) (.cond (.seq (.reg [2, 3] [[], [0], [0, 1], [0, 1, 2], [], [4], [4, 5], [4, 5, 6], [4, 5, 6, 7], [0, 1, 2, 3], [0, 1, 2, 3, 4, 5, 6, 7, 8, 9]]) .leaf) .leaf)) (.seq (.reg [2, 3] [[], [0], [0, 1], [0, 1, 2], [], [0, 1, 2, 3, 4]]) .leaf))))
def color_Range_f : IFn := ⟨23, [.t 2, .t 3], (.seq (.reg [⟨some 1, .box (.t 0), none⟩,
 ⟨some 2, .mov (.c (Go.Value.int Go.IntKind.i64 0)), none⟩,
 ⟨some 3, .mov (.c (Go.Value.int Go.IntKind.i64 0)), none⟩] [1]) (.seq (.seq (.reg [⟨some 4, .fad 0 (.t 1), none⟩,
 ⟨some 5, .ld (.sc (.int .i64)) (.t 4), none⟩,
 ⟨some 6, .call 42 [(.t 5)] (.one (.sc .bool)), none⟩,
 ⟨some 7, .lnot (.t 6), none⟩] [1, 7]) (.cond (.t 7) (.seq (.reg [⟨some 2, .mov (.c (Go.Value.int Go.IntKind.i64 0)), none⟩,
 ⟨some 3, .mov (.c (Go.Value.int Go.IntKind.i64 0)), none⟩] [2, 3]) .ret) .skip)) (.seq (.seq (.reg [⟨some 8, .fad 1 (.t 1), none⟩,
 ⟨some 9, .ld (.sc .bool) (.t 8), none⟩] [1, 9]) (.cond (.t 9) (.seq (.reg [⟨some 10, .fad 0 (.t 1), none⟩,
 ⟨some 11, .ld (.sc (.int .i64)) (.t 10), none⟩,
 ⟨some 12, .bin .sub .i64 (.t 11) (.c (Go.Value.int Go.IntKind.i64 1)), none⟩,
 ⟨some 13, .bin .shl .i64 (.c (Go.Value.int Go.IntKind.i64 (-1))) (.t 12), none⟩,
 ⟨some 14, .fad 0 (.t 1), none⟩,
 ⟨some 15, .ld (.sc (.int .i64)) (.t 14), none⟩,
 ⟨some 16, .bin .sub .i64 (.t 15) (.c (Go.Value.int Go.IntKind.i64 1)), none⟩,
 ⟨some 17, .bin .shl .i64 (.c (Go.Value.int Go.IntKind.i64 1)) (.t 16), none⟩,
 ⟨some 18, .bin .sub .i64 (.t 17) (.c (Go.Value.int Go.IntKind.i64 1)), none⟩,
 ⟨some 2, .mov (.t 13), none⟩,
 ⟨some 3, .mov (.t 18), none⟩] [2, 3]) .ret) .skip)) (.seq (.reg [⟨some 19, .fad 0 (.t 1), none⟩,
 ⟨some 20, .ld (.sc (.int .i64)) (.t 19), none⟩,
 ⟨some 21, .bin .shl .i64 (.c (Go.Value.int Go.IntKind.i64 1)) (.t 20), none⟩,
 ⟨some 22, .bin .sub .i64 (.t 21) (.c (Go.Value.int Go.IntKind.i64 1)), none⟩,
 ⟨some 2, .mov (.c (Go.Value.int Go.IntKind.i64 0)), none⟩,
 ⟨some 3, .mov (.t 22), none⟩] [2, 3]) .ret))))⟩
def color_Range_ca {R : Type} (f : Int → Bool → Int → Int → Heap → (Int → Int → Heap → Option R) → Option R) (args : List Value) (H : Heap) (K : Value → Heap → Option R) : Option R :=
  match args with
  | [.agg ⟨[.int .i64 n194, .bool t195, .int .i64 n196, .int .i64 n197]⟩] => f n194 t195 n196 n197 H (fun n1035 n1036 H => K (.tuple ⟨[.int .i64 n1035, .int .i64 n1036]⟩) H)
  | _ => none
def color_Range_c (R : Type) (k : Nat) (args : List Value) (H : Heap) (K : Value → Heap → Option R) : Option R := color_Range_ca color_Range args H K
theorem color_Range_e {R : Type} (color_deep : Int → (Bool → Option R) → Option R) (k : Nat) (n194 : Int) (t195 : Bool) (n196 : Int) (n197 : Int) (H : Heap) (K : Value → Heap → Option R) : evF (color_Range_Ct color_deep) (color_Range_Jt k) color_Range_f [.agg ⟨[.int .i64 n194, .bool t195, .int .i64 n196, .int .i64 n197]⟩] H K = color_Range_b color_deep k n194 t195 n196 n197 H (fun n1035 n1036 H => K (.tuple ⟨[.int .i64 n1035, .int .i64 n1036]⟩) H) := by kernel_rfl
theorem color_Range_cs (R : Type) (k : Nat) : ∀ args H K r, color_Range_c R k args H K = some r → ∃ v H', Tri Try.prog 22 args H v H' ∧ K v H' = some r := by
  intro args H K r h
  unfold color_Range_c color_Range_ca at h
  split at h
  · exact evF_ok (C := color_Range_C R 0) (an := An) (t := color_Range_at) (fn := Try.f22) (c := (Try.f22.body.getD .skip)) (ifn := color_Range_f) (color_Range_S R 0) (color_Range_J R 0) Try.func22 (by kernel_rfl) (by kernel_rfl) (And.intro True.intro (And.intro (And.intro True.intro (And.intro (And.intro True.intro True.intro) True.intro)) (And.intro (And.intro True.intro (And.intro (And.intro True.intro True.intro) True.intro)) (And.intro True.intro True.intro)))) rfl (Eq.trans (color_Range_e color_deep 0 _ _ _ _ H K) h)
  · cases h
/-! ### color_offset: function 45 -/
def color_offset_b {R : Type} (k : Nat) (n298 : Int) (t299 : Bool) (n300 : Int) (n301 : Int) (H : Heap) (K : Int → Heap → Option R) : Option R :=
hal H [.int .i64 n298, .bool t299, .int .i64 n300, .int .i64 n301] fun p302 H303 =>
hfad 1 p302 fun p304 =>
ldB H303 p304 fun t305 =>
bif t305 then (K 0 H303)
 else (hfad 0 p302 fun p306 =>
ldI .i64 H303 p306 fun n307 =>
hbin .shl .i64 1 (IntKind.wrap .i64 (n307 - 1)) fun n308 =>
K n308 H303)

def color_offset {R : Type} (n298 : Int) (t299 : Bool) (n300 : Int) (n301 : Int) (H : Heap) (K : Int → Heap → Option R) : Option R := color_offset_b 0 n298 t299 n300 n301 H K

def color_offset_Ct {R : Type} : Tab R := fun _ _ _ _ => none
def color_offset_C (R : Type) (k : Nat) : Tab R := color_offset_Ct
theorem color_offset_S (R : Type) (k : Nat) : CSound Try.prog (color_offset_C R k) := csound_nil
def color_offset_Jt {R : Type} (k : Nat) : JTab R := fun _ _ _ _ => none
def color_offset_J (R : Type) (k : Nat) : JTab R := color_offset_Jt k
def color_offset_at : AT := (.seq (.reg [1] []) (.seq (.seq (.reg [1, 4] []) (.cond (.seq (.reg [2] []) .leaf) .leaf)) (.seq (.reg [2] []) .leaf)))
def color_offset_f : IFn := ⟨9, [.t 2], (.seq (.reg [⟨some 1, .box (.t 0), none⟩,
 ⟨some 2, .mov (.c (Go.Value.int Go.IntKind.i64 0)), none⟩] [1]) (.seq (.seq (.reg [⟨some 3, .fad 1 (.t 1), none⟩,
 ⟨some 4, .ld (.sc .bool) (.t 3), none⟩] [1, 4]) (.cond (.t 4) (.seq (.reg [⟨some 2, .mov (.c (Go.Value.int Go.IntKind.i64 0)), none⟩] [2]) .ret) .skip)) (.seq (.reg [⟨some 5, .fad 0 (.t 1), none⟩,
 ⟨some 6, .ld (.sc (.int .i64)) (.t 5), none⟩,
 ⟨some 7, .bin .sub .i64 (.t 6) (.c (Go.Value.int Go.IntKind.i64 1)), none⟩,
 ⟨some 8, .bin .shl .i64 (.c (Go.Value.int Go.IntKind.i64 1)) (.t 7), none⟩,
 ⟨some 2, .mov (.t 8), none⟩] [2]) .ret)))⟩
def color_offset_ca {R : Type} (f : Int → Bool → Int → Int → Heap → (Int → Heap → Option R) → Option R) (args : List Value) (H : Heap) (K : Value → Heap → Option R) : Option R :=
  match args with
  | [.agg ⟨[.int .i64 n298, .bool t299, .int .i64 n300, .int .i64 n301]⟩] => f n298 t299 n300 n301 H (fun n1037 H => K (.int .i64 n1037) H)
  | _ => none
def color_offset_c (R : Type) (k : Nat) (args : List Value) (H : Heap) (K : Value → Heap → Option R) : Option R := color_offset_ca color_offset args H K
theorem color_offset_e {R : Type} (k : Nat) (n298 : Int) (t299 : Bool) (n300 : Int) (n301 : Int) (H : Heap) (K : Value → Heap → Option R) : evF (color_offset_Ct) (color_offset_Jt k) color_offset_f [.agg ⟨[.int .i64 n298, .bool t299, .int .i64 n300, .int .i64 n301]⟩] H K = color_offset_b k n298 t299 n300 n301 H (fun n1037 H => K (.int .i64 n1037) H) := by kernel_rfl
theorem color_offset_cs (R : Type) (k : Nat) : ∀ args H K r, color_offset_c R k args H K = some r → ∃ v H', Tri Try.prog 45 args H v H' ∧ K v H' = some r := by
  intro args H K r h
  unfold color_offset_c color_offset_ca at h
  split at h
  · exact evF_ok (C := color_offset_C R 0) (an := An) (t := color_offset_at) (fn := Try.f45) (c := (Try.f45.body.getD .skip)) (ifn := color_offset_f) (color_offset_S R 0) (color_offset_J R 0) Try.func45 (by kernel_rfl) (by kernel_rfl) (And.intro True.intro (And.intro (And.intro True.intro (And.intro (And.intro True.intro True.intro) True.intro)) (And.intro True.intro True.intro))) rfl (Eq.trans (color_offset_e 0 _ _ _ _ H K) h)
  · cases h
/-! ### color_Shift: function 24 -/
def color_Shift_p1_b {R : Type} (k : Nat) (p192 : Option Addr) (p193 : Option Addr) (n194 : Int) (n195 : Int) (p196 : Option Addr) (n197 : Int) (n198 : Int) (q199 : Option Addr) (l200 : Nat) (c201 : Nat) (n202 : Int) (n203 : Int) (KN : Option Addr → Option Addr → Int → Int → Option Addr → Int → Int → Option Addr → Nat → Nat → Int → Int → Bool → Option R) : Option R :=
bif decide (n198 < n194) then (KN p192 p193 n194 n195 p196 n197 n198 q199 l200 c201 n202 n203 true)
 else (KN p192 p193 n194 n195 p196 n197 n198 q199 l200 c201 n202 n203 (decide (n198 > n195)))
def color_Shift_p1 {R : Type} (k : Nat) (p192 : Option Addr) (p193 : Option Addr) (n194 : Int) (n195 : Int) (p196 : Option Addr) (n197 : Int) (n198 : Int) (q199 : Option Addr) (l200 : Nat) (c201 : Nat) (n202 : Int) (n203 : Int) (KN : Option Addr → Option Addr → Int → Int → Option Addr → Int → Int → Option Addr → Nat → Nat → Int → Int → Bool → Option R) : Option R := color_Shift_p1_b k p192 p193 n194 n195 p196 n197 n198 q199 l200 c201 n202 n203 KN

def color_Shift_l0_b {R : Type} (color_Shift_p1 : Option Addr → Option Addr → Int → Int → Option Addr → Int → Int → Option Addr → Nat → Nat → Int → Int → (Option Addr → Option Addr → Int → Int → Option Addr → Int → Int → Option Addr → Nat → Nat → Int → Int → Bool → Option R) → Option R) (color_offset : Int → Bool → Int → Int → Heap → (Int → Heap → Option R) → Option R) (rec : Option Addr → Option Addr → Int → Int → Option Addr → Option Addr → Nat → Nat → Int → Int → Heap → Option R) (KE0 : Option Addr → Option Addr → Heap → Option R) (KR : Option Addr → Int → Heap → Option R) (k : Nat) (p180 : Option Addr) (p181 : Option Addr) (n182 : Int) (n183 : Int) (p184 : Option Addr) (q185 : Option Addr) (l186 : Nat) (c187 : Nat) (n188 : Int) (n189 : Int) (H : Heap) : Option R :=
bif decide (n189 < n188) then (hidx q185 l186 n189 1 fun p190 =>
ldI .i64 H p190 fun n191 =>
color_Shift_p1 p180 p181 n182 n183 p184 n189 n191 q185 l186 c187 n188 n189 (fun p217 p218 n219 n220 p221 n222 n223 q224 l225 c226 n227 n228 t229 =>
bif t229 then (hst H p218 [.int .i64 0, .int .i64 0, .int .i64 0, .int .i64 0, .slice none 0 0] fun H230 =>
KR p218 2 H230)
 else (hfad 4 p221 fun p231 =>
ldL H p231 fun q232 l233 c234 =>
ldI .i64 H (pad p217 0) fun n235 =>
ldB H (pad p217 1) fun t236 =>
ldI .i64 H (pad p217 2) fun n237 =>
ldI .i64 H (pad p217 3) fun n238 =>
color_offset n235 t236 n237 n238 (roH H) fun n239 H240 =>
hidx q232 l233 n222 1 fun p241 =>
hst1 H p241 (.int .i64 (IntKind.wrap .i64 (n223 - n239))) fun H242 =>
rec p217 p218 n219 n220 p221 q224 l225 c226 n227 (IntKind.wrap .i64 (n228 + 1)) H242)))
 else (KE0 p181 p184 H)
def color_Shift_l0 {R : Type} (k : Nat) (KE0 : Option Addr → Option Addr → Heap → Option R) (KR : Option Addr → Int → Heap → Option R) : Nat → Option Addr → Option Addr → Int → Int → Option Addr → Option Addr → Nat → Nat → Int → Int → Heap → Option R
  | 0, _, _, _, _, _, _, _, _, _, _, _ => none
  | n + 1, p180, p181, n182, n183, p184, q185, l186, c187, n188, n189, H => color_Shift_l0_b (color_Shift_p1 k) color_offset (color_Shift_l0 k KE0 KR n) KE0 KR k p180 p181 n182 n183 p184 q185 l186 c187 n188 n189 H

def color_Shift_b {R : Type} (plane_Valid : Int → Int → Int → Int → Option Addr → Nat → Nat → Heap → (Bool → Heap → Option R) → Option R) (color_deep : Int → (Bool → Option R) → Option R) (color_Range : Int → Bool → Int → Int → Heap → (Int → Int → Heap → Option R) → Option R) (color_Shift_l0 : (Option Addr → Option Addr → Heap → Option R) → (Option Addr → Int → Heap → Option R) → Nat → Option Addr → Option Addr → Int → Int → Option Addr → Option Addr → Nat → Nat → Int → Int → Heap → Option R) (k : Nat) (n108 : Int) (n109 : Int) (n110 : Int) (n111 : Int) (q112 : Option Addr) (l113 : Nat) (c114 : Nat) (n115 : Int) (t116 : Bool) (n117 : Int) (n118 : Int) (H : Heap) (K : Int → Int → Int → Int → Option Addr → Nat → Nat → Int → Heap → Option R) : Option R :=
hal H [.int .i64 n108, .int .i64 n109, .int .i64 n110, .int .i64 n111, .slice q112 l113 c114] fun p119 H120 =>
hal H120 [.int .i64 n115, .bool t116, .int .i64 n117, .int .i64 n118] fun p121 H122 =>
hal H122 [.int .i64 0, .int .i64 0, .int .i64 0, .int .i64 0, .slice none 0 0] fun p123 H124 =>
ldI .i64 H124 (pad p119 0) fun n125 =>
ldI .i64 H124 (pad p119 1) fun n126 =>
ldI .i64 H124 (pad p119 2) fun n127 =>
ldI .i64 H124 (pad p119 3) fun n128 =>
ldL H124 (pad p119 4) fun q129 l130 c131 =>
plane_Valid n125 n126 n127 n128 q129 l130 c131 H124 fun t132 H133 =>
bif (!t132) then (hst H133 p123 [.int .i64 0, .int .i64 0, .int .i64 0, .int .i64 0, .slice none 0 0] fun H134 =>
ldI .i64 H134 (pad p123 0) fun n135 =>
ldI .i64 H134 (pad p123 1) fun n136 =>
ldI .i64 H134 (pad p123 2) fun n137 =>
ldI .i64 H134 (pad p123 3) fun n138 =>
ldL H134 (pad p123 4) fun q139 l140 c141 =>
K n135 n136 n137 n138 q139 l140 c141 1 H134)
 else (hfad 0 p121 fun p142 =>
ldI .i64 H133 p142 fun n143 =>
color_deep n143 fun t144 =>
bif (!t144) then (hst H133 p123 [.int .i64 0, .int .i64 0, .int .i64 0, .int .i64 0, .slice none 0 0] fun H145 =>
ldI .i64 H145 (pad p123 0) fun n146 =>
ldI .i64 H145 (pad p123 1) fun n147 =>
ldI .i64 H145 (pad p123 2) fun n148 =>
ldI .i64 H145 (pad p123 3) fun n149 =>
ldL H145 (pad p123 4) fun q150 l151 c152 =>
K n146 n147 n148 n149 q150 l151 c152 12 H145)
 else (ldI .i64 H133 (pad p121 0) fun n153 =>
ldB H133 (pad p121 1) fun t154 =>
ldI .i64 H133 (pad p121 2) fun n155 =>
ldI .i64 H133 (pad p121 3) fun n156 =>
color_Range n153 t154 n155 n156 H133 fun n157 n158 H159 =>
hfad 0 p119 fun p160 =>
ldI .i64 H159 (pad p160 0) fun n161 =>
ldI .i64 H159 (pad p160 1) fun n162 =>
ldI .i64 H159 (pad p160 2) fun n163 =>
ldI .i64 H159 (pad p160 3) fun n164 =>
hfad 4 p119 fun p165 =>
ldL H159 p165 fun q166 l167 c168 =>
hmk [.int .i64 0] 8 H159 ((l167 : Nat) : Int) ((l167 : Nat) : Int) fun q169 l170 c171 H172 =>
hal H172 [.int .i64 0, .int .i64 0, .int .i64 0, .int .i64 0, .slice none 0 0] fun p173 H174 =>
hst H174 p173 [.int .i64 n161, .int .i64 n162, .int .i64 n163, .int .i64 n164, .slice q169 l170 c171] fun H175 =>
hfad 4 p119 fun p176 =>
ldL H175 p176 fun q177 l178 c179 =>
color_Shift_l0 (fun p247 p248 H249 =>
ldI .i64 H249 (pad p248 0) fun n250 =>
ldI .i64 H249 (pad p248 1) fun n251 =>
ldI .i64 H249 (pad p248 2) fun n252 =>
ldI .i64 H249 (pad p248 3) fun n253 =>
ldL H249 (pad p248 4) fun q254 l255 c256 =>
hst H249 p247 [.int .i64 n250, .int .i64 n251, .int .i64 n252, .int .i64 n253, .slice q254 l255 c256] fun H257 =>
ldI .i64 H257 (pad p247 0) fun n258 =>
ldI .i64 H257 (pad p247 1) fun n259 =>
ldI .i64 H257 (pad p247 2) fun n260 =>
ldI .i64 H257 (pad p247 3) fun n261 =>
ldL H257 (pad p247 4) fun q262 l263 c264 =>
K n258 n259 n260 n261 q262 l263 c264 0 H257) (fun p265 n266 H267 =>
ldI .i64 H267 (pad p265 0) fun n268 =>
ldI .i64 H267 (pad p265 1) fun n269 =>
ldI .i64 H267 (pad p265 2) fun n270 =>
ldI .i64 H267 (pad p265 3) fun n271 =>
ldL H267 (pad p265 4) fun q272 l273 c274 =>
K n268 n269 n270 n271 q272 l273 c274 n266 H267) k p121 p123 n157 n158 p173 q177 l178 c179 ((l178 : Nat) : Int) 0 H175))

def color_Shift {R : Type} (k : Nat) (n108 : Int) (n109 : Int) (n110 : Int) (n111 : Int) (q112 : Option Addr) (l113 : Nat) (c114 : Nat) (n115 : Int) (t116 : Bool) (n117 : Int) (n118 : Int) (H : Heap) (K : Int → Int → Int → Int → Option Addr → Nat → Nat → Int → Heap → Option R) : Option R := color_Shift_b plane_Valid color_deep color_Range (color_Shift_l0 k) k n108 n109 n110 n111 q112 l113 c114 n115 t116 n117 n118 H K

def color_Shift_Ct {R : Type} (plane_Valid : Int → Int → Int → Int → Option Addr → Nat → Nat → Heap → (Bool → Heap → Option R) → Option R) (color_deep : Int → (Bool → Option R) → Option R) (color_Range : Int → Bool → Int → Int → Heap → (Int → Int → Heap → Option R) → Option R) (color_offset : Int → Bool → Int → Int → Heap → (Int → Heap → Option R) → Option R) : Tab R := tcons 44 (plane_Valid_ca plane_Valid) <| tcons 42 (color_deep_ca color_deep) <| tcons 22 (color_Range_ca color_Range) <| tcons 45 (color_offset_ca color_offset) <| fun _ _ _ _ => none
def color_Shift_C (R : Type) (k : Nat) : Tab R := color_Shift_Ct plane_Valid color_deep color_Range color_offset
theorem color_Shift_S (R : Type) (k : Nat) : CSound Try.prog (color_Shift_C R k) := csound_cons (plane_Valid_cs R k) <| csound_cons (color_deep_cs R k) <| csound_cons (color_Range_cs R k) <| csound_cons (color_offset_cs R k) <| csound_nil
def color_Shift_aa0 {R : Type} (f : (Option Addr → Option Addr → Heap → Option R) → (Option Addr → Int → Heap → Option R) → Nat → Option Addr → Option Addr → Int → Int → Option Addr → Option Addr → Nat → Nat → Int → Int → Heap → Option R) (n : Nat) (vals : List Value) (H : Heap) (K : Xit → Env → Heap → Option R) : Option R :=
  match vals with
  | [.pointer p180, .pointer p181, .int .i64 n182, .int .i64 n183, .pointer p184, .slice q185 l186 c187, .int .i64 n188, .int .i64 n189] => f (fun p1038 p1039 H => K (.exit 0) [(4, .pointer p1038), (8, .pointer p1039)] H) (fun p1040 n1041 H => K .ret [(4, .pointer p1040), (5, .int .i64 n1041)] H) n p180 p181 n182 n183 p184 q185 l186 c187 n188 n189 H
  | _ => none
def color_Shift_a0 (R : Type) (k n : Nat) (vals : List Value) (H : Heap) (K : Xit → Env → Heap → Option R) : Option R := color_Shift_aa0 (color_Shift_l0 k) n vals H K
def color_Shift_aa1 {R : Type} (f : Option Addr → Option Addr → Int → Int → Option Addr → Int → Int → Option Addr → Nat → Nat → Int → Int → (Option Addr → Option Addr → Int → Int → Option Addr → Int → Int → Option Addr → Nat → Nat → Int → Int → Bool → Option R) → Option R) (n : Nat) (vals : List Value) (H : Heap) (K : Xit → Env → Heap → Option R) : Option R :=
  match vals with
  | [.pointer p192, .pointer p193, .int .i64 n194, .int .i64 n195, .pointer p196, .int .i64 n197, .int .i64 n198, .slice q199 l200 c201, .int .i64 n202, .int .i64 n203] => f p192 p193 n194 n195 p196 n197 n198 q199 l200 c201 n202 n203 (fun p1042 p1043 n1044 n1045 p1046 n1047 n1048 q1049 l1050 c1051 n1052 n1053 t1054 => K .normal [(3, .pointer p1042), (4, .pointer p1043), (6, .int .i64 n1044), (7, .int .i64 n1045), (8, .pointer p1046), (9, .int .i64 n1047), (10, .int .i64 n1048), (33, .slice q1049 l1050 c1051), (34, .int .i64 n1052), (35, .int .i64 n1053), (47, .bool t1054)] H)
  | _ => none
def color_Shift_a1 (R : Type) (k n : Nat) (vals : List Value) (H : Heap) (K : Xit → Env → Heap → Option R) : Option R := color_Shift_aa1 (color_Shift_p1 k) n vals H K
def color_Shift_Jt {R : Type} (k : Nat) (color_Shift_l0 : (Option Addr → Option Addr → Heap → Option R) → (Option Addr → Int → Heap → Option R) → Nat → Option Addr → Option Addr → Int → Int → Option Addr → Option Addr → Nat → Nat → Int → Int → Heap → Option R) (color_Shift_p1 : Option Addr → Option Addr → Int → Int → Option Addr → Int → Int → Option Addr → Nat → Nat → Int → Int → (Option Addr → Option Addr → Int → Int → Option Addr → Int → Int → Option Addr → Nat → Nat → Int → Int → Bool → Option R) → Option R) : JTab R := tcons 0 (color_Shift_aa0 color_Shift_l0 k) <| tcons 1 (color_Shift_aa1 color_Shift_p1 k) <| fun _ _ _ _ => none
def color_Shift_J (R : Type) (k : Nat) : JTab R := color_Shift_Jt k (color_Shift_l0 k) (color_Shift_p1 k)
def color_Shift_at : AT := (.seq (.reg [2, 3, 4] []) (.seq (.seq (.reg [2, 3, 4, 13] []) (.cond (.seq (.reg [4, 5] []) .leaf) .leaf)) (.seq (.seq (.reg [2, 3, 4, 18] []) (.cond (.seq (.reg [4, 5] []) .leaf) .leaf)) (.seq (.reg [2, 3, 4, 6, 7] []) (.seq (.reg [2, 3, 4, 6, 7, 8] [[], [0], [], [2], [2, 3], [2, 3, 4], [0, 1, 2, 3, 4, 5], [], [0, 1, 2, 3, 4, 5, 6, 7]]) (.seq (.seq (.reg [3, 4, 6, 7, 8, 33, 34, 35] []) (.node (.opq 0 [3, 4, 6, 7, 8, 33, 34, 35] ⟨[], [(0, [4, 8])], [4, 5]⟩ (.node (.seq (.reg [3, 4, 6, 7, 8, 33, 34, 35, 36] []) (.seq (.cond .leaf .leaf) (.seq (.node (.seq (.reg [3, 4, 6, 7, 8, 9, 10, 33, 34, 35] []) (.seq (.seq (.opq 1 [3, 4, 6, 7, 8, 9, 10, 33, 34, 35] ⟨[3, 4, 6, 7, 8, 9, 10, 33, 34, 35, 47], [], []⟩ (.reg [3, 4, 6, 7, 8, 9, 10, 33, 34, 35, 47] [])) (.cond (.seq (.reg [4, 5] []) .leaf) .leaf)) (.reg [3, 4, 6, 7, 8, 33, 34, 35] [[], [0], [], [], [], [4], [3, 4, 5], [0, 1, 2, 3, 4, 5, 6], [0, 1, 2, 3, 4, 5, 6, 7]])))) (.reg [3, 4, 6, 7, 8, 33, 34, 35] [])))))))) (.seq (.reg [4, 5] []) .leaf)))))))
def color_Shift_i1 : IC := (.reg [⟨some 40, .mov (.t 10), none⟩,
 ⟨some 41, .mov (.t 6), none⟩,
 ⟨some 42, .cmp .lss (.t 40) (.t 41), none⟩,
 ⟨some 43, .mov (.t 42), none⟩,
 ⟨some 44, .mov (.t 10), some (43, false)⟩,
 ⟨some 45, .mov (.t 7), some (43, false)⟩,
 ⟨some 46, .cmp .gtr (.t 44) (.t 45), some (43, false)⟩,
 ⟨some 47, .pick (.t 43) (.c (Go.Value.bool true)) (.t 46), none⟩] [3, 4, 6, 7, 8, 9, 10, 33, 34, 35, 47])
def color_Shift_i0 : IC := (.seq (.reg [⟨some 36, .cmp .lss (.t 35) (.t 34), none⟩] [3, 4, 6, 7, 8, 33, 34, 35, 36]) (.seq (.cond (.t 36) .skip (.exit 0)) (.seq (.block 1 (.seq (.reg [⟨some 37, .mov (.t 35), none⟩,
 ⟨some 38, .ids 1 (.t 33) (.t 35), none⟩,
 ⟨some 39, .ld (.sc (.int .i64)) (.t 38), none⟩,
 ⟨some 9, .mov (.t 37), none⟩,
 ⟨some 10, .mov (.t 39), none⟩] [3, 4, 6, 7, 8, 9, 10, 33, 34, 35]) (.seq (.seq (.opq 1 [3, 4, 6, 7, 8, 9, 10, 33, 34, 35] color_Shift_i1) (.cond (.t 47) (.seq (.reg [⟨some 48, .bld [.int .i64 0, .int .i64 0, .int .i64 0, .int .i64 0, .slice none 0 0] [], none⟩,
 ⟨none, .st 5 (.t 4) (.t 48), none⟩,
 ⟨some 5, .mov (.c (Go.Value.int Go.IntKind.i64 2)), none⟩] [4, 5]) .ret) .skip)) (.reg [⟨some 49, .fad 4 (.t 8), none⟩,
 ⟨some 50, .ld (.sc .slc) (.t 49), none⟩,
 ⟨some 51, .mov (.t 9), none⟩,
 ⟨some 52, .mov (.t 10), none⟩,
 ⟨some 53, .ld (.agg [(.int .i64), .bool, (.int .i64), (.int .i64)]) (.t 3), none⟩,
 ⟨some 54, .calp 45 [(.t 53)] (.one (.sc (.int .i64))), none⟩,
 ⟨some 55, .bin .sub .i64 (.t 52) (.t 54), none⟩,
 ⟨some 56, .ids 1 (.t 50) (.t 51), none⟩,
 ⟨none, .st 1 (.t 56) (.t 55), none⟩] [3, 4, 6, 7, 8, 33, 34, 35])))) (.reg [⟨some 57, .bin .add .i64 (.t 35) (.c (Go.Value.int Go.IntKind.i64 1)), none⟩,
 ⟨some 35, .mov (.t 57), none⟩] [3, 4, 6, 7, 8, 33, 34, 35]))))
def color_Shift_f : IFn := ⟨59, [.cell 4 (.agg [(.int .i64), (.int .i64), (.int .i64), (.int .i64), .slc]), .t 5], (.seq (.reg [⟨some 2, .box (.t 0), none⟩,
 ⟨some 3, .box (.t 1), none⟩,
 ⟨some 4, .alc [.int .i64 0, .int .i64 0, .int .i64 0, .int .i64 0, .slice none 0 0], none⟩,
 ⟨some 5, .mov (.c (Go.Value.int Go.IntKind.i64 0)), none⟩] [2, 3, 4]) (.seq (.seq (.reg [⟨some 11, .ld (.agg [(.int .i64), (.int .i64), (.int .i64), (.int .i64), .slc]) (.t 2), none⟩,
 ⟨some 12, .call 44 [(.t 11)] (.one (.sc .bool)), none⟩,
 ⟨some 13, .lnot (.t 12), none⟩] [2, 3, 4, 13]) (.cond (.t 13) (.seq (.reg [⟨some 14, .bld [.int .i64 0, .int .i64 0, .int .i64 0, .int .i64 0, .slice none 0 0] [], none⟩,
 ⟨none, .st 5 (.t 4) (.t 14), none⟩,
 ⟨some 5, .mov (.c (Go.Value.int Go.IntKind.i64 1)), none⟩] [4, 5]) .ret) .skip)) (.seq (.seq (.reg [⟨some 15, .fad 0 (.t 3), none⟩,
 ⟨some 16, .ld (.sc (.int .i64)) (.t 15), none⟩,
 ⟨some 17, .call 42 [(.t 16)] (.one (.sc .bool)), none⟩,
 ⟨some 18, .lnot (.t 17), none⟩] [2, 3, 4, 18]) (.cond (.t 18) (.seq (.reg [⟨some 19, .bld [.int .i64 0, .int .i64 0, .int .i64 0, .int .i64 0, .slice none 0 0] [], none⟩,
 ⟨none, .st 5 (.t 4) (.t 19), none⟩,
 ⟨some 5, .mov (.c (Go.Value.int Go.IntKind.i64 12)), none⟩] [4, 5]) .ret) .skip)) (.seq (.reg [⟨some 21, .ld (.agg [(.int .i64), .bool, (.int .i64), (.int .i64)]) (.t 3), none⟩,
 ⟨some 22, .call 22 [(.t 21)] (.tup [(.sc (.int .i64)), (.sc (.int .i64))]), none⟩,
 ⟨some 20, .mov (.t 22), none⟩,
 ⟨some 23, .ext 0 (.t 20), none⟩,
 ⟨some 24, .ext 1 (.t 20), none⟩,
 ⟨some 6, .mov (.t 23), none⟩,
 ⟨some 7, .mov (.t 24), none⟩] [2, 3, 4, 6, 7]) (.seq (.reg [⟨some 25, .fad 0 (.t 2), none⟩,
 ⟨some 26, .ld (.agg [(.int .i64), (.int .i64), (.int .i64), (.int .i64)]) (.t 25), none⟩,
 ⟨some 27, .fad 4 (.t 2), none⟩,
 ⟨some 28, .ld (.sc .slc) (.t 27), none⟩,
 ⟨some 29, .len false (.t 28), none⟩,
 ⟨some 30, .mks [.int .i64 0] 8 (.t 29) (.t 29), none⟩,
 ⟨some 31, .bld [.int .i64 0, .int .i64 0, .int .i64 0, .int .i64 0, .slice none 0 0] [(0, 4, (.t 26)), (4, 1, (.t 30))], none⟩,
 ⟨some 8, .alc [.int .i64 0, .int .i64 0, .int .i64 0, .int .i64 0, .slice none 0 0], none⟩,
 ⟨none, .st 5 (.t 8) (.t 31), none⟩] [2, 3, 4, 6, 7, 8]) (.seq (.seq (.reg [⟨some 32, .fad 4 (.t 2), none⟩,
 ⟨some 33, .ld (.sc .slc) (.t 32), none⟩,
 ⟨some 34, .len false (.t 33), none⟩,
 ⟨some 35, .mov (.c (Go.Value.int Go.IntKind.i64 0)), none⟩] [3, 4, 6, 7, 8, 33, 34, 35]) (.block 0 (.opq 0 [3, 4, 6, 7, 8, 33, 34, 35] (.loop color_Shift_i0)))) (.seq (.reg [⟨some 58, .ld (.agg [(.int .i64), (.int .i64), (.int .i64), (.int .i64), .slc]) (.t 8), none⟩,
 ⟨none, .st 5 (.t 4) (.t 58), none⟩,
 ⟨some 5, .mov (.c (Go.Value.int Go.IntKind.i64 0)), none⟩] [4, 5]) .ret)))))))⟩
theorem color_Shift_e1 {R : Type} (plane_Valid : Int → Int → Int → Int → Option Addr → Nat → Nat → Heap → (Bool → Heap → Option R) → Option R) (color_deep : Int → (Bool → Option R) → Option R) (color_Range : Int → Bool → Int → Int → Heap → (Int → Int → Heap → Option R) → Option R) (color_offset : Int → Bool → Int → Int → Heap → (Int → Heap → Option R) → Option R) (color_Shift_l0 : (Option Addr → Option Addr → Heap → Option R) → (Option Addr → Int → Heap → Option R) → Nat → Option Addr → Option Addr → Int → Int → Option Addr → Option Addr → Nat → Nat → Int → Int → Heap → Option R) (color_Shift_p1 : Option Addr → Option Addr → Int → Int → Option Addr → Int → Int → Option Addr → Nat → Nat → Int → Int → (Option Addr → Option Addr → Int → Int → Option Addr → Int → Int → Option Addr → Nat → Nat → Int → Int → Bool → Option R) → Option R) (k : Nat) (p192 : Option Addr) (p193 : Option Addr) (n194 : Int) (n195 : Int) (p196 : Option Addr) (n197 : Int) (n198 : Int) (q199 : Option Addr) (l200 : Nat) (c201 : Nat) (n202 : Int) (n203 : Int) (H : Heap) (K : Xit → Env → Heap → Option R) : evJ (color_Shift_Ct plane_Valid color_deep color_Range color_offset) (color_Shift_Jt k color_Shift_l0 color_Shift_p1) color_Shift_i1 (List.zip [3, 4, 6, 7, 8, 9, 10, 33, 34, 35] [.pointer p192, .pointer p193, .int .i64 n194, .int .i64 n195, .pointer p196, .int .i64 n197, .int .i64 n198, .slice q199 l200 c201, .int .i64 n202, .int .i64 n203]) H (fun x e' H' => K x (clean e' ((⟨[3, 4, 6, 7, 8, 9, 10, 33, 34, 35, 47], [], []⟩ : Out).of x)) H') = color_Shift_p1_b k p192 p193 n194 n195 p196 n197 n198 q199 l200 c201 n202 n203 (fun p1042 p1043 n1044 n1045 p1046 n1047 n1048 q1049 l1050 c1051 n1052 n1053 t1054 => K .normal [(3, .pointer p1042), (4, .pointer p1043), (6, .int .i64 n1044), (7, .int .i64 n1045), (8, .pointer p1046), (9, .int .i64 n1047), (10, .int .i64 n1048), (33, .slice q1049 l1050 c1051), (34, .int .i64 n1052), (35, .int .i64 n1053), (47, .bool t1054)] H) := by kernel_rfl
theorem color_Shift_j1 {R : Type} (k : Nat) : JS Try.prog 59 (color_Shift_a1 R k k) [3, 4, 6, 7, 8, 9, 10, 33, 34, 35] ⟨[3, 4, 6, 7, 8, 9, 10, 33, 34, 35, 47], [], []⟩ (sel [1, 1, 1, 1, 1, 0, 1, 0, 0, 1, 1, 0, 0, 1, 0, 0] (Try.f24.body.getD .skip)) :=
  piece_ok (nt := 59) (c := (sel [1, 1, 1, 1, 1, 0, 1, 0, 0, 1, 1, 0, 0, 1, 0, 0] (Try.f24.body.getD .skip))) (C := color_Shift_C R k) (an := An) (t := (.reg [3, 4, 6, 7, 8, 9, 10, 33, 34, 35, 47] [])) (ic := color_Shift_i1) (color_Shift_S R k) (color_Shift_J R k) (by kernel_rfl) True.intro (color_Shift_a1 R k k)
    (fun vals H K r h => by
      unfold color_Shift_a1 color_Shift_aa1 at h
      split at h <;> first | (cases h; done) | exact Eq.trans (color_Shift_e1 plane_Valid color_deep color_Range color_offset (color_Shift_l0 k) (color_Shift_p1 k) k _ _ _ _ _ _ _ _ _ _ _ _ H K) h)
theorem color_Shift_e0 {R : Type} (plane_Valid : Int → Int → Int → Int → Option Addr → Nat → Nat → Heap → (Bool → Heap → Option R) → Option R) (color_deep : Int → (Bool → Option R) → Option R) (color_Range : Int → Bool → Int → Int → Heap → (Int → Int → Heap → Option R) → Option R) (color_offset : Int → Bool → Int → Int → Heap → (Int → Heap → Option R) → Option R) (color_Shift_l0 : (Option Addr → Option Addr → Heap → Option R) → (Option Addr → Int → Heap → Option R) → Nat → Option Addr → Option Addr → Int → Int → Option Addr → Option Addr → Nat → Nat → Int → Int → Heap → Option R) (color_Shift_p1 : Option Addr → Option Addr → Int → Int → Option Addr → Int → Int → Option Addr → Nat → Nat → Int → Int → (Option Addr → Option Addr → Int → Int → Option Addr → Int → Int → Option Addr → Nat → Nat → Int → Int → Bool → Option R) → Option R) (k n : Nat) (p180 : Option Addr) (p181 : Option Addr) (n182 : Int) (n183 : Int) (p184 : Option Addr) (q185 : Option Addr) (l186 : Nat) (c187 : Nat) (n188 : Int) (n189 : Int) (H : Heap) (K : Xit → Env → Heap → Option R) : evJ (color_Shift_Ct plane_Valid color_deep color_Range color_offset) (color_Shift_Jt k color_Shift_l0 color_Shift_p1) color_Shift_i0 (List.zip [3, 4, 6, 7, 8, 33, 34, 35] [.pointer p180, .pointer p181, .int .i64 n182, .int .i64 n183, .pointer p184, .slice q185 l186 c187, .int .i64 n188, .int .i64 n189]) H (fun x e' H' => match x with | .normal => color_Shift_aa0 color_Shift_l0 n ((clean e' [3, 4, 6, 7, 8, 33, 34, 35]).map (·.2)) H' K | x => K x (clean e' ((⟨[], [(0, [4, 8])], [4, 5]⟩ : Out).of x)) H') = color_Shift_l0_b color_Shift_p1 color_offset (color_Shift_l0 (fun p1038 p1039 H => K (.exit 0) [(4, .pointer p1038), (8, .pointer p1039)] H) (fun p1040 n1041 H => K .ret [(4, .pointer p1040), (5, .int .i64 n1041)] H) n) (fun p1038 p1039 H => K (.exit 0) [(4, .pointer p1038), (8, .pointer p1039)] H) (fun p1040 n1041 H => K .ret [(4, .pointer p1040), (5, .int .i64 n1041)] H) k p180 p181 n182 n183 p184 q185 l186 c187 n188 n189 H := by kernel_rfl
theorem color_Shift_j0 {R : Type} (k : Nat) : JS Try.prog 59 (color_Shift_a0 R k k) [3, 4, 6, 7, 8, 33, 34, 35] ⟨[], [(0, [4, 8])], [4, 5]⟩ (.loop (sel [1, 1, 1, 1, 1, 0, 1, 0, 0] (Try.f24.body.getD .skip))) :=
  loop_ok (nt := 59) (c := (sel [1, 1, 1, 1, 1, 0, 1, 0, 0] (Try.f24.body.getD .skip))) (C := color_Shift_C R k) (an := An) (t := (.seq (.reg [3, 4, 6, 7, 8, 33, 34, 35, 36] []) (.seq (.cond .leaf .leaf) (.seq (.node (.seq (.reg [3, 4, 6, 7, 8, 9, 10, 33, 34, 35] []) (.seq (.seq (.opq 1 [3, 4, 6, 7, 8, 9, 10, 33, 34, 35] ⟨[3, 4, 6, 7, 8, 9, 10, 33, 34, 35, 47], [], []⟩ (.reg [3, 4, 6, 7, 8, 9, 10, 33, 34, 35, 47] [])) (.cond (.seq (.reg [4, 5] []) .leaf) .leaf)) (.reg [3, 4, 6, 7, 8, 33, 34, 35] [[], [0], [], [], [], [4], [3, 4, 5], [0, 1, 2, 3, 4, 5, 6], [0, 1, 2, 3, 4, 5, 6, 7]])))) (.reg [3, 4, 6, 7, 8, 33, 34, 35] []))))) (ic := color_Shift_i0) (color_Shift_S R k) (color_Shift_J R k) (by kernel_rfl) (And.intro True.intro (And.intro (And.intro True.intro True.intro) (And.intro (And.intro True.intro (And.intro (And.intro (color_Shift_j1 k) (And.intro (And.intro True.intro True.intro) True.intro)) True.intro)) True.intro))) (color_Shift_a0 R k) (fun vals H K => by unfold color_Shift_a0 color_Shift_aa0; split <;> rfl)
    (fun n vals H K r h => by
      unfold color_Shift_a0 color_Shift_aa0 at h
      split at h <;> first | (cases h; done) | exact Eq.trans (color_Shift_e0 plane_Valid color_deep color_Range color_offset (color_Shift_l0 k) (color_Shift_p1 k) k n _ _ _ _ _ _ _ _ _ _ H K) h) k
def color_Shift_ca {R : Type} (f : Int → Int → Int → Int → Option Addr → Nat → Nat → Int → Bool → Int → Int → Heap → (Int → Int → Int → Int → Option Addr → Nat → Nat → Int → Heap → Option R) → Option R) (args : List Value) (H : Heap) (K : Value → Heap → Option R) : Option R :=
  match args with
  | [.agg ⟨[.int .i64 n108, .int .i64 n109, .int .i64 n110, .int .i64 n111, .slice q112 l113 c114]⟩, .agg ⟨[.int .i64 n115, .bool t116, .int .i64 n117, .int .i64 n118]⟩] => f n108 n109 n110 n111 q112 l113 c114 n115 t116 n117 n118 H (fun n1055 n1056 n1057 n1058 q1059 l1060 c1061 n1062 H => K (.tuple ⟨[.agg ⟨[.int .i64 n1055, .int .i64 n1056, .int .i64 n1057, .int .i64 n1058, .slice q1059 l1060 c1061]⟩, .int .i64 n1062]⟩) H)
  | _ => none
def color_Shift_c (R : Type) (k : Nat) (args : List Value) (H : Heap) (K : Value → Heap → Option R) : Option R := color_Shift_ca (color_Shift k) args H K
theorem color_Shift_e {R : Type} (plane_Valid : Int → Int → Int → Int → Option Addr → Nat → Nat → Heap → (Bool → Heap → Option R) → Option R) (color_deep : Int → (Bool → Option R) → Option R) (color_Range : Int → Bool → Int → Int → Heap → (Int → Int → Heap → Option R) → Option R) (color_offset : Int → Bool → Int → Int → Heap → (Int → Heap → Option R) → Option R) (color_Shift_l0 : (Option Addr → Option Addr → Heap → Option R) → (Option Addr → Int → Heap → Option R) → Nat → Option Addr → Option Addr → Int → Int → Option Addr → Option Addr → Nat → Nat → Int → Int → Heap → Option R) (color_Shift_p1 : Option Addr → Option Addr → Int → Int → Option Addr → Int → Int → Option Addr → Nat → Nat → Int → Int → (Option Addr → Option Addr → Int → Int → Option Addr → Int → Int → Option Addr → Nat → Nat → Int → Int → Bool → Option R) → Option R) (k : Nat) (n108 : Int) (n109 : Int) (n110 : Int) (n111 : Int) (q112 : Option Addr) (l113 : Nat) (c114 : Nat) (n115 : Int) (t116 : Bool) (n117 : Int) (n118 : Int) (H : Heap) (K : Value → Heap → Option R) : evF (color_Shift_Ct plane_Valid color_deep color_Range color_offset) (color_Shift_Jt k color_Shift_l0 color_Shift_p1) color_Shift_f [.agg ⟨[.int .i64 n108, .int .i64 n109, .int .i64 n110, .int .i64 n111, .slice q112 l113 c114]⟩, .agg ⟨[.int .i64 n115, .bool t116, .int .i64 n117, .int .i64 n118]⟩] H K = color_Shift_b plane_Valid color_deep color_Range color_Shift_l0 k n108 n109 n110 n111 q112 l113 c114 n115 t116 n117 n118 H (fun n1055 n1056 n1057 n1058 q1059 l1060 c1061 n1062 H => K (.tuple ⟨[.agg ⟨[.int .i64 n1055, .int .i64 n1056, .int .i64 n1057, .int .i64 n1058, .slice q1059 l1060 c1061]⟩, .int .i64 n1062]⟩) H) := by kernel_rfl
theorem color_Shift_cs (R : Type) (k : Nat) : ∀ args H K r, color_Shift_c R k args H K = some r → ∃ v H', Tri Try.prog 24 args H v H' ∧ K v H' = some r := by
  intro args H K r h
  unfold color_Shift_c color_Shift_ca at h
  split at h
  · exact evF_ok (C := color_Shift_C R k) (an := An) (t := color_Shift_at) (fn := Try.f24) (c := (Try.f24.body.getD .skip)) (ifn := color_Shift_f) (color_Shift_S R k) (color_Shift_J R k) Try.func24 (by kernel_rfl) (by kernel_rfl) (And.intro True.intro (And.intro (And.intro True.intro (And.intro (And.intro True.intro True.intro) True.intro)) (And.intro (And.intro True.intro (And.intro (And.intro True.intro True.intro) True.intro)) (And.intro True.intro (And.intro True.intro (And.intro (And.intro True.intro (color_Shift_j0 k)) (And.intro True.intro True.intro))))))) rfl (Eq.trans (color_Shift_e plane_Valid color_deep color_Range color_offset (color_Shift_l0 k) (color_Shift_p1 k) k _ _ _ _ _ _ _ _ _ _ _ H K) h)
  · cases h
/-! ### color_Unshift: function 27 -/
def color_Unshift_l0_b {R : Type} (rec : Option Addr → Int → Int → Int → Option Addr → Option Addr → Nat → Nat → Int → Int → Heap → Option R) (KE0 : Option Addr → Option Addr → Heap → Option R) (k : Nat) (p383 : Option Addr) (n384 : Int) (n385 : Int) (n386 : Int) (p387 : Option Addr) (q388 : Option Addr) (l389 : Nat) (c390 : Nat) (n391 : Int) (n392 : Int) (H : Heap) : Option R :=
bif decide (n392 < n391) then (hidx q388 l389 n392 1 fun p393 =>
ldI .i64 H p393 fun n394 =>
hfad 4 p387 fun p395 =>
ldL H p395 fun q396 l397 c398 =>
hidx q396 l397 n392 1 fun p399 =>
hst1 H p399 (.int .i64 (IntKind.wrap .i64 ((imn (imx n394 (IntKind.wrap .i64 (n384 - n386))) (IntKind.wrap .i64 (n385 - n386))) + n386))) fun H400 =>
rec p383 n384 n385 n386 p387 q388 l389 c390 n391 (IntKind.wrap .i64 (n392 + 1)) H400)
 else (KE0 p383 p387 H)
def color_Unshift_l0 {R : Type} (k : Nat) (KE0 : Option Addr → Option Addr → Heap → Option R) : Nat → Option Addr → Int → Int → Int → Option Addr → Option Addr → Nat → Nat → Int → Int → Heap → Option R
  | 0, _, _, _, _, _, _, _, _, _, _, _ => none
  | n + 1, p383, n384, n385, n386, p387, q388, l389, c390, n391, n392, H => color_Unshift_l0_b (color_Unshift_l0 k KE0 n) KE0 k p383 n384 n385 n386 p387 q388 l389 c390 n391 n392 H

def color_Unshift_b {R : Type} (plane_Valid : Int → Int → Int → Int → Option Addr → Nat → Nat → Heap → (Bool → Heap → Option R) → Option R) (color_deep : Int → (Bool → Option R) → Option R) (color_Range : Int → Bool → Int → Int → Heap → (Int → Int → Heap → Option R) → Option R) (color_offset : Int → Bool → Int → Int → Heap → (Int → Heap → Option R) → Option R) (color_Unshift_l0 : (Option Addr → Option Addr → Heap → Option R) → Nat → Option Addr → Int → Int → Int → Option Addr → Option Addr → Nat → Nat → Int → Int → Heap → Option R) (k : Nat) (n305 : Int) (n306 : Int) (n307 : Int) (n308 : Int) (q309 : Option Addr) (l310 : Nat) (c311 : Nat) (n312 : Int) (t313 : Bool) (n314 : Int) (n315 : Int) (H : Heap) (K : Int → Int → Int → Int → Option Addr → Nat → Nat → Int → Heap → Option R) : Option R :=
hal H [.int .i64 n305, .int .i64 n306, .int .i64 n307, .int .i64 n308, .slice q309 l310 c311] fun p316 H317 =>
hal H317 [.int .i64 n312, .bool t313, .int .i64 n314, .int .i64 n315] fun p318 H319 =>
hal H319 [.int .i64 0, .int .i64 0, .int .i64 0, .int .i64 0, .slice none 0 0] fun p320 H321 =>
ldI .i64 H321 (pad p316 0) fun n322 =>
ldI .i64 H321 (pad p316 1) fun n323 =>
ldI .i64 H321 (pad p316 2) fun n324 =>
ldI .i64 H321 (pad p316 3) fun n325 =>
ldL H321 (pad p316 4) fun q326 l327 c328 =>
plane_Valid n322 n323 n324 n325 q326 l327 c328 H321 fun t329 H330 =>
bif (!t329) then (hst H330 p320 [.int .i64 0, .int .i64 0, .int .i64 0, .int .i64 0, .slice none 0 0] fun H331 =>
ldI .i64 H331 (pad p320 0) fun n332 =>
ldI .i64 H331 (pad p320 1) fun n333 =>
ldI .i64 H331 (pad p320 2) fun n334 =>
ldI .i64 H331 (pad p320 3) fun n335 =>
ldL H331 (pad p320 4) fun q336 l337 c338 =>
K n332 n333 n334 n335 q336 l337 c338 1 H331)
 else (hfad 0 p318 fun p339 =>
ldI .i64 H330 p339 fun n340 =>
color_deep n340 fun t341 =>
bif (!t341) then (hst H330 p320 [.int .i64 0, .int .i64 0, .int .i64 0, .int .i64 0, .slice none 0 0] fun H342 =>
ldI .i64 H342 (pad p320 0) fun n343 =>
ldI .i64 H342 (pad p320 1) fun n344 =>
ldI .i64 H342 (pad p320 2) fun n345 =>
ldI .i64 H342 (pad p320 3) fun n346 =>
ldL H342 (pad p320 4) fun q347 l348 c349 =>
K n343 n344 n345 n346 q347 l348 c349 12 H342)
 else (ldI .i64 H330 (pad p318 0) fun n350 =>
ldB H330 (pad p318 1) fun t351 =>
ldI .i64 H330 (pad p318 2) fun n352 =>
ldI .i64 H330 (pad p318 3) fun n353 =>
color_Range n350 t351 n352 n353 H330 fun n354 n355 H356 =>
ldI .i64 H356 (pad p318 0) fun n357 =>
ldB H356 (pad p318 1) fun t358 =>
ldI .i64 H356 (pad p318 2) fun n359 =>
ldI .i64 H356 (pad p318 3) fun n360 =>
color_offset n357 t358 n359 n360 H356 fun n361 H362 =>
hfad 0 p316 fun p363 =>
ldI .i64 H362 (pad p363 0) fun n364 =>
ldI .i64 H362 (pad p363 1) fun n365 =>
ldI .i64 H362 (pad p363 2) fun n366 =>
ldI .i64 H362 (pad p363 3) fun n367 =>
hfad 4 p316 fun p368 =>
ldL H362 p368 fun q369 l370 c371 =>
hmk [.int .i64 0] 8 H362 ((l370 : Nat) : Int) ((l370 : Nat) : Int) fun q372 l373 c374 H375 =>
hal H375 [.int .i64 0, .int .i64 0, .int .i64 0, .int .i64 0, .slice none 0 0] fun p376 H377 =>
hst H377 p376 [.int .i64 n364, .int .i64 n365, .int .i64 n366, .int .i64 n367, .slice q372 l373 c374] fun H378 =>
hfad 4 p316 fun p379 =>
ldL H378 p379 fun q380 l381 c382 =>
color_Unshift_l0 (fun p403 p404 H405 =>
ldI .i64 H405 (pad p404 0) fun n406 =>
ldI .i64 H405 (pad p404 1) fun n407 =>
ldI .i64 H405 (pad p404 2) fun n408 =>
ldI .i64 H405 (pad p404 3) fun n409 =>
ldL H405 (pad p404 4) fun q410 l411 c412 =>
hst H405 p403 [.int .i64 n406, .int .i64 n407, .int .i64 n408, .int .i64 n409, .slice q410 l411 c412] fun H413 =>
ldI .i64 H413 (pad p403 0) fun n414 =>
ldI .i64 H413 (pad p403 1) fun n415 =>
ldI .i64 H413 (pad p403 2) fun n416 =>
ldI .i64 H413 (pad p403 3) fun n417 =>
ldL H413 (pad p403 4) fun q418 l419 c420 =>
K n414 n415 n416 n417 q418 l419 c420 0 H413) k p320 n354 n355 n361 p376 q380 l381 c382 ((l381 : Nat) : Int) 0 H378))

def color_Unshift {R : Type} (k : Nat) (n305 : Int) (n306 : Int) (n307 : Int) (n308 : Int) (q309 : Option Addr) (l310 : Nat) (c311 : Nat) (n312 : Int) (t313 : Bool) (n314 : Int) (n315 : Int) (H : Heap) (K : Int → Int → Int → Int → Option Addr → Nat → Nat → Int → Heap → Option R) : Option R := color_Unshift_b plane_Valid color_deep color_Range color_offset (color_Unshift_l0 k) k n305 n306 n307 n308 q309 l310 c311 n312 t313 n314 n315 H K

def color_Unshift_Ct {R : Type} (plane_Valid : Int → Int → Int → Int → Option Addr → Nat → Nat → Heap → (Bool → Heap → Option R) → Option R) (color_deep : Int → (Bool → Option R) → Option R) (color_Range : Int → Bool → Int → Int → Heap → (Int → Int → Heap → Option R) → Option R) (color_offset : Int → Bool → Int → Int → Heap → (Int → Heap → Option R) → Option R) : Tab R := tcons 44 (plane_Valid_ca plane_Valid) <| tcons 42 (color_deep_ca color_deep) <| tcons 22 (color_Range_ca color_Range) <| tcons 45 (color_offset_ca color_offset) <| fun _ _ _ _ => none
def color_Unshift_C (R : Type) (k : Nat) : Tab R := color_Unshift_Ct plane_Valid color_deep color_Range color_offset
theorem color_Unshift_S (R : Type) (k : Nat) : CSound Try.prog (color_Unshift_C R k) := csound_cons (plane_Valid_cs R k) <| csound_cons (color_deep_cs R k) <| csound_cons (color_Range_cs R k) <| csound_cons (color_offset_cs R k) <| csound_nil
def color_Unshift_aa0 {R : Type} (f : (Option Addr → Option Addr → Heap → Option R) → Nat → Option Addr → Int → Int → Int → Option Addr → Option Addr → Nat → Nat → Int → Int → Heap → Option R) (n : Nat) (vals : List Value) (H : Heap) (K : Xit → Env → Heap → Option R) : Option R :=
  match vals with
  | [.pointer p383, .int .i64 n384, .int .i64 n385, .int .i64 n386, .pointer p387, .slice q388 l389 c390, .int .i64 n391, .int .i64 n392] => f (fun p1063 p1064 H => K (.exit 0) [(4, .pointer p1063), (9, .pointer p1064)] H) n p383 n384 n385 n386 p387 q388 l389 c390 n391 n392 H
  | _ => none
def color_Unshift_a0 (R : Type) (k n : Nat) (vals : List Value) (H : Heap) (K : Xit → Env → Heap → Option R) : Option R := color_Unshift_aa0 (color_Unshift_l0 k) n vals H K
def color_Unshift_Jt {R : Type} (k : Nat) (color_Unshift_l0 : (Option Addr → Option Addr → Heap → Option R) → Nat → Option Addr → Int → Int → Int → Option Addr → Option Addr → Nat → Nat → Int → Int → Heap → Option R) : JTab R := tcons 0 (color_Unshift_aa0 color_Unshift_l0 k) <| fun _ _ _ _ => none
def color_Unshift_J (R : Type) (k : Nat) : JTab R := color_Unshift_Jt k (color_Unshift_l0 k)
def color_Unshift_at : AT := (.seq (.reg [2, 3, 4] []) (.seq (.seq (.reg [2, 3, 4, 14] []) (.cond (.seq (.reg [4, 5] []) .leaf) .leaf)) (.seq (.seq (.reg [2, 3, 4, 19] []) (.cond (.seq (.reg [4, 5] []) .leaf) .leaf)) (.seq (.reg [2, 3, 4, 6, 7] []) (.seq (.reg [2, 4, 6, 7, 8] []) (.seq (.reg [2, 4, 6, 7, 8, 9] [[], [0], [], [2], [2, 3], [2, 3, 4], [0, 1, 2, 3, 4, 5], [], [0, 1, 2, 3, 4, 5, 6, 7]]) (.seq (.seq (.reg [4, 6, 7, 8, 9, 36, 37, 38] []) (.node (.opq 0 [4, 6, 7, 8, 9, 36, 37, 38] ⟨[], [(0, [4, 9])], []⟩ (.node (.seq (.reg [4, 6, 7, 8, 9, 36, 37, 38, 39] []) (.seq (.cond .leaf .leaf) (.seq (.node (.seq (.reg [4, 6, 7, 8, 9, 10, 11, 36, 37, 38] []) (.reg [4, 6, 7, 8, 9, 36, 37, 38] []))) (.reg [4, 6, 7, 8, 9, 36, 37, 38] [])))))))) (.seq (.reg [4, 5] []) .leaf))))))))
def color_Unshift_i0 : IC := (.seq (.reg [⟨some 39, .cmp .lss (.t 38) (.t 37), none⟩] [4, 6, 7, 8, 9, 36, 37, 38, 39]) (.seq (.cond (.t 39) .skip (.exit 0)) (.seq (.block 1 (.seq (.reg [⟨some 40, .mov (.t 38), none⟩,
 ⟨some 41, .ids 1 (.t 36) (.t 38), none⟩,
 ⟨some 42, .ld (.sc (.int .i64)) (.t 41), none⟩,
 ⟨some 10, .mov (.t 40), none⟩,
 ⟨some 11, .mov (.t 42), none⟩] [4, 6, 7, 8, 9, 10, 11, 36, 37, 38]) (.reg [⟨some 43, .fad 4 (.t 9), none⟩,
 ⟨some 44, .ld (.sc .slc) (.t 43), none⟩,
 ⟨some 45, .mov (.t 10), none⟩,
 ⟨some 46, .mov (.t 11), none⟩,
 ⟨some 47, .mov (.t 6), none⟩,
 ⟨some 48, .mov (.t 8), none⟩,
 ⟨some 49, .bin .sub .i64 (.t 47) (.t 48), none⟩,
 ⟨some 50, .mx (.t 46) (.t 49), none⟩,
 ⟨some 51, .mov (.t 7), none⟩,
 ⟨some 52, .mov (.t 8), none⟩,
 ⟨some 53, .bin .sub .i64 (.t 51) (.t 52), none⟩,
 ⟨some 54, .mn (.t 50) (.t 53), none⟩,
 ⟨some 55, .mov (.t 8), none⟩,
 ⟨some 56, .bin .add .i64 (.t 54) (.t 55), none⟩,
 ⟨some 57, .ids 1 (.t 44) (.t 45), none⟩,
 ⟨none, .st 1 (.t 57) (.t 56), none⟩] [4, 6, 7, 8, 9, 36, 37, 38]))) (.reg [⟨some 58, .bin .add .i64 (.t 38) (.c (Go.Value.int Go.IntKind.i64 1)), none⟩,
 ⟨some 38, .mov (.t 58), none⟩] [4, 6, 7, 8, 9, 36, 37, 38]))))
def color_Unshift_f : IFn := ⟨60, [.cell 4 (.agg [(.int .i64), (.int .i64), (.int .i64), (.int .i64), .slc]), .t 5], (.seq (.reg [⟨some 2, .box (.t 0), none⟩,
 ⟨some 3, .box (.t 1), none⟩,
 ⟨some 4, .alc [.int .i64 0, .int .i64 0, .int .i64 0, .int .i64 0, .slice none 0 0], none⟩,
 ⟨some 5, .mov (.c (Go.Value.int Go.IntKind.i64 0)), none⟩] [2, 3, 4]) (.seq (.seq (.reg [⟨some 12, .ld (.agg [(.int .i64), (.int .i64), (.int .i64), (.int .i64), .slc]) (.t 2), none⟩,
 ⟨some 13, .call 44 [(.t 12)] (.one (.sc .bool)), none⟩,
 ⟨some 14, .lnot (.t 13), none⟩] [2, 3, 4, 14]) (.cond (.t 14) (.seq (.reg [⟨some 15, .bld [.int .i64 0, .int .i64 0, .int .i64 0, .int .i64 0, .slice none 0 0] [], none⟩,
 ⟨none, .st 5 (.t 4) (.t 15), none⟩,
 ⟨some 5, .mov (.c (Go.Value.int Go.IntKind.i64 1)), none⟩] [4, 5]) .ret) .skip)) (.seq (.seq (.reg [⟨some 16, .fad 0 (.t 3), none⟩,
 ⟨some 17, .ld (.sc (.int .i64)) (.t 16), none⟩,
 ⟨some 18, .call 42 [(.t 17)] (.one (.sc .bool)), none⟩,
 ⟨some 19, .lnot (.t 18), none⟩] [2, 3, 4, 19]) (.cond (.t 19) (.seq (.reg [⟨some 20, .bld [.int .i64 0, .int .i64 0, .int .i64 0, .int .i64 0, .slice none 0 0] [], none⟩,
 ⟨none, .st 5 (.t 4) (.t 20), none⟩,
 ⟨some 5, .mov (.c (Go.Value.int Go.IntKind.i64 12)), none⟩] [4, 5]) .ret) .skip)) (.seq (.reg [⟨some 22, .ld (.agg [(.int .i64), .bool, (.int .i64), (.int .i64)]) (.t 3), none⟩,
 ⟨some 23, .call 22 [(.t 22)] (.tup [(.sc (.int .i64)), (.sc (.int .i64))]), none⟩,
 ⟨some 21, .mov (.t 23), none⟩,
 ⟨some 24, .ext 0 (.t 21), none⟩,
 ⟨some 25, .ext 1 (.t 21), none⟩,
 ⟨some 6, .mov (.t 24), none⟩,
 ⟨some 7, .mov (.t 25), none⟩] [2, 3, 4, 6, 7]) (.seq (.reg [⟨some 26, .ld (.agg [(.int .i64), .bool, (.int .i64), (.int .i64)]) (.t 3), none⟩,
 ⟨some 27, .call 45 [(.t 26)] (.one (.sc (.int .i64))), none⟩,
 ⟨some 8, .mov (.t 27), none⟩] [2, 4, 6, 7, 8]) (.seq (.reg [⟨some 28, .fad 0 (.t 2), none⟩,
 ⟨some 29, .ld (.agg [(.int .i64), (.int .i64), (.int .i64), (.int .i64)]) (.t 28), none⟩,
 ⟨some 30, .fad 4 (.t 2), none⟩,
 ⟨some 31, .ld (.sc .slc) (.t 30), none⟩,
 ⟨some 32, .len false (.t 31), none⟩,
 ⟨some 33, .mks [.int .i64 0] 8 (.t 32) (.t 32), none⟩,
 ⟨some 34, .bld [.int .i64 0, .int .i64 0, .int .i64 0, .int .i64 0, .slice none 0 0] [(0, 4, (.t 29)), (4, 1, (.t 33))], none⟩,
 ⟨some 9, .alc [.int .i64 0, .int .i64 0, .int .i64 0, .int .i64 0, .slice none 0 0], none⟩,
 ⟨none, .st 5 (.t 9) (.t 34), none⟩] [2, 4, 6, 7, 8, 9]) (.seq (.seq (.reg [⟨some 35, .fad 4 (.t 2), none⟩,
 ⟨some 36, .ld (.sc .slc) (.t 35), none⟩,
 ⟨some 37, .len false (.t 36), none⟩,
 ⟨some 38, .mov (.c (Go.Value.int Go.IntKind.i64 0)), none⟩] [4, 6, 7, 8, 9, 36, 37, 38]) (.block 0 (.opq 0 [4, 6, 7, 8, 9, 36, 37, 38] (.loop color_Unshift_i0)))) (.seq (.reg [⟨some 59, .ld (.agg [(.int .i64), (.int .i64), (.int .i64), (.int .i64), .slc]) (.t 9), none⟩,
 ⟨none, .st 5 (.t 4) (.t 59), none⟩,
 ⟨some 5, .mov (.c (Go.Value.int Go.IntKind.i64 0)), none⟩] [4, 5]) .ret))))))))⟩
theorem color_Unshift_e0 {R : Type} (plane_Valid : Int → Int → Int → Int → Option Addr → Nat → Nat → Heap → (Bool → Heap → Option R) → Option R) (color_deep : Int → (Bool → Option R) → Option R) (color_Range : Int → Bool → Int → Int → Heap → (Int → Int → Heap → Option R) → Option R) (color_offset : Int → Bool → Int → Int → Heap → (Int → Heap → Option R) → Option R) (color_Unshift_l0 : (Option Addr → Option Addr → Heap → Option R) → Nat → Option Addr → Int → Int → Int → Option Addr → Option Addr → Nat → Nat → Int → Int → Heap → Option R) (k n : Nat) (p383 : Option Addr) (n384 : Int) (n385 : Int) (n386 : Int) (p387 : Option Addr) (q388 : Option Addr) (l389 : Nat) (c390 : Nat) (n391 : Int) (n392 : Int) (H : Heap) (K : Xit → Env → Heap → Option R) : evJ (color_Unshift_Ct plane_Valid color_deep color_Range color_offset) (color_Unshift_Jt k color_Unshift_l0) color_Unshift_i0 (List.zip [4, 6, 7, 8, 9, 36, 37, 38] [.pointer p383, .int .i64 n384, .int .i64 n385, .int .i64 n386, .pointer p387, .slice q388 l389 c390, .int .i64 n391, .int .i64 n392]) H (fun x e' H' => match x with | .normal => color_Unshift_aa0 color_Unshift_l0 n ((clean e' [4, 6, 7, 8, 9, 36, 37, 38]).map (·.2)) H' K | x => K x (clean e' ((⟨[], [(0, [4, 9])], []⟩ : Out).of x)) H') = color_Unshift_l0_b (color_Unshift_l0 (fun p1063 p1064 H => K (.exit 0) [(4, .pointer p1063), (9, .pointer p1064)] H) n) (fun p1063 p1064 H => K (.exit 0) [(4, .pointer p1063), (9, .pointer p1064)] H) k p383 n384 n385 n386 p387 q388 l389 c390 n391 n392 H := by kernel_rfl
theorem color_Unshift_j0 {R : Type} (k : Nat) : JS Try.prog 60 (color_Unshift_a0 R k k) [4, 6, 7, 8, 9, 36, 37, 38] ⟨[], [(0, [4, 9])], []⟩ (.loop (sel [1, 1, 1, 1, 1, 1, 0, 1, 0, 0] (Try.f27.body.getD .skip))) :=
  loop_ok (nt := 60) (c := (sel [1, 1, 1, 1, 1, 1, 0, 1, 0, 0] (Try.f27.body.getD .skip))) (C := color_Unshift_C R k) (an := An) (t := (.seq (.reg [4, 6, 7, 8, 9, 36, 37, 38, 39] []) (.seq (.cond .leaf .leaf) (.seq (.node (.seq (.reg [4, 6, 7, 8, 9, 10, 11, 36, 37, 38] []) (.reg [4, 6, 7, 8, 9, 36, 37, 38] []))) (.reg [4, 6, 7, 8, 9, 36, 37, 38] []))))) (ic := color_Unshift_i0) (color_Unshift_S R k) (color_Unshift_J R k) (by kernel_rfl) (And.intro True.intro (And.intro (And.intro True.intro True.intro) (And.intro (And.intro True.intro True.intro) True.intro))) (color_Unshift_a0 R k) (fun vals H K => by unfold color_Unshift_a0 color_Unshift_aa0; split <;> rfl)
    (fun n vals H K r h => by
      unfold color_Unshift_a0 color_Unshift_aa0 at h
      split at h <;> first | (cases h; done) | exact Eq.trans (color_Unshift_e0 plane_Valid color_deep color_Range color_offset (color_Unshift_l0 k) k n _ _ _ _ _ _ _ _ _ _ H K) h) k
def color_Unshift_ca {R : Type} (f : Int → Int → Int → Int → Option Addr → Nat → Nat → Int → Bool → Int → Int → Heap → (Int → Int → Int → Int → Option Addr → Nat → Nat → Int → Heap → Option R) → Option R) (args : List Value) (H : Heap) (K : Value → Heap → Option R) : Option R :=
  match args with
  | [.agg ⟨[.int .i64 n305, .int .i64 n306, .int .i64 n307, .int .i64 n308, .slice q309 l310 c311]⟩, .agg ⟨[.int .i64 n312, .bool t313, .int .i64 n314, .int .i64 n315]⟩] => f n305 n306 n307 n308 q309 l310 c311 n312 t313 n314 n315 H (fun n1065 n1066 n1067 n1068 q1069 l1070 c1071 n1072 H => K (.tuple ⟨[.agg ⟨[.int .i64 n1065, .int .i64 n1066, .int .i64 n1067, .int .i64 n1068, .slice q1069 l1070 c1071]⟩, .int .i64 n1072]⟩) H)
  | _ => none
def color_Unshift_c (R : Type) (k : Nat) (args : List Value) (H : Heap) (K : Value → Heap → Option R) : Option R := color_Unshift_ca (color_Unshift k) args H K
theorem color_Unshift_e {R : Type} (plane_Valid : Int → Int → Int → Int → Option Addr → Nat → Nat → Heap → (Bool → Heap → Option R) → Option R) (color_deep : Int → (Bool → Option R) → Option R) (color_Range : Int → Bool → Int → Int → Heap → (Int → Int → Heap → Option R) → Option R) (color_offset : Int → Bool → Int → Int → Heap → (Int → Heap → Option R) → Option R) (color_Unshift_l0 : (Option Addr → Option Addr → Heap → Option R) → Nat → Option Addr → Int → Int → Int → Option Addr → Option Addr → Nat → Nat → Int → Int → Heap → Option R) (k : Nat) (n305 : Int) (n306 : Int) (n307 : Int) (n308 : Int) (q309 : Option Addr) (l310 : Nat) (c311 : Nat) (n312 : Int) (t313 : Bool) (n314 : Int) (n315 : Int) (H : Heap) (K : Value → Heap → Option R) : evF (color_Unshift_Ct plane_Valid color_deep color_Range color_offset) (color_Unshift_Jt k color_Unshift_l0) color_Unshift_f [.agg ⟨[.int .i64 n305, .int .i64 n306, .int .i64 n307, .int .i64 n308, .slice q309 l310 c311]⟩, .agg ⟨[.int .i64 n312, .bool t313, .int .i64 n314, .int .i64 n315]⟩] H K = color_Unshift_b plane_Valid color_deep color_Range color_offset color_Unshift_l0 k n305 n306 n307 n308 q309 l310 c311 n312 t313 n314 n315 H (fun n1065 n1066 n1067 n1068 q1069 l1070 c1071 n1072 H => K (.tuple ⟨[.agg ⟨[.int .i64 n1065, .int .i64 n1066, .int .i64 n1067, .int .i64 n1068, .slice q1069 l1070 c1071]⟩, .int .i64 n1072]⟩) H) := by kernel_rfl
theorem color_Unshift_cs (R : Type) (k : Nat) : ∀ args H K r, color_Unshift_c R k args H K = some r → ∃ v H', Tri Try.prog 27 args H v H' ∧ K v H' = some r := by
  intro args H K r h
  unfold color_Unshift_c color_Unshift_ca at h
  split at h
  · exact evF_ok (C := color_Unshift_C R k) (an := An) (t := color_Unshift_at) (fn := Try.f27) (c := (Try.f27.body.getD .skip)) (ifn := color_Unshift_f) (color_Unshift_S R k) (color_Unshift_J R k) Try.func27 (by kernel_rfl) (by kernel_rfl) (And.intro True.intro (And.intro (And.intro True.intro (And.intro (And.intro True.intro True.intro) True.intro)) (And.intro (And.intro True.intro (And.intro (And.intro True.intro True.intro) True.intro)) (And.intro True.intro (And.intro True.intro (And.intro True.intro (And.intro (And.intro True.intro (color_Unshift_j0 k)) (And.intro True.intro True.intro)))))))) rfl (Eq.trans (color_Unshift_e plane_Valid color_deep color_Range color_offset (color_Unshift_l0 k) k _ _ _ _ _ _ _ _ _ _ _ H K) h)
  · cases h
/-! ### R02_SameInts: function 34 -/
def R02_SameInts_l0_b {R : Type} (rec : Option Addr → Nat → Nat → Option Addr → Nat → Nat → Int → Heap → Option R) (KE0 : Unit → Option R) (KR : Bool → Option R) (k : Nat) (q480 : Option Addr) (l481 : Nat) (c482 : Nat) (q483 : Option Addr) (l484 : Nat) (c485 : Nat) (n486 : Int) (H : Heap) : Option R :=
bif decide (n486 < ((l481 : Nat) : Int)) then (hidx q480 l481 n486 1 fun p487 =>
ldI .i64 H p487 fun n488 =>
hidx q483 l484 n486 1 fun p489 =>
ldI .i64 H p489 fun n490 =>
bif (n488 != n490) then (KR false)
 else (rec q480 l481 c482 q483 l484 c485 (IntKind.wrap .i64 (n486 + 1)) H))
 else (KE0 ())
def R02_SameInts_l0 {R : Type} (k : Nat) (KE0 : Unit → Option R) (KR : Bool → Option R) : Nat → Option Addr → Nat → Nat → Option Addr → Nat → Nat → Int → Heap → Option R
  | 0, _, _, _, _, _, _, _, _ => none
  | n + 1, q480, l481, c482, q483, l484, c485, n486, H => R02_SameInts_l0_b (R02_SameInts_l0 k KE0 KR n) KE0 KR k q480 l481 c482 q483 l484 c485 n486 H

def R02_SameInts_b {R : Type} (R02_SameInts_l0 : (Unit → Option R) → (Bool → Option R) → Nat → Option Addr → Nat → Nat → Option Addr → Nat → Nat → Int → Heap → Option R) (k : Nat) (q474 : Option Addr) (l475 : Nat) (c476 : Nat) (q477 : Option Addr) (l478 : Nat) (c479 : Nat) (H : Heap) (K : Bool → Option R) : Option R :=
bif (((l475 : Nat) : Int) != ((l478 : Nat) : Int)) then (K false)
 else (R02_SameInts_l0 (fun (_ : Unit) =>
K true) (fun t492 =>
K t492) k q474 l475 c476 q477 l478 c479 0 H)

def R02_SameInts {R : Type} (k : Nat) (q474 : Option Addr) (l475 : Nat) (c476 : Nat) (q477 : Option Addr) (l478 : Nat) (c479 : Nat) (H : Heap) (K : Bool → Option R) : Option R := R02_SameInts_b (R02_SameInts_l0 k) k q474 l475 c476 q477 l478 c479 H K

def R02_SameInts_Ct {R : Type} : Tab R := fun _ _ _ _ => none
def R02_SameInts_C (R : Type) (k : Nat) : Tab R := R02_SameInts_Ct
theorem R02_SameInts_S (R : Type) (k : Nat) : CSound Try.prog (R02_SameInts_C R k) := csound_nil
def R02_SameInts_aa0 {R : Type} (f : (Unit → Option R) → (Bool → Option R) → Nat → Option Addr → Nat → Nat → Option Addr → Nat → Nat → Int → Heap → Option R) (n : Nat) (vals : List Value) (H : Heap) (K : Xit → Env → Heap → Option R) : Option R :=
  match vals with
  | [.slice q480 l481 c482, .slice q483 l484 c485, .int .i64 n486] => f (fun _ => K (.exit 0) [] H) (fun t1073 => K .ret [(4, .bool t1073)] H) n q480 l481 c482 q483 l484 c485 n486 H
  | _ => none
def R02_SameInts_a0 (R : Type) (k n : Nat) (vals : List Value) (H : Heap) (K : Xit → Env → Heap → Option R) : Option R := R02_SameInts_aa0 (R02_SameInts_l0 k) n vals H K
def R02_SameInts_Jt {R : Type} (k : Nat) (R02_SameInts_l0 : (Unit → Option R) → (Bool → Option R) → Nat → Option Addr → Nat → Nat → Option Addr → Nat → Nat → Int → Heap → Option R) : JTab R := tcons 0 (R02_SameInts_aa0 R02_SameInts_l0 k) <| fun _ _ _ _ => none
def R02_SameInts_J (R : Type) (k : Nat) : JTab R := R02_SameInts_Jt k (R02_SameInts_l0 k)
def R02_SameInts_at : AT := (.seq (.reg [0, 1] []) (.seq (.seq (.reg [0, 1, 10] []) (.cond (.seq (.reg [4] []) .leaf) .leaf)) (.seq (.seq (.reg [0, 1, 5] []) (.node (.opq 0 [0, 1, 5] ⟨[], [(0, [])], [4]⟩ (.node (.seq (.seq (.reg [0, 1, 5, 14] []) (.cond .leaf .leaf)) (.seq (.node (.seq (.reg [0, 1, 5, 25] [[], [], [0, 1], [0, 1, 2], [], [], [4, 5], [4, 5, 6], [0, 1, 2, 3, 4, 5, 6, 7]]) (.cond (.seq (.reg [4] []) .leaf) .leaf))) (.reg [0, 1, 5] []))))))) (.seq (.reg [4] []) .leaf))))
def R02_SameInts_i0 : IC := (.seq (.seq (.reg [⟨some 11, .mov (.t 5), none⟩,
 ⟨some 12, .mov (.t 0), none⟩,
 ⟨some 13, .len false (.t 12), none⟩,
 ⟨some 14, .cmp .lss (.t 11) (.t 13), none⟩] [0, 1, 5, 14]) (.cond (.t 14) .skip (.exit 0))) (.seq (.block 1 (.seq (.reg [⟨some 17, .mov (.t 0), none⟩,
 ⟨some 18, .mov (.t 5), none⟩,
 ⟨some 19, .ids 1 (.t 17) (.t 18), none⟩,
 ⟨some 20, .ld (.sc (.int .i64)) (.t 19), none⟩,
 ⟨some 21, .mov (.t 1), none⟩,
 ⟨some 22, .mov (.t 5), none⟩,
 ⟨some 23, .ids 1 (.t 21) (.t 22), none⟩,
 ⟨some 24, .ld (.sc (.int .i64)) (.t 23), none⟩,
 ⟨some 25, .cmp .neq (.t 20) (.t 24), none⟩] [0, 1, 5, 25]) (.cond (.t 25) (.seq (.reg [⟨some 4, .mov (.c (Go.Value.bool false)), none⟩] [4]) .ret) .skip))) (.reg [⟨some 15, .mov (.t 5), none⟩,
 ⟨some 16, .bin .add .i64 (.t 15) (.c (Go.Value.int Go.IntKind.i64 1)), none⟩,
 ⟨some 5, .mov (.t 16), none⟩] [0, 1, 5])))
def R02_SameInts_f : IFn := ⟨26, [.t 4], (.seq (.reg [⟨some 4, .mov (.c (Go.Value.bool false)), none⟩] [0, 1]) (.seq (.seq (.reg [⟨some 6, .mov (.t 0), none⟩,
 ⟨some 7, .len false (.t 6), none⟩,
 ⟨some 8, .mov (.t 1), none⟩,
 ⟨some 9, .len false (.t 8), none⟩,
 ⟨some 10, .cmp .neq (.t 7) (.t 9), none⟩] [0, 1, 10]) (.cond (.t 10) (.seq (.reg [⟨some 4, .mov (.c (Go.Value.bool false)), none⟩] [4]) .ret) .skip)) (.seq (.seq (.reg [⟨some 5, .mov (.c (Go.Value.int Go.IntKind.i64 0)), none⟩] [0, 1, 5]) (.block 0 (.opq 0 [0, 1, 5] (.loop R02_SameInts_i0)))) (.seq (.reg [⟨some 4, .mov (.c (Go.Value.bool true)), none⟩] [4]) .ret))))⟩
theorem R02_SameInts_e0 {R : Type} (R02_SameInts_l0 : (Unit → Option R) → (Bool → Option R) → Nat → Option Addr → Nat → Nat → Option Addr → Nat → Nat → Int → Heap → Option R) (k n : Nat) (q480 : Option Addr) (l481 : Nat) (c482 : Nat) (q483 : Option Addr) (l484 : Nat) (c485 : Nat) (n486 : Int) (H : Heap) (K : Xit → Env → Heap → Option R) : evJ (R02_SameInts_Ct) (R02_SameInts_Jt k R02_SameInts_l0) R02_SameInts_i0 (List.zip [0, 1, 5] [.slice q480 l481 c482, .slice q483 l484 c485, .int .i64 n486]) H (fun x e' H' => match x with | .normal => R02_SameInts_aa0 R02_SameInts_l0 n ((clean e' [0, 1, 5]).map (·.2)) H' K | x => K x (clean e' ((⟨[], [(0, [])], [4]⟩ : Out).of x)) H') = R02_SameInts_l0_b (R02_SameInts_l0 (fun _ => K (.exit 0) [] H) (fun t1073 => K .ret [(4, .bool t1073)] H) n) (fun _ => K (.exit 0) [] H) (fun t1073 => K .ret [(4, .bool t1073)] H) k q480 l481 c482 q483 l484 c485 n486 H := by kernel_rfl
theorem R02_SameInts_j0 {R : Type} (k : Nat) : JS Try.prog 26 (R02_SameInts_a0 R k k) [0, 1, 5] ⟨[], [(0, [])], [4]⟩ (.loop (sel [1, 1, 0, 1, 0, 0] (Try.f34.body.getD .skip))) :=
  loop_ok (nt := 26) (c := (sel [1, 1, 0, 1, 0, 0] (Try.f34.body.getD .skip))) (C := R02_SameInts_C R k) (an := An) (t := (.seq (.seq (.reg [0, 1, 5, 14] []) (.cond .leaf .leaf)) (.seq (.node (.seq (.reg [0, 1, 5, 25] [[], [], [0, 1], [0, 1, 2], [], [], [4, 5], [4, 5, 6], [0, 1, 2, 3, 4, 5, 6, 7]]) (.cond (.seq (.reg [4] []) .leaf) .leaf))) (.reg [0, 1, 5] [])))) (ic := R02_SameInts_i0) (R02_SameInts_S R k) (R02_SameInts_J R k) (by kernel_rfl) (And.intro (And.intro True.intro (And.intro True.intro True.intro)) (And.intro (And.intro True.intro (And.intro (And.intro True.intro True.intro) True.intro)) True.intro)) (R02_SameInts_a0 R k) (fun vals H K => by unfold R02_SameInts_a0 R02_SameInts_aa0; split <;> rfl)
    (fun n vals H K r h => by
      unfold R02_SameInts_a0 R02_SameInts_aa0 at h
      split at h <;> first | (cases h; done) | exact Eq.trans (R02_SameInts_e0 (R02_SameInts_l0 k) k n _ _ _ _ _ _ _ H K) h) k
def R02_SameInts_ca {R : Type} (f : Option Addr → Nat → Nat → Option Addr → Nat → Nat → Heap → (Bool → Option R) → Option R) (args : List Value) (H : Heap) (K : Value → Heap → Option R) : Option R :=
  match args with
  | [.slice q474 l475 c476, .slice q477 l478 c479] => f q474 l475 c476 q477 l478 c479 H (fun t1074 => K (.bool t1074) H)
  | _ => none
def R02_SameInts_c (R : Type) (k : Nat) (args : List Value) (H : Heap) (K : Value → Heap → Option R) : Option R := R02_SameInts_ca (R02_SameInts k) args H K
theorem R02_SameInts_e {R : Type} (R02_SameInts_l0 : (Unit → Option R) → (Bool → Option R) → Nat → Option Addr → Nat → Nat → Option Addr → Nat → Nat → Int → Heap → Option R) (k : Nat) (q474 : Option Addr) (l475 : Nat) (c476 : Nat) (q477 : Option Addr) (l478 : Nat) (c479 : Nat) (H : Heap) (K : Value → Heap → Option R) : evF (R02_SameInts_Ct) (R02_SameInts_Jt k R02_SameInts_l0) R02_SameInts_f [.slice q474 l475 c476, .slice q477 l478 c479] H K = R02_SameInts_b R02_SameInts_l0 k q474 l475 c476 q477 l478 c479 H (fun t1074 => K (.bool t1074) H) := by kernel_rfl
theorem R02_SameInts_cs (R : Type) (k : Nat) : ∀ args H K r, R02_SameInts_c R k args H K = some r → ∃ v H', Tri Try.prog 34 args H v H' ∧ K v H' = some r := by
  intro args H K r h
  unfold R02_SameInts_c R02_SameInts_ca at h
  split at h
  · exact evF_ok (C := R02_SameInts_C R k) (an := An) (t := R02_SameInts_at) (fn := Try.f34) (c := (Try.f34.body.getD .skip)) (ifn := R02_SameInts_f) (R02_SameInts_S R k) (R02_SameInts_J R k) Try.func34 (by kernel_rfl) (by kernel_rfl) (And.intro True.intro (And.intro (And.intro True.intro (And.intro (And.intro True.intro True.intro) True.intro)) (And.intro (And.intro True.intro (R02_SameInts_j0 k)) (And.intro True.intro True.intro)))) rfl (Eq.trans (R02_SameInts_e (R02_SameInts_l0 k) k _ _ _ _ _ _ H K) h)
  · cases h
/-! ### color_known: function 48 -/
def color_known_b {R : Type} (k : Nat) (n515 : Int) (K : Bool → Option R) : Option R :=
bif (n515 == 0) then (K true)
 else (bif (n515 == 1) then (K true)
 else (K (n515 == 2)))

def color_known {R : Type} (n515 : Int) (K : Bool → Option R) : Option R := color_known_b 0 n515 K

def color_known_Ct {R : Type} : Tab R := fun _ _ _ _ => none
def color_known_C (R : Type) (k : Nat) : Tab R := color_known_Ct
theorem color_known_S (R : Type) (k : Nat) : CSound Try.prog (color_known_C R k) := csound_nil
def color_known_Jt {R : Type} (k : Nat) : JTab R := fun _ _ _ _ => none
def color_known_J (R : Type) (k : Nat) : JTab R := color_known_Jt k
def color_known_at : AT := (.seq (.reg [0] []) (.seq (.reg [2] []) .leaf))
def color_known_f : IFn := ⟨13, [.t 2], (.seq (.reg [⟨some 2, .mov (.c (Go.Value.bool false)), none⟩] [0]) (.seq (.reg [⟨some 3, .mov (.t 0), none⟩,
 ⟨some 4, .cmp .eql (.t 3) (.c (Go.Value.int Go.IntKind.i64 0)), none⟩,
 ⟨some 5, .mov (.t 4), none⟩,
 ⟨some 6, .mov (.t 0), some (5, false)⟩,
 ⟨some 7, .cmp .eql (.t 6) (.c (Go.Value.int Go.IntKind.i64 1)), some (5, false)⟩,
 ⟨some 8, .pick (.t 5) (.c (Go.Value.bool true)) (.t 7), none⟩,
 ⟨some 9, .mov (.t 8), none⟩,
 ⟨some 10, .mov (.t 0), some (9, false)⟩,
 ⟨some 11, .cmp .eql (.t 10) (.c (Go.Value.int Go.IntKind.i64 2)), some (9, false)⟩,
 ⟨some 12, .pick (.t 9) (.c (Go.Value.bool true)) (.t 11), none⟩,
 ⟨some 2, .mov (.t 12), none⟩] [2]) .ret))⟩
def color_known_ca {R : Type} (f : Int → (Bool → Option R) → Option R) (args : List Value) (H : Heap) (K : Value → Heap → Option R) : Option R :=
  match args with
  | [.int .i64 n515] => f n515 (fun t1075 => K (.bool t1075) H)
  | _ => none
def color_known_c (R : Type) (k : Nat) (args : List Value) (H : Heap) (K : Value → Heap → Option R) : Option R := color_known_ca color_known args H K
theorem color_known_e {R : Type} (k : Nat) (n515 : Int) (H : Heap) (K : Value → Heap → Option R) : evF (color_known_Ct) (color_known_Jt k) color_known_f [.int .i64 n515] H K = color_known_b k n515 (fun t1075 => K (.bool t1075) H) := by kernel_rfl
theorem color_known_cs (R : Type) (k : Nat) : ∀ args H K r, color_known_c R k args H K = some r → ∃ v H', Tri Try.prog 48 args H v H' ∧ K v H' = some r := by
  intro args H K r h
  unfold color_known_c color_known_ca at h
  split at h
  · exact evF_ok (C := color_known_C R 0) (an := An) (t := color_known_at) (fn := Try.f48) (c := (Try.f48.body.getD .skip)) (ifn := color_known_f) (color_known_S R 0) (color_known_J R 0) Try.func48 (by kernel_rfl) (by kernel_rfl) (And.intro True.intro (And.intro True.intro True.intro)) rfl (Eq.trans (color_known_e 0 _ H K) h)
  · cases h
end Go.Proofs.Ytoeoolnkndkefaa.Sh
