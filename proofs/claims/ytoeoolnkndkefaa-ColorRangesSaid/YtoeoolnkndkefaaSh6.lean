/- Lean functions that stand for Go's, over an explicit heap, and the proofs that they do (written by this claim's program shallow.py). -/
import Derived.Test.YtoeoolnkndkefaaSh0
set_option maxRecDepth 100000
set_option linter.unusedVariables false
set_option linter.unusedSimpArgs false
namespace Go.Proofs.Ytoeoolnkndkefaa.Sh
open Go.Proofs.Ytoeoolnkndkefaa.FW
/-! ### R01_Valid: function 55 -/
def R01_Valid_b {R : Type} (k : Nat) (n167 : Int) (n168 : Int) (n169 : Int) (n170 : Int) (H : Heap) (K : Bool → Heap → Option R) : Option R :=
hal H [.int .i64 n167, .int .i64 n168, .int .i64 n169, .int .i64 n170] fun p171 H172 =>
hfad 0 p171 fun p173 =>
ldI .i64 H172 p173 fun n174 =>
bif decide (0 ≤ n174) then (hfad 0 p171 fun p175 =>
ldI .i64 H172 p175 fun n176 =>
hfad 2 p171 fun p177 =>
ldI .i64 H172 p177 fun n178 =>
bif decide (n176 ≤ n178) then (hfad 2 p171 fun p179 =>
ldI .i64 H172 p179 fun n180 =>
bif decide (n180 ≤ 4096) then (hfad 1 p171 fun p181 =>
ldI .i64 H172 p181 fun n182 =>
bif decide (0 ≤ n182) then (hfad 1 p171 fun p183 =>
ldI .i64 H172 p183 fun n184 =>
hfad 3 p171 fun p185 =>
ldI .i64 H172 p185 fun n186 =>
bif decide (n184 ≤ n186) then (hfad 3 p171 fun p187 =>
ldI .i64 H172 p187 fun n188 =>
K (decide (n188 ≤ 4096)) H172)
 else (K false H172))
 else (K false H172))
 else (K false H172))
 else (K false H172))
 else (K false H172)

def R01_Valid {R : Type} (n167 : Int) (n168 : Int) (n169 : Int) (n170 : Int) (H : Heap) (K : Bool → Heap → Option R) : Option R := R01_Valid_b 0 n167 n168 n169 n170 H K

def R01_Valid_Ct {R : Type} : Tab R := fun _ _ _ _ => none
def R01_Valid_C (R : Type) (k : Nat) : Tab R := R01_Valid_Ct
theorem R01_Valid_S (R : Type) (k : Nat) : CSound Try.prog (R01_Valid_C R k) := csound_nil
def R01_Valid_Jt {R : Type} (k : Nat) : JTab R := fun _ _ _ _ => none
def R01_Valid_J (R : Type) (k : Nat) : JTab R := R01_Valid_Jt k
def R01_Valid_at : AT := (.seq (.reg [1] []) (.seq (.reg [2] []) .leaf))
def R01_Valid_f : IFn := ⟨35, [.t 2], (.seq (.reg [⟨some 1, .box (.t 0), none⟩,
 ⟨some 2, .mov (.c (Go.Value.bool false)), none⟩] [1]) (.seq (.reg [⟨some 3, .fad 0 (.t 1), none⟩,
 ⟨some 4, .ld (.sc (.int .i64)) (.t 3), none⟩,
 ⟨some 5, .cmp .leq (.c (Go.Value.int Go.IntKind.i64 0)) (.t 4), none⟩,
 ⟨some 6, .mov (.t 5), none⟩,
 ⟨some 7, .fad 0 (.t 1), some (6, true)⟩,
 ⟨some 8, .ld (.sc (.int .i64)) (.t 7), some (6, true)⟩,
 ⟨some 9, .fad 2 (.t 1), some (6, true)⟩,
 ⟨some 10, .ld (.sc (.int .i64)) (.t 9), some (6, true)⟩,
 ⟨some 11, .cmp .leq (.t 8) (.t 10), some (6, true)⟩,
 ⟨some 12, .pick (.t 6) (.t 11) (.c (Go.Value.bool false)), none⟩,
 ⟨some 13, .mov (.t 12), none⟩,
 ⟨some 14, .fad 2 (.t 1), some (13, true)⟩,
 ⟨some 15, .ld (.sc (.int .i64)) (.t 14), some (13, true)⟩,
 ⟨some 16, .cmp .leq (.t 15) (.c (Go.Value.int Go.IntKind.i64 4096)), some (13, true)⟩,
 ⟨some 17, .pick (.t 13) (.t 16) (.c (Go.Value.bool false)), none⟩,
 ⟨some 18, .mov (.t 17), none⟩,
 ⟨some 19, .fad 1 (.t 1), some (18, true)⟩,
 ⟨some 20, .ld (.sc (.int .i64)) (.t 19), some (18, true)⟩,
 ⟨some 21, .cmp .leq (.c (Go.Value.int Go.IntKind.i64 0)) (.t 20), some (18, true)⟩,
 ⟨some 22, .pick (.t 18) (.t 21) (.c (Go.Value.bool false)), none⟩,
 ⟨some 23, .mov (.t 22), none⟩,
 ⟨some 24, .fad 1 (.t 1), some (23, true)⟩,
 ⟨some 25, .ld (.sc (.int .i64)) (.t 24), some (23, true)⟩,
 ⟨some 26, .fad 3 (.t 1), some (23, true)⟩,
 ⟨some 27, .ld (.sc (.int .i64)) (.t 26), some (23, true)⟩,
 ⟨some 28, .cmp .leq (.t 25) (.t 27), some (23, true)⟩,
 ⟨some 29, .pick (.t 23) (.t 28) (.c (Go.Value.bool false)), none⟩,
 ⟨some 30, .mov (.t 29), none⟩,
 ⟨some 31, .fad 3 (.t 1), some (30, true)⟩,
 ⟨some 32, .ld (.sc (.int .i64)) (.t 31), some (30, true)⟩,
 ⟨some 33, .cmp .leq (.t 32) (.c (Go.Value.int Go.IntKind.i64 4096)), some (30, true)⟩,
 ⟨some 34, .pick (.t 30) (.t 33) (.c (Go.Value.bool false)), none⟩,
 ⟨some 2, .mov (.t 34), none⟩] [2]) .ret))⟩
def R01_Valid_ca {R : Type} (f : Int → Int → Int → Int → Heap → (Bool → Heap → Option R) → Option R) (args : List Value) (H : Heap) (K : Value → Heap → Option R) : Option R :=
  match args with
  | [.agg ⟨[.int .i64 n167, .int .i64 n168, .int .i64 n169, .int .i64 n170]⟩] => f n167 n168 n169 n170 H (fun t1150 H => K (.bool t1150) H)
  | _ => none
def R01_Valid_c (R : Type) (k : Nat) (args : List Value) (H : Heap) (K : Value → Heap → Option R) : Option R := R01_Valid_ca R01_Valid args H K
theorem R01_Valid_e {R : Type} (k : Nat) (n167 : Int) (n168 : Int) (n169 : Int) (n170 : Int) (H : Heap) (K : Value → Heap → Option R) : evF (R01_Valid_Ct) (R01_Valid_Jt k) R01_Valid_f [.agg ⟨[.int .i64 n167, .int .i64 n168, .int .i64 n169, .int .i64 n170]⟩] H K = R01_Valid_b k n167 n168 n169 n170 H (fun t1150 H => K (.bool t1150) H) := by kernel_rfl
theorem R01_Valid_cs (R : Type) (k : Nat) : ∀ args H K r, R01_Valid_c R k args H K = some r → ∃ v H', Tri Try.prog 55 args H v H' ∧ K v H' = some r := by
  intro args H K r h
  unfold R01_Valid_c R01_Valid_ca at h
  split at h
  · exact evF_ok (C := R01_Valid_C R 0) (an := An) (t := R01_Valid_at) (fn := Try.f55) (c := (Try.f55.body.getD .skip)) (ifn := R01_Valid_f) (R01_Valid_S R 0) (R01_Valid_J R 0) Try.func55 (by kernel_rfl) (by kernel_rfl) (And.intro True.intro (And.intro True.intro True.intro)) rfl (Eq.trans (R01_Valid_e 0 _ _ _ _ H K) h)
  · cases h
/-! ### R01_Area: function 54 -/
def R01_Area_b {R : Type} (R01_Valid : Int → Int → Int → Int → Heap → (Bool → Heap → Option R) → Option R) (k : Nat) (n157 : Int) (n158 : Int) (n159 : Int) (n160 : Int) (H : Heap) (K : Int → Heap → Option R) : Option R :=
hal H [.int .i64 n157, .int .i64 n158, .int .i64 n159, .int .i64 n160] fun p161 H162 =>
ldI .i64 H162 (pad p161 0) fun n163 =>
ldI .i64 H162 (pad p161 1) fun n164 =>
ldI .i64 H162 (pad p161 2) fun n165 =>
ldI .i64 H162 (pad p161 3) fun n166 =>
R01_Valid n163 n164 n165 n166 H162 fun t167 H168 =>
bif (!t167) then (K 0 H168)
 else (hfad 2 p161 fun p169 =>
ldI .i64 H168 p169 fun n170 =>
hfad 0 p161 fun p171 =>
ldI .i64 H168 p171 fun n172 =>
hfad 3 p161 fun p173 =>
ldI .i64 H168 p173 fun n174 =>
hfad 1 p161 fun p175 =>
ldI .i64 H168 p175 fun n176 =>
K (IntKind.wrap .i64 ((IntKind.wrap .i64 (n170 - n172)) * (IntKind.wrap .i64 (n174 - n176)))) H168)

def R01_Area {R : Type} (n157 : Int) (n158 : Int) (n159 : Int) (n160 : Int) (H : Heap) (K : Int → Heap → Option R) : Option R := R01_Area_b R01_Valid 0 n157 n158 n159 n160 H K

def R01_Area_Ct {R : Type} (R01_Valid : Int → Int → Int → Int → Heap → (Bool → Heap → Option R) → Option R) : Tab R := tcons 55 (R01_Valid_ca R01_Valid) <| fun _ _ _ _ => none
def R01_Area_C (R : Type) (k : Nat) : Tab R := R01_Area_Ct R01_Valid
theorem R01_Area_S (R : Type) (k : Nat) : CSound Try.prog (R01_Area_C R k) := csound_cons (R01_Valid_cs R k) <| csound_nil
def R01_Area_Jt {R : Type} (k : Nat) : JTab R := fun _ _ _ _ => none
def R01_Area_J (R : Type) (k : Nat) : JTab R := R01_Area_Jt k
def R01_Area_at : AT := (.seq (.reg [1] []) (.seq (.seq (.reg [1, 5] []) (.cond (.seq (.reg [2] []) .leaf) .leaf)) (.seq (.reg [2] []) .leaf)))
def R01_Area_f : IFn := ⟨17, [.t 2], (.seq (.reg [⟨some 1, .box (.t 0), none⟩,
 ⟨some 2, .mov (.c (Go.Value.int Go.IntKind.i64 0)), none⟩] [1]) (.seq (.seq (.reg [⟨some 3, .ld (.agg [(.int .i64), (.int .i64), (.int .i64), (.int .i64)]) (.t 1), none⟩,
 ⟨some 4, .call 55 [(.t 3)] (.one (.sc .bool)), none⟩,
 ⟨some 5, .lnot (.t 4), none⟩] [1, 5]) (.cond (.t 5) (.seq (.reg [⟨some 2, .mov (.c (Go.Value.int Go.IntKind.i64 0)), none⟩] [2]) .ret) .skip)) (.seq (.reg [⟨some 6, .fad 2 (.t 1), none⟩,
 ⟨some 7, .ld (.sc (.int .i64)) (.t 6), none⟩,
 ⟨some 8, .fad 0 (.t 1), none⟩,
 ⟨some 9, .ld (.sc (.int .i64)) (.t 8), none⟩,
 ⟨some 10, .bin .sub .i64 (.t 7) (.t 9), none⟩,
 ⟨some 11, .fad 3 (.t 1), none⟩,
 ⟨some 12, .ld (.sc (.int .i64)) (.t 11), none⟩,
 ⟨some 13, .fad 1 (.t 1), none⟩,
 ⟨some 14, .ld (.sc (.int .i64)) (.t 13), none⟩,
 ⟨some 15, .bin .sub .i64 (.t 12) (.t 14), none⟩,
 ⟨some 16, .bin .mul .i64 (.t 10) (.t 15), none⟩,
 ⟨some 2, .mov (.t 16), none⟩] [2]) .ret)))⟩
def R01_Area_ca {R : Type} (f : Int → Int → Int → Int → Heap → (Int → Heap → Option R) → Option R) (args : List Value) (H : Heap) (K : Value → Heap → Option R) : Option R :=
  match args with
  | [.agg ⟨[.int .i64 n157, .int .i64 n158, .int .i64 n159, .int .i64 n160]⟩] => f n157 n158 n159 n160 H (fun n1151 H => K (.int .i64 n1151) H)
  | _ => none
def R01_Area_c (R : Type) (k : Nat) (args : List Value) (H : Heap) (K : Value → Heap → Option R) : Option R := R01_Area_ca R01_Area args H K
theorem R01_Area_e {R : Type} (R01_Valid : Int → Int → Int → Int → Heap → (Bool → Heap → Option R) → Option R) (k : Nat) (n157 : Int) (n158 : Int) (n159 : Int) (n160 : Int) (H : Heap) (K : Value → Heap → Option R) : evF (R01_Area_Ct R01_Valid) (R01_Area_Jt k) R01_Area_f [.agg ⟨[.int .i64 n157, .int .i64 n158, .int .i64 n159, .int .i64 n160]⟩] H K = R01_Area_b R01_Valid k n157 n158 n159 n160 H (fun n1151 H => K (.int .i64 n1151) H) := by kernel_rfl
theorem R01_Area_cs (R : Type) (k : Nat) : ∀ args H K r, R01_Area_c R k args H K = some r → ∃ v H', Tri Try.prog 54 args H v H' ∧ K v H' = some r := by
  intro args H K r h
  unfold R01_Area_c R01_Area_ca at h
  split at h
  · exact evF_ok (C := R01_Area_C R 0) (an := An) (t := R01_Area_at) (fn := Try.f54) (c := (Try.f54.body.getD .skip)) (ifn := R01_Area_f) (R01_Area_S R 0) (R01_Area_J R 0) Try.func54 (by kernel_rfl) (by kernel_rfl) (And.intro True.intro (And.intro (And.intro True.intro (And.intro (And.intro True.intro True.intro) True.intro)) (And.intro True.intro True.intro))) rfl (Eq.trans (R01_Area_e R01_Valid 0 _ _ _ _ H K) h)
  · cases h
/-! ### R02_Valid: function 46 -/
def R02_Valid_b {R : Type} (R01_Area : Int → Int → Int → Int → Heap → (Int → Heap → Option R) → Option R) (R01_Valid : Int → Int → Int → Int → Heap → (Bool → Heap → Option R) → Option R) (k : Nat) (n143 : Int) (n144 : Int) (n145 : Int) (n146 : Int) (q147 : Option Addr) (l148 : Nat) (c149 : Nat) (H : Heap) (K : Bool → Heap → Option R) : Option R :=
hal H [.int .i64 n143, .int .i64 n144, .int .i64 n145, .int .i64 n146, .slice q147 l148 c149] fun p150 H151 =>
hfad 0 p150 fun p152 =>
ldI .i64 H151 (pad p152 0) fun n153 =>
ldI .i64 H151 (pad p152 1) fun n154 =>
ldI .i64 H151 (pad p152 2) fun n155 =>
ldI .i64 H151 (pad p152 3) fun n156 =>
R01_Area n153 n154 n155 n156 H151 fun n157 H158 =>
hfad 0 p150 fun p159 =>
ldI .i64 H158 (pad p159 0) fun n160 =>
ldI .i64 H158 (pad p159 1) fun n161 =>
ldI .i64 H158 (pad p159 2) fun n162 =>
ldI .i64 H158 (pad p159 3) fun n163 =>
R01_Valid n160 n161 n162 n163 H158 fun t164 H165 =>
bif t164 then (bif decide (n157 ≤ 1048576) then (hfad 4 p150 fun p166 =>
ldL H165 p166 fun q167 l168 c169 =>
K (((l168 : Nat) : Int) == n157) H165)
 else (K false H165))
 else (K false H165)

def R02_Valid {R : Type} (n143 : Int) (n144 : Int) (n145 : Int) (n146 : Int) (q147 : Option Addr) (l148 : Nat) (c149 : Nat) (H : Heap) (K : Bool → Heap → Option R) : Option R := R02_Valid_b R01_Area R01_Valid 0 n143 n144 n145 n146 q147 l148 c149 H K

def R02_Valid_Ct {R : Type} (R01_Area : Int → Int → Int → Int → Heap → (Int → Heap → Option R) → Option R) (R01_Valid : Int → Int → Int → Int → Heap → (Bool → Heap → Option R) → Option R) : Tab R := tcons 54 (R01_Area_ca R01_Area) <| tcons 55 (R01_Valid_ca R01_Valid) <| fun _ _ _ _ => none
def R02_Valid_C (R : Type) (k : Nat) : Tab R := R02_Valid_Ct R01_Area R01_Valid
theorem R02_Valid_S (R : Type) (k : Nat) : CSound Try.prog (R02_Valid_C R k) := csound_cons (R01_Area_cs R k) <| csound_cons (R01_Valid_cs R k) <| csound_nil
def R02_Valid_Jt {R : Type} (k : Nat) : JTab R := fun _ _ _ _ => none
def R02_Valid_J (R : Type) (k : Nat) : JTab R := R02_Valid_Jt k
def R02_Valid_at : AT := (.seq (.reg [1] []) (.seq (.reg [1, 3] []) (.seq (.reg [2] []) .leaf)))
def R02_Valid_f : IFn := ⟨21, [.t 2], (.seq (.reg [⟨some 1, .box (.t 0), none⟩,
 ⟨some 2, .mov (.c (Go.Value.bool false)), none⟩] [1]) (.seq (.reg [⟨some 4, .fad 0 (.t 1), none⟩,
 ⟨some 5, .ld (.agg [(.int .i64), (.int .i64), (.int .i64), (.int .i64)]) (.t 4), none⟩,
 ⟨some 6, .call 54 [(.t 5)] (.one (.sc (.int .i64))), none⟩,
 ⟨some 3, .mov (.t 6), none⟩] [1, 3]) (.seq (.reg [⟨some 7, .fad 0 (.t 1), none⟩,
 ⟨some 8, .ld (.agg [(.int .i64), (.int .i64), (.int .i64), (.int .i64)]) (.t 7), none⟩,
 ⟨some 9, .call 55 [(.t 8)] (.one (.sc .bool)), none⟩,
 ⟨some 10, .mov (.t 9), none⟩,
 ⟨some 11, .mov (.t 3), some (10, true)⟩,
 ⟨some 12, .cmp .leq (.t 11) (.c (Go.Value.int Go.IntKind.i64 1048576)), some (10, true)⟩,
 ⟨some 13, .pick (.t 10) (.t 12) (.c (Go.Value.bool false)), none⟩,
 ⟨some 14, .mov (.t 13), none⟩,
 ⟨some 15, .fad 4 (.t 1), some (14, true)⟩,
 ⟨some 16, .ld (.sc .slc) (.t 15), some (14, true)⟩,
 ⟨some 17, .len false (.t 16), some (14, true)⟩,
 ⟨some 18, .mov (.t 3), some (14, true)⟩,
 ⟨some 19, .cmp .eql (.t 17) (.t 18), some (14, true)⟩,
 ⟨some 20, .pick (.t 14) (.t 19) (.c (Go.Value.bool false)), none⟩,
 ⟨some 2, .mov (.t 20), none⟩] [2]) .ret)))⟩
def R02_Valid_ca {R : Type} (f : Int → Int → Int → Int → Option Addr → Nat → Nat → Heap → (Bool → Heap → Option R) → Option R) (args : List Value) (H : Heap) (K : Value → Heap → Option R) : Option R :=
  match args with
  | [.agg ⟨[.int .i64 n143, .int .i64 n144, .int .i64 n145, .int .i64 n146, .slice q147 l148 c149]⟩] => f n143 n144 n145 n146 q147 l148 c149 H (fun t1152 H => K (.bool t1152) H)
  | _ => none
def R02_Valid_c (R : Type) (k : Nat) (args : List Value) (H : Heap) (K : Value → Heap → Option R) : Option R := R02_Valid_ca R02_Valid args H K
theorem R02_Valid_e {R : Type} (R01_Area : Int → Int → Int → Int → Heap → (Int → Heap → Option R) → Option R) (R01_Valid : Int → Int → Int → Int → Heap → (Bool → Heap → Option R) → Option R) (k : Nat) (n143 : Int) (n144 : Int) (n145 : Int) (n146 : Int) (q147 : Option Addr) (l148 : Nat) (c149 : Nat) (H : Heap) (K : Value → Heap → Option R) : evF (R02_Valid_Ct R01_Area R01_Valid) (R02_Valid_Jt k) R02_Valid_f [.agg ⟨[.int .i64 n143, .int .i64 n144, .int .i64 n145, .int .i64 n146, .slice q147 l148 c149]⟩] H K = R02_Valid_b R01_Area R01_Valid k n143 n144 n145 n146 q147 l148 c149 H (fun t1152 H => K (.bool t1152) H) := by kernel_rfl
theorem R02_Valid_cs (R : Type) (k : Nat) : ∀ args H K r, R02_Valid_c R k args H K = some r → ∃ v H', Tri Try.prog 46 args H v H' ∧ K v H' = some r := by
  intro args H K r h
  unfold R02_Valid_c R02_Valid_ca at h
  split at h
  · exact evF_ok (C := R02_Valid_C R 0) (an := An) (t := R02_Valid_at) (fn := Try.f46) (c := (Try.f46.body.getD .skip)) (ifn := R02_Valid_f) (R02_Valid_S R 0) (R02_Valid_J R 0) Try.func46 (by kernel_rfl) (by kernel_rfl) (And.intro True.intro (And.intro True.intro (And.intro True.intro True.intro))) rfl (Eq.trans (R02_Valid_e R01_Area R01_Valid 0 _ _ _ _ _ _ _ H K) h)
  · cases h
end Go.Proofs.Ytoeoolnkndkefaa.Sh
