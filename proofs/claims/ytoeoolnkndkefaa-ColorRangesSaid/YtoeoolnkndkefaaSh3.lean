/- Lean functions that stand for Go's, over an explicit heap, and the proofs that they do (written by this claim's program shallow.py). -/
import Derived.Test.YtoeoolnkndkefaaSh0
import Derived.Test.YtoeoolnkndkefaaSh1
set_option maxRecDepth 100000
set_option linter.unusedVariables false
set_option linter.unusedSimpArgs false
namespace Go.Proofs.Ytoeoolnkndkefaa.Sh
open Go.Proofs.Ytoeoolnkndkefaa.FW
/-! ### R02_Few: function 21 -/
def R02_Few_b {R : Type} (k : Nat) (n96 : Int) (n97 : Int) (n98 : Int) (n99 : Int) (q100 : Option Addr) (l101 : Nat) (c102 : Nat) (H : Heap) (K : Bool → Heap → Option R) : Option R :=
hal H [.int .i64 n96, .int .i64 n97, .int .i64 n98, .int .i64 n99, .slice q100 l101 c102] fun p103 H104 =>
hfad 4 p103 fun p105 =>
ldL H104 p105 fun q106 l107 c108 =>
K (decide (((l107 : Nat) : Int) ≤ 400)) H104

def R02_Few {R : Type} (n96 : Int) (n97 : Int) (n98 : Int) (n99 : Int) (q100 : Option Addr) (l101 : Nat) (c102 : Nat) (H : Heap) (K : Bool → Heap → Option R) : Option R := R02_Few_b 0 n96 n97 n98 n99 q100 l101 c102 H K

def R02_Few_Ct {R : Type} : Tab R := fun _ _ _ _ => none
def R02_Few_C (R : Type) (k : Nat) : Tab R := R02_Few_Ct
theorem R02_Few_S (R : Type) (k : Nat) : CSound Try.prog (R02_Few_C R k) := csound_nil
def R02_Few_Jt {R : Type} (k : Nat) : JTab R := fun _ _ _ _ => none
def R02_Few_J (R : Type) (k : Nat) : JTab R := R02_Few_Jt k
def R02_Few_at : AT := (.seq (.reg [1] []) (.seq (.reg [2] []) .leaf))
def R02_Few_f : IFn := ⟨7, [.t 2], (.seq (.reg [⟨some 1, .box (.t 0), none⟩,
 ⟨some 2, .mov (.c (Go.Value.bool false)), none⟩] [1]) (.seq (.reg [⟨some 3, .fad 4 (.t 1), none⟩,
 ⟨some 4, .ld (.sc .slc) (.t 3), none⟩,
 ⟨some 5, .len false (.t 4), none⟩,
 ⟨some 6, .cmp .leq (.t 5) (.c (Go.Value.int Go.IntKind.i64 400)), none⟩,
 ⟨some 2, .mov (.t 6), none⟩] [2]) .ret))⟩
def R02_Few_ca {R : Type} (f : Int → Int → Int → Int → Option Addr → Nat → Nat → Heap → (Bool → Heap → Option R) → Option R) (args : List Value) (H : Heap) (K : Value → Heap → Option R) : Option R :=
  match args with
  | [.agg ⟨[.int .i64 n96, .int .i64 n97, .int .i64 n98, .int .i64 n99, .slice q100 l101 c102]⟩] => f n96 n97 n98 n99 q100 l101 c102 H (fun t1136 H => K (.bool t1136) H)
  | _ => none
def R02_Few_c (R : Type) (k : Nat) (args : List Value) (H : Heap) (K : Value → Heap → Option R) : Option R := R02_Few_ca R02_Few args H K
theorem R02_Few_e {R : Type} (k : Nat) (n96 : Int) (n97 : Int) (n98 : Int) (n99 : Int) (q100 : Option Addr) (l101 : Nat) (c102 : Nat) (H : Heap) (K : Value → Heap → Option R) : evF (R02_Few_Ct) (R02_Few_Jt k) R02_Few_f [.agg ⟨[.int .i64 n96, .int .i64 n97, .int .i64 n98, .int .i64 n99, .slice q100 l101 c102]⟩] H K = R02_Few_b k n96 n97 n98 n99 q100 l101 c102 H (fun t1136 H => K (.bool t1136) H) := by kernel_rfl
theorem R02_Few_cs (R : Type) (k : Nat) : ∀ args H K r, R02_Few_c R k args H K = some r → ∃ v H', Tri Try.prog 21 args H v H' ∧ K v H' = some r := by
  intro args H K r h
  unfold R02_Few_c R02_Few_ca at h
  split at h
  · exact evF_ok (C := R02_Few_C R 0) (an := An) (t := R02_Few_at) (fn := Try.f21) (c := (Try.f21.body.getD .skip)) (ifn := R02_Few_f) (R02_Few_S R 0) (R02_Few_J R 0) Try.func21 (by kernel_rfl) (by kernel_rfl) (And.intro True.intro (And.intro True.intro True.intro)) rfl (Eq.trans (R02_Few_e 0 _ _ _ _ _ _ _ H K) h)
  · cases h
/-! ### R02_Same: function 26 -/
def R02_Same_b {R : Type} (R02_SameInts : Option Addr → Nat → Nat → Option Addr → Nat → Nat → Heap → (Bool → Option R) → Option R) (k : Nat) (n165 : Int) (n166 : Int) (n167 : Int) (n168 : Int) (q169 : Option Addr) (l170 : Nat) (c171 : Nat) (n172 : Int) (n173 : Int) (n174 : Int) (n175 : Int) (q176 : Option Addr) (l177 : Nat) (c178 : Nat) (H : Heap) (K : Bool → Heap → Option R) : Option R :=
hal H [.int .i64 n165, .int .i64 n166, .int .i64 n167, .int .i64 n168, .slice q169 l170 c171] fun p179 H180 =>
hal H180 [.int .i64 n172, .int .i64 n173, .int .i64 n174, .int .i64 n175, .slice q176 l177 c178] fun p181 H182 =>
hfad 0 p179 fun p183 =>
ldI .i64 H182 (pad p183 0) fun n184 =>
ldI .i64 H182 (pad p183 1) fun n185 =>
ldI .i64 H182 (pad p183 2) fun n186 =>
ldI .i64 H182 (pad p183 3) fun n187 =>
hfad 0 p181 fun p188 =>
ldI .i64 H182 (pad p188 0) fun n189 =>
ldI .i64 H182 (pad p188 1) fun n190 =>
ldI .i64 H182 (pad p188 2) fun n191 =>
ldI .i64 H182 (pad p188 3) fun n192 =>
bif ((((true && (n184 == n189)) && (n185 == n190)) && (n186 == n191)) && (n187 == n192)) then (hfad 4 p179 fun p193 =>
ldL H182 p193 fun q194 l195 c196 =>
hfad 4 p181 fun p197 =>
ldL H182 p197 fun q198 l199 c200 =>
R02_SameInts q194 l195 c196 q198 l199 c200 H182 fun t201 =>
K t201 H182)
 else (K false H182)

def R02_Same {R : Type} (k : Nat) (n165 : Int) (n166 : Int) (n167 : Int) (n168 : Int) (q169 : Option Addr) (l170 : Nat) (c171 : Nat) (n172 : Int) (n173 : Int) (n174 : Int) (n175 : Int) (q176 : Option Addr) (l177 : Nat) (c178 : Nat) (H : Heap) (K : Bool → Heap → Option R) : Option R := R02_Same_b (R02_SameInts k) k n165 n166 n167 n168 q169 l170 c171 n172 n173 n174 n175 q176 l177 c178 H K

def R02_Same_Ct {R : Type} (R02_SameInts : Option Addr → Nat → Nat → Option Addr → Nat → Nat → Heap → (Bool → Option R) → Option R) : Tab R := tcons 34 (R02_SameInts_ca R02_SameInts) <| fun _ _ _ _ => none
def R02_Same_C (R : Type) (k : Nat) : Tab R := R02_Same_Ct (R02_SameInts k)
theorem R02_Same_S (R : Type) (k : Nat) : CSound Try.prog (R02_Same_C R k) := csound_cons (R02_SameInts_cs R k) <| csound_nil
def R02_Same_Jt {R : Type} (k : Nat) : JTab R := fun _ _ _ _ => none
def R02_Same_J (R : Type) (k : Nat) : JTab R := R02_Same_Jt k
def R02_Same_at : AT := (.seq (.reg [2, 3] []) (.seq (.reg [4] []) .leaf))
def R02_Same_f : IFn := ⟨17, [.t 4], (.seq (.reg [⟨some 2, .box (.t 0), none⟩,
 ⟨some 3, .box (.t 1), none⟩,
 ⟨some 4, .mov (.c (Go.Value.bool false)), none⟩] [2, 3]) (.seq (.reg [⟨some 5, .fad 0 (.t 2), none⟩,
 ⟨some 6, .ld (.agg [(.int .i64), (.int .i64), (.int .i64), (.int .i64)]) (.t 5), none⟩,
 ⟨some 7, .fad 0 (.t 3), none⟩,
 ⟨some 8, .ld (.agg [(.int .i64), (.int .i64), (.int .i64), (.int .i64)]) (.t 7), none⟩,
 ⟨some 9, .eqs [(0, 0), (1, 0), (2, 0), (3, 0)] (.t 6) (.t 8) false, none⟩,
 ⟨some 10, .mov (.t 9), none⟩,
 ⟨some 11, .fad 4 (.t 2), some (10, true)⟩,
 ⟨some 12, .ld (.sc .slc) (.t 11), some (10, true)⟩,
 ⟨some 13, .fad 4 (.t 3), some (10, true)⟩,
 ⟨some 14, .ld (.sc .slc) (.t 13), some (10, true)⟩,
 ⟨some 15, .call 34 [(.t 12), (.t 14)] (.one (.sc .bool)), some (10, true)⟩,
 ⟨some 16, .pick (.t 10) (.t 15) (.c (Go.Value.bool false)), none⟩,
 ⟨some 4, .mov (.t 16), none⟩] [4]) .ret))⟩
def R02_Same_ca {R : Type} (f : Int → Int → Int → Int → Option Addr → Nat → Nat → Int → Int → Int → Int → Option Addr → Nat → Nat → Heap → (Bool → Heap → Option R) → Option R) (args : List Value) (H : Heap) (K : Value → Heap → Option R) : Option R :=
  match args with
  | [.agg ⟨[.int .i64 n165, .int .i64 n166, .int .i64 n167, .int .i64 n168, .slice q169 l170 c171]⟩, .agg ⟨[.int .i64 n172, .int .i64 n173, .int .i64 n174, .int .i64 n175, .slice q176 l177 c178]⟩] => f n165 n166 n167 n168 q169 l170 c171 n172 n173 n174 n175 q176 l177 c178 H (fun t1137 H => K (.bool t1137) H)
  | _ => none
def R02_Same_c (R : Type) (k : Nat) (args : List Value) (H : Heap) (K : Value → Heap → Option R) : Option R := R02_Same_ca (R02_Same k) args H K
theorem R02_Same_e {R : Type} (R02_SameInts : Option Addr → Nat → Nat → Option Addr → Nat → Nat → Heap → (Bool → Option R) → Option R) (k : Nat) (n165 : Int) (n166 : Int) (n167 : Int) (n168 : Int) (q169 : Option Addr) (l170 : Nat) (c171 : Nat) (n172 : Int) (n173 : Int) (n174 : Int) (n175 : Int) (q176 : Option Addr) (l177 : Nat) (c178 : Nat) (H : Heap) (K : Value → Heap → Option R) : evF (R02_Same_Ct R02_SameInts) (R02_Same_Jt k) R02_Same_f [.agg ⟨[.int .i64 n165, .int .i64 n166, .int .i64 n167, .int .i64 n168, .slice q169 l170 c171]⟩, .agg ⟨[.int .i64 n172, .int .i64 n173, .int .i64 n174, .int .i64 n175, .slice q176 l177 c178]⟩] H K = R02_Same_b R02_SameInts k n165 n166 n167 n168 q169 l170 c171 n172 n173 n174 n175 q176 l177 c178 H (fun t1137 H => K (.bool t1137) H) := by kernel_rfl
theorem R02_Same_cs (R : Type) (k : Nat) : ∀ args H K r, R02_Same_c R k args H K = some r → ∃ v H', Tri Try.prog 26 args H v H' ∧ K v H' = some r := by
  intro args H K r h
  unfold R02_Same_c R02_Same_ca at h
  split at h
  · exact evF_ok (C := R02_Same_C R k) (an := An) (t := R02_Same_at) (fn := Try.f26) (c := (Try.f26.body.getD .skip)) (ifn := R02_Same_f) (R02_Same_S R k) (R02_Same_J R k) Try.func26 (by kernel_rfl) (by kernel_rfl) (And.intro True.intro (And.intro True.intro True.intro)) rfl (Eq.trans (R02_Same_e (R02_SameInts k) k _ _ _ _ _ _ _ _ _ _ _ _ _ _ H K) h)
  · cases h
end Go.Proofs.Ytoeoolnkndkefaa.Sh
