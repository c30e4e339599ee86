/- Lean functions that stand for Go's, over an explicit heap, and the proofs that they do (written by this claim's program shallow.py). -/
import Derived.Test.YtoeoolnkndkefaaSh0
import Derived.Test.YtoeoolnkndkefaaSh2
import Derived.Test.YtoeoolnkndkefaaSh7
import Derived.Test.YtoeoolnkndkefaaSh12
set_option maxRecDepth 100000
set_option linter.unusedVariables false
set_option linter.unusedSimpArgs false
namespace Go.Proofs.Ytoeoolnkndkefaa.Sh
open Go.Proofs.Ytoeoolnkndkefaa.FW
/-! ### R07_Bound: function 30 -/
def R07_Bound_p0_b {R : Type} (R07_ValidKind : Int → (Bool → Option R) → Option R) (k : Nat) (n294 : Int) (n295 : Int) (KN : Int → Int → Option R) (KR : Int → Option R) : Option R :=
R07_ValidKind n294 fun t296 =>
bif (!t296) then (KR 0)
 else (bif decide (n295 < 1) then (KR 0)
 else (bif decide (n295 > 16) then (KR 0)
 else (KN n294 n295)))
def R07_Bound_p0 {R : Type} (k : Nat) (n294 : Int) (n295 : Int) (KN : Int → Int → Option R) (KR : Int → Option R) : Option R := R07_Bound_p0_b R07_ValidKind k n294 n295 KN KR

def R07_Bound_b {R : Type} (R07_Bound_p0 : Int → Int → (Int → Int → Option R) → (Int → Option R) → Option R) (R07_power : Int → (Int → Option R) → Option R) (k : Nat) (n292 : Int) (n293 : Int) (K : Int → Option R) : Option R :=
R07_Bound_p0 n292 n293 (fun n300 n301 =>
bif (n300 == 0) then (R07_power (IntKind.wrap .i64 (n301 - 1)) fun n302 =>
K n302)
 else (R07_power n301 fun n303 =>
K n303)) (fun n304 =>
K n304)

def R07_Bound {R : Type} (k : Nat) (n292 : Int) (n293 : Int) (K : Int → Option R) : Option R := R07_Bound_b (R07_Bound_p0 k) (R07_power k) k n292 n293 K

def R07_Bound_Ct {R : Type} (R07_ValidKind : Int → (Bool → Option R) → Option R) (R07_power : Int → (Int → Option R) → Option R) : Tab R := tcons 49 (R07_ValidKind_ca R07_ValidKind) <| tcons 43 (R07_power_ca R07_power) <| fun _ _ _ _ => none
def R07_Bound_C (R : Type) (k : Nat) : Tab R := R07_Bound_Ct R07_ValidKind (R07_power k)
theorem R07_Bound_S (R : Type) (k : Nat) : CSound Try.prog (R07_Bound_C R k) := csound_cons (R07_ValidKind_cs R k) <| csound_cons (R07_power_cs R k) <| csound_nil
def R07_Bound_aa0 {R : Type} (f : Int → Int → (Int → Int → Option R) → (Int → Option R) → Option R) (n : Nat) (vals : List Value) (H : Heap) (K : Xit → Env → Heap → Option R) : Option R :=
  match vals with
  | [.int .i64 n294, .int .i64 n295] => f n294 n295 (fun n1287 n1288 => K .normal [(0, .int .i64 n1287), (1, .int .i64 n1288)] H) (fun n1289 => K .ret [(4, .int .i64 n1289)] H)
  | _ => none
def R07_Bound_a0 (R : Type) (k n : Nat) (vals : List Value) (H : Heap) (K : Xit → Env → Heap → Option R) : Option R := R07_Bound_aa0 (R07_Bound_p0 k) n vals H K
def R07_Bound_Jt {R : Type} (k : Nat) (R07_Bound_p0 : Int → Int → (Int → Int → Option R) → (Int → Option R) → Option R) : JTab R := tcons 0 (R07_Bound_aa0 R07_Bound_p0 k) <| fun _ _ _ _ => none
def R07_Bound_J (R : Type) (k : Nat) : JTab R := R07_Bound_Jt k (R07_Bound_p0 k)
def R07_Bound_at : AT := (.seq (.reg [0, 1] []) (.seq (.opq 0 [0, 1] ⟨[0, 1], [], [4]⟩ (.seq (.reg [0, 1, 15] []) (.cond (.seq (.reg [4] []) .leaf) .leaf))) (.seq (.seq (.reg [1, 17] []) (.cond (.seq (.reg [4] []) .leaf) .leaf)) (.seq (.reg [4] []) .leaf))))
def R07_Bound_i0 : IC := (.seq (.reg [⟨some 5, .mov (.t 0), none⟩,
 ⟨some 6, .call 49 [(.t 5)] (.one (.sc .bool)), none⟩,
 ⟨some 7, .lnot (.t 6), none⟩,
 ⟨some 8, .mov (.t 7), none⟩,
 ⟨some 9, .mov (.t 1), some (8, false)⟩,
 ⟨some 10, .cmp .lss (.t 9) (.c (Go.Value.int Go.IntKind.i64 1)), some (8, false)⟩,
 ⟨some 11, .pick (.t 8) (.c (Go.Value.bool true)) (.t 10), none⟩,
 ⟨some 12, .mov (.t 11), none⟩,
 ⟨some 13, .mov (.t 1), some (12, false)⟩,
 ⟨some 14, .cmp .gtr (.t 13) (.c (Go.Value.int Go.IntKind.i64 16)), some (12, false)⟩,
 ⟨some 15, .pick (.t 12) (.c (Go.Value.bool true)) (.t 14), none⟩] [0, 1, 15]) (.cond (.t 15) (.seq (.reg [⟨some 4, .mov (.c (Go.Value.int Go.IntKind.i64 0)), none⟩] [4]) .ret) .skip))
def R07_Bound_f : IFn := ⟨23, [.t 4], (.seq (.reg [⟨some 4, .mov (.c (Go.Value.int Go.IntKind.i64 0)), none⟩] [0, 1]) (.seq (.opq 0 [0, 1] R07_Bound_i0) (.seq (.seq (.reg [⟨some 16, .mov (.t 0), none⟩,
 ⟨some 17, .cmp .eql (.t 16) (.c (Go.Value.int Go.IntKind.i64 0)), none⟩] [1, 17]) (.cond (.t 17) (.seq (.reg [⟨some 18, .mov (.t 1), none⟩,
 ⟨some 19, .bin .sub .i64 (.t 18) (.c (Go.Value.int Go.IntKind.i64 1)), none⟩,
 ⟨some 20, .call 43 [(.t 19)] (.one (.sc (.int .i64))), none⟩,
 ⟨some 4, .mov (.t 20), none⟩] [4]) .ret) .skip)) (.seq (.reg [⟨some 21, .mov (.t 1), none⟩,
 ⟨some 22, .call 43 [(.t 21)] (.one (.sc (.int .i64))), none⟩,
 ⟨some 4, .mov (.t 22), none⟩] [4]) .ret))))⟩
theorem R07_Bound_e0 {R : Type} (R07_ValidKind : Int → (Bool → Option R) → Option R) (R07_power : Int → (Int → Option R) → Option R) (R07_Bound_p0 : Int → Int → (Int → Int → Option R) → (Int → Option R) → Option R) (k : Nat) (n294 : Int) (n295 : Int) (H : Heap) (K : Xit → Env → Heap → Option R) : evJ (R07_Bound_Ct R07_ValidKind R07_power) (R07_Bound_Jt k R07_Bound_p0) R07_Bound_i0 (List.zip [0, 1] [.int .i64 n294, .int .i64 n295]) H (fun x e' H' => K x (clean e' ((⟨[0, 1], [], [4]⟩ : Out).of x)) H') = R07_Bound_p0_b R07_ValidKind k n294 n295 (fun n1287 n1288 => K .normal [(0, .int .i64 n1287), (1, .int .i64 n1288)] H) (fun n1289 => K .ret [(4, .int .i64 n1289)] H) := by kernel_rfl
theorem R07_Bound_j0 {R : Type} (k : Nat) : JS Try.prog 23 (R07_Bound_a0 R k k) [0, 1] ⟨[0, 1], [], [4]⟩ (sel [1, 0] (Try.f30.body.getD .skip)) :=
  piece_ok (nt := 23) (c := (sel [1, 0] (Try.f30.body.getD .skip))) (C := R07_Bound_C R k) (an := An) (t := (.seq (.reg [0, 1, 15] []) (.cond (.seq (.reg [4] []) .leaf) .leaf))) (ic := R07_Bound_i0) (R07_Bound_S R k) (R07_Bound_J R k) (by kernel_rfl) (And.intro True.intro (And.intro (And.intro True.intro True.intro) True.intro)) (R07_Bound_a0 R k k)
    (fun vals H K r h => by
      unfold R07_Bound_a0 R07_Bound_aa0 at h
      split at h <;> first | (cases h; done) | exact Eq.trans (R07_Bound_e0 R07_ValidKind (R07_power k) (R07_Bound_p0 k) k _ _ H K) h)
def R07_Bound_ca {R : Type} (f : Int → Int → (Int → Option R) → Option R) (args : List Value) (H : Heap) (K : Value → Heap → Option R) : Option R :=
  match args with
  | [.int .i64 n292, .int .i64 n293] => f n292 n293 (fun n1290 => K (.int .i64 n1290) H)
  | _ => none
def R07_Bound_c (R : Type) (k : Nat) (args : List Value) (H : Heap) (K : Value → Heap → Option R) : Option R := R07_Bound_ca (R07_Bound k) args H K
theorem R07_Bound_e {R : Type} (R07_ValidKind : Int → (Bool → Option R) → Option R) (R07_power : Int → (Int → Option R) → Option R) (R07_Bound_p0 : Int → Int → (Int → Int → Option R) → (Int → Option R) → Option R) (k : Nat) (n292 : Int) (n293 : Int) (H : Heap) (K : Value → Heap → Option R) : evF (R07_Bound_Ct R07_ValidKind R07_power) (R07_Bound_Jt k R07_Bound_p0) R07_Bound_f [.int .i64 n292, .int .i64 n293] H K = R07_Bound_b R07_Bound_p0 R07_power k n292 n293 (fun n1290 => K (.int .i64 n1290) H) := by kernel_rfl
theorem R07_Bound_cs (R : Type) (k : Nat) : ∀ args H K r, R07_Bound_c R k args H K = some r → ∃ v H', Tri Try.prog 30 args H v H' ∧ K v H' = some r := by
  intro args H K r h
  unfold R07_Bound_c R07_Bound_ca at h
  split at h
  · exact evF_ok (C := R07_Bound_C R k) (an := An) (t := R07_Bound_at) (fn := Try.f30) (c := (Try.f30.body.getD .skip)) (ifn := R07_Bound_f) (R07_Bound_S R k) (R07_Bound_J R k) Try.func30 (by kernel_rfl) (by kernel_rfl) (And.intro True.intro (And.intro (R07_Bound_j0 k) (And.intro (And.intro True.intro (And.intro (And.intro True.intro True.intro) True.intro)) (And.intro True.intro True.intro)))) rfl (Eq.trans (R07_Bound_e R07_ValidKind (R07_power k) (R07_Bound_p0 k) k _ _ H K) h)
  · cases h
/-! ### L_ColorBounds: function 6 -/
def L_ColorBounds_b {R : Type} (color_Bound : Int → Int → (Int → Option R) → Option R) (R07_Bound : Int → Int → (Int → Option R) → Option R) (L_exampleHoldsq : (Bool → Option R) → Option R) (k : Nat) (n289 : Int) (n290 : Int) (K : Bool → Option R) : Option R :=
color_Bound n289 n290 fun n291 =>
R07_Bound n289 n290 fun n292 =>
bif (n291 == n292) then (L_exampleHoldsq fun t293 =>
K t293)
 else (K false)

def L_ColorBounds {R : Type} (k : Nat) (n289 : Int) (n290 : Int) (K : Bool → Option R) : Option R := L_ColorBounds_b (color_Bound k) (R07_Bound k) L_exampleHoldsq k n289 n290 K

def L_ColorBounds_Ct {R : Type} (color_Bound : Int → Int → (Int → Option R) → Option R) (R07_Bound : Int → Int → (Int → Option R) → Option R) (L_exampleHoldsq : (Bool → Option R) → Option R) : Tab R := tcons 29 (color_Bound_ca color_Bound) <| tcons 30 (R07_Bound_ca R07_Bound) <| tcons 12 (L_exampleHoldsq_ca L_exampleHoldsq) <| fun _ _ _ _ => none
def L_ColorBounds_C (R : Type) (k : Nat) : Tab R := L_ColorBounds_Ct (color_Bound k) (R07_Bound k) L_exampleHoldsq
theorem L_ColorBounds_S (R : Type) (k : Nat) : CSound Try.prog (L_ColorBounds_C R k) := csound_cons (color_Bound_cs R k) <| csound_cons (R07_Bound_cs R k) <| csound_cons (L_exampleHoldsq_cs R k) <| csound_nil
def L_ColorBounds_Jt {R : Type} (k : Nat) : JTab R := fun _ _ _ _ => none
def L_ColorBounds_J (R : Type) (k : Nat) : JTab R := L_ColorBounds_Jt k
def L_ColorBounds_at : AT := (.seq (.reg [0, 1] []) (.seq (.reg [4] []) .leaf))
def L_ColorBounds_f : IFn := ⟨15, [.t 4], (.seq (.reg [⟨some 4, .mov (.c (Go.Value.bool false)), none⟩] [0, 1]) (.seq (.reg [⟨some 5, .mov (.t 0), none⟩,
 ⟨some 6, .mov (.t 1), none⟩,
 ⟨some 7, .call 29 [(.t 5), (.t 6)] (.one (.sc (.int .i64))), none⟩,
 ⟨some 8, .mov (.t 0), none⟩,
 ⟨some 9, .mov (.t 1), none⟩,
 ⟨some 10, .call 30 [(.t 8), (.t 9)] (.one (.sc (.int .i64))), none⟩,
 ⟨some 11, .cmp .eql (.t 7) (.t 10), none⟩,
 ⟨some 12, .mov (.t 11), none⟩,
 ⟨some 13, .call 12 [] (.one (.sc .bool)), some (12, true)⟩,
 ⟨some 14, .pick (.t 12) (.t 13) (.c (Go.Value.bool false)), none⟩,
 ⟨some 4, .mov (.t 14), none⟩] [4]) .ret))⟩
def L_ColorBounds_ca {R : Type} (f : Int → Int → (Bool → Option R) → Option R) (args : List Value) (H : Heap) (K : Value → Heap → Option R) : Option R :=
  match args with
  | [.int .i64 n289, .int .i64 n290] => f n289 n290 (fun t1291 => K (.bool t1291) H)
  | _ => none
def L_ColorBounds_c (R : Type) (k : Nat) (args : List Value) (H : Heap) (K : Value → Heap → Option R) : Option R := L_ColorBounds_ca (L_ColorBounds k) args H K
theorem L_ColorBounds_e {R : Type} (color_Bound : Int → Int → (Int → Option R) → Option R) (R07_Bound : Int → Int → (Int → Option R) → Option R) (L_exampleHoldsq : (Bool → Option R) → Option R) (k : Nat) (n289 : Int) (n290 : Int) (H : Heap) (K : Value → Heap → Option R) : evF (L_ColorBounds_Ct color_Bound R07_Bound L_exampleHoldsq) (L_ColorBounds_Jt k) L_ColorBounds_f [.int .i64 n289, .int .i64 n290] H K = L_ColorBounds_b color_Bound R07_Bound L_exampleHoldsq k n289 n290 (fun t1291 => K (.bool t1291) H) := by kernel_rfl
theorem L_ColorBounds_cs (R : Type) (k : Nat) : ∀ args H K r, L_ColorBounds_c R k args H K = some r → ∃ v H', Tri Try.prog 6 args H v H' ∧ K v H' = some r := by
  intro args H K r h
  unfold L_ColorBounds_c L_ColorBounds_ca at h
  split at h
  · exact evF_ok (C := L_ColorBounds_C R k) (an := An) (t := L_ColorBounds_at) (fn := Try.f6) (c := (Try.f6.body.getD .skip)) (ifn := L_ColorBounds_f) (L_ColorBounds_S R k) (L_ColorBounds_J R k) Try.func6 (by kernel_rfl) (by kernel_rfl) (And.intro True.intro (And.intro True.intro True.intro)) rfl (Eq.trans (L_ColorBounds_e (color_Bound k) (R07_Bound k) L_exampleHoldsq k _ _ H K) h)
  · cases h
end Go.Proofs.Ytoeoolnkndkefaa.Sh
