/- Lean functions that stand for Go's, over an explicit heap, and the proofs that they do (written by this claim's program shallow.py). -/
import Derived.Test.YtoeoolnkndkefaaSh0
set_option maxRecDepth 100000
set_option linter.unusedVariables false
set_option linter.unusedSimpArgs false
namespace Go.Proofs.Ytoeoolnkndkefaa.Sh
open Go.Proofs.Ytoeoolnkndkefaa.FW
/-! ### R07_power: function 43 -/
def R07_power_l0_b {R : Type} (rec : Int → Int → Int → Option R) (KE0 : Int → Option R) (k : Nat) (n152 : Int) (n153 : Int) (n154 : Int) : Option R :=
bif decide (n154 < n152) then (rec n152 (IntKind.wrap .i64 (2 * n153)) (IntKind.wrap .i64 (n154 + 1)))
 else (KE0 n153)
def R07_power_l0 {R : Type} (k : Nat) (KE0 : Int → Option R) : Nat → Int → Int → Int → Option R
  | 0, _, _, _ => none
  | n + 1, n152, n153, n154 => R07_power_l0_b (R07_power_l0 k KE0 n) KE0 k n152 n153 n154

def R07_power_b {R : Type} (R07_power_l0 : (Int → Option R) → Nat → Int → Int → Int → Option R) (k : Nat) (n151 : Int) (K : Int → Option R) : Option R :=
R07_power_l0 (fun n156 =>
K n156) k n151 1 0

def R07_power {R : Type} (k : Nat) (n151 : Int) (K : Int → Option R) : Option R := R07_power_b (R07_power_l0 k) k n151 K

def R07_power_Ct {R : Type} : Tab R := fun _ _ _ _ => none
def R07_power_C (R : Type) (k : Nat) : Tab R := R07_power_Ct
theorem R07_power_S (R : Type) (k : Nat) : CSound Try.prog (R07_power_C R k) := csound_nil
def R07_power_aa0 {R : Type} (f : (Int → Option R) → Nat → Int → Int → Int → Option R) (n : Nat) (vals : List Value) (H : Heap) (K : Xit → Env → Heap → Option R) : Option R :=
  match vals with
  | [.int .i64 n152, .int .i64 n153, .int .i64 n154] => f (fun n1202 => K (.exit 0) [(3, .int .i64 n1202)] H) n n152 n153 n154
  | _ => none
def R07_power_a0 (R : Type) (k n : Nat) (vals : List Value) (H : Heap) (K : Xit → Env → Heap → Option R) : Option R := R07_power_aa0 (R07_power_l0 k) n vals H K
def R07_power_Jt {R : Type} (k : Nat) (R07_power_l0 : (Int → Option R) → Nat → Int → Int → Int → Option R) : JTab R := tcons 0 (R07_power_aa0 R07_power_l0 k) <| fun _ _ _ _ => none
def R07_power_J (R : Type) (k : Nat) : JTab R := R07_power_Jt k (R07_power_l0 k)
def R07_power_at : AT := (.seq (.reg [0] []) (.seq (.reg [0, 3] []) (.seq (.seq (.reg [0, 3, 4] []) (.node (.opq 0 [0, 3, 4] ⟨[], [(0, [3])], []⟩ (.node (.seq (.seq (.reg [0, 3, 4, 7] []) (.cond .leaf .leaf)) (.seq (.node (.reg [0, 3, 4] [])) (.reg [0, 3, 4] []))))))) (.seq (.reg [2] []) .leaf))))
def R07_power_i0 : IC := (.seq (.seq (.reg [⟨some 5, .mov (.t 4), none⟩,
 ⟨some 6, .mov (.t 0), none⟩,
 ⟨some 7, .cmp .lss (.t 5) (.t 6), none⟩] [0, 3, 4, 7]) (.cond (.t 7) .skip (.exit 0))) (.seq (.block 1 (.reg [⟨some 10, .mov (.t 3), none⟩,
 ⟨some 11, .bin .mul .i64 (.c (Go.Value.int Go.IntKind.i64 2)) (.t 10), none⟩,
 ⟨some 3, .mov (.t 11), none⟩] [0, 3, 4])) (.reg [⟨some 8, .mov (.t 4), none⟩,
 ⟨some 9, .bin .add .i64 (.t 8) (.c (Go.Value.int Go.IntKind.i64 1)), none⟩,
 ⟨some 4, .mov (.t 9), none⟩] [0, 3, 4])))
def R07_power_f : IFn := ⟨13, [.t 2], (.seq (.reg [⟨some 2, .mov (.c (Go.Value.int Go.IntKind.i64 0)), none⟩] [0]) (.seq (.reg [⟨some 3, .mov (.c (Go.Value.int Go.IntKind.i64 1)), none⟩] [0, 3]) (.seq (.seq (.reg [⟨some 4, .mov (.c (Go.Value.int Go.IntKind.i64 0)), none⟩] [0, 3, 4]) (.block 0 (.opq 0 [0, 3, 4] (.loop R07_power_i0)))) (.seq (.reg [⟨some 12, .mov (.t 3), none⟩,
 ⟨some 2, .mov (.t 12), none⟩] [2]) .ret))))⟩
theorem R07_power_e0 {R : Type} (R07_power_l0 : (Int → Option R) → Nat → Int → Int → Int → Option R) (k n : Nat) (n152 : Int) (n153 : Int) (n154 : Int) (H : Heap) (K : Xit → Env → Heap → Option R) : evJ (R07_power_Ct) (R07_power_Jt k R07_power_l0) R07_power_i0 (List.zip [0, 3, 4] [.int .i64 n152, .int .i64 n153, .int .i64 n154]) H (fun x e' H' => match x with | .normal => R07_power_aa0 R07_power_l0 n ((clean e' [0, 3, 4]).map (·.2)) H' K | x => K x (clean e' ((⟨[], [(0, [3])], []⟩ : Out).of x)) H') = R07_power_l0_b (R07_power_l0 (fun n1202 => K (.exit 0) [(3, .int .i64 n1202)] H) n) (fun n1202 => K (.exit 0) [(3, .int .i64 n1202)] H) k n152 n153 n154 := by kernel_rfl
theorem R07_power_j0 {R : Type} (k : Nat) : JS Try.prog 13 (R07_power_a0 R k k) [0, 3, 4] ⟨[], [(0, [3])], []⟩ (.loop (sel [1, 1, 0, 1, 0, 0] (Try.f43.body.getD .skip))) :=
  loop_ok (nt := 13) (c := (sel [1, 1, 0, 1, 0, 0] (Try.f43.body.getD .skip))) (C := R07_power_C R k) (an := An) (t := (.seq (.seq (.reg [0, 3, 4, 7] []) (.cond .leaf .leaf)) (.seq (.node (.reg [0, 3, 4] [])) (.reg [0, 3, 4] [])))) (ic := R07_power_i0) (R07_power_S R k) (R07_power_J R k) (by kernel_rfl) (And.intro (And.intro True.intro (And.intro True.intro True.intro)) (And.intro True.intro True.intro)) (R07_power_a0 R k) (fun vals H K => by unfold R07_power_a0 R07_power_aa0; split <;> rfl)
    (fun n vals H K r h => by
      unfold R07_power_a0 R07_power_aa0 at h
      split at h <;> first | (cases h; done) | exact Eq.trans (R07_power_e0 (R07_power_l0 k) k n _ _ _ H K) h) k
def R07_power_ca {R : Type} (f : Int → (Int → Option R) → Option R) (args : List Value) (H : Heap) (K : Value → Heap → Option R) : Option R :=
  match args with
  | [.int .i64 n151] => f n151 (fun n1203 => K (.int .i64 n1203) H)
  | _ => none
def R07_power_c (R : Type) (k : Nat) (args : List Value) (H : Heap) (K : Value → Heap → Option R) : Option R := R07_power_ca (R07_power k) args H K
theorem R07_power_e {R : Type} (R07_power_l0 : (Int → Option R) → Nat → Int → Int → Int → Option R) (k : Nat) (n151 : Int) (H : Heap) (K : Value → Heap → Option R) : evF (R07_power_Ct) (R07_power_Jt k R07_power_l0) R07_power_f [.int .i64 n151] H K = R07_power_b R07_power_l0 k n151 (fun n1203 => K (.int .i64 n1203) H) := by kernel_rfl
theorem R07_power_cs (R : Type) (k : Nat) : ∀ args H K r, R07_power_c R k args H K = some r → ∃ v H', Tri Try.prog 43 args H v H' ∧ K v H' = some r := by
  intro args H K r h
  unfold R07_power_c R07_power_ca at h
  split at h
  · exact evF_ok (C := R07_power_C R k) (an := An) (t := R07_power_at) (fn := Try.f43) (c := (Try.f43.body.getD .skip)) (ifn := R07_power_f) (R07_power_S R k) (R07_power_J R k) Try.func43 (by kernel_rfl) (by kernel_rfl) (And.intro True.intro (And.intro True.intro (And.intro (And.intro True.intro (R07_power_j0 k)) (And.intro True.intro True.intro)))) rfl (Eq.trans (R07_power_e (R07_power_l0 k) k _ H K) h)
  · cases h
end Go.Proofs.Ytoeoolnkndkefaa.Sh
