/- Lean functions that stand for Go's, over an explicit heap, and the proofs that they do (written by this claim's program shallow.py). -/
import Derived.Test.YtoeoolnkndkefaaSh0
import Derived.Test.YtoeoolnkndkefaaSh3
set_option maxRecDepth 100000
set_option linter.unusedVariables false
set_option linter.unusedSimpArgs false
namespace Go.Proofs.Ytoeoolnkndkefaa.Sh
open Go.Proofs.Ytoeoolnkndkefaa.FW
/-! ### R02_SameAll: function 20 -/
def R02_SameAll_l0_b {R : Type} (R02_Same : Int → Int → Int → Int → Option Addr → Nat → Nat → Int → Int → Int → Int → Option Addr → Nat → Nat → Heap → (Bool → Heap → Option R) → Option R) (rec : Option Addr → Nat → Nat → Option Addr → Nat → Nat → Int → Heap → Option R) (KE0 : Heap → Option R) (KR : Bool → Heap → Option R) (k : Nat) (q142 : Option Addr) (l143 : Nat) (c144 : Nat) (q145 : Option Addr) (l146 : Nat) (c147 : Nat) (n148 : Int) (H : Heap) : Option R :=
bif decide (n148 < ((l143 : Nat) : Int)) then (hidx q142 l143 n148 5 fun p149 =>
ldI .i64 H (pad p149 0) fun n150 =>
ldI .i64 H (pad p149 1) fun n151 =>
ldI .i64 H (pad p149 2) fun n152 =>
ldI .i64 H (pad p149 3) fun n153 =>
ldL H (pad p149 4) fun q154 l155 c156 =>
hidx q145 l146 n148 5 fun p157 =>
ldI .i64 H (pad p157 0) fun n158 =>
ldI .i64 H (pad p157 1) fun n159 =>
ldI .i64 H (pad p157 2) fun n160 =>
ldI .i64 H (pad p157 3) fun n161 =>
ldL H (pad p157 4) fun q162 l163 c164 =>
R02_Same n150 n151 n152 n153 q154 l155 c156 n158 n159 n160 n161 q162 l163 c164 H fun t165 H166 =>
bif (!t165) then (KR false H166)
 else (rec q142 l143 c144 q145 l146 c147 (IntKind.wrap .i64 (n148 + 1)) H166))
 else (KE0 H)
def R02_SameAll_l0 {R : Type} (k : Nat) (KE0 : Heap → Option R) (KR : Bool → Heap → Option R) : Nat → Option Addr → Nat → Nat → Option Addr → Nat → Nat → Int → Heap → Option R
  | 0, _, _, _, _, _, _, _, _ => none
  | n + 1, q142, l143, c144, q145, l146, c147, n148, H => R02_SameAll_l0_b (R02_Same k) (R02_SameAll_l0 k KE0 KR n) KE0 KR k q142 l143 c144 q145 l146 c147 n148 H

def R02_SameAll_b {R : Type} (R02_SameAll_l0 : (Heap → Option R) → (Bool → Heap → Option R) → Nat → Option Addr → Nat → Nat → Option Addr → Nat → Nat → Int → Heap → Option R) (k : Nat) (q136 : Option Addr) (l137 : Nat) (c138 : Nat) (q139 : Option Addr) (l140 : Nat) (c141 : Nat) (H : Heap) (K : Bool → Heap → Option R) : Option R :=
bif (((l137 : Nat) : Int) != ((l140 : Nat) : Int)) then (K false H)
 else (R02_SameAll_l0 (fun H168 =>
K true H168) (fun t169 H170 =>
K t169 H170) k q136 l137 c138 q139 l140 c141 0 H)

def R02_SameAll {R : Type} (k : Nat) (q136 : Option Addr) (l137 : Nat) (c138 : Nat) (q139 : Option Addr) (l140 : Nat) (c141 : Nat) (H : Heap) (K : Bool → Heap → Option R) : Option R := R02_SameAll_b (R02_SameAll_l0 k) k q136 l137 c138 q139 l140 c141 H K

def R02_SameAll_Ct {R : Type} (R02_Same : Int → Int → Int → Int → Option Addr → Nat → Nat → Int → Int → Int → Int → Option Addr → Nat → Nat → Heap → (Bool → Heap → Option R) → Option R) : Tab R := tcons 26 (R02_Same_ca R02_Same) <| fun _ _ _ _ => none
def R02_SameAll_C (R : Type) (k : Nat) : Tab R := R02_SameAll_Ct (R02_Same k)
theorem R02_SameAll_S (R : Type) (k : Nat) : CSound Try.prog (R02_SameAll_C R k) := csound_cons (R02_Same_cs R k) <| csound_nil
def R02_SameAll_aa0 {R : Type} (f : (Heap → Option R) → (Bool → Heap → Option R) → Nat → Option Addr → Nat → Nat → Option Addr → Nat → Nat → Int → Heap → Option R) (n : Nat) (vals : List Value) (H : Heap) (K : Xit → Env → Heap → Option R) : Option R :=
  match vals with
  | [.slice q142 l143 c144, .slice q145 l146 c147, .int .i64 n148] => f (fun H => K (.exit 0) [] H) (fun t1160 H => K .ret [(4, .bool t1160)] H) n q142 l143 c144 q145 l146 c147 n148 H
  | _ => none
def R02_SameAll_a0 (R : Type) (k n : Nat) (vals : List Value) (H : Heap) (K : Xit → Env → Heap → Option R) : Option R := R02_SameAll_aa0 (R02_SameAll_l0 k) n vals H K
def R02_SameAll_Jt {R : Type} (k : Nat) (R02_SameAll_l0 : (Heap → Option R) → (Bool → Heap → Option R) → Nat → Option Addr → Nat → Nat → Option Addr → Nat → Nat → Int → Heap → Option R) : JTab R := tcons 0 (R02_SameAll_aa0 R02_SameAll_l0 k) <| fun _ _ _ _ => none
def R02_SameAll_J (R : Type) (k : Nat) : JTab R := R02_SameAll_Jt k (R02_SameAll_l0 k)
def R02_SameAll_at : AT := (.seq (.reg [0, 1] []) (.seq (.seq (.reg [0, 1, 10] []) (.cond (.seq (.reg [4] []) .leaf) .leaf)) (.seq (.seq (.reg [0, 1, 5] []) (.node (.opq 0 [0, 1, 5] ⟨[], [(0, [])], [4]⟩ (.node (.seq (.seq (.reg [0, 1, 5, 14] []) (.cond .leaf .leaf)) (.seq (.node (.seq (.reg [0, 1, 5, 26] [[], [], [0, 1], [0, 1, 2], [], [], [4, 5], [4, 5, 6], [0, 1, 2, 3, 4, 5, 6, 7], [0, 1, 2, 3, 4, 5, 6, 7, 8]]) (.cond (.seq (.reg [4] []) .leaf) .leaf))) (.reg [0, 1, 5] []))))))) (.seq (.reg [4] []) .leaf))))
def R02_SameAll_i0 : IC := (.seq (.seq (.reg [⟨some 11, .mov (.t 5), none⟩,
 ⟨some 12, .mov (.t 0), none⟩,
 ⟨some 13, .len false (.t 12), none⟩,
 ⟨some 14, .cmp .lss (.t 11) (.t 13), none⟩] [0, 1, 5, 14]) (.cond (.t 14) .skip (.exit 0))) (.seq (.block 1 (.seq (.reg [⟨some 17, .mov (.t 0), none⟩,
 ⟨some 18, .mov (.t 5), none⟩,
 ⟨some 19, .ids 5 (.t 17) (.t 18), none⟩,
 ⟨some 20, .ld (.agg [(.int .i64), (.int .i64), (.int .i64), (.int .i64), .slc]) (.t 19), none⟩,
 ⟨some 21, .mov (.t 1), none⟩,
 ⟨some 22, .mov (.t 5), none⟩,
 ⟨some 23, .ids 5 (.t 21) (.t 22), none⟩,
 ⟨some 24, .ld (.agg [(.int .i64), (.int .i64), (.int .i64), (.int .i64), .slc]) (.t 23), none⟩,
 ⟨some 25, .call 26 [(.t 20), (.t 24)] (.one (.sc .bool)), none⟩,
 ⟨some 26, .lnot (.t 25), none⟩] [0, 1, 5, 26]) (.cond (.t 26) (.seq (.reg [⟨some 4, .mov (.c (Go.Value.bool false)), none⟩] [4]) .ret) .skip))) (.reg [⟨some 15, .mov (.t 5), none⟩,
 ⟨some 16, .bin .add .i64 (.t 15) (.c (Go.Value.int Go.IntKind.i64 1)), none⟩,
 ⟨some 5, .mov (.t 16), none⟩] [0, 1, 5])))
def R02_SameAll_f : IFn := ⟨27, [.t 4], (.seq (.reg [⟨some 4, .mov (.c (Go.Value.bool false)), none⟩] [0, 1]) (.seq (.seq (.reg [⟨some 6, .mov (.t 0), none⟩,
 ⟨some 7, .len false (.t 6), none⟩,
 ⟨some 8, .mov (.t 1), none⟩,
 ⟨some 9, .len false (.t 8), none⟩,
 ⟨some 10, .cmp .neq (.t 7) (.t 9), none⟩] [0, 1, 10]) (.cond (.t 10) (.seq (.reg [⟨some 4, .mov (.c (Go.Value.bool false)), none⟩] [4]) .ret) .skip)) (.seq (.seq (.reg [⟨some 5, .mov (.c (Go.Value.int Go.IntKind.i64 0)), none⟩] [0, 1, 5]) (.block 0 (.opq 0 [0, 1, 5] (.loop R02_SameAll_i0)))) (.seq (.reg [⟨some 4, .mov (.c (Go.Value.bool true)), none⟩] [4]) .ret))))⟩
theorem R02_SameAll_e0 {R : Type} (R02_Same : Int → Int → Int → Int → Option Addr → Nat → Nat → Int → Int → Int → Int → Option Addr → Nat → Nat → Heap → (Bool → Heap → Option R) → Option R) (R02_SameAll_l0 : (Heap → Option R) → (Bool → Heap → Option R) → Nat → Option Addr → Nat → Nat → Option Addr → Nat → Nat → Int → Heap → Option R) (k n : Nat) (q142 : Option Addr) (l143 : Nat) (c144 : Nat) (q145 : Option Addr) (l146 : Nat) (c147 : Nat) (n148 : Int) (H : Heap) (K : Xit → Env → Heap → Option R) : evJ (R02_SameAll_Ct R02_Same) (R02_SameAll_Jt k R02_SameAll_l0) R02_SameAll_i0 (List.zip [0, 1, 5] [.slice q142 l143 c144, .slice q145 l146 c147, .int .i64 n148]) H (fun x e' H' => match x with | .normal => R02_SameAll_aa0 R02_SameAll_l0 n ((clean e' [0, 1, 5]).map (·.2)) H' K | x => K x (clean e' ((⟨[], [(0, [])], [4]⟩ : Out).of x)) H') = R02_SameAll_l0_b R02_Same (R02_SameAll_l0 (fun H => K (.exit 0) [] H) (fun t1160 H => K .ret [(4, .bool t1160)] H) n) (fun H => K (.exit 0) [] H) (fun t1160 H => K .ret [(4, .bool t1160)] H) k q142 l143 c144 q145 l146 c147 n148 H := by kernel_rfl
theorem R02_SameAll_j0 {R : Type} (k : Nat) : JS Try.prog 27 (R02_SameAll_a0 R k k) [0, 1, 5] ⟨[], [(0, [])], [4]⟩ (.loop (sel [1, 1, 0, 1, 0, 0] (Try.f20.body.getD .skip))) :=
  loop_ok (nt := 27) (c := (sel [1, 1, 0, 1, 0, 0] (Try.f20.body.getD .skip))) (C := R02_SameAll_C R k) (an := An) (t := (.seq (.seq (.reg [0, 1, 5, 14] []) (.cond .leaf .leaf)) (.seq (.node (.seq (.reg [0, 1, 5, 26] [[], [], [0, 1], [0, 1, 2], [], [], [4, 5], [4, 5, 6], [0, 1, 2, 3, 4, 5, 6, 7], [0, 1, 2, 3, 4, 5, 6, 7, 8]]) (.cond (.seq (.reg [4] []) .leaf) .leaf))) (.reg [0, 1, 5] [])))) (ic := R02_SameAll_i0) (R02_SameAll_S R k) (R02_SameAll_J R k) (by kernel_rfl) (And.intro (And.intro True.intro (And.intro True.intro True.intro)) (And.intro (And.intro True.intro (And.intro (And.intro True.intro True.intro) True.intro)) True.intro)) (R02_SameAll_a0 R k) (fun vals H K => by unfold R02_SameAll_a0 R02_SameAll_aa0; split <;> rfl)
    (fun n vals H K r h => by
      unfold R02_SameAll_a0 R02_SameAll_aa0 at h
      split at h <;> first | (cases h; done) | exact Eq.trans (R02_SameAll_e0 (R02_Same k) (R02_SameAll_l0 k) k n _ _ _ _ _ _ _ H K) h) k
def R02_SameAll_ca {R : Type} (f : Option Addr → Nat → Nat → Option Addr → Nat → Nat → Heap → (Bool → Heap → Option R) → Option R) (args : List Value) (H : Heap) (K : Value → Heap → Option R) : Option R :=
  match args with
  | [.slice q136 l137 c138, .slice q139 l140 c141] => f q136 l137 c138 q139 l140 c141 H (fun t1161 H => K (.bool t1161) H)
  | _ => none
def R02_SameAll_c (R : Type) (k : Nat) (args : List Value) (H : Heap) (K : Value → Heap → Option R) : Option R := R02_SameAll_ca (R02_SameAll k) args H K
theorem R02_SameAll_e {R : Type} (R02_Same : Int → Int → Int → Int → Option Addr → Nat → Nat → Int → Int → Int → Int → Option Addr → Nat → Nat → Heap → (Bool → Heap → Option R) → Option R) (R02_SameAll_l0 : (Heap → Option R) → (Bool → Heap → Option R) → Nat → Option Addr → Nat → Nat → Option Addr → Nat → Nat → Int → Heap → Option R) (k : Nat) (q136 : Option Addr) (l137 : Nat) (c138 : Nat) (q139 : Option Addr) (l140 : Nat) (c141 : Nat) (H : Heap) (K : Value → Heap → Option R) : evF (R02_SameAll_Ct R02_Same) (R02_SameAll_Jt k R02_SameAll_l0) R02_SameAll_f [.slice q136 l137 c138, .slice q139 l140 c141] H K = R02_SameAll_b R02_SameAll_l0 k q136 l137 c138 q139 l140 c141 H (fun t1161 H => K (.bool t1161) H) := by kernel_rfl
theorem R02_SameAll_cs (R : Type) (k : Nat) : ∀ args H K r, R02_SameAll_c R k args H K = some r → ∃ v H', Tri Try.prog 20 args H v H' ∧ K v H' = some r := by
  intro args H K r h
  unfold R02_SameAll_c R02_SameAll_ca at h
  split at h
  · exact evF_ok (C := R02_SameAll_C R k) (an := An) (t := R02_SameAll_at) (fn := Try.f20) (c := (Try.f20.body.getD .skip)) (ifn := R02_SameAll_f) (R02_SameAll_S R k) (R02_SameAll_J R k) Try.func20 (by kernel_rfl) (by kernel_rfl) (And.intro True.intro (And.intro (And.intro True.intro (And.intro (And.intro True.intro True.intro) True.intro)) (And.intro (And.intro True.intro (R02_SameAll_j0 k)) (And.intro True.intro True.intro)))) rfl (Eq.trans (R02_SameAll_e (R02_Same k) (R02_SameAll_l0 k) k _ _ _ _ _ _ H K) h)
  · cases h
end Go.Proofs.Ytoeoolnkndkefaa.Sh
