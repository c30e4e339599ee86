/- Lean functions that stand for Go's, over an explicit heap, and the proofs that they do (written by this claim's program shallow.py). -/
import Derived.Test.YtoeoolnkndkefaaSh0
import Derived.Test.YtoeoolnkndkefaaSh3
set_option maxRecDepth 100000
set_option linter.unusedVariables false
set_option linter.unusedSimpArgs false
namespace Go.Proofs.Ytoeoolnkndkefaa.Sh
open Go.Proofs.Ytoeoolnkndkefaa.FW
/-! ### L_few: function 17 -/
def L_few_l0_b {R : Type} (R02_Few : Int → Int → Int → Int → Option Addr → Nat → Nat → Heap → (Bool → Heap → Option R) → Option R) (rec : Option Addr → Nat → Nat → Int → Heap → Option R) (KE0 : Option Addr → Nat → Nat → Heap → Option R) (KR : Bool → Heap → Option R) (k : Nat) (q84 : Option Addr) (l85 : Nat) (c86 : Nat) (n87 : Int) (H : Heap) : Option R :=
bif decide (n87 < ((l85 : Nat) : Int)) then (hidx q84 l85 n87 5 fun p88 =>
ldI .i64 H (pad p88 0) fun n89 =>
ldI .i64 H (pad p88 1) fun n90 =>
ldI .i64 H (pad p88 2) fun n91 =>
ldI .i64 H (pad p88 3) fun n92 =>
ldL H (pad p88 4) fun q93 l94 c95 =>
R02_Few n89 n90 n91 n92 q93 l94 c95 H fun t96 H97 =>
bif (!t96) then (KR false H97)
 else (rec q84 l85 c86 (IntKind.wrap .i64 (n87 + 1)) H97))
 else (KE0 q84 l85 c86 H)
def L_few_l0 {R : Type} (k : Nat) (KE0 : Option Addr → Nat → Nat → Heap → Option R) (KR : Bool → Heap → Option R) : Nat → Option Addr → Nat → Nat → Int → Heap → Option R
  | 0, _, _, _, _, _ => none
  | n + 1, q84, l85, c86, n87, H => L_few_l0_b R02_Few (L_few_l0 k KE0 KR n) KE0 KR k q84 l85 c86 n87 H

def L_few_b {R : Type} (L_few_l0 : (Option Addr → Nat → Nat → Heap → Option R) → (Bool → Heap → Option R) → Nat → Option Addr → Nat → Nat → Int → Heap → Option R) (k : Nat) (q81 : Option Addr) (l82 : Nat) (c83 : Nat) (H : Heap) (K : Bool → Heap → Option R) : Option R :=
L_few_l0 (fun q102 l103 c104 H105 =>
K (decide (((l103 : Nat) : Int) ≤ 6)) H105) (fun t106 H107 =>
K t106 H107) k q81 l82 c83 0 H

def L_few {R : Type} (k : Nat) (q81 : Option Addr) (l82 : Nat) (c83 : Nat) (H : Heap) (K : Bool → Heap → Option R) : Option R := L_few_b (L_few_l0 k) k q81 l82 c83 H K

def L_few_Ct {R : Type} (R02_Few : Int → Int → Int → Int → Option Addr → Nat → Nat → Heap → (Bool → Heap → Option R) → Option R) : Tab R := tcons 21 (R02_Few_ca R02_Few) <| fun _ _ _ _ => none
def L_few_C (R : Type) (k : Nat) : Tab R := L_few_Ct R02_Few
theorem L_few_S (R : Type) (k : Nat) : CSound Try.prog (L_few_C R k) := csound_cons (R02_Few_cs R k) <| csound_nil
def L_few_aa0 {R : Type} (f : (Option Addr → Nat → Nat → Heap → Option R) → (Bool → Heap → Option R) → Nat → Option Addr → Nat → Nat → Int → Heap → Option R) (n : Nat) (vals : List Value) (H : Heap) (K : Xit → Env → Heap → Option R) : Option R :=
  match vals with
  | [.slice q84 l85 c86, .int .i64 n87] => f (fun q1138 l1139 c1140 H => K (.exit 0) [(0, .slice q1138 l1139 c1140)] H) (fun t1141 H => K .ret [(2, .bool t1141)] H) n q84 l85 c86 n87 H
  | _ => none
def L_few_a0 (R : Type) (k n : Nat) (vals : List Value) (H : Heap) (K : Xit → Env → Heap → Option R) : Option R := L_few_aa0 (L_few_l0 k) n vals H K
def L_few_Jt {R : Type} (k : Nat) (L_few_l0 : (Option Addr → Nat → Nat → Heap → Option R) → (Bool → Heap → Option R) → Nat → Option Addr → Nat → Nat → Int → Heap → Option R) : JTab R := tcons 0 (L_few_aa0 L_few_l0 k) <| fun _ _ _ _ => none
def L_few_J (R : Type) (k : Nat) : JTab R := L_few_Jt k (L_few_l0 k)
def L_few_at : AT := (.seq (.reg [0] []) (.seq (.seq (.reg [0, 3] []) (.node (.opq 0 [0, 3] ⟨[], [(0, [0])], [2]⟩ (.node (.seq (.seq (.reg [0, 3, 7] []) (.cond .leaf .leaf)) (.seq (.node (.seq (.reg [0, 3, 15] []) (.cond (.seq (.reg [2] []) .leaf) .leaf))) (.reg [0, 3] []))))))) (.seq (.reg [2] []) .leaf)))
def L_few_i0 : IC := (.seq (.seq (.reg [⟨some 4, .mov (.t 3), none⟩,
 ⟨some 5, .mov (.t 0), none⟩,
 ⟨some 6, .len false (.t 5), none⟩,
 ⟨some 7, .cmp .lss (.t 4) (.t 6), none⟩] [0, 3, 7]) (.cond (.t 7) .skip (.exit 0))) (.seq (.block 1 (.seq (.reg [⟨some 10, .mov (.t 0), none⟩,
 ⟨some 11, .mov (.t 3), none⟩,
 ⟨some 12, .ids 5 (.t 10) (.t 11), none⟩,
 ⟨some 13, .ld (.agg [(.int .i64), (.int .i64), (.int .i64), (.int .i64), .slc]) (.t 12), none⟩,
 ⟨some 14, .call 21 [(.t 13)] (.one (.sc .bool)), none⟩,
 ⟨some 15, .lnot (.t 14), none⟩] [0, 3, 15]) (.cond (.t 15) (.seq (.reg [⟨some 2, .mov (.c (Go.Value.bool false)), none⟩] [2]) .ret) .skip))) (.reg [⟨some 8, .mov (.t 3), none⟩,
 ⟨some 9, .bin .add .i64 (.t 8) (.c (Go.Value.int Go.IntKind.i64 1)), none⟩,
 ⟨some 3, .mov (.t 9), none⟩] [0, 3])))
def L_few_f : IFn := ⟨19, [.t 2], (.seq (.reg [⟨some 2, .mov (.c (Go.Value.bool false)), none⟩] [0]) (.seq (.seq (.reg [⟨some 3, .mov (.c (Go.Value.int Go.IntKind.i64 0)), none⟩] [0, 3]) (.block 0 (.opq 0 [0, 3] (.loop L_few_i0)))) (.seq (.reg [⟨some 16, .mov (.t 0), none⟩,
 ⟨some 17, .len false (.t 16), none⟩,
 ⟨some 18, .cmp .leq (.t 17) (.c (Go.Value.int Go.IntKind.i64 6)), none⟩,
 ⟨some 2, .mov (.t 18), none⟩] [2]) .ret)))⟩
theorem L_few_e0 {R : Type} (R02_Few : Int → Int → Int → Int → Option Addr → Nat → Nat → Heap → (Bool → Heap → Option R) → Option R) (L_few_l0 : (Option Addr → Nat → Nat → Heap → Option R) → (Bool → Heap → Option R) → Nat → Option Addr → Nat → Nat → Int → Heap → Option R) (k n : Nat) (q84 : Option Addr) (l85 : Nat) (c86 : Nat) (n87 : Int) (H : Heap) (K : Xit → Env → Heap → Option R) : evJ (L_few_Ct R02_Few) (L_few_Jt k L_few_l0) L_few_i0 (List.zip [0, 3] [.slice q84 l85 c86, .int .i64 n87]) H (fun x e' H' => match x with | .normal => L_few_aa0 L_few_l0 n ((clean e' [0, 3]).map (·.2)) H' K | x => K x (clean e' ((⟨[], [(0, [0])], [2]⟩ : Out).of x)) H') = L_few_l0_b R02_Few (L_few_l0 (fun q1138 l1139 c1140 H => K (.exit 0) [(0, .slice q1138 l1139 c1140)] H) (fun t1141 H => K .ret [(2, .bool t1141)] H) n) (fun q1138 l1139 c1140 H => K (.exit 0) [(0, .slice q1138 l1139 c1140)] H) (fun t1141 H => K .ret [(2, .bool t1141)] H) k q84 l85 c86 n87 H := by kernel_rfl
theorem L_few_j0 {R : Type} (k : Nat) : JS Try.prog 19 (L_few_a0 R k k) [0, 3] ⟨[], [(0, [0])], [2]⟩ (.loop (sel [1, 0, 1, 0, 0] (Try.f17.body.getD .skip))) :=
  loop_ok (nt := 19) (c := (sel [1, 0, 1, 0, 0] (Try.f17.body.getD .skip))) (C := L_few_C R k) (an := An) (t := (.seq (.seq (.reg [0, 3, 7] []) (.cond .leaf .leaf)) (.seq (.node (.seq (.reg [0, 3, 15] []) (.cond (.seq (.reg [2] []) .leaf) .leaf))) (.reg [0, 3] [])))) (ic := L_few_i0) (L_few_S R k) (L_few_J R k) (by kernel_rfl) (And.intro (And.intro True.intro (And.intro True.intro True.intro)) (And.intro (And.intro True.intro (And.intro (And.intro True.intro True.intro) True.intro)) True.intro)) (L_few_a0 R k) (fun vals H K => by unfold L_few_a0 L_few_aa0; split <;> rfl)
    (fun n vals H K r h => by
      unfold L_few_a0 L_few_aa0 at h
      split at h <;> first | (cases h; done) | exact Eq.trans (L_few_e0 R02_Few (L_few_l0 k) k n _ _ _ _ H K) h) k
def L_few_ca {R : Type} (f : Option Addr → Nat → Nat → Heap → (Bool → Heap → Option R) → Option R) (args : List Value) (H : Heap) (K : Value → Heap → Option R) : Option R :=
  match args with
  | [.slice q81 l82 c83] => f q81 l82 c83 H (fun t1142 H => K (.bool t1142) H)
  | _ => none
def L_few_c (R : Type) (k : Nat) (args : List Value) (H : Heap) (K : Value → Heap → Option R) : Option R := L_few_ca (L_few k) args H K
theorem L_few_e {R : Type} (R02_Few : Int → Int → Int → Int → Option Addr → Nat → Nat → Heap → (Bool → Heap → Option R) → Option R) (L_few_l0 : (Option Addr → Nat → Nat → Heap → Option R) → (Bool → Heap → Option R) → Nat → Option Addr → Nat → Nat → Int → Heap → Option R) (k : Nat) (q81 : Option Addr) (l82 : Nat) (c83 : Nat) (H : Heap) (K : Value → Heap → Option R) : evF (L_few_Ct R02_Few) (L_few_Jt k L_few_l0) L_few_f [.slice q81 l82 c83] H K = L_few_b L_few_l0 k q81 l82 c83 H (fun t1142 H => K (.bool t1142) H) := by kernel_rfl
theorem L_few_cs (R : Type) (k : Nat) : ∀ args H K r, L_few_c R k args H K = some r → ∃ v H', Tri Try.prog 17 args H v H' ∧ K v H' = some r := by
  intro args H K r h
  unfold L_few_c L_few_ca at h
  split at h
  · exact evF_ok (C := L_few_C R k) (an := An) (t := L_few_at) (fn := Try.f17) (c := (Try.f17.body.getD .skip)) (ifn := L_few_f) (L_few_S R k) (L_few_J R k) Try.func17 (by kernel_rfl) (by kernel_rfl) (And.intro True.intro (And.intro (And.intro True.intro (L_few_j0 k)) (And.intro True.intro True.intro))) rfl (Eq.trans (L_few_e R02_Few (L_few_l0 k) k _ _ _ H K) h)
  · cases h
end Go.Proofs.Ytoeoolnkndkefaa.Sh
