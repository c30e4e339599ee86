/- Lean functions that stand for Go's, over an explicit heap, and the proofs that they do (written by this claim's program shallow.py). -/
import Derived.Test.YtoeoolnkndkefaaSh0
set_option maxRecDepth 100000
set_option linter.unusedVariables false
set_option linter.unusedSimpArgs false
namespace Go.Proofs.Ytoeoolnkndkefaa.Sh
open Go.Proofs.Ytoeoolnkndkefaa.FW
/-! ### R02_Bounded: function 31 -/
def R02_Bounded_p1_b {R : Type} (k : Nat) (n224 : Int) (p225 : Option Addr) (n226 : Int) (H : Heap) (KN : Int → Option Addr → Int → Option R) (KR : Bool → Option R) : Option R :=
hfad 4 p225 fun p227 =>
ldL H p227 fun q228 l229 c230 =>
hidx q228 l229 n226 1 fun p231 =>
ldI .i64 H p231 fun n232 =>
bif decide (n232 < (IntKind.wrap .i64 (0 - n224))) then (KR false)
 else (hfad 4 p225 fun p233 =>
ldL H p233 fun q234 l235 c236 =>
hidx q234 l235 n226 1 fun p237 =>
ldI .i64 H p237 fun n238 =>
bif decide (n238 > n224) then (KR false)
 else (KN n224 p225 n226))
def R02_Bounded_p1 {R : Type} (k : Nat) (n224 : Int) (p225 : Option Addr) (n226 : Int) (H : Heap) (KN : Int → Option Addr → Int → Option R) (KR : Bool → Option R) : Option R := R02_Bounded_p1_b k n224 p225 n226 H KN KR

def R02_Bounded_l0_b {R : Type} (R02_Bounded_p1 : Int → Option Addr → Int → Heap → (Int → Option Addr → Int → Option R) → (Bool → Option R) → Option R) (rec : Int → Option Addr → Int → Heap → Option R) (KE0 : Unit → Option R) (KR : Bool → Option R) (k : Nat) (n217 : Int) (p218 : Option Addr) (n219 : Int) (H : Heap) : Option R :=
hfad 4 p218 fun p220 =>
ldL H p220 fun q221 l222 c223 =>
bif decide (n219 < ((l222 : Nat) : Int)) then (R02_Bounded_p1 n217 p218 n219 H (fun n243 p244 n245 =>
rec n243 p244 (IntKind.wrap .i64 (n245 + 1)) H) (fun t246 =>
KR t246))
 else (KE0 ())
def R02_Bounded_l0 {R : Type} (k : Nat) (KE0 : Unit → Option R) (KR : Bool → Option R) : Nat → Int → Option Addr → Int → Heap → Option R
  | 0, _, _, _, _ => none
  | n + 1, n217, p218, n219, H => R02_Bounded_l0_b (R02_Bounded_p1 k) (R02_Bounded_l0 k KE0 KR n) KE0 KR k n217 p218 n219 H

def R02_Bounded_b {R : Type} (R02_Bounded_l0 : (Unit → Option R) → (Bool → Option R) → Nat → Int → Option Addr → Int → Heap → Option R) (k : Nat) (n207 : Int) (n208 : Int) (n209 : Int) (n210 : Int) (q211 : Option Addr) (l212 : Nat) (c213 : Nat) (n214 : Int) (H : Heap) (K : Bool → Heap → Option R) : Option R :=
hal H [.int .i64 n207, .int .i64 n208, .int .i64 n209, .int .i64 n210, .slice q211 l212 c213] fun p215 H216 =>
R02_Bounded_l0 (fun (_ : Unit) =>
K true H216) (fun t248 =>
K t248 H216) k n214 p215 0 H216

def R02_Bounded {R : Type} (k : Nat) (n207 : Int) (n208 : Int) (n209 : Int) (n210 : Int) (q211 : Option Addr) (l212 : Nat) (c213 : Nat) (n214 : Int) (H : Heap) (K : Bool → Heap → Option R) : Option R := R02_Bounded_b (R02_Bounded_l0 k) k n207 n208 n209 n210 q211 l212 c213 n214 H K

def R02_Bounded_Ct {R : Type} : Tab R := fun _ _ _ _ => none
def R02_Bounded_C (R : Type) (k : Nat) : Tab R := R02_Bounded_Ct
theorem R02_Bounded_S (R : Type) (k : Nat) : CSound Try.prog (R02_Bounded_C R k) := csound_nil
def R02_Bounded_aa0 {R : Type} (f : (Unit → Option R) → (Bool → Option R) → Nat → Int → Option Addr → Int → Heap → Option R) (n : Nat) (vals : List Value) (H : Heap) (K : Xit → Env → Heap → Option R) : Option R :=
  match vals with
  | [.int .i64 n217, .pointer p218, .int .i64 n219] => f (fun _ => K (.exit 0) [] H) (fun t1154 => K .ret [(4, .bool t1154)] H) n n217 p218 n219 H
  | _ => none
def R02_Bounded_a0 (R : Type) (k n : Nat) (vals : List Value) (H : Heap) (K : Xit → Env → Heap → Option R) : Option R := R02_Bounded_aa0 (R02_Bounded_l0 k) n vals H K
def R02_Bounded_aa1 {R : Type} (f : Int → Option Addr → Int → Heap → (Int → Option Addr → Int → Option R) → (Bool → Option R) → Option R) (n : Nat) (vals : List Value) (H : Heap) (K : Xit → Env → Heap → Option R) : Option R :=
  match vals with
  | [.int .i64 n224, .pointer p225, .int .i64 n226] => f n224 p225 n226 H (fun n1155 p1156 n1157 => K .normal [(1, .int .i64 n1155), (2, .pointer p1156), (5, .int .i64 n1157)] H) (fun t1158 => K .ret [(4, .bool t1158)] H)
  | _ => none
def R02_Bounded_a1 (R : Type) (k n : Nat) (vals : List Value) (H : Heap) (K : Xit → Env → Heap → Option R) : Option R := R02_Bounded_aa1 (R02_Bounded_p1 k) n vals H K
def R02_Bounded_Jt {R : Type} (k : Nat) (R02_Bounded_l0 : (Unit → Option R) → (Bool → Option R) → Nat → Int → Option Addr → Int → Heap → Option R) (R02_Bounded_p1 : Int → Option Addr → Int → Heap → (Int → Option Addr → Int → Option R) → (Bool → Option R) → Option R) : JTab R := tcons 0 (R02_Bounded_aa0 R02_Bounded_l0 k) <| tcons 1 (R02_Bounded_aa1 R02_Bounded_p1 k) <| fun _ _ _ _ => none
def R02_Bounded_J (R : Type) (k : Nat) : JTab R := R02_Bounded_Jt k (R02_Bounded_l0 k) (R02_Bounded_p1 k)
def R02_Bounded_at : AT := (.seq (.reg [1, 2] []) (.seq (.seq (.reg [1, 2, 5] []) (.node (.opq 0 [1, 2, 5] ⟨[], [(0, [])], [4]⟩ (.node (.seq (.seq (.reg [1, 2, 5, 10] []) (.cond .leaf .leaf)) (.seq (.opq 1 [1, 2, 5] ⟨[1, 2, 5], [], [4]⟩ (.node (.seq (.reg [1, 2, 5, 29] []) (.cond (.seq (.reg [4] []) .leaf) .leaf)))) (.reg [1, 2, 5] []))))))) (.seq (.reg [4] []) .leaf)))
def R02_Bounded_i1 : IC := (.block 1 (.seq (.reg [⟨some 13, .fad 4 (.t 2), none⟩,
 ⟨some 14, .ld (.sc .slc) (.t 13), none⟩,
 ⟨some 15, .mov (.t 5), none⟩,
 ⟨some 16, .ids 1 (.t 14) (.t 15), none⟩,
 ⟨some 17, .ld (.sc (.int .i64)) (.t 16), none⟩,
 ⟨some 18, .mov (.t 1), none⟩,
 ⟨some 19, .neg .i64 (.t 18), none⟩,
 ⟨some 20, .cmp .lss (.t 17) (.t 19), none⟩,
 ⟨some 21, .mov (.t 20), none⟩,
 ⟨some 22, .fad 4 (.t 2), some (21, false)⟩,
 ⟨some 23, .ld (.sc .slc) (.t 22), some (21, false)⟩,
 ⟨some 24, .mov (.t 5), some (21, false)⟩,
 ⟨some 25, .ids 1 (.t 23) (.t 24), some (21, false)⟩,
 ⟨some 26, .ld (.sc (.int .i64)) (.t 25), some (21, false)⟩,
 ⟨some 27, .mov (.t 1), some (21, false)⟩,
 ⟨some 28, .cmp .gtr (.t 26) (.t 27), some (21, false)⟩,
 ⟨some 29, .pick (.t 21) (.c (Go.Value.bool true)) (.t 28), none⟩] [1, 2, 5, 29]) (.cond (.t 29) (.seq (.reg [⟨some 4, .mov (.c (Go.Value.bool false)), none⟩] [4]) .ret) .skip)))
def R02_Bounded_i0 : IC := (.seq (.seq (.reg [⟨some 6, .mov (.t 5), none⟩,
 ⟨some 7, .fad 4 (.t 2), none⟩,
 ⟨some 8, .ld (.sc .slc) (.t 7), none⟩,
 ⟨some 9, .len false (.t 8), none⟩,
 ⟨some 10, .cmp .lss (.t 6) (.t 9), none⟩] [1, 2, 5, 10]) (.cond (.t 10) .skip (.exit 0))) (.seq (.opq 1 [1, 2, 5] R02_Bounded_i1) (.reg [⟨some 11, .mov (.t 5), none⟩,
 ⟨some 12, .bin .add .i64 (.t 11) (.c (Go.Value.int Go.IntKind.i64 1)), none⟩,
 ⟨some 5, .mov (.t 12), none⟩] [1, 2, 5])))
def R02_Bounded_f : IFn := ⟨30, [.t 4], (.seq (.reg [⟨some 2, .box (.t 0), none⟩,
 ⟨some 4, .mov (.c (Go.Value.bool false)), none⟩] [1, 2]) (.seq (.seq (.reg [⟨some 5, .mov (.c (Go.Value.int Go.IntKind.i64 0)), none⟩] [1, 2, 5]) (.block 0 (.opq 0 [1, 2, 5] (.loop R02_Bounded_i0)))) (.seq (.reg [⟨some 4, .mov (.c (Go.Value.bool true)), none⟩] [4]) .ret)))⟩
theorem R02_Bounded_e1 {R : Type} (R02_Bounded_l0 : (Unit → Option R) → (Bool → Option R) → Nat → Int → Option Addr → Int → Heap → Option R) (R02_Bounded_p1 : Int → Option Addr → Int → Heap → (Int → Option Addr → Int → Option R) → (Bool → Option R) → Option R) (k : Nat) (n224 : Int) (p225 : Option Addr) (n226 : Int) (H : Heap) (K : Xit → Env → Heap → Option R) : evJ (R02_Bounded_Ct) (R02_Bounded_Jt k R02_Bounded_l0 R02_Bounded_p1) R02_Bounded_i1 (List.zip [1, 2, 5] [.int .i64 n224, .pointer p225, .int .i64 n226]) H (fun x e' H' => K x (clean e' ((⟨[1, 2, 5], [], [4]⟩ : Out).of x)) H') = R02_Bounded_p1_b k n224 p225 n226 H (fun n1155 p1156 n1157 => K .normal [(1, .int .i64 n1155), (2, .pointer p1156), (5, .int .i64 n1157)] H) (fun t1158 => K .ret [(4, .bool t1158)] H) := by kernel_rfl
theorem R02_Bounded_j1 {R : Type} (k : Nat) : JS Try.prog 30 (R02_Bounded_a1 R k k) [1, 2, 5] ⟨[1, 2, 5], [], [4]⟩ (sel [1, 0, 1, 0, 0, 1, 0] (Try.f31.body.getD .skip)) :=
  piece_ok (nt := 30) (c := (sel [1, 0, 1, 0, 0, 1, 0] (Try.f31.body.getD .skip))) (C := R02_Bounded_C R k) (an := An) (t := (.node (.seq (.reg [1, 2, 5, 29] []) (.cond (.seq (.reg [4] []) .leaf) .leaf)))) (ic := R02_Bounded_i1) (R02_Bounded_S R k) (R02_Bounded_J R k) (by kernel_rfl) (And.intro True.intro (And.intro (And.intro True.intro True.intro) True.intro)) (R02_Bounded_a1 R k k)
    (fun vals H K r h => by
      unfold R02_Bounded_a1 R02_Bounded_aa1 at h
      split at h <;> first | (cases h; done) | exact Eq.trans (R02_Bounded_e1 (R02_Bounded_l0 k) (R02_Bounded_p1 k) k _ _ _ H K) h)
theorem R02_Bounded_e0 {R : Type} (R02_Bounded_l0 : (Unit → Option R) → (Bool → Option R) → Nat → Int → Option Addr → Int → Heap → Option R) (R02_Bounded_p1 : Int → Option Addr → Int → Heap → (Int → Option Addr → Int → Option R) → (Bool → Option R) → Option R) (k n : Nat) (n217 : Int) (p218 : Option Addr) (n219 : Int) (H : Heap) (K : Xit → Env → Heap → Option R) : evJ (R02_Bounded_Ct) (R02_Bounded_Jt k R02_Bounded_l0 R02_Bounded_p1) R02_Bounded_i0 (List.zip [1, 2, 5] [.int .i64 n217, .pointer p218, .int .i64 n219]) H (fun x e' H' => match x with | .normal => R02_Bounded_aa0 R02_Bounded_l0 n ((clean e' [1, 2, 5]).map (·.2)) H' K | x => K x (clean e' ((⟨[], [(0, [])], [4]⟩ : Out).of x)) H') = R02_Bounded_l0_b R02_Bounded_p1 (R02_Bounded_l0 (fun _ => K (.exit 0) [] H) (fun t1154 => K .ret [(4, .bool t1154)] H) n) (fun _ => K (.exit 0) [] H) (fun t1154 => K .ret [(4, .bool t1154)] H) k n217 p218 n219 H := by kernel_rfl
theorem R02_Bounded_j0 {R : Type} (k : Nat) : JS Try.prog 30 (R02_Bounded_a0 R k k) [1, 2, 5] ⟨[], [(0, [])], [4]⟩ (.loop (sel [1, 0, 1, 0, 0] (Try.f31.body.getD .skip))) :=
  loop_ok (nt := 30) (c := (sel [1, 0, 1, 0, 0] (Try.f31.body.getD .skip))) (C := R02_Bounded_C R k) (an := An) (t := (.seq (.seq (.reg [1, 2, 5, 10] []) (.cond .leaf .leaf)) (.seq (.opq 1 [1, 2, 5] ⟨[1, 2, 5], [], [4]⟩ (.node (.seq (.reg [1, 2, 5, 29] []) (.cond (.seq (.reg [4] []) .leaf) .leaf)))) (.reg [1, 2, 5] [])))) (ic := R02_Bounded_i0) (R02_Bounded_S R k) (R02_Bounded_J R k) (by kernel_rfl) (And.intro (And.intro True.intro (And.intro True.intro True.intro)) (And.intro (R02_Bounded_j1 k) True.intro)) (R02_Bounded_a0 R k) (fun vals H K => by unfold R02_Bounded_a0 R02_Bounded_aa0; split <;> rfl)
    (fun n vals H K r h => by
      unfold R02_Bounded_a0 R02_Bounded_aa0 at h
      split at h <;> first | (cases h; done) | exact Eq.trans (R02_Bounded_e0 (R02_Bounded_l0 k) (R02_Bounded_p1 k) k n _ _ _ H K) h) k
def R02_Bounded_ca {R : Type} (f : Int → Int → Int → Int → Option Addr → Nat → Nat → Int → Heap → (Bool → Heap → Option R) → Option R) (args : List Value) (H : Heap) (K : Value → Heap → Option R) : Option R :=
  match args with
  | [.agg ⟨[.int .i64 n207, .int .i64 n208, .int .i64 n209, .int .i64 n210, .slice q211 l212 c213]⟩, .int .i64 n214] => f n207 n208 n209 n210 q211 l212 c213 n214 H (fun t1159 H => K (.bool t1159) H)
  | _ => none
def R02_Bounded_c (R : Type) (k : Nat) (args : List Value) (H : Heap) (K : Value → Heap → Option R) : Option R := R02_Bounded_ca (R02_Bounded k) args H K
theorem R02_Bounded_e {R : Type} (R02_Bounded_l0 : (Unit → Option R) → (Bool → Option R) → Nat → Int → Option Addr → Int → Heap → Option R) (R02_Bounded_p1 : Int → Option Addr → Int → Heap → (Int → Option Addr → Int → Option R) → (Bool → Option R) → Option R) (k : Nat) (n207 : Int) (n208 : Int) (n209 : Int) (n210 : Int) (q211 : Option Addr) (l212 : Nat) (c213 : Nat) (n214 : Int) (H : Heap) (K : Value → Heap → Option R) : evF (R02_Bounded_Ct) (R02_Bounded_Jt k R02_Bounded_l0 R02_Bounded_p1) R02_Bounded_f [.agg ⟨[.int .i64 n207, .int .i64 n208, .int .i64 n209, .int .i64 n210, .slice q211 l212 c213]⟩, .int .i64 n214] H K = R02_Bounded_b R02_Bounded_l0 k n207 n208 n209 n210 q211 l212 c213 n214 H (fun t1159 H => K (.bool t1159) H) := by kernel_rfl
theorem R02_Bounded_cs (R : Type) (k : Nat) : ∀ args H K r, R02_Bounded_c R k args H K = some r → ∃ v H', Tri Try.prog 31 args H v H' ∧ K v H' = some r := by
  intro args H K r h
  unfold R02_Bounded_c R02_Bounded_ca at h
  split at h
  · exact evF_ok (C := R02_Bounded_C R k) (an := An) (t := R02_Bounded_at) (fn := Try.f31) (c := (Try.f31.body.getD .skip)) (ifn := R02_Bounded_f) (R02_Bounded_S R k) (R02_Bounded_J R k) Try.func31 (by kernel_rfl) (by kernel_rfl) (And.intro True.intro (And.intro (And.intro True.intro (R02_Bounded_j0 k)) (And.intro True.intro True.intro))) rfl (Eq.trans (R02_Bounded_e (R02_Bounded_l0 k) (R02_Bounded_p1 k) k _ _ _ _ _ _ _ _ H K) h)
  · cases h
end Go.Proofs.Ytoeoolnkndkefaa.Sh
