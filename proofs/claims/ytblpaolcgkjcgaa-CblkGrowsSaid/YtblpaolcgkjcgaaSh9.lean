/- Lean functions that stand for Go's, over an explicit heap, and the proofs that they do (written by this claim's program shallow.py). -/
import Derived.Test.YtblpaolcgkjcgaaSh0
import Derived.Test.YtblpaolcgkjcgaaSh3
import Derived.Test.YtblpaolcgkjcgaaSh6
import Derived.Test.YtblpaolcgkjcgaaSh7
set_option maxRecDepth 100000
set_option linter.unusedVariables false
set_option linter.unusedSimpArgs false
namespace Go.Proofs.Ytblpaolcgkjcgaa.Sh
open Go.Proofs.Ytblpaolcgkjcgaa.FW
/-! ### L_played: function 23 -/
def L_played_l0_b {R : Type} (L_do : Option Addr → Int → Int → Int → Int → Heap → (Int → Heap → Option R) → Option R) (L_want : Option Addr → Int → Int → Int → Int → Heap → (Int → Heap → Option R) → Option R) (rec : Option Addr → Nat → Nat → Option Addr → Option Addr → Int → Heap → Option R) (KE0 : Option Addr → Option Addr → Heap → Option R) (k : Nat) (q430 : Option Addr) (l431 : Nat) (c432 : Nat) (p433 : Option Addr) (p434 : Option Addr) (n435 : Int) (H : Heap) : Option R :=
bif decide (n435 < ((l431 : Nat) : Int)) then (hidx q430 l431 n435 4 fun p436 =>
ldI .i64 H (pad p436 0) fun n437 =>
ldI .i64 H (pad p436 1) fun n438 =>
ldI .i64 H (pad p436 2) fun n439 =>
ldI .i64 H (pad p436 3) fun n440 =>
L_do p433 n437 n438 n439 n440 H fun n441 H442 =>
hidx q430 l431 n435 4 fun p443 =>
ldI .i64 H442 (pad p443 0) fun n444 =>
ldI .i64 H442 (pad p443 1) fun n445 =>
ldI .i64 H442 (pad p443 2) fun n446 =>
ldI .i64 H442 (pad p443 3) fun n447 =>
L_want p434 n444 n445 n446 n447 H442 fun n448 H449 =>
rec q430 l431 c432 p433 p434 (IntKind.wrap .i64 (n435 + 1)) H449)
 else (KE0 p433 p434 H)
def L_played_l0 {R : Type} (k : Nat) (KE0 : Option Addr → Option Addr → Heap → Option R) : Nat → Option Addr → Nat → Nat → Option Addr → Option Addr → Int → Heap → Option R
  | 0, _, _, _, _, _, _, _ => none
  | n + 1, q430, l431, c432, p433, p434, n435, H => L_played_l0_b (L_do k) (L_want k) (L_played_l0 k KE0 n) KE0 k q430 l431 c432 p433 p434 n435 H

def L_played_b {R : Type} (cblk_New : Int → Int → Heap → (Option Addr → Int → Heap → Option R) → Option R) (R14_New : Int → Int → Heap → (Option Addr → Int → Heap → Option R) → Option R) (L_played_l0 : (Option Addr → Option Addr → Heap → Option R) → Nat → Option Addr → Nat → Nat → Option Addr → Option Addr → Int → Heap → Option R) (k : Nat) (n419 : Int) (n420 : Int) (q421 : Option Addr) (l422 : Nat) (c423 : Nat) (H : Heap) (K : Option Addr → Option Addr → Heap → Option R) : Option R :=
cblk_New n419 n420 H fun p424 n425 H426 =>
R14_New n419 n420 H426 fun p427 n428 H429 =>
L_played_l0 (fun p452 p453 H454 =>
K p452 p453 H454) k q421 l422 c423 p424 p427 0 H429

def L_played {R : Type} (k : Nat) (n419 : Int) (n420 : Int) (q421 : Option Addr) (l422 : Nat) (c423 : Nat) (H : Heap) (K : Option Addr → Option Addr → Heap → Option R) : Option R := L_played_b cblk_New R14_New (L_played_l0 k) k n419 n420 q421 l422 c423 H K

def L_played_Ct {R : Type} (cblk_New : Int → Int → Heap → (Option Addr → Int → Heap → Option R) → Option R) (R14_New : Int → Int → Heap → (Option Addr → Int → Heap → Option R) → Option R) (L_do : Option Addr → Int → Int → Int → Int → Heap → (Int → Heap → Option R) → Option R) (L_want : Option Addr → Int → Int → Int → Int → Heap → (Int → Heap → Option R) → Option R) : Tab R := tcons 31 (cblk_New_ca cblk_New) <| tcons 36 (R14_New_ca R14_New) <| tcons 32 (L_do_ca L_do) <| tcons 38 (L_want_ca L_want) <| fun _ _ _ _ => none
def L_played_C (R : Type) (k : Nat) : Tab R := L_played_Ct cblk_New R14_New (L_do k) (L_want k)
theorem L_played_S (R : Type) (k : Nat) : CSound Try.prog (L_played_C R k) := csound_cons (cblk_New_cs R k) <| csound_cons (R14_New_cs R k) <| csound_cons (L_do_cs R k) <| csound_cons (L_want_cs R k) <| csound_nil
def L_played_aa0 {R : Type} (f : (Option Addr → Option Addr → Heap → Option R) → Nat → Option Addr → Nat → Nat → Option Addr → Option Addr → Int → Heap → Option R) (n : Nat) (vals : List Value) (H : Heap) (K : Xit → Env → Heap → Option R) : Option R :=
  match vals with
  | [.slice q430 l431 c432, .pointer p433, .pointer p434, .int .i64 n435] => f (fun p1193 p1194 H => K (.exit 0) [(8, .pointer p1193), (10, .pointer p1194)] H) n q430 l431 c432 p433 p434 n435 H
  | _ => none
def L_played_a0 (R : Type) (k n : Nat) (vals : List Value) (H : Heap) (K : Xit → Env → Heap → Option R) : Option R := L_played_aa0 (L_played_l0 k) n vals H K
def L_played_Jt {R : Type} (k : Nat) (L_played_l0 : (Option Addr → Option Addr → Heap → Option R) → Nat → Option Addr → Nat → Nat → Option Addr → Option Addr → Int → Heap → Option R) : JTab R := tcons 0 (L_played_aa0 L_played_l0 k) <| fun _ _ _ _ => none
def L_played_J (R : Type) (k : Nat) : JTab R := L_played_Jt k (L_played_l0 k)
def L_played_at : AT := (.seq (.reg [0, 1, 2] []) (.seq (.reg [0, 1, 2, 8] []) (.seq (.reg [2, 8, 10] []) (.seq (.seq (.reg [2, 8, 10, 12] []) (.node (.opq 0 [2, 8, 10, 12] ⟨[], [(0, [8, 10])], []⟩ (.node (.seq (.seq (.reg [2, 8, 10, 12, 28] []) (.cond .leaf .leaf)) (.seq (.node (.seq (.reg [2, 8, 10, 12] []) (.reg [2, 8, 10, 12] []))) (.reg [2, 8, 10, 12] []))))))) (.seq (.reg [6, 7] []) .leaf)))))
def L_played_i0 : IC := (.seq (.seq (.reg [⟨some 25, .mov (.t 12), none⟩,
 ⟨some 26, .mov (.t 2), none⟩,
 ⟨some 27, .len false (.t 26), none⟩,
 ⟨some 28, .cmp .lss (.t 25) (.t 27), none⟩] [2, 8, 10, 12, 28]) (.cond (.t 28) .skip (.exit 0))) (.seq (.block 1 (.seq (.reg [⟨some 31, .mov (.t 8), none⟩,
 ⟨some 32, .mov (.t 2), none⟩,
 ⟨some 33, .mov (.t 12), none⟩,
 ⟨some 34, .ids 4 (.t 32) (.t 33), none⟩,
 ⟨some 35, .ld (.agg [(.int .i64), (.int .i64), (.int .i64), (.int .i64)]) (.t 34), none⟩,
 ⟨some 36, .call 32 [(.t 31), (.t 35)] (.one (.sc (.int .i64))), none⟩] [2, 8, 10, 12]) (.reg [⟨some 37, .mov (.t 10), none⟩,
 ⟨some 38, .mov (.t 2), none⟩,
 ⟨some 39, .mov (.t 12), none⟩,
 ⟨some 40, .ids 4 (.t 38) (.t 39), none⟩,
 ⟨some 41, .ld (.agg [(.int .i64), (.int .i64), (.int .i64), (.int .i64)]) (.t 40), none⟩,
 ⟨some 42, .call 38 [(.t 37), (.t 41)] (.one (.sc (.int .i64))), none⟩] [2, 8, 10, 12]))) (.reg [⟨some 29, .mov (.t 12), none⟩,
 ⟨some 30, .bin .add .i64 (.t 29) (.c (Go.Value.int Go.IntKind.i64 1)), none⟩,
 ⟨some 12, .mov (.t 30), none⟩] [2, 8, 10, 12])))
def L_played_f : IFn := ⟨45, [.t 6, .t 7], (.seq (.reg [⟨some 6, .mov (.c (Go.Value.pointer none)), none⟩,
 ⟨some 7, .mov (.c (Go.Value.pointer none)), none⟩] [0, 1, 2]) (.seq (.reg [⟨some 14, .mov (.t 0), none⟩,
 ⟨some 15, .mov (.t 1), none⟩,
 ⟨some 16, .call 31 [(.t 14), (.t 15)] (.tup [(.sc .ptr), (.sc (.int .i64))]), none⟩,
 ⟨some 13, .mov (.t 16), none⟩,
 ⟨some 17, .ext 0 (.t 13), none⟩,
 ⟨some 18, .ext 1 (.t 13), none⟩,
 ⟨some 8, .mov (.t 17), none⟩,
 ⟨some 9, .mov (.t 18), none⟩] [0, 1, 2, 8]) (.seq (.reg [⟨some 20, .mov (.t 0), none⟩,
 ⟨some 21, .mov (.t 1), none⟩,
 ⟨some 22, .call 36 [(.t 20), (.t 21)] (.tup [(.sc .ptr), (.sc (.int .i64))]), none⟩,
 ⟨some 19, .mov (.t 22), none⟩,
 ⟨some 23, .ext 0 (.t 19), none⟩,
 ⟨some 24, .ext 1 (.t 19), none⟩,
 ⟨some 10, .mov (.t 23), none⟩,
 ⟨some 11, .mov (.t 24), none⟩] [2, 8, 10]) (.seq (.seq (.reg [⟨some 12, .mov (.c (Go.Value.int Go.IntKind.i64 0)), none⟩] [2, 8, 10, 12]) (.block 0 (.opq 0 [2, 8, 10, 12] (.loop L_played_i0)))) (.seq (.reg [⟨some 43, .mov (.t 8), none⟩,
 ⟨some 44, .mov (.t 10), none⟩,
 ⟨some 6, .mov (.t 43), none⟩,
 ⟨some 7, .mov (.t 44), none⟩] [6, 7]) .ret)))))⟩
theorem L_played_e0 {R : Type} (cblk_New : Int → Int → Heap → (Option Addr → Int → Heap → Option R) → Option R) (R14_New : Int → Int → Heap → (Option Addr → Int → Heap → Option R) → Option R) (L_do : Option Addr → Int → Int → Int → Int → Heap → (Int → Heap → Option R) → Option R) (L_want : Option Addr → Int → Int → Int → Int → Heap → (Int → Heap → Option R) → Option R) (L_played_l0 : (Option Addr → Option Addr → Heap → Option R) → Nat → Option Addr → Nat → Nat → Option Addr → Option Addr → Int → Heap → Option R) (k n : Nat) (q430 : Option Addr) (l431 : Nat) (c432 : Nat) (p433 : Option Addr) (p434 : Option Addr) (n435 : Int) (H : Heap) (K : Xit → Env → Heap → Option R) : evJ (L_played_Ct cblk_New R14_New L_do L_want) (L_played_Jt k L_played_l0) L_played_i0 (List.zip [2, 8, 10, 12] [.slice q430 l431 c432, .pointer p433, .pointer p434, .int .i64 n435]) H (fun x e' H' => match x with | .normal => L_played_aa0 L_played_l0 n ((clean e' [2, 8, 10, 12]).map (·.2)) H' K | x => K x (clean e' ((⟨[], [(0, [8, 10])], []⟩ : Out).of x)) H') = L_played_l0_b L_do L_want (L_played_l0 (fun p1193 p1194 H => K (.exit 0) [(8, .pointer p1193), (10, .pointer p1194)] H) n) (fun p1193 p1194 H => K (.exit 0) [(8, .pointer p1193), (10, .pointer p1194)] H) k q430 l431 c432 p433 p434 n435 H := by kernel_rfl
theorem L_played_j0 {R : Type} (k : Nat) : JS Try.prog 45 (L_played_a0 R k k) [2, 8, 10, 12] ⟨[], [(0, [8, 10])], []⟩ (.loop (sel [1, 1, 1, 0, 1, 0, 0] (Try.f23.body.getD .skip))) :=
  loop_ok (nt := 45) (c := (sel [1, 1, 1, 0, 1, 0, 0] (Try.f23.body.getD .skip))) (C := L_played_C R k) (an := An) (t := (.seq (.seq (.reg [2, 8, 10, 12, 28] []) (.cond .leaf .leaf)) (.seq (.node (.seq (.reg [2, 8, 10, 12] []) (.reg [2, 8, 10, 12] []))) (.reg [2, 8, 10, 12] [])))) (ic := L_played_i0) (L_played_S R k) (L_played_J R k) (by kernel_rfl) (And.intro (And.intro True.intro (And.intro True.intro True.intro)) (And.intro (And.intro True.intro True.intro) True.intro)) (L_played_a0 R k) (fun vals H K => by unfold L_played_a0 L_played_aa0; split <;> rfl)
    (fun n vals H K r h => by
      unfold L_played_a0 L_played_aa0 at h
      split at h <;> first | (cases h; done) | exact Eq.trans (L_played_e0 cblk_New R14_New (L_do k) (L_want k) (L_played_l0 k) k n _ _ _ _ _ _ H K) h) k
def L_played_ca {R : Type} (f : Int → Int → Option Addr → Nat → Nat → Heap → (Option Addr → Option Addr → Heap → Option R) → Option R) (args : List Value) (H : Heap) (K : Value → Heap → Option R) : Option R :=
  match args with
  | [.int .i64 n419, .int .i64 n420, .slice q421 l422 c423] => f n419 n420 q421 l422 c423 H (fun p1195 p1196 H => K (.tuple ⟨[.pointer p1195, .pointer p1196]⟩) H)
  | _ => none
def L_played_c (R : Type) (k : Nat) (args : List Value) (H : Heap) (K : Value → Heap → Option R) : Option R := L_played_ca (L_played k) args H K
theorem L_played_e {R : Type} (cblk_New : Int → Int → Heap → (Option Addr → Int → Heap → Option R) → Option R) (R14_New : Int → Int → Heap → (Option Addr → Int → Heap → Option R) → Option R) (L_do : Option Addr → Int → Int → Int → Int → Heap → (Int → Heap → Option R) → Option R) (L_want : Option Addr → Int → Int → Int → Int → Heap → (Int → Heap → Option R) → Option R) (L_played_l0 : (Option Addr → Option Addr → Heap → Option R) → Nat → Option Addr → Nat → Nat → Option Addr → Option Addr → Int → Heap → Option R) (k : Nat) (n419 : Int) (n420 : Int) (q421 : Option Addr) (l422 : Nat) (c423 : Nat) (H : Heap) (K : Value → Heap → Option R) : evF (L_played_Ct cblk_New R14_New L_do L_want) (L_played_Jt k L_played_l0) L_played_f [.int .i64 n419, .int .i64 n420, .slice q421 l422 c423] H K = L_played_b cblk_New R14_New L_played_l0 k n419 n420 q421 l422 c423 H (fun p1195 p1196 H => K (.tuple ⟨[.pointer p1195, .pointer p1196]⟩) H) := by kernel_rfl
theorem L_played_cs (R : Type) (k : Nat) : ∀ args H K r, L_played_c R k args H K = some r → ∃ v H', Tri Try.prog 23 args H v H' ∧ K v H' = some r := by
  intro args H K r h
  unfold L_played_c L_played_ca at h
  split at h
  · exact evF_ok (C := L_played_C R k) (an := An) (t := L_played_at) (fn := Try.f23) (c := (Try.f23.body.getD .skip)) (ifn := L_played_f) (L_played_S R k) (L_played_J R k) Try.func23 (by kernel_rfl) (by kernel_rfl) (And.intro True.intro (And.intro True.intro (And.intro True.intro (And.intro (And.intro True.intro (L_played_j0 k)) (And.intro True.intro True.intro))))) rfl (Eq.trans (L_played_e cblk_New R14_New (L_do k) (L_want k) (L_played_l0 k) k _ _ _ _ _ H K) h)
  · cases h
end Go.Proofs.Ytblpaolcgkjcgaa.Sh
