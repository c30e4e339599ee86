/- Lean functions that stand for Go's, over an explicit heap, and the proofs that they do (written by this claim's program shallow.py). -/
import Derived.Test.YtiapgcgpdndkiaaSh0
set_option maxRecDepth 100000
set_option linter.unusedVariables false
set_option linter.unusedSimpArgs false
namespace Go.Proofs.Ytiapgcgpdndkiaa.Sh
open Go.Proofs.Ytiapgcgpdndkiaa.FW
/-! ### bitio_Writer_Put: function 23 -/
def bitio_Writer_Put_p0_b {R : Type} (k : Nat) (p158 : Option Addr) (n159 : Int) (KN : Option Addr → Int → Option R) (KR : Int → Option R) : Option R :=
bif (n159 != 0) then (bif (n159 != 1) then (KR 1)
 else (KN p158 n159))
 else (KN p158 n159)
def bitio_Writer_Put_p0 {R : Type} (k : Nat) (p158 : Option Addr) (n159 : Int) (KN : Option Addr → Int → Option R) (KR : Int → Option R) : Option R := bitio_Writer_Put_p0_b k p158 n159 KN KR

def bitio_Writer_Put_b {R : Type} (bitio_Writer_ok : Option Addr → Heap → (Bool → Option R) → Option R) (bitio_Writer_Put_p0 : Option Addr → Int → (Option Addr → Int → Option R) → (Int → Option R) → Option R) (bitio_Writer_put : Option Addr → Int → Heap → (Heap → Option R) → Option R) (k : Nat) (p155 : Option Addr) (n156 : Int) (H : Heap) (K : Int → Heap → Option R) : Option R :=
bitio_Writer_ok p155 H fun t157 =>
bif (!t157) then (K 6 H)
 else (bitio_Writer_Put_p0 p155 n156 (fun p163 n164 =>
bitio_Writer_put p163 n164 H fun H165 =>
K 0 H165) (fun n166 =>
K n166 H))

def bitio_Writer_Put {R : Type} (k : Nat) (p155 : Option Addr) (n156 : Int) (H : Heap) (K : Int → Heap → Option R) : Option R := bitio_Writer_Put_b bitio_Writer_ok (bitio_Writer_Put_p0 k) (bitio_Writer_put k) k p155 n156 H K

def bitio_Writer_Put_Ct {R : Type} (bitio_Writer_ok : Option Addr → Heap → (Bool → Option R) → Option R) (bitio_Writer_put : Option Addr → Int → Heap → (Heap → Option R) → Option R) : Tab R := tcons 37 (bitio_Writer_ok_ca bitio_Writer_ok) <| tcons 40 (bitio_Writer_put_ca bitio_Writer_put) <| fun _ _ _ _ => none
def bitio_Writer_Put_C (R : Type) (k : Nat) : Tab R := bitio_Writer_Put_Ct bitio_Writer_ok (bitio_Writer_put k)
theorem bitio_Writer_Put_S (R : Type) (k : Nat) : CSound Try.prog (bitio_Writer_Put_C R k) := csound_cons (bitio_Writer_ok_cs R k) <| csound_cons (bitio_Writer_put_cs R k) <| csound_nil
def bitio_Writer_Put_aa0 {R : Type} (f : Option Addr → Int → (Option Addr → Int → Option R) → (Int → Option R) → Option R) (n : Nat) (vals : List Value) (H : Heap) (K : Xit → Env → Heap → Option R) : Option R :=
  match vals with
  | [.pointer p158, .int .i64 n159] => f p158 n159 (fun p942 n943 => K .normal [(0, .pointer p942), (1, .int .i64 n943)] H) (fun n944 => K .ret [(4, .int .i64 n944)] H)
  | _ => none
def bitio_Writer_Put_a0 (R : Type) (k n : Nat) (vals : List Value) (H : Heap) (K : Xit → Env → Heap → Option R) : Option R := bitio_Writer_Put_aa0 (bitio_Writer_Put_p0 k) n vals H K
def bitio_Writer_Put_Jt {R : Type} (k : Nat) (bitio_Writer_Put_p0 : Option Addr → Int → (Option Addr → Int → Option R) → (Int → Option R) → Option R) : JTab R := tcons 0 (bitio_Writer_Put_aa0 bitio_Writer_Put_p0 k) <| fun _ _ _ _ => none
def bitio_Writer_Put_J (R : Type) (k : Nat) : JTab R := bitio_Writer_Put_Jt k (bitio_Writer_Put_p0 k)
def bitio_Writer_Put_at : AT := (.seq (.reg [0, 1] []) (.seq (.seq (.reg [0, 1, 7] []) (.cond (.seq (.reg [4] []) .leaf) .leaf)) (.seq (.opq 0 [0, 1] ⟨[0, 1], [], [4]⟩ (.seq (.reg [0, 1, 13] []) (.cond (.seq (.reg [4] []) .leaf) .leaf))) (.seq (.reg [] []) (.seq (.reg [4] []) .leaf)))))
def bitio_Writer_Put_i0 : IC := (.seq (.reg [⟨some 8, .mov (.t 1), none⟩,
 ⟨some 9, .cmp .neq (.t 8) (.c (Go.Value.int Go.IntKind.i64 0)), none⟩,
 ⟨some 10, .mov (.t 9), none⟩,
 ⟨some 11, .mov (.t 1), some (10, true)⟩,
 ⟨some 12, .cmp .neq (.t 11) (.c (Go.Value.int Go.IntKind.i64 1)), some (10, true)⟩,
 ⟨some 13, .pick (.t 10) (.t 12) (.c (Go.Value.bool false)), none⟩] [0, 1, 13]) (.cond (.t 13) (.seq (.reg [⟨some 4, .mov (.c (Go.Value.int Go.IntKind.i64 1)), none⟩] [4]) .ret) .skip))
def bitio_Writer_Put_f : IFn := ⟨17, [.t 4], (.seq (.reg [⟨some 4, .mov (.c (Go.Value.int Go.IntKind.i64 0)), none⟩] [0, 1]) (.seq (.seq (.reg [⟨some 5, .mov (.t 0), none⟩,
 ⟨some 6, .call 37 [(.t 5)] (.one (.sc .bool)), none⟩,
 ⟨some 7, .lnot (.t 6), none⟩] [0, 1, 7]) (.cond (.t 7) (.seq (.reg [⟨some 4, .mov (.c (Go.Value.int Go.IntKind.i64 6)), none⟩] [4]) .ret) .skip)) (.seq (.opq 0 [0, 1] bitio_Writer_Put_i0) (.seq (.reg [⟨some 14, .mov (.t 0), none⟩,
 ⟨some 15, .mov (.t 1), none⟩,
 ⟨some 16, .call 40 [(.t 14), (.t 15)] .none, none⟩] []) (.seq (.reg [⟨some 4, .mov (.c (Go.Value.int Go.IntKind.i64 0)), none⟩] [4]) .ret)))))⟩
theorem bitio_Writer_Put_e0 {R : Type} (bitio_Writer_ok : Option Addr → Heap → (Bool → Option R) → Option R) (bitio_Writer_put : Option Addr → Int → Heap → (Heap → Option R) → Option R) (bitio_Writer_Put_p0 : Option Addr → Int → (Option Addr → Int → Option R) → (Int → Option R) → Option R) (k : Nat) (p158 : Option Addr) (n159 : Int) (H : Heap) (K : Xit → Env → Heap → Option R) : evJ (bitio_Writer_Put_Ct bitio_Writer_ok bitio_Writer_put) (bitio_Writer_Put_Jt k bitio_Writer_Put_p0) bitio_Writer_Put_i0 (List.zip [0, 1] [.pointer p158, .int .i64 n159]) H (fun x e' H' => K x (clean e' ((⟨[0, 1], [], [4]⟩ : Out).of x)) H') = bitio_Writer_Put_p0_b k p158 n159 (fun p942 n943 => K .normal [(0, .pointer p942), (1, .int .i64 n943)] H) (fun n944 => K .ret [(4, .int .i64 n944)] H) := by kernel_rfl
theorem bitio_Writer_Put_j0 {R : Type} (k : Nat) : JS Try.prog 17 (bitio_Writer_Put_a0 R k k) [0, 1] ⟨[0, 1], [], [4]⟩ (sel [1, 1, 0] (Try.f23.body.getD .skip)) :=
  piece_ok (nt := 17) (c := (sel [1, 1, 0] (Try.f23.body.getD .skip))) (C := bitio_Writer_Put_C R k) (an := An) (t := (.seq (.reg [0, 1, 13] []) (.cond (.seq (.reg [4] []) .leaf) .leaf))) (ic := bitio_Writer_Put_i0) (bitio_Writer_Put_S R k) (bitio_Writer_Put_J R k) (by kernel_rfl) (And.intro True.intro (And.intro (And.intro True.intro True.intro) True.intro)) (bitio_Writer_Put_a0 R k k)
    (fun vals H K r h => by
      unfold bitio_Writer_Put_a0 bitio_Writer_Put_aa0 at h
      split at h <;> first | (cases h; done) | exact Eq.trans (bitio_Writer_Put_e0 bitio_Writer_ok (bitio_Writer_put k) (bitio_Writer_Put_p0 k) k _ _ H K) h)
def bitio_Writer_Put_ca {R : Type} (f : Option Addr → Int → Heap → (Int → Heap → Option R) → Option R) (args : List Value) (H : Heap) (K : Value → Heap → Option R) : Option R :=
  match args with
  | [.pointer p155, .int .i64 n156] => f p155 n156 H (fun n945 H => K (.int .i64 n945) H)
  | _ => none
def bitio_Writer_Put_c (R : Type) (k : Nat) (args : List Value) (H : Heap) (K : Value → Heap → Option R) : Option R := bitio_Writer_Put_ca (bitio_Writer_Put k) args H K
theorem bitio_Writer_Put_e {R : Type} (bitio_Writer_ok : Option Addr → Heap → (Bool → Option R) → Option R) (bitio_Writer_put : Option Addr → Int → Heap → (Heap → Option R) → Option R) (bitio_Writer_Put_p0 : Option Addr → Int → (Option Addr → Int → Option R) → (Int → Option R) → Option R) (k : Nat) (p155 : Option Addr) (n156 : Int) (H : Heap) (K : Value → Heap → Option R) : evF (bitio_Writer_Put_Ct bitio_Writer_ok bitio_Writer_put) (bitio_Writer_Put_Jt k bitio_Writer_Put_p0) bitio_Writer_Put_f [.pointer p155, .int .i64 n156] H K = bitio_Writer_Put_b bitio_Writer_ok bitio_Writer_Put_p0 bitio_Writer_put k p155 n156 H (fun n945 H => K (.int .i64 n945) H) := by kernel_rfl
theorem bitio_Writer_Put_cs (R : Type) (k : Nat) : ∀ args H K r, bitio_Writer_Put_c R k args H K = some r → ∃ v H', Tri Try.prog 23 args H v H' ∧ K v H' = some r := by
  intro args H K r h
  unfold bitio_Writer_Put_c bitio_Writer_Put_ca at h
  split at h
  · exact evF_ok (C := bitio_Writer_Put_C R k) (an := An) (t := bitio_Writer_Put_at) (fn := Try.f23) (c := (Try.f23.body.getD .skip)) (ifn := bitio_Writer_Put_f) (bitio_Writer_Put_S R k) (bitio_Writer_Put_J R k) Try.func23 (by kernel_rfl) (by kernel_rfl) (And.intro True.intro (And.intro (And.intro True.intro (And.intro (And.intro True.intro True.intro) True.intro)) (And.intro (bitio_Writer_Put_j0 k) (And.intro True.intro (And.intro True.intro True.intro))))) rfl (Eq.trans (bitio_Writer_Put_e bitio_Writer_ok (bitio_Writer_put k) (bitio_Writer_Put_p0 k) k _ _ H K) h)
  · cases h
end Go.Proofs.Ytiapgcgpdndkiaa.Sh
