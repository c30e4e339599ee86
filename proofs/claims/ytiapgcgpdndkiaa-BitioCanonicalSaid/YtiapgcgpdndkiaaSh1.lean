/- Lean functions that stand for Go's, over an explicit heap, and the proofs that they do (written by this claim's program shallow.py). -/
import Derived.Test.YtiapgcgpdndkiaaSh0
set_option maxRecDepth 100000
set_option linter.unusedVariables false
set_option linter.unusedSimpArgs false
namespace Go.Proofs.Ytiapgcgpdndkiaa.Sh
open Go.Proofs.Ytiapgcgpdndkiaa.FW
/-! ### bitio_Writer_Gamma: function 30 -/
def bitio_Writer_Gamma_p0_b {R : Type} (k : Nat) (p195 : Option Addr) (n196 : Int) (KN : Option Addr → Int → Option R) (KR : Int → Option R) : Option R :=
bif decide (n196 < 1) then (KR 1)
 else (bif decide (n196 ≥ 4294967296) then (KR 1)
 else (KN p195 n196))
def bitio_Writer_Gamma_p0 {R : Type} (k : Nat) (p195 : Option Addr) (n196 : Int) (KN : Option Addr → Int → Option R) (KR : Int → Option R) : Option R := bitio_Writer_Gamma_p0_b k p195 n196 KN KR

def bitio_Writer_Gamma_l1_b {R : Type} (rec : Option Addr → Int → Int → Option R) (KE0 : Option Addr → Int → Int → Option R) (k : Nat) (p202 : Option Addr) (n203 : Int) (n204 : Int) : Option R :=
hbin .shr .i64 n203 (IntKind.wrap .u64 n204) fun n205 =>
bif decide (n205 > 1) then (rec p202 n203 (IntKind.wrap .i64 (n204 + 1)))
 else (KE0 p202 n203 n204)
def bitio_Writer_Gamma_l1 {R : Type} (k : Nat) (KE0 : Option Addr → Int → Int → Option R) : Nat → Option Addr → Int → Int → Option R
  | 0, _, _, _ => none
  | n + 1, p202, n203, n204 => bitio_Writer_Gamma_l1_b (bitio_Writer_Gamma_l1 k KE0 n) KE0 k p202 n203 n204

def bitio_Writer_Gamma_l2_b {R : Type} (bitio_Writer_put : Option Addr → Int → Heap → (Heap → Option R) → Option R) (rec : Option Addr → Int → Int → Int → Int → Heap → Option R) (KE2 : Option Addr → Int → Int → Heap → Option R) (k : Nat) (p212 : Option Addr) (n213 : Int) (n214 : Int) (n215 : Int) (n216 : Int) (H : Heap) : Option R :=
bif decide (n216 < n215) then (bitio_Writer_put p212 0 H fun H217 =>
rec p212 n213 n214 n215 (IntKind.wrap .i64 (n216 + 1)) H217)
 else (KE2 p212 n213 n214 H)
def bitio_Writer_Gamma_l2 {R : Type} (k : Nat) (KE2 : Option Addr → Int → Int → Heap → Option R) : Nat → Option Addr → Int → Int → Int → Int → Heap → Option R
  | 0, _, _, _, _, _, _ => none
  | n + 1, p212, n213, n214, n215, n216, H => bitio_Writer_Gamma_l2_b (bitio_Writer_put k) (bitio_Writer_Gamma_l2 k KE2 n) KE2 k p212 n213 n214 n215 n216 H

def bitio_Writer_Gamma_b {R : Type} (bitio_Writer_ok : Option Addr → Heap → (Bool → Option R) → Option R) (bitio_Writer_Gamma_p0 : Option Addr → Int → (Option Addr → Int → Option R) → (Int → Option R) → Option R) (bitio_Writer_Gamma_l1 : (Option Addr → Int → Int → Option R) → Nat → Option Addr → Int → Int → Option R) (bitio_Writer_Gamma_l2 : (Option Addr → Int → Int → Heap → Option R) → Nat → Option Addr → Int → Int → Int → Int → Heap → Option R) (bitio_Writer_Bits : Option Addr → Int → Int → Heap → (Int → Heap → Option R) → Option R) (k : Nat) (p192 : Option Addr) (n193 : Int) (H : Heap) (K : Int → Heap → Option R) : Option R :=
bitio_Writer_ok p192 H fun t194 =>
bif (!t194) then (K 6 H)
 else (bitio_Writer_Gamma_p0 p192 n193 (fun p200 n201 =>
bitio_Writer_Gamma_l1 (fun p209 n210 n211 =>
bitio_Writer_Gamma_l2 (fun p221 n222 n223 H224 =>
bitio_Writer_Bits p221 n222 (IntKind.wrap .i64 (n223 + 1)) H224 fun n225 H226 =>
K n225 H226) k p209 n210 n211 n211 0 H) k p200 n201 0) (fun n227 =>
K n227 H))

def bitio_Writer_Gamma {R : Type} (k : Nat) (p192 : Option Addr) (n193 : Int) (H : Heap) (K : Int → Heap → Option R) : Option R := bitio_Writer_Gamma_b bitio_Writer_ok (bitio_Writer_Gamma_p0 k) (bitio_Writer_Gamma_l1 k) (bitio_Writer_Gamma_l2 k) (bitio_Writer_Bits k) k p192 n193 H K

def bitio_Writer_Gamma_Ct {R : Type} (bitio_Writer_ok : Option Addr → Heap → (Bool → Option R) → Option R) (bitio_Writer_put : Option Addr → Int → Heap → (Heap → Option R) → Option R) (bitio_Writer_Bits : Option Addr → Int → Int → Heap → (Int → Heap → Option R) → Option R) : Tab R := tcons 37 (bitio_Writer_ok_ca bitio_Writer_ok) <| tcons 40 (bitio_Writer_put_ca bitio_Writer_put) <| tcons 32 (bitio_Writer_Bits_ca bitio_Writer_Bits) <| fun _ _ _ _ => none
def bitio_Writer_Gamma_C (R : Type) (k : Nat) : Tab R := bitio_Writer_Gamma_Ct bitio_Writer_ok (bitio_Writer_put k) (bitio_Writer_Bits k)
theorem bitio_Writer_Gamma_S (R : Type) (k : Nat) : CSound Try.prog (bitio_Writer_Gamma_C R k) := csound_cons (bitio_Writer_ok_cs R k) <| csound_cons (bitio_Writer_put_cs R k) <| csound_cons (bitio_Writer_Bits_cs R k) <| csound_nil
def bitio_Writer_Gamma_aa0 {R : Type} (f : Option Addr → Int → (Option Addr → Int → Option R) → (Int → Option R) → Option R) (n : Nat) (vals : List Value) (H : Heap) (K : Xit → Env → Heap → Option R) : Option R :=
  match vals with
  | [.pointer p195, .int .i64 n196] => f p195 n196 (fun p892 n893 => K .normal [(0, .pointer p892), (1, .int .i64 n893)] H) (fun n894 => K .ret [(4, .int .i64 n894)] H)
  | _ => none
def bitio_Writer_Gamma_a0 (R : Type) (k n : Nat) (vals : List Value) (H : Heap) (K : Xit → Env → Heap → Option R) : Option R := bitio_Writer_Gamma_aa0 (bitio_Writer_Gamma_p0 k) n vals H K
def bitio_Writer_Gamma_aa1 {R : Type} (f : (Option Addr → Int → Int → Option R) → Nat → Option Addr → Int → Int → Option R) (n : Nat) (vals : List Value) (H : Heap) (K : Xit → Env → Heap → Option R) : Option R :=
  match vals with
  | [.pointer p202, .int .i64 n203, .int .i64 n204] => f (fun p895 n896 n897 => K (.exit 0) [(0, .pointer p895), (1, .int .i64 n896), (5, .int .i64 n897)] H) n p202 n203 n204
  | _ => none
def bitio_Writer_Gamma_a1 (R : Type) (k n : Nat) (vals : List Value) (H : Heap) (K : Xit → Env → Heap → Option R) : Option R := bitio_Writer_Gamma_aa1 (bitio_Writer_Gamma_l1 k) n vals H K
def bitio_Writer_Gamma_aa2 {R : Type} (f : (Option Addr → Int → Int → Heap → Option R) → Nat → Option Addr → Int → Int → Int → Int → Heap → Option R) (n : Nat) (vals : List Value) (H : Heap) (K : Xit → Env → Heap → Option R) : Option R :=
  match vals with
  | [.pointer p212, .int .i64 n213, .int .i64 n214, .int .i64 n215, .int .i64 n216] => f (fun p898 n899 n900 H => K (.exit 2) [(0, .pointer p898), (1, .int .i64 n899), (5, .int .i64 n900)] H) n p212 n213 n214 n215 n216 H
  | _ => none
def bitio_Writer_Gamma_a2 (R : Type) (k n : Nat) (vals : List Value) (H : Heap) (K : Xit → Env → Heap → Option R) : Option R := bitio_Writer_Gamma_aa2 (bitio_Writer_Gamma_l2 k) n vals H K
def bitio_Writer_Gamma_Jt {R : Type} (k : Nat) (bitio_Writer_Gamma_p0 : Option Addr → Int → (Option Addr → Int → Option R) → (Int → Option R) → Option R) (bitio_Writer_Gamma_l1 : (Option Addr → Int → Int → Option R) → Nat → Option Addr → Int → Int → Option R) (bitio_Writer_Gamma_l2 : (Option Addr → Int → Int → Heap → Option R) → Nat → Option Addr → Int → Int → Int → Int → Heap → Option R) : JTab R := tcons 0 (bitio_Writer_Gamma_aa0 bitio_Writer_Gamma_p0 k) <| tcons 1 (bitio_Writer_Gamma_aa1 bitio_Writer_Gamma_l1 k) <| tcons 2 (bitio_Writer_Gamma_aa2 bitio_Writer_Gamma_l2 k) <| fun _ _ _ _ => none
def bitio_Writer_Gamma_J (R : Type) (k : Nat) : JTab R := bitio_Writer_Gamma_Jt k (bitio_Writer_Gamma_p0 k) (bitio_Writer_Gamma_l1 k) (bitio_Writer_Gamma_l2 k)
def bitio_Writer_Gamma_at : AT := (.seq (.reg [0, 1] []) (.seq (.seq (.reg [0, 1, 8] []) (.cond (.seq (.reg [4] []) .leaf) .leaf)) (.seq (.opq 0 [0, 1] ⟨[0, 1], [], [4]⟩ (.seq (.reg [0, 1, 14] []) (.cond (.seq (.reg [4] []) .leaf) .leaf))) (.seq (.reg [0, 1, 5] []) (.seq (.node (.opq 1 [0, 1, 5] ⟨[], [(0, [0, 1, 5])], []⟩ (.node (.seq (.seq (.reg [0, 1, 5, 19] []) (.cond .leaf .leaf)) (.node (.reg [0, 1, 5] [])))))) (.seq (.seq (.reg [0, 1, 5, 22, 23] []) (.node (.opq 2 [0, 1, 5, 22, 23] ⟨[], [(2, [0, 1, 5])], []⟩ (.node (.seq (.reg [0, 1, 5, 22, 23, 24] []) (.seq (.cond .leaf .leaf) (.seq (.node (.reg [0, 1, 5, 22, 23] [])) (.reg [0, 1, 5, 22, 23] [])))))))) (.seq (.reg [4] []) .leaf)))))))
def bitio_Writer_Gamma_i2 : IC := (.seq (.reg [⟨some 24, .cmp .lss (.t 23) (.t 22), none⟩] [0, 1, 5, 22, 23, 24]) (.seq (.cond (.t 24) .skip (.exit 2)) (.seq (.block 3 (.reg [⟨some 25, .mov (.t 0), none⟩,
 ⟨some 26, .call 40 [(.t 25), (.c (Go.Value.int Go.IntKind.i64 0))] .none, none⟩] [0, 1, 5, 22, 23])) (.reg [⟨some 27, .bin .add .i64 (.t 23) (.c (Go.Value.int Go.IntKind.i64 1)), none⟩,
 ⟨some 23, .mov (.t 27), none⟩] [0, 1, 5, 22, 23]))))
def bitio_Writer_Gamma_i1 : IC := (.seq (.seq (.reg [⟨some 15, .mov (.t 1), none⟩,
 ⟨some 16, .mov (.t 5), none⟩,
 ⟨some 17, .cnv .u64 (.t 16), none⟩,
 ⟨some 18, .bin .shr .i64 (.t 15) (.t 17), none⟩,
 ⟨some 19, .cmp .gtr (.t 18) (.c (Go.Value.int Go.IntKind.i64 1)), none⟩] [0, 1, 5, 19]) (.cond (.t 19) .skip (.exit 0))) (.block 1 (.reg [⟨some 20, .mov (.t 5), none⟩,
 ⟨some 21, .bin .add .i64 (.t 20) (.c (Go.Value.int Go.IntKind.i64 1)), none⟩,
 ⟨some 5, .mov (.t 21), none⟩] [0, 1, 5])))
def bitio_Writer_Gamma_i0 : IC := (.seq (.reg [⟨some 9, .mov (.t 1), none⟩,
 ⟨some 10, .cmp .lss (.t 9) (.c (Go.Value.int Go.IntKind.i64 1)), none⟩,
 ⟨some 11, .mov (.t 10), none⟩,
 ⟨some 12, .mov (.t 1), some (11, false)⟩,
 ⟨some 13, .cmp .geq (.t 12) (.c (Go.Value.int Go.IntKind.i64 4294967296)), some (11, false)⟩,
 ⟨some 14, .pick (.t 11) (.c (Go.Value.bool true)) (.t 13), none⟩] [0, 1, 14]) (.cond (.t 14) (.seq (.reg [⟨some 4, .mov (.c (Go.Value.int Go.IntKind.i64 1)), none⟩] [4]) .ret) .skip))
def bitio_Writer_Gamma_f : IFn := ⟨33, [.t 4], (.seq (.reg [⟨some 4, .mov (.c (Go.Value.int Go.IntKind.i64 0)), none⟩] [0, 1]) (.seq (.seq (.reg [⟨some 6, .mov (.t 0), none⟩,
 ⟨some 7, .call 37 [(.t 6)] (.one (.sc .bool)), none⟩,
 ⟨some 8, .lnot (.t 7), none⟩] [0, 1, 8]) (.cond (.t 8) (.seq (.reg [⟨some 4, .mov (.c (Go.Value.int Go.IntKind.i64 6)), none⟩] [4]) .ret) .skip)) (.seq (.opq 0 [0, 1] bitio_Writer_Gamma_i0) (.seq (.reg [⟨some 5, .mov (.c (Go.Value.int Go.IntKind.i64 0)), none⟩] [0, 1, 5]) (.seq (.block 0 (.opq 1 [0, 1, 5] (.loop bitio_Writer_Gamma_i1))) (.seq (.seq (.reg [⟨some 22, .mov (.t 5), none⟩,
 ⟨some 23, .mov (.c (Go.Value.int Go.IntKind.i64 0)), none⟩] [0, 1, 5, 22, 23]) (.block 2 (.opq 2 [0, 1, 5, 22, 23] (.loop bitio_Writer_Gamma_i2)))) (.seq (.reg [⟨some 28, .mov (.t 0), none⟩,
 ⟨some 29, .mov (.t 1), none⟩,
 ⟨some 30, .mov (.t 5), none⟩,
 ⟨some 31, .bin .add .i64 (.t 30) (.c (Go.Value.int Go.IntKind.i64 1)), none⟩,
 ⟨some 32, .call 32 [(.t 28), (.t 29), (.t 31)] (.one (.sc (.int .i64))), none⟩,
 ⟨some 4, .mov (.t 32), none⟩] [4]) .ret)))))))⟩
theorem bitio_Writer_Gamma_e2 {R : Type} (bitio_Writer_ok : Option Addr → Heap → (Bool → Option R) → Option R) (bitio_Writer_put : Option Addr → Int → Heap → (Heap → Option R) → Option R) (bitio_Writer_Bits : Option Addr → Int → Int → Heap → (Int → Heap → Option R) → Option R) (bitio_Writer_Gamma_p0 : Option Addr → Int → (Option Addr → Int → Option R) → (Int → Option R) → Option R) (bitio_Writer_Gamma_l1 : (Option Addr → Int → Int → Option R) → Nat → Option Addr → Int → Int → Option R) (bitio_Writer_Gamma_l2 : (Option Addr → Int → Int → Heap → Option R) → Nat → Option Addr → Int → Int → Int → Int → Heap → Option R) (k n : Nat) (p212 : Option Addr) (n213 : Int) (n214 : Int) (n215 : Int) (n216 : Int) (H : Heap) (K : Xit → Env → Heap → Option R) : evJ (bitio_Writer_Gamma_Ct bitio_Writer_ok bitio_Writer_put bitio_Writer_Bits) (bitio_Writer_Gamma_Jt k bitio_Writer_Gamma_p0 bitio_Writer_Gamma_l1 bitio_Writer_Gamma_l2) bitio_Writer_Gamma_i2 (List.zip [0, 1, 5, 22, 23] [.pointer p212, .int .i64 n213, .int .i64 n214, .int .i64 n215, .int .i64 n216]) H (fun x e' H' => match x with | .normal => bitio_Writer_Gamma_aa2 bitio_Writer_Gamma_l2 n ((clean e' [0, 1, 5, 22, 23]).map (·.2)) H' K | x => K x (clean e' ((⟨[], [(2, [0, 1, 5])], []⟩ : Out).of x)) H') = bitio_Writer_Gamma_l2_b bitio_Writer_put (bitio_Writer_Gamma_l2 (fun p898 n899 n900 H => K (.exit 2) [(0, .pointer p898), (1, .int .i64 n899), (5, .int .i64 n900)] H) n) (fun p898 n899 n900 H => K (.exit 2) [(0, .pointer p898), (1, .int .i64 n899), (5, .int .i64 n900)] H) k p212 n213 n214 n215 n216 H := by kernel_rfl
theorem bitio_Writer_Gamma_j2 {R : Type} (k : Nat) : JS Try.prog 33 (bitio_Writer_Gamma_a2 R k k) [0, 1, 5, 22, 23] ⟨[], [(2, [0, 1, 5])], []⟩ (.loop (sel [1, 1, 1, 1, 1, 0, 1, 0, 0] (Try.f30.body.getD .skip))) :=
  loop_ok (nt := 33) (c := (sel [1, 1, 1, 1, 1, 0, 1, 0, 0] (Try.f30.body.getD .skip))) (C := bitio_Writer_Gamma_C R k) (an := An) (t := (.seq (.reg [0, 1, 5, 22, 23, 24] []) (.seq (.cond .leaf .leaf) (.seq (.node (.reg [0, 1, 5, 22, 23] [])) (.reg [0, 1, 5, 22, 23] []))))) (ic := bitio_Writer_Gamma_i2) (bitio_Writer_Gamma_S R k) (bitio_Writer_Gamma_J R k) (by kernel_rfl) (And.intro True.intro (And.intro (And.intro True.intro True.intro) (And.intro True.intro True.intro))) (bitio_Writer_Gamma_a2 R k) (fun vals H K => by unfold bitio_Writer_Gamma_a2 bitio_Writer_Gamma_aa2; split <;> rfl)
    (fun n vals H K r h => by
      unfold bitio_Writer_Gamma_a2 bitio_Writer_Gamma_aa2 at h
      split at h <;> first | (cases h; done) | exact Eq.trans (bitio_Writer_Gamma_e2 bitio_Writer_ok (bitio_Writer_put k) (bitio_Writer_Bits k) (bitio_Writer_Gamma_p0 k) (bitio_Writer_Gamma_l1 k) (bitio_Writer_Gamma_l2 k) k n _ _ _ _ _ H K) h) k
theorem bitio_Writer_Gamma_e1 {R : Type} (bitio_Writer_ok : Option Addr → Heap → (Bool → Option R) → Option R) (bitio_Writer_put : Option Addr → Int → Heap → (Heap → Option R) → Option R) (bitio_Writer_Bits : Option Addr → Int → Int → Heap → (Int → Heap → Option R) → Option R) (bitio_Writer_Gamma_p0 : Option Addr → Int → (Option Addr → Int → Option R) → (Int → Option R) → Option R) (bitio_Writer_Gamma_l1 : (Option Addr → Int → Int → Option R) → Nat → Option Addr → Int → Int → Option R) (bitio_Writer_Gamma_l2 : (Option Addr → Int → Int → Heap → Option R) → Nat → Option Addr → Int → Int → Int → Int → Heap → Option R) (k n : Nat) (p202 : Option Addr) (n203 : Int) (n204 : Int) (H : Heap) (K : Xit → Env → Heap → Option R) : evJ (bitio_Writer_Gamma_Ct bitio_Writer_ok bitio_Writer_put bitio_Writer_Bits) (bitio_Writer_Gamma_Jt k bitio_Writer_Gamma_p0 bitio_Writer_Gamma_l1 bitio_Writer_Gamma_l2) bitio_Writer_Gamma_i1 (List.zip [0, 1, 5] [.pointer p202, .int .i64 n203, .int .i64 n204]) H (fun x e' H' => match x with | .normal => bitio_Writer_Gamma_aa1 bitio_Writer_Gamma_l1 n ((clean e' [0, 1, 5]).map (·.2)) H' K | x => K x (clean e' ((⟨[], [(0, [0, 1, 5])], []⟩ : Out).of x)) H') = bitio_Writer_Gamma_l1_b (bitio_Writer_Gamma_l1 (fun p895 n896 n897 => K (.exit 0) [(0, .pointer p895), (1, .int .i64 n896), (5, .int .i64 n897)] H) n) (fun p895 n896 n897 => K (.exit 0) [(0, .pointer p895), (1, .int .i64 n896), (5, .int .i64 n897)] H) k p202 n203 n204 := by kernel_rfl
theorem bitio_Writer_Gamma_j1 {R : Type} (k : Nat) : JS Try.prog 33 (bitio_Writer_Gamma_a1 R k k) [0, 1, 5] ⟨[], [(0, [0, 1, 5])], []⟩ (.loop (sel [1, 1, 1, 1, 0, 0, 0] (Try.f30.body.getD .skip))) :=
  loop_ok (nt := 33) (c := (sel [1, 1, 1, 1, 0, 0, 0] (Try.f30.body.getD .skip))) (C := bitio_Writer_Gamma_C R k) (an := An) (t := (.seq (.seq (.reg [0, 1, 5, 19] []) (.cond .leaf .leaf)) (.node (.reg [0, 1, 5] [])))) (ic := bitio_Writer_Gamma_i1) (bitio_Writer_Gamma_S R k) (bitio_Writer_Gamma_J R k) (by kernel_rfl) (And.intro (And.intro True.intro (And.intro True.intro True.intro)) True.intro) (bitio_Writer_Gamma_a1 R k) (fun vals H K => by unfold bitio_Writer_Gamma_a1 bitio_Writer_Gamma_aa1; split <;> rfl)
    (fun n vals H K r h => by
      unfold bitio_Writer_Gamma_a1 bitio_Writer_Gamma_aa1 at h
      split at h <;> first | (cases h; done) | exact Eq.trans (bitio_Writer_Gamma_e1 bitio_Writer_ok (bitio_Writer_put k) (bitio_Writer_Bits k) (bitio_Writer_Gamma_p0 k) (bitio_Writer_Gamma_l1 k) (bitio_Writer_Gamma_l2 k) k n _ _ _ H K) h) k
theorem bitio_Writer_Gamma_e0 {R : Type} (bitio_Writer_ok : Option Addr → Heap → (Bool → Option R) → Option R) (bitio_Writer_put : Option Addr → Int → Heap → (Heap → Option R) → Option R) (bitio_Writer_Bits : Option Addr → Int → Int → Heap → (Int → Heap → Option R) → Option R) (bitio_Writer_Gamma_p0 : Option Addr → Int → (Option Addr → Int → Option R) → (Int → Option R) → Option R) (bitio_Writer_Gamma_l1 : (Option Addr → Int → Int → Option R) → Nat → Option Addr → Int → Int → Option R) (bitio_Writer_Gamma_l2 : (Option Addr → Int → Int → Heap → Option R) → Nat → Option Addr → Int → Int → Int → Int → Heap → Option R) (k : Nat) (p195 : Option Addr) (n196 : Int) (H : Heap) (K : Xit → Env → Heap → Option R) : evJ (bitio_Writer_Gamma_Ct bitio_Writer_ok bitio_Writer_put bitio_Writer_Bits) (bitio_Writer_Gamma_Jt k bitio_Writer_Gamma_p0 bitio_Writer_Gamma_l1 bitio_Writer_Gamma_l2) bitio_Writer_Gamma_i0 (List.zip [0, 1] [.pointer p195, .int .i64 n196]) H (fun x e' H' => K x (clean e' ((⟨[0, 1], [], [4]⟩ : Out).of x)) H') = bitio_Writer_Gamma_p0_b k p195 n196 (fun p892 n893 => K .normal [(0, .pointer p892), (1, .int .i64 n893)] H) (fun n894 => K .ret [(4, .int .i64 n894)] H) := by kernel_rfl
theorem bitio_Writer_Gamma_j0 {R : Type} (k : Nat) : JS Try.prog 33 (bitio_Writer_Gamma_a0 R k k) [0, 1] ⟨[0, 1], [], [4]⟩ (sel [1, 1, 0] (Try.f30.body.getD .skip)) :=
  piece_ok (nt := 33) (c := (sel [1, 1, 0] (Try.f30.body.getD .skip))) (C := bitio_Writer_Gamma_C R k) (an := An) (t := (.seq (.reg [0, 1, 14] []) (.cond (.seq (.reg [4] []) .leaf) .leaf))) (ic := bitio_Writer_Gamma_i0) (bitio_Writer_Gamma_S R k) (bitio_Writer_Gamma_J R k) (by kernel_rfl) (And.intro True.intro (And.intro (And.intro True.intro True.intro) True.intro)) (bitio_Writer_Gamma_a0 R k k)
    (fun vals H K r h => by
      unfold bitio_Writer_Gamma_a0 bitio_Writer_Gamma_aa0 at h
      split at h <;> first | (cases h; done) | exact Eq.trans (bitio_Writer_Gamma_e0 bitio_Writer_ok (bitio_Writer_put k) (bitio_Writer_Bits k) (bitio_Writer_Gamma_p0 k) (bitio_Writer_Gamma_l1 k) (bitio_Writer_Gamma_l2 k) k _ _ H K) h)
def bitio_Writer_Gamma_ca {R : Type} (f : Option Addr → Int → Heap → (Int → Heap → Option R) → Option R) (args : List Value) (H : Heap) (K : Value → Heap → Option R) : Option R :=
  match args with
  | [.pointer p192, .int .i64 n193] => f p192 n193 H (fun n901 H => K (.int .i64 n901) H)
  | _ => none
def bitio_Writer_Gamma_c (R : Type) (k : Nat) (args : List Value) (H : Heap) (K : Value → Heap → Option R) : Option R := bitio_Writer_Gamma_ca (bitio_Writer_Gamma k) args H K
theorem bitio_Writer_Gamma_e {R : Type} (bitio_Writer_ok : Option Addr → Heap → (Bool → Option R) → Option R) (bitio_Writer_put : Option Addr → Int → Heap → (Heap → Option R) → Option R) (bitio_Writer_Bits : Option Addr → Int → Int → Heap → (Int → Heap → Option R) → Option R) (bitio_Writer_Gamma_p0 : Option Addr → Int → (Option Addr → Int → Option R) → (Int → Option R) → Option R) (bitio_Writer_Gamma_l1 : (Option Addr → Int → Int → Option R) → Nat → Option Addr → Int → Int → Option R) (bitio_Writer_Gamma_l2 : (Option Addr → Int → Int → Heap → Option R) → Nat → Option Addr → Int → Int → Int → Int → Heap → Option R) (k : Nat) (p192 : Option Addr) (n193 : Int) (H : Heap) (K : Value → Heap → Option R) : evF (bitio_Writer_Gamma_Ct bitio_Writer_ok bitio_Writer_put bitio_Writer_Bits) (bitio_Writer_Gamma_Jt k bitio_Writer_Gamma_p0 bitio_Writer_Gamma_l1 bitio_Writer_Gamma_l2) bitio_Writer_Gamma_f [.pointer p192, .int .i64 n193] H K = bitio_Writer_Gamma_b bitio_Writer_ok bitio_Writer_Gamma_p0 bitio_Writer_Gamma_l1 bitio_Writer_Gamma_l2 bitio_Writer_Bits k p192 n193 H (fun n901 H => K (.int .i64 n901) H) := by kernel_rfl
theorem bitio_Writer_Gamma_cs (R : Type) (k : Nat) : ∀ args H K r, bitio_Writer_Gamma_c R k args H K = some r → ∃ v H', Tri Try.prog 30 args H v H' ∧ K v H' = some r := by
  intro args H K r h
  unfold bitio_Writer_Gamma_c bitio_Writer_Gamma_ca at h
  split at h
  · exact evF_ok (C := bitio_Writer_Gamma_C R k) (an := An) (t := bitio_Writer_Gamma_at) (fn := Try.f30) (c := (Try.f30.body.getD .skip)) (ifn := bitio_Writer_Gamma_f) (bitio_Writer_Gamma_S R k) (bitio_Writer_Gamma_J R k) Try.func30 (by kernel_rfl) (by kernel_rfl) (And.intro True.intro (And.intro (And.intro True.intro (And.intro (And.intro True.intro True.intro) True.intro)) (And.intro (bitio_Writer_Gamma_j0 k) (And.intro True.intro (And.intro (bitio_Writer_Gamma_j1 k) (And.intro (And.intro True.intro (bitio_Writer_Gamma_j2 k)) (And.intro True.intro True.intro))))))) rfl (Eq.trans (bitio_Writer_Gamma_e bitio_Writer_ok (bitio_Writer_put k) (bitio_Writer_Bits k) (bitio_Writer_Gamma_p0 k) (bitio_Writer_Gamma_l1 k) (bitio_Writer_Gamma_l2 k) k _ _ H K) h)
  · cases h
/-! ### bitio_NewReader: function 21 -/
def bitio_NewReader_b {R : Type} (k : Nat) (q101 : Option Addr) (l102 : Nat) (c103 : Nat) (H : Heap) (K : Option Addr → Heap → Option R) : Option R :=
hapnS 1 1 H none 0 0 q101 l102 fun q104 l105 c106 H107 =>
hal H107 [.bool true, .slice q104 l105 c106, .int .i64 0, .int .i64 0] fun p108 H109 =>
K p108 H109

def bitio_NewReader {R : Type} (q101 : Option Addr) (l102 : Nat) (c103 : Nat) (H : Heap) (K : Option Addr → Heap → Option R) : Option R := bitio_NewReader_b 0 q101 l102 c103 H K

def bitio_NewReader_Ct {R : Type} : Tab R := fun _ _ _ _ => none
def bitio_NewReader_C (R : Type) (k : Nat) : Tab R := bitio_NewReader_Ct
theorem bitio_NewReader_S (R : Type) (k : Nat) : CSound Try.prog (bitio_NewReader_C R k) := csound_nil
def bitio_NewReader_Jt {R : Type} (k : Nat) : JTab R := fun _ _ _ _ => none
def bitio_NewReader_J (R : Type) (k : Nat) : JTab R := bitio_NewReader_Jt k
def bitio_NewReader_at : AT := (.seq (.reg [0] []) (.seq (.reg [2] []) .leaf))
def bitio_NewReader_f : IFn := ⟨7, [.t 2], (.seq (.reg [⟨some 2, .mov (.c (Go.Value.pointer none)), none⟩] [0]) (.seq (.reg [⟨some 3, .mov (.t 0), none⟩,
 ⟨some 4, .apn [.int .u8 0] 1 (.c (Go.Value.slice none 0 0)) (.t 3), none⟩,
 ⟨some 5, .bld [.bool false, .slice none 0 0, .int .i64 0, .int .i64 0] [(0, 1, (.c (Go.Value.bool true))), (1, 1, (.t 4))], none⟩,
 ⟨some 6, .box (.t 5), none⟩,
 ⟨some 2, .mov (.t 6), none⟩] [2]) .ret))⟩
def bitio_NewReader_ca {R : Type} (f : Option Addr → Nat → Nat → Heap → (Option Addr → Heap → Option R) → Option R) (args : List Value) (H : Heap) (K : Value → Heap → Option R) : Option R :=
  match args with
  | [.slice q101 l102 c103] => f q101 l102 c103 H (fun p902 H => K (.pointer p902) H)
  | _ => none
def bitio_NewReader_c (R : Type) (k : Nat) (args : List Value) (H : Heap) (K : Value → Heap → Option R) : Option R := bitio_NewReader_ca bitio_NewReader args H K
theorem bitio_NewReader_e {R : Type} (k : Nat) (q101 : Option Addr) (l102 : Nat) (c103 : Nat) (H : Heap) (K : Value → Heap → Option R) : evF (bitio_NewReader_Ct) (bitio_NewReader_Jt k) bitio_NewReader_f [.slice q101 l102 c103] H K = bitio_NewReader_b k q101 l102 c103 H (fun p902 H => K (.pointer p902) H) := by kernel_rfl
theorem bitio_NewReader_cs (R : Type) (k : Nat) : ∀ args H K r, bitio_NewReader_c R k args H K = some r → ∃ v H', Tri Try.prog 21 args H v H' ∧ K v H' = some r := by
  intro args H K r h
  unfold bitio_NewReader_c bitio_NewReader_ca at h
  split at h
  · exact evF_ok (C := bitio_NewReader_C R 0) (an := An) (t := bitio_NewReader_at) (fn := Try.f21) (c := (Try.f21.body.getD .skip)) (ifn := bitio_NewReader_f) (bitio_NewReader_S R 0) (bitio_NewReader_J R 0) Try.func21 (by kernel_rfl) (by kernel_rfl) (And.intro True.intro (And.intro True.intro True.intro)) rfl (Eq.trans (bitio_NewReader_e 0 _ _ _ H K) h)
  · cases h
/-! ### bitio_Reader_ok: function 38 -/
def bitio_Reader_ok_b {R : Type} (k : Nat) (p120 : Option Addr) (H : Heap) (K : Bool → Option R) : Option R :=
bif p120.isSome then (hnil p120 fun p121 =>
hfad 0 p121 fun p122 =>
ldB H p122 fun t123 =>
K t123)
 else (K false)

def bitio_Reader_ok {R : Type} (p120 : Option Addr) (H : Heap) (K : Bool → Option R) : Option R := bitio_Reader_ok_b 0 p120 H K

def bitio_Reader_ok_Ct {R : Type} : Tab R := fun _ _ _ _ => none
def bitio_Reader_ok_C (R : Type) (k : Nat) : Tab R := bitio_Reader_ok_Ct
theorem bitio_Reader_ok_S (R : Type) (k : Nat) : CSound Try.prog (bitio_Reader_ok_C R k) := csound_nil
def bitio_Reader_ok_Jt {R : Type} (k : Nat) : JTab R := fun _ _ _ _ => none
def bitio_Reader_ok_J (R : Type) (k : Nat) : JTab R := bitio_Reader_ok_Jt k
def bitio_Reader_ok_at : AT := (.seq (.reg [0] []) (.seq (.reg [2] []) .leaf))
def bitio_Reader_ok_f : IFn := ⟨11, [.t 2], (.seq (.reg [⟨some 2, .mov (.c (Go.Value.bool false)), none⟩] [0]) (.seq (.reg [⟨some 3, .mov (.t 0), none⟩,
 ⟨some 4, .eqnil (.t 3) true 0, none⟩,
 ⟨some 5, .mov (.t 4), none⟩,
 ⟨some 6, .mov (.t 0), some (5, true)⟩,
 ⟨some 7, .nilc (.t 6), some (5, true)⟩,
 ⟨some 8, .fad 0 (.t 7), some (5, true)⟩,
 ⟨some 9, .ld (.sc .bool) (.t 8), some (5, true)⟩,
 ⟨some 10, .pick (.t 5) (.t 9) (.c (Go.Value.bool false)), none⟩,
 ⟨some 2, .mov (.t 10), none⟩] [2]) .ret))⟩
def bitio_Reader_ok_ca {R : Type} (f : Option Addr → Heap → (Bool → Option R) → Option R) (args : List Value) (H : Heap) (K : Value → Heap → Option R) : Option R :=
  match args with
  | [.pointer p120] => f p120 H (fun t903 => K (.bool t903) H)
  | _ => none
def bitio_Reader_ok_c (R : Type) (k : Nat) (args : List Value) (H : Heap) (K : Value → Heap → Option R) : Option R := bitio_Reader_ok_ca bitio_Reader_ok args H K
theorem bitio_Reader_ok_e {R : Type} (k : Nat) (p120 : Option Addr) (H : Heap) (K : Value → Heap → Option R) : evF (bitio_Reader_ok_Ct) (bitio_Reader_ok_Jt k) bitio_Reader_ok_f [.pointer p120] H K = bitio_Reader_ok_b k p120 H (fun t903 => K (.bool t903) H) := by kernel_rfl
theorem bitio_Reader_ok_cs (R : Type) (k : Nat) : ∀ args H K r, bitio_Reader_ok_c R k args H K = some r → ∃ v H', Tri Try.prog 38 args H v H' ∧ K v H' = some r := by
  intro args H K r h
  unfold bitio_Reader_ok_c bitio_Reader_ok_ca at h
  split at h
  · exact evF_ok (C := bitio_Reader_ok_C R 0) (an := An) (t := bitio_Reader_ok_at) (fn := Try.f38) (c := (Try.f38.body.getD .skip)) (ifn := bitio_Reader_ok_f) (bitio_Reader_ok_S R 0) (bitio_Reader_ok_J R 0) Try.func38 (by kernel_rfl) (by kernel_rfl) (And.intro True.intro (And.intro True.intro True.intro)) rfl (Eq.trans (bitio_Reader_ok_e 0 _ H K) h)
  · cases h
/-! ### bitio_Reader_get: function 39 -/
def bitio_Reader_get_p2_b {R : Type} (k : Nat) (p171 : Option Addr) (n172 : Int) (H : Heap) (KN : Option Addr → Int → Bool → Option R) : Option R :=
hnil p171 fun p173 =>
hfad 2 p173 fun p174 =>
ldI .i64 H p174 fun n175 =>
bif decide (n175 > 0) then (hnil p171 fun p176 =>
hfad 1 p176 fun p177 =>
ldL H p177 fun q178 l179 c180 =>
hnil p171 fun p181 =>
hfad 2 p181 fun p182 =>
ldI .i64 H p182 fun n183 =>
hidx q178 l179 (IntKind.wrap .i64 (n183 - 1)) 1 fun p184 =>
ldI .u8 H p184 fun n185 =>
KN p171 n172 (n185 == 255))
 else (KN p171 n172 false)
def bitio_Reader_get_p2 {R : Type} (k : Nat) (p171 : Option Addr) (n172 : Int) (H : Heap) (KN : Option Addr → Int → Bool → Option R) : Option R := bitio_Reader_get_p2_b k p171 n172 H KN

def bitio_Reader_get_p1_b {R : Type} (bitio_Reader_get_p2 : Option Addr → Int → Heap → (Option Addr → Int → Bool → Option R) → Option R) (k : Nat) (p169 : Option Addr) (n170 : Int) (H : Heap) (KN : Option Addr → Int → Option R) (KR : Int → Int → Option R) : Option R :=
bitio_Reader_get_p2 p169 n170 H (fun p189 n190 t191 =>
bif t191 then (hnil p189 fun p192 =>
hfad 1 p192 fun p193 =>
ldL H p193 fun q194 l195 c196 =>
hnil p189 fun p197 =>
hfad 2 p197 fun p198 =>
ldI .i64 H p198 fun n199 =>
hidx q194 l195 n199 1 fun p200 =>
ldI .u8 H p200 fun n201 =>
bif decide (n201 ≥ 128) then (KR 0 8)
 else (KN p189 7))
 else (KN p189 n190))
def bitio_Reader_get_p1 {R : Type} (k : Nat) (p169 : Option Addr) (n170 : Int) (H : Heap) (KN : Option Addr → Int → Option R) (KR : Int → Int → Option R) : Option R := bitio_Reader_get_p1_b (bitio_Reader_get_p2 k) k p169 n170 H KN KR

def bitio_Reader_get_p0_b {R : Type} (bitio_Reader_get_p1 : Option Addr → Int → Heap → (Option Addr → Int → Option R) → (Int → Int → Option R) → Option R) (k : Nat) (p157 : Option Addr) (H : Heap) (KN : Option Addr → Heap → Option R) (KR : Int → Int → Heap → Option R) : Option R :=
hnil p157 fun p158 =>
hfad 3 p158 fun p159 =>
ldI .i64 H p159 fun n160 =>
bif (n160 == 0) then (hnil p157 fun p161 =>
hfad 2 p161 fun p162 =>
ldI .i64 H p162 fun n163 =>
hnil p157 fun p164 =>
hfad 1 p164 fun p165 =>
ldL H p165 fun q166 l167 c168 =>
bif (n163 == ((l167 : Nat) : Int)) then (KR 0 7 H)
 else (bitio_Reader_get_p1 p157 8 H (fun p206 n207 =>
hnil p206 fun p208 =>
hfad 2 p208 fun p209 =>
ldI .i64 H p209 fun n210 =>
hnil p206 fun p211 =>
hfad 2 p211 fun p212 =>
hst1 H p212 (.int .i64 (IntKind.wrap .i64 (n210 + 1))) fun H213 =>
hnil p206 fun p214 =>
hfad 3 p214 fun p215 =>
hst1 H213 p215 (.int .i64 n207) fun H216 =>
KN p206 H216) (fun n217 n218 =>
KR n217 n218 H)))
 else (KN p157 H)
def bitio_Reader_get_p0 {R : Type} (k : Nat) (p157 : Option Addr) (H : Heap) (KN : Option Addr → Heap → Option R) (KR : Int → Int → Heap → Option R) : Option R := bitio_Reader_get_p0_b (bitio_Reader_get_p1 k) k p157 H KN KR

def bitio_Reader_get_b {R : Type} (bitio_Reader_get_p0 : Option Addr → Heap → (Option Addr → Heap → Option R) → (Int → Int → Heap → Option R) → Option R) (k : Nat) (p156 : Option Addr) (H : Heap) (K : Int → Int → Heap → Option R) : Option R :=
bitio_Reader_get_p0 p156 H (fun p222 H223 =>
hnil p222 fun p224 =>
hfad 3 p224 fun p225 =>
ldI .i64 H223 p225 fun n226 =>
hnil p222 fun p227 =>
hfad 3 p227 fun p228 =>
hst1 H223 p228 (.int .i64 (IntKind.wrap .i64 (n226 - 1))) fun H229 =>
hnil p222 fun p230 =>
hfad 1 p230 fun p231 =>
ldL H229 p231 fun q232 l233 c234 =>
hnil p222 fun p235 =>
hfad 2 p235 fun p236 =>
ldI .i64 H229 p236 fun n237 =>
hidx q232 l233 (IntKind.wrap .i64 (n237 - 1)) 1 fun p238 =>
ldI .u8 H229 p238 fun n239 =>
hnil p222 fun p240 =>
hfad 3 p240 fun p241 =>
ldI .i64 H229 p241 fun n242 =>
hbin .shr .u8 n239 (IntKind.wrap .u64 n242) fun n243 =>
hbin .and .i64 (IntKind.wrap .i64 n243) 1 fun n244 =>
K n244 0 H229) (fun n245 n246 H247 =>
K n245 n246 H247)

def bitio_Reader_get {R : Type} (k : Nat) (p156 : Option Addr) (H : Heap) (K : Int → Int → Heap → Option R) : Option R := bitio_Reader_get_b (bitio_Reader_get_p0 k) k p156 H K

def bitio_Reader_get_Ct {R : Type} : Tab R := fun _ _ _ _ => none
def bitio_Reader_get_C (R : Type) (k : Nat) : Tab R := bitio_Reader_get_Ct
theorem bitio_Reader_get_S (R : Type) (k : Nat) : CSound Try.prog (bitio_Reader_get_C R k) := csound_nil
def bitio_Reader_get_aa0 {R : Type} (f : Option Addr → Heap → (Option Addr → Heap → Option R) → (Int → Int → Heap → Option R) → Option R) (n : Nat) (vals : List Value) (H : Heap) (K : Xit → Env → Heap → Option R) : Option R :=
  match vals with
  | [.pointer p157] => f p157 H (fun p904 H => K .normal [(0, .pointer p904)] H) (fun n905 n906 H => K .ret [(2, .int .i64 n905), (3, .int .i64 n906)] H)
  | _ => none
def bitio_Reader_get_a0 (R : Type) (k n : Nat) (vals : List Value) (H : Heap) (K : Xit → Env → Heap → Option R) : Option R := bitio_Reader_get_aa0 (bitio_Reader_get_p0 k) n vals H K
def bitio_Reader_get_aa1 {R : Type} (f : Option Addr → Int → Heap → (Option Addr → Int → Option R) → (Int → Int → Option R) → Option R) (n : Nat) (vals : List Value) (H : Heap) (K : Xit → Env → Heap → Option R) : Option R :=
  match vals with
  | [.pointer p169, .int .i64 n170] => f p169 n170 H (fun p907 n908 => K .normal [(0, .pointer p907), (4, .int .i64 n908)] H) (fun n909 n910 => K .ret [(2, .int .i64 n909), (3, .int .i64 n910)] H)
  | _ => none
def bitio_Reader_get_a1 (R : Type) (k n : Nat) (vals : List Value) (H : Heap) (K : Xit → Env → Heap → Option R) : Option R := bitio_Reader_get_aa1 (bitio_Reader_get_p1 k) n vals H K
def bitio_Reader_get_aa2 {R : Type} (f : Option Addr → Int → Heap → (Option Addr → Int → Bool → Option R) → Option R) (n : Nat) (vals : List Value) (H : Heap) (K : Xit → Env → Heap → Option R) : Option R :=
  match vals with
  | [.pointer p171, .int .i64 n172] => f p171 n172 H (fun p911 n912 t913 => K .normal [(0, .pointer p911), (4, .int .i64 n912), (38, .bool t913)] H)
  | _ => none
def bitio_Reader_get_a2 (R : Type) (k n : Nat) (vals : List Value) (H : Heap) (K : Xit → Env → Heap → Option R) : Option R := bitio_Reader_get_aa2 (bitio_Reader_get_p2 k) n vals H K
def bitio_Reader_get_Jt {R : Type} (k : Nat) (bitio_Reader_get_p0 : Option Addr → Heap → (Option Addr → Heap → Option R) → (Int → Int → Heap → Option R) → Option R) (bitio_Reader_get_p1 : Option Addr → Int → Heap → (Option Addr → Int → Option R) → (Int → Int → Option R) → Option R) (bitio_Reader_get_p2 : Option Addr → Int → Heap → (Option Addr → Int → Bool → Option R) → Option R) : JTab R := tcons 0 (bitio_Reader_get_aa0 bitio_Reader_get_p0 k) <| tcons 1 (bitio_Reader_get_aa1 bitio_Reader_get_p1 k) <| tcons 2 (bitio_Reader_get_aa2 bitio_Reader_get_p2 k) <| fun _ _ _ _ => none
def bitio_Reader_get_J (R : Type) (k : Nat) : JTab R := bitio_Reader_get_Jt k (bitio_Reader_get_p0 k) (bitio_Reader_get_p1 k) (bitio_Reader_get_p2 k)
def bitio_Reader_get_at : AT := (.seq (.reg [0] []) (.seq (.opq 0 [0] ⟨[0], [], [2, 3]⟩ (.seq (.reg [0, 9] []) (.cond (.seq (.seq (.reg [0, 19] [[], [0], [0, 1], [0, 1, 2], [], [4], [4, 5], [4, 5, 6], [4, 5, 6, 7], [0, 1, 2, 3, 4, 5, 6, 7, 8]]) (.cond (.seq (.reg [2, 3] []) .leaf) .leaf)) (.seq (.reg [0, 4] []) (.seq (.opq 1 [0, 4] ⟨[0, 4], [], [2, 3]⟩ (.seq (.opq 2 [0, 4] ⟨[0, 4, 38], [], []⟩ (.reg [0, 4, 38] [[], [0], [0, 1], [0, 1, 2], [0, 1, 2, 3], [0, 1, 2, 3, 4], [0, 1, 2, 3, 4, 5], [0, 1, 2, 3, 4, 5, 6], [0, 1, 2, 3, 4, 5, 6, 7], [0, 1, 2, 3, 4, 5, 6, 7, 8], [0, 1, 2, 3, 4, 5], [0, 1, 2, 3, 4, 5, 10], [0, 1, 2, 3, 4, 5, 10, 11], [0, 1, 2, 3, 4, 5, 10, 11, 12], [0, 1, 2, 3, 4, 5, 10, 11, 12, 13], [0, 1, 2, 3, 4, 5, 6, 7, 8, 9, 10, 11, 12, 13, 14], [0, 1, 2, 3, 4, 5, 6, 7, 8, 9, 10, 11, 12, 13, 14, 15], [0, 1, 2, 3, 4, 5, 6, 7, 8, 9, 10, 11, 12, 13, 14, 15, 16], [0, 1, 2, 3, 4, 5, 6, 7, 8, 9, 10, 11, 12, 13, 14, 15, 16, 17]])) (.cond (.seq (.seq (.reg [0, 49] [[], [0], [0, 1], [0, 1, 2], [], [4], [4, 5], [4, 5, 6], [0, 1, 2, 3, 4, 5, 6, 7], [0, 1, 2, 3, 4, 5, 6, 7, 8], [0, 1, 2, 3, 4, 5, 6, 7, 8, 9]]) (.cond (.seq (.reg [2, 3] []) .leaf) .leaf)) (.reg [0, 4] [])) .leaf))) (.seq (.reg [0, 4] []) (.reg [0] []))))) .leaf))) (.seq (.reg [0] []) (.seq (.reg [2, 3] [[], [0], [0, 1], [0, 1, 2], [], [4], [4, 5], [4, 5, 6], [4, 5, 6, 7], [0, 1, 2, 3, 4, 5, 6, 7, 8], [0, 1, 2, 3, 4, 5, 6, 7, 8, 9], [], [11], [11, 12], [11, 12, 13], [11, 12, 13, 14], [0, 1, 2, 3, 4, 5, 6, 7, 8, 9, 10, 11, 12, 13, 14, 15], [0, 1, 2, 3, 4, 5, 6, 7, 8, 9, 10, 11, 12, 13, 14, 15, 16], [0, 1, 2, 3, 4, 5, 6, 7, 8, 9, 10, 11, 12, 13, 14, 15, 16, 17], [0, 1, 2, 3, 4, 5, 6, 7, 8, 9, 10, 11, 12, 13, 14, 15, 16, 17, 18], [0, 1, 2, 3, 4, 5, 6, 7, 8, 9, 10, 11, 12, 13, 14, 15, 16, 17, 18, 19]]) .leaf))))
def bitio_Reader_get_i2 : IC := (.reg [⟨some 20, .mov (.t 0), none⟩,
 ⟨some 21, .nilc (.t 20), none⟩,
 ⟨some 22, .fad 2 (.t 21), none⟩,
 ⟨some 23, .ld (.sc (.int .i64)) (.t 22), none⟩,
 ⟨some 24, .cmp .gtr (.t 23) (.c (Go.Value.int Go.IntKind.i64 0)), none⟩,
 ⟨some 25, .mov (.t 24), none⟩,
 ⟨some 26, .mov (.t 0), some (25, true)⟩,
 ⟨some 27, .nilc (.t 26), some (25, true)⟩,
 ⟨some 28, .fad 1 (.t 27), some (25, true)⟩,
 ⟨some 29, .ld (.sc .slc) (.t 28), some (25, true)⟩,
 ⟨some 30, .mov (.t 0), some (25, true)⟩,
 ⟨some 31, .nilc (.t 30), some (25, true)⟩,
 ⟨some 32, .fad 2 (.t 31), some (25, true)⟩,
 ⟨some 33, .ld (.sc (.int .i64)) (.t 32), some (25, true)⟩,
 ⟨some 34, .bin .sub .i64 (.t 33) (.c (Go.Value.int Go.IntKind.i64 1)), some (25, true)⟩,
 ⟨some 35, .ids 1 (.t 29) (.t 34), some (25, true)⟩,
 ⟨some 36, .ld (.sc (.int .u8)) (.t 35), some (25, true)⟩,
 ⟨some 37, .cmp .eql (.t 36) (.c (Go.Value.int Go.IntKind.u8 255)), some (25, true)⟩,
 ⟨some 38, .pick (.t 25) (.t 37) (.c (Go.Value.bool false)), none⟩] [0, 4, 38])
def bitio_Reader_get_i1 : IC := (.seq (.opq 2 [0, 4] bitio_Reader_get_i2) (.cond (.t 38) (.seq (.seq (.reg [⟨some 39, .mov (.t 0), none⟩,
 ⟨some 40, .nilc (.t 39), none⟩,
 ⟨some 41, .fad 1 (.t 40), none⟩,
 ⟨some 42, .ld (.sc .slc) (.t 41), none⟩,
 ⟨some 43, .mov (.t 0), none⟩,
 ⟨some 44, .nilc (.t 43), none⟩,
 ⟨some 45, .fad 2 (.t 44), none⟩,
 ⟨some 46, .ld (.sc (.int .i64)) (.t 45), none⟩,
 ⟨some 47, .ids 1 (.t 42) (.t 46), none⟩,
 ⟨some 48, .ld (.sc (.int .u8)) (.t 47), none⟩,
 ⟨some 49, .cmp .geq (.t 48) (.c (Go.Value.int Go.IntKind.u8 128)), none⟩] [0, 49]) (.cond (.t 49) (.seq (.reg [⟨some 2, .mov (.c (Go.Value.int Go.IntKind.i64 0)), none⟩,
 ⟨some 3, .mov (.c (Go.Value.int Go.IntKind.i64 8)), none⟩] [2, 3]) .ret) .skip)) (.reg [⟨some 4, .mov (.c (Go.Value.int Go.IntKind.i64 7)), none⟩] [0, 4])) .skip))
def bitio_Reader_get_i0 : IC := (.seq (.reg [⟨some 5, .mov (.t 0), none⟩,
 ⟨some 6, .nilc (.t 5), none⟩,
 ⟨some 7, .fad 3 (.t 6), none⟩,
 ⟨some 8, .ld (.sc (.int .i64)) (.t 7), none⟩,
 ⟨some 9, .cmp .eql (.t 8) (.c (Go.Value.int Go.IntKind.i64 0)), none⟩] [0, 9]) (.cond (.t 9) (.seq (.seq (.reg [⟨some 10, .mov (.t 0), none⟩,
 ⟨some 11, .nilc (.t 10), none⟩,
 ⟨some 12, .fad 2 (.t 11), none⟩,
 ⟨some 13, .ld (.sc (.int .i64)) (.t 12), none⟩,
 ⟨some 14, .mov (.t 0), none⟩,
 ⟨some 15, .nilc (.t 14), none⟩,
 ⟨some 16, .fad 1 (.t 15), none⟩,
 ⟨some 17, .ld (.sc .slc) (.t 16), none⟩,
 ⟨some 18, .len false (.t 17), none⟩,
 ⟨some 19, .cmp .eql (.t 13) (.t 18), none⟩] [0, 19]) (.cond (.t 19) (.seq (.reg [⟨some 2, .mov (.c (Go.Value.int Go.IntKind.i64 0)), none⟩,
 ⟨some 3, .mov (.c (Go.Value.int Go.IntKind.i64 7)), none⟩] [2, 3]) .ret) .skip)) (.seq (.reg [⟨some 4, .mov (.c (Go.Value.int Go.IntKind.i64 8)), none⟩] [0, 4]) (.seq (.opq 1 [0, 4] bitio_Reader_get_i1) (.seq (.reg [⟨some 50, .mov (.t 0), none⟩,
 ⟨some 51, .nilc (.t 50), none⟩,
 ⟨some 52, .fad 2 (.t 51), none⟩,
 ⟨some 53, .ld (.sc (.int .i64)) (.t 52), none⟩,
 ⟨some 54, .bin .add .i64 (.t 53) (.c (Go.Value.int Go.IntKind.i64 1)), none⟩,
 ⟨some 55, .nilc (.t 50), none⟩,
 ⟨some 56, .fad 2 (.t 55), none⟩,
 ⟨none, .st 1 (.t 56) (.t 54), none⟩] [0, 4]) (.reg [⟨some 57, .mov (.t 0), none⟩,
 ⟨some 58, .mov (.t 4), none⟩,
 ⟨some 59, .nilc (.t 57), none⟩,
 ⟨some 60, .fad 3 (.t 59), none⟩,
 ⟨none, .st 1 (.t 60) (.t 58), none⟩] [0]))))) .skip))
def bitio_Reader_get_f : IFn := ⟨87, [.t 2, .t 3], (.seq (.reg [⟨some 2, .mov (.c (Go.Value.int Go.IntKind.i64 0)), none⟩,
 ⟨some 3, .mov (.c (Go.Value.int Go.IntKind.i64 0)), none⟩] [0]) (.seq (.opq 0 [0] bitio_Reader_get_i0) (.seq (.reg [⟨some 61, .mov (.t 0), none⟩,
 ⟨some 62, .nilc (.t 61), none⟩,
 ⟨some 63, .fad 3 (.t 62), none⟩,
 ⟨some 64, .ld (.sc (.int .i64)) (.t 63), none⟩,
 ⟨some 65, .bin .sub .i64 (.t 64) (.c (Go.Value.int Go.IntKind.i64 1)), none⟩,
 ⟨some 66, .nilc (.t 61), none⟩,
 ⟨some 67, .fad 3 (.t 66), none⟩,
 ⟨none, .st 1 (.t 67) (.t 65), none⟩] [0]) (.seq (.reg [⟨some 68, .mov (.t 0), none⟩,
 ⟨some 69, .nilc (.t 68), none⟩,
 ⟨some 70, .fad 1 (.t 69), none⟩,
 ⟨some 71, .ld (.sc .slc) (.t 70), none⟩,
 ⟨some 72, .mov (.t 0), none⟩,
 ⟨some 73, .nilc (.t 72), none⟩,
 ⟨some 74, .fad 2 (.t 73), none⟩,
 ⟨some 75, .ld (.sc (.int .i64)) (.t 74), none⟩,
 ⟨some 76, .bin .sub .i64 (.t 75) (.c (Go.Value.int Go.IntKind.i64 1)), none⟩,
 ⟨some 77, .ids 1 (.t 71) (.t 76), none⟩,
 ⟨some 78, .ld (.sc (.int .u8)) (.t 77), none⟩,
 ⟨some 79, .mov (.t 0), none⟩,
 ⟨some 80, .nilc (.t 79), none⟩,
 ⟨some 81, .fad 3 (.t 80), none⟩,
 ⟨some 82, .ld (.sc (.int .i64)) (.t 81), none⟩,
 ⟨some 83, .cnv .u64 (.t 82), none⟩,
 ⟨some 84, .bin .shr .u8 (.t 78) (.t 83), none⟩,
 ⟨some 85, .cnv .i64 (.t 84), none⟩,
 ⟨some 86, .bin .and .i64 (.t 85) (.c (Go.Value.int Go.IntKind.i64 1)), none⟩,
 ⟨some 2, .mov (.t 86), none⟩,
 ⟨some 3, .mov (.c (Go.Value.int Go.IntKind.i64 0)), none⟩] [2, 3]) .ret))))⟩
theorem bitio_Reader_get_e2 {R : Type} (bitio_Reader_get_p0 : Option Addr → Heap → (Option Addr → Heap → Option R) → (Int → Int → Heap → Option R) → Option R) (bitio_Reader_get_p1 : Option Addr → Int → Heap → (Option Addr → Int → Option R) → (Int → Int → Option R) → Option R) (bitio_Reader_get_p2 : Option Addr → Int → Heap → (Option Addr → Int → Bool → Option R) → Option R) (k : Nat) (p171 : Option Addr) (n172 : Int) (H : Heap) (K : Xit → Env → Heap → Option R) : evJ (bitio_Reader_get_Ct) (bitio_Reader_get_Jt k bitio_Reader_get_p0 bitio_Reader_get_p1 bitio_Reader_get_p2) bitio_Reader_get_i2 (List.zip [0, 4] [.pointer p171, .int .i64 n172]) H (fun x e' H' => K x (clean e' ((⟨[0, 4, 38], [], []⟩ : Out).of x)) H') = bitio_Reader_get_p2_b k p171 n172 H (fun p911 n912 t913 => K .normal [(0, .pointer p911), (4, .int .i64 n912), (38, .bool t913)] H) := by kernel_rfl
theorem bitio_Reader_get_j2 {R : Type} (k : Nat) : JS Try.prog 87 (bitio_Reader_get_a2 R k k) [0, 4] ⟨[0, 4, 38], [], []⟩ (sel [1, 0, 1, 0, 1, 1, 0, 0] (Try.f39.body.getD .skip)) :=
  piece_ok (nt := 87) (c := (sel [1, 0, 1, 0, 1, 1, 0, 0] (Try.f39.body.getD .skip))) (C := bitio_Reader_get_C R k) (an := An) (t := (.reg [0, 4, 38] [[], [0], [0, 1], [0, 1, 2], [0, 1, 2, 3], [0, 1, 2, 3, 4], [0, 1, 2, 3, 4, 5], [0, 1, 2, 3, 4, 5, 6], [0, 1, 2, 3, 4, 5, 6, 7], [0, 1, 2, 3, 4, 5, 6, 7, 8], [0, 1, 2, 3, 4, 5], [0, 1, 2, 3, 4, 5, 10], [0, 1, 2, 3, 4, 5, 10, 11], [0, 1, 2, 3, 4, 5, 10, 11, 12], [0, 1, 2, 3, 4, 5, 10, 11, 12, 13], [0, 1, 2, 3, 4, 5, 6, 7, 8, 9, 10, 11, 12, 13, 14], [0, 1, 2, 3, 4, 5, 6, 7, 8, 9, 10, 11, 12, 13, 14, 15], [0, 1, 2, 3, 4, 5, 6, 7, 8, 9, 10, 11, 12, 13, 14, 15, 16], [0, 1, 2, 3, 4, 5, 6, 7, 8, 9, 10, 11, 12, 13, 14, 15, 16, 17]])) (ic := bitio_Reader_get_i2) (bitio_Reader_get_S R k) (bitio_Reader_get_J R k) (by kernel_rfl) True.intro (bitio_Reader_get_a2 R k k)
    (fun vals H K r h => by
      unfold bitio_Reader_get_a2 bitio_Reader_get_aa2 at h
      split at h <;> first | (cases h; done) | exact Eq.trans (bitio_Reader_get_e2 (bitio_Reader_get_p0 k) (bitio_Reader_get_p1 k) (bitio_Reader_get_p2 k) k _ _ H K) h)
theorem bitio_Reader_get_e1 {R : Type} (bitio_Reader_get_p0 : Option Addr → Heap → (Option Addr → Heap → Option R) → (Int → Int → Heap → Option R) → Option R) (bitio_Reader_get_p1 : Option Addr → Int → Heap → (Option Addr → Int → Option R) → (Int → Int → Option R) → Option R) (bitio_Reader_get_p2 : Option Addr → Int → Heap → (Option Addr → Int → Bool → Option R) → Option R) (k : Nat) (p169 : Option Addr) (n170 : Int) (H : Heap) (K : Xit → Env → Heap → Option R) : evJ (bitio_Reader_get_Ct) (bitio_Reader_get_Jt k bitio_Reader_get_p0 bitio_Reader_get_p1 bitio_Reader_get_p2) bitio_Reader_get_i1 (List.zip [0, 4] [.pointer p169, .int .i64 n170]) H (fun x e' H' => K x (clean e' ((⟨[0, 4], [], [2, 3]⟩ : Out).of x)) H') = bitio_Reader_get_p1_b bitio_Reader_get_p2 k p169 n170 H (fun p907 n908 => K .normal [(0, .pointer p907), (4, .int .i64 n908)] H) (fun n909 n910 => K .ret [(2, .int .i64 n909), (3, .int .i64 n910)] H) := by kernel_rfl
theorem bitio_Reader_get_j1 {R : Type} (k : Nat) : JS Try.prog 87 (bitio_Reader_get_a1 R k k) [0, 4] ⟨[0, 4], [], [2, 3]⟩ (sel [1, 0, 1, 0, 1, 1, 0] (Try.f39.body.getD .skip)) :=
  piece_ok (nt := 87) (c := (sel [1, 0, 1, 0, 1, 1, 0] (Try.f39.body.getD .skip))) (C := bitio_Reader_get_C R k) (an := An) (t := (.seq (.opq 2 [0, 4] ⟨[0, 4, 38], [], []⟩ (.reg [0, 4, 38] [[], [0], [0, 1], [0, 1, 2], [0, 1, 2, 3], [0, 1, 2, 3, 4], [0, 1, 2, 3, 4, 5], [0, 1, 2, 3, 4, 5, 6], [0, 1, 2, 3, 4, 5, 6, 7], [0, 1, 2, 3, 4, 5, 6, 7, 8], [0, 1, 2, 3, 4, 5], [0, 1, 2, 3, 4, 5, 10], [0, 1, 2, 3, 4, 5, 10, 11], [0, 1, 2, 3, 4, 5, 10, 11, 12], [0, 1, 2, 3, 4, 5, 10, 11, 12, 13], [0, 1, 2, 3, 4, 5, 6, 7, 8, 9, 10, 11, 12, 13, 14], [0, 1, 2, 3, 4, 5, 6, 7, 8, 9, 10, 11, 12, 13, 14, 15], [0, 1, 2, 3, 4, 5, 6, 7, 8, 9, 10, 11, 12, 13, 14, 15, 16], [0, 1, 2, 3, 4, 5, 6, 7, 8, 9, 10, 11, 12, 13, 14, 15, 16, 17]])) (.cond (.seq (.seq (.reg [0, 49] [[], [0], [0, 1], [0, 1, 2], [], [4], [4, 5], [4, 5, 6], [0, 1, 2, 3, 4, 5, 6, 7], [0, 1, 2, 3, 4, 5, 6, 7, 8], [0, 1, 2, 3, 4, 5, 6, 7, 8, 9]]) (.cond (.seq (.reg [2, 3] []) .leaf) .leaf)) (.reg [0, 4] [])) .leaf))) (ic := bitio_Reader_get_i1) (bitio_Reader_get_S R k) (bitio_Reader_get_J R k) (by kernel_rfl) (And.intro (bitio_Reader_get_j2 k) (And.intro (And.intro (And.intro True.intro (And.intro (And.intro True.intro True.intro) True.intro)) True.intro) True.intro)) (bitio_Reader_get_a1 R k k)
    (fun vals H K r h => by
      unfold bitio_Reader_get_a1 bitio_Reader_get_aa1 at h
      split at h <;> first | (cases h; done) | exact Eq.trans (bitio_Reader_get_e1 (bitio_Reader_get_p0 k) (bitio_Reader_get_p1 k) (bitio_Reader_get_p2 k) k _ _ H K) h)
theorem bitio_Reader_get_e0 {R : Type} (bitio_Reader_get_p0 : Option Addr → Heap → (Option Addr → Heap → Option R) → (Int → Int → Heap → Option R) → Option R) (bitio_Reader_get_p1 : Option Addr → Int → Heap → (Option Addr → Int → Option R) → (Int → Int → Option R) → Option R) (bitio_Reader_get_p2 : Option Addr → Int → Heap → (Option Addr → Int → Bool → Option R) → Option R) (k : Nat) (p157 : Option Addr) (H : Heap) (K : Xit → Env → Heap → Option R) : evJ (bitio_Reader_get_Ct) (bitio_Reader_get_Jt k bitio_Reader_get_p0 bitio_Reader_get_p1 bitio_Reader_get_p2) bitio_Reader_get_i0 (List.zip [0] [.pointer p157]) H (fun x e' H' => K x (clean e' ((⟨[0], [], [2, 3]⟩ : Out).of x)) H') = bitio_Reader_get_p0_b bitio_Reader_get_p1 k p157 H (fun p904 H => K .normal [(0, .pointer p904)] H) (fun n905 n906 H => K .ret [(2, .int .i64 n905), (3, .int .i64 n906)] H) := by kernel_rfl
theorem bitio_Reader_get_j0 {R : Type} (k : Nat) : JS Try.prog 87 (bitio_Reader_get_a0 R k k) [0] ⟨[0], [], [2, 3]⟩ (sel [1, 0] (Try.f39.body.getD .skip)) :=
  piece_ok (nt := 87) (c := (sel [1, 0] (Try.f39.body.getD .skip))) (C := bitio_Reader_get_C R k) (an := An) (t := (.seq (.reg [0, 9] []) (.cond (.seq (.seq (.reg [0, 19] [[], [0], [0, 1], [0, 1, 2], [], [4], [4, 5], [4, 5, 6], [4, 5, 6, 7], [0, 1, 2, 3, 4, 5, 6, 7, 8]]) (.cond (.seq (.reg [2, 3] []) .leaf) .leaf)) (.seq (.reg [0, 4] []) (.seq (.opq 1 [0, 4] ⟨[0, 4], [], [2, 3]⟩ (.seq (.opq 2 [0, 4] ⟨[0, 4, 38], [], []⟩ (.reg [0, 4, 38] [[], [0], [0, 1], [0, 1, 2], [0, 1, 2, 3], [0, 1, 2, 3, 4], [0, 1, 2, 3, 4, 5], [0, 1, 2, 3, 4, 5, 6], [0, 1, 2, 3, 4, 5, 6, 7], [0, 1, 2, 3, 4, 5, 6, 7, 8], [0, 1, 2, 3, 4, 5], [0, 1, 2, 3, 4, 5, 10], [0, 1, 2, 3, 4, 5, 10, 11], [0, 1, 2, 3, 4, 5, 10, 11, 12], [0, 1, 2, 3, 4, 5, 10, 11, 12, 13], [0, 1, 2, 3, 4, 5, 6, 7, 8, 9, 10, 11, 12, 13, 14], [0, 1, 2, 3, 4, 5, 6, 7, 8, 9, 10, 11, 12, 13, 14, 15], [0, 1, 2, 3, 4, 5, 6, 7, 8, 9, 10, 11, 12, 13, 14, 15, 16], [0, 1, 2, 3, 4, 5, 6, 7, 8, 9, 10, 11, 12, 13, 14, 15, 16, 17]])) (.cond (.seq (.seq (.reg [0, 49] [[], [0], [0, 1], [0, 1, 2], [], [4], [4, 5], [4, 5, 6], [0, 1, 2, 3, 4, 5, 6, 7], [0, 1, 2, 3, 4, 5, 6, 7, 8], [0, 1, 2, 3, 4, 5, 6, 7, 8, 9]]) (.cond (.seq (.reg [2, 3] []) .leaf) .leaf)) (.reg [0, 4] [])) .leaf))) (.seq (.reg [0, 4] []) (.reg [0] []))))) .leaf))) (ic := bitio_Reader_get_i0) (bitio_Reader_get_S R k) (bitio_Reader_get_J R k) (by kernel_rfl) (And.intro True.intro (And.intro (And.intro (And.intro True.intro (And.intro (And.intro True.intro True.intro) True.intro)) (And.intro True.intro (And.intro (bitio_Reader_get_j1 k) (And.intro True.intro True.intro)))) True.intro)) (bitio_Reader_get_a0 R k k)
    (fun vals H K r h => by
      unfold bitio_Reader_get_a0 bitio_Reader_get_aa0 at h
      split at h <;> first | (cases h; done) | exact Eq.trans (bitio_Reader_get_e0 (bitio_Reader_get_p0 k) (bitio_Reader_get_p1 k) (bitio_Reader_get_p2 k) k _ H K) h)
def bitio_Reader_get_ca {R : Type} (f : Option Addr → Heap → (Int → Int → Heap → Option R) → Option R) (args : List Value) (H : Heap) (K : Value → Heap → Option R) : Option R :=
  match args with
  | [.pointer p156] => f p156 H (fun n914 n915 H => K (.tuple ⟨[.int .i64 n914, .int .i64 n915]⟩) H)
  | _ => none
def bitio_Reader_get_c (R : Type) (k : Nat) (args : List Value) (H : Heap) (K : Value → Heap → Option R) : Option R := bitio_Reader_get_ca (bitio_Reader_get k) args H K
theorem bitio_Reader_get_e {R : Type} (bitio_Reader_get_p0 : Option Addr → Heap → (Option Addr → Heap → Option R) → (Int → Int → Heap → Option R) → Option R) (bitio_Reader_get_p1 : Option Addr → Int → Heap → (Option Addr → Int → Option R) → (Int → Int → Option R) → Option R) (bitio_Reader_get_p2 : Option Addr → Int → Heap → (Option Addr → Int → Bool → Option R) → Option R) (k : Nat) (p156 : Option Addr) (H : Heap) (K : Value → Heap → Option R) : evF (bitio_Reader_get_Ct) (bitio_Reader_get_Jt k bitio_Reader_get_p0 bitio_Reader_get_p1 bitio_Reader_get_p2) bitio_Reader_get_f [.pointer p156] H K = bitio_Reader_get_b bitio_Reader_get_p0 k p156 H (fun n914 n915 H => K (.tuple ⟨[.int .i64 n914, .int .i64 n915]⟩) H) := by kernel_rfl
theorem bitio_Reader_get_cs (R : Type) (k : Nat) : ∀ args H K r, bitio_Reader_get_c R k args H K = some r → ∃ v H', Tri Try.prog 39 args H v H' ∧ K v H' = some r := by
  intro args H K r h
  unfold bitio_Reader_get_c bitio_Reader_get_ca at h
  split at h
  · exact evF_ok (C := bitio_Reader_get_C R k) (an := An) (t := bitio_Reader_get_at) (fn := Try.f39) (c := (Try.f39.body.getD .skip)) (ifn := bitio_Reader_get_f) (bitio_Reader_get_S R k) (bitio_Reader_get_J R k) Try.func39 (by kernel_rfl) (by kernel_rfl) (And.intro True.intro (And.intro (bitio_Reader_get_j0 k) (And.intro True.intro (And.intro True.intro True.intro)))) rfl (Eq.trans (bitio_Reader_get_e (bitio_Reader_get_p0 k) (bitio_Reader_get_p1 k) (bitio_Reader_get_p2 k) k _ H K) h)
  · cases h
/-! ### bitio_Reader_bits: function 49 -/
def bitio_Reader_bits_l0_b {R : Type} (bitio_Reader_get : Option Addr → Heap → (Int → Int → Heap → Option R) → Option R) (rec : Option Addr → Int → Int → Int → Heap → Option R) (KE0 : Int → Heap → Option R) (KR : Int → Int → Heap → Option R) (k : Nat) (p152 : Option Addr) (n153 : Int) (n154 : Int) (n155 : Int) (H : Heap) : Option R :=
bif decide (n155 < n154) then (bitio_Reader_get p152 H fun n156 n157 H158 =>
bif (n157 != 0) then (KR 0 n157 H158)
 else (hbin .or .i64 (IntKind.wrap .i64 (n153 * 2)) n156 fun n159 =>
rec p152 n159 n154 (IntKind.wrap .i64 (n155 + 1)) H158))
 else (KE0 n153 H)
def bitio_Reader_bits_l0 {R : Type} (k : Nat) (KE0 : Int → Heap → Option R) (KR : Int → Int → Heap → Option R) : Nat → Option Addr → Int → Int → Int → Heap → Option R
  | 0, _, _, _, _, _ => none
  | n + 1, p152, n153, n154, n155, H => bitio_Reader_bits_l0_b (bitio_Reader_get k) (bitio_Reader_bits_l0 k KE0 KR n) KE0 KR k p152 n153 n154 n155 H

def bitio_Reader_bits_b {R : Type} (bitio_Reader_bits_l0 : (Int → Heap → Option R) → (Int → Int → Heap → Option R) → Nat → Option Addr → Int → Int → Int → Heap → Option R) (k : Nat) (p150 : Option Addr) (n151 : Int) (H : Heap) (K : Int → Int → Heap → Option R) : Option R :=
bitio_Reader_bits_l0 (fun n163 H164 =>
K n163 0 H164) (fun n165 n166 H167 =>
K n165 n166 H167) k p150 0 n151 0 H

def bitio_Reader_bits {R : Type} (k : Nat) (p150 : Option Addr) (n151 : Int) (H : Heap) (K : Int → Int → Heap → Option R) : Option R := bitio_Reader_bits_b (bitio_Reader_bits_l0 k) k p150 n151 H K

def bitio_Reader_bits_Ct {R : Type} (bitio_Reader_get : Option Addr → Heap → (Int → Int → Heap → Option R) → Option R) : Tab R := tcons 39 (bitio_Reader_get_ca bitio_Reader_get) <| fun _ _ _ _ => none
def bitio_Reader_bits_C (R : Type) (k : Nat) : Tab R := bitio_Reader_bits_Ct (bitio_Reader_get k)
theorem bitio_Reader_bits_S (R : Type) (k : Nat) : CSound Try.prog (bitio_Reader_bits_C R k) := csound_cons (bitio_Reader_get_cs R k) <| csound_nil
def bitio_Reader_bits_aa0 {R : Type} (f : (Int → Heap → Option R) → (Int → Int → Heap → Option R) → Nat → Option Addr → Int → Int → Int → Heap → Option R) (n : Nat) (vals : List Value) (H : Heap) (K : Xit → Env → Heap → Option R) : Option R :=
  match vals with
  | [.pointer p152, .int .i64 n153, .int .i64 n154, .int .i64 n155] => f (fun n916 H => K (.exit 0) [(6, .int .i64 n916)] H) (fun n917 n918 H => K .ret [(4, .int .i64 n917), (5, .int .i64 n918)] H) n p152 n153 n154 n155 H
  | _ => none
def bitio_Reader_bits_a0 (R : Type) (k n : Nat) (vals : List Value) (H : Heap) (K : Xit → Env → Heap → Option R) : Option R := bitio_Reader_bits_aa0 (bitio_Reader_bits_l0 k) n vals H K
def bitio_Reader_bits_Jt {R : Type} (k : Nat) (bitio_Reader_bits_l0 : (Int → Heap → Option R) → (Int → Int → Heap → Option R) → Nat → Option Addr → Int → Int → Int → Heap → Option R) : JTab R := tcons 0 (bitio_Reader_bits_aa0 bitio_Reader_bits_l0 k) <| fun _ _ _ _ => none
def bitio_Reader_bits_J (R : Type) (k : Nat) : JTab R := bitio_Reader_bits_Jt k (bitio_Reader_bits_l0 k)
def bitio_Reader_bits_at : AT := (.seq (.reg [0, 1] []) (.seq (.reg [0, 1, 6] []) (.seq (.seq (.reg [0, 6, 9, 10] []) (.node (.opq 0 [0, 6, 9, 10] ⟨[], [(0, [6])], [4, 5]⟩ (.node (.seq (.reg [0, 6, 9, 10, 11] []) (.seq (.cond .leaf .leaf) (.seq (.node (.seq (.reg [0, 6, 7, 8, 9, 10] []) (.seq (.seq (.reg [0, 6, 7, 8, 9, 10, 18] []) (.cond (.seq (.reg [4, 5] []) .leaf) .leaf)) (.reg [0, 6, 9, 10] [])))) (.reg [0, 6, 9, 10] [])))))))) (.seq (.reg [4, 5] []) .leaf))))
def bitio_Reader_bits_i0 : IC := (.seq (.reg [⟨some 11, .cmp .lss (.t 10) (.t 9), none⟩] [0, 6, 9, 10, 11]) (.seq (.cond (.t 11) .skip (.exit 0)) (.seq (.block 1 (.seq (.reg [⟨some 13, .mov (.t 0), none⟩,
 ⟨some 14, .call 39 [(.t 13)] (.tup [(.sc (.int .i64)), (.sc (.int .i64))]), none⟩,
 ⟨some 12, .mov (.t 14), none⟩,
 ⟨some 15, .ext 0 (.t 12), none⟩,
 ⟨some 16, .ext 1 (.t 12), none⟩,
 ⟨some 7, .mov (.t 15), none⟩,
 ⟨some 8, .mov (.t 16), none⟩] [0, 6, 7, 8, 9, 10]) (.seq (.seq (.reg [⟨some 17, .mov (.t 8), none⟩,
 ⟨some 18, .cmp .neq (.t 17) (.c (Go.Value.int Go.IntKind.i64 0)), none⟩] [0, 6, 7, 8, 9, 10, 18]) (.cond (.t 18) (.seq (.reg [⟨some 19, .mov (.t 8), none⟩,
 ⟨some 4, .mov (.c (Go.Value.int Go.IntKind.i64 0)), none⟩,
 ⟨some 5, .mov (.t 19), none⟩] [4, 5]) .ret) .skip)) (.reg [⟨some 20, .mov (.t 6), none⟩,
 ⟨some 21, .bin .shl .i64 (.t 20) (.c (Go.Value.int Go.IntKind.u64 1)), none⟩,
 ⟨some 22, .mov (.t 7), none⟩,
 ⟨some 23, .bin .or .i64 (.t 21) (.t 22), none⟩,
 ⟨some 6, .mov (.t 23), none⟩] [0, 6, 9, 10])))) (.reg [⟨some 24, .bin .add .i64 (.t 10) (.c (Go.Value.int Go.IntKind.i64 1)), none⟩,
 ⟨some 10, .mov (.t 24), none⟩] [0, 6, 9, 10]))))
def bitio_Reader_bits_f : IFn := ⟨26, [.t 4, .t 5], (.seq (.reg [⟨some 4, .mov (.c (Go.Value.int Go.IntKind.i64 0)), none⟩,
 ⟨some 5, .mov (.c (Go.Value.int Go.IntKind.i64 0)), none⟩] [0, 1]) (.seq (.reg [⟨some 6, .mov (.c (Go.Value.int Go.IntKind.i64 0)), none⟩] [0, 1, 6]) (.seq (.seq (.reg [⟨some 9, .mov (.t 1), none⟩,
 ⟨some 10, .mov (.c (Go.Value.int Go.IntKind.i64 0)), none⟩] [0, 6, 9, 10]) (.block 0 (.opq 0 [0, 6, 9, 10] (.loop bitio_Reader_bits_i0)))) (.seq (.reg [⟨some 25, .mov (.t 6), none⟩,
 ⟨some 4, .mov (.t 25), none⟩,
 ⟨some 5, .mov (.c (Go.Value.int Go.IntKind.i64 0)), none⟩] [4, 5]) .ret))))⟩
theorem bitio_Reader_bits_e0 {R : Type} (bitio_Reader_get : Option Addr → Heap → (Int → Int → Heap → Option R) → Option R) (bitio_Reader_bits_l0 : (Int → Heap → Option R) → (Int → Int → Heap → Option R) → Nat → Option Addr → Int → Int → Int → Heap → Option R) (k n : Nat) (p152 : Option Addr) (n153 : Int) (n154 : Int) (n155 : Int) (H : Heap) (K : Xit → Env → Heap → Option R) : evJ (bitio_Reader_bits_Ct bitio_Reader_get) (bitio_Reader_bits_Jt k bitio_Reader_bits_l0) bitio_Reader_bits_i0 (List.zip [0, 6, 9, 10] [.pointer p152, .int .i64 n153, .int .i64 n154, .int .i64 n155]) H (fun x e' H' => match x with | .normal => bitio_Reader_bits_aa0 bitio_Reader_bits_l0 n ((clean e' [0, 6, 9, 10]).map (·.2)) H' K | x => K x (clean e' ((⟨[], [(0, [6])], [4, 5]⟩ : Out).of x)) H') = bitio_Reader_bits_l0_b bitio_Reader_get (bitio_Reader_bits_l0 (fun n916 H => K (.exit 0) [(6, .int .i64 n916)] H) (fun n917 n918 H => K .ret [(4, .int .i64 n917), (5, .int .i64 n918)] H) n) (fun n916 H => K (.exit 0) [(6, .int .i64 n916)] H) (fun n917 n918 H => K .ret [(4, .int .i64 n917), (5, .int .i64 n918)] H) k p152 n153 n154 n155 H := by kernel_rfl
theorem bitio_Reader_bits_j0 {R : Type} (k : Nat) : JS Try.prog 26 (bitio_Reader_bits_a0 R k k) [0, 6, 9, 10] ⟨[], [(0, [6])], [4, 5]⟩ (.loop (sel [1, 1, 0, 1, 0, 0] (Try.f49.body.getD .skip))) :=
  loop_ok (nt := 26) (c := (sel [1, 1, 0, 1, 0, 0] (Try.f49.body.getD .skip))) (C := bitio_Reader_bits_C R k) (an := An) (t := (.seq (.reg [0, 6, 9, 10, 11] []) (.seq (.cond .leaf .leaf) (.seq (.node (.seq (.reg [0, 6, 7, 8, 9, 10] []) (.seq (.seq (.reg [0, 6, 7, 8, 9, 10, 18] []) (.cond (.seq (.reg [4, 5] []) .leaf) .leaf)) (.reg [0, 6, 9, 10] [])))) (.reg [0, 6, 9, 10] []))))) (ic := bitio_Reader_bits_i0) (bitio_Reader_bits_S R k) (bitio_Reader_bits_J R k) (by kernel_rfl) (And.intro True.intro (And.intro (And.intro True.intro True.intro) (And.intro (And.intro True.intro (And.intro (And.intro True.intro (And.intro (And.intro True.intro True.intro) True.intro)) True.intro)) True.intro))) (bitio_Reader_bits_a0 R k) (fun vals H K => by unfold bitio_Reader_bits_a0 bitio_Reader_bits_aa0; split <;> rfl)
    (fun n vals H K r h => by
      unfold bitio_Reader_bits_a0 bitio_Reader_bits_aa0 at h
      split at h <;> first | (cases h; done) | exact Eq.trans (bitio_Reader_bits_e0 (bitio_Reader_get k) (bitio_Reader_bits_l0 k) k n _ _ _ _ H K) h) k
def bitio_Reader_bits_ca {R : Type} (f : Option Addr → Int → Heap → (Int → Int → Heap → Option R) → Option R) (args : List Value) (H : Heap) (K : Value → Heap → Option R) : Option R :=
  match args with
  | [.pointer p150, .int .i64 n151] => f p150 n151 H (fun n919 n920 H => K (.tuple ⟨[.int .i64 n919, .int .i64 n920]⟩) H)
  | _ => none
def bitio_Reader_bits_c (R : Type) (k : Nat) (args : List Value) (H : Heap) (K : Value → Heap → Option R) : Option R := bitio_Reader_bits_ca (bitio_Reader_bits k) args H K
theorem bitio_Reader_bits_e {R : Type} (bitio_Reader_get : Option Addr → Heap → (Int → Int → Heap → Option R) → Option R) (bitio_Reader_bits_l0 : (Int → Heap → Option R) → (Int → Int → Heap → Option R) → Nat → Option Addr → Int → Int → Int → Heap → Option R) (k : Nat) (p150 : Option Addr) (n151 : Int) (H : Heap) (K : Value → Heap → Option R) : evF (bitio_Reader_bits_Ct bitio_Reader_get) (bitio_Reader_bits_Jt k bitio_Reader_bits_l0) bitio_Reader_bits_f [.pointer p150, .int .i64 n151] H K = bitio_Reader_bits_b bitio_Reader_bits_l0 k p150 n151 H (fun n919 n920 H => K (.tuple ⟨[.int .i64 n919, .int .i64 n920]⟩) H) := by kernel_rfl
theorem bitio_Reader_bits_cs (R : Type) (k : Nat) : ∀ args H K r, bitio_Reader_bits_c R k args H K = some r → ∃ v H', Tri Try.prog 49 args H v H' ∧ K v H' = some r := by
  intro args H K r h
  unfold bitio_Reader_bits_c bitio_Reader_bits_ca at h
  split at h
  · exact evF_ok (C := bitio_Reader_bits_C R k) (an := An) (t := bitio_Reader_bits_at) (fn := Try.f49) (c := (Try.f49.body.getD .skip)) (ifn := bitio_Reader_bits_f) (bitio_Reader_bits_S R k) (bitio_Reader_bits_J R k) Try.func49 (by kernel_rfl) (by kernel_rfl) (And.intro True.intro (And.intro True.intro (And.intro (And.intro True.intro (bitio_Reader_bits_j0 k)) (And.intro True.intro True.intro)))) rfl (Eq.trans (bitio_Reader_bits_e (bitio_Reader_get k) (bitio_Reader_bits_l0 k) k _ _ H K) h)
  · cases h
/-! ### bitio_Reader_Bits_1: function 48 -/
def bitio_Reader_Bits_1_b {R : Type} (bitio_Reader_bits : Option Addr → Int → Heap → (Int → Int → Heap → Option R) → Option R) (k : Nat) (p146 : Option Addr) (p147 : Option Addr) (H : Heap) (K : Int → Int → Heap → Option R) : Option R :=
ldP H p146 fun p148 =>
ldI .i64 H p147 fun n149 =>
bitio_Reader_bits p148 n149 H fun n150 n151 H152 =>
K n150 n151 H152

def bitio_Reader_Bits_1 {R : Type} (k : Nat) (p146 : Option Addr) (p147 : Option Addr) (H : Heap) (K : Int → Int → Heap → Option R) : Option R := bitio_Reader_Bits_1_b (bitio_Reader_bits k) k p146 p147 H K

def bitio_Reader_Bits_1_Ct {R : Type} (bitio_Reader_bits : Option Addr → Int → Heap → (Int → Int → Heap → Option R) → Option R) : Tab R := tcons 49 (bitio_Reader_bits_ca bitio_Reader_bits) <| fun _ _ _ _ => none
def bitio_Reader_Bits_1_C (R : Type) (k : Nat) : Tab R := bitio_Reader_Bits_1_Ct (bitio_Reader_bits k)
theorem bitio_Reader_Bits_1_S (R : Type) (k : Nat) : CSound Try.prog (bitio_Reader_Bits_1_C R k) := csound_cons (bitio_Reader_bits_cs R k) <| csound_nil
def bitio_Reader_Bits_1_Jt {R : Type} (k : Nat) : JTab R := fun _ _ _ _ => none
def bitio_Reader_Bits_1_J (R : Type) (k : Nat) : JTab R := bitio_Reader_Bits_1_Jt k
def bitio_Reader_Bits_1_at : AT := (.seq (.reg [0, 1] []) (.seq (.reg [2, 3] []) .leaf))
def bitio_Reader_Bits_1_f : IFn := ⟨9, [.t 2, .t 3], (.seq (.reg [⟨some 2, .mov (.c (Go.Value.int Go.IntKind.i64 0)), none⟩,
 ⟨some 3, .mov (.c (Go.Value.int Go.IntKind.i64 0)), none⟩] [0, 1]) (.seq (.reg [⟨some 4, .ld (.sc .ptr) (.t 0), none⟩,
 ⟨some 5, .ld (.sc (.int .i64)) (.t 1), none⟩,
 ⟨some 6, .call 49 [(.t 4), (.t 5)] (.tup [(.sc (.int .i64)), (.sc (.int .i64))]), none⟩,
 ⟨some 7, .ext 0 (.t 6), none⟩,
 ⟨some 8, .ext 1 (.t 6), none⟩,
 ⟨some 2, .mov (.t 7), none⟩,
 ⟨some 3, .mov (.t 8), none⟩] [2, 3]) .ret))⟩
def bitio_Reader_Bits_1_ca {R : Type} (f : Option Addr → Option Addr → Heap → (Int → Int → Heap → Option R) → Option R) (args : List Value) (H : Heap) (K : Value → Heap → Option R) : Option R :=
  match args with
  | [.pointer p146, .pointer p147] => f p146 p147 H (fun n921 n922 H => K (.tuple ⟨[.int .i64 n921, .int .i64 n922]⟩) H)
  | _ => none
def bitio_Reader_Bits_1_c (R : Type) (k : Nat) (args : List Value) (H : Heap) (K : Value → Heap → Option R) : Option R := bitio_Reader_Bits_1_ca (bitio_Reader_Bits_1 k) args H K
theorem bitio_Reader_Bits_1_e {R : Type} (bitio_Reader_bits : Option Addr → Int → Heap → (Int → Int → Heap → Option R) → Option R) (k : Nat) (p146 : Option Addr) (p147 : Option Addr) (H : Heap) (K : Value → Heap → Option R) : evF (bitio_Reader_Bits_1_Ct bitio_Reader_bits) (bitio_Reader_Bits_1_Jt k) bitio_Reader_Bits_1_f [.pointer p146, .pointer p147] H K = bitio_Reader_Bits_1_b bitio_Reader_bits k p146 p147 H (fun n921 n922 H => K (.tuple ⟨[.int .i64 n921, .int .i64 n922]⟩) H) := by kernel_rfl
theorem bitio_Reader_Bits_1_cs (R : Type) (k : Nat) : ∀ args H K r, bitio_Reader_Bits_1_c R k args H K = some r → ∃ v H', Tri Try.prog 48 args H v H' ∧ K v H' = some r := by
  intro args H K r h
  unfold bitio_Reader_Bits_1_c bitio_Reader_Bits_1_ca at h
  split at h
  · exact evF_ok (C := bitio_Reader_Bits_1_C R k) (an := An) (t := bitio_Reader_Bits_1_at) (fn := Try.f48) (c := (Try.f48.body.getD .skip)) (ifn := bitio_Reader_Bits_1_f) (bitio_Reader_Bits_1_S R k) (bitio_Reader_Bits_1_J R k) Try.func48 (by kernel_rfl) (by kernel_rfl) (And.intro True.intro (And.intro True.intro True.intro)) rfl (Eq.trans (bitio_Reader_Bits_1_e (bitio_Reader_bits k) k _ _ H K) h)
  · cases h
/-! ### bitio_Reader_whole_v48: function 47 -/
def bitio_Reader_whole_v48_b {R : Type} (bitio_Reader_Bits_1 : Option Addr → Option Addr → Heap → (Int → Int → Heap → Option R) → Option R) (k : Nat) (p137 : Option Addr) (p138 : Option Addr) (p139 : Option Addr) (H : Heap) (K : Int → Int → Heap → Option R) : Option R :=
hnil p137 fun p140 =>
hfad 2 p140 fun p141 =>
ldI .i64 H p141 fun n142 =>
hnil p137 fun p143 =>
hfad 3 p143 fun p144 =>
ldI .i64 H p144 fun n145 =>
bitio_Reader_Bits_1 p138 p139 H fun n146 n147 H148 =>
bif (n147 != 0) then (hnil p137 fun p149 =>
hfad 2 p149 fun p150 =>
hst1 H148 p150 (.int .i64 n142) fun H151 =>
hnil p137 fun p152 =>
hfad 3 p152 fun p153 =>
hst1 H151 p153 (.int .i64 n145) fun H154 =>
K 0 n147 H154)
 else (K n146 0 H148)

def bitio_Reader_whole_v48 {R : Type} (k : Nat) (p137 : Option Addr) (p138 : Option Addr) (p139 : Option Addr) (H : Heap) (K : Int → Int → Heap → Option R) : Option R := bitio_Reader_whole_v48_b (bitio_Reader_Bits_1 k) k p137 p138 p139 H K

def bitio_Reader_whole_v48_Ct {R : Type} (bitio_Reader_Bits_1 : Option Addr → Option Addr → Heap → (Int → Int → Heap → Option R) → Option R) : Tab R := tcons 48 (bitio_Reader_Bits_1_ca bitio_Reader_Bits_1) <| fun _ _ _ _ => none
def bitio_Reader_whole_v48_C (R : Type) (k : Nat) : Tab R := bitio_Reader_whole_v48_Ct (bitio_Reader_Bits_1 k)
theorem bitio_Reader_whole_v48_S (R : Type) (k : Nat) : CSound Try.prog (bitio_Reader_whole_v48_C R k) := csound_cons (bitio_Reader_Bits_1_cs R k) <| csound_nil
def bitio_Reader_whole_v48_Jt {R : Type} (k : Nat) : JTab R := fun _ _ _ _ => none
def bitio_Reader_whole_v48_J (R : Type) (k : Nat) : JTab R := bitio_Reader_whole_v48_Jt k
def bitio_Reader_whole_v48_at : AT := (.seq (.reg [0, 1] []) (.seq (.reg [0, 1, 6, 7] [[], [0], [0, 1], [0, 1, 2], [], [4], [4, 5], [4, 5, 6], [0, 1, 2, 3], [0, 1, 2, 3, 4, 5, 6, 7, 8]]) (.seq (.reg [0, 6, 7, 8, 9] []) (.seq (.seq (.reg [0, 6, 7, 8, 9, 24] []) (.cond (.seq (.reg [9] []) (.seq (.reg [4, 5] []) .leaf)) .leaf)) (.seq (.reg [4, 5] []) .leaf)))))
def bitio_Reader_whole_v48_f : IFn := ⟨35, [.t 4, .t 5], (.seq (.reg [⟨some 4, .mov (.c (Go.Value.int Go.IntKind.i64 0)), none⟩,
 ⟨some 5, .mov (.c (Go.Value.int Go.IntKind.i64 0)), none⟩] [0, 1]) (.seq (.reg [⟨some 10, .mov (.t 0), none⟩,
 ⟨some 11, .nilc (.t 10), none⟩,
 ⟨some 12, .fad 2 (.t 11), none⟩,
 ⟨some 13, .ld (.sc (.int .i64)) (.t 12), none⟩,
 ⟨some 14, .mov (.t 0), none⟩,
 ⟨some 15, .nilc (.t 14), none⟩,
 ⟨some 16, .fad 3 (.t 15), none⟩,
 ⟨some 17, .ld (.sc (.int .i64)) (.t 16), none⟩,
 ⟨some 6, .mov (.t 13), none⟩,
 ⟨some 7, .mov (.t 17), none⟩] [0, 1, 6, 7]) (.seq (.reg [⟨some 19, .mov (.t 1), none⟩,
 ⟨some 20, .calv (.t 19) [] (.tup [(.sc (.int .i64)), (.sc (.int .i64))]), none⟩,
 ⟨some 18, .mov (.t 20), none⟩,
 ⟨some 21, .ext 0 (.t 18), none⟩,
 ⟨some 22, .ext 1 (.t 18), none⟩,
 ⟨some 8, .mov (.t 21), none⟩,
 ⟨some 9, .mov (.t 22), none⟩] [0, 6, 7, 8, 9]) (.seq (.seq (.reg [⟨some 23, .mov (.t 9), none⟩,
 ⟨some 24, .cmp .neq (.t 23) (.c (Go.Value.int Go.IntKind.i64 0)), none⟩] [0, 6, 7, 8, 9, 24]) (.cond (.t 24) (.seq (.reg [⟨some 25, .mov (.t 0), none⟩,
 ⟨some 26, .mov (.t 0), none⟩,
 ⟨some 27, .mov (.t 6), none⟩,
 ⟨some 28, .mov (.t 7), none⟩,
 ⟨some 29, .nilc (.t 25), none⟩,
 ⟨some 30, .fad 2 (.t 29), none⟩,
 ⟨none, .st 1 (.t 30) (.t 27), none⟩,
 ⟨some 31, .nilc (.t 26), none⟩,
 ⟨some 32, .fad 3 (.t 31), none⟩,
 ⟨none, .st 1 (.t 32) (.t 28), none⟩] [9]) (.seq (.reg [⟨some 33, .mov (.t 9), none⟩,
 ⟨some 4, .mov (.c (Go.Value.int Go.IntKind.i64 0)), none⟩,
 ⟨some 5, .mov (.t 33), none⟩] [4, 5]) .ret)) .skip)) (.seq (.reg [⟨some 34, .mov (.t 8), none⟩,
 ⟨some 4, .mov (.t 34), none⟩,
 ⟨some 5, .mov (.c (Go.Value.int Go.IntKind.i64 0)), none⟩] [4, 5]) .ret)))))⟩
def bitio_Reader_whole_v48_ca {R : Type} (f : Option Addr → Option Addr → Option Addr → Heap → (Int → Int → Heap → Option R) → Option R) (args : List Value) (H : Heap) (K : Value → Heap → Option R) : Option R :=
  match args with
  | [.pointer p137, .func (.func 48) ⟨[]⟩ ⟨[.pointer p138, .pointer p139]⟩] => f p137 p138 p139 H (fun n923 n924 H => K (.tuple ⟨[.int .i64 n923, .int .i64 n924]⟩) H)
  | _ => none
def bitio_Reader_whole_v48_c (R : Type) (k : Nat) (args : List Value) (H : Heap) (K : Value → Heap → Option R) : Option R := bitio_Reader_whole_v48_ca (bitio_Reader_whole_v48 k) args H K
theorem bitio_Reader_whole_v48_e {R : Type} (bitio_Reader_Bits_1 : Option Addr → Option Addr → Heap → (Int → Int → Heap → Option R) → Option R) (k : Nat) (p137 : Option Addr) (p138 : Option Addr) (p139 : Option Addr) (H : Heap) (K : Value → Heap → Option R) : evF (bitio_Reader_whole_v48_Ct bitio_Reader_Bits_1) (bitio_Reader_whole_v48_Jt k) bitio_Reader_whole_v48_f [.pointer p137, .func (.func 48) ⟨[]⟩ ⟨[.pointer p138, .pointer p139]⟩] H K = bitio_Reader_whole_v48_b bitio_Reader_Bits_1 k p137 p138 p139 H (fun n923 n924 H => K (.tuple ⟨[.int .i64 n923, .int .i64 n924]⟩) H) := by kernel_rfl
theorem bitio_Reader_whole_v48_cs (R : Type) (k : Nat) : ∀ args H K r, bitio_Reader_whole_v48_c R k args H K = some r → ∃ v H', Tri Try.prog 47 args H v H' ∧ K v H' = some r := by
  intro args H K r h
  unfold bitio_Reader_whole_v48_c bitio_Reader_whole_v48_ca at h
  split at h
  · exact evF_ok (C := bitio_Reader_whole_v48_C R k) (an := An) (t := bitio_Reader_whole_v48_at) (fn := Try.f47) (c := (Try.f47.body.getD .skip)) (ifn := bitio_Reader_whole_v48_f) (bitio_Reader_whole_v48_S R k) (bitio_Reader_whole_v48_J R k) Try.func47 (by kernel_rfl) (by kernel_rfl) (And.intro True.intro (And.intro True.intro (And.intro True.intro (And.intro (And.intro True.intro (And.intro (And.intro True.intro (And.intro True.intro True.intro)) True.intro)) (And.intro True.intro True.intro))))) rfl (Eq.trans (bitio_Reader_whole_v48_e (bitio_Reader_Bits_1 k) k _ _ _ H K) h)
  · cases h
/-! ### bitio_Reader_Bits: function 31 -/
def bitio_Reader_Bits_p0_b {R : Type} (k : Nat) (p121 : Option Addr) (p122 : Option Addr) (H : Heap) (KN : Option Addr → Option Addr → Option R) (KR : Int → Int → Option R) : Option R :=
ldI .i64 H p122 fun n123 =>
bif decide (n123 < 0) then (KR 0 1)
 else (ldI .i64 H p122 fun n124 =>
bif decide (n124 > 32) then (KR 0 1)
 else (KN p121 p122))
def bitio_Reader_Bits_p0 {R : Type} (k : Nat) (p121 : Option Addr) (p122 : Option Addr) (H : Heap) (KN : Option Addr → Option Addr → Option R) (KR : Int → Int → Option R) : Option R := bitio_Reader_Bits_p0_b k p121 p122 H KN KR

def bitio_Reader_Bits_b {R : Type} (bitio_Reader_ok : Option Addr → Heap → (Bool → Option R) → Option R) (bitio_Reader_Bits_p0 : Option Addr → Option Addr → Heap → (Option Addr → Option Addr → Option R) → (Int → Int → Option R) → Option R) (bitio_Reader_whole_v48 : Option Addr → Option Addr → Option Addr → Heap → (Int → Int → Heap → Option R) → Option R) (k : Nat) (p113 : Option Addr) (n114 : Int) (H : Heap) (K : Int → Int → Heap → Option R) : Option R :=
hal H [.pointer p113] fun p115 H116 =>
hal H116 [.int .i64 n114] fun p117 H118 =>
ldP H118 p115 fun p119 =>
bitio_Reader_ok p119 H118 fun t120 =>
bif (!t120) then (K 0 6 H118)
 else (bitio_Reader_Bits_p0 p115 p117 H118 (fun p129 p130 =>
ldP H118 p129 fun p131 =>
bitio_Reader_whole_v48 p131 p129 p130 H118 fun n132 n133 H134 =>
K n132 n133 H134) (fun n135 n136 =>
K n135 n136 H118))

def bitio_Reader_Bits {R : Type} (k : Nat) (p113 : Option Addr) (n114 : Int) (H : Heap) (K : Int → Int → Heap → Option R) : Option R := bitio_Reader_Bits_b bitio_Reader_ok (bitio_Reader_Bits_p0 k) (bitio_Reader_whole_v48 k) k p113 n114 H K

def bitio_Reader_Bits_Ct {R : Type} (bitio_Reader_ok : Option Addr → Heap → (Bool → Option R) → Option R) (bitio_Reader_whole_v48 : Option Addr → Option Addr → Option Addr → Heap → (Int → Int → Heap → Option R) → Option R) : Tab R := tcons 38 (bitio_Reader_ok_ca bitio_Reader_ok) <| tcons 47 (bitio_Reader_whole_v48_ca bitio_Reader_whole_v48) <| fun _ _ _ _ => none
def bitio_Reader_Bits_C (R : Type) (k : Nat) : Tab R := bitio_Reader_Bits_Ct bitio_Reader_ok (bitio_Reader_whole_v48 k)
theorem bitio_Reader_Bits_S (R : Type) (k : Nat) : CSound Try.prog (bitio_Reader_Bits_C R k) := csound_cons (bitio_Reader_ok_cs R k) <| csound_cons (bitio_Reader_whole_v48_cs R k) <| csound_nil
def bitio_Reader_Bits_aa0 {R : Type} (f : Option Addr → Option Addr → Heap → (Option Addr → Option Addr → Option R) → (Int → Int → Option R) → Option R) (n : Nat) (vals : List Value) (H : Heap) (K : Xit → Env → Heap → Option R) : Option R :=
  match vals with
  | [.pointer p121, .pointer p122] => f p121 p122 H (fun p925 p926 => K .normal [(2, .pointer p925), (3, .pointer p926)] H) (fun n927 n928 => K .ret [(4, .int .i64 n927), (5, .int .i64 n928)] H)
  | _ => none
def bitio_Reader_Bits_a0 (R : Type) (k n : Nat) (vals : List Value) (H : Heap) (K : Xit → Env → Heap → Option R) : Option R := bitio_Reader_Bits_aa0 (bitio_Reader_Bits_p0 k) n vals H K
def bitio_Reader_Bits_Jt {R : Type} (k : Nat) (bitio_Reader_Bits_p0 : Option Addr → Option Addr → Heap → (Option Addr → Option Addr → Option R) → (Int → Int → Option R) → Option R) : JTab R := tcons 0 (bitio_Reader_Bits_aa0 bitio_Reader_Bits_p0 k) <| fun _ _ _ _ => none
def bitio_Reader_Bits_J (R : Type) (k : Nat) : JTab R := bitio_Reader_Bits_Jt k (bitio_Reader_Bits_p0 k)
def bitio_Reader_Bits_at : AT := (.seq (.reg [2, 3] []) (.seq (.seq (.reg [2, 3, 8] []) (.cond (.seq (.reg [4, 5] []) .leaf) .leaf)) (.seq (.opq 0 [2, 3] ⟨[2, 3], [], [4, 5]⟩ (.seq (.reg [2, 3, 14] []) (.cond (.seq (.reg [4, 5] []) .leaf) .leaf))) (.seq (.reg [4, 5] []) .leaf))))
def bitio_Reader_Bits_i0 : IC := (.seq (.reg [⟨some 9, .ld (.sc (.int .i64)) (.t 3), none⟩,
 ⟨some 10, .cmp .lss (.t 9) (.c (Go.Value.int Go.IntKind.i64 0)), none⟩,
 ⟨some 11, .mov (.t 10), none⟩,
 ⟨some 12, .ld (.sc (.int .i64)) (.t 3), some (11, false)⟩,
 ⟨some 13, .cmp .gtr (.t 12) (.c (Go.Value.int Go.IntKind.i64 32)), some (11, false)⟩,
 ⟨some 14, .pick (.t 11) (.c (Go.Value.bool true)) (.t 13), none⟩] [2, 3, 14]) (.cond (.t 14) (.seq (.reg [⟨some 4, .mov (.c (Go.Value.int Go.IntKind.i64 0)), none⟩,
 ⟨some 5, .mov (.c (Go.Value.int Go.IntKind.i64 1)), none⟩] [4, 5]) .ret) .skip))
def bitio_Reader_Bits_f : IFn := ⟨20, [.t 4, .t 5], (.seq (.reg [⟨some 2, .box (.t 0), none⟩,
 ⟨some 3, .box (.t 1), none⟩,
 ⟨some 4, .mov (.c (Go.Value.int Go.IntKind.i64 0)), none⟩,
 ⟨some 5, .mov (.c (Go.Value.int Go.IntKind.i64 0)), none⟩] [2, 3]) (.seq (.seq (.reg [⟨some 6, .ld (.sc .ptr) (.t 2), none⟩,
 ⟨some 7, .call 38 [(.t 6)] (.one (.sc .bool)), none⟩,
 ⟨some 8, .lnot (.t 7), none⟩] [2, 3, 8]) (.cond (.t 8) (.seq (.reg [⟨some 4, .mov (.c (Go.Value.int Go.IntKind.i64 0)), none⟩,
 ⟨some 5, .mov (.c (Go.Value.int Go.IntKind.i64 6)), none⟩] [4, 5]) .ret) .skip)) (.seq (.opq 0 [2, 3] bitio_Reader_Bits_i0) (.seq (.reg [⟨some 15, .ld (.sc .ptr) (.t 2), none⟩,
 ⟨some 16, .mkf 48 [(.t 2), (.t 3)], none⟩,
 ⟨some 17, .call 47 [(.t 15), (.t 16)] (.tup [(.sc (.int .i64)), (.sc (.int .i64))]), none⟩,
 ⟨some 18, .ext 0 (.t 17), none⟩,
 ⟨some 19, .ext 1 (.t 17), none⟩,
 ⟨some 4, .mov (.t 18), none⟩,
 ⟨some 5, .mov (.t 19), none⟩] [4, 5]) .ret))))⟩
theorem bitio_Reader_Bits_e0 {R : Type} (bitio_Reader_ok : Option Addr → Heap → (Bool → Option R) → Option R) (bitio_Reader_whole_v48 : Option Addr → Option Addr → Option Addr → Heap → (Int → Int → Heap → Option R) → Option R) (bitio_Reader_Bits_p0 : Option Addr → Option Addr → Heap → (Option Addr → Option Addr → Option R) → (Int → Int → Option R) → Option R) (k : Nat) (p121 : Option Addr) (p122 : Option Addr) (H : Heap) (K : Xit → Env → Heap → Option R) : evJ (bitio_Reader_Bits_Ct bitio_Reader_ok bitio_Reader_whole_v48) (bitio_Reader_Bits_Jt k bitio_Reader_Bits_p0) bitio_Reader_Bits_i0 (List.zip [2, 3] [.pointer p121, .pointer p122]) H (fun x e' H' => K x (clean e' ((⟨[2, 3], [], [4, 5]⟩ : Out).of x)) H') = bitio_Reader_Bits_p0_b k p121 p122 H (fun p925 p926 => K .normal [(2, .pointer p925), (3, .pointer p926)] H) (fun n927 n928 => K .ret [(4, .int .i64 n927), (5, .int .i64 n928)] H) := by kernel_rfl
theorem bitio_Reader_Bits_j0 {R : Type} (k : Nat) : JS Try.prog 20 (bitio_Reader_Bits_a0 R k k) [2, 3] ⟨[2, 3], [], [4, 5]⟩ (sel [1, 1, 0] (Try.f31.body.getD .skip)) :=
  piece_ok (nt := 20) (c := (sel [1, 1, 0] (Try.f31.body.getD .skip))) (C := bitio_Reader_Bits_C R k) (an := An) (t := (.seq (.reg [2, 3, 14] []) (.cond (.seq (.reg [4, 5] []) .leaf) .leaf))) (ic := bitio_Reader_Bits_i0) (bitio_Reader_Bits_S R k) (bitio_Reader_Bits_J R k) (by kernel_rfl) (And.intro True.intro (And.intro (And.intro True.intro True.intro) True.intro)) (bitio_Reader_Bits_a0 R k k)
    (fun vals H K r h => by
      unfold bitio_Reader_Bits_a0 bitio_Reader_Bits_aa0 at h
      split at h <;> first | (cases h; done) | exact Eq.trans (bitio_Reader_Bits_e0 bitio_Reader_ok (bitio_Reader_whole_v48 k) (bitio_Reader_Bits_p0 k) k _ _ H K) h)
def bitio_Reader_Bits_ca {R : Type} (f : Option Addr → Int → Heap → (Int → Int → Heap → Option R) → Option R) (args : List Value) (H : Heap) (K : Value → Heap → Option R) : Option R :=
  match args with
  | [.pointer p113, .int .i64 n114] => f p113 n114 H (fun n929 n930 H => K (.tuple ⟨[.int .i64 n929, .int .i64 n930]⟩) H)
  | _ => none
def bitio_Reader_Bits_c (R : Type) (k : Nat) (args : List Value) (H : Heap) (K : Value → Heap → Option R) : Option R := bitio_Reader_Bits_ca (bitio_Reader_Bits k) args H K
theorem bitio_Reader_Bits_e {R : Type} (bitio_Reader_ok : Option Addr → Heap → (Bool → Option R) → Option R) (bitio_Reader_whole_v48 : Option Addr → Option Addr → Option Addr → Heap → (Int → Int → Heap → Option R) → Option R) (bitio_Reader_Bits_p0 : Option Addr → Option Addr → Heap → (Option Addr → Option Addr → Option R) → (Int → Int → Option R) → Option R) (k : Nat) (p113 : Option Addr) (n114 : Int) (H : Heap) (K : Value → Heap → Option R) : evF (bitio_Reader_Bits_Ct bitio_Reader_ok bitio_Reader_whole_v48) (bitio_Reader_Bits_Jt k bitio_Reader_Bits_p0) bitio_Reader_Bits_f [.pointer p113, .int .i64 n114] H K = bitio_Reader_Bits_b bitio_Reader_ok bitio_Reader_Bits_p0 bitio_Reader_whole_v48 k p113 n114 H (fun n929 n930 H => K (.tuple ⟨[.int .i64 n929, .int .i64 n930]⟩) H) := by kernel_rfl
theorem bitio_Reader_Bits_cs (R : Type) (k : Nat) : ∀ args H K r, bitio_Reader_Bits_c R k args H K = some r → ∃ v H', Tri Try.prog 31 args H v H' ∧ K v H' = some r := by
  intro args H K r h
  unfold bitio_Reader_Bits_c bitio_Reader_Bits_ca at h
  split at h
  · exact evF_ok (C := bitio_Reader_Bits_C R k) (an := An) (t := bitio_Reader_Bits_at) (fn := Try.f31) (c := (Try.f31.body.getD .skip)) (ifn := bitio_Reader_Bits_f) (bitio_Reader_Bits_S R k) (bitio_Reader_Bits_J R k) Try.func31 (by kernel_rfl) (by kernel_rfl) (And.intro True.intro (And.intro (And.intro True.intro (And.intro (And.intro True.intro True.intro) True.intro)) (And.intro (bitio_Reader_Bits_j0 k) (And.intro True.intro True.intro)))) rfl (Eq.trans (bitio_Reader_Bits_e bitio_Reader_ok (bitio_Reader_whole_v48 k) (bitio_Reader_Bits_p0 k) k _ _ H K) h)
  · cases h
end Go.Proofs.Ytiapgcgpdndkiaa.Sh
