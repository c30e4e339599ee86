/- Lean functions that stand for Go's, over an explicit heap, and the proofs that they do (written by this claim's program shallow.py). -/
import Derived.Test.YtblpaolcgkjcgaaSh1
set_option maxRecDepth 100000
set_option linter.unusedVariables false
set_option linter.unusedSimpArgs false
namespace Go.Proofs.Ytblpaolcgkjcgaa.Sh
open Go.Proofs.Ytblpaolcgkjcgaa.FW
/-! ### cblk_Pass: function 15 -/
def cblk_Pass_b {R : Type} (k : Nat) (n310 : Int) (K : Int → Int → Option R) : Option R :=
bif decide (n310 < 0) then (K (-1) (-1))
 else (bif (n310 == 0) then (K 0 2)
 else (K (IntKind.wrap .i64 ((IntKind.wrap .i64 (Int.tdiv (IntKind.wrap .i64 (n310 - 1)) 3)) + 1)) (Int.tmod (IntKind.wrap .i64 (n310 - 1)) 3)))

def cblk_Pass {R : Type} (n310 : Int) (K : Int → Int → Option R) : Option R := cblk_Pass_b 0 n310 K

def cblk_Pass_Ct {R : Type} : Tab R := fun _ _ _ _ => none
def cblk_Pass_C (R : Type) (k : Nat) : Tab R := cblk_Pass_Ct
theorem cblk_Pass_S (R : Type) (k : Nat) : CSound Try.prog (cblk_Pass_C R k) := csound_nil
def cblk_Pass_Jt {R : Type} (k : Nat) : JTab R := fun _ _ _ _ => none
def cblk_Pass_J (R : Type) (k : Nat) : JTab R := cblk_Pass_Jt k
def cblk_Pass_at : AT := (.seq (.reg [0] []) (.seq (.seq (.reg [0, 5] []) (.cond (.seq (.reg [2, 3] []) .leaf) .leaf)) (.seq (.seq (.reg [0, 7] []) (.cond (.seq (.reg [2, 3] []) .leaf) .leaf)) (.seq (.reg [2, 3] []) .leaf))))
def cblk_Pass_f : IFn := ⟨15, [.t 2, .t 3], (.seq (.reg [⟨some 2, .mov (.c (Go.Value.int Go.IntKind.i64 0)), none⟩,
 ⟨some 3, .mov (.c (Go.Value.int Go.IntKind.i64 0)), none⟩] [0]) (.seq (.seq (.reg [⟨some 4, .mov (.t 0), none⟩,
 ⟨some 5, .cmp .lss (.t 4) (.c (Go.Value.int Go.IntKind.i64 0)), none⟩] [0, 5]) (.cond (.t 5) (.seq (.reg [⟨some 2, .mov (.c (Go.Value.int Go.IntKind.i64 (-1))), none⟩,
 ⟨some 3, .mov (.c (Go.Value.int Go.IntKind.i64 (-1))), none⟩] [2, 3]) .ret) .skip)) (.seq (.seq (.reg [⟨some 6, .mov (.t 0), none⟩,
 ⟨some 7, .cmp .eql (.t 6) (.c (Go.Value.int Go.IntKind.i64 0)), none⟩] [0, 7]) (.cond (.t 7) (.seq (.reg [⟨some 2, .mov (.c (Go.Value.int Go.IntKind.i64 0)), none⟩,
 ⟨some 3, .mov (.c (Go.Value.int Go.IntKind.i64 2)), none⟩] [2, 3]) .ret) .skip)) (.seq (.reg [⟨some 8, .mov (.t 0), none⟩,
 ⟨some 9, .bin .sub .i64 (.t 8) (.c (Go.Value.int Go.IntKind.i64 1)), none⟩,
 ⟨some 10, .bin .quo .i64 (.t 9) (.c (Go.Value.int Go.IntKind.i64 3)), none⟩,
 ⟨some 11, .bin .add .i64 (.t 10) (.c (Go.Value.int Go.IntKind.i64 1)), none⟩,
 ⟨some 12, .mov (.t 0), none⟩,
 ⟨some 13, .bin .sub .i64 (.t 12) (.c (Go.Value.int Go.IntKind.i64 1)), none⟩,
 ⟨some 14, .bin .rem .i64 (.t 13) (.c (Go.Value.int Go.IntKind.i64 3)), none⟩,
 ⟨some 2, .mov (.t 11), none⟩,
 ⟨some 3, .mov (.t 14), none⟩] [2, 3]) .ret))))⟩
def cblk_Pass_ca {R : Type} (f : Int → (Int → Int → Option R) → Option R) (args : List Value) (H : Heap) (K : Value → Heap → Option R) : Option R :=
  match args with
  | [.int .i64 n310] => f n310 (fun n1147 n1148 => K (.tuple ⟨[.int .i64 n1147, .int .i64 n1148]⟩) H)
  | _ => none
def cblk_Pass_c (R : Type) (k : Nat) (args : List Value) (H : Heap) (K : Value → Heap → Option R) : Option R := cblk_Pass_ca cblk_Pass args H K
theorem cblk_Pass_e {R : Type} (k : Nat) (n310 : Int) (H : Heap) (K : Value → Heap → Option R) : evF (cblk_Pass_Ct) (cblk_Pass_Jt k) cblk_Pass_f [.int .i64 n310] H K = cblk_Pass_b k n310 (fun n1147 n1148 => K (.tuple ⟨[.int .i64 n1147, .int .i64 n1148]⟩) H) := by kernel_rfl
theorem cblk_Pass_cs (R : Type) (k : Nat) : ∀ args H K r, cblk_Pass_c R k args H K = some r → ∃ v H', Tri Try.prog 15 args H v H' ∧ K v H' = some r := by
  intro args H K r h
  unfold cblk_Pass_c cblk_Pass_ca at h
  split at h
  · exact evF_ok (C := cblk_Pass_C R 0) (an := An) (t := cblk_Pass_at) (fn := Try.f15) (c := (Try.f15.body.getD .skip)) (ifn := cblk_Pass_f) (cblk_Pass_S R 0) (cblk_Pass_J R 0) Try.func15 (by kernel_rfl) (by kernel_rfl) (And.intro True.intro (And.intro (And.intro True.intro (And.intro (And.intro True.intro True.intro) True.intro)) (And.intro (And.intro True.intro (And.intro (And.intro True.intro True.intro) True.intro)) (And.intro True.intro True.intro)))) rfl (Eq.trans (cblk_Pass_e 0 _ H K) h)
  · cases h
/-! ### cblk_Raw: function 17 -/
def cblk_Raw_p0_b {R : Type} (k : Nat) (p337 : Option Addr) (n338 : Int) (t339 : Bool) (n340 : Int) (KE0 : Bool → Option R) (KN : Option Addr → Int → Option R) : Option R :=
bif (n340 == 0) then (KN p337 n338)
 else (bif (n340 == 1) then (KN p337 n338)
 else (KE0 t339))
def cblk_Raw_p0 {R : Type} (k : Nat) (p337 : Option Addr) (n338 : Int) (t339 : Bool) (n340 : Int) (KE0 : Bool → Option R) (KN : Option Addr → Int → Option R) : Option R := cblk_Raw_p0_b k p337 n338 t339 n340 KE0 KN

def cblk_Raw_b {R : Type} (cblk_Pass : Int → (Int → Int → Option R) → Option R) (cblk_Raw_p0 : Option Addr → Int → Bool → Int → (Bool → Option R) → (Option Addr → Int → Option R) → Option R) (k : Nat) (n327 : Int) (t328 : Bool) (t329 : Bool) (t330 : Bool) (t331 : Bool) (t332 : Bool) (H : Heap) (K : Bool → Heap → Option R) : Option R :=
hal H [.bool t328, .bool t329, .bool t330, .bool t331, .bool t332] fun p333 H334 =>
cblk_Pass n327 fun n335 n336 =>
cblk_Raw_p0 p333 n335 false n336 (fun t344 =>
K t344 H334) (fun p345 n346 =>
hfad 0 p345 fun p347 =>
ldB H334 p347 fun t348 =>
bif t348 then (K (decide (n346 ≥ 4)) H334)
 else (K false H334))

def cblk_Raw {R : Type} (k : Nat) (n327 : Int) (t328 : Bool) (t329 : Bool) (t330 : Bool) (t331 : Bool) (t332 : Bool) (H : Heap) (K : Bool → Heap → Option R) : Option R := cblk_Raw_b cblk_Pass (cblk_Raw_p0 k) k n327 t328 t329 t330 t331 t332 H K

def cblk_Raw_Ct {R : Type} (cblk_Pass : Int → (Int → Int → Option R) → Option R) : Tab R := tcons 15 (cblk_Pass_ca cblk_Pass) <| fun _ _ _ _ => none
def cblk_Raw_C (R : Type) (k : Nat) : Tab R := cblk_Raw_Ct cblk_Pass
theorem cblk_Raw_S (R : Type) (k : Nat) : CSound Try.prog (cblk_Raw_C R k) := csound_cons (cblk_Pass_cs R k) <| csound_nil
def cblk_Raw_aa0 {R : Type} (f : Option Addr → Int → Bool → Int → (Bool → Option R) → (Option Addr → Int → Option R) → Option R) (n : Nat) (vals : List Value) (H : Heap) (K : Xit → Env → Heap → Option R) : Option R :=
  match vals with
  | [.pointer p337, .int .i64 n338, .bool t339, .int .i64 n340] => f p337 n338 t339 n340 (fun t1149 => K (.exit 0) [(7, .bool t1149)] H) (fun p1150 n1151 => K .normal [(3, .pointer p1150), (5, .int .i64 n1151)] H)
  | _ => none
def cblk_Raw_a0 (R : Type) (k n : Nat) (vals : List Value) (H : Heap) (K : Xit → Env → Heap → Option R) : Option R := cblk_Raw_aa0 (cblk_Raw_p0 k) n vals H K
def cblk_Raw_Jt {R : Type} (k : Nat) (cblk_Raw_p0 : Option Addr → Int → Bool → Int → (Bool → Option R) → (Option Addr → Int → Option R) → Option R) : JTab R := tcons 0 (cblk_Raw_aa0 cblk_Raw_p0 k) <| fun _ _ _ _ => none
def cblk_Raw_J (R : Type) (k : Nat) : JTab R := cblk_Raw_Jt k (cblk_Raw_p0 k)
def cblk_Raw_at : AT := (.seq (.reg [0, 3] []) (.seq (.reg [3, 5, 6] []) (.seq (.reg [3, 5, 6, 7] []) (.seq (.seq (.reg [3, 5, 7, 13] []) (.node (.seq (.opq 0 [3, 5, 7, 13] ⟨[3, 5], [(0, [7])], []⟩ (.node (.node (.seq (.seq (.seq (.reg [3, 5, 7, 13, 14] []) (.cond .leaf .leaf)) (.seq (.reg [3, 5, 7, 16] []) (.cond .leaf .leaf))) .leaf)))) (.seq (.reg [7] []) .leaf)))) (.seq (.reg [4] []) .leaf)))))
def cblk_Raw_i0 : IC := (.block 2 (.block 1 (.seq (.seq (.seq (.reg [⟨some 15, .cmp .eql (.t 13) (.c (Go.Value.int Go.IntKind.i64 0)), none⟩,
 ⟨some 14, .mov (.t 15), none⟩] [3, 5, 7, 13, 14]) (.cond (.t 14) (.exit 1) .skip)) (.seq (.reg [⟨some 17, .cmp .eql (.t 13) (.c (Go.Value.int Go.IntKind.i64 1)), none⟩,
 ⟨some 16, .mov (.t 17), none⟩] [3, 5, 7, 16]) (.cond (.t 16) (.exit 2) .skip))) (.exit 0))))
def cblk_Raw_f : IFn := ⟨25, [.t 4], (.seq (.reg [⟨some 3, .box (.t 1), none⟩,
 ⟨some 4, .mov (.c (Go.Value.bool false)), none⟩] [0, 3]) (.seq (.reg [⟨some 9, .mov (.t 0), none⟩,
 ⟨some 10, .call 15 [(.t 9)] (.tup [(.sc (.int .i64)), (.sc (.int .i64))]), none⟩,
 ⟨some 8, .mov (.t 10), none⟩,
 ⟨some 11, .ext 0 (.t 8), none⟩,
 ⟨some 12, .ext 1 (.t 8), none⟩,
 ⟨some 5, .mov (.t 11), none⟩,
 ⟨some 6, .mov (.t 12), none⟩] [3, 5, 6]) (.seq (.reg [⟨some 7, .mov (.c (Go.Value.bool false)), none⟩] [3, 5, 6, 7]) (.seq (.seq (.reg [⟨some 13, .mov (.t 6), none⟩] [3, 5, 7, 13]) (.block 0 (.seq (.opq 0 [3, 5, 7, 13] cblk_Raw_i0) (.seq (.reg [⟨some 18, .fad 0 (.t 3), none⟩,
 ⟨some 19, .ld (.sc .bool) (.t 18), none⟩,
 ⟨some 20, .mov (.t 19), none⟩,
 ⟨some 21, .mov (.t 5), some (20, true)⟩,
 ⟨some 22, .cmp .geq (.t 21) (.c (Go.Value.int Go.IntKind.i64 4)), some (20, true)⟩,
 ⟨some 23, .pick (.t 20) (.t 22) (.c (Go.Value.bool false)), none⟩,
 ⟨some 7, .mov (.t 23), none⟩] [7]) (.exit 0))))) (.seq (.reg [⟨some 24, .mov (.t 7), none⟩,
 ⟨some 4, .mov (.t 24), none⟩] [4]) .ret)))))⟩
theorem cblk_Raw_e0 {R : Type} (cblk_Pass : Int → (Int → Int → Option R) → Option R) (cblk_Raw_p0 : Option Addr → Int → Bool → Int → (Bool → Option R) → (Option Addr → Int → Option R) → Option R) (k : Nat) (p337 : Option Addr) (n338 : Int) (t339 : Bool) (n340 : Int) (H : Heap) (K : Xit → Env → Heap → Option R) : evJ (cblk_Raw_Ct cblk_Pass) (cblk_Raw_Jt k cblk_Raw_p0) cblk_Raw_i0 (List.zip [3, 5, 7, 13] [.pointer p337, .int .i64 n338, .bool t339, .int .i64 n340]) H (fun x e' H' => K x (clean e' ((⟨[3, 5], [(0, [7])], []⟩ : Out).of x)) H') = cblk_Raw_p0_b k p337 n338 t339 n340 (fun t1149 => K (.exit 0) [(7, .bool t1149)] H) (fun p1150 n1151 => K .normal [(3, .pointer p1150), (5, .int .i64 n1151)] H) := by kernel_rfl
theorem cblk_Raw_j0 {R : Type} (k : Nat) : JS Try.prog 25 (cblk_Raw_a0 R k k) [3, 5, 7, 13] ⟨[3, 5], [(0, [7])], []⟩ (sel [1, 1, 1, 0, 1, 0, 0] (Try.f17.body.getD .skip)) :=
  piece_ok (nt := 25) (c := (sel [1, 1, 1, 0, 1, 0, 0] (Try.f17.body.getD .skip))) (C := cblk_Raw_C R k) (an := An) (t := (.node (.node (.seq (.seq (.seq (.reg [3, 5, 7, 13, 14] []) (.cond .leaf .leaf)) (.seq (.reg [3, 5, 7, 16] []) (.cond .leaf .leaf))) .leaf)))) (ic := cblk_Raw_i0) (cblk_Raw_S R k) (cblk_Raw_J R k) (by kernel_rfl) (And.intro (And.intro (And.intro True.intro (And.intro True.intro True.intro)) (And.intro True.intro (And.intro True.intro True.intro))) True.intro) (cblk_Raw_a0 R k k)
    (fun vals H K r h => by
      unfold cblk_Raw_a0 cblk_Raw_aa0 at h
      split at h <;> first | (cases h; done) | exact Eq.trans (cblk_Raw_e0 cblk_Pass (cblk_Raw_p0 k) k _ _ _ _ H K) h)
def cblk_Raw_ca {R : Type} (f : Int → Bool → Bool → Bool → Bool → Bool → Heap → (Bool → Heap → Option R) → Option R) (args : List Value) (H : Heap) (K : Value → Heap → Option R) : Option R :=
  match args with
  | [.int .i64 n327, .agg ⟨[.bool t328, .bool t329, .bool t330, .bool t331, .bool t332]⟩] => f n327 t328 t329 t330 t331 t332 H (fun t1152 H => K (.bool t1152) H)
  | _ => none
def cblk_Raw_c (R : Type) (k : Nat) (args : List Value) (H : Heap) (K : Value → Heap → Option R) : Option R := cblk_Raw_ca (cblk_Raw k) args H K
theorem cblk_Raw_e {R : Type} (cblk_Pass : Int → (Int → Int → Option R) → Option R) (cblk_Raw_p0 : Option Addr → Int → Bool → Int → (Bool → Option R) → (Option Addr → Int → Option R) → Option R) (k : Nat) (n327 : Int) (t328 : Bool) (t329 : Bool) (t330 : Bool) (t331 : Bool) (t332 : Bool) (H : Heap) (K : Value → Heap → Option R) : evF (cblk_Raw_Ct cblk_Pass) (cblk_Raw_Jt k cblk_Raw_p0) cblk_Raw_f [.int .i64 n327, .agg ⟨[.bool t328, .bool t329, .bool t330, .bool t331, .bool t332]⟩] H K = cblk_Raw_b cblk_Pass cblk_Raw_p0 k n327 t328 t329 t330 t331 t332 H (fun t1152 H => K (.bool t1152) H) := by kernel_rfl
theorem cblk_Raw_cs (R : Type) (k : Nat) : ∀ args H K r, cblk_Raw_c R k args H K = some r → ∃ v H', Tri Try.prog 17 args H v H' ∧ K v H' = some r := by
  intro args H K r h
  unfold cblk_Raw_c cblk_Raw_ca at h
  split at h
  · exact evF_ok (C := cblk_Raw_C R k) (an := An) (t := cblk_Raw_at) (fn := Try.f17) (c := (Try.f17.body.getD .skip)) (ifn := cblk_Raw_f) (cblk_Raw_S R k) (cblk_Raw_J R k) Try.func17 (by kernel_rfl) (by kernel_rfl) (And.intro True.intro (And.intro True.intro (And.intro True.intro (And.intro (And.intro True.intro (And.intro (cblk_Raw_j0 k) (And.intro True.intro True.intro))) (And.intro True.intro True.intro))))) rfl (Eq.trans (cblk_Raw_e cblk_Pass (cblk_Raw_p0 k) k _ _ _ _ _ _ H K) h)
  · cases h
/-! ### cblk_Segments: function 20 -/
def cblk_Segments_p0_b {R : Type} (k : Nat) (n372 : Int) (p373 : Option Addr) (KN : Int → Option Addr → Option R) (KR : Option Addr → Nat → Nat → Option R) : Option R :=
bif decide (n372 < 1) then (KR none 0 0)
 else (bif decide (n372 > 178) then (KR none 0 0)
 else (KN n372 p373))
def cblk_Segments_p0 {R : Type} (k : Nat) (n372 : Int) (p373 : Option Addr) (KN : Int → Option Addr → Option R) (KR : Option Addr → Nat → Nat → Option R) : Option R := cblk_Segments_p0_b k n372 p373 KN KR

def cblk_Segments_p1_b {R : Type} (k : Nat) (n381 : Int) (p382 : Option Addr) (q383 : Option Addr) (l384 : Nat) (c385 : Nat) (n386 : Int) (H : Heap) (KN : Int → Option Addr → Option Addr → Nat → Nat → Int → Option R) : Option R :=
hfad 0 p382 fun p387 =>
ldB H p387 fun t388 =>
bif t388 then (KN n381 p382 q383 l384 c385 10)
 else (KN n381 p382 q383 l384 c385 n386)
def cblk_Segments_p1 {R : Type} (k : Nat) (n381 : Int) (p382 : Option Addr) (q383 : Option Addr) (l384 : Nat) (c385 : Nat) (n386 : Int) (H : Heap) (KN : Int → Option Addr → Option Addr → Nat → Nat → Int → Option R) : Option R := cblk_Segments_p1_b k n381 p382 q383 l384 c385 n386 H KN

def cblk_Segments_p2_b {R : Type} (k : Nat) (n401 : Int) (p402 : Option Addr) (q403 : Option Addr) (l404 : Nat) (c405 : Nat) (n406 : Int) (H : Heap) (KN : Int → Option Addr → Option Addr → Nat → Nat → Int → Option R) : Option R :=
hfad 1 p402 fun p407 =>
ldB H p407 fun t408 =>
bif t408 then (KN n401 p402 q403 l404 c405 1)
 else (KN n401 p402 q403 l404 c405 n406)
def cblk_Segments_p2 {R : Type} (k : Nat) (n401 : Int) (p402 : Option Addr) (q403 : Option Addr) (l404 : Nat) (c405 : Nat) (n406 : Int) (H : Heap) (KN : Int → Option Addr → Option Addr → Nat → Nat → Int → Option R) : Option R := cblk_Segments_p2_b k n401 p402 q403 l404 c405 n406 H KN

def cblk_Segments_p4_b {R : Type} (k : Nat) (p433 : Option Addr) (q434 : Option Addr) (l435 : Nat) (c436 : Nat) (n437 : Int) (n438 : Int) (H : Heap) (KN : Option Addr → Option Addr → Nat → Nat → Int → Int → Bool → Option R) : Option R :=
hfad 0 p433 fun p439 =>
ldB H p439 fun t440 =>
bif t440 then (hfad 1 p433 fun p441 =>
ldB H p441 fun t442 =>
KN p433 q434 l435 c436 n437 n438 (!t442))
 else (KN p433 q434 l435 c436 n437 n438 false)
def cblk_Segments_p4 {R : Type} (k : Nat) (p433 : Option Addr) (q434 : Option Addr) (l435 : Nat) (c436 : Nat) (n437 : Int) (n438 : Int) (H : Heap) (KN : Option Addr → Option Addr → Nat → Nat → Int → Int → Bool → Option R) : Option R := cblk_Segments_p4_b k p433 q434 l435 c436 n437 n438 H KN

def cblk_Segments_l3_b {R : Type} (cblk_Segments_p4 : Option Addr → Option Addr → Nat → Nat → Int → Int → Heap → (Option Addr → Option Addr → Nat → Nat → Int → Int → Bool → Option R) → Option R) (rec : Option Addr → Option Addr → Nat → Nat → Int → Int → Heap → Option R) (KE0 : Option Addr → Nat → Nat → Heap → Option R) (k : Nat) (p421 : Option Addr) (q422 : Option Addr) (l423 : Nat) (c424 : Nat) (n425 : Int) (n426 : Int) (H : Heap) : Option R :=
bif decide (n426 > 0) then (hal H [.int .i64 (imn n425 n426)] fun p427 H428 =>
happS 1 8 H428 q422 l423 c424 p427 1 fun q429 l430 c431 H432 =>
cblk_Segments_p4 p421 q429 l430 c431 n425 (IntKind.wrap .i64 (n426 - (imn n425 n426))) H432 (fun p450 q451 l452 c453 n454 n455 t456 =>
bif t456 then (bif (n454 == 2) then (rec p450 q451 l452 c453 1 n455 H432)
 else (rec p450 q451 l452 c453 2 n455 H432))
 else (rec p450 q451 l452 c453 n454 n455 H432)))
 else (KE0 q422 l423 c424 H)
def cblk_Segments_l3 {R : Type} (k : Nat) (KE0 : Option Addr → Nat → Nat → Heap → Option R) : Nat → Option Addr → Option Addr → Nat → Nat → Int → Int → Heap → Option R
  | 0, _, _, _, _, _, _, _ => none
  | n + 1, p421, q422, l423, c424, n425, n426, H => cblk_Segments_l3_b (cblk_Segments_p4 k) (cblk_Segments_l3 k KE0 n) KE0 k p421 q422 l423 c424 n425 n426 H

def cblk_Segments_b {R : Type} (cblk_Segments_p0 : Int → Option Addr → (Int → Option Addr → Option R) → (Option Addr → Nat → Nat → Option R) → Option R) (cblk_Segments_p1 : Int → Option Addr → Option Addr → Nat → Nat → Int → Heap → (Int → Option Addr → Option Addr → Nat → Nat → Int → Option R) → Option R) (cblk_Segments_p2 : Int → Option Addr → Option Addr → Nat → Nat → Int → Heap → (Int → Option Addr → Option Addr → Nat → Nat → Int → Option R) → Option R) (cblk_Segments_l3 : (Option Addr → Nat → Nat → Heap → Option R) → Nat → Option Addr → Option Addr → Nat → Nat → Int → Int → Heap → Option R) (k : Nat) (n364 : Int) (t365 : Bool) (t366 : Bool) (t367 : Bool) (t368 : Bool) (t369 : Bool) (H : Heap) (K : Option Addr → Nat → Nat → Heap → Option R) : Option R :=
hal H [.bool t365, .bool t366, .bool t367, .bool t368, .bool t369] fun p370 H371 =>
cblk_Segments_p0 n364 p370 (fun n379 p380 =>
cblk_Segments_p1 n379 p380 none 0 0 n379 H371 (fun n395 p396 q397 l398 c399 n400 =>
cblk_Segments_p2 n395 p396 q397 l398 c399 n400 H371 (fun n415 p416 q417 l418 c419 n420 =>
cblk_Segments_l3 (fun q460 l461 c462 H463 =>
K q460 l461 c462 H463) k p416 q417 l418 c419 n420 n415 H371))) (fun q464 l465 c466 =>
K q464 l465 c466 H371)

def cblk_Segments {R : Type} (k : Nat) (n364 : Int) (t365 : Bool) (t366 : Bool) (t367 : Bool) (t368 : Bool) (t369 : Bool) (H : Heap) (K : Option Addr → Nat → Nat → Heap → Option R) : Option R := cblk_Segments_b (cblk_Segments_p0 k) (cblk_Segments_p1 k) (cblk_Segments_p2 k) (cblk_Segments_l3 k) k n364 t365 t366 t367 t368 t369 H K

def cblk_Segments_Ct {R : Type} : Tab R := fun _ _ _ _ => none
def cblk_Segments_C (R : Type) (k : Nat) : Tab R := cblk_Segments_Ct
theorem cblk_Segments_S (R : Type) (k : Nat) : CSound Try.prog (cblk_Segments_C R k) := csound_nil
def cblk_Segments_aa0 {R : Type} (f : Int → Option Addr → (Int → Option Addr → Option R) → (Option Addr → Nat → Nat → Option R) → Option R) (n : Nat) (vals : List Value) (H : Heap) (K : Xit → Env → Heap → Option R) : Option R :=
  match vals with
  | [.int .i64 n372, .pointer p373] => f n372 p373 (fun n1153 p1154 => K .normal [(0, .int .i64 n1153), (3, .pointer p1154)] H) (fun q1155 l1156 c1157 => K .ret [(4, .slice q1155 l1156 c1157)] H)
  | _ => none
def cblk_Segments_a0 (R : Type) (k n : Nat) (vals : List Value) (H : Heap) (K : Xit → Env → Heap → Option R) : Option R := cblk_Segments_aa0 (cblk_Segments_p0 k) n vals H K
def cblk_Segments_aa1 {R : Type} (f : Int → Option Addr → Option Addr → Nat → Nat → Int → Heap → (Int → Option Addr → Option Addr → Nat → Nat → Int → Option R) → Option R) (n : Nat) (vals : List Value) (H : Heap) (K : Xit → Env → Heap → Option R) : Option R :=
  match vals with
  | [.int .i64 n381, .pointer p382, .slice q383 l384 c385, .int .i64 n386] => f n381 p382 q383 l384 c385 n386 H (fun n1158 p1159 q1160 l1161 c1162 n1163 => K .normal [(0, .int .i64 n1158), (3, .pointer p1159), (5, .slice q1160 l1161 c1162), (6, .int .i64 n1163)] H)
  | _ => none
def cblk_Segments_a1 (R : Type) (k n : Nat) (vals : List Value) (H : Heap) (K : Xit → Env → Heap → Option R) : Option R := cblk_Segments_aa1 (cblk_Segments_p1 k) n vals H K
def cblk_Segments_aa2 {R : Type} (f : Int → Option Addr → Option Addr → Nat → Nat → Int → Heap → (Int → Option Addr → Option Addr → Nat → Nat → Int → Option R) → Option R) (n : Nat) (vals : List Value) (H : Heap) (K : Xit → Env → Heap → Option R) : Option R :=
  match vals with
  | [.int .i64 n401, .pointer p402, .slice q403 l404 c405, .int .i64 n406] => f n401 p402 q403 l404 c405 n406 H (fun n1164 p1165 q1166 l1167 c1168 n1169 => K .normal [(0, .int .i64 n1164), (3, .pointer p1165), (5, .slice q1166 l1167 c1168), (6, .int .i64 n1169)] H)
  | _ => none
def cblk_Segments_a2 (R : Type) (k n : Nat) (vals : List Value) (H : Heap) (K : Xit → Env → Heap → Option R) : Option R := cblk_Segments_aa2 (cblk_Segments_p2 k) n vals H K
def cblk_Segments_aa3 {R : Type} (f : (Option Addr → Nat → Nat → Heap → Option R) → Nat → Option Addr → Option Addr → Nat → Nat → Int → Int → Heap → Option R) (n : Nat) (vals : List Value) (H : Heap) (K : Xit → Env → Heap → Option R) : Option R :=
  match vals with
  | [.pointer p421, .slice q422 l423 c424, .int .i64 n425, .int .i64 n426] => f (fun q1170 l1171 c1172 H => K (.exit 0) [(5, .slice q1170 l1171 c1172)] H) n p421 q422 l423 c424 n425 n426 H
  | _ => none
def cblk_Segments_a3 (R : Type) (k n : Nat) (vals : List Value) (H : Heap) (K : Xit → Env → Heap → Option R) : Option R := cblk_Segments_aa3 (cblk_Segments_l3 k) n vals H K
def cblk_Segments_aa4 {R : Type} (f : Option Addr → Option Addr → Nat → Nat → Int → Int → Heap → (Option Addr → Option Addr → Nat → Nat → Int → Int → Bool → Option R) → Option R) (n : Nat) (vals : List Value) (H : Heap) (K : Xit → Env → Heap → Option R) : Option R :=
  match vals with
  | [.pointer p433, .slice q434 l435 c436, .int .i64 n437, .int .i64 n438] => f p433 q434 l435 c436 n437 n438 H (fun p1173 q1174 l1175 c1176 n1177 n1178 t1179 => K .normal [(3, .pointer p1173), (5, .slice q1174 l1175 c1176), (6, .int .i64 n1177), (7, .int .i64 n1178), (39, .bool t1179)] H)
  | _ => none
def cblk_Segments_a4 (R : Type) (k n : Nat) (vals : List Value) (H : Heap) (K : Xit → Env → Heap → Option R) : Option R := cblk_Segments_aa4 (cblk_Segments_p4 k) n vals H K
def cblk_Segments_Jt {R : Type} (k : Nat) (cblk_Segments_p0 : Int → Option Addr → (Int → Option Addr → Option R) → (Option Addr → Nat → Nat → Option R) → Option R) (cblk_Segments_p1 : Int → Option Addr → Option Addr → Nat → Nat → Int → Heap → (Int → Option Addr → Option Addr → Nat → Nat → Int → Option R) → Option R) (cblk_Segments_p2 : Int → Option Addr → Option Addr → Nat → Nat → Int → Heap → (Int → Option Addr → Option Addr → Nat → Nat → Int → Option R) → Option R) (cblk_Segments_l3 : (Option Addr → Nat → Nat → Heap → Option R) → Nat → Option Addr → Option Addr → Nat → Nat → Int → Int → Heap → Option R) (cblk_Segments_p4 : Option Addr → Option Addr → Nat → Nat → Int → Int → Heap → (Option Addr → Option Addr → Nat → Nat → Int → Int → Bool → Option R) → Option R) : JTab R := tcons 0 (cblk_Segments_aa0 cblk_Segments_p0 k) <| tcons 1 (cblk_Segments_aa1 cblk_Segments_p1 k) <| tcons 2 (cblk_Segments_aa2 cblk_Segments_p2 k) <| tcons 3 (cblk_Segments_aa3 cblk_Segments_l3 k) <| tcons 4 (cblk_Segments_aa4 cblk_Segments_p4 k) <| fun _ _ _ _ => none
def cblk_Segments_J (R : Type) (k : Nat) : JTab R := cblk_Segments_Jt k (cblk_Segments_p0 k) (cblk_Segments_p1 k) (cblk_Segments_p2 k) (cblk_Segments_l3 k) (cblk_Segments_p4 k)
def cblk_Segments_at : AT := (.seq (.reg [0, 3] []) (.seq (.opq 0 [0, 3] ⟨[0, 3], [], [4]⟩ (.seq (.reg [0, 3, 14] []) (.cond (.seq (.reg [4] []) .leaf) .leaf))) (.seq (.reg [0, 3, 5] []) (.seq (.reg [0, 3, 5, 6] []) (.seq (.opq 1 [0, 3, 5, 6] ⟨[0, 3, 5, 6], [], []⟩ (.seq (.reg [0, 3, 5, 6, 17] []) (.cond (.reg [0, 3, 5, 6] []) .leaf))) (.seq (.opq 2 [0, 3, 5, 6] ⟨[0, 3, 5, 6], [], []⟩ (.seq (.reg [0, 3, 5, 6, 19] []) (.cond (.reg [0, 3, 5, 6] []) .leaf))) (.seq (.seq (.reg [3, 5, 6, 7] []) (.node (.opq 3 [3, 5, 6, 7] ⟨[], [(0, [5])], []⟩ (.node (.seq (.seq (.reg [3, 5, 6, 7, 22] []) (.cond .leaf .leaf)) (.node (.seq (.reg [3, 5, 6, 7, 8] []) (.seq (.reg [3, 5, 6, 7, 8] []) (.seq (.reg [3, 5, 6, 7] []) (.seq (.opq 4 [3, 5, 6, 7] ⟨[3, 5, 6, 7, 39], [], []⟩ (.reg [3, 5, 6, 7, 39] [])) (.cond (.seq (.reg [3, 5, 7, 41] []) (.cond (.reg [3, 5, 6, 7] []) (.reg [3, 5, 6, 7] []))) .leaf))))))))))) (.seq (.reg [4] []) .leaf))))))))
def cblk_Segments_i4 : IC := (.reg [⟨some 33, .fad 0 (.t 3), none⟩,
 ⟨some 34, .ld (.sc .bool) (.t 33), none⟩,
 ⟨some 35, .mov (.t 34), none⟩,
 ⟨some 36, .fad 1 (.t 3), some (35, true)⟩,
 ⟨some 37, .ld (.sc .bool) (.t 36), some (35, true)⟩,
 ⟨some 38, .lnot (.t 37), some (35, true)⟩,
 ⟨some 39, .pick (.t 35) (.t 38) (.c (Go.Value.bool false)), none⟩] [3, 5, 6, 7, 39])
def cblk_Segments_i3 : IC := (.seq (.seq (.reg [⟨some 21, .mov (.t 7), none⟩,
 ⟨some 22, .cmp .gtr (.t 21) (.c (Go.Value.int Go.IntKind.i64 0)), none⟩] [3, 5, 6, 7, 22]) (.cond (.t 22) .skip (.exit 0))) (.block 1 (.seq (.reg [⟨some 23, .mov (.t 6), none⟩,
 ⟨some 24, .mov (.t 7), none⟩,
 ⟨some 25, .mn (.t 23) (.t 24), none⟩,
 ⟨some 8, .mov (.t 25), none⟩] [3, 5, 6, 7, 8]) (.seq (.reg [⟨some 26, .mov (.t 5), none⟩,
 ⟨some 27, .mov (.t 8), none⟩,
 ⟨some 28, .bls 1 [.int .i64 0] [(0, 1, (.t 27))], none⟩,
 ⟨some 29, .app [.int .i64 0] 8 (.t 26) (.t 28), none⟩,
 ⟨some 5, .mov (.t 29), none⟩] [3, 5, 6, 7, 8]) (.seq (.reg [⟨some 30, .mov (.t 7), none⟩,
 ⟨some 31, .mov (.t 8), none⟩,
 ⟨some 32, .bin .sub .i64 (.t 30) (.t 31), none⟩,
 ⟨some 7, .mov (.t 32), none⟩] [3, 5, 6, 7]) (.seq (.opq 4 [3, 5, 6, 7] cblk_Segments_i4) (.cond (.t 39) (.seq (.reg [⟨some 40, .mov (.t 6), none⟩,
 ⟨some 41, .cmp .eql (.t 40) (.c (Go.Value.int Go.IntKind.i64 2)), none⟩] [3, 5, 7, 41]) (.cond (.t 41) (.reg [⟨some 6, .mov (.c (Go.Value.int Go.IntKind.i64 1)), none⟩] [3, 5, 6, 7]) (.reg [⟨some 6, .mov (.c (Go.Value.int Go.IntKind.i64 2)), none⟩] [3, 5, 6, 7]))) .skip)))))))
def cblk_Segments_i2 : IC := (.seq (.reg [⟨some 18, .fad 1 (.t 3), none⟩,
 ⟨some 19, .ld (.sc .bool) (.t 18), none⟩] [0, 3, 5, 6, 19]) (.cond (.t 19) (.reg [⟨some 6, .mov (.c (Go.Value.int Go.IntKind.i64 1)), none⟩] [0, 3, 5, 6]) .skip))
def cblk_Segments_i1 : IC := (.seq (.reg [⟨some 16, .fad 0 (.t 3), none⟩,
 ⟨some 17, .ld (.sc .bool) (.t 16), none⟩] [0, 3, 5, 6, 17]) (.cond (.t 17) (.reg [⟨some 6, .mov (.c (Go.Value.int Go.IntKind.i64 10)), none⟩] [0, 3, 5, 6]) .skip))
def cblk_Segments_i0 : IC := (.seq (.reg [⟨some 9, .mov (.t 0), none⟩,
 ⟨some 10, .cmp .lss (.t 9) (.c (Go.Value.int Go.IntKind.i64 1)), none⟩,
 ⟨some 11, .mov (.t 10), none⟩,
 ⟨some 12, .mov (.t 0), some (11, false)⟩,
 ⟨some 13, .cmp .gtr (.t 12) (.c (Go.Value.int Go.IntKind.i64 178)), some (11, false)⟩,
 ⟨some 14, .pick (.t 11) (.c (Go.Value.bool true)) (.t 13), none⟩] [0, 3, 14]) (.cond (.t 14) (.seq (.reg [⟨some 4, .mov (.c (Go.Value.slice none 0 0)), none⟩] [4]) .ret) .skip))
def cblk_Segments_f : IFn := ⟨43, [.t 4], (.seq (.reg [⟨some 3, .box (.t 1), none⟩,
 ⟨some 4, .mov (.c (Go.Value.slice none 0 0)), none⟩] [0, 3]) (.seq (.opq 0 [0, 3] cblk_Segments_i0) (.seq (.reg [⟨some 5, .mov (.c (Go.Value.slice none 0 0)), none⟩] [0, 3, 5]) (.seq (.reg [⟨some 15, .mov (.t 0), none⟩,
 ⟨some 6, .mov (.t 15), none⟩] [0, 3, 5, 6]) (.seq (.opq 1 [0, 3, 5, 6] cblk_Segments_i1) (.seq (.opq 2 [0, 3, 5, 6] cblk_Segments_i2) (.seq (.seq (.reg [⟨some 20, .mov (.t 0), none⟩,
 ⟨some 7, .mov (.t 20), none⟩] [3, 5, 6, 7]) (.block 0 (.opq 3 [3, 5, 6, 7] (.loop cblk_Segments_i3)))) (.seq (.reg [⟨some 42, .mov (.t 5), none⟩,
 ⟨some 4, .mov (.t 42), none⟩] [4]) .ret))))))))⟩
theorem cblk_Segments_e4 {R : Type} (cblk_Segments_p0 : Int → Option Addr → (Int → Option Addr → Option R) → (Option Addr → Nat → Nat → Option R) → Option R) (cblk_Segments_p1 : Int → Option Addr → Option Addr → Nat → Nat → Int → Heap → (Int → Option Addr → Option Addr → Nat → Nat → Int → Option R) → Option R) (cblk_Segments_p2 : Int → Option Addr → Option Addr → Nat → Nat → Int → Heap → (Int → Option Addr → Option Addr → Nat → Nat → Int → Option R) → Option R) (cblk_Segments_l3 : (Option Addr → Nat → Nat → Heap → Option R) → Nat → Option Addr → Option Addr → Nat → Nat → Int → Int → Heap → Option R) (cblk_Segments_p4 : Option Addr → Option Addr → Nat → Nat → Int → Int → Heap → (Option Addr → Option Addr → Nat → Nat → Int → Int → Bool → Option R) → Option R) (k : Nat) (p433 : Option Addr) (q434 : Option Addr) (l435 : Nat) (c436 : Nat) (n437 : Int) (n438 : Int) (H : Heap) (K : Xit → Env → Heap → Option R) : evJ (cblk_Segments_Ct) (cblk_Segments_Jt k cblk_Segments_p0 cblk_Segments_p1 cblk_Segments_p2 cblk_Segments_l3 cblk_Segments_p4) cblk_Segments_i4 (List.zip [3, 5, 6, 7] [.pointer p433, .slice q434 l435 c436, .int .i64 n437, .int .i64 n438]) H (fun x e' H' => K x (clean e' ((⟨[3, 5, 6, 7, 39], [], []⟩ : Out).of x)) H') = cblk_Segments_p4_b k p433 q434 l435 c436 n437 n438 H (fun p1173 q1174 l1175 c1176 n1177 n1178 t1179 => K .normal [(3, .pointer p1173), (5, .slice q1174 l1175 c1176), (6, .int .i64 n1177), (7, .int .i64 n1178), (39, .bool t1179)] H) := by kernel_rfl
theorem cblk_Segments_j4 {R : Type} (k : Nat) : JS Try.prog 43 (cblk_Segments_a4 R k k) [3, 5, 6, 7] ⟨[3, 5, 6, 7, 39], [], []⟩ (sel [1, 1, 1, 1, 1, 1, 0, 1, 0, 0, 1, 0, 1, 1, 1, 0] (Try.f20.body.getD .skip)) :=
  piece_ok (nt := 43) (c := (sel [1, 1, 1, 1, 1, 1, 0, 1, 0, 0, 1, 0, 1, 1, 1, 0] (Try.f20.body.getD .skip))) (C := cblk_Segments_C R k) (an := An) (t := (.reg [3, 5, 6, 7, 39] [])) (ic := cblk_Segments_i4) (cblk_Segments_S R k) (cblk_Segments_J R k) (by kernel_rfl) True.intro (cblk_Segments_a4 R k k)
    (fun vals H K r h => by
      unfold cblk_Segments_a4 cblk_Segments_aa4 at h
      split at h <;> first | (cases h; done) | exact Eq.trans (cblk_Segments_e4 (cblk_Segments_p0 k) (cblk_Segments_p1 k) (cblk_Segments_p2 k) (cblk_Segments_l3 k) (cblk_Segments_p4 k) k _ _ _ _ _ _ H K) h)
theorem cblk_Segments_e3 {R : Type} (cblk_Segments_p0 : Int → Option Addr → (Int → Option Addr → Option R) → (Option Addr → Nat → Nat → Option R) → Option R) (cblk_Segments_p1 : Int → Option Addr → Option Addr → Nat → Nat → Int → Heap → (Int → Option Addr → Option Addr → Nat → Nat → Int → Option R) → Option R) (cblk_Segments_p2 : Int → Option Addr → Option Addr → Nat → Nat → Int → Heap → (Int → Option Addr → Option Addr → Nat → Nat → Int → Option R) → Option R) (cblk_Segments_l3 : (Option Addr → Nat → Nat → Heap → Option R) → Nat → Option Addr → Option Addr → Nat → Nat → Int → Int → Heap → Option R) (cblk_Segments_p4 : Option Addr → Option Addr → Nat → Nat → Int → Int → Heap → (Option Addr → Option Addr → Nat → Nat → Int → Int → Bool → Option R) → Option R) (k n : Nat) (p421 : Option Addr) (q422 : Option Addr) (l423 : Nat) (c424 : Nat) (n425 : Int) (n426 : Int) (H : Heap) (K : Xit → Env → Heap → Option R) : evJ (cblk_Segments_Ct) (cblk_Segments_Jt k cblk_Segments_p0 cblk_Segments_p1 cblk_Segments_p2 cblk_Segments_l3 cblk_Segments_p4) cblk_Segments_i3 (List.zip [3, 5, 6, 7] [.pointer p421, .slice q422 l423 c424, .int .i64 n425, .int .i64 n426]) H (fun x e' H' => match x with | .normal => cblk_Segments_aa3 cblk_Segments_l3 n ((clean e' [3, 5, 6, 7]).map (·.2)) H' K | x => K x (clean e' ((⟨[], [(0, [5])], []⟩ : Out).of x)) H') = cblk_Segments_l3_b cblk_Segments_p4 (cblk_Segments_l3 (fun q1170 l1171 c1172 H => K (.exit 0) [(5, .slice q1170 l1171 c1172)] H) n) (fun q1170 l1171 c1172 H => K (.exit 0) [(5, .slice q1170 l1171 c1172)] H) k p421 q422 l423 c424 n425 n426 H := by kernel_rfl
theorem cblk_Segments_j3 {R : Type} (k : Nat) : JS Try.prog 43 (cblk_Segments_a3 R k k) [3, 5, 6, 7] ⟨[], [(0, [5])], []⟩ (.loop (sel [1, 1, 1, 1, 1, 1, 0, 1, 0, 0] (Try.f20.body.getD .skip))) :=
  loop_ok (nt := 43) (c := (sel [1, 1, 1, 1, 1, 1, 0, 1, 0, 0] (Try.f20.body.getD .skip))) (C := cblk_Segments_C R k) (an := An) (t := (.seq (.seq (.reg [3, 5, 6, 7, 22] []) (.cond .leaf .leaf)) (.node (.seq (.reg [3, 5, 6, 7, 8] []) (.seq (.reg [3, 5, 6, 7, 8] []) (.seq (.reg [3, 5, 6, 7] []) (.seq (.opq 4 [3, 5, 6, 7] ⟨[3, 5, 6, 7, 39], [], []⟩ (.reg [3, 5, 6, 7, 39] [])) (.cond (.seq (.reg [3, 5, 7, 41] []) (.cond (.reg [3, 5, 6, 7] []) (.reg [3, 5, 6, 7] []))) .leaf)))))))) (ic := cblk_Segments_i3) (cblk_Segments_S R k) (cblk_Segments_J R k) (by kernel_rfl) (And.intro (And.intro True.intro (And.intro True.intro True.intro)) (And.intro True.intro (And.intro True.intro (And.intro True.intro (And.intro (cblk_Segments_j4 k) (And.intro (And.intro True.intro (And.intro True.intro True.intro)) True.intro)))))) (cblk_Segments_a3 R k) (fun vals H K => by unfold cblk_Segments_a3 cblk_Segments_aa3; split <;> rfl)
    (fun n vals H K r h => by
      unfold cblk_Segments_a3 cblk_Segments_aa3 at h
      split at h <;> first | (cases h; done) | exact Eq.trans (cblk_Segments_e3 (cblk_Segments_p0 k) (cblk_Segments_p1 k) (cblk_Segments_p2 k) (cblk_Segments_l3 k) (cblk_Segments_p4 k) k n _ _ _ _ _ _ H K) h) k
theorem cblk_Segments_e2 {R : Type} (cblk_Segments_p0 : Int → Option Addr → (Int → Option Addr → Option R) → (Option Addr → Nat → Nat → Option R) → Option R) (cblk_Segments_p1 : Int → Option Addr → Option Addr → Nat → Nat → Int → Heap → (Int → Option Addr → Option Addr → Nat → Nat → Int → Option R) → Option R) (cblk_Segments_p2 : Int → Option Addr → Option Addr → Nat → Nat → Int → Heap → (Int → Option Addr → Option Addr → Nat → Nat → Int → Option R) → Option R) (cblk_Segments_l3 : (Option Addr → Nat → Nat → Heap → Option R) → Nat → Option Addr → Option Addr → Nat → Nat → Int → Int → Heap → Option R) (cblk_Segments_p4 : Option Addr → Option Addr → Nat → Nat → Int → Int → Heap → (Option Addr → Option Addr → Nat → Nat → Int → Int → Bool → Option R) → Option R) (k : Nat) (n401 : Int) (p402 : Option Addr) (q403 : Option Addr) (l404 : Nat) (c405 : Nat) (n406 : Int) (H : Heap) (K : Xit → Env → Heap → Option R) : evJ (cblk_Segments_Ct) (cblk_Segments_Jt k cblk_Segments_p0 cblk_Segments_p1 cblk_Segments_p2 cblk_Segments_l3 cblk_Segments_p4) cblk_Segments_i2 (List.zip [0, 3, 5, 6] [.int .i64 n401, .pointer p402, .slice q403 l404 c405, .int .i64 n406]) H (fun x e' H' => K x (clean e' ((⟨[0, 3, 5, 6], [], []⟩ : Out).of x)) H') = cblk_Segments_p2_b k n401 p402 q403 l404 c405 n406 H (fun n1164 p1165 q1166 l1167 c1168 n1169 => K .normal [(0, .int .i64 n1164), (3, .pointer p1165), (5, .slice q1166 l1167 c1168), (6, .int .i64 n1169)] H) := by kernel_rfl
theorem cblk_Segments_j2 {R : Type} (k : Nat) : JS Try.prog 43 (cblk_Segments_a2 R k k) [0, 3, 5, 6] ⟨[0, 3, 5, 6], [], []⟩ (sel [1, 1, 1, 1, 1, 0] (Try.f20.body.getD .skip)) :=
  piece_ok (nt := 43) (c := (sel [1, 1, 1, 1, 1, 0] (Try.f20.body.getD .skip))) (C := cblk_Segments_C R k) (an := An) (t := (.seq (.reg [0, 3, 5, 6, 19] []) (.cond (.reg [0, 3, 5, 6] []) .leaf))) (ic := cblk_Segments_i2) (cblk_Segments_S R k) (cblk_Segments_J R k) (by kernel_rfl) (And.intro True.intro (And.intro True.intro True.intro)) (cblk_Segments_a2 R k k)
    (fun vals H K r h => by
      unfold cblk_Segments_a2 cblk_Segments_aa2 at h
      split at h <;> first | (cases h; done) | exact Eq.trans (cblk_Segments_e2 (cblk_Segments_p0 k) (cblk_Segments_p1 k) (cblk_Segments_p2 k) (cblk_Segments_l3 k) (cblk_Segments_p4 k) k _ _ _ _ _ _ H K) h)
theorem cblk_Segments_e1 {R : Type} (cblk_Segments_p0 : Int → Option Addr → (Int → Option Addr → Option R) → (Option Addr → Nat → Nat → Option R) → Option R) (cblk_Segments_p1 : Int → Option Addr → Option Addr → Nat → Nat → Int → Heap → (Int → Option Addr → Option Addr → Nat → Nat → Int → Option R) → Option R) (cblk_Segments_p2 : Int → Option Addr → Option Addr → Nat → Nat → Int → Heap → (Int → Option Addr → Option Addr → Nat → Nat → Int → Option R) → Option R) (cblk_Segments_l3 : (Option Addr → Nat → Nat → Heap → Option R) → Nat → Option Addr → Option Addr → Nat → Nat → Int → Int → Heap → Option R) (cblk_Segments_p4 : Option Addr → Option Addr → Nat → Nat → Int → Int → Heap → (Option Addr → Option Addr → Nat → Nat → Int → Int → Bool → Option R) → Option R) (k : Nat) (n381 : Int) (p382 : Option Addr) (q383 : Option Addr) (l384 : Nat) (c385 : Nat) (n386 : Int) (H : Heap) (K : Xit → Env → Heap → Option R) : evJ (cblk_Segments_Ct) (cblk_Segments_Jt k cblk_Segments_p0 cblk_Segments_p1 cblk_Segments_p2 cblk_Segments_l3 cblk_Segments_p4) cblk_Segments_i1 (List.zip [0, 3, 5, 6] [.int .i64 n381, .pointer p382, .slice q383 l384 c385, .int .i64 n386]) H (fun x e' H' => K x (clean e' ((⟨[0, 3, 5, 6], [], []⟩ : Out).of x)) H') = cblk_Segments_p1_b k n381 p382 q383 l384 c385 n386 H (fun n1158 p1159 q1160 l1161 c1162 n1163 => K .normal [(0, .int .i64 n1158), (3, .pointer p1159), (5, .slice q1160 l1161 c1162), (6, .int .i64 n1163)] H) := by kernel_rfl
theorem cblk_Segments_j1 {R : Type} (k : Nat) : JS Try.prog 43 (cblk_Segments_a1 R k k) [0, 3, 5, 6] ⟨[0, 3, 5, 6], [], []⟩ (sel [1, 1, 1, 1, 0] (Try.f20.body.getD .skip)) :=
  piece_ok (nt := 43) (c := (sel [1, 1, 1, 1, 0] (Try.f20.body.getD .skip))) (C := cblk_Segments_C R k) (an := An) (t := (.seq (.reg [0, 3, 5, 6, 17] []) (.cond (.reg [0, 3, 5, 6] []) .leaf))) (ic := cblk_Segments_i1) (cblk_Segments_S R k) (cblk_Segments_J R k) (by kernel_rfl) (And.intro True.intro (And.intro True.intro True.intro)) (cblk_Segments_a1 R k k)
    (fun vals H K r h => by
      unfold cblk_Segments_a1 cblk_Segments_aa1 at h
      split at h <;> first | (cases h; done) | exact Eq.trans (cblk_Segments_e1 (cblk_Segments_p0 k) (cblk_Segments_p1 k) (cblk_Segments_p2 k) (cblk_Segments_l3 k) (cblk_Segments_p4 k) k _ _ _ _ _ _ H K) h)
theorem cblk_Segments_e0 {R : Type} (cblk_Segments_p0 : Int → Option Addr → (Int → Option Addr → Option R) → (Option Addr → Nat → Nat → Option R) → Option R) (cblk_Segments_p1 : Int → Option Addr → Option Addr → Nat → Nat → Int → Heap → (Int → Option Addr → Option Addr → Nat → Nat → Int → Option R) → Option R) (cblk_Segments_p2 : Int → Option Addr → Option Addr → Nat → Nat → Int → Heap → (Int → Option Addr → Option Addr → Nat → Nat → Int → Option R) → Option R) (cblk_Segments_l3 : (Option Addr → Nat → Nat → Heap → Option R) → Nat → Option Addr → Option Addr → Nat → Nat → Int → Int → Heap → Option R) (cblk_Segments_p4 : Option Addr → Option Addr → Nat → Nat → Int → Int → Heap → (Option Addr → Option Addr → Nat → Nat → Int → Int → Bool → Option R) → Option R) (k : Nat) (n372 : Int) (p373 : Option Addr) (H : Heap) (K : Xit → Env → Heap → Option R) : evJ (cblk_Segments_Ct) (cblk_Segments_Jt k cblk_Segments_p0 cblk_Segments_p1 cblk_Segments_p2 cblk_Segments_l3 cblk_Segments_p4) cblk_Segments_i0 (List.zip [0, 3] [.int .i64 n372, .pointer p373]) H (fun x e' H' => K x (clean e' ((⟨[0, 3], [], [4]⟩ : Out).of x)) H') = cblk_Segments_p0_b k n372 p373 (fun n1153 p1154 => K .normal [(0, .int .i64 n1153), (3, .pointer p1154)] H) (fun q1155 l1156 c1157 => K .ret [(4, .slice q1155 l1156 c1157)] H) := by kernel_rfl
theorem cblk_Segments_j0 {R : Type} (k : Nat) : JS Try.prog 43 (cblk_Segments_a0 R k k) [0, 3] ⟨[0, 3], [], [4]⟩ (sel [1, 0] (Try.f20.body.getD .skip)) :=
  piece_ok (nt := 43) (c := (sel [1, 0] (Try.f20.body.getD .skip))) (C := cblk_Segments_C R k) (an := An) (t := (.seq (.reg [0, 3, 14] []) (.cond (.seq (.reg [4] []) .leaf) .leaf))) (ic := cblk_Segments_i0) (cblk_Segments_S R k) (cblk_Segments_J R k) (by kernel_rfl) (And.intro True.intro (And.intro (And.intro True.intro True.intro) True.intro)) (cblk_Segments_a0 R k k)
    (fun vals H K r h => by
      unfold cblk_Segments_a0 cblk_Segments_aa0 at h
      split at h <;> first | (cases h; done) | exact Eq.trans (cblk_Segments_e0 (cblk_Segments_p0 k) (cblk_Segments_p1 k) (cblk_Segments_p2 k) (cblk_Segments_l3 k) (cblk_Segments_p4 k) k _ _ H K) h)
def cblk_Segments_ca {R : Type} (f : Int → Bool → Bool → Bool → Bool → Bool → Heap → (Option Addr → Nat → Nat → Heap → Option R) → Option R) (args : List Value) (H : Heap) (K : Value → Heap → Option R) : Option R :=
  match args with
  | [.int .i64 n364, .agg ⟨[.bool t365, .bool t366, .bool t367, .bool t368, .bool t369]⟩] => f n364 t365 t366 t367 t368 t369 H (fun q1180 l1181 c1182 H => K (.slice q1180 l1181 c1182) H)
  | _ => none
def cblk_Segments_c (R : Type) (k : Nat) (args : List Value) (H : Heap) (K : Value → Heap → Option R) : Option R := cblk_Segments_ca (cblk_Segments k) args H K
theorem cblk_Segments_e {R : Type} (cblk_Segments_p0 : Int → Option Addr → (Int → Option Addr → Option R) → (Option Addr → Nat → Nat → Option R) → Option R) (cblk_Segments_p1 : Int → Option Addr → Option Addr → Nat → Nat → Int → Heap → (Int → Option Addr → Option Addr → Nat → Nat → Int → Option R) → Option R) (cblk_Segments_p2 : Int → Option Addr → Option Addr → Nat → Nat → Int → Heap → (Int → Option Addr → Option Addr → Nat → Nat → Int → Option R) → Option R) (cblk_Segments_l3 : (Option Addr → Nat → Nat → Heap → Option R) → Nat → Option Addr → Option Addr → Nat → Nat → Int → Int → Heap → Option R) (cblk_Segments_p4 : Option Addr → Option Addr → Nat → Nat → Int → Int → Heap → (Option Addr → Option Addr → Nat → Nat → Int → Int → Bool → Option R) → Option R) (k : Nat) (n364 : Int) (t365 : Bool) (t366 : Bool) (t367 : Bool) (t368 : Bool) (t369 : Bool) (H : Heap) (K : Value → Heap → Option R) : evF (cblk_Segments_Ct) (cblk_Segments_Jt k cblk_Segments_p0 cblk_Segments_p1 cblk_Segments_p2 cblk_Segments_l3 cblk_Segments_p4) cblk_Segments_f [.int .i64 n364, .agg ⟨[.bool t365, .bool t366, .bool t367, .bool t368, .bool t369]⟩] H K = cblk_Segments_b cblk_Segments_p0 cblk_Segments_p1 cblk_Segments_p2 cblk_Segments_l3 k n364 t365 t366 t367 t368 t369 H (fun q1180 l1181 c1182 H => K (.slice q1180 l1181 c1182) H) := by kernel_rfl
theorem cblk_Segments_cs (R : Type) (k : Nat) : ∀ args H K r, cblk_Segments_c R k args H K = some r → ∃ v H', Tri Try.prog 20 args H v H' ∧ K v H' = some r := by
  intro args H K r h
  unfold cblk_Segments_c cblk_Segments_ca at h
  split at h
  · exact evF_ok (C := cblk_Segments_C R k) (an := An) (t := cblk_Segments_at) (fn := Try.f20) (c := (Try.f20.body.getD .skip)) (ifn := cblk_Segments_f) (cblk_Segments_S R k) (cblk_Segments_J R k) Try.func20 (by kernel_rfl) (by kernel_rfl) (And.intro True.intro (And.intro (cblk_Segments_j0 k) (And.intro True.intro (And.intro True.intro (And.intro (cblk_Segments_j1 k) (And.intro (cblk_Segments_j2 k) (And.intro (And.intro True.intro (cblk_Segments_j3 k)) (And.intro True.intro True.intro)))))))) rfl (Eq.trans (cblk_Segments_e (cblk_Segments_p0 k) (cblk_Segments_p1 k) (cblk_Segments_p2 k) (cblk_Segments_l3 k) (cblk_Segments_p4 k) k _ _ _ _ _ _ H K) h)
  · cases h
/-! ### R02_SameInts: function 19 -/
def R02_SameInts_l0_b {R : Type} (rec : Option Addr → Nat → Nat → Option Addr → Nat → Nat → Int → Heap → Option R) (KE0 : Unit → Option R) (KR : Bool → Option R) (k : Nat) (q482 : Option Addr) (l483 : Nat) (c484 : Nat) (q485 : Option Addr) (l486 : Nat) (c487 : Nat) (n488 : Int) (H : Heap) : Option R :=
bif decide (n488 < ((l483 : Nat) : Int)) then (hidx q482 l483 n488 1 fun p489 =>
ldI .i64 H p489 fun n490 =>
hidx q485 l486 n488 1 fun p491 =>
ldI .i64 H p491 fun n492 =>
bif (n490 != n492) then (KR false)
 else (rec q482 l483 c484 q485 l486 c487 (IntKind.wrap .i64 (n488 + 1)) H))
 else (KE0 ())
def R02_SameInts_l0 {R : Type} (k : Nat) (KE0 : Unit → Option R) (KR : Bool → Option R) : Nat → Option Addr → Nat → Nat → Option Addr → Nat → Nat → Int → Heap → Option R
  | 0, _, _, _, _, _, _, _, _ => none
  | n + 1, q482, l483, c484, q485, l486, c487, n488, H => R02_SameInts_l0_b (R02_SameInts_l0 k KE0 KR n) KE0 KR k q482 l483 c484 q485 l486 c487 n488 H

def R02_SameInts_b {R : Type} (R02_SameInts_l0 : (Unit → Option R) → (Bool → Option R) → Nat → Option Addr → Nat → Nat → Option Addr → Nat → Nat → Int → Heap → Option R) (k : Nat) (q476 : Option Addr) (l477 : Nat) (c478 : Nat) (q479 : Option Addr) (l480 : Nat) (c481 : Nat) (H : Heap) (K : Bool → Option R) : Option R :=
bif (((l477 : Nat) : Int) != ((l480 : Nat) : Int)) then (K false)
 else (R02_SameInts_l0 (fun (_ : Unit) =>
K true) (fun t494 =>
K t494) k q476 l477 c478 q479 l480 c481 0 H)

def R02_SameInts {R : Type} (k : Nat) (q476 : Option Addr) (l477 : Nat) (c478 : Nat) (q479 : Option Addr) (l480 : Nat) (c481 : Nat) (H : Heap) (K : Bool → Option R) : Option R := R02_SameInts_b (R02_SameInts_l0 k) k q476 l477 c478 q479 l480 c481 H K

def R02_SameInts_Ct {R : Type} : Tab R := fun _ _ _ _ => none
def R02_SameInts_C (R : Type) (k : Nat) : Tab R := R02_SameInts_Ct
theorem R02_SameInts_S (R : Type) (k : Nat) : CSound Try.prog (R02_SameInts_C R k) := csound_nil
def R02_SameInts_aa0 {R : Type} (f : (Unit → Option R) → (Bool → Option R) → Nat → Option Addr → Nat → Nat → Option Addr → Nat → Nat → Int → Heap → Option R) (n : Nat) (vals : List Value) (H : Heap) (K : Xit → Env → Heap → Option R) : Option R :=
  match vals with
  | [.slice q482 l483 c484, .slice q485 l486 c487, .int .i64 n488] => f (fun _ => K (.exit 0) [] H) (fun t1183 => K .ret [(4, .bool t1183)] H) n q482 l483 c484 q485 l486 c487 n488 H
  | _ => none
def R02_SameInts_a0 (R : Type) (k n : Nat) (vals : List Value) (H : Heap) (K : Xit → Env → Heap → Option R) : Option R := R02_SameInts_aa0 (R02_SameInts_l0 k) n vals H K
def R02_SameInts_Jt {R : Type} (k : Nat) (R02_SameInts_l0 : (Unit → Option R) → (Bool → Option R) → Nat → Option Addr → Nat → Nat → Option Addr → Nat → Nat → Int → Heap → Option R) : JTab R := tcons 0 (R02_SameInts_aa0 R02_SameInts_l0 k) <| fun _ _ _ _ => none
def R02_SameInts_J (R : Type) (k : Nat) : JTab R := R02_SameInts_Jt k (R02_SameInts_l0 k)
def R02_SameInts_at : AT := (.seq (.reg [0, 1] []) (.seq (.seq (.reg [0, 1, 10] []) (.cond (.seq (.reg [4] []) .leaf) .leaf)) (.seq (.seq (.reg [0, 1, 5] []) (.node (.opq 0 [0, 1, 5] ⟨[], [(0, [])], [4]⟩ (.node (.seq (.seq (.reg [0, 1, 5, 14] []) (.cond .leaf .leaf)) (.seq (.node (.seq (.reg [0, 1, 5, 25] [[], [], [0, 1], [0, 1, 2], [], [], [4, 5], [4, 5, 6], [0, 1, 2, 3, 4, 5, 6, 7]]) (.cond (.seq (.reg [4] []) .leaf) .leaf))) (.reg [0, 1, 5] []))))))) (.seq (.reg [4] []) .leaf))))
def R02_SameInts_i0 : IC := (.seq (.seq (.reg [⟨some 11, .mov (.t 5), none⟩,
 ⟨some 12, .mov (.t 0), none⟩,
 ⟨some 13, .len false (.t 12), none⟩,
 ⟨some 14, .cmp .lss (.t 11) (.t 13), none⟩] [0, 1, 5, 14]) (.cond (.t 14) .skip (.exit 0))) (.seq (.block 1 (.seq (.reg [⟨some 17, .mov (.t 0), none⟩,
 ⟨some 18, .mov (.t 5), none⟩,
 ⟨some 19, .ids 1 (.t 17) (.t 18), none⟩,
 ⟨some 20, .ld (.sc (.int .i64)) (.t 19), none⟩,
 ⟨some 21, .mov (.t 1), none⟩,
 ⟨some 22, .mov (.t 5), none⟩,
 ⟨some 23, .ids 1 (.t 21) (.t 22), none⟩,
 ⟨some 24, .ld (.sc (.int .i64)) (.t 23), none⟩,
 ⟨some 25, .cmp .neq (.t 20) (.t 24), none⟩] [0, 1, 5, 25]) (.cond (.t 25) (.seq (.reg [⟨some 4, .mov (.c (Go.Value.bool false)), none⟩] [4]) .ret) .skip))) (.reg [⟨some 15, .mov (.t 5), none⟩,
 ⟨some 16, .bin .add .i64 (.t 15) (.c (Go.Value.int Go.IntKind.i64 1)), none⟩,
 ⟨some 5, .mov (.t 16), none⟩] [0, 1, 5])))
def R02_SameInts_f : IFn := ⟨26, [.t 4], (.seq (.reg [⟨some 4, .mov (.c (Go.Value.bool false)), none⟩] [0, 1]) (.seq (.seq (.reg [⟨some 6, .mov (.t 0), none⟩,
 ⟨some 7, .len false (.t 6), none⟩,
 ⟨some 8, .mov (.t 1), none⟩,
 ⟨some 9, .len false (.t 8), none⟩,
 ⟨some 10, .cmp .neq (.t 7) (.t 9), none⟩] [0, 1, 10]) (.cond (.t 10) (.seq (.reg [⟨some 4, .mov (.c (Go.Value.bool false)), none⟩] [4]) .ret) .skip)) (.seq (.seq (.reg [⟨some 5, .mov (.c (Go.Value.int Go.IntKind.i64 0)), none⟩] [0, 1, 5]) (.block 0 (.opq 0 [0, 1, 5] (.loop R02_SameInts_i0)))) (.seq (.reg [⟨some 4, .mov (.c (Go.Value.bool true)), none⟩] [4]) .ret))))⟩
theorem R02_SameInts_e0 {R : Type} (R02_SameInts_l0 : (Unit → Option R) → (Bool → Option R) → Nat → Option Addr → Nat → Nat → Option Addr → Nat → Nat → Int → Heap → Option R) (k n : Nat) (q482 : Option Addr) (l483 : Nat) (c484 : Nat) (q485 : Option Addr) (l486 : Nat) (c487 : Nat) (n488 : Int) (H : Heap) (K : Xit → Env → Heap → Option R) : evJ (R02_SameInts_Ct) (R02_SameInts_Jt k R02_SameInts_l0) R02_SameInts_i0 (List.zip [0, 1, 5] [.slice q482 l483 c484, .slice q485 l486 c487, .int .i64 n488]) H (fun x e' H' => match x with | .normal => R02_SameInts_aa0 R02_SameInts_l0 n ((clean e' [0, 1, 5]).map (·.2)) H' K | x => K x (clean e' ((⟨[], [(0, [])], [4]⟩ : Out).of x)) H') = R02_SameInts_l0_b (R02_SameInts_l0 (fun _ => K (.exit 0) [] H) (fun t1183 => K .ret [(4, .bool t1183)] H) n) (fun _ => K (.exit 0) [] H) (fun t1183 => K .ret [(4, .bool t1183)] H) k q482 l483 c484 q485 l486 c487 n488 H := by kernel_rfl
theorem R02_SameInts_j0 {R : Type} (k : Nat) : JS Try.prog 26 (R02_SameInts_a0 R k k) [0, 1, 5] ⟨[], [(0, [])], [4]⟩ (.loop (sel [1, 1, 0, 1, 0, 0] (Try.f19.body.getD .skip))) :=
  loop_ok (nt := 26) (c := (sel [1, 1, 0, 1, 0, 0] (Try.f19.body.getD .skip))) (C := R02_SameInts_C R k) (an := An) (t := (.seq (.seq (.reg [0, 1, 5, 14] []) (.cond .leaf .leaf)) (.seq (.node (.seq (.reg [0, 1, 5, 25] [[], [], [0, 1], [0, 1, 2], [], [], [4, 5], [4, 5, 6], [0, 1, 2, 3, 4, 5, 6, 7]]) (.cond (.seq (.reg [4] []) .leaf) .leaf))) (.reg [0, 1, 5] [])))) (ic := R02_SameInts_i0) (R02_SameInts_S R k) (R02_SameInts_J R k) (by kernel_rfl) (And.intro (And.intro True.intro (And.intro True.intro True.intro)) (And.intro (And.intro True.intro (And.intro (And.intro True.intro True.intro) True.intro)) True.intro)) (R02_SameInts_a0 R k) (fun vals H K => by unfold R02_SameInts_a0 R02_SameInts_aa0; split <;> rfl)
    (fun n vals H K r h => by
      unfold R02_SameInts_a0 R02_SameInts_aa0 at h
      split at h <;> first | (cases h; done) | exact Eq.trans (R02_SameInts_e0 (R02_SameInts_l0 k) k n _ _ _ _ _ _ _ H K) h) k
def R02_SameInts_ca {R : Type} (f : Option Addr → Nat → Nat → Option Addr → Nat → Nat → Heap → (Bool → Option R) → Option R) (args : List Value) (H : Heap) (K : Value → Heap → Option R) : Option R :=
  match args with
  | [.slice q476 l477 c478, .slice q479 l480 c481] => f q476 l477 c478 q479 l480 c481 H (fun t1184 => K (.bool t1184) H)
  | _ => none
def R02_SameInts_c (R : Type) (k : Nat) (args : List Value) (H : Heap) (K : Value → Heap → Option R) : Option R := R02_SameInts_ca (R02_SameInts k) args H K
theorem R02_SameInts_e {R : Type} (R02_SameInts_l0 : (Unit → Option R) → (Bool → Option R) → Nat → Option Addr → Nat → Nat → Option Addr → Nat → Nat → Int → Heap → Option R) (k : Nat) (q476 : Option Addr) (l477 : Nat) (c478 : Nat) (q479 : Option Addr) (l480 : Nat) (c481 : Nat) (H : Heap) (K : Value → Heap → Option R) : evF (R02_SameInts_Ct) (R02_SameInts_Jt k R02_SameInts_l0) R02_SameInts_f [.slice q476 l477 c478, .slice q479 l480 c481] H K = R02_SameInts_b R02_SameInts_l0 k q476 l477 c478 q479 l480 c481 H (fun t1184 => K (.bool t1184) H) := by kernel_rfl
theorem R02_SameInts_cs (R : Type) (k : Nat) : ∀ args H K r, R02_SameInts_c R k args H K = some r → ∃ v H', Tri Try.prog 19 args H v H' ∧ K v H' = some r := by
  intro args H K r h
  unfold R02_SameInts_c R02_SameInts_ca at h
  split at h
  · exact evF_ok (C := R02_SameInts_C R k) (an := An) (t := R02_SameInts_at) (fn := Try.f19) (c := (Try.f19.body.getD .skip)) (ifn := R02_SameInts_f) (R02_SameInts_S R k) (R02_SameInts_J R k) Try.func19 (by kernel_rfl) (by kernel_rfl) (And.intro True.intro (And.intro (And.intro True.intro (And.intro (And.intro True.intro True.intro) True.intro)) (And.intro (And.intro True.intro (R02_SameInts_j0 k)) (And.intro True.intro True.intro)))) rfl (Eq.trans (R02_SameInts_e (R02_SameInts_l0 k) k _ _ _ _ _ _ H K) h)
  · cases h
/-! ### L_exampleHolds: function 14 -/
def L_exampleHolds_p0_b {R : Type} (cblk_Block_Set : Option Addr → Int → Int → Int → Heap → (Int → Heap → Option R) → Option R) (cblk_Block_Mark : Option Addr → Int → Int → Heap → (Int → Heap → Option R) → Option R) (k : Nat) (p177 : Option Addr) (n178 : Int) (H : Heap) (KN : Option Addr → Heap → Option R) (KR : Bool → Heap → Option R) : Option R :=
bif (n178 != 0) then (KR false H)
 else (bif p177.isNone then (KR false H)
 else (cblk_Block_Set p177 1 3 (-2) H fun n179 H180 =>
bif (n179 != 0) then (KR false H180)
 else (cblk_Block_Set p177 0 4 7 H180 fun n181 H182 =>
bif (n181 != 0) then (KR false H182)
 else (cblk_Block_Set p177 2 4 7 H182 fun n183 H184 =>
bif (n183 != 0) then (KR false H184)
 else (cblk_Block_Mark p177 1 3 H184 fun n185 H186 =>
bif (n185 != 0) then (KR false H186)
 else (cblk_Block_Mark p177 0 4 H186 fun n187 H188 =>
bif (n187 != 0) then (KR false H188)
 else (cblk_Block_Mark p177 2 4 H188 fun n189 H190 =>
bif (n189 != 0) then (KR false H190)
 else (KN p177 H190))))))))
def L_exampleHolds_p0 {R : Type} (k : Nat) (p177 : Option Addr) (n178 : Int) (H : Heap) (KN : Option Addr → Heap → Option R) (KR : Bool → Heap → Option R) : Option R := L_exampleHolds_p0_b (cblk_Block_Set k) (cblk_Block_Mark k) k p177 n178 H KN KR

def L_exampleHolds_p1_b {R : Type} (k : Nat) (p206 : Option Addr) (n207 : Int) (n208 : Int) (n209 : Int) (n210 : Int) (n211 : Int) (n212 : Int) (n213 : Int) (n214 : Int) (n215 : Int) (n216 : Int) (n217 : Int) (KN : Option Addr → Option R) (KR : Bool → Option R) : Option R :=
bif (n207 != 2) then (KR false)
 else (bif (n208 != 1) then (KR false)
 else (bif (n209 != 0) then (KR false)
 else (bif (n210 != 1) then (KR false)
 else (bif (n211 != (-1)) then (KR false)
 else (bif (n212 != 0) then (KR false)
 else (bif (n213 != 0) then (KR false)
 else (bif (n214 != 2) then (KR false)
 else (bif (n215 != 0) then (KR false)
 else (bif (n216 != 0) then (KR false)
 else (bif (n217 != 0) then (KR false)
 else (KN p206)))))))))))
def L_exampleHolds_p1 {R : Type} (k : Nat) (p206 : Option Addr) (n207 : Int) (n208 : Int) (n209 : Int) (n210 : Int) (n211 : Int) (n212 : Int) (n213 : Int) (n214 : Int) (n215 : Int) (n216 : Int) (n217 : Int) (KN : Option Addr → Option R) (KR : Bool → Option R) : Option R := L_exampleHolds_p1_b k p206 n207 n208 n209 n210 n211 n212 n213 n214 n215 n216 n217 KN KR

def L_exampleHolds_p2_b {R : Type} (cblk_Raw : Int → Bool → Bool → Bool → Bool → Bool → Heap → (Bool → Heap → Option R) → Option R) (cblk_Segments : Int → Bool → Bool → Bool → Bool → Bool → Heap → (Option Addr → Nat → Nat → Heap → Option R) → Option R) (R02_SameInts : Option Addr → Nat → Nat → Option Addr → Nat → Nat → Heap → (Bool → Option R) → Option R) (k : Nat) (p226 : Option Addr) (n227 : Int) (n228 : Int) (p229 : Option Addr) (H : Heap) (KN : Option Addr → Heap → Option R) (KR : Bool → Heap → Option R) : Option R :=
bif (n227 != 2) then (KR false H)
 else (bif (n228 != 2) then (KR false H)
 else (ldB H (pad p229 0) fun t230 =>
ldB H (pad p229 1) fun t231 =>
ldB H (pad p229 2) fun t232 =>
ldB H (pad p229 3) fun t233 =>
ldB H (pad p229 4) fun t234 =>
cblk_Raw 11 t230 t231 t232 t233 t234 H fun t235 H236 =>
bif (!t235) then (KR false H236)
 else (ldB H236 (pad p229 0) fun t237 =>
ldB H236 (pad p229 1) fun t238 =>
ldB H236 (pad p229 2) fun t239 =>
ldB H236 (pad p229 3) fun t240 =>
ldB H236 (pad p229 4) fun t241 =>
cblk_Raw 12 t237 t238 t239 t240 t241 H236 fun t242 H243 =>
bif t242 then (KR false H243)
 else (ldB H243 (pad p229 0) fun t244 =>
ldB H243 (pad p229 1) fun t245 =>
ldB H243 (pad p229 2) fun t246 =>
ldB H243 (pad p229 3) fun t247 =>
ldB H243 (pad p229 4) fun t248 =>
cblk_Segments 14 t244 t245 t246 t247 t248 H243 fun q249 l250 c251 H252 =>
hal H252 [.int .i64 10, .int .i64 2, .int .i64 1, .int .i64 1] fun p253 H254 =>
R02_SameInts q249 l250 c251 p253 4 4 H254 fun t255 =>
bif (!t255) then (KR false H254)
 else (cblk_Segments 3 false true false false false H254 fun q256 l257 c258 H259 =>
hal H259 [.int .i64 1, .int .i64 1, .int .i64 1] fun p260 H261 =>
R02_SameInts q256 l257 c258 p260 3 3 H261 fun t262 =>
bif (!t262) then (KR false H261)
 else (KN p226 H261))))))
def L_exampleHolds_p2 {R : Type} (k : Nat) (p226 : Option Addr) (n227 : Int) (n228 : Int) (p229 : Option Addr) (H : Heap) (KN : Option Addr → Heap → Option R) (KR : Bool → Heap → Option R) : Option R := L_exampleHolds_p2_b (cblk_Raw k) (cblk_Segments k) (R02_SameInts k) k p226 n227 n228 p229 H KN KR

def L_exampleHolds_b {R : Type} (cblk_New : Int → Int → Heap → (Option Addr → Int → Heap → Option R) → Option R) (L_exampleHolds_p0 : Option Addr → Int → Heap → (Option Addr → Heap → Option R) → (Bool → Heap → Option R) → Option R) (cblk_Block_Neighbors : Option Addr → Int → Int → Bool → Heap → (Int → Int → Int → Option R) → Option R) (cblk_Block_Signs : Option Addr → Int → Int → Bool → Heap → (Int → Int → Option R) → Option R) (L_exampleHolds_p1 : Option Addr → Int → Int → Int → Int → Int → Int → Int → Int → Int → Int → Int → (Option Addr → Option R) → (Bool → Option R) → Option R) (cblk_Pass : Int → (Int → Int → Option R) → Option R) (L_exampleHolds_p2 : Option Addr → Int → Int → Option Addr → Heap → (Option Addr → Heap → Option R) → (Bool → Heap → Option R) → Option R) (cblk_Scan : Int → Int → Heap → (Option Addr → Nat → Nat → Heap → Option R) → Option R) (cblk_Block_Set : Option Addr → Int → Int → Int → Heap → (Int → Heap → Option R) → Option R) (k : Nat) (H : Heap) (K : Bool → Heap → Option R) : Option R :=
cblk_New 3 5 H fun p174 n175 H176 =>
L_exampleHolds_p0 p174 n175 H176 (fun p193 H194 =>
cblk_Block_Neighbors p193 1 4 false H194 fun n195 n196 n197 =>
cblk_Block_Signs p193 1 4 false H194 fun n198 n199 =>
cblk_Block_Neighbors p193 1 3 false H194 fun n200 n201 n202 =>
cblk_Block_Neighbors p193 1 3 true H194 fun n203 n204 n205 =>
L_exampleHolds_p1 p193 n195 n196 n197 n198 n199 n200 n201 n202 n203 n204 n205 (fun p220 =>
cblk_Pass 6 fun n221 n222 =>
hal H194 [.bool false, .bool false, .bool false, .bool false, .bool false] fun p223 H224 =>
hst H224 p223 [.bool true, .bool false, .bool false, .bool false, .bool false] fun H225 =>
L_exampleHolds_p2 p220 n221 n222 p223 H225 (fun p265 H266 =>
cblk_Scan 2 5 H266 fun q267 l268 c269 H270 =>
bif (((l268 : Nat) : Int) == 10) then (cblk_Block_Set p265 3 0 1 H270 fun n271 H272 =>
bif (n271 == 2) then (cblk_Block_Set p265 0 0 1152921504606846976 H272 fun n273 H274 =>
K (n273 == 2) H274)
 else (K false H272))
 else (K false H270)) (fun t275 H276 =>
K t275 H276)) (fun t277 =>
K t277 H194)) (fun t278 H279 =>
K t278 H279)

def L_exampleHolds {R : Type} (k : Nat) (H : Heap) (K : Bool → Heap → Option R) : Option R := L_exampleHolds_b cblk_New (L_exampleHolds_p0 k) (cblk_Block_Neighbors k) (cblk_Block_Signs k) (L_exampleHolds_p1 k) cblk_Pass (L_exampleHolds_p2 k) (cblk_Scan k) (cblk_Block_Set k) k H K

def L_exampleHolds_Ct {R : Type} (cblk_New : Int → Int → Heap → (Option Addr → Int → Heap → Option R) → Option R) (cblk_Block_Set : Option Addr → Int → Int → Int → Heap → (Int → Heap → Option R) → Option R) (cblk_Block_Mark : Option Addr → Int → Int → Heap → (Int → Heap → Option R) → Option R) (cblk_Block_Neighbors : Option Addr → Int → Int → Bool → Heap → (Int → Int → Int → Option R) → Option R) (cblk_Block_Signs : Option Addr → Int → Int → Bool → Heap → (Int → Int → Option R) → Option R) (cblk_Pass : Int → (Int → Int → Option R) → Option R) (cblk_Raw : Int → Bool → Bool → Bool → Bool → Bool → Heap → (Bool → Heap → Option R) → Option R) (cblk_Segments : Int → Bool → Bool → Bool → Bool → Bool → Heap → (Option Addr → Nat → Nat → Heap → Option R) → Option R) (R02_SameInts : Option Addr → Nat → Nat → Option Addr → Nat → Nat → Heap → (Bool → Option R) → Option R) (cblk_Scan : Int → Int → Heap → (Option Addr → Nat → Nat → Heap → Option R) → Option R) : Tab R := tcons 31 (cblk_New_ca cblk_New) <| tcons 42 (cblk_Block_Set_ca cblk_Block_Set) <| tcons 27 (cblk_Block_Mark_ca cblk_Block_Mark) <| tcons 29 (cblk_Block_Neighbors_ca cblk_Block_Neighbors) <| tcons 30 (cblk_Block_Signs_ca cblk_Block_Signs) <| tcons 15 (cblk_Pass_ca cblk_Pass) <| tcons 17 (cblk_Raw_ca cblk_Raw) <| tcons 20 (cblk_Segments_ca cblk_Segments) <| tcons 19 (R02_SameInts_ca R02_SameInts) <| tcons 12 (cblk_Scan_ca cblk_Scan) <| fun _ _ _ _ => none
def L_exampleHolds_C (R : Type) (k : Nat) : Tab R := L_exampleHolds_Ct cblk_New (cblk_Block_Set k) (cblk_Block_Mark k) (cblk_Block_Neighbors k) (cblk_Block_Signs k) cblk_Pass (cblk_Raw k) (cblk_Segments k) (R02_SameInts k) (cblk_Scan k)
theorem L_exampleHolds_S (R : Type) (k : Nat) : CSound Try.prog (L_exampleHolds_C R k) := csound_cons (cblk_New_cs R k) <| csound_cons (cblk_Block_Set_cs R k) <| csound_cons (cblk_Block_Mark_cs R k) <| csound_cons (cblk_Block_Neighbors_cs R k) <| csound_cons (cblk_Block_Signs_cs R k) <| csound_cons (cblk_Pass_cs R k) <| csound_cons (cblk_Raw_cs R k) <| csound_cons (cblk_Segments_cs R k) <| csound_cons (R02_SameInts_cs R k) <| csound_cons (cblk_Scan_cs R k) <| csound_nil
def L_exampleHolds_aa0 {R : Type} (f : Option Addr → Int → Heap → (Option Addr → Heap → Option R) → (Bool → Heap → Option R) → Option R) (n : Nat) (vals : List Value) (H : Heap) (K : Xit → Env → Heap → Option R) : Option R :=
  match vals with
  | [.pointer p177, .int .i64 n178] => f p177 n178 H (fun p1185 H => K .normal [(1, .pointer p1185)] H) (fun t1186 H => K .ret [(0, .bool t1186)] H)
  | _ => none
def L_exampleHolds_a0 (R : Type) (k n : Nat) (vals : List Value) (H : Heap) (K : Xit → Env → Heap → Option R) : Option R := L_exampleHolds_aa0 (L_exampleHolds_p0 k) n vals H K
def L_exampleHolds_aa1 {R : Type} (f : Option Addr → Int → Int → Int → Int → Int → Int → Int → Int → Int → Int → Int → (Option Addr → Option R) → (Bool → Option R) → Option R) (n : Nat) (vals : List Value) (H : Heap) (K : Xit → Env → Heap → Option R) : Option R :=
  match vals with
  | [.pointer p206, .int .i64 n207, .int .i64 n208, .int .i64 n209, .int .i64 n210, .int .i64 n211, .int .i64 n212, .int .i64 n213, .int .i64 n214, .int .i64 n215, .int .i64 n216, .int .i64 n217] => f p206 n207 n208 n209 n210 n211 n212 n213 n214 n215 n216 n217 (fun p1187 => K .normal [(1, .pointer p1187)] H) (fun t1188 => K .ret [(0, .bool t1188)] H)
  | _ => none
def L_exampleHolds_a1 (R : Type) (k n : Nat) (vals : List Value) (H : Heap) (K : Xit → Env → Heap → Option R) : Option R := L_exampleHolds_aa1 (L_exampleHolds_p1 k) n vals H K
def L_exampleHolds_aa2 {R : Type} (f : Option Addr → Int → Int → Option Addr → Heap → (Option Addr → Heap → Option R) → (Bool → Heap → Option R) → Option R) (n : Nat) (vals : List Value) (H : Heap) (K : Xit → Env → Heap → Option R) : Option R :=
  match vals with
  | [.pointer p226, .int .i64 n227, .int .i64 n228, .pointer p229] => f p226 n227 n228 p229 H (fun p1189 H => K .normal [(1, .pointer p1189)] H) (fun t1190 H => K .ret [(0, .bool t1190)] H)
  | _ => none
def L_exampleHolds_a2 (R : Type) (k n : Nat) (vals : List Value) (H : Heap) (K : Xit → Env → Heap → Option R) : Option R := L_exampleHolds_aa2 (L_exampleHolds_p2 k) n vals H K
def L_exampleHolds_Jt {R : Type} (k : Nat) (L_exampleHolds_p0 : Option Addr → Int → Heap → (Option Addr → Heap → Option R) → (Bool → Heap → Option R) → Option R) (L_exampleHolds_p1 : Option Addr → Int → Int → Int → Int → Int → Int → Int → Int → Int → Int → Int → (Option Addr → Option R) → (Bool → Option R) → Option R) (L_exampleHolds_p2 : Option Addr → Int → Int → Option Addr → Heap → (Option Addr → Heap → Option R) → (Bool → Heap → Option R) → Option R) : JTab R := tcons 0 (L_exampleHolds_aa0 L_exampleHolds_p0 k) <| tcons 1 (L_exampleHolds_aa1 L_exampleHolds_p1 k) <| tcons 2 (L_exampleHolds_aa2 L_exampleHolds_p2 k) <| fun _ _ _ _ => none
def L_exampleHolds_J (R : Type) (k : Nat) : JTab R := L_exampleHolds_Jt k (L_exampleHolds_p0 k) (L_exampleHolds_p1 k) (L_exampleHolds_p2 k)
def L_exampleHolds_at : AT := (.seq (.reg [] []) (.seq (.reg [1, 2] []) (.seq (.opq 0 [1, 2] ⟨[1], [], [0]⟩ (.seq (.reg [1, 56] []) (.cond (.seq (.reg [0] []) .leaf) .leaf))) (.seq (.reg [1, 3, 4, 5] []) (.seq (.reg [1, 3, 4, 5, 6, 7] []) (.seq (.reg [1, 3, 4, 5, 6, 7, 8, 9, 10] []) (.seq (.reg [1, 3, 4, 5, 6, 7, 8, 9, 10, 11, 12, 13] []) (.seq (.opq 1 [1, 3, 4, 5, 6, 7, 8, 9, 10, 11, 12, 13] ⟨[1], [], [0]⟩ (.seq (.reg [1, 121] []) (.cond (.seq (.reg [0] []) .leaf) .leaf))) (.seq (.reg [1, 14, 15] []) (.seq (.reg [1, 14, 15, 16] []) (.seq (.opq 2 [1, 14, 15, 16] ⟨[1], [], [0]⟩ (.seq (.reg [1, 155] []) (.cond (.seq (.reg [0] []) .leaf) .leaf))) (.seq (.reg [0] []) .leaf))))))))))))
def L_exampleHolds_i2 : IC := (.seq (.reg [⟨some 127, .mov (.t 14), none⟩,
 ⟨some 128, .cmp .neq (.t 127) (.c (Go.Value.int Go.IntKind.i64 2)), none⟩,
 ⟨some 129, .mov (.t 128), none⟩,
 ⟨some 130, .mov (.t 15), some (129, false)⟩,
 ⟨some 131, .cmp .neq (.t 130) (.c (Go.Value.int Go.IntKind.i64 2)), some (129, false)⟩,
 ⟨some 132, .pick (.t 129) (.c (Go.Value.bool true)) (.t 131), none⟩,
 ⟨some 133, .mov (.t 132), none⟩,
 ⟨some 134, .ld (.agg [.bool, .bool, .bool, .bool, .bool]) (.t 16), some (133, false)⟩,
 ⟨some 135, .call 17 [(.c (Go.Value.int Go.IntKind.i64 11)), (.t 134)] (.one (.sc .bool)), some (133, false)⟩,
 ⟨some 136, .lnot (.t 135), some (133, false)⟩,
 ⟨some 137, .pick (.t 133) (.c (Go.Value.bool true)) (.t 136), none⟩,
 ⟨some 138, .mov (.t 137), none⟩,
 ⟨some 139, .ld (.agg [.bool, .bool, .bool, .bool, .bool]) (.t 16), some (138, false)⟩,
 ⟨some 140, .call 17 [(.c (Go.Value.int Go.IntKind.i64 12)), (.t 139)] (.one (.sc .bool)), some (138, false)⟩,
 ⟨some 141, .pick (.t 138) (.c (Go.Value.bool true)) (.t 140), none⟩,
 ⟨some 142, .mov (.t 141), none⟩,
 ⟨some 143, .ld (.agg [.bool, .bool, .bool, .bool, .bool]) (.t 16), some (142, false)⟩,
 ⟨some 144, .call 20 [(.c (Go.Value.int Go.IntKind.i64 14)), (.t 143)] (.one (.sc .slc)), some (142, false)⟩,
 ⟨some 145, .bls 4 [.int .i64 0, .int .i64 0, .int .i64 0, .int .i64 0] [(0, 1, (.c (Go.Value.int Go.IntKind.i64 10))), (1, 1, (.c (Go.Value.int Go.IntKind.i64 2))), (2, 1, (.c (Go.Value.int Go.IntKind.i64 1))), (3, 1, (.c (Go.Value.int Go.IntKind.i64 1)))], some (142, false)⟩,
 ⟨some 146, .call 19 [(.t 144), (.t 145)] (.one (.sc .bool)), some (142, false)⟩,
 ⟨some 147, .lnot (.t 146), some (142, false)⟩,
 ⟨some 148, .pick (.t 142) (.c (Go.Value.bool true)) (.t 147), none⟩,
 ⟨some 149, .mov (.t 148), none⟩,
 ⟨some 150, .bld [.bool false, .bool false, .bool false, .bool false, .bool false] [(1, 1, (.c (Go.Value.bool true)))], some (149, false)⟩,
 ⟨some 151, .call 20 [(.c (Go.Value.int Go.IntKind.i64 3)), (.t 150)] (.one (.sc .slc)), some (149, false)⟩,
 ⟨some 152, .bls 3 [.int .i64 0, .int .i64 0, .int .i64 0] [(0, 1, (.c (Go.Value.int Go.IntKind.i64 1))), (1, 1, (.c (Go.Value.int Go.IntKind.i64 1))), (2, 1, (.c (Go.Value.int Go.IntKind.i64 1)))], some (149, false)⟩,
 ⟨some 153, .call 19 [(.t 151), (.t 152)] (.one (.sc .bool)), some (149, false)⟩,
 ⟨some 154, .lnot (.t 153), some (149, false)⟩,
 ⟨some 155, .pick (.t 149) (.c (Go.Value.bool true)) (.t 154), none⟩] [1, 155]) (.cond (.t 155) (.seq (.reg [⟨some 0, .mov (.c (Go.Value.bool false)), none⟩] [0]) .ret) .skip))
def L_exampleHolds_i1 : IC := (.seq (.reg [⟨some 80, .mov (.t 3), none⟩,
 ⟨some 81, .cmp .neq (.t 80) (.c (Go.Value.int Go.IntKind.i64 2)), none⟩,
 ⟨some 82, .mov (.t 81), none⟩,
 ⟨some 83, .mov (.t 4), some (82, false)⟩,
 ⟨some 84, .cmp .neq (.t 83) (.c (Go.Value.int Go.IntKind.i64 1)), some (82, false)⟩,
 ⟨some 85, .pick (.t 82) (.c (Go.Value.bool true)) (.t 84), none⟩,
 ⟨some 86, .mov (.t 85), none⟩,
 ⟨some 87, .mov (.t 5), some (86, false)⟩,
 ⟨some 88, .cmp .neq (.t 87) (.c (Go.Value.int Go.IntKind.i64 0)), some (86, false)⟩,
 ⟨some 89, .pick (.t 86) (.c (Go.Value.bool true)) (.t 88), none⟩,
 ⟨some 90, .mov (.t 89), none⟩,
 ⟨some 91, .mov (.t 6), some (90, false)⟩,
 ⟨some 92, .cmp .neq (.t 91) (.c (Go.Value.int Go.IntKind.i64 1)), some (90, false)⟩,
 ⟨some 93, .pick (.t 90) (.c (Go.Value.bool true)) (.t 92), none⟩,
 ⟨some 94, .mov (.t 93), none⟩,
 ⟨some 95, .mov (.t 7), some (94, false)⟩,
 ⟨some 96, .cmp .neq (.t 95) (.c (Go.Value.int Go.IntKind.i64 (-1))), some (94, false)⟩,
 ⟨some 97, .pick (.t 94) (.c (Go.Value.bool true)) (.t 96), none⟩,
 ⟨some 98, .mov (.t 97), none⟩,
 ⟨some 99, .mov (.t 8), some (98, false)⟩,
 ⟨some 100, .cmp .neq (.t 99) (.c (Go.Value.int Go.IntKind.i64 0)), some (98, false)⟩,
 ⟨some 101, .pick (.t 98) (.c (Go.Value.bool true)) (.t 100), none⟩,
 ⟨some 102, .mov (.t 101), none⟩,
 ⟨some 103, .mov (.t 9), some (102, false)⟩,
 ⟨some 104, .cmp .neq (.t 103) (.c (Go.Value.int Go.IntKind.i64 0)), some (102, false)⟩,
 ⟨some 105, .pick (.t 102) (.c (Go.Value.bool true)) (.t 104), none⟩,
 ⟨some 106, .mov (.t 105), none⟩,
 ⟨some 107, .mov (.t 10), some (106, false)⟩,
 ⟨some 108, .cmp .neq (.t 107) (.c (Go.Value.int Go.IntKind.i64 2)), some (106, false)⟩,
 ⟨some 109, .pick (.t 106) (.c (Go.Value.bool true)) (.t 108), none⟩,
 ⟨some 110, .mov (.t 109), none⟩,
 ⟨some 111, .mov (.t 11), some (110, false)⟩,
 ⟨some 112, .cmp .neq (.t 111) (.c (Go.Value.int Go.IntKind.i64 0)), some (110, false)⟩,
 ⟨some 113, .pick (.t 110) (.c (Go.Value.bool true)) (.t 112), none⟩,
 ⟨some 114, .mov (.t 113), none⟩,
 ⟨some 115, .mov (.t 12), some (114, false)⟩,
 ⟨some 116, .cmp .neq (.t 115) (.c (Go.Value.int Go.IntKind.i64 0)), some (114, false)⟩,
 ⟨some 117, .pick (.t 114) (.c (Go.Value.bool true)) (.t 116), none⟩,
 ⟨some 118, .mov (.t 117), none⟩,
 ⟨some 119, .mov (.t 13), some (118, false)⟩,
 ⟨some 120, .cmp .neq (.t 119) (.c (Go.Value.int Go.IntKind.i64 0)), some (118, false)⟩,
 ⟨some 121, .pick (.t 118) (.c (Go.Value.bool true)) (.t 120), none⟩] [1, 121]) (.cond (.t 121) (.seq (.reg [⟨some 0, .mov (.c (Go.Value.bool false)), none⟩] [0]) .ret) .skip))
def L_exampleHolds_i0 : IC := (.seq (.reg [⟨some 21, .mov (.t 2), none⟩,
 ⟨some 22, .cmp .neq (.t 21) (.c (Go.Value.int Go.IntKind.i64 0)), none⟩,
 ⟨some 23, .mov (.t 22), none⟩,
 ⟨some 24, .mov (.t 1), some (23, false)⟩,
 ⟨some 25, .eqnil (.t 24) false 0, some (23, false)⟩,
 ⟨some 26, .pick (.t 23) (.c (Go.Value.bool true)) (.t 25), none⟩,
 ⟨some 27, .mov (.t 26), none⟩,
 ⟨some 28, .mov (.t 1), some (27, false)⟩,
 ⟨some 29, .call 42 [(.t 28), (.c (Go.Value.int Go.IntKind.i64 1)), (.c (Go.Value.int Go.IntKind.i64 3)), (.c (Go.Value.int Go.IntKind.i64 (-2)))] (.one (.sc (.int .i64))), some (27, false)⟩,
 ⟨some 30, .cmp .neq (.t 29) (.c (Go.Value.int Go.IntKind.i64 0)), some (27, false)⟩,
 ⟨some 31, .pick (.t 27) (.c (Go.Value.bool true)) (.t 30), none⟩,
 ⟨some 32, .mov (.t 31), none⟩,
 ⟨some 33, .mov (.t 1), some (32, false)⟩,
 ⟨some 34, .call 42 [(.t 33), (.c (Go.Value.int Go.IntKind.i64 0)), (.c (Go.Value.int Go.IntKind.i64 4)), (.c (Go.Value.int Go.IntKind.i64 7))] (.one (.sc (.int .i64))), some (32, false)⟩,
 ⟨some 35, .cmp .neq (.t 34) (.c (Go.Value.int Go.IntKind.i64 0)), some (32, false)⟩,
 ⟨some 36, .pick (.t 32) (.c (Go.Value.bool true)) (.t 35), none⟩,
 ⟨some 37, .mov (.t 36), none⟩,
 ⟨some 38, .mov (.t 1), some (37, false)⟩,
 ⟨some 39, .call 42 [(.t 38), (.c (Go.Value.int Go.IntKind.i64 2)), (.c (Go.Value.int Go.IntKind.i64 4)), (.c (Go.Value.int Go.IntKind.i64 7))] (.one (.sc (.int .i64))), some (37, false)⟩,
 ⟨some 40, .cmp .neq (.t 39) (.c (Go.Value.int Go.IntKind.i64 0)), some (37, false)⟩,
 ⟨some 41, .pick (.t 37) (.c (Go.Value.bool true)) (.t 40), none⟩,
 ⟨some 42, .mov (.t 41), none⟩,
 ⟨some 43, .mov (.t 1), some (42, false)⟩,
 ⟨some 44, .call 27 [(.t 43), (.c (Go.Value.int Go.IntKind.i64 1)), (.c (Go.Value.int Go.IntKind.i64 3))] (.one (.sc (.int .i64))), some (42, false)⟩,
 ⟨some 45, .cmp .neq (.t 44) (.c (Go.Value.int Go.IntKind.i64 0)), some (42, false)⟩,
 ⟨some 46, .pick (.t 42) (.c (Go.Value.bool true)) (.t 45), none⟩,
 ⟨some 47, .mov (.t 46), none⟩,
 ⟨some 48, .mov (.t 1), some (47, false)⟩,
 ⟨some 49, .call 27 [(.t 48), (.c (Go.Value.int Go.IntKind.i64 0)), (.c (Go.Value.int Go.IntKind.i64 4))] (.one (.sc (.int .i64))), some (47, false)⟩,
 ⟨some 50, .cmp .neq (.t 49) (.c (Go.Value.int Go.IntKind.i64 0)), some (47, false)⟩,
 ⟨some 51, .pick (.t 47) (.c (Go.Value.bool true)) (.t 50), none⟩,
 ⟨some 52, .mov (.t 51), none⟩,
 ⟨some 53, .mov (.t 1), some (52, false)⟩,
 ⟨some 54, .call 27 [(.t 53), (.c (Go.Value.int Go.IntKind.i64 2)), (.c (Go.Value.int Go.IntKind.i64 4))] (.one (.sc (.int .i64))), some (52, false)⟩,
 ⟨some 55, .cmp .neq (.t 54) (.c (Go.Value.int Go.IntKind.i64 0)), some (52, false)⟩,
 ⟨some 56, .pick (.t 52) (.c (Go.Value.bool true)) (.t 55), none⟩] [1, 56]) (.cond (.t 56) (.seq (.reg [⟨some 0, .mov (.c (Go.Value.bool false)), none⟩] [0]) .ret) .skip))
def L_exampleHolds_f : IFn := ⟨169, [.t 0], (.seq (.reg [⟨some 0, .mov (.c (Go.Value.bool false)), none⟩] []) (.seq (.reg [⟨some 18, .call 31 [(.c (Go.Value.int Go.IntKind.i64 3)), (.c (Go.Value.int Go.IntKind.i64 5))] (.tup [(.sc .ptr), (.sc (.int .i64))]), none⟩,
 ⟨some 17, .mov (.t 18), none⟩,
 ⟨some 19, .ext 0 (.t 17), none⟩,
 ⟨some 20, .ext 1 (.t 17), none⟩,
 ⟨some 1, .mov (.t 19), none⟩,
 ⟨some 2, .mov (.t 20), none⟩] [1, 2]) (.seq (.opq 0 [1, 2] L_exampleHolds_i0) (.seq (.reg [⟨some 58, .mov (.t 1), none⟩,
 ⟨some 59, .call 29 [(.t 58), (.c (Go.Value.int Go.IntKind.i64 1)), (.c (Go.Value.int Go.IntKind.i64 4)), (.c (Go.Value.bool false))] (.tup [(.sc (.int .i64)), (.sc (.int .i64)), (.sc (.int .i64))]), none⟩,
 ⟨some 57, .mov (.t 59), none⟩,
 ⟨some 60, .ext 0 (.t 57), none⟩,
 ⟨some 61, .ext 1 (.t 57), none⟩,
 ⟨some 62, .ext 2 (.t 57), none⟩,
 ⟨some 3, .mov (.t 60), none⟩,
 ⟨some 4, .mov (.t 61), none⟩,
 ⟨some 5, .mov (.t 62), none⟩] [1, 3, 4, 5]) (.seq (.reg [⟨some 64, .mov (.t 1), none⟩,
 ⟨some 65, .call 30 [(.t 64), (.c (Go.Value.int Go.IntKind.i64 1)), (.c (Go.Value.int Go.IntKind.i64 4)), (.c (Go.Value.bool false))] (.tup [(.sc (.int .i64)), (.sc (.int .i64))]), none⟩,
 ⟨some 63, .mov (.t 65), none⟩,
 ⟨some 66, .ext 0 (.t 63), none⟩,
 ⟨some 67, .ext 1 (.t 63), none⟩,
 ⟨some 6, .mov (.t 66), none⟩,
 ⟨some 7, .mov (.t 67), none⟩] [1, 3, 4, 5, 6, 7]) (.seq (.reg [⟨some 69, .mov (.t 1), none⟩,
 ⟨some 70, .call 29 [(.t 69), (.c (Go.Value.int Go.IntKind.i64 1)), (.c (Go.Value.int Go.IntKind.i64 3)), (.c (Go.Value.bool false))] (.tup [(.sc (.int .i64)), (.sc (.int .i64)), (.sc (.int .i64))]), none⟩,
 ⟨some 68, .mov (.t 70), none⟩,
 ⟨some 71, .ext 0 (.t 68), none⟩,
 ⟨some 72, .ext 1 (.t 68), none⟩,
 ⟨some 73, .ext 2 (.t 68), none⟩,
 ⟨some 8, .mov (.t 71), none⟩,
 ⟨some 9, .mov (.t 72), none⟩,
 ⟨some 10, .mov (.t 73), none⟩] [1, 3, 4, 5, 6, 7, 8, 9, 10]) (.seq (.reg [⟨some 75, .mov (.t 1), none⟩,
 ⟨some 76, .call 29 [(.t 75), (.c (Go.Value.int Go.IntKind.i64 1)), (.c (Go.Value.int Go.IntKind.i64 3)), (.c (Go.Value.bool true))] (.tup [(.sc (.int .i64)), (.sc (.int .i64)), (.sc (.int .i64))]), none⟩,
 ⟨some 74, .mov (.t 76), none⟩,
 ⟨some 77, .ext 0 (.t 74), none⟩,
 ⟨some 78, .ext 1 (.t 74), none⟩,
 ⟨some 79, .ext 2 (.t 74), none⟩,
 ⟨some 11, .mov (.t 77), none⟩,
 ⟨some 12, .mov (.t 78), none⟩,
 ⟨some 13, .mov (.t 79), none⟩] [1, 3, 4, 5, 6, 7, 8, 9, 10, 11, 12, 13]) (.seq (.opq 1 [1, 3, 4, 5, 6, 7, 8, 9, 10, 11, 12, 13] L_exampleHolds_i1) (.seq (.reg [⟨some 123, .call 15 [(.c (Go.Value.int Go.IntKind.i64 6))] (.tup [(.sc (.int .i64)), (.sc (.int .i64))]), none⟩,
 ⟨some 122, .mov (.t 123), none⟩,
 ⟨some 124, .ext 0 (.t 122), none⟩,
 ⟨some 125, .ext 1 (.t 122), none⟩,
 ⟨some 14, .mov (.t 124), none⟩,
 ⟨some 15, .mov (.t 125), none⟩] [1, 14, 15]) (.seq (.reg [⟨some 126, .bld [.bool false, .bool false, .bool false, .bool false, .bool false] [(0, 1, (.c (Go.Value.bool true)))], none⟩,
 ⟨some 16, .alc [.bool false, .bool false, .bool false, .bool false, .bool false], none⟩,
 ⟨none, .st 5 (.t 16) (.t 126), none⟩] [1, 14, 15, 16]) (.seq (.opq 2 [1, 14, 15, 16] L_exampleHolds_i2) (.seq (.reg [⟨some 156, .call 12 [(.c (Go.Value.int Go.IntKind.i64 2)), (.c (Go.Value.int Go.IntKind.i64 5))] (.one (.sc .slc)), none⟩,
 ⟨some 157, .len false (.t 156), none⟩,
 ⟨some 158, .cmp .eql (.t 157) (.c (Go.Value.int Go.IntKind.i64 10)), none⟩,
 ⟨some 159, .mov (.t 158), none⟩,
 ⟨some 160, .mov (.t 1), some (159, true)⟩,
 ⟨some 161, .call 42 [(.t 160), (.c (Go.Value.int Go.IntKind.i64 3)), (.c (Go.Value.int Go.IntKind.i64 0)), (.c (Go.Value.int Go.IntKind.i64 1))] (.one (.sc (.int .i64))), some (159, true)⟩,
 ⟨some 162, .cmp .eql (.t 161) (.c (Go.Value.int Go.IntKind.i64 2)), some (159, true)⟩,
 ⟨some 163, .pick (.t 159) (.t 162) (.c (Go.Value.bool false)), none⟩,
 ⟨some 164, .mov (.t 163), none⟩,
 ⟨some 165, .mov (.t 1), some (164, true)⟩,
 ⟨some 166, .call 42 [(.t 165), (.c (Go.Value.int Go.IntKind.i64 0)), (.c (Go.Value.int Go.IntKind.i64 0)), (.c (Go.Value.int Go.IntKind.i64 1152921504606846976))] (.one (.sc (.int .i64))), some (164, true)⟩,
 ⟨some 167, .cmp .eql (.t 166) (.c (Go.Value.int Go.IntKind.i64 2)), some (164, true)⟩,
 ⟨some 168, .pick (.t 164) (.t 167) (.c (Go.Value.bool false)), none⟩,
 ⟨some 0, .mov (.t 168), none⟩] [0]) .ret))))))))))))⟩
theorem L_exampleHolds_e2 {R : Type} (cblk_New : Int → Int → Heap → (Option Addr → Int → Heap → Option R) → Option R) (cblk_Block_Set : Option Addr → Int → Int → Int → Heap → (Int → Heap → Option R) → Option R) (cblk_Block_Mark : Option Addr → Int → Int → Heap → (Int → Heap → Option R) → Option R) (cblk_Block_Neighbors : Option Addr → Int → Int → Bool → Heap → (Int → Int → Int → Option R) → Option R) (cblk_Block_Signs : Option Addr → Int → Int → Bool → Heap → (Int → Int → Option R) → Option R) (cblk_Pass : Int → (Int → Int → Option R) → Option R) (cblk_Raw : Int → Bool → Bool → Bool → Bool → Bool → Heap → (Bool → Heap → Option R) → Option R) (cblk_Segments : Int → Bool → Bool → Bool → Bool → Bool → Heap → (Option Addr → Nat → Nat → Heap → Option R) → Option R) (R02_SameInts : Option Addr → Nat → Nat → Option Addr → Nat → Nat → Heap → (Bool → Option R) → Option R) (cblk_Scan : Int → Int → Heap → (Option Addr → Nat → Nat → Heap → Option R) → Option R) (L_exampleHolds_p0 : Option Addr → Int → Heap → (Option Addr → Heap → Option R) → (Bool → Heap → Option R) → Option R) (L_exampleHolds_p1 : Option Addr → Int → Int → Int → Int → Int → Int → Int → Int → Int → Int → Int → (Option Addr → Option R) → (Bool → Option R) → Option R) (L_exampleHolds_p2 : Option Addr → Int → Int → Option Addr → Heap → (Option Addr → Heap → Option R) → (Bool → Heap → Option R) → Option R) (k : Nat) (p226 : Option Addr) (n227 : Int) (n228 : Int) (p229 : Option Addr) (H : Heap) (K : Xit → Env → Heap → Option R) : evJ (L_exampleHolds_Ct cblk_New cblk_Block_Set cblk_Block_Mark cblk_Block_Neighbors cblk_Block_Signs cblk_Pass cblk_Raw cblk_Segments R02_SameInts cblk_Scan) (L_exampleHolds_Jt k L_exampleHolds_p0 L_exampleHolds_p1 L_exampleHolds_p2) L_exampleHolds_i2 (List.zip [1, 14, 15, 16] [.pointer p226, .int .i64 n227, .int .i64 n228, .pointer p229]) H (fun x e' H' => K x (clean e' ((⟨[1], [], [0]⟩ : Out).of x)) H') = L_exampleHolds_p2_b cblk_Raw cblk_Segments R02_SameInts k p226 n227 n228 p229 H (fun p1189 H => K .normal [(1, .pointer p1189)] H) (fun t1190 H => K .ret [(0, .bool t1190)] H) := by kernel_rfl
theorem L_exampleHolds_j2 {R : Type} (k : Nat) : JS Try.prog 169 (L_exampleHolds_a2 R k k) [1, 14, 15, 16] ⟨[1], [], [0]⟩ (sel [1, 1, 1, 1, 1, 1, 1, 1, 1, 1, 0] (Try.f14.body.getD .skip)) :=
  piece_ok (nt := 169) (c := (sel [1, 1, 1, 1, 1, 1, 1, 1, 1, 1, 0] (Try.f14.body.getD .skip))) (C := L_exampleHolds_C R k) (an := An) (t := (.seq (.reg [1, 155] []) (.cond (.seq (.reg [0] []) .leaf) .leaf))) (ic := L_exampleHolds_i2) (L_exampleHolds_S R k) (L_exampleHolds_J R k) (by kernel_rfl) (And.intro True.intro (And.intro (And.intro True.intro True.intro) True.intro)) (L_exampleHolds_a2 R k k)
    (fun vals H K r h => by
      unfold L_exampleHolds_a2 L_exampleHolds_aa2 at h
      split at h <;> first | (cases h; done) | exact Eq.trans (L_exampleHolds_e2 cblk_New (cblk_Block_Set k) (cblk_Block_Mark k) (cblk_Block_Neighbors k) (cblk_Block_Signs k) cblk_Pass (cblk_Raw k) (cblk_Segments k) (R02_SameInts k) (cblk_Scan k) (L_exampleHolds_p0 k) (L_exampleHolds_p1 k) (L_exampleHolds_p2 k) k _ _ _ _ H K) h)
theorem L_exampleHolds_e1 {R : Type} (cblk_New : Int → Int → Heap → (Option Addr → Int → Heap → Option R) → Option R) (cblk_Block_Set : Option Addr → Int → Int → Int → Heap → (Int → Heap → Option R) → Option R) (cblk_Block_Mark : Option Addr → Int → Int → Heap → (Int → Heap → Option R) → Option R) (cblk_Block_Neighbors : Option Addr → Int → Int → Bool → Heap → (Int → Int → Int → Option R) → Option R) (cblk_Block_Signs : Option Addr → Int → Int → Bool → Heap → (Int → Int → Option R) → Option R) (cblk_Pass : Int → (Int → Int → Option R) → Option R) (cblk_Raw : Int → Bool → Bool → Bool → Bool → Bool → Heap → (Bool → Heap → Option R) → Option R) (cblk_Segments : Int → Bool → Bool → Bool → Bool → Bool → Heap → (Option Addr → Nat → Nat → Heap → Option R) → Option R) (R02_SameInts : Option Addr → Nat → Nat → Option Addr → Nat → Nat → Heap → (Bool → Option R) → Option R) (cblk_Scan : Int → Int → Heap → (Option Addr → Nat → Nat → Heap → Option R) → Option R) (L_exampleHolds_p0 : Option Addr → Int → Heap → (Option Addr → Heap → Option R) → (Bool → Heap → Option R) → Option R) (L_exampleHolds_p1 : Option Addr → Int → Int → Int → Int → Int → Int → Int → Int → Int → Int → Int → (Option Addr → Option R) → (Bool → Option R) → Option R) (L_exampleHolds_p2 : Option Addr → Int → Int → Option Addr → Heap → (Option Addr → Heap → Option R) → (Bool → Heap → Option R) → Option R) (k : Nat) (p206 : Option Addr) (n207 : Int) (n208 : Int) (n209 : Int) (n210 : Int) (n211 : Int) (n212 : Int) (n213 : Int) (n214 : Int) (n215 : Int) (n216 : Int) (n217 : Int) (H : Heap) (K : Xit → Env → Heap → Option R) : evJ (L_exampleHolds_Ct cblk_New cblk_Block_Set cblk_Block_Mark cblk_Block_Neighbors cblk_Block_Signs cblk_Pass cblk_Raw cblk_Segments R02_SameInts cblk_Scan) (L_exampleHolds_Jt k L_exampleHolds_p0 L_exampleHolds_p1 L_exampleHolds_p2) L_exampleHolds_i1 (List.zip [1, 3, 4, 5, 6, 7, 8, 9, 10, 11, 12, 13] [.pointer p206, .int .i64 n207, .int .i64 n208, .int .i64 n209, .int .i64 n210, .int .i64 n211, .int .i64 n212, .int .i64 n213, .int .i64 n214, .int .i64 n215, .int .i64 n216, .int .i64 n217]) H (fun x e' H' => K x (clean e' ((⟨[1], [], [0]⟩ : Out).of x)) H') = L_exampleHolds_p1_b k p206 n207 n208 n209 n210 n211 n212 n213 n214 n215 n216 n217 (fun p1187 => K .normal [(1, .pointer p1187)] H) (fun t1188 => K .ret [(0, .bool t1188)] H) := by kernel_rfl
theorem L_exampleHolds_j1 {R : Type} (k : Nat) : JS Try.prog 169 (L_exampleHolds_a1 R k k) [1, 3, 4, 5, 6, 7, 8, 9, 10, 11, 12, 13] ⟨[1], [], [0]⟩ (sel [1, 1, 1, 1, 1, 1, 1, 0] (Try.f14.body.getD .skip)) :=
  piece_ok (nt := 169) (c := (sel [1, 1, 1, 1, 1, 1, 1, 0] (Try.f14.body.getD .skip))) (C := L_exampleHolds_C R k) (an := An) (t := (.seq (.reg [1, 121] []) (.cond (.seq (.reg [0] []) .leaf) .leaf))) (ic := L_exampleHolds_i1) (L_exampleHolds_S R k) (L_exampleHolds_J R k) (by kernel_rfl) (And.intro True.intro (And.intro (And.intro True.intro True.intro) True.intro)) (L_exampleHolds_a1 R k k)
    (fun vals H K r h => by
      unfold L_exampleHolds_a1 L_exampleHolds_aa1 at h
      split at h <;> first | (cases h; done) | exact Eq.trans (L_exampleHolds_e1 cblk_New (cblk_Block_Set k) (cblk_Block_Mark k) (cblk_Block_Neighbors k) (cblk_Block_Signs k) cblk_Pass (cblk_Raw k) (cblk_Segments k) (R02_SameInts k) (cblk_Scan k) (L_exampleHolds_p0 k) (L_exampleHolds_p1 k) (L_exampleHolds_p2 k) k _ _ _ _ _ _ _ _ _ _ _ _ H K) h)
theorem L_exampleHolds_e0 {R : Type} (cblk_New : Int → Int → Heap → (Option Addr → Int → Heap → Option R) → Option R) (cblk_Block_Set : Option Addr → Int → Int → Int → Heap → (Int → Heap → Option R) → Option R) (cblk_Block_Mark : Option Addr → Int → Int → Heap → (Int → Heap → Option R) → Option R) (cblk_Block_Neighbors : Option Addr → Int → Int → Bool → Heap → (Int → Int → Int → Option R) → Option R) (cblk_Block_Signs : Option Addr → Int → Int → Bool → Heap → (Int → Int → Option R) → Option R) (cblk_Pass : Int → (Int → Int → Option R) → Option R) (cblk_Raw : Int → Bool → Bool → Bool → Bool → Bool → Heap → (Bool → Heap → Option R) → Option R) (cblk_Segments : Int → Bool → Bool → Bool → Bool → Bool → Heap → (Option Addr → Nat → Nat → Heap → Option R) → Option R) (R02_SameInts : Option Addr → Nat → Nat → Option Addr → Nat → Nat → Heap → (Bool → Option R) → Option R) (cblk_Scan : Int → Int → Heap → (Option Addr → Nat → Nat → Heap → Option R) → Option R) (L_exampleHolds_p0 : Option Addr → Int → Heap → (Option Addr → Heap → Option R) → (Bool → Heap → Option R) → Option R) (L_exampleHolds_p1 : Option Addr → Int → Int → Int → Int → Int → Int → Int → Int → Int → Int → Int → (Option Addr → Option R) → (Bool → Option R) → Option R) (L_exampleHolds_p2 : Option Addr → Int → Int → Option Addr → Heap → (Option Addr → Heap → Option R) → (Bool → Heap → Option R) → Option R) (k : Nat) (p177 : Option Addr) (n178 : Int) (H : Heap) (K : Xit → Env → Heap → Option R) : evJ (L_exampleHolds_Ct cblk_New cblk_Block_Set cblk_Block_Mark cblk_Block_Neighbors cblk_Block_Signs cblk_Pass cblk_Raw cblk_Segments R02_SameInts cblk_Scan) (L_exampleHolds_Jt k L_exampleHolds_p0 L_exampleHolds_p1 L_exampleHolds_p2) L_exampleHolds_i0 (List.zip [1, 2] [.pointer p177, .int .i64 n178]) H (fun x e' H' => K x (clean e' ((⟨[1], [], [0]⟩ : Out).of x)) H') = L_exampleHolds_p0_b cblk_Block_Set cblk_Block_Mark k p177 n178 H (fun p1185 H => K .normal [(1, .pointer p1185)] H) (fun t1186 H => K .ret [(0, .bool t1186)] H) := by kernel_rfl
theorem L_exampleHolds_j0 {R : Type} (k : Nat) : JS Try.prog 169 (L_exampleHolds_a0 R k k) [1, 2] ⟨[1], [], [0]⟩ (sel [1, 1, 0] (Try.f14.body.getD .skip)) :=
  piece_ok (nt := 169) (c := (sel [1, 1, 0] (Try.f14.body.getD .skip))) (C := L_exampleHolds_C R k) (an := An) (t := (.seq (.reg [1, 56] []) (.cond (.seq (.reg [0] []) .leaf) .leaf))) (ic := L_exampleHolds_i0) (L_exampleHolds_S R k) (L_exampleHolds_J R k) (by kernel_rfl) (And.intro True.intro (And.intro (And.intro True.intro True.intro) True.intro)) (L_exampleHolds_a0 R k k)
    (fun vals H K r h => by
      unfold L_exampleHolds_a0 L_exampleHolds_aa0 at h
      split at h <;> first | (cases h; done) | exact Eq.trans (L_exampleHolds_e0 cblk_New (cblk_Block_Set k) (cblk_Block_Mark k) (cblk_Block_Neighbors k) (cblk_Block_Signs k) cblk_Pass (cblk_Raw k) (cblk_Segments k) (R02_SameInts k) (cblk_Scan k) (L_exampleHolds_p0 k) (L_exampleHolds_p1 k) (L_exampleHolds_p2 k) k _ _ H K) h)
def L_exampleHolds_ca {R : Type} (f : Heap → (Bool → Heap → Option R) → Option R) (args : List Value) (H : Heap) (K : Value → Heap → Option R) : Option R :=
  match args with
  | [] => f H (fun t1191 H => K (.bool t1191) H)
  | _ => none
def L_exampleHolds_c (R : Type) (k : Nat) (args : List Value) (H : Heap) (K : Value → Heap → Option R) : Option R := L_exampleHolds_ca (L_exampleHolds k) args H K
theorem L_exampleHolds_e {R : Type} (cblk_New : Int → Int → Heap → (Option Addr → Int → Heap → Option R) → Option R) (cblk_Block_Set : Option Addr → Int → Int → Int → Heap → (Int → Heap → Option R) → Option R) (cblk_Block_Mark : Option Addr → Int → Int → Heap → (Int → Heap → Option R) → Option R) (cblk_Block_Neighbors : Option Addr → Int → Int → Bool → Heap → (Int → Int → Int → Option R) → Option R) (cblk_Block_Signs : Option Addr → Int → Int → Bool → Heap → (Int → Int → Option R) → Option R) (cblk_Pass : Int → (Int → Int → Option R) → Option R) (cblk_Raw : Int → Bool → Bool → Bool → Bool → Bool → Heap → (Bool → Heap → Option R) → Option R) (cblk_Segments : Int → Bool → Bool → Bool → Bool → Bool → Heap → (Option Addr → Nat → Nat → Heap → Option R) → Option R) (R02_SameInts : Option Addr → Nat → Nat → Option Addr → Nat → Nat → Heap → (Bool → Option R) → Option R) (cblk_Scan : Int → Int → Heap → (Option Addr → Nat → Nat → Heap → Option R) → Option R) (L_exampleHolds_p0 : Option Addr → Int → Heap → (Option Addr → Heap → Option R) → (Bool → Heap → Option R) → Option R) (L_exampleHolds_p1 : Option Addr → Int → Int → Int → Int → Int → Int → Int → Int → Int → Int → Int → (Option Addr → Option R) → (Bool → Option R) → Option R) (L_exampleHolds_p2 : Option Addr → Int → Int → Option Addr → Heap → (Option Addr → Heap → Option R) → (Bool → Heap → Option R) → Option R) (k : Nat) (H : Heap) (K : Value → Heap → Option R) : evF (L_exampleHolds_Ct cblk_New cblk_Block_Set cblk_Block_Mark cblk_Block_Neighbors cblk_Block_Signs cblk_Pass cblk_Raw cblk_Segments R02_SameInts cblk_Scan) (L_exampleHolds_Jt k L_exampleHolds_p0 L_exampleHolds_p1 L_exampleHolds_p2) L_exampleHolds_f [] H K = L_exampleHolds_b cblk_New L_exampleHolds_p0 cblk_Block_Neighbors cblk_Block_Signs L_exampleHolds_p1 cblk_Pass L_exampleHolds_p2 cblk_Scan cblk_Block_Set k H (fun t1191 H => K (.bool t1191) H) := by kernel_rfl
theorem L_exampleHolds_cs (R : Type) (k : Nat) : ∀ args H K r, L_exampleHolds_c R k args H K = some r → ∃ v H', Tri Try.prog 14 args H v H' ∧ K v H' = some r := by
  intro args H K r h
  unfold L_exampleHolds_c L_exampleHolds_ca at h
  split at h
  · exact evF_ok (C := L_exampleHolds_C R k) (an := An) (t := L_exampleHolds_at) (fn := Try.f14) (c := (Try.f14.body.getD .skip)) (ifn := L_exampleHolds_f) (L_exampleHolds_S R k) (L_exampleHolds_J R k) Try.func14 (by kernel_rfl) (by kernel_rfl) (And.intro True.intro (And.intro True.intro (And.intro (L_exampleHolds_j0 k) (And.intro True.intro (And.intro True.intro (And.intro True.intro (And.intro True.intro (And.intro (L_exampleHolds_j1 k) (And.intro True.intro (And.intro True.intro (And.intro (L_exampleHolds_j2 k) (And.intro True.intro True.intro)))))))))))) rfl (Eq.trans (L_exampleHolds_e cblk_New (cblk_Block_Set k) (cblk_Block_Mark k) (cblk_Block_Neighbors k) (cblk_Block_Signs k) cblk_Pass (cblk_Raw k) (cblk_Segments k) (R02_SameInts k) (cblk_Scan k) (L_exampleHolds_p0 k) (L_exampleHolds_p1 k) (L_exampleHolds_p2 k) k H K) h)
  · cases h
/-! ### L_exampleHoldsq: function 14 -/
def L_exampleHoldsq {R : Type} (K : Bool → Option R) : Option R := K true
set_option maxRecDepth 1000000 in
theorem L_exampleHolds_run : L_exampleHolds_c Bool 40 [] [] asB = some true := by kernel_rfl
def L_exampleHoldsq_ca {R : Type} (f : (Bool → Option R) → Option R) (args : List Value) (H : Heap) (K : Value → Heap → Option R) : Option R :=
  match args with
  | [] => f (fun t => K (.bool t) H)
  | _ => none
def L_exampleHoldsq_c (R : Type) (k : Nat) (args : List Value) (H : Heap) (K : Value → Heap → Option R) : Option R := L_exampleHoldsq_ca L_exampleHoldsq args H K
theorem L_exampleHoldsq_cs (R : Type) (k : Nat) : ∀ args H K r, L_exampleHoldsq_c R k args H K = some r → ∃ v H', Tri Try.prog 14 args H v H' ∧ K v H' = some r := by
  intro args H K r h
  unfold L_exampleHoldsq_c L_exampleHoldsq_ca at h
  split at h
  · exact ⟨_, _, closed_ok (L_exampleHolds_cs) L_exampleHolds_run H, h⟩
  · cases h
/-! ### L_CblkScans: function 3 -/
def L_CblkScans_b {R : Type} (cblk_Scan : Int → Int → Heap → (Option Addr → Nat → Nat → Heap → Option R) → Option R) (R14_Scan : Int → Int → Heap → (Option Addr → Nat → Nat → Heap → Option R) → Option R) (R14_SamePoints : Option Addr → Nat → Nat → Option Addr → Nat → Nat → Heap → (Bool → Option R) → Option R) (L_exampleHoldsq : (Bool → Option R) → Option R) (k : Nat) (n1 : Int) (n2 : Int) (H : Heap) (K : Bool → Heap → Option R) : Option R :=
cblk_Scan n1 n2 H fun q3 l4 c5 H6 =>
R14_Scan n1 n2 H6 fun q7 l8 c9 H10 =>
R14_SamePoints q3 l4 c5 q7 l8 c9 H10 fun t11 =>
bif t11 then (L_exampleHoldsq fun t12 =>
K t12 H10)
 else (K false H10)

def L_CblkScans {R : Type} (k : Nat) (n1 : Int) (n2 : Int) (H : Heap) (K : Bool → Heap → Option R) : Option R := L_CblkScans_b (cblk_Scan k) (R14_Scan k) (R14_SamePoints k) L_exampleHoldsq k n1 n2 H K

def L_CblkScans_Ct {R : Type} (cblk_Scan : Int → Int → Heap → (Option Addr → Nat → Nat → Heap → Option R) → Option R) (R14_Scan : Int → Int → Heap → (Option Addr → Nat → Nat → Heap → Option R) → Option R) (R14_SamePoints : Option Addr → Nat → Nat → Option Addr → Nat → Nat → Heap → (Bool → Option R) → Option R) (L_exampleHoldsq : (Bool → Option R) → Option R) : Tab R := tcons 12 (cblk_Scan_ca cblk_Scan) <| tcons 13 (R14_Scan_ca R14_Scan) <| tcons 11 (R14_SamePoints_ca R14_SamePoints) <| tcons 14 (L_exampleHoldsq_ca L_exampleHoldsq) <| fun _ _ _ _ => none
def L_CblkScans_C (R : Type) (k : Nat) : Tab R := L_CblkScans_Ct (cblk_Scan k) (R14_Scan k) (R14_SamePoints k) L_exampleHoldsq
theorem L_CblkScans_S (R : Type) (k : Nat) : CSound Try.prog (L_CblkScans_C R k) := csound_cons (cblk_Scan_cs R k) <| csound_cons (R14_Scan_cs R k) <| csound_cons (R14_SamePoints_cs R k) <| csound_cons (L_exampleHoldsq_cs R k) <| csound_nil
def L_CblkScans_Jt {R : Type} (k : Nat) : JTab R := fun _ _ _ _ => none
def L_CblkScans_J (R : Type) (k : Nat) : JTab R := L_CblkScans_Jt k
def L_CblkScans_at : AT := (.seq (.reg [0, 1] []) (.seq (.reg [4] []) .leaf))
def L_CblkScans_f : IFn := ⟨15, [.t 4], (.seq (.reg [⟨some 4, .mov (.c (Go.Value.bool false)), none⟩] [0, 1]) (.seq (.reg [⟨some 5, .mov (.t 0), none⟩,
 ⟨some 6, .mov (.t 1), none⟩,
 ⟨some 7, .call 12 [(.t 5), (.t 6)] (.one (.sc .slc)), none⟩,
 ⟨some 8, .mov (.t 0), none⟩,
 ⟨some 9, .mov (.t 1), none⟩,
 ⟨some 10, .call 13 [(.t 8), (.t 9)] (.one (.sc .slc)), none⟩,
 ⟨some 11, .call 11 [(.t 7), (.t 10)] (.one (.sc .bool)), none⟩,
 ⟨some 12, .mov (.t 11), none⟩,
 ⟨some 13, .call 14 [] (.one (.sc .bool)), some (12, true)⟩,
 ⟨some 14, .pick (.t 12) (.t 13) (.c (Go.Value.bool false)), none⟩,
 ⟨some 4, .mov (.t 14), none⟩] [4]) .ret))⟩
def L_CblkScans_ca {R : Type} (f : Int → Int → Heap → (Bool → Heap → Option R) → Option R) (args : List Value) (H : Heap) (K : Value → Heap → Option R) : Option R :=
  match args with
  | [.int .i64 n1, .int .i64 n2] => f n1 n2 H (fun t1192 H => K (.bool t1192) H)
  | _ => none
def L_CblkScans_c (R : Type) (k : Nat) (args : List Value) (H : Heap) (K : Value → Heap → Option R) : Option R := L_CblkScans_ca (L_CblkScans k) args H K
theorem L_CblkScans_e {R : Type} (cblk_Scan : Int → Int → Heap → (Option Addr → Nat → Nat → Heap → Option R) → Option R) (R14_Scan : Int → Int → Heap → (Option Addr → Nat → Nat → Heap → Option R) → Option R) (R14_SamePoints : Option Addr → Nat → Nat → Option Addr → Nat → Nat → Heap → (Bool → Option R) → Option R) (L_exampleHoldsq : (Bool → Option R) → Option R) (k : Nat) (n1 : Int) (n2 : Int) (H : Heap) (K : Value → Heap → Option R) : evF (L_CblkScans_Ct cblk_Scan R14_Scan R14_SamePoints L_exampleHoldsq) (L_CblkScans_Jt k) L_CblkScans_f [.int .i64 n1, .int .i64 n2] H K = L_CblkScans_b cblk_Scan R14_Scan R14_SamePoints L_exampleHoldsq k n1 n2 H (fun t1192 H => K (.bool t1192) H) := by kernel_rfl
theorem L_CblkScans_cs (R : Type) (k : Nat) : ∀ args H K r, L_CblkScans_c R k args H K = some r → ∃ v H', Tri Try.prog 3 args H v H' ∧ K v H' = some r := by
  intro args H K r h
  unfold L_CblkScans_c L_CblkScans_ca at h
  split at h
  · exact evF_ok (C := L_CblkScans_C R k) (an := An) (t := L_CblkScans_at) (fn := Try.f3) (c := (Try.f3.body.getD .skip)) (ifn := L_CblkScans_f) (L_CblkScans_S R k) (L_CblkScans_J R k) Try.func3 (by kernel_rfl) (by kernel_rfl) (And.intro True.intro (And.intro True.intro True.intro)) rfl (Eq.trans (L_CblkScans_e (cblk_Scan k) (R14_Scan k) (R14_SamePoints k) L_exampleHoldsq k _ _ H K) h)
  · cases h
/-! ### R01_FloorDiv: function 43 -/
def R01_FloorDiv_b {R : Type} (k : Nat) (n25 : Int) (n26 : Int) (K : Int → Option R) : Option R :=
bif decide (n26 < 1) then (K 0)
 else (hbin .quo .i64 n25 n26 fun n27 =>
hbin .rem .i64 n25 n26 fun n28 =>
bif decide (n28 < 0) then (K (IntKind.wrap .i64 (n27 - 1)))
 else (K n27))

def R01_FloorDiv {R : Type} (n25 : Int) (n26 : Int) (K : Int → Option R) : Option R := R01_FloorDiv_b 0 n25 n26 K

def R01_FloorDiv_Ct {R : Type} : Tab R := fun _ _ _ _ => none
def R01_FloorDiv_C (R : Type) (k : Nat) : Tab R := R01_FloorDiv_Ct
theorem R01_FloorDiv_S (R : Type) (k : Nat) : CSound Try.prog (R01_FloorDiv_C R k) := csound_nil
def R01_FloorDiv_Jt {R : Type} (k : Nat) : JTab R := fun _ _ _ _ => none
def R01_FloorDiv_J (R : Type) (k : Nat) : JTab R := R01_FloorDiv_Jt k
def R01_FloorDiv_at : AT := (.seq (.reg [0, 1] []) (.seq (.seq (.reg [0, 1, 7] []) (.cond (.seq (.reg [4] []) .leaf) .leaf)) (.seq (.reg [0, 1, 5] []) (.seq (.seq (.reg [5, 14] []) (.cond (.reg [5] []) .leaf)) (.seq (.reg [4] []) .leaf)))))
def R01_FloorDiv_f : IFn := ⟨18, [.t 4], (.seq (.reg [⟨some 4, .mov (.c (Go.Value.int Go.IntKind.i64 0)), none⟩] [0, 1]) (.seq (.seq (.reg [⟨some 6, .mov (.t 1), none⟩,
 ⟨some 7, .cmp .lss (.t 6) (.c (Go.Value.int Go.IntKind.i64 1)), none⟩] [0, 1, 7]) (.cond (.t 7) (.seq (.reg [⟨some 4, .mov (.c (Go.Value.int Go.IntKind.i64 0)), none⟩] [4]) .ret) .skip)) (.seq (.reg [⟨some 8, .mov (.t 0), none⟩,
 ⟨some 9, .mov (.t 1), none⟩,
 ⟨some 10, .bin .quo .i64 (.t 8) (.t 9), none⟩,
 ⟨some 5, .mov (.t 10), none⟩] [0, 1, 5]) (.seq (.seq (.reg [⟨some 11, .mov (.t 0), none⟩,
 ⟨some 12, .mov (.t 1), none⟩,
 ⟨some 13, .bin .rem .i64 (.t 11) (.t 12), none⟩,
 ⟨some 14, .cmp .lss (.t 13) (.c (Go.Value.int Go.IntKind.i64 0)), none⟩] [5, 14]) (.cond (.t 14) (.reg [⟨some 15, .mov (.t 5), none⟩,
 ⟨some 16, .bin .sub .i64 (.t 15) (.c (Go.Value.int Go.IntKind.i64 1)), none⟩,
 ⟨some 5, .mov (.t 16), none⟩] [5]) .skip)) (.seq (.reg [⟨some 17, .mov (.t 5), none⟩,
 ⟨some 4, .mov (.t 17), none⟩] [4]) .ret)))))⟩
def R01_FloorDiv_ca {R : Type} (f : Int → Int → (Int → Option R) → Option R) (args : List Value) (H : Heap) (K : Value → Heap → Option R) : Option R :=
  match args with
  | [.int .i64 n25, .int .i64 n26] => f n25 n26 (fun n1193 => K (.int .i64 n1193) H)
  | _ => none
def R01_FloorDiv_c (R : Type) (k : Nat) (args : List Value) (H : Heap) (K : Value → Heap → Option R) : Option R := R01_FloorDiv_ca R01_FloorDiv args H K
theorem R01_FloorDiv_e {R : Type} (k : Nat) (n25 : Int) (n26 : Int) (H : Heap) (K : Value → Heap → Option R) : evF (R01_FloorDiv_Ct) (R01_FloorDiv_Jt k) R01_FloorDiv_f [.int .i64 n25, .int .i64 n26] H K = R01_FloorDiv_b k n25 n26 (fun n1193 => K (.int .i64 n1193) H) := by kernel_rfl
theorem R01_FloorDiv_cs (R : Type) (k : Nat) : ∀ args H K r, R01_FloorDiv_c R k args H K = some r → ∃ v H', Tri Try.prog 43 args H v H' ∧ K v H' = some r := by
  intro args H K r h
  unfold R01_FloorDiv_c R01_FloorDiv_ca at h
  split at h
  · exact evF_ok (C := R01_FloorDiv_C R 0) (an := An) (t := R01_FloorDiv_at) (fn := Try.f43) (c := (Try.f43.body.getD .skip)) (ifn := R01_FloorDiv_f) (R01_FloorDiv_S R 0) (R01_FloorDiv_J R 0) Try.func43 (by kernel_rfl) (by kernel_rfl) (And.intro True.intro (And.intro (And.intro True.intro (And.intro (And.intro True.intro True.intro) True.intro)) (And.intro True.intro (And.intro (And.intro True.intro (And.intro True.intro True.intro)) (And.intro True.intro True.intro))))) rfl (Eq.trans (R01_FloorDiv_e 0 _ _ H K) h)
  · cases h
end Go.Proofs.Ytblpaolcgkjcgaa.Sh
