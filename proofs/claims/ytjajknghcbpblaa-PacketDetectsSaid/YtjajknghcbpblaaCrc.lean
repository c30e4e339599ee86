/- The CRC-16: the code's way and the reference's way are one; it is injective in each byte. Plain numbers; no program in sight. -/
import Derived.Test.YtjajknghcbpblaaQx5
namespace Go.Proofs.Ytjajknghcbpblaa.Arith
open Go.RowKit Go.Proofs.Ytjajknghcbpblaa.Q Go.Proofs.YtjajknghcbpblaaW.PrintWords Go.Proofs.YtjajknghcbpblaaW.PrintLast Go.Proofs.YtjajknghcbpblaaW.PrintMore

theorem wid {x : Int} (h0 : -9223372036854775808 ≤ x) (h1 : x ≤ 9223372036854775807) : wrap64 x = x := by
  unfold wrap64
  omega
theorem i64_bounds {a : Int} (h : (Lit.int .i64 a).wf = true) : -9223372036854775808 ≤ a ∧ a ≤ 9223372036854775807 := by
  simp only [Lit.wf, IntKind.min, IntKind.max, IntKind.signed, IntKind.bits, Bool.and_eq_true, decide_eq_true_eq, if_true] at h
  omega
theorem u8_bounds {a : Int} (h : (Lit.int .u8 a).wf = true) : 0 ≤ a ∧ a ≤ 255 := by
  simp only [Lit.wf, IntKind.min, IntKind.max, IntKind.signed, IntKind.bits, Bool.and_eq_true] at h
  simpa using h
/-- All are bytes. -/
def By (l : List Int) : Prop := ∀ x ∈ l, 0 ≤ x ∧ x ≤ 255
theorem By.of {l : List Int} (h : ∀ x ∈ l, (Lit.int .u8 x).wf = true) : By l := fun x hx => u8_bounds (h x hx)
theorem By.at {l : List Int} (h : By l) (i : Nat) : 0 ≤ l.getD i 0 ∧ l.getD i 0 ≤ 255 := by
  rw [List.getD_eq_getElem?_getD]
  cases e : l[i]? with
  | none => exact ⟨by decide, by decide⟩
  | some x => exact h x (List.mem_of_getElem? e)
theorem By.take {l : List Int} (h : By l) (n : Nat) : By (l.take n) := fun x hx => h x (List.mem_of_mem_take hx)
theorem By.drop {l : List Int} (h : By l) (n : Nat) : By (l.drop n) := fun x hx => h x (List.mem_of_mem_drop hx)
theorem By.app {l m : List Int} (h : By l) (k : By m) : By (l ++ m) := fun x hx => (List.mem_append.1 hx).elim (h x) (k x)

theorem bxor (a b : Nat) (ha : a < 2 ^ 62) (hb : b < 2 ^ 62) : Go.bits .xor .i64 (a : Int) (b : Int) = ((a ^^^ b : Nat) : Int) := by
  have hp : (2 : Nat) ^ 62 ≤ 2 ^ IntKind.i64.bits := Nat.pow_le_pow_right (by decide) (by decide)
  have ha' : a % 2 ^ IntKind.i64.bits = a := Nat.mod_eq_of_lt (Nat.lt_of_lt_of_le ha hp)
  have hb' : b % 2 ^ IntKind.i64.bits = b := Nat.mod_eq_of_lt (Nat.lt_of_lt_of_le hb hp)
  have hx : a ^^^ b < 2 ^ 62 := Nat.xor_lt_two_pow ha hb
  simp only [Go.bits, BitVec.ofInt_natCast, BitVec.toNat_xor, BitVec.toNat_ofNat, ha', hb']
  rw [IntKind.wrap_i64]
  omega
theorem band (a b : Nat) (ha : a < 2 ^ 62) (hb : b < 2 ^ 62) : Go.bits .and .i64 (a : Int) (b : Int) = ((a &&& b : Nat) : Int) :=
  (bits_nat .i64 62 (by decide) (fun n h0 h1 => by rw [IntKind.wrap_i64]; omega) a b ha hb).1

/-- One step of the register, without a bit of data. -/
def cst (n : Nat) : Nat := (n * 2 % 65536) ^^^ (if 32768 ≤ n then 4129 else 0)
theorem cst_lt (n : Nat) : cst n < 65536 := by
  unfold cst
  refine Nat.xor_lt_two_pow (n := 16) (by omega) ?_
  split <;> decide
def cit : Nat → Nat → Nat
  | 0, n => n
  | i + 1, n => cit i (cst n)
theorem cit_lt (i n : Nat) (h : n < 65536) : cit i n < 65536 := by
  induction i generalizing n with
  | zero => exact h
  | succ i ih => exact ih _ (cst_lt n)
def cb (n : Nat) (x : Int) : Nat := cit 8 (n ^^^ (x.toNat * 256))
def crcL : Nat → List Int → Nat
  | n, [] => n
  | n, x :: t => crcL (cb n x) t
theorem cb_in {n : Nat} {x : Int} (hn : n < 65536) (h1 : x ≤ 255) : n ^^^ (x.toNat * 256) < 65536 := Nat.xor_lt_two_pow (n := 16) hn (by omega)
theorem cb_lt {n : Nat} {x : Int} (hn : n < 65536) (h1 : x ≤ 255) : cb n x < 65536 := cit_lt _ _ (cb_in hn h1)
theorem crcL_lt {l : List Int} (n : Nat) (hn : n < 65536) (h : By l) : crcL n l < 65536 := by
  induction l generalizing n with
  | nil => exact hn
  | cons x t ih => exact ih _ (cb_lt hn (h x (by simp)).2) (fun y hy => h y (by simp [hy]))
theorem crcL_app (n : Nat) (l m : List Int) : crcL n (l ++ m) = crcL (crcL n l) m := by
  induction l generalizing n with
  | nil => rfl
  | cons x t ih => exact ih _

/-- the code's step: shift, and xor with 0x11021 where bit 16 is set. -/
theorem step_code (n : Nat) (h : n < 65536) : (if 32768 ≤ n then (n * 2) ^^^ 69665 else n * 2) = cst n := by
  unfold cst
  by_cases a : 32768 ≤ n
  · rw [if_pos a, if_pos a]
    have e1 : (n * 2 ^^^ 69665) / 2 ^ 16 = (n * 2) / 2 ^ 16 ^^^ 69665 / 2 ^ 16 := Nat.xor_div_two_pow
    have e2 : (n * 2 ^^^ 69665) % 2 ^ 16 = (n * 2) % 2 ^ 16 ^^^ 69665 % 2 ^ 16 := Nat.xor_mod_two_pow
    rw [show n * 2 / 2 ^ 16 = 1 by omega] at e1
    have e3 := Nat.div_add_mod (n * 2 ^^^ 69665) (2 ^ 16)
    rw [e1, e2] at e3
    rw [← e3]
    simp
  · rw [if_neg a, if_neg a, Nat.xor_zero]
    omega
theorem and_bit (n : Nat) (h : n < 131072) : n &&& 65536 = if 65536 ≤ n then 65536 else 0 := by
  have e1 : (n &&& 65536) / 2 ^ 16 = n / 2 ^ 16 &&& 65536 / 2 ^ 16 := Nat.and_div_two_pow
  have e2 : (n &&& 65536) % 2 ^ 16 = n % 2 ^ 16 &&& 65536 % 2 ^ 16 := Nat.and_mod_two_pow
  rw [show 65536 % 2 ^ 16 = 0 by decide, Nat.and_zero] at e2
  have e3 := Nat.div_add_mod (n &&& 65536) (2 ^ 16)
  rw [e1, e2] at e3
  rw [← e3]
  by_cases a : 65536 ≤ n
  · rw [if_pos a, show n / 2 ^ 16 = 1 by omega]
    decide
  · rw [if_neg a, show n / 2 ^ 16 = 0 by omega]
    decide
theorem top_xor (a b : Nat) (ha : a < 65536) (hb : b < 65536) : 32768 ≤ a ^^^ b ↔ (a / 32768 ^^^ b / 32768) = 1 := by
  have e1 : (a ^^^ b) / 2 ^ 15 = a / 2 ^ 15 ^^^ b / 2 ^ 15 := Nat.xor_div_two_pow
  have hx : a ^^^ b < 2 ^ 16 := Nat.xor_lt_two_pow ha hb
  rw [show (32768 : Nat) = 2 ^ 15 from rfl, ← e1]
  omega
theorem dbl_xor (a b : Nat) : (a ^^^ b) * 2 % 65536 = (a * 2 % 65536) ^^^ (b * 2 % 65536) := by
  have e : (a ^^^ b) * 2 = (a * 2) ^^^ (b * 2) := by
    have := Nat.shiftLeft_xor_distrib (a := a) (b := b) (i := 1)
    simpa [Nat.shiftLeft_eq] using this
  rw [e]
  exact Nat.xor_mod_two_pow (n := 16)
/-- the reference's step, with data aligned at the top -/
theorem step_ref (r y : Nat) (hr : r < 65536) (hy : y < 65536) : cst (r ^^^ y) = (if (r / 32768 ^^^ y / 32768) = 1 then (r * 2 % 65536) ^^^ 4129 else r * 2 % 65536) ^^^ (y * 2 % 65536) := by
  unfold cst
  rw [dbl_xor]
  by_cases c : (r / 32768 ^^^ y / 32768) = 1
  · rw [if_pos c, if_pos ((top_xor r y hr hy).2 c)]
    rw [Nat.xor_assoc, Nat.xor_assoc, Nat.xor_comm (y * 2 % 65536)]
  · rw [if_neg c, if_neg (fun h => c ((top_xor r y hr hy).1 h)), Nat.xor_zero]
/-- it is linear -/
theorem cst_xor (a b : Nat) (ha : a < 65536) (hb : b < 65536) : cst (a ^^^ b) = cst a ^^^ cst b := by
  rw [step_ref a b ha hb]
  unfold cst
  have h1 : a / 32768 = if 32768 ≤ a then 1 else 0 := by split <;> omega
  have h2 : b / 32768 = if 32768 ≤ b then 1 else 0 := by split <;> omega
  rw [h1, h2]
  by_cases x : 32768 ≤ a <;> by_cases y : 32768 ≤ b <;> simp only [x, y, if_true, if_false]
  · simp only [Nat.xor_self, Nat.zero_ne_one, if_false]
    rw [Nat.xor_assoc, Nat.xor_comm (b * 2 % 65536) 4129, ← Nat.xor_assoc 4129, Nat.xor_self, Nat.zero_xor]
  · simp
  · simp only [Nat.zero_xor, if_true, Nat.xor_zero]
    rw [Nat.xor_assoc, Nat.xor_comm 4129]
  · simp
theorem cst_ne {a : Nat} (ha : a < 65536) (h : a ≠ 0) : cst a ≠ 0 := by
  unfold cst
  by_cases x : 32768 ≤ a
  · rw [if_pos x]
    intro e
    have e1 : (a * 2 % 65536 ^^^ 4129) % 2 ^ 1 = (a * 2 % 65536) % 2 ^ 1 ^^^ 4129 % 2 ^ 1 := Nat.xor_mod_two_pow
    rw [e, show (a * 2 % 65536) % 2 ^ 1 = 0 by omega] at e1
    exact absurd e1 (by decide)
  · rw [if_neg x, Nat.xor_zero]
    omega
theorem xor_eq_zero {a b : Nat} (h : a ^^^ b = 0) : a = b := by
  have e : a ^^^ b ^^^ b = a := by rw [Nat.xor_assoc, Nat.xor_self, Nat.xor_zero]
  rw [h, Nat.zero_xor] at e
  exact e.symm
theorem cst_inj {a b : Nat} (ha : a < 65536) (hb : b < 65536) (h : cst a = cst b) : a = b := by
  apply Decidable.byContradiction
  intro n
  have hx : a ^^^ b < 65536 := Nat.xor_lt_two_pow (n := 16) ha hb
  refine cst_ne hx (fun e => n (xor_eq_zero e)) ?_
  rw [cst_xor a b ha hb, h, Nat.xor_self]
theorem cit_inj (i : Nat) {a b : Nat} (ha : a < 65536) (hb : b < 65536) (h : cit i a = cit i b) : a = b := by
  induction i generalizing a b with
  | zero => exact h
  | succ i ih => exact cst_inj ha hb (ih (cst_lt a) (cst_lt b) h)
theorem xor_left_cancel {a b c : Nat} (h : a ^^^ b = a ^^^ c) : b = c := by
  have := congrArg (fun z => a ^^^ z) h
  simpa [← Nat.xor_assoc] using this
theorem xor_right_cancel {a b c : Nat} (h : b ^^^ a = c ^^^ a) : b = c := by
  rw [Nat.xor_comm b, Nat.xor_comm c] at h
  exact xor_left_cancel h
theorem cb_inj_data {n : Nat} {x y : Int} (hn : n < 65536) (hx : 0 ≤ x ∧ x ≤ 255) (hy : 0 ≤ y ∧ y ≤ 255) (h : cb n x = cb n y) : x = y := by
  have := xor_left_cancel (cit_inj 8 (cb_in hn hx.2) (cb_in hn hy.2) h)
  omega
theorem cb_inj_reg {n m : Nat} {x : Int} (hn : n < 65536) (hm : m < 65536) (hx : x ≤ 255) (h : cb n x = cb m x) : n = m :=
  xor_right_cancel (cit_inj 8 (cb_in hn hx) (cb_in hm hx) h)
theorem crcL_inj {l : List Int} (n m : Nat) (hn : n < 65536) (hm : m < 65536) (hl : By l) (h : crcL n l = crcL m l) : n = m := by
  induction l generalizing n m with
  | nil => exact h
  | cons x t ih =>
    have hx := (hl x (by simp)).2
    exact cb_inj_reg hn hm hx (ih _ _ (cb_lt hn hx) (cb_lt hm hx) (fun y hy => hl y (by simp [hy])) h)
/-- one byte that is another one changes the checksum -/
theorem crcL_set {l : List Int} (n : Nat) (hn : n < 65536) (hl : By l) (i : Nat) (hi : i < l.length) (y : Int) (hy : 0 ≤ y ∧ y ≤ 255) (hne : l.getD i 0 ≠ y) : crcL n (l.set i y) ≠ crcL n l := by
  induction l generalizing n i with
  | nil => exact absurd hi (by simp)
  | cons x t ih =>
    have hx := hl x (by simp)
    have ht : By t := fun z hz => hl z (by simp [hz])
    cases i with
    | zero =>
      intro e
      exact hne (cb_inj_data hn hx hy (crcL_inj _ _ (cb_lt hn hy.2) (cb_lt hn hx.2) ht e).symm)
    | succ i => exact ih _ (cb_lt hn hx.2) ht i (by simpa using hi) (by simpa using hne)
end Go.Proofs.Ytjajknghcbpblaa.Arith
