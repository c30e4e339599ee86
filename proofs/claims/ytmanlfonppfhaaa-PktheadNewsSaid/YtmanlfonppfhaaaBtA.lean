/- Bitio: numbers, bits and bytes. -/
import Derived.Test.YtmanlfonppfhaaaSh0
import Derived.Test.YtmanlfonppfhaaaFwY
import Derived.Test.YtmanlfonppfhaaaFwO
import Derived.IntWalk
set_option linter.unusedVariables false
set_option linter.unusedSimpArgs false
namespace Go.Proofs.Ytmanlfonppfhaaa.Sh
open Go.Proofs.Ytmanlfonppfhaaa.FW Go.IntWalk
def byt (l : List Int) : List Value := l.map (.int .u8)
def b64 (l : List Int) : List Value := l.map (.int .i64)
theorem byt_len (l : List Int) : (byt l).length = l.length := by simp [byt]
theorem b64_len (l : List Int) : (b64 l).length = l.length := by simp [b64]
theorem byt_app (a b : List Int) : byt (a ++ b) = byt a ++ byt b := by simp [byt]
theorem b64_app (a b : List Int) : b64 (a ++ b) = b64 a ++ b64 b := by simp [b64]
theorem byt_one (l : List Int) : (byt l).all oneC = true := by simp [byt, oneC]
theorem b64_one (l : List Int) : (b64 l).all oneC = true := by simp [b64, oneC]
theorem w64 {n : Int} (h : -9223372036854775808 ≤ n) (h2 : n ≤ 9223372036854775807) : IntKind.i64.wrap n = n := i64_in n ⟨h, h2⟩
theorem wu64 {n : Int} (h : 0 ≤ n) (h2 : n ≤ 18446744073709551615) : IntKind.u64.wrap n = n := u64_in n ⟨h, h2⟩
theorem or8 {R : Type} {a b : Nat} (ha : a < 256) (hb : b < 256) (K : Int → Option R) : hbin .or .u8 (a : Int) (b : Int) K = K ((a ||| b : Nat) : Int) := by
  have e : (BitVec.ofInt 8 (a : Int) ||| BitVec.ofInt 8 (b : Int)).toNat = a ||| b := by
    rw [BitVec.ofInt_natCast, BitVec.ofInt_natCast, BitVec.toNat_or, BitVec.toNat_ofNat, BitVec.toNat_ofNat, Nat.mod_eq_of_lt (by omega), Nat.mod_eq_of_lt (by omega)]
  have l : a ||| b < 2 ^ 8 := Nat.or_lt_two_pow ha hb
  show K (IntKind.u8.wrap ((BitVec.ofInt 8 (a : Int) ||| BitVec.ofInt 8 (b : Int)).toNat : Int)) = _
  rw [e, u8_in _ ⟨by omega, by omega⟩]
theorem or64 {R : Type} {a b : Nat} (ha : a < 2 ^ 62) (hb : b < 2 ^ 62) (K : Int → Option R) : hbin .or .i64 (a : Int) (b : Int) K = K ((a ||| b : Nat) : Int) := by
  have e : (BitVec.ofInt 64 (a : Int) ||| BitVec.ofInt 64 (b : Int)).toNat = a ||| b := by
    rw [BitVec.ofInt_natCast, BitVec.ofInt_natCast, BitVec.toNat_or, BitVec.toNat_ofNat, BitVec.toNat_ofNat, Nat.mod_eq_of_lt (by omega), Nat.mod_eq_of_lt (by omega)]
  have l : a ||| b < 2 ^ 62 := Nat.or_lt_two_pow ha hb
  show K (IntKind.i64.wrap ((BitVec.ofInt 64 (a : Int) ||| BitVec.ofInt 64 (b : Int)).toNat : Int)) = _
  rw [e, i64_in _ ⟨by omega, by omega⟩]
theorem and64 {R : Type} {a b : Nat} (ha : a < 2 ^ 62) (hb : b < 2 ^ 62) (K : Int → Option R) : hbin .and .i64 (a : Int) (b : Int) K = K ((a &&& b : Nat) : Int) := by
  have e : (BitVec.ofInt 64 (a : Int) &&& BitVec.ofInt 64 (b : Int)).toNat = a &&& b := by
    rw [BitVec.ofInt_natCast, BitVec.ofInt_natCast, BitVec.toNat_and, BitVec.toNat_ofNat, BitVec.toNat_ofNat, Nat.mod_eq_of_lt (by omega), Nat.mod_eq_of_lt (by omega)]
  have l : a &&& b ≤ a := Nat.and_le_left
  show K (IntKind.i64.wrap ((BitVec.ofInt 64 (a : Int) &&& BitVec.ofInt 64 (b : Int)).toNat : Int)) = _
  rw [e, i64_in _ ⟨by omega, by omega⟩]
theorem and8 {R : Type} {a b : Nat} (ha : a < 256) (hb : b < 256) (K : Int → Option R) : hbin .and .u8 (a : Int) (b : Int) K = K ((a &&& b : Nat) : Int) := by
  have e : (BitVec.ofInt 8 (a : Int) &&& BitVec.ofInt 8 (b : Int)).toNat = a &&& b := by
    rw [BitVec.ofInt_natCast, BitVec.ofInt_natCast, BitVec.toNat_and, BitVec.toNat_ofNat, BitVec.toNat_ofNat, Nat.mod_eq_of_lt (by omega), Nat.mod_eq_of_lt (by omega)]
  have l : a &&& b ≤ a := Nat.and_le_left
  show K (IntKind.u8.wrap ((BitVec.ofInt 8 (a : Int) &&& BitVec.ofInt 8 (b : Int)).toNat : Int)) = _
  rw [e, u8_in _ ⟨by omega, by omega⟩]
theorem fdn (a n : Nat) : (a : Int).fdiv (2 ^ n) = ((a / 2 ^ n : Nat) : Int) := by
  rw [Int.fdiv_eq_ediv_of_nonneg _ (Int.pow_nonneg (by omega)), Int.natCast_ediv, Int.natCast_pow]; rfl
theorem shr64 {R : Type} {a n : Nat} (hn : n ≤ 64) (K : Int → Option R) : hbin .shr .i64 (a : Int) (IntKind.wrap .u64 (n : Int)) K = K ((a / 2 ^ n : Nat) : Int) := by
  rw [wu64 (by omega) (by omega)]
  simp only [hbin]
  rw [if_neg (by omega), Int.toNat_natCast, Nat.min_eq_left (show n ≤ IntKind.i64.bits from hn), fdn]
theorem shr8 {R : Type} {a n : Nat} (hn : n ≤ 8) (K : Int → Option R) : hbin .shr .u8 (a : Int) (IntKind.wrap .u64 (n : Int)) K = K ((a / 2 ^ n : Nat) : Int) := by
  rw [wu64 (by omega) (by omega)]
  simp only [hbin]
  rw [if_neg (by omega), Int.toNat_natCast, Nat.min_eq_left (show n ≤ IntKind.u8.bits from hn), fdn]
theorem pn (a n : Nat) : (a : Int) * 2 ^ n = ((a * 2 ^ n : Nat) : Int) := by rw [Int.natCast_mul, Int.natCast_pow]; rfl
theorem shl64 {R : Type} {a n : Nat} (hn : n ≤ 64) (hl : a * 2 ^ n < 2 ^ 62) (K : Int → Option R) : hbin .shl .i64 (a : Int) (IntKind.wrap .u64 (n : Int)) K = K ((a * 2 ^ n : Nat) : Int) := by
  rw [wu64 (by omega) (by omega)]
  simp only [hbin]
  rw [if_neg (by omega), Int.toNat_natCast, Nat.min_eq_left (show n ≤ IntKind.i64.bits from hn), pn, w64 (by omega) (by omega)]
theorem shl8 {R : Type} {a n : Nat} (hn : n ≤ 8) (hl : a * 2 ^ n < 256) (K : Int → Option R) : hbin .shl .u8 (a : Int) (IntKind.wrap .u64 (n : Int)) K = K ((a * 2 ^ n : Nat) : Int) := by
  rw [wu64 (by omega) (by omega)]
  simp only [hbin]
  rw [if_neg (by omega), Int.toNat_natCast, Nat.min_eq_left (show n ≤ IntKind.u8.bits from hn), pn, u8_in _ ⟨by omega, by omega⟩]
theorem p32 {n : Nat} (h : n ≤ 32) : 2 ^ n ≤ 2 ^ 32 := Nat.pow_le_pow_right (by omega) h
/-- Bits: 0 and 1. -/
def B01 (l : List Int) : Prop := ∀ x ∈ l, x = 0 ∨ x = 1
theorem B01.app {a b : List Int} (h : B01 a) (k : B01 b) : B01 (a ++ b) := fun x hx => by
  rcases List.mem_append.1 hx with h1 | h1
  · exact h x h1
  · exact k x h1
theorem B01.one {x : Int} (h : x = 0 ∨ x = 1) : B01 [x] := fun y hy => by simp at hy; subst hy; exact h
theorem B01.left {a b : List Int} (h : B01 (a ++ b)) : B01 a := fun x hx => h x (List.mem_append_left _ hx)
theorem B01.right {a b : List Int} (h : B01 (a ++ b)) : B01 b := fun x hx => h x (List.mem_append_right _ hx)
def bn (x : Int) : Nat := if x = 1 then 1 else 0
theorem bn_of {x : Int} (h : x = 0 ∨ x = 1) : x = (bn x : Int) := by rcases h with rfl | rfl <;> rfl
theorem bn_le (x : Int) : bn x ≤ 1 := by unfold bn; split <;> omega
/-- The number of a row of bits. -/
def val (c : List Int) : Nat := c.foldl (fun v x => 2 * v + bn x) 0
theorem val_nil : val [] = 0 := rfl
theorem val_snoc (c : List Int) (x : Int) : val (c ++ [x]) = 2 * val c + bn x := by simp [val]
theorem val_lt (c : List Int) : val c < 2 ^ c.length := by
  have : ∀ (n : Nat) (c : List Int), c.length = n → val c < 2 ^ n := by
    intro n
    induction n with
    | zero => intro c h; rw [List.length_eq_zero_iff.1 h]; simp [val]
    | succ n ih =>
      intro c h
      have hne : c ≠ [] := fun e => by rw [e] at h; simp at h
      have := ih c.dropLast (by simp [h])
      have hb := bn_le (c.getLast hne)
      rw [← List.dropLast_concat_getLast hne, val_snoc, Nat.pow_succ]; omega
  exact this _ c rfl
theorem val_zeros (c : List Int) (m : Nat) : val (c ++ List.replicate m 0) = val c * 2 ^ m := by
  induction m with
  | zero => simp
  | succ m ih =>
    rw [List.replicate_succ', ← List.append_assoc, val_snoc, ih, Nat.pow_succ]
    have h0 : bn 0 = 0 := rfl
    have h1 : val c * (2 ^ m * 2) = 2 * (val c * 2 ^ m) := by rw [← Nat.mul_assoc, Nat.mul_comm]
    omega
/-- The bits of a byte. -/
def bt (v : Nat) : Nat → List Int
  | 0 => []
  | n + 1 => ((v / 2 ^ n % 2 : Nat) : Int) :: bt v n
theorem bt_len (v n : Nat) : (bt v n).length = n := by induction n with | zero => rfl | succ n ih => simp [bt, ih]
theorem bt_01 (v n : Nat) : B01 (bt v n) := by
  induction n with
  | zero => intro x hx; cases hx
  | succ n ih =>
    intro x hx
    rcases List.mem_cons.1 hx with h | h
    · subst h; omega
    · exact ih x h
theorem val_foldl (c : List Int) (v : Nat) : c.foldl (fun v x => 2 * v + bn x) v = v * 2 ^ c.length + val c := by
  induction c generalizing v with
  | nil => simp [val]
  | cons x c ih =>
    have h := ih (2 * v + bn x)
    have h0 := ih (2 * 0 + bn x)
    unfold val
    simp only [List.foldl_cons, List.length_cons] at *
    rw [h, h0, Nat.pow_succ, Nat.add_mul, Nat.add_mul]
    have : 2 * v * 2 ^ c.length = v * (2 ^ c.length * 2) := by rw [Nat.mul_comm 2 v, Nat.mul_assoc, Nat.mul_comm 2]
    omega
theorem val_cons (x : Int) (c : List Int) : val (x :: c) = bn x * 2 ^ c.length + val c := by
  have := val_foldl c (2 * 0 + bn x)
  unfold val
  simp only [List.foldl_cons]
  rw [this]; simp [val]
theorem val_app (a b : List Int) : val (a ++ b) = val a * 2 ^ b.length + val b := by
  unfold val; rw [List.foldl_append]; exact val_foldl b _
theorem bn_bit (m : Nat) : bn ((m % 2 : Nat) : Int) = m % 2 := by
  unfold bn; split <;> omega
theorem val_bt (v n : Nat) : val (bt v n) = v % 2 ^ n := by
  induction n with
  | zero => simp [bt, val, Nat.mod_one]
  | succ n ih =>
    rw [bt, val_cons, ih, bt_len, bn_bit, Nat.pow_succ, Nat.mod_mul, Nat.mul_comm]; omega
end Go.Proofs.Ytmanlfonppfhaaa.Sh
