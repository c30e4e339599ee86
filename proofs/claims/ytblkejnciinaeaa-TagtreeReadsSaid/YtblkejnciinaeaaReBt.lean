/- TtReads: Bt. -/
import Derived.Test.YtblkejnciinaeaaSh0
import Derived.Test.YtblkejnciinaeaaFwY
import Derived.Test.YtblkejnciinaeaaFwO
import Derived.IntWalk
import Derived.Test.YtblkejnciinaeaaSh4
import Derived.Test.YtblkejnciinaeaaSh12
import Derived.Test.YtblkejnciinaeaaSh1
import Derived.Test.YtblkejnciinaeaaSh2
/- Bitio: numbers, bits and bytes. -/
set_option linter.unusedVariables false
set_option linter.unusedSimpArgs false
namespace Go.Proofs.Ytblkejnciinaeaa.Sh
open Go.Proofs.Ytblkejnciinaeaa.FW Go.IntWalk
def byt (l : List Int) : List Value := l.map (.int .u8)
def b64 (l : List Int) : List Value := l.map (.int .i64)
theorem byt_len (l : List Int) : (byt l).length = l.length := by simp [byt]
theorem b64_len (l : List Int) : (b64 l).length = l.length := by simp [b64]
theorem byt_app (a b : List Int) : byt (a ++ b) = byt a ++ byt b := by simp [byt]
theorem b64_app (a b : List Int) : b64 (a ++ b) = b64 a ++ b64 b := by simp [b64]
theorem byt_one (l : List Int) : (byt l).all oneC = true := by simp [byt, oneC]
theorem b64_one (l : List Int) : (b64 l).all oneC = true := by simp [b64, oneC]
theorem w64 {n : Int} (h : -9223372036854775808 ≤ n) (h2 : n ≤ 9223372036854775807) : IntKind.i64.wrap n = n := i64_in n ⟨h, h2⟩
theorem wu64 {n : Int} (h : 0 ≤ n) (h2 : n ≤ 18446744073709551615) : IntKind.u64.wrap n = n := u64_in n ⟨h, h2⟩
theorem or8 {R : Type} {a b : Nat} (ha : a < 256) (hb : b < 256) (K : Int → Option R) : hbin .or .u8 (a : Int) (b : Int) K = K ((a ||| b : Nat) : Int) := by
  have e : (BitVec.ofInt 8 (a : Int) ||| BitVec.ofInt 8 (b : Int)).toNat = a ||| b := by
    rw [BitVec.ofInt_natCast, BitVec.ofInt_natCast, BitVec.toNat_or, BitVec.toNat_ofNat, BitVec.toNat_ofNat, Nat.mod_eq_of_lt (by omega), Nat.mod_eq_of_lt (by omega)]
  have l : a ||| b < 2 ^ 8 := Nat.or_lt_two_pow ha hb
  show K (IntKind.u8.wrap ((BitVec.ofInt 8 (a : Int) ||| BitVec.ofInt 8 (b : Int)).toNat : Int)) = _
  rw [e, u8_in _ ⟨by omega, by omega⟩]
theorem or64 {R : Type} {a b : Nat} (ha : a < 2 ^ 62) (hb : b < 2 ^ 62) (K : Int → Option R) : hbin .or .i64 (a : Int) (b : Int) K = K ((a ||| b : Nat) : Int) := by
  have e : (BitVec.ofInt 64 (a : Int) ||| BitVec.ofInt 64 (b : Int)).toNat = a ||| b := by
    rw [BitVec.ofInt_natCast, BitVec.ofInt_natCast, BitVec.toNat_or, BitVec.toNat_ofNat, BitVec.toNat_ofNat, Nat.mod_eq_of_lt (by omega), Nat.mod_eq_of_lt (by omega)]
  have l : a ||| b < 2 ^ 62 := Nat.or_lt_two_pow ha hb
  show K (IntKind.i64.wrap ((BitVec.ofInt 64 (a : Int) ||| BitVec.ofInt 64 (b : Int)).toNat : Int)) = _
  rw [e, i64_in _ ⟨by omega, by omega⟩]
theorem and64 {R : Type} {a b : Nat} (ha : a < 2 ^ 62) (hb : b < 2 ^ 62) (K : Int → Option R) : hbin .and .i64 (a : Int) (b : Int) K = K ((a &&& b : Nat) : Int) := by
  have e : (BitVec.ofInt 64 (a : Int) &&& BitVec.ofInt 64 (b : Int)).toNat = a &&& b := by
    rw [BitVec.ofInt_natCast, BitVec.ofInt_natCast, BitVec.toNat_and, BitVec.toNat_ofNat, BitVec.toNat_ofNat, Nat.mod_eq_of_lt (by omega), Nat.mod_eq_of_lt (by omega)]
  have l : a &&& b ≤ a := Nat.and_le_left
  show K (IntKind.i64.wrap ((BitVec.ofInt 64 (a : Int) &&& BitVec.ofInt 64 (b : Int)).toNat : Int)) = _
  rw [e, i64_in _ ⟨by omega, by omega⟩]
theorem and8 {R : Type} {a b : Nat} (ha : a < 256) (hb : b < 256) (K : Int → Option R) : hbin .and .u8 (a : Int) (b : Int) K = K ((a &&& b : Nat) : Int) := by
  have e : (BitVec.ofInt 8 (a : Int) &&& BitVec.ofInt 8 (b : Int)).toNat = a &&& b := by
    rw [BitVec.ofInt_natCast, BitVec.ofInt_natCast, BitVec.toNat_and, BitVec.toNat_ofNat, BitVec.toNat_ofNat, Nat.mod_eq_of_lt (by omega), Nat.mod_eq_of_lt (by omega)]
  have l : a &&& b ≤ a := Nat.and_le_left
  show K (IntKind.u8.wrap ((BitVec.ofInt 8 (a : Int) &&& BitVec.ofInt 8 (b : Int)).toNat : Int)) = _
  rw [e, u8_in _ ⟨by omega, by omega⟩]
theorem fdn (a n : Nat) : (a : Int).fdiv (2 ^ n) = ((a / 2 ^ n : Nat) : Int) := by
  rw [Int.fdiv_eq_ediv_of_nonneg _ (Int.pow_nonneg (by omega)), Int.natCast_ediv, Int.natCast_pow]; rfl
theorem shr64 {R : Type} {a n : Nat} (hn : n ≤ 64) (K : Int → Option R) : hbin .shr .i64 (a : Int) (IntKind.wrap .u64 (n : Int)) K = K ((a / 2 ^ n : Nat) : Int) := by
  rw [wu64 (by omega) (by omega)]
  simp only [hbin]
  rw [if_neg (by omega), Int.toNat_natCast, Nat.min_eq_left (show n ≤ IntKind.i64.bits from hn), fdn]
theorem shr8 {R : Type} {a n : Nat} (hn : n ≤ 8) (K : Int → Option R) : hbin .shr .u8 (a : Int) (IntKind.wrap .u64 (n : Int)) K = K ((a / 2 ^ n : Nat) : Int) := by
  rw [wu64 (by omega) (by omega)]
  simp only [hbin]
  rw [if_neg (by omega), Int.toNat_natCast, Nat.min_eq_left (show n ≤ IntKind.u8.bits from hn), fdn]
theorem pn (a n : Nat) : (a : Int) * 2 ^ n = ((a * 2 ^ n : Nat) : Int) := by rw [Int.natCast_mul, Int.natCast_pow]; rfl
theorem shl64 {R : Type} {a n : Nat} (hn : n ≤ 64) (hl : a * 2 ^ n < 2 ^ 62) (K : Int → Option R) : hbin .shl .i64 (a : Int) (IntKind.wrap .u64 (n : Int)) K = K ((a * 2 ^ n : Nat) : Int) := by
  rw [wu64 (by omega) (by omega)]
  simp only [hbin]
  rw [if_neg (by omega), Int.toNat_natCast, Nat.min_eq_left (show n ≤ IntKind.i64.bits from hn), pn, w64 (by omega) (by omega)]
theorem shl8 {R : Type} {a n : Nat} (hn : n ≤ 8) (hl : a * 2 ^ n < 256) (K : Int → Option R) : hbin .shl .u8 (a : Int) (IntKind.wrap .u64 (n : Int)) K = K ((a * 2 ^ n : Nat) : Int) := by
  rw [wu64 (by omega) (by omega)]
  simp only [hbin]
  rw [if_neg (by omega), Int.toNat_natCast, Nat.min_eq_left (show n ≤ IntKind.u8.bits from hn), pn, u8_in _ ⟨by omega, by omega⟩]
theorem p32 {n : Nat} (h : n ≤ 32) : 2 ^ n ≤ 2 ^ 32 := Nat.pow_le_pow_right (by omega) h
/-- Bits: 0 and 1. -/
def B01 (l : List Int) : Prop := ∀ x ∈ l, x = 0 ∨ x = 1
theorem B01.app {a b : List Int} (h : B01 a) (k : B01 b) : B01 (a ++ b) := fun x hx => by
  rcases List.mem_append.1 hx with h1 | h1
  · exact h x h1
  · exact k x h1
theorem B01.one {x : Int} (h : x = 0 ∨ x = 1) : B01 [x] := fun y hy => by simp at hy; subst hy; exact h
theorem B01.left {a b : List Int} (h : B01 (a ++ b)) : B01 a := fun x hx => h x (List.mem_append_left _ hx)
theorem B01.right {a b : List Int} (h : B01 (a ++ b)) : B01 b := fun x hx => h x (List.mem_append_right _ hx)
def bn (x : Int) : Nat := if x = 1 then 1 else 0
theorem bn_of {x : Int} (h : x = 0 ∨ x = 1) : x = (bn x : Int) := by rcases h with rfl | rfl <;> rfl
theorem bn_le (x : Int) : bn x ≤ 1 := by unfold bn; split <;> omega
/-- The number of a row of bits. -/
def val (c : List Int) : Nat := c.foldl (fun v x => 2 * v + bn x) 0
theorem val_nil : val [] = 0 := rfl
theorem val_snoc (c : List Int) (x : Int) : val (c ++ [x]) = 2 * val c + bn x := by simp [val]
theorem val_lt (c : List Int) : val c < 2 ^ c.length := by
  have : ∀ (n : Nat) (c : List Int), c.length = n → val c < 2 ^ n := by
    intro n
    induction n with
    | zero => intro c h; rw [List.length_eq_zero_iff.1 h]; simp [val]
    | succ n ih =>
      intro c h
      have hne : c ≠ [] := fun e => by rw [e] at h; simp at h
      have := ih c.dropLast (by simp [h])
      have hb := bn_le (c.getLast hne)
      rw [← List.dropLast_concat_getLast hne, val_snoc, Nat.pow_succ]; omega
  exact this _ c rfl
theorem val_zeros (c : List Int) (m : Nat) : val (c ++ List.replicate m 0) = val c * 2 ^ m := by
  induction m with
  | zero => simp
  | succ m ih =>
    rw [List.replicate_succ', ← List.append_assoc, val_snoc, ih, Nat.pow_succ]
    have h0 : bn 0 = 0 := rfl
    have h1 : val c * (2 ^ m * 2) = 2 * (val c * 2 ^ m) := by rw [← Nat.mul_assoc, Nat.mul_comm]
    omega
/-- The bits of a byte. -/
def bt (v : Nat) : Nat → List Int
  | 0 => []
  | n + 1 => ((v / 2 ^ n % 2 : Nat) : Int) :: bt v n
theorem bt_len (v n : Nat) : (bt v n).length = n := by induction n with | zero => rfl | succ n ih => simp [bt, ih]
theorem bt_01 (v n : Nat) : B01 (bt v n) := by
  induction n with
  | zero => intro x hx; cases hx
  | succ n ih =>
    intro x hx
    rcases List.mem_cons.1 hx with h | h
    · subst h; omega
    · exact ih x h
theorem val_foldl (c : List Int) (v : Nat) : c.foldl (fun v x => 2 * v + bn x) v = v * 2 ^ c.length + val c := by
  induction c generalizing v with
  | nil => simp [val]
  | cons x c ih =>
    have h := ih (2 * v + bn x)
    have h0 := ih (2 * 0 + bn x)
    unfold val
    simp only [List.foldl_cons, List.length_cons] at *
    rw [h, h0, Nat.pow_succ, Nat.add_mul, Nat.add_mul]
    have : 2 * v * 2 ^ c.length = v * (2 ^ c.length * 2) := by rw [Nat.mul_comm 2 v, Nat.mul_assoc, Nat.mul_comm 2]
    omega
theorem val_cons (x : Int) (c : List Int) : val (x :: c) = bn x * 2 ^ c.length + val c := by
  have := val_foldl c (2 * 0 + bn x)
  unfold val
  simp only [List.foldl_cons]
  rw [this]; simp [val]
theorem val_app (a b : List Int) : val (a ++ b) = val a * 2 ^ b.length + val b := by
  unfold val; rw [List.foldl_append]; exact val_foldl b _
theorem bn_bit (m : Nat) : bn ((m % 2 : Nat) : Int) = m % 2 := by
  unfold bn; split <;> omega
theorem val_bt (v n : Nat) : val (bt v n) = v % 2 ^ n := by
  induction n with
  | zero => simp [bt, val, Nat.mod_one]
  | succ n ih =>
    rw [bt, val_cons, ih, bt_len, bn_bit, Nat.pow_succ, Nat.mod_mul, Nat.mul_comm]; omega
end Go.Proofs.Ytblkejnciinaeaa.Sh
/- Bitio: appended elements, strings of bytes, what a writer's call leaves alone. -/
set_option linter.unusedVariables false
set_option linter.unusedSimpArgs false
namespace Go.Proofs.Ytblkejnciinaeaa.Sh
open Go.Proofs.Ytblkejnciinaeaa.FW Go.IntWalk
theorem app1 {N bytes : Nat} {H : Heap} {q : Option Addr} {l c : Nat} {cs : List Value} (h : Bld N 1 H q l c cs) (hN : N ≤ H.length) (v : Value) (hl : (l + 1) * bytes ≤ 35184372088832) :
    ∃ H', (∀ (R : Type) (K : Option Addr → Nat → Nat → Heap → Option R), happS 1 bytes (H ++ [some ⟨[v], false, 0⟩]) q l c (some ⟨H.length, 0, none⟩) 1 K = K (some ⟨H.length + 1, 0, none⟩) (l + 1) unk H') ∧ Bld N 1 H' (some ⟨H.length + 1, 0, none⟩) (l + 1) unk (cs ++ [v]) ∧ H'.length = H.length + 2 ∧ ∀ i, i < H.length → (∀ a, q = some a → a.block ≠ i) → hblk H' i = hblk H i := by
  have hp : Shows (H ++ [some (⟨[v], false, 0⟩ : Blk)]) (some ⟨H.length, 0, none⟩) [v] := Sees.shows ⟨_, hblk_new H _, rfl⟩
  have hc := hp.hcells
  have hL : (H ++ [some (⟨[v], false, 0⟩ : Blk)]).length = H.length + 1 := by simp
  rcases h with ⟨rfl, rfl, rfl, rfl⟩ | ⟨b, rfl, rfl, h3, h4, h5⟩
  · refine ⟨H ++ [some ⟨[v], false, 0⟩] ++ [some ⟨[v], false, 1⟩], fun R K => ?_, .inr ⟨H.length + 1, rfl, rfl, by omega, ?_, by simp⟩, by simp, fun i hi _ => by rw [List.append_assoc]; exact app_old hi⟩
    · unfold happS happ
      rw [show 1 * 1 = [v].length from rfl, hc]
      simp only
      rw [if_neg (by unfold unk; omega), if_neg (by omega), if_pos (by simpa using hl), hL]
      rfl
    · have := hblk_new (H ++ [some (⟨[v], false, 0⟩ : Blk)]) (some ⟨[v], false, 1⟩)
      rw [hL] at this
      exact this
  · have hblt := h4.sees.lt
    have h4' : hblk (H ++ [some (⟨[v], false, 0⟩ : Blk)]) b = some ⟨cs, false, 1⟩ := by rw [app_old hblt]; exact h4
    refine ⟨hset (H ++ [some ⟨[v], false, 0⟩]) b none ++ [some ⟨cs ++ [v], false, 1⟩], fun R K => ?_, .inr ⟨H.length + 1, rfl, rfl, by omega, ?_, by rw [Nat.add_mul, h5, List.length_append]; rfl⟩, by simp [hset_length], fun i hi hne => ?_⟩
    · unfold happS happ
      rw [show 1 * 1 = [v].length from rfl, hc]
      simp only [if_true, h4', cond_false, h5, true_and, hL]
      rw [if_pos hl]
    · have := app_new (hset (H ++ [some (⟨[v], false, 0⟩ : Blk)]) b none) (some ⟨cs ++ [v], false, 1⟩) []
      rwa [hset_length, hL] at this
    · rw [app_old (by rw [hset_length]; omega), hset_get, if_neg (by have := hne _ rfl; simp only at this; omega), app_old hi]
theorem nums_byt (l : List Int) : nums (byt l) = some l := by
  induction l with
  | nil => rfl
  | cons x l ih => show (match nums (byt l) with | some xs => some (x :: xs) | none => none) = _; rw [ih]
theorem b2s_eq {H : Heap} {q : Option Addr} {l : List Int} (h : Shows H q (byt l)) (R : Type) (K : ByteArray → Option R) : hb2s H q l.length K = K (strOfNums l) := by
  unfold hb2s
  have := h.hcells
  rw [byt_len] at this
  rw [this]
  simp only [nums_byt]
/-- What a step of a thing at p with a row q leaves alone. -/
structure Stp (p : Nat) (q : Option Addr) (H : Heap) (q' : Option Addr) (H' : Heap) : Prop where
  len : H.length ≤ H'.length
  old : ∀ i, i < H.length → i ≠ p → (∀ a, q = some a → a.block ≠ i) → hblk H' i = hblk H i
  new : q' = q ∨ ∀ a, q' = some a → H.length ≤ a.block
theorem Stp.refl (p : Nat) (q : Option Addr) (H : Heap) : Stp p q H q H := ⟨Nat.le_refl _, fun _ _ _ _ => rfl, .inl rfl⟩
theorem Stp.trans {p : Nat} {q q1 q2 : Option Addr} {H H1 H2 : Heap} (a : Stp p q H q1 H1) (b : Stp p q1 H1 q2 H2) : Stp p q H q2 H2 := by
  refine ⟨Nat.le_trans a.len b.len, fun i hi h1 h2 => (b.old i (Nat.lt_of_lt_of_le hi a.len) h1 fun x hx => ?_).trans (a.old i hi h1 h2), ?_⟩
  · rcases a.new with h | h
    · subst h; exact h2 x hx
    · have := h x hx; omega
  · rcases b.new with h | h
    · subst h; exact a.new
    · exact .inr fun x hx => Nat.le_trans a.len (h x hx)
theorem Stp.of_old {p : Nat} {q : Option Addr} {H H' : Heap} (o : Old H.length H H') : Stp p q H q H' := ⟨o.1, fun i hi _ _ => o.2 i hi, .inl rfl⟩
theorem Stp.of_but {p : Nat} {q : Option Addr} {H H' : Heap} (o : But p H H') : Stp p q H q H' := ⟨o.1, fun i hi h _ => o.2 i hi h, .inl rfl⟩
theorem Stp.below {N p : Nat} {q q' : Option Addr} {H H' : Heap} (s : Stp p q H q' H') (hp : N ≤ p) (hq : ∀ a, q = some a → N ≤ a.block) (hN : N ≤ H.length) : Old N H H' :=
  ⟨s.len, fun i hi => s.old i (by omega) (by omega) fun a ha => by have := hq a ha; omega⟩
/-- Two things apart. -/
def Apt (p : Nat) (q : Option Addr) (p2 : Nat) (q2 : Option Addr) : Prop := p ≠ p2 ∧ (∀ a, q = some a → a.block ≠ p2) ∧ (∀ a, q2 = some a → a.block ≠ p) ∧ ∀ a b, q = some a → q2 = some b → a.block ≠ b.block
theorem Apt.symm {p p2 : Nat} {q q2 : Option Addr} (h : Apt p q p2 q2) : Apt p2 q2 p q := ⟨h.1.symm, h.2.2.1, h.2.1, fun a b ha hb => (h.2.2.2 b a hb ha).symm⟩
theorem Apt.step {p p2 : Nat} {q q2 q' : Option Addr} {H H' : Heap} (h : Apt p q p2 q2) (s : Stp p q H q' H') (h2 : p2 < H.length) (h3 : ∀ a, q2 = some a → a.block < H.length) : Apt p q' p2 q2 := by
  rcases s.new with e | e
  · subst e; exact h
  · exact ⟨h.1, fun a ha => by have := e a ha; omega, h.2.2.1, fun a b ha hb => by have := e a ha; have := h3 b hb; omega⟩
theorem Owns.stp {p : Nat} {q q' : Option Addr} {H H' : Heap} (s : Stp p q H q' H') {b sz : Nat} {cs : List Value} (h : Owns H b cs sz) (h1 : b ≠ p) (h2 : ∀ a, q = some a → a.block ≠ b) : Owns H' b cs sz := by
  have := h.lt
  unfold Owns at *; rw [s.old b this h1 h2]; exact h
theorem Bld.stp {p : Nat} {q q' : Option Addr} {H H' : Heap} (s : Stp p q H q' H') {N sz l c : Nat} {q2 : Option Addr} {cs : List Value} (h : Bld N sz H q2 l c cs) (h1 : ∀ a, q2 = some a → a.block ≠ p) (h2 : ∀ a b, q = some a → q2 = some b → a.block ≠ b.block) : Bld N sz H' q2 l c cs := by
  rcases h with h | ⟨b, rfl, h3, h4, h5, h6⟩
  · exact .inl h
  · exact .inr ⟨b, rfl, h3, h4, Owns.stp s h5 (h1 _ rfl) (fun a ha => h2 a _ ha rfl), h6⟩
/-- The reference's writer: its bits. -/
structure Ur (N : Nat) (H : Heap) (p : Nat) (q : Option Addr) (l : List Int) : Prop where
  c : ∃ c, Owns H p [.bool true, .slice q l.length c] 0 ∧ Bld N 1 H q l.length c (b64 l)
  low : N ≤ p
  apt : ∀ a, q = some a → a.block ≠ p
theorem Ur.lt {N : Nat} {H : Heap} {p : Nat} {q : Option Addr} {l : List Int} (h : Ur N H p q l) : p < H.length := by obtain ⟨c, h1, _⟩ := h.c; exact h1.lt
theorem Ur.qlt {N : Nat} {H : Heap} {p : Nat} {q : Option Addr} {l : List Int} (h : Ur N H p q l) : ∀ a, q = some a → a.block < H.length := by obtain ⟨c, _, h1⟩ := h.c; exact h1.below
theorem Ur.qlow {N : Nat} {H : Heap} {p : Nat} {q : Option Addr} {l : List Int} (h : Ur N H p q l) : ∀ a, q = some a → N ≤ a.block := by
  obtain ⟨c, _, h1⟩ := h.c
  rcases h1 with ⟨rfl, _⟩ | ⟨b, rfl, _, h3, _⟩
  · intro a ha; cases ha
  · intro a ha; cases ha; exact h3
theorem Ur.stp {N : Nat} {H H' : Heap} {p p2 : Nat} {q q' q2 : Option Addr} {l : List Int} (h : Ur N H p2 q2 l) (s : Stp p q H q' H') (a : Apt p q p2 q2) : Ur N H' p2 q2 l := by
  obtain ⟨c, h1, h2⟩ := h.c
  exact ⟨⟨c, Owns.stp s h1 a.1.symm a.2.1, Bld.stp s h2 a.2.2.1 a.2.2.2⟩, h.low, h.apt⟩
/-- One more bit. -/
theorem Ur.add {N : Nat} {H : Heap} {p : Nat} {q : Option Addr} {l : List Int} (h : Ur N H p q l) (hN : N ≤ H.length) (x : Int) (hl : l.length < 1000000) : ∃ c H1 H2, hcell H p 1 = some (.slice q l.length c) ∧
    (∀ (R : Type) (K : Option Addr → Nat → Nat → Heap → Option R), happS 1 8 (H ++ [some ⟨[.int .i64 x], false, 0⟩]) q l.length c (some ⟨H.length, 0, none⟩) 1 K = K (some ⟨H.length + 1, 0, none⟩) (l.length + 1) unk H1) ∧
    (∀ (R : Type) (K : Heap → Option R), hst1 H1 (some ⟨p, 1, none⟩) (.slice (some ⟨H.length + 1, 0, none⟩) (l.length + 1) unk) K = K H2) ∧ Ur N H2 p (some ⟨H.length + 1, 0, none⟩) (l ++ [x]) ∧ Stp p q H (some ⟨H.length + 1, 0, none⟩) H2 := by
  obtain ⟨c, h1, h2⟩ := h.c
  obtain ⟨H1, e1, B1, n1, s1⟩ := app1 (bytes := 8) h2 hN (.int .i64 x) (by omega)
  have hp := h1.lt
  have o1 : Owns H1 p [.bool true, .slice q l.length c] 0 := by unfold Owns at *; rw [s1 p hp h.apt]; exact h1
  obtain ⟨H2, e2, o2, b2, n2⟩ := Owns.st1 (o := 1) o1 (by simp) (.slice (some ⟨H.length + 1, 0, none⟩) (l.length + 1) unk)
  refine ⟨c, H1, H2, by rw [h1.sees.cell]; rfl, e1, e2, ⟨⟨unk, by simpa using o2, ?_⟩, h.low, fun a ha => by cases ha; simp only; omega⟩, ⟨by omega, fun i hi h3 h4 => ?_, .inr fun a ha => by cases ha; simp only; omega⟩⟩
  · rw [b64_app, List.length_append]
    exact Bld.stp (p := p) (q := none) (q' := none) ⟨b2.1, fun i hi h _ => b2.2 i hi h, .inl rfl⟩ B1 (fun a ha => by cases ha; simp only; omega) (fun a b ha => by cases ha)
  · rw [b2.2 i (by omega) h3, s1 i hi h4]
end Go.Proofs.Ytblkejnciinaeaa.Sh
/- Bitio: the program's reader. -/
set_option linter.unusedVariables false
set_option linter.unusedSimpArgs false
namespace Go.Proofs.Ytblkejnciinaeaa.Sh
open Go.Proofs.Ytblkejnciinaeaa.FW Go.IntWalk
/-- The bits of the byte at a place. -/
def szr (bs : List Int) (a : Nat) : Nat := if 0 < a ∧ bs.getD (a - 1) 0 = 255 then 7 else 8
def bitr (bs : List Int) (a s : Nat) : Nat := (bs.getD (a - 1) 0).toNat / 2 ^ s % 2
/-- A bit: the number, the error, the place, what is left. -/
def rget (bs : List Int) (s : Nat × Nat) : (Int × Int) × Nat × Nat :=
  if s.2 = 0 then
    (if s.1 = bs.length then ((0, 7), s)
     else if szr bs s.1 = 7 ∧ 128 ≤ bs.getD s.1 0 then ((0, 8), s)
     else ((((bitr bs (s.1 + 1) (szr bs s.1 - 1) : Nat) : Int), 0), s.1 + 1, szr bs s.1 - 1))
  else ((((bitr bs s.1 (s.2 - 1) : Nat) : Int), 0), s.1, s.2 - 1)
structure Okr (bs : List Int) (s : Nat × Nat) : Prop where
  a : s.1 ≤ bs.length
  l : s.2 ≤ 7
  z : 0 < s.2 → 0 < s.1
def Byts (bs : List Int) : Prop := (∀ x ∈ bs, 0 ≤ x ∧ x ≤ 255) ∧ bs.length < 1000000
theorem szr_le (bs : List Int) (a : Nat) : szr bs a ≤ 8 := by unfold szr; split <;> omega
theorem szr_ge (bs : List Int) (a : Nat) : 7 ≤ szr bs a := by unfold szr; split <;> omega
theorem rget_ok {bs : List Int} {s : Nat × Nat} (h : Okr bs s) : Okr bs (rget bs s).2 := by
  have h1 := szr_le bs s.1
  have h2 := szr_ge bs s.1
  have := h.a; have := h.l; have := h.z
  unfold rget
  split
  · split
    · exact h
    · split
      · exact h
      · exact ⟨by simp only; omega, by simp only; omega, by simp only; omega⟩
  · exact ⟨by simp only; omega, by simp only; omega, by simp only; omega⟩
theorem rget_bit (bs : List Int) (s : Nat × Nat) : ((rget bs s).1.1 = 0 ∨ (rget bs s).1.1 = 1) ∧ ((rget bs s).1.2 ≠ 0 → (rget bs s).2 = s) := by
  have hb : ∀ a s, (((bitr bs a s : Nat) : Int) = 0 ∨ ((bitr bs a s : Nat) : Int) = 1) := fun a s => by unfold bitr; omega
  unfold rget
  split
  · split
    · exact ⟨.inl rfl, fun _ => rfl⟩
    · split
      · exact ⟨.inl rfl, fun _ => rfl⟩
      · exact ⟨hb _ _, fun h => (h rfl).elim⟩
  · exact ⟨hb _ _, fun h => (h rfl).elim⟩
def rcl (q : Option Addr) (n c a s : Nat) : List Value := [.bool true, .slice q n c, .int .i64 ((a : Nat) : Int), .int .i64 ((s : Nat) : Int)]
/-- A reader. -/
structure Rd (H : Heap) (p : Nat) (q : Option Addr) (bs : List Int) (s : Nat × Nat) : Prop where
  c : ∃ c, Owns H p (rcl q bs.length c s.1 s.2) 0
  sh : Shows H q (byt bs)
  ap : ∀ a, q = some a → a.block ≠ p
  ok : Okr bs s
  by_ : Byts bs
theorem Rd.lt {H : Heap} {p : Nat} {q : Option Addr} {bs : List Int} {s : Nat × Nat} (h : Rd H p q bs s) : p < H.length := by obtain ⟨c, h1⟩ := h.c; exact h1.lt
theorem Rd.but {H H' : Heap} {p p2 : Nat} {q : Option Addr} {bs : List Int} {s : Nat × Nat} (h : Rd H p q bs s) (o : But p2 H H') (h1 : p ≠ p2) (h2 : ∀ a, q = some a → a.block ≠ p2) : Rd H' p q bs s := by
  obtain ⟨c, hc⟩ := h.c
  exact ⟨⟨c, hc.but o h1⟩, h.sh.but o h2, h.ap, h.ok, h.by_⟩
theorem Rd.keep {H H' : Heap} {p : Nat} {q : Option Addr} {bs : List Int} {s : Nat × Nat} (h : Rd H p q bs s) (o : Old H.length H H') : Rd H' p q bs s := by
  obtain ⟨c, hc⟩ := h.c
  exact ⟨⟨c, hc.old o hc.lt⟩, h.sh.keep o, h.ap, h.ok, h.by_⟩
/-- A place or what is left, stored. -/
theorem Rd.st2 {H : Heap} {p : Nat} {q : Option Addr} {n c a s : Nat} (h : Owns H p (rcl q n c a s) 0) (x : Nat) : ∃ H', (∀ (R : Type) (K : Heap → Option R), hst1 H (some ⟨p, 2, none⟩) (.int .i64 ((x : Nat) : Int)) K = K H') ∧ Owns H' p (rcl q n c x s) 0 ∧ But p H H' ∧ H'.length = H.length := Owns.st1 (o := 2) h (by simp [rcl]) _
theorem Rd.st3 {H : Heap} {p : Nat} {q : Option Addr} {n c a s : Nat} (h : Owns H p (rcl q n c a s) 0) (x : Nat) : ∃ H', (∀ (R : Type) (K : Heap → Option R), hst1 H (some ⟨p, 3, none⟩) (.int .i64 ((x : Nat) : Int)) K = K H') ∧ Owns H' p (rcl q n c a x) 0 ∧ But p H H' ∧ H'.length = H.length := Owns.st1 (o := 3) h (by simp [rcl]) _
theorem byte_at' {H : Heap} {q : Option Addr} {xs : List Int} (h : Shows H q (byt xs)) {i : Nat} (hi : i < xs.length) :
    ∃ p, (∀ (R : Type) (K : Option Addr → Option R), hidx q xs.length (i : Int) 1 K = K p) ∧ ∀ (R : Type) (K : Int → Option R), ldI .u8 H p K = K (xs.getD i 0) := by
  obtain ⟨p, e, _, m⟩ := h.idx (l := xs.length) (size := 1) (by rw [byt_len]; omega) (i := (i : Int)) (by omega) (by omega) (by omega)
  exact ⟨p, e, fun R K => ldI_of (m _ (by rw [Int.toNat_natCast, Nat.mul_one]; simp [byt, hi])) rfl K⟩
theorem Byts.at {bs : List Int} (h : Byts bs) (i : Nat) : ∃ n : Nat, bs.getD i 0 = (n : Int) ∧ n ≤ 255 := by
  by_cases hi : i < bs.length
  · have : bs.getD i 0 ∈ bs := by rw [List.getD_eq_getElem?_getD, List.getElem?_eq_getElem hi]; exact List.getElem_mem hi
    have := h.1 _ this
    exact ⟨(bs.getD i 0).toNat, by omega, by omega⟩
  · exact ⟨0, by rw [List.getD_eq_getElem?_getD, List.getElem?_eq_none (by omega)]; rfl, by omega⟩
/-- The last steps of a bit. -/
theorem bit8 {bs : List Int} (hb : Byts bs) (a s : Nat) (hs : s ≤ 8) (R : Type) (K : Int → Option R) : hbin .shr .u8 (bs.getD (a - 1) 0) (IntKind.wrap .u64 ((s : Nat) : Int)) (fun n => hbin .and .i64 (IntKind.wrap .i64 n) 1 K) = K ((bitr bs a s : Nat) : Int) := by
  obtain ⟨n, h1, h2⟩ := hb.at (a - 1)
  have h3 : n / 2 ^ s ≤ n := Nat.div_le_self _ _
  unfold bitr
  rw [h1, shr8 hs, Int.toNat_natCast]
  generalize n / 2 ^ s = d at h3 ⊢
  rw [w64 (by omega) (by omega)]
  have := and64 (a := d) (b := 1) (by omega) (by omega) K
  rw [Nat.and_one_is_mod] at this
  exact this
theorem get_eq (k : Nat) {H : Heap} {p : Nat} {q : Option Addr} {bs : List Int} {s : Nat × Nat} (h : Rd H p q bs s) :
    ∃ H', (∀ (R : Type) (K : Int → Int → Heap → Option R), bitio_Reader_get k (some ⟨p, 0, none⟩) H K = K (rget bs s).1.1 (rget bs s).1.2 H') ∧ Rd H' p q bs (rget bs s).2 ∧ But p H H' := by
  obtain ⟨c, hO⟩ := h.c
  obtain ⟨a, l⟩ := s
  have hok := h.ok
  have ha := hok.a
  have hl7 := hok.l
  have hz := hok.z
  have hlen := h.by_.2
  have hr := rget_ok hok
  simp only at ha hl7 hz
  have m : ∀ o, hcell H p o = [Value.bool true, .slice q bs.length c, .int .i64 ((a : Nat) : Int), .int .i64 ((l : Nat) : Int)][o]? := fun o => hO.sees.cell o
  have tail : ∀ (H2 : Heap) (x y : Nat), Owns H2 p (rcl q bs.length c x (y + 1)) 0 → But p H H2 → 0 < x → x ≤ bs.length → y ≤ 7 →
      ∃ H', (∀ (R : Type) (K : Int → Int → Heap → Option R), (hnil (some ⟨p, 0, none⟩) fun p224 => hfad 3 p224 fun p225 => ldI .i64 H2 p225 fun n226 => hnil (some ⟨p, 0, none⟩) fun p227 => hfad 3 p227 fun p228 => hst1 H2 p228 (.int .i64 (IntKind.wrap .i64 (n226 - 1))) fun H229 => hnil (some ⟨p, 0, none⟩) fun p230 => hfad 1 p230 fun p231 => ldL H229 p231 fun q232 l233 c234 => hnil (some ⟨p, 0, none⟩) fun p235 => hfad 2 p235 fun p236 => ldI .i64 H229 p236 fun n237 => hidx q232 l233 (IntKind.wrap .i64 (n237 - 1)) 1 fun p238 => ldI .u8 H229 p238 fun n239 => hnil (some ⟨p, 0, none⟩) fun p240 => hfad 3 p240 fun p241 => ldI .i64 H229 p241 fun n242 => hbin .shr .u8 n239 (IntKind.wrap .u64 n242) fun n243 => hbin .and .i64 (IntKind.wrap .i64 n243) 1 fun n244 => K n244 0 H229) = K ((bitr bs x y : Nat) : Int) 0 H') ∧ Owns H' p (rcl q bs.length c x y) 0 ∧ But p H H' := by
    intro H2 x y h2 b2 hx hxl hy
    obtain ⟨H3, e3, O3, b3, n3⟩ := Rd.st3 h2 y
    have w1 : IntKind.wrap .i64 (((y + 1 : Nat) : Int) - 1) = ((y : Nat) : Int) := by rw [w64 (by omega) (by omega)]; omega
    have w2 : IntKind.wrap .i64 (((x : Nat) : Int) - 1) = ((x - 1 : Nat) : Int) := by rw [w64 (by omega) (by omega)]; omega
    have m2 : ∀ o, hcell H2 p o = [Value.bool true, .slice q bs.length c, .int .i64 ((x : Nat) : Int), .int .i64 ((y + 1 : Nat) : Int)][o]? := fun o => h2.sees.cell o
    have m3 : ∀ o, hcell H3 p o = [Value.bool true, .slice q bs.length c, .int .i64 ((x : Nat) : Int), .int .i64 ((y : Nat) : Int)][o]? := fun o => O3.sees.cell o
    have sh3 : Shows H3 q (byt bs) := h.sh.but (b2.trans b3) h.ap
    obtain ⟨z, e4, e5⟩ := byte_at' sh3 (i := x - 1) (by omega)
    have e3' : ∀ (R : Type) (K : Heap → Option R), hst1 H2 (some ⟨p, 3, none⟩) (.int .i64 (IntKind.wrap .i64 (((y + 1 : Nat) : Int) - 1))) K = K H3 := by rw [w1]; exact e3
    have e4' : ∀ (R : Type) (K : Option Addr → Option R), hidx q bs.length (IntKind.wrap .i64 (((x : Nat) : Int) - 1)) 1 K = K z := by rw [w2]; exact e4
    refine ⟨H3, fun R K => ?_, O3, b2.trans b3⟩
    repeat (first | (with_reducible refine (e3' _ _).trans ?_) | (with_reducible refine (e4' _ _).trans ?_) | (with_reducible refine (e5 _ _).trans ?_) | ((with_reducible refine go_ip (x := ?_) ?_ ?_); rotate_left 1; (first | ((with_reducible refine (m2 _).trans ?_); rfl) | ((with_reducible refine (m3 _).trans ?_); rfl) | rfl)) | ((with_reducible refine go_bp (x := ?_) ?_ ?_); rotate_left 1; (first | ((with_reducible refine (m2 _).trans ?_); rfl) | ((with_reducible refine (m3 _).trans ?_); rfl) | rfl)) | ((with_reducible refine go_lp (x := ?_) (l := ?_) (c := ?_) ?_ ?_); rotate_left 3; (first | ((with_reducible refine (m2 _).trans ?_); rfl) | ((with_reducible refine (m3 _).trans ?_); rfl) | rfl)) | ((with_reducible refine go_pp (x := ?_) ?_ ?_); rotate_left 1; (first | ((with_reducible refine (m2 _).trans ?_); rfl) | ((with_reducible refine (m3 _).trans ?_); rfl) | rfl)) | ((with_reducible refine go_i (x := ?_) ?_ ?_); rotate_left 1; (first | ((with_reducible refine (m2 _).trans ?_); rfl) | ((with_reducible refine (m3 _).trans ?_); rfl) | rfl)) | ((with_reducible refine go_b (x := ?_) ?_ ?_); rotate_left 1; (first | ((with_reducible refine (m2 _).trans ?_); rfl) | ((with_reducible refine (m3 _).trans ?_); rfl) | rfl)) | ((with_reducible refine go_l (x := ?_) (l := ?_) (c := ?_) ?_ ?_); rotate_left 3; (first | ((with_reducible refine (m2 _).trans ?_); rfl) | ((with_reducible refine (m3 _).trans ?_); rfl) | rfl)) | ((with_reducible refine go_p (x := ?_) ?_ ?_); rotate_left 1; (first | ((with_reducible refine (m2 _).trans ?_); rfl) | ((with_reducible refine (m3 _).trans ?_); rfl) | rfl)) | ((with_reducible refine go_halst rfl ?_ ?_ ?_); rfl; rfl) | (with_reducible refine go_halN rfl ?_) | ((with_reducible refine go_t ?_ ?_); (show _ = true; rfl)) | ((with_reducible refine go_f ?_ ?_); (show _ = false; rfl)) | (with_reducible refine go_ne ?_) | (with_reducible refine go_eq ?_) | (with_reducible refine go_fad ?_) | (with_reducible refine go_nil ?_))
    exact bit8 h.by_ x y (by omega) R fun n => K n 0 H3
  by_cases hl0 : l = 0
  · subst hl0
    have d0 : (((0 : Nat) : Int) == 0) = true := rfl
    by_cases hat : a = bs.length
    · have d1 : (((a : Nat) : Int) == ((bs.length : Nat) : Int)) = true := by rw [hat]; exact beq_self_eq_true _
      have er : rget bs (a, 0) = ((0, 7), a, 0) := by unfold rget; rw [if_pos rfl, if_pos hat]
      rw [er]
      refine ⟨H, fun R K => ?_, h, .refl _ _⟩
      unfold bitio_Reader_get bitio_Reader_get_b bitio_Reader_get_p0 bitio_Reader_get_p0_b
      dsimp only
      repeat (first | ((with_reducible refine go_ip (x := ?_) ?_ ?_); rotate_left 1; (first | ((with_reducible refine (m _).trans ?_); rfl) | rfl)) | ((with_reducible refine go_bp (x := ?_) ?_ ?_); rotate_left 1; (first | ((with_reducible refine (m _).trans ?_); rfl) | rfl)) | ((with_reducible refine go_lp (x := ?_) (l := ?_) (c := ?_) ?_ ?_); rotate_left 3; (first | ((with_reducible refine (m _).trans ?_); rfl) | rfl)) | ((with_reducible refine go_pp (x := ?_) ?_ ?_); rotate_left 1; (first | ((with_reducible refine (m _).trans ?_); rfl) | rfl)) | ((with_reducible refine go_i (x := ?_) ?_ ?_); rotate_left 1; (first | ((with_reducible refine (m _).trans ?_); rfl) | rfl)) | ((with_reducible refine go_b (x := ?_) ?_ ?_); rotate_left 1; (first | ((with_reducible refine (m _).trans ?_); rfl) | rfl)) | ((with_reducible refine go_l (x := ?_) (l := ?_) (c := ?_) ?_ ?_); rotate_left 3; (first | ((with_reducible refine (m _).trans ?_); rfl) | rfl)) | ((with_reducible refine go_p (x := ?_) ?_ ?_); rotate_left 1; (first | ((with_reducible refine (m _).trans ?_); rfl) | rfl)) | ((with_reducible refine go_halst rfl ?_ ?_ ?_); rfl; rfl) | (with_reducible refine go_halN rfl ?_) | (with_reducible refine go_t d0 ?_) | (with_reducible refine go_f d0 ?_) | (with_reducible refine go_t d1 ?_) | (with_reducible refine go_f d1 ?_) | ((with_reducible refine go_t ?_ ?_); (show _ = true; rfl)) | ((with_reducible refine go_f ?_ ?_); (show _ = false; rfl)) | (with_reducible refine go_ne ?_) | (with_reducible refine go_eq ?_) | (with_reducible refine go_fad ?_) | (with_reducible refine go_nil ?_))
      rfl
    · have d1 : (((a : Nat) : Int) == ((bs.length : Nat) : Int)) = false := by rw [beq_eq_false_iff_ne]; omega
      have hp2 : ∀ (R : Type) (KN : Option Addr → Int → Bool → Option R), bitio_Reader_get_p2 k (some ⟨p, 0, none⟩) 8 H KN = KN (some ⟨p, 0, none⟩) 8 (decide (szr bs a = 7)) := by
        intro R KN
        by_cases h0 : 0 < a
        · have d2 : decide (((a : Nat) : Int) > 0) = true := decide_eq_true (by omega)
          obtain ⟨z, e4, e5⟩ := byte_at' h.sh (i := a - 1) (by omega)
          have w2 : IntKind.wrap .i64 (((a : Nat) : Int) - 1) = ((a - 1 : Nat) : Int) := by rw [w64 (by omega) (by omega)]; omega
          have e4' : ∀ (R : Type) (K : Option Addr → Option R), hidx q bs.length (IntKind.wrap .i64 (((a : Nat) : Int) - 1)) 1 K = K z := by rw [w2]; exact e4
          have hs : decide (szr bs a = 7) = (bs.getD (a - 1) 0 == 255) := by
            unfold szr
            by_cases h255 : bs.getD (a - 1) 0 = 255
            · rw [if_pos ⟨h0, h255⟩, h255]; rfl
            · rw [if_neg fun hh => h255 hh.2]; symm; simpa using h255
          unfold bitio_Reader_get_p2 bitio_Reader_get_p2_b
          repeat (first | (with_reducible refine (e4' _ _).trans ?_) | (with_reducible refine (e5 _ _).trans ?_) | ((with_reducible refine go_ip (x := ?_) ?_ ?_); rotate_left 1; (first | ((with_reducible refine (m _).trans ?_); rfl) | rfl)) | ((with_reducible refine go_bp (x := ?_) ?_ ?_); rotate_left 1; (first | ((with_reducible refine (m _).trans ?_); rfl) | rfl)) | ((with_reducible refine go_lp (x := ?_) (l := ?_) (c := ?_) ?_ ?_); rotate_left 3; (first | ((with_reducible refine (m _).trans ?_); rfl) | rfl)) | ((with_reducible refine go_pp (x := ?_) ?_ ?_); rotate_left 1; (first | ((with_reducible refine (m _).trans ?_); rfl) | rfl)) | ((with_reducible refine go_i (x := ?_) ?_ ?_); rotate_left 1; (first | ((with_reducible refine (m _).trans ?_); rfl) | rfl)) | ((with_reducible refine go_b (x := ?_) ?_ ?_); rotate_left 1; (first | ((with_reducible refine (m _).trans ?_); rfl) | rfl)) | ((with_reducible refine go_l (x := ?_) (l := ?_) (c := ?_) ?_ ?_); rotate_left 3; (first | ((with_reducible refine (m _).trans ?_); rfl) | rfl)) | ((with_reducible refine go_p (x := ?_) ?_ ?_); rotate_left 1; (first | ((with_reducible refine (m _).trans ?_); rfl) | rfl)) | ((with_reducible refine go_halst rfl ?_ ?_ ?_); rfl; rfl) | (with_reducible refine go_halN rfl ?_) | (with_reducible refine go_t d2 ?_) | (with_reducible refine go_f d2 ?_) | ((with_reducible refine go_t ?_ ?_); (show _ = true; rfl)) | ((with_reducible refine go_f ?_ ?_); (show _ = false; rfl)) | (with_reducible refine go_ne ?_) | (with_reducible refine go_eq ?_) | (with_reducible refine go_fad ?_) | (with_reducible refine go_nil ?_))
          rw [hs]
        · have d2 : decide (((a : Nat) : Int) > 0) = false := decide_eq_false (by omega)
          have hs : decide (szr bs a = 7) = false := by unfold szr; rw [if_neg fun hh => h0 hh.1]; rfl
          unfold bitio_Reader_get_p2 bitio_Reader_get_p2_b
          repeat (first | ((with_reducible refine go_ip (x := ?_) ?_ ?_); rotate_left 1; (first | ((with_reducible refine (m _).trans ?_); rfl) | rfl)) | ((with_reducible refine go_bp (x := ?_) ?_ ?_); rotate_left 1; (first | ((with_reducible refine (m _).trans ?_); rfl) | rfl)) | ((with_reducible refine go_lp (x := ?_) (l := ?_) (c := ?_) ?_ ?_); rotate_left 3; (first | ((with_reducible refine (m _).trans ?_); rfl) | rfl)) | ((with_reducible refine go_pp (x := ?_) ?_ ?_); rotate_left 1; (first | ((with_reducible refine (m _).trans ?_); rfl) | rfl)) | ((with_reducible refine go_i (x := ?_) ?_ ?_); rotate_left 1; (first | ((with_reducible refine (m _).trans ?_); rfl) | rfl)) | ((with_reducible refine go_b (x := ?_) ?_ ?_); rotate_left 1; (first | ((with_reducible refine (m _).trans ?_); rfl) | rfl)) | ((with_reducible refine go_l (x := ?_) (l := ?_) (c := ?_) ?_ ?_); rotate_left 3; (first | ((with_reducible refine (m _).trans ?_); rfl) | rfl)) | ((with_reducible refine go_p (x := ?_) ?_ ?_); rotate_left 1; (first | ((with_reducible refine (m _).trans ?_); rfl) | rfl)) | ((with_reducible refine go_halst rfl ?_ ?_ ?_); rfl; rfl) | (with_reducible refine go_halN rfl ?_) | (with_reducible refine go_t d2 ?_) | (with_reducible refine go_f d2 ?_) | ((with_reducible refine go_t ?_ ?_); (show _ = true; rfl)) | ((with_reducible refine go_f ?_ ?_); (show _ = false; rfl)) | (with_reducible refine go_ne ?_) | (with_reducible refine go_eq ?_) | (with_reducible refine go_fad ?_) | (with_reducible refine go_nil ?_))
          rw [hs]
      obtain ⟨z, e4, e5⟩ := byte_at' h.sh (i := a) (by omega)
      by_cases hbad : szr bs a = 7 ∧ 128 ≤ bs.getD a 0
      · have er : rget bs (a, 0) = ((0, 8), a, 0) := by unfold rget; rw [if_pos rfl, if_neg hat, if_pos hbad]
        have d3 : decide (szr bs a = 7) = true := decide_eq_true hbad.1
        have d4 : decide (bs.getD a 0 ≥ 128) = true := decide_eq_true hbad.2
        rw [er]
        refine ⟨H, fun R K => ?_, h, .refl _ _⟩
        unfold bitio_Reader_get bitio_Reader_get_b bitio_Reader_get_p0 bitio_Reader_get_p0_b bitio_Reader_get_p1 bitio_Reader_get_p1_b
        dsimp only
        repeat (first | (with_reducible refine (hp2 _ _).trans ?_) | (with_reducible refine (e4 _ _).trans ?_) | (with_reducible refine (e5 _ _).trans ?_) | ((with_reducible refine go_ip (x := ?_) ?_ ?_); rotate_left 1; (first | ((with_reducible refine (m _).trans ?_); rfl) | rfl)) | ((with_reducible refine go_bp (x := ?_) ?_ ?_); rotate_left 1; (first | ((with_reducible refine (m _).trans ?_); rfl) | rfl)) | ((with_reducible refine go_lp (x := ?_) (l := ?_) (c := ?_) ?_ ?_); rotate_left 3; (first | ((with_reducible refine (m _).trans ?_); rfl) | rfl)) | ((with_reducible refine go_pp (x := ?_) ?_ ?_); rotate_left 1; (first | ((with_reducible refine (m _).trans ?_); rfl) | rfl)) | ((with_reducible refine go_i (x := ?_) ?_ ?_); rotate_left 1; (first | ((with_reducible refine (m _).trans ?_); rfl) | rfl)) | ((with_reducible refine go_b (x := ?_) ?_ ?_); rotate_left 1; (first | ((with_reducible refine (m _).trans ?_); rfl) | rfl)) | ((with_reducible refine go_l (x := ?_) (l := ?_) (c := ?_) ?_ ?_); rotate_left 3; (first | ((with_reducible refine (m _).trans ?_); rfl) | rfl)) | ((with_reducible refine go_p (x := ?_) ?_ ?_); rotate_left 1; (first | ((with_reducible refine (m _).trans ?_); rfl) | rfl)) | ((with_reducible refine go_halst rfl ?_ ?_ ?_); rfl; rfl) | (with_reducible refine go_halN rfl ?_) | (with_reducible refine go_t d0 ?_) | (with_reducible refine go_f d0 ?_) | (with_reducible refine go_t d1 ?_) | (with_reducible refine go_f d1 ?_) | (with_reducible refine go_t d3 ?_) | (with_reducible refine go_f d3 ?_) | (with_reducible refine go_t d4 ?_) | (with_reducible refine go_f d4 ?_) | ((with_reducible refine go_t ?_ ?_); (show _ = true; rfl)) | ((with_reducible refine go_f ?_ ?_); (show _ = false; rfl)) | (with_reducible refine go_ne ?_) | (with_reducible refine go_eq ?_) | (with_reducible refine go_fad ?_) | (with_reducible refine go_nil ?_))
        rfl
      · have er : rget bs (a, 0) = ((((bitr bs (a + 1) (szr bs a - 1) : Nat) : Int), 0), a + 1, szr bs a - 1) := by unfold rget; rw [if_pos rfl, if_neg hat, if_neg hbad]
        have hz7 := szr_ge bs a
        have hz8 := szr_le bs a
        have hp1 : ∀ (R : Type) (KN : Option Addr → Int → Option R) (KR : Int → Int → Option R), bitio_Reader_get_p1 k (some ⟨p, 0, none⟩) 8 H KN KR = KN (some ⟨p, 0, none⟩) ((szr bs a : Nat) : Int) := by
          intro R KN KR
          by_cases h7 : szr bs a = 7
          · have d3 : decide (szr bs a = 7) = true := decide_eq_true h7
            have d4 : decide (bs.getD a 0 ≥ 128) = false := decide_eq_false fun hh => hbad ⟨h7, hh⟩
            unfold bitio_Reader_get_p1 bitio_Reader_get_p1_b
            repeat (first | (with_reducible refine (hp2 _ _).trans ?_) | (with_reducible refine (e4 _ _).trans ?_) | (with_reducible refine (e5 _ _).trans ?_) | ((with_reducible refine go_ip (x := ?_) ?_ ?_); rotate_left 1; (first | ((with_reducible refine (m _).trans ?_); rfl) | rfl)) | ((with_reducible refine go_bp (x := ?_) ?_ ?_); rotate_left 1; (first | ((with_reducible refine (m _).trans ?_); rfl) | rfl)) | ((with_reducible refine go_lp (x := ?_) (l := ?_) (c := ?_) ?_ ?_); rotate_left 3; (first | ((with_reducible refine (m _).trans ?_); rfl) | rfl)) | ((with_reducible refine go_pp (x := ?_) ?_ ?_); rotate_left 1; (first | ((with_reducible refine (m _).trans ?_); rfl) | rfl)) | ((with_reducible refine go_i (x := ?_) ?_ ?_); rotate_left 1; (first | ((with_reducible refine (m _).trans ?_); rfl) | rfl)) | ((with_reducible refine go_b (x := ?_) ?_ ?_); rotate_left 1; (first | ((with_reducible refine (m _).trans ?_); rfl) | rfl)) | ((with_reducible refine go_l (x := ?_) (l := ?_) (c := ?_) ?_ ?_); rotate_left 3; (first | ((with_reducible refine (m _).trans ?_); rfl) | rfl)) | ((with_reducible refine go_p (x := ?_) ?_ ?_); rotate_left 1; (first | ((with_reducible refine (m _).trans ?_); rfl) | rfl)) | ((with_reducible refine go_halst rfl ?_ ?_ ?_); rfl; rfl) | (with_reducible refine go_halN rfl ?_) | (with_reducible refine go_t d3 ?_) | (with_reducible refine go_f d3 ?_) | (with_reducible refine go_t d4 ?_) | (with_reducible refine go_f d4 ?_) | ((with_reducible refine go_t ?_ ?_); (show _ = true; rfl)) | ((with_reducible refine go_f ?_ ?_); (show _ = false; rfl)) | (with_reducible refine go_ne ?_) | (with_reducible refine go_eq ?_) | (with_reducible refine go_fad ?_) | (with_reducible refine go_nil ?_))
            rw [h7]; rfl
          · have d3 : decide (szr bs a = 7) = false := decide_eq_false h7
            have h8 : szr bs a = 8 := by omega
            unfold bitio_Reader_get_p1 bitio_Reader_get_p1_b
            repeat (first | (with_reducible refine (hp2 _ _).trans ?_) | ((with_reducible refine go_ip (x := ?_) ?_ ?_); rotate_left 1; (first | ((with_reducible refine (m _).trans ?_); rfl) | rfl)) | ((with_reducible refine go_bp (x := ?_) ?_ ?_); rotate_left 1; (first | ((with_reducible refine (m _).trans ?_); rfl) | rfl)) | ((with_reducible refine go_lp (x := ?_) (l := ?_) (c := ?_) ?_ ?_); rotate_left 3; (first | ((with_reducible refine (m _).trans ?_); rfl) | rfl)) | ((with_reducible refine go_pp (x := ?_) ?_ ?_); rotate_left 1; (first | ((with_reducible refine (m _).trans ?_); rfl) | rfl)) | ((with_reducible refine go_i (x := ?_) ?_ ?_); rotate_left 1; (first | ((with_reducible refine (m _).trans ?_); rfl) | rfl)) | ((with_reducible refine go_b (x := ?_) ?_ ?_); rotate_left 1; (first | ((with_reducible refine (m _).trans ?_); rfl) | rfl)) | ((with_reducible refine go_l (x := ?_) (l := ?_) (c := ?_) ?_ ?_); rotate_left 3; (first | ((with_reducible refine (m _).trans ?_); rfl) | rfl)) | ((with_reducible refine go_p (x := ?_) ?_ ?_); rotate_left 1; (first | ((with_reducible refine (m _).trans ?_); rfl) | rfl)) | ((with_reducible refine go_halst rfl ?_ ?_ ?_); rfl; rfl) | (with_reducible refine go_halN rfl ?_) | (with_reducible refine go_t d3 ?_) | (with_reducible refine go_f d3 ?_) | ((with_reducible refine go_t ?_ ?_); (show _ = true; rfl)) | ((with_reducible refine go_f ?_ ?_); (show _ = false; rfl)) | (with_reducible refine go_ne ?_) | (with_reducible refine go_eq ?_) | (with_reducible refine go_fad ?_) | (with_reducible refine go_nil ?_))
            rw [h8]; rfl
        obtain ⟨H1, e1, O1, b1, n1⟩ := Rd.st2 hO (a + 1)
        obtain ⟨H2, e2, O2, b2, n2⟩ := Rd.st3 O1 (szr bs a)
        obtain ⟨H3, e3, O3, b3⟩ := tail H2 (a + 1) (szr bs a - 1) (by rw [show szr bs a - 1 + 1 = szr bs a from by omega]; exact O2) (b1.trans b2) (by omega) (by omega) (by omega)
        have w1 : IntKind.wrap .i64 (((a : Nat) : Int) + 1) = ((a + 1 : Nat) : Int) := by rw [w64 (by omega) (by omega)]; omega
        have e1' : ∀ (R : Type) (K : Heap → Option R), hst1 H (some ⟨p, 2, none⟩) (.int .i64 (IntKind.wrap .i64 (((a : Nat) : Int) + 1))) K = K H1 := by rw [w1]; exact e1
        rw [er] at hr ⊢
        refine ⟨H3, fun R K => ?_, ⟨⟨c, O3⟩, h.sh.but b3 h.ap, h.ap, hr, h.by_⟩, b3⟩
        unfold bitio_Reader_get bitio_Reader_get_b bitio_Reader_get_p0 bitio_Reader_get_p0_b
        dsimp only
        refine go_nil (go_fad ?_)
        repeat (first | (with_reducible refine (hp1 _ _ _).trans ?_) | (with_reducible refine (e1' _ _).trans ?_) | (with_reducible refine (e2 _ _).trans ?_) | ((with_reducible refine go_ip (x := ?_) ?_ ?_); rotate_left 1; (first | ((with_reducible refine (m _).trans ?_); rfl) | rfl)) | ((with_reducible refine go_bp (x := ?_) ?_ ?_); rotate_left 1; (first | ((with_reducible refine (m _).trans ?_); rfl) | rfl)) | ((with_reducible refine go_lp (x := ?_) (l := ?_) (c := ?_) ?_ ?_); rotate_left 3; (first | ((with_reducible refine (m _).trans ?_); rfl) | rfl)) | ((with_reducible refine go_pp (x := ?_) ?_ ?_); rotate_left 1; (first | ((with_reducible refine (m _).trans ?_); rfl) | rfl)) | ((with_reducible refine go_i (x := ?_) ?_ ?_); rotate_left 1; (first | ((with_reducible refine (m _).trans ?_); rfl) | rfl)) | ((with_reducible refine go_b (x := ?_) ?_ ?_); rotate_left 1; (first | ((with_reducible refine (m _).trans ?_); rfl) | rfl)) | ((with_reducible refine go_l (x := ?_) (l := ?_) (c := ?_) ?_ ?_); rotate_left 3; (first | ((with_reducible refine (m _).trans ?_); rfl) | rfl)) | ((with_reducible refine go_p (x := ?_) ?_ ?_); rotate_left 1; (first | ((with_reducible refine (m _).trans ?_); rfl) | rfl)) | ((with_reducible refine go_halst rfl ?_ ?_ ?_); rfl; rfl) | (with_reducible refine go_halN rfl ?_) | (with_reducible refine go_t d0 ?_) | (with_reducible refine go_f d0 ?_) | (with_reducible refine go_t d1 ?_) | (with_reducible refine go_f d1 ?_) | ((with_reducible refine go_t ?_ ?_); (show _ = true; rfl)) | ((with_reducible refine go_f ?_ ?_); (show _ = false; rfl)) | (with_reducible refine go_ne ?_) | (with_reducible refine go_eq ?_) | (with_reducible refine go_fad ?_) | (with_reducible refine go_nil ?_))
        exact e3 R K
  · have d0 : (((l : Nat) : Int) == 0) = false := by rw [beq_eq_false_iff_ne]; omega
    have er : rget bs (a, l) = ((((bitr bs a (l - 1) : Nat) : Int), 0), a, l - 1) := by unfold rget; rw [if_neg hl0]
    obtain ⟨H3, e3, O3, b3⟩ := tail H a (l - 1) (by rw [show l - 1 + 1 = l from by omega]; exact hO) (.refl _ _) (by omega) (by omega) (by omega)
    rw [er] at hr ⊢
    refine ⟨H3, fun R K => ?_, ⟨⟨c, O3⟩, h.sh.but b3 h.ap, h.ap, hr, h.by_⟩, b3⟩
    unfold bitio_Reader_get bitio_Reader_get_b bitio_Reader_get_p0 bitio_Reader_get_p0_b
    dsimp only
    refine go_nil (go_fad ?_)
    refine go_i (m 3) (go_f d0 ?_)
    exact e3 R K
end Go.Proofs.Ytblkejnciinaeaa.Sh
/- Bitio: the program's reader, its calls. -/
set_option linter.unusedVariables false
set_option linter.unusedSimpArgs false
namespace Go.Proofs.Ytblkejnciinaeaa.Sh
open Go.Proofs.Ytblkejnciinaeaa.FW Go.IntWalk
abbrev Rs := (Int × Int) × Nat × Nat
/-- A number of bits. -/
def rbits (bs : List Int) : Nat → Nat → Nat × Nat → Rs
  | 0, v, s => (((v : Int), 0), s)
  | n + 1, v, s => if (rget bs s).1.2 ≠ 0 then ((0, (rget bs s).1.2), (rget bs s).2) else rbits bs n (2 * v + bn (rget bs s).1.1) (rget bs s).2
/-- Bits of one value up to another one. -/
def rcnt (bs : List Int) (x : Int) : Nat → Nat → Nat × Nat → Rs
  | 0, _, s => ((0, 8), s)
  | m + 1, n, s => if (rget bs s).1.2 ≠ 0 then ((0, (rget bs s).1.2), (rget bs s).2) else if (rget bs s).1.1 ≠ x then (((n : Int), 0), (rget bs s).2) else if m = 0 then ((0, 8), (rget bs s).2) else rcnt bs x m (n + 1) (rget bs s).2
def back (s : Nat × Nat) (r : Rs) : Rs := if r.1.2 ≠ 0 then ((0, r.1.2), s) else r
def rB (bs : List Int) (n : Int) (s : Nat × Nat) : Rs := if 0 ≤ n ∧ n ≤ 32 then back s (rbits bs n.toNat 0 s) else ((0, 1), s)
def rG1 (bs : List Int) (s : Nat × Nat) : Rs := if (rcnt bs 0 32 0 s).1.2 ≠ 0 then rcnt bs 0 32 0 s else
  if (rbits bs (rcnt bs 0 32 0 s).1.1.toNat 0 (rcnt bs 0 32 0 s).2).1.2 ≠ 0 then rbits bs (rcnt bs 0 32 0 s).1.1.toNat 0 (rcnt bs 0 32 0 s).2 else
  (((2 ^ (rcnt bs 0 32 0 s).1.1.toNat : Nat) + (rbits bs (rcnt bs 0 32 0 s).1.1.toNat 0 (rcnt bs 0 32 0 s).2).1.1, 0), (rbits bs (rcnt bs 0 32 0 s).1.1.toNat 0 (rcnt bs 0 32 0 s).2).2)
def rG (bs : List Int) (s : Nat × Nat) : Rs := back s (rG1 bs s)
def rU (bs : List Int) (n : Int) (s : Nat × Nat) : Rs := if 0 ≤ n ∧ n ≤ 65535 then back s (rcnt bs 1 (n.toNat + 1) 0 s) else ((0, 1), s)
def rA (bs : List Int) (s : Nat × Nat) : Rs := if s.1 = 0 then ((0, 0), s) else if (bs.getD (s.1 - 1) 0).toNat % 2 ^ s.2 ≠ 0 then ((0, 8), s) else
  if s.2 = 0 ∧ bs.getD (s.1 - 1) 0 = 255 then (if s.1 = bs.length then ((0, 7), s) else if bs.getD s.1 0 ≠ 0 then ((0, 8), s) else ((((s.1 + 1 : Nat) : Int), 0), s.1 + 1, 0)) else ((((s.1 : Nat) : Int), 0), s.1, 0)
def rO (bs : List Int) (o : Int × Int × Int) (s : Nat × Nat) : Rs := if o.1 = 0 then rget bs s else if o.1 = 1 then rB bs o.2.2 s else if o.1 = 2 then rG bs s else if o.1 = 3 then rU bs o.2.2 s else if o.1 = 4 then rA bs s else ((0, 0), s)
theorem bits_l (k : Nat) {p : Nat} {q : Option Addr} {bs : List Int} (w : Nat) (hw : w ≤ 40) : ∀ (m n i v : Nat), m < n → w = i + m → v < 2 ^ i → ∀ (H : Heap) (s : Nat × Nat), Rd H p q bs s →
    ∃ H', (∀ (R : Type) (KE : Int → Heap → Option R) (KR : Int → Int → Heap → Option R), bitio_Reader_bits_l0 k KE KR n (some ⟨p, 0, none⟩) (v : Int) (w : Int) (i : Int) H = if (rbits bs m v s).1.2 ≠ 0 then KR (rbits bs m v s).1.1 (rbits bs m v s).1.2 H' else KE (rbits bs m v s).1.1 H') ∧ Rd H' p q bs (rbits bs m v s).2 ∧ But p H H' ∧ ((rbits bs m v s).1.2 = 0 → ∃ u : Nat, (rbits bs m v s).1.1 = (u : Int) ∧ u < 2 ^ w) := by
  intro m
  induction m with
  | zero =>
    intro n i v hn hi hv H s h
    obtain ⟨n, rfl⟩ : ∃ n', n = n' + 1 := ⟨n - 1, by omega⟩
    have ed : decide ((i : Int) < (w : Int)) = false := decide_eq_false (by omega)
    refine ⟨H, fun R KE KR => ?_, h, .refl _ _, fun _ => ⟨v, rfl, by rw [hi]; exact hv⟩⟩
    unfold bitio_Reader_bits_l0 bitio_Reader_bits_l0_b
    exact go_f ed rfl
  | succ m ih =>
    intro n i v hn hi hv H s h
    obtain ⟨n, rfl⟩ : ∃ n', n = n' + 1 := ⟨n - 1, by omega⟩
    have ed : decide ((i : Int) < (w : Int)) = true := decide_eq_true (by omega)
    obtain ⟨H1, e1, R1, b1⟩ := get_eq k h
    have hb := rget_bit bs s
    by_cases he : (rget bs s).1.2 = 0
    · have d1 : ((rget bs s).1.2 != 0) = false := by rw [he]; rfl
      have er : rbits bs (m + 1) v s = rbits bs m (2 * v + bn (rget bs s).1.1) (rget bs s).2 := by rw [rbits, if_neg (fun hh => hh he)]
      have hbn := bn_le (rget bs s).1.1
      have hp : 2 ^ i ≤ 2 ^ 40 := Nat.pow_le_pow_right (by omega) (by omega)
      obtain ⟨H2, e2, R2, b2, u2⟩ := ih n (i + 1) (2 * v + bn (rget bs s).1.1) (by omega) (by omega) (by rw [Nat.pow_succ]; omega) H1 _ R1
      have s1 : ∀ (R : Type) (K : Int → Option R), hbin .or .i64 (IntKind.wrap .i64 ((v : Int) * 2)) (rget bs s).1.1 K = K ((2 * v + bn (rget bs s).1.1 : Nat) : Int) := fun R K => by
        rw [w64 (by omega) (by omega), show (v : Int) * 2 = ((2 ^ 1 * v : Nat) : Int) from by omega]
        have := or64 (a := 2 ^ 1 * v) (b := bn (rget bs s).1.1) (by omega) (by omega) K
        rw [← bn_of hb.1, ← Nat.two_pow_add_eq_or_of_lt (i := 1) (by omega)] at this
        exact this
      have w1 : IntKind.wrap .i64 ((i : Int) + 1) = ((i + 1 : Nat) : Int) := by rw [w64 (by omega) (by omega)]; omega
      rw [er]
      refine ⟨H2, fun R KE KR => ?_, R2, b1.trans b2, u2⟩
      unfold bitio_Reader_bits_l0 bitio_Reader_bits_l0_b
      repeat (first | (with_reducible refine (e1 _ _).trans ?_) | (with_reducible refine (s1 _ _).trans ?_) | ((with_reducible refine go_ip (x := ?_) ?_ ?_); rotate_left 1; (first  | rfl)) | ((with_reducible refine go_bp (x := ?_) ?_ ?_); rotate_left 1; (first  | rfl)) | ((with_reducible refine go_lp (x := ?_) (l := ?_) (c := ?_) ?_ ?_); rotate_left 3; (first  | rfl)) | ((with_reducible refine go_pp (x := ?_) ?_ ?_); rotate_left 1; (first  | rfl)) | ((with_reducible refine go_i (x := ?_) ?_ ?_); rotate_left 1; (first  | rfl)) | ((with_reducible refine go_b (x := ?_) ?_ ?_); rotate_left 1; (first  | rfl)) | ((with_reducible refine go_l (x := ?_) (l := ?_) (c := ?_) ?_ ?_); rotate_left 3; (first  | rfl)) | ((with_reducible refine go_p (x := ?_) ?_ ?_); rotate_left 1; (first  | rfl)) | ((with_reducible refine go_halst rfl ?_ ?_ ?_); rfl; rfl) | (with_reducible refine go_halN rfl ?_) | (with_reducible refine go_t ed ?_) | (with_reducible refine go_f ed ?_) | (with_reducible refine go_t d1 ?_) | (with_reducible refine go_f d1 ?_) | ((with_reducible refine go_t ?_ ?_); (show _ = true; rfl)) | ((with_reducible refine go_f ?_ ?_); (show _ = false; rfl)) | (with_reducible refine go_ne ?_) | (with_reducible refine go_eq ?_) | (with_reducible refine go_fad ?_) | (with_reducible refine go_nil ?_))
      try dsimp only
      rw [w1]
      exact e2 _ _ _
    · have d1 : ((rget bs s).1.2 != 0) = true := by simpa using he
      have er : rbits bs (m + 1) v s = ((0, (rget bs s).1.2), (rget bs s).2) := by rw [rbits, if_pos he]
      rw [er]
      refine ⟨H1, fun R KE KR => ?_, R1, b1, fun hh => (he hh).elim⟩
      rw [if_pos he]
      unfold bitio_Reader_bits_l0 bitio_Reader_bits_l0_b
      repeat (first | (with_reducible refine (e1 _ _).trans ?_) | ((with_reducible refine go_ip (x := ?_) ?_ ?_); rotate_left 1; (first  | rfl)) | ((with_reducible refine go_bp (x := ?_) ?_ ?_); rotate_left 1; (first  | rfl)) | ((with_reducible refine go_lp (x := ?_) (l := ?_) (c := ?_) ?_ ?_); rotate_left 3; (first  | rfl)) | ((with_reducible refine go_pp (x := ?_) ?_ ?_); rotate_left 1; (first  | rfl)) | ((with_reducible refine go_i (x := ?_) ?_ ?_); rotate_left 1; (first  | rfl)) | ((with_reducible refine go_b (x := ?_) ?_ ?_); rotate_left 1; (first  | rfl)) | ((with_reducible refine go_l (x := ?_) (l := ?_) (c := ?_) ?_ ?_); rotate_left 3; (first  | rfl)) | ((with_reducible refine go_p (x := ?_) ?_ ?_); rotate_left 1; (first  | rfl)) | ((with_reducible refine go_halst rfl ?_ ?_ ?_); rfl; rfl) | (with_reducible refine go_halN rfl ?_) | (with_reducible refine go_t ed ?_) | (with_reducible refine go_f ed ?_) | (with_reducible refine go_t d1 ?_) | (with_reducible refine go_f d1 ?_) | ((with_reducible refine go_t ?_ ?_); (show _ = true; rfl)) | ((with_reducible refine go_f ?_ ?_); (show _ = false; rfl)) | (with_reducible refine go_ne ?_) | (with_reducible refine go_eq ?_) | (with_reducible refine go_fad ?_) | (with_reducible refine go_nil ?_))
      rfl
theorem bits_eq {k : Nat} (hk : 100 < k) {H : Heap} {p : Nat} {q : Option Addr} {bs : List Int} {s : Nat × Nat} (h : Rd H p q bs s) {w : Nat} (hw : w ≤ 40) :
    ∃ H', (∀ (R : Type) (K : Int → Int → Heap → Option R), bitio_Reader_bits k (some ⟨p, 0, none⟩) (w : Int) H K = K (rbits bs w 0 s).1.1 (rbits bs w 0 s).1.2 H') ∧ Rd H' p q bs (rbits bs w 0 s).2 ∧ But p H H' ∧ ((rbits bs w 0 s).1.2 = 0 → ∃ u : Nat, (rbits bs w 0 s).1.1 = (u : Int) ∧ u < 2 ^ w) := by
  obtain ⟨H', e, R1, b1, u⟩ := bits_l k w hw w k 0 0 (by omega) (by omega) (by simp) H s h
  simp only [Int.natCast_zero] at e
  refine ⟨H', fun R K => ?_, R1, b1, u⟩
  unfold bitio_Reader_bits bitio_Reader_bits_b
  refine (e _ _ _).trans ?_
  split
  · rfl
  · rename_i hh
    have : (rbits bs w 0 s).1.2 = 0 := Decidable.byContradiction fun x => hh x
    rw [this]
theorem rok_eq {H : Heap} {p : Nat} {q : Option Addr} {bs : List Int} {s : Nat × Nat} (h : Rd H p q bs s) : ∀ (R : Type) (K : Bool → Option R), bitio_Reader_ok (some ⟨p, 0, none⟩) H K = K true := by
  obtain ⟨c, hO⟩ := h.c
  have m : hcell H p 0 = some (.bool true) := hO.sees.cell 0
  intro R K
  unfold bitio_Reader_ok bitio_Reader_ok_b
  repeat (first | ((with_reducible refine go_ip (x := ?_) ?_ ?_); rotate_left 1; (first  | exact m | rfl)) | ((with_reducible refine go_bp (x := ?_) ?_ ?_); rotate_left 1; (first  | exact m | rfl)) | ((with_reducible refine go_lp (x := ?_) (l := ?_) (c := ?_) ?_ ?_); rotate_left 3; (first  | exact m | rfl)) | ((with_reducible refine go_pp (x := ?_) ?_ ?_); rotate_left 1; (first  | exact m | rfl)) | ((with_reducible refine go_i (x := ?_) ?_ ?_); rotate_left 1; (first  | exact m | rfl)) | ((with_reducible refine go_b (x := ?_) ?_ ?_); rotate_left 1; (first  | exact m | rfl)) | ((with_reducible refine go_l (x := ?_) (l := ?_) (c := ?_) ?_ ?_); rotate_left 3; (first  | exact m | rfl)) | ((with_reducible refine go_p (x := ?_) ?_ ?_); rotate_left 1; (first  | exact m | rfl)) | ((with_reducible refine go_halst rfl ?_ ?_ ?_); rfl; rfl) | (with_reducible refine go_halN rfl ?_) | ((with_reducible refine go_t ?_ ?_); (show _ = true; rfl)) | ((with_reducible refine go_f ?_ ?_); (show _ = false; rfl)) | (with_reducible refine go_ne ?_) | (with_reducible refine go_eq ?_) | (with_reducible refine go_fad ?_) | (with_reducible refine go_nil ?_))
  rfl
theorem pGet_eq (k : Nat) {H : Heap} {p : Nat} {q : Option Addr} {bs : List Int} {s : Nat × Nat} (h : Rd H p q bs s) :
    ∃ H', (∀ (R : Type) (K : Int → Int → Heap → Option R), bitio_Reader_Get k (some ⟨p, 0, none⟩) H K = K (rget bs s).1.1 (rget bs s).1.2 H') ∧ Rd H' p q bs (rget bs s).2 ∧ But p H H' := by
  have o := rok_eq h
  obtain ⟨H', e, r, b⟩ := get_eq k h
  refine ⟨H', fun R K => ?_, r, b⟩
  unfold bitio_Reader_Get bitio_Reader_Get_b
  repeat (first | (with_reducible refine (o _ _).trans ?_) | (with_reducible refine (e _ _).trans ?_) | ((with_reducible refine go_ip (x := ?_) ?_ ?_); rotate_left 1; (first  | rfl)) | ((with_reducible refine go_bp (x := ?_) ?_ ?_); rotate_left 1; (first  | rfl)) | ((with_reducible refine go_lp (x := ?_) (l := ?_) (c := ?_) ?_ ?_); rotate_left 3; (first  | rfl)) | ((with_reducible refine go_pp (x := ?_) ?_ ?_); rotate_left 1; (first  | rfl)) | ((with_reducible refine go_i (x := ?_) ?_ ?_); rotate_left 1; (first  | rfl)) | ((with_reducible refine go_b (x := ?_) ?_ ?_); rotate_left 1; (first  | rfl)) | ((with_reducible refine go_l (x := ?_) (l := ?_) (c := ?_) ?_ ?_); rotate_left 3; (first  | rfl)) | ((with_reducible refine go_p (x := ?_) ?_ ?_); rotate_left 1; (first  | rfl)) | ((with_reducible refine go_halst rfl ?_ ?_ ?_); rfl; rfl) | (with_reducible refine go_halN rfl ?_) | ((with_reducible refine go_t ?_ ?_); (show _ = true; rfl)) | ((with_reducible refine go_f ?_ ?_); (show _ = false; rfl)) | (with_reducible refine go_ne ?_) | (with_reducible refine go_eq ?_) | (with_reducible refine go_fad ?_) | (with_reducible refine go_nil ?_))
  rfl
/-- A failed read is taken back. -/
theorem Rd.undo {H : Heap} {p : Nat} {q : Option Addr} {bs : List Int} {s s' : Nat × Nat} (h : Rd H p q bs s) (hs : Okr bs s') : ∃ H1 H2, (∀ (R : Type) (K : Heap → Option R), hst1 H (some ⟨p, 2, none⟩) (.int .i64 ((s'.1 : Nat) : Int)) K = K H1) ∧ (∀ (R : Type) (K : Heap → Option R), hst1 H1 (some ⟨p, 3, none⟩) (.int .i64 ((s'.2 : Nat) : Int)) K = K H2) ∧ Rd H2 p q bs s' ∧ But p H H2 := by
  obtain ⟨c, hO⟩ := h.c
  obtain ⟨H1, e1, O1, b1, n1⟩ := Rd.st2 hO s'.1
  obtain ⟨H2, e2, O2, b2, n2⟩ := Rd.st3 O1 s'.2
  exact ⟨H1, H2, e1, e2, ⟨⟨c, O2⟩, h.sh.but (b1.trans b2) h.ap, h.ap, hs, h.by_⟩, b1.trans b2⟩
theorem pBitsR_eq {k : Nat} (hk : 100 < k) {H : Heap} {p : Nat} {q : Option Addr} {bs : List Int} {s : Nat × Nat} (h : Rd H p q bs s) (n : Int) :
    ∃ H', (∀ (R : Type) (K : Int → Int → Heap → Option R), bitio_Reader_Bits k (some ⟨p, 0, none⟩) n H K = K (rB bs n s).1.1 (rB bs n s).1.2 H') ∧ Rd H' p q bs (rB bs n s).2 ∧ But p H H' := by
  obtain ⟨Ha, hHa⟩ : ∃ Ha, Ha = H ++ [some ⟨[.pointer (some ⟨p, 0, none⟩)], false, 0⟩] := ⟨_, rfl⟩
  obtain ⟨Hb, hHb⟩ : ∃ Hb, Hb = Ha ++ [some ⟨[.int .i64 n], false, 0⟩] := ⟨_, rfl⟩
  have oa : Old H.length H Ha := hHa ▸ Old.app _ _
  have na : Ha.length = H.length + 1 := by rw [hHa]; simp
  have ob : Old H.length H Hb := oa.trans ((hHb ▸ Old.app _ _ : Old Ha.length Ha Hb).mono oa.1)
  have hp := h.lt
  have h2 := h.keep ob
  have hbp : But p H Hb := .of_old ob
  have O1 : Owns Hb H.length [.pointer (some ⟨p, 0, none⟩)] 0 := by
    unfold Owns; rw [hHb, hblk_old (by omega), hHa]; exact hblk_new H _
  have O2 : Owns Hb Ha.length [.int .i64 n] 0 := by unfold Owns; rw [hHb]; exact hblk_new Ha _
  have m1 : hcell Hb H.length 0 = some (.pointer (some ⟨p, 0, none⟩)) := O1.sees.cell 0
  have m2 : hcell Hb Ha.length 0 = some (.int .i64 n) := O2.sees.cell 0
  have o := rok_eq h2
  by_cases c1 : n < 0
  · have d1 := decide_eq_true c1
    have er : rB bs n s = ((0, 1), s) := if_neg (by omega)
    rw [er]
    refine ⟨Hb, fun R K => ?_, h2, hbp⟩
    unfold bitio_Reader_Bits bitio_Reader_Bits_b bitio_Reader_Bits_p0 bitio_Reader_Bits_p0_b
    repeat (first | (with_reducible refine (o _ _).trans ?_) | ((with_reducible refine go_ip (x := ?_) ?_ ?_); rotate_left 1; (first  | exact m1 | exact m2 | rfl)) | ((with_reducible refine go_bp (x := ?_) ?_ ?_); rotate_left 1; (first  | exact m1 | exact m2 | rfl)) | ((with_reducible refine go_lp (x := ?_) (l := ?_) (c := ?_) ?_ ?_); rotate_left 3; (first  | exact m1 | exact m2 | rfl)) | ((with_reducible refine go_pp (x := ?_) ?_ ?_); rotate_left 1; (first  | exact m1 | exact m2 | rfl)) | ((with_reducible refine go_i (x := ?_) ?_ ?_); rotate_left 1; (first  | exact m1 | exact m2 | rfl)) | ((with_reducible refine go_b (x := ?_) ?_ ?_); rotate_left 1; (first  | exact m1 | exact m2 | rfl)) | ((with_reducible refine go_l (x := ?_) (l := ?_) (c := ?_) ?_ ?_); rotate_left 3; (first  | exact m1 | exact m2 | rfl)) | ((with_reducible refine go_p (x := ?_) ?_ ?_); rotate_left 1; (first  | exact m1 | exact m2 | rfl)) | ((with_reducible refine go_halst hHa ?_ ?_ ?_); rfl; rfl) | (with_reducible refine go_halN hHa ?_) | ((with_reducible refine go_halst hHb ?_ ?_ ?_); rfl; rfl) | (with_reducible refine go_halN hHb ?_) | (with_reducible refine go_t d1 ?_) | (with_reducible refine go_f d1 ?_) | ((with_reducible refine go_t ?_ ?_); (show _ = true; rfl)) | ((with_reducible refine go_f ?_ ?_); (show _ = false; rfl)) | (with_reducible refine go_ne ?_) | (with_reducible refine go_eq ?_) | (with_reducible refine go_fad ?_) | (with_reducible refine go_nil ?_))
    rfl
  have d1 := decide_eq_false c1
  by_cases c2 : n > 32
  · have d2 := decide_eq_true c2
    have er : rB bs n s = ((0, 1), s) := if_neg (by omega)
    rw [er]
    refine ⟨Hb, fun R K => ?_, h2, hbp⟩
    unfold bitio_Reader_Bits bitio_Reader_Bits_b bitio_Reader_Bits_p0 bitio_Reader_Bits_p0_b
    repeat (first | (with_reducible refine (o _ _).trans ?_) | ((with_reducible refine go_ip (x := ?_) ?_ ?_); rotate_left 1; (first  | exact m1 | exact m2 | rfl)) | ((with_reducible refine go_bp (x := ?_) ?_ ?_); rotate_left 1; (first  | exact m1 | exact m2 | rfl)) | ((with_reducible refine go_lp (x := ?_) (l := ?_) (c := ?_) ?_ ?_); rotate_left 3; (first  | exact m1 | exact m2 | rfl)) | ((with_reducible refine go_pp (x := ?_) ?_ ?_); rotate_left 1; (first  | exact m1 | exact m2 | rfl)) | ((with_reducible refine go_i (x := ?_) ?_ ?_); rotate_left 1; (first  | exact m1 | exact m2 | rfl)) | ((with_reducible refine go_b (x := ?_) ?_ ?_); rotate_left 1; (first  | exact m1 | exact m2 | rfl)) | ((with_reducible refine go_l (x := ?_) (l := ?_) (c := ?_) ?_ ?_); rotate_left 3; (first  | exact m1 | exact m2 | rfl)) | ((with_reducible refine go_p (x := ?_) ?_ ?_); rotate_left 1; (first  | exact m1 | exact m2 | rfl)) | ((with_reducible refine go_halst hHa ?_ ?_ ?_); rfl; rfl) | (with_reducible refine go_halN hHa ?_) | ((with_reducible refine go_halst hHb ?_ ?_ ?_); rfl; rfl) | (with_reducible refine go_halN hHb ?_) | (with_reducible refine go_t d1 ?_) | (with_reducible refine go_f d1 ?_) | (with_reducible refine go_t d2 ?_) | (with_reducible refine go_f d2 ?_) | ((with_reducible refine go_t ?_ ?_); (show _ = true; rfl)) | ((with_reducible refine go_f ?_ ?_); (show _ = false; rfl)) | (with_reducible refine go_ne ?_) | (with_reducible refine go_eq ?_) | (with_reducible refine go_fad ?_) | (with_reducible refine go_nil ?_))
    rfl
  have d2 := decide_eq_false c2
  obtain ⟨w, rfl⟩ : ∃ w : Nat, n = w := ⟨n.toNat, by omega⟩
  have er : rB bs (w : Int) s = back s (rbits bs w 0 s) := by unfold rB; rw [if_pos ⟨by omega, by omega⟩, Int.toNat_natCast]
  obtain ⟨H3, e3, R3, b3, u3⟩ := bits_eq hk h2 (w := w) (by omega)
  obtain ⟨c, hO⟩ := h2.c
  have m : ∀ o, hcell Hb p o = (rcl q bs.length c s.1 s.2)[o]? := fun o => hO.sees.cell o
  rw [er]
  unfold back
  by_cases he : (rbits bs w 0 s).1.2 = 0
  · have d3 : ((rbits bs w 0 s).1.2 != 0) = false := by rw [he]; rfl
    rw [if_neg (fun hh => hh he)]
    refine ⟨H3, fun R K => ?_, R3, hbp.trans b3⟩
    unfold bitio_Reader_Bits bitio_Reader_Bits_b bitio_Reader_Bits_p0 bitio_Reader_Bits_p0_b bitio_Reader_whole_v60 bitio_Reader_whole_v60_b bitio_Reader_Bits_1 bitio_Reader_Bits_1_b
    repeat (first | (with_reducible refine (o _ _).trans ?_) | (with_reducible refine (e3 _ _).trans ?_) | ((with_reducible refine go_ip (x := ?_) ?_ ?_); rotate_left 1; (first | ((with_reducible refine (m _).trans ?_); rfl) | exact m1 | exact m2 | rfl)) | ((with_reducible refine go_bp (x := ?_) ?_ ?_); rotate_left 1; (first | ((with_reducible refine (m _).trans ?_); rfl) | exact m1 | exact m2 | rfl)) | ((with_reducible refine go_lp (x := ?_) (l := ?_) (c := ?_) ?_ ?_); rotate_left 3; (first | ((with_reducible refine (m _).trans ?_); rfl) | exact m1 | exact m2 | rfl)) | ((with_reducible refine go_pp (x := ?_) ?_ ?_); rotate_left 1; (first | ((with_reducible refine (m _).trans ?_); rfl) | exact m1 | exact m2 | rfl)) | ((with_reducible refine go_i (x := ?_) ?_ ?_); rotate_left 1; (first | ((with_reducible refine (m _).trans ?_); rfl) | exact m1 | exact m2 | rfl)) | ((with_reducible refine go_b (x := ?_) ?_ ?_); rotate_left 1; (first | ((with_reducible refine (m _).trans ?_); rfl) | exact m1 | exact m2 | rfl)) | ((with_reducible refine go_l (x := ?_) (l := ?_) (c := ?_) ?_ ?_); rotate_left 3; (first | ((with_reducible refine (m _).trans ?_); rfl) | exact m1 | exact m2 | rfl)) | ((with_reducible refine go_p (x := ?_) ?_ ?_); rotate_left 1; (first | ((with_reducible refine (m _).trans ?_); rfl) | exact m1 | exact m2 | rfl)) | ((with_reducible refine go_halst hHa ?_ ?_ ?_); rfl; rfl) | (with_reducible refine go_halN hHa ?_) | ((with_reducible refine go_halst hHb ?_ ?_ ?_); rfl; rfl) | (with_reducible refine go_halN hHb ?_) | (with_reducible refine go_t d1 ?_) | (with_reducible refine go_f d1 ?_) | (with_reducible refine go_t d2 ?_) | (with_reducible refine go_f d2 ?_) | (with_reducible refine go_t d3 ?_) | (with_reducible refine go_f d3 ?_) | ((with_reducible refine go_t ?_ ?_); (show _ = true; rfl)) | ((with_reducible refine go_f ?_ ?_); (show _ = false; rfl)) | (with_reducible refine go_ne ?_) | (with_reducible refine go_eq ?_) | (with_reducible refine go_fad ?_) | (with_reducible refine go_nil ?_))
    rw [he]
  · have d3 : ((rbits bs w 0 s).1.2 != 0) = true := by simpa using he
    rw [if_pos he]
    obtain ⟨H4, H5, e4, e5, R5, b5⟩ := R3.undo h.ok
    refine ⟨H5, fun R K => ?_, R5, (hbp.trans b3).trans b5⟩
    unfold bitio_Reader_Bits bitio_Reader_Bits_b bitio_Reader_Bits_p0 bitio_Reader_Bits_p0_b bitio_Reader_whole_v60 bitio_Reader_whole_v60_b bitio_Reader_Bits_1 bitio_Reader_Bits_1_b
    repeat (first | (with_reducible refine (o _ _).trans ?_) | (with_reducible refine (e3 _ _).trans ?_) | (with_reducible refine (e4 _ _).trans ?_) | (with_reducible refine (e5 _ _).trans ?_) | ((with_reducible refine go_ip (x := ?_) ?_ ?_); rotate_left 1; (first | ((with_reducible refine (m _).trans ?_); rfl) | exact m1 | exact m2 | rfl)) | ((with_reducible refine go_bp (x := ?_) ?_ ?_); rotate_left 1; (first | ((with_reducible refine (m _).trans ?_); rfl) | exact m1 | exact m2 | rfl)) | ((with_reducible refine go_lp (x := ?_) (l := ?_) (c := ?_) ?_ ?_); rotate_left 3; (first | ((with_reducible refine (m _).trans ?_); rfl) | exact m1 | exact m2 | rfl)) | ((with_reducible refine go_pp (x := ?_) ?_ ?_); rotate_left 1; (first | ((with_reducible refine (m _).trans ?_); rfl) | exact m1 | exact m2 | rfl)) | ((with_reducible refine go_i (x := ?_) ?_ ?_); rotate_left 1; (first | ((with_reducible refine (m _).trans ?_); rfl) | exact m1 | exact m2 | rfl)) | ((with_reducible refine go_b (x := ?_) ?_ ?_); rotate_left 1; (first | ((with_reducible refine (m _).trans ?_); rfl) | exact m1 | exact m2 | rfl)) | ((with_reducible refine go_l (x := ?_) (l := ?_) (c := ?_) ?_ ?_); rotate_left 3; (first | ((with_reducible refine (m _).trans ?_); rfl) | exact m1 | exact m2 | rfl)) | ((with_reducible refine go_p (x := ?_) ?_ ?_); rotate_left 1; (first | ((with_reducible refine (m _).trans ?_); rfl) | exact m1 | exact m2 | rfl)) | ((with_reducible refine go_halst hHa ?_ ?_ ?_); rfl; rfl) | (with_reducible refine go_halN hHa ?_) | ((with_reducible refine go_halst hHb ?_ ?_ ?_); rfl; rfl) | (with_reducible refine go_halN hHb ?_) | (with_reducible refine go_t d1 ?_) | (with_reducible refine go_f d1 ?_) | (with_reducible refine go_t d2 ?_) | (with_reducible refine go_f d2 ?_) | (with_reducible refine go_t d3 ?_) | (with_reducible refine go_f d3 ?_) | ((with_reducible refine go_t ?_ ?_); (show _ = true; rfl)) | ((with_reducible refine go_f ?_ ?_); (show _ = false; rfl)) | (with_reducible refine go_ne ?_) | (with_reducible refine go_eq ?_) | (with_reducible refine go_fad ?_) | (with_reducible refine go_nil ?_))
    rfl
end Go.Proofs.Ytblkejnciinaeaa.Sh
/- Bitio: the program's reader: Align, a call of a reader. -/
set_option linter.unusedVariables false
set_option linter.unusedSimpArgs false
namespace Go.Proofs.Ytblkejnciinaeaa.Sh
open Go.Proofs.Ytblkejnciinaeaa.FW Go.IntWalk
theorem nReader_eq {H : Heap} {q : Option Addr} {bs : List Int} (c : Nat) (hS : Shows H q (byt bs)) (hb : Byts bs) : ∃ p q' H', (∀ (R : Type) (K : Option Addr → Heap → Option R), bitio_NewReader q bs.length c H K = K (some ⟨p, 0, none⟩) H') ∧ Rd H' p q' bs (0, 0) ∧ Old H.length H H' ∧ H.length ≤ p ∧ ∀ a, q' = some a → H.length ≤ a.block ∧ a.block < p := by
  have hl := hb.2
  have hc := hS.hcells
  rw [byt_len] at hc
  by_cases h0 : bs.length = 0
  · have : bs = [] := List.length_eq_zero_iff.1 h0
    subst this
    refine ⟨H.length, none, H ++ [some ⟨[.bool true, .slice none 0 0, .int .i64 0, .int .i64 0], false, 0⟩], fun R K => ?_, ⟨⟨0, (show hblk _ _ = _ from hblk_new H _)⟩, .inl rfl, (fun a ha => by cases ha), ⟨by simp, by simp, by simp⟩, hb⟩, Old.app _ _, Nat.le_refl _, fun a ha => by cases ha⟩
    unfold bitio_NewReader bitio_NewReader_b hapnS hapn
    rw [Nat.mul_one, hc]
    simp [unk, hal]
  · obtain ⟨H1, hH1⟩ : ∃ H1, H1 = H ++ [some (⟨byt bs, false, 1⟩ : Blk)] := ⟨_, rfl⟩
    have n1 : H1.length = H.length + 1 := by rw [hH1]; simp
    have o1 : Old H.length H H1 := hH1 ▸ Old.app _ _
    have e1 : ∀ (R : Type) (K : Option Addr → Nat → Nat → Heap → Option R), hapnS 1 1 H none 0 0 q bs.length K = K (some ⟨H.length, 0, none⟩) bs.length unk H1 := fun R K => by
      unfold hapnS hapn
      rw [Nat.mul_one, hc]
      simp only
      rw [if_neg (by unfold unk; omega), if_neg h0, if_neg (by omega), if_pos (by omega)]
      have : FW.hcells H none (0 * 1) = some [] := rfl
      rw [this, hH1]
      simp
    obtain ⟨H2, hH2⟩ : ∃ H2, H2 = H1 ++ [some ⟨[.bool true, .slice (some ⟨H.length, 0, none⟩) bs.length unk, .int .i64 0, .int .i64 0], false, 0⟩] := ⟨_, rfl⟩
    have o2 : Old H1.length H1 H2 := hH2 ▸ Old.app _ _
    have O1 : Owns H1 H.length (byt bs) 1 := by rw [hH1]; exact hblk_new H _
    have O2 : Owns H2 H1.length [.bool true, .slice (some ⟨H.length, 0, none⟩) bs.length unk, .int .i64 0, .int .i64 0] 0 := by rw [hH2]; exact hblk_new H1 _
    refine ⟨H1.length, some ⟨H.length, 0, none⟩, H2, fun R K => ?_, ⟨⟨unk, O2⟩, (O1.old o2 (by omega)).sees.shows, (fun a ha => by cases ha; simp only; omega), ⟨by simp, by simp, by simp⟩, hb⟩, o1.trans (o2.mono o1.1), by omega, fun a ha => by cases ha; simp only; omega⟩
    unfold bitio_NewReader bitio_NewReader_b
    repeat (first | (with_reducible refine (e1 _ _).trans ?_) | ((with_reducible refine go_ip (x := ?_) ?_ ?_); rotate_left 1; (first  | rfl)) | ((with_reducible refine go_bp (x := ?_) ?_ ?_); rotate_left 1; (first  | rfl)) | ((with_reducible refine go_lp (x := ?_) (l := ?_) (c := ?_) ?_ ?_); rotate_left 3; (first  | rfl)) | ((with_reducible refine go_pp (x := ?_) ?_ ?_); rotate_left 1; (first  | rfl)) | ((with_reducible refine go_i (x := ?_) ?_ ?_); rotate_left 1; (first  | rfl)) | ((with_reducible refine go_b (x := ?_) ?_ ?_); rotate_left 1; (first  | rfl)) | ((with_reducible refine go_l (x := ?_) (l := ?_) (c := ?_) ?_ ?_); rotate_left 3; (first  | rfl)) | ((with_reducible refine go_p (x := ?_) ?_ ?_); rotate_left 1; (first  | rfl)) | ((with_reducible refine go_halst hH2 ?_ ?_ ?_); rfl; rfl) | (with_reducible refine go_halN hH2 ?_) | ((with_reducible refine go_t ?_ ?_); (show _ = true; rfl)) | ((with_reducible refine go_f ?_ ?_); (show _ = false; rfl)) | (with_reducible refine go_ne ?_) | (with_reducible refine go_eq ?_) | (with_reducible refine go_fad ?_) | (with_reducible refine go_nil ?_))
    rfl
end Go.Proofs.Ytblkejnciinaeaa.Sh
/- Bitio: the reference's reader: new ones, a bit. -/
set_option linter.unusedVariables false
set_option linter.unusedSimpArgs false
namespace Go.Proofs.Ytblkejnciinaeaa.Sh
open Go.Proofs.Ytblkejnciinaeaa.FW Go.IntWalk
/-- The last steps of a bit. -/
theorem bit64 {bs : List Int} (hb : Byts bs) (a s : Nat) (hs : s ≤ 8) (R : Type) (K : Int → Option R) : hbin .shr .i64 (IntKind.wrap .i64 (bs.getD (a - 1) 0)) (IntKind.wrap .u64 ((s : Nat) : Int)) (fun n => hbin .and .i64 n 1 K) = K ((bitr bs a s : Nat) : Int) := by
  obtain ⟨n, h1, h2⟩ := hb.at (a - 1)
  have h3 : n / 2 ^ s ≤ n := Nat.div_le_self _ _
  unfold bitr
  rw [h1, w64 (by omega) (by omega), shr64 (by omega), Int.toNat_natCast]
  generalize n / 2 ^ s = d at h3 ⊢
  have := and64 (a := d) (b := 1) (by omega) (by omega) K
  rw [Nat.and_one_is_mod] at this
  exact this
theorem uGet_eq (k : Nat) {H : Heap} {p : Nat} {q : Option Addr} {bs : List Int} {s : Nat × Nat} (h : Rd H p q bs s) :
    ∃ H', (∀ (R : Type) (K : Int → Int → Heap → Option R), R09_Reader_Get k (some ⟨p, 0, none⟩) H K = K (rget bs s).1.1 (rget bs s).1.2 H') ∧ Rd H' p q bs (rget bs s).2 ∧ But p H H' := by
  obtain ⟨c, hO⟩ := h.c
  obtain ⟨a, l⟩ := s
  have hok := h.ok
  have ha := hok.a
  have hl7 := hok.l
  have hz := hok.z
  have hlen := h.by_.2
  have hr := rget_ok hok
  simp only at ha hl7 hz
  have m : ∀ o, hcell H p o = [Value.bool true, .slice q bs.length c, .int .i64 ((a : Nat) : Int), .int .i64 ((l : Nat) : Int)][o]? := fun o => hO.sees.cell o
  have tail : ∀ (H2 : Heap) (x y : Nat), Owns H2 p (rcl q bs.length c x (y + 1)) 0 → But p H H2 → 0 < x → x ≤ bs.length → y ≤ 7 →
      ∃ H', (∀ (R : Type) (K : Int → Int → Heap → Option R), (hnil (some ⟨p, 0, none⟩) fun p224 => hfad 3 p224 fun p225 => ldI .i64 H2 p225 fun n226 => hnil (some ⟨p, 0, none⟩) fun p227 => hfad 3 p227 fun p228 => hst1 H2 p228 (.int .i64 (IntKind.wrap .i64 (n226 - 1))) fun H229 => hnil (some ⟨p, 0, none⟩) fun p230 => hfad 1 p230 fun p231 => ldL H229 p231 fun q232 l233 c234 => hnil (some ⟨p, 0, none⟩) fun p235 => hfad 2 p235 fun p236 => ldI .i64 H229 p236 fun n237 => hidx q232 l233 (IntKind.wrap .i64 (n237 - 1)) 1 fun p238 => ldI .u8 H229 p238 fun n239 => hnil (some ⟨p, 0, none⟩) fun p240 => hfad 3 p240 fun p241 => ldI .i64 H229 p241 fun n242 => hbin .shr .i64 (IntKind.wrap .i64 n239) (IntKind.wrap .u64 n242) fun n243 => hbin .and .i64 n243 1 fun n244 => K n244 0 H229) = K ((bitr bs x y : Nat) : Int) 0 H') ∧ Owns H' p (rcl q bs.length c x y) 0 ∧ But p H H' := by
    intro H2 x y h2 b2 hx hxl hy
    obtain ⟨H3, e3, O3, b3, n3⟩ := Rd.st3 h2 y
    have w1 : IntKind.wrap .i64 (((y + 1 : Nat) : Int) - 1) = ((y : Nat) : Int) := by rw [w64 (by omega) (by omega)]; omega
    have w2 : IntKind.wrap .i64 (((x : Nat) : Int) - 1) = ((x - 1 : Nat) : Int) := by rw [w64 (by omega) (by omega)]; omega
    have m2 : ∀ o, hcell H2 p o = [Value.bool true, .slice q bs.length c, .int .i64 ((x : Nat) : Int), .int .i64 ((y + 1 : Nat) : Int)][o]? := fun o => h2.sees.cell o
    have m3 : ∀ o, hcell H3 p o = [Value.bool true, .slice q bs.length c, .int .i64 ((x : Nat) : Int), .int .i64 ((y : Nat) : Int)][o]? := fun o => O3.sees.cell o
    have sh3 : Shows H3 q (byt bs) := h.sh.but (b2.trans b3) h.ap
    obtain ⟨z, e4, e5⟩ := byte_at' sh3 (i := x - 1) (by omega)
    have e3' : ∀ (R : Type) (K : Heap → Option R), hst1 H2 (some ⟨p, 3, none⟩) (.int .i64 (IntKind.wrap .i64 (((y + 1 : Nat) : Int) - 1))) K = K H3 := by rw [w1]; exact e3
    have e4' : ∀ (R : Type) (K : Option Addr → Option R), hidx q bs.length (IntKind.wrap .i64 (((x : Nat) : Int) - 1)) 1 K = K z := by rw [w2]; exact e4
    refine ⟨H3, fun R K => ?_, O3, b2.trans b3⟩
    repeat (first | (with_reducible refine (e3' _ _).trans ?_) | (with_reducible refine (e4' _ _).trans ?_) | (with_reducible refine (e5 _ _).trans ?_) | ((with_reducible refine go_ip (x := ?_) ?_ ?_); rotate_left 1; (first | ((with_reducible refine (m2 _).trans ?_); rfl) | ((with_reducible refine (m3 _).trans ?_); rfl) | rfl)) | ((with_reducible refine go_bp (x := ?_) ?_ ?_); rotate_left 1; (first | ((with_reducible refine (m2 _).trans ?_); rfl) | ((with_reducible refine (m3 _).trans ?_); rfl) | rfl)) | ((with_reducible refine go_lp (x := ?_) (l := ?_) (c := ?_) ?_ ?_); rotate_left 3; (first | ((with_reducible refine (m2 _).trans ?_); rfl) | ((with_reducible refine (m3 _).trans ?_); rfl) | rfl)) | ((with_reducible refine go_pp (x := ?_) ?_ ?_); rotate_left 1; (first | ((with_reducible refine (m2 _).trans ?_); rfl) | ((with_reducible refine (m3 _).trans ?_); rfl) | rfl)) | ((with_reducible refine go_i (x := ?_) ?_ ?_); rotate_left 1; (first | ((with_reducible refine (m2 _).trans ?_); rfl) | ((with_reducible refine (m3 _).trans ?_); rfl) | rfl)) | ((with_reducible refine go_b (x := ?_) ?_ ?_); rotate_left 1; (first | ((with_reducible refine (m2 _).trans ?_); rfl) | ((with_reducible refine (m3 _).trans ?_); rfl) | rfl)) | ((with_reducible refine go_l (x := ?_) (l := ?_) (c := ?_) ?_ ?_); rotate_left 3; (first | ((with_reducible refine (m2 _).trans ?_); rfl) | ((with_reducible refine (m3 _).trans ?_); rfl) | rfl)) | ((with_reducible refine go_p (x := ?_) ?_ ?_); rotate_left 1; (first | ((with_reducible refine (m2 _).trans ?_); rfl) | ((with_reducible refine (m3 _).trans ?_); rfl) | rfl)) | ((with_reducible refine go_halst rfl ?_ ?_ ?_); rfl; rfl) | (with_reducible refine go_halN rfl ?_) | ((with_reducible refine go_t ?_ ?_); (show _ = true; rfl)) | ((with_reducible refine go_f ?_ ?_); (show _ = false; rfl)) | (with_reducible refine go_ne ?_) | (with_reducible refine go_eq ?_) | (with_reducible refine go_fad ?_) | (with_reducible refine go_nil ?_))
    exact bit64 h.by_ x y (by omega) R fun n => K n 0 H3
  by_cases hl0 : l = 0
  · subst hl0
    have d0 : (((0 : Nat) : Int) == 0) = true := rfl
    by_cases hat : a = bs.length
    · have d1 : decide (((a : Nat) : Int) ≥ ((bs.length : Nat) : Int)) = true := decide_eq_true (by omega)
      have er : rget bs (a, 0) = ((0, 7), a, 0) := by unfold rget; rw [if_pos rfl, if_pos hat]
      rw [er]
      refine ⟨H, fun R K => ?_, h, .refl _ _⟩
      unfold R09_Reader_Get R09_Reader_Get_b R09_Reader_Get_p0 R09_Reader_Get_p0_b R09_Reader_Get_p1 R09_Reader_Get_p1_b
      try dsimp only
      repeat (first | ((with_reducible refine go_ip (x := ?_) ?_ ?_); rotate_left 1; (first | ((with_reducible refine (m _).trans ?_); rfl) | rfl)) | ((with_reducible refine go_bp (x := ?_) ?_ ?_); rotate_left 1; (first | ((with_reducible refine (m _).trans ?_); rfl) | rfl)) | ((with_reducible refine go_lp (x := ?_) (l := ?_) (c := ?_) ?_ ?_); rotate_left 3; (first | ((with_reducible refine (m _).trans ?_); rfl) | rfl)) | ((with_reducible refine go_pp (x := ?_) ?_ ?_); rotate_left 1; (first | ((with_reducible refine (m _).trans ?_); rfl) | rfl)) | ((with_reducible refine go_i (x := ?_) ?_ ?_); rotate_left 1; (first | ((with_reducible refine (m _).trans ?_); rfl) | rfl)) | ((with_reducible refine go_b (x := ?_) ?_ ?_); rotate_left 1; (first | ((with_reducible refine (m _).trans ?_); rfl) | rfl)) | ((with_reducible refine go_l (x := ?_) (l := ?_) (c := ?_) ?_ ?_); rotate_left 3; (first | ((with_reducible refine (m _).trans ?_); rfl) | rfl)) | ((with_reducible refine go_p (x := ?_) ?_ ?_); rotate_left 1; (first | ((with_reducible refine (m _).trans ?_); rfl) | rfl)) | ((with_reducible refine go_halst rfl ?_ ?_ ?_); rfl; rfl) | (with_reducible refine go_halN rfl ?_) | (with_reducible refine go_t d0 ?_) | (with_reducible refine go_f d0 ?_) | (with_reducible refine go_t d1 ?_) | (with_reducible refine go_f d1 ?_) | ((with_reducible refine go_t ?_ ?_); (show _ = true; rfl)) | ((with_reducible refine go_f ?_ ?_); (show _ = false; rfl)) | (with_reducible refine go_ne ?_) | (with_reducible refine go_eq ?_) | (with_reducible refine go_fad ?_) | (with_reducible refine go_nil ?_))
      rfl
    · have d1 : decide (((a : Nat) : Int) ≥ ((bs.length : Nat) : Int)) = false := decide_eq_false (by omega)
      have hp2 : ∀ (R : Type) (KN : Option Addr → Int → Bool → Option R), R09_Reader_Get_p3 k (some ⟨p, 0, none⟩) 8 H KN = KN (some ⟨p, 0, none⟩) 8 (decide (szr bs a = 7)) := by
        intro R KN
        by_cases h0 : 0 < a
        · have d2 : decide (((a : Nat) : Int) > 0) = true := decide_eq_true (by omega)
          obtain ⟨z, e4, e5⟩ := byte_at' h.sh (i := a - 1) (by omega)
          have w2 : IntKind.wrap .i64 (((a : Nat) : Int) - 1) = ((a - 1 : Nat) : Int) := by rw [w64 (by omega) (by omega)]; omega
          have e4' : ∀ (R : Type) (K : Option Addr → Option R), hidx q bs.length (IntKind.wrap .i64 (((a : Nat) : Int) - 1)) 1 K = K z := by rw [w2]; exact e4
          have hs : decide (szr bs a = 7) = (bs.getD (a - 1) 0 == 255) := by
            unfold szr
            by_cases h255 : bs.getD (a - 1) 0 = 255
            · rw [if_pos ⟨h0, h255⟩, h255]; rfl
            · rw [if_neg fun hh => h255 hh.2]; symm; simpa using h255
          unfold R09_Reader_Get_p3 R09_Reader_Get_p3_b
          repeat (first | (with_reducible refine (e4' _ _).trans ?_) | (with_reducible refine (e5 _ _).trans ?_) | ((with_reducible refine go_ip (x := ?_) ?_ ?_); rotate_left 1; (first | ((with_reducible refine (m _).trans ?_); rfl) | rfl)) | ((with_reducible refine go_bp (x := ?_) ?_ ?_); rotate_left 1; (first | ((with_reducible refine (m _).trans ?_); rfl) | rfl)) | ((with_reducible refine go_lp (x := ?_) (l := ?_) (c := ?_) ?_ ?_); rotate_left 3; (first | ((with_reducible refine (m _).trans ?_); rfl) | rfl)) | ((with_reducible refine go_pp (x := ?_) ?_ ?_); rotate_left 1; (first | ((with_reducible refine (m _).trans ?_); rfl) | rfl)) | ((with_reducible refine go_i (x := ?_) ?_ ?_); rotate_left 1; (first | ((with_reducible refine (m _).trans ?_); rfl) | rfl)) | ((with_reducible refine go_b (x := ?_) ?_ ?_); rotate_left 1; (first | ((with_reducible refine (m _).trans ?_); rfl) | rfl)) | ((with_reducible refine go_l (x := ?_) (l := ?_) (c := ?_) ?_ ?_); rotate_left 3; (first | ((with_reducible refine (m _).trans ?_); rfl) | rfl)) | ((with_reducible refine go_p (x := ?_) ?_ ?_); rotate_left 1; (first | ((with_reducible refine (m _).trans ?_); rfl) | rfl)) | ((with_reducible refine go_halst rfl ?_ ?_ ?_); rfl; rfl) | (with_reducible refine go_halN rfl ?_) | (with_reducible refine go_t d2 ?_) | (with_reducible refine go_f d2 ?_) | ((with_reducible refine go_t ?_ ?_); (show _ = true; rfl)) | ((with_reducible refine go_f ?_ ?_); (show _ = false; rfl)) | (with_reducible refine go_ne ?_) | (with_reducible refine go_eq ?_) | (with_reducible refine go_fad ?_) | (with_reducible refine go_nil ?_))
          rw [hs]
        · have d2 : decide (((a : Nat) : Int) > 0) = false := decide_eq_false (by omega)
          have hs : decide (szr bs a = 7) = false := by unfold szr; rw [if_neg fun hh => h0 hh.1]; rfl
          unfold R09_Reader_Get_p3 R09_Reader_Get_p3_b
          repeat (first | ((with_reducible refine go_ip (x := ?_) ?_ ?_); rotate_left 1; (first | ((with_reducible refine (m _).trans ?_); rfl) | rfl)) | ((with_reducible refine go_bp (x := ?_) ?_ ?_); rotate_left 1; (first | ((with_reducible refine (m _).trans ?_); rfl) | rfl)) | ((with_reducible refine go_lp (x := ?_) (l := ?_) (c := ?_) ?_ ?_); rotate_left 3; (first | ((with_reducible refine (m _).trans ?_); rfl) | rfl)) | ((with_reducible refine go_pp (x := ?_) ?_ ?_); rotate_left 1; (first | ((with_reducible refine (m _).trans ?_); rfl) | rfl)) | ((with_reducible refine go_i (x := ?_) ?_ ?_); rotate_left 1; (first | ((with_reducible refine (m _).trans ?_); rfl) | rfl)) | ((with_reducible refine go_b (x := ?_) ?_ ?_); rotate_left 1; (first | ((with_reducible refine (m _).trans ?_); rfl) | rfl)) | ((with_reducible refine go_l (x := ?_) (l := ?_) (c := ?_) ?_ ?_); rotate_left 3; (first | ((with_reducible refine (m _).trans ?_); rfl) | rfl)) | ((with_reducible refine go_p (x := ?_) ?_ ?_); rotate_left 1; (first | ((with_reducible refine (m _).trans ?_); rfl) | rfl)) | ((with_reducible refine go_halst rfl ?_ ?_ ?_); rfl; rfl) | (with_reducible refine go_halN rfl ?_) | (with_reducible refine go_t d2 ?_) | (with_reducible refine go_f d2 ?_) | ((with_reducible refine go_t ?_ ?_); (show _ = true; rfl)) | ((with_reducible refine go_f ?_ ?_); (show _ = false; rfl)) | (with_reducible refine go_ne ?_) | (with_reducible refine go_eq ?_) | (with_reducible refine go_fad ?_) | (with_reducible refine go_nil ?_))
          rw [hs]
      obtain ⟨z, e4, e5⟩ := byte_at' h.sh (i := a) (by omega)
      by_cases hbad : szr bs a = 7 ∧ 128 ≤ bs.getD a 0
      · have er : rget bs (a, 0) = ((0, 8), a, 0) := by unfold rget; rw [if_pos rfl, if_neg hat, if_pos hbad]
        have d3 : decide (szr bs a = 7) = true := decide_eq_true hbad.1
        have d4 : decide (bs.getD a 0 ≥ 128) = true := decide_eq_true hbad.2
        rw [er]
        refine ⟨H, fun R K => ?_, h, .refl _ _⟩
        unfold R09_Reader_Get R09_Reader_Get_b R09_Reader_Get_p0 R09_Reader_Get_p0_b R09_Reader_Get_p1 R09_Reader_Get_p1_b R09_Reader_Get_p2 R09_Reader_Get_p2_b
        try dsimp only
        repeat (first | (with_reducible refine (hp2 _ _).trans ?_) | (with_reducible refine (e4 _ _).trans ?_) | (with_reducible refine (e5 _ _).trans ?_) | ((with_reducible refine go_ip (x := ?_) ?_ ?_); rotate_left 1; (first | ((with_reducible refine (m _).trans ?_); rfl) | rfl)) | ((with_reducible refine go_bp (x := ?_) ?_ ?_); rotate_left 1; (first | ((with_reducible refine (m _).trans ?_); rfl) | rfl)) | ((with_reducible refine go_lp (x := ?_) (l := ?_) (c := ?_) ?_ ?_); rotate_left 3; (first | ((with_reducible refine (m _).trans ?_); rfl) | rfl)) | ((with_reducible refine go_pp (x := ?_) ?_ ?_); rotate_left 1; (first | ((with_reducible refine (m _).trans ?_); rfl) | rfl)) | ((with_reducible refine go_i (x := ?_) ?_ ?_); rotate_left 1; (first | ((with_reducible refine (m _).trans ?_); rfl) | rfl)) | ((with_reducible refine go_b (x := ?_) ?_ ?_); rotate_left 1; (first | ((with_reducible refine (m _).trans ?_); rfl) | rfl)) | ((with_reducible refine go_l (x := ?_) (l := ?_) (c := ?_) ?_ ?_); rotate_left 3; (first | ((with_reducible refine (m _).trans ?_); rfl) | rfl)) | ((with_reducible refine go_p (x := ?_) ?_ ?_); rotate_left 1; (first | ((with_reducible refine (m _).trans ?_); rfl) | rfl)) | ((with_reducible refine go_halst rfl ?_ ?_ ?_); rfl; rfl) | (with_reducible refine go_halN rfl ?_) | (with_reducible refine go_t d0 ?_) | (with_reducible refine go_f d0 ?_) | (with_reducible refine go_t d1 ?_) | (with_reducible refine go_f d1 ?_) | (with_reducible refine go_t d3 ?_) | (with_reducible refine go_f d3 ?_) | (with_reducible refine go_t d4 ?_) | (with_reducible refine go_f d4 ?_) | ((with_reducible refine go_t ?_ ?_); (show _ = true; rfl)) | ((with_reducible refine go_f ?_ ?_); (show _ = false; rfl)) | (with_reducible refine go_ne ?_) | (with_reducible refine go_eq ?_) | (with_reducible refine go_fad ?_) | (with_reducible refine go_nil ?_))
        rfl
      · have er : rget bs (a, 0) = ((((bitr bs (a + 1) (szr bs a - 1) : Nat) : Int), 0), a + 1, szr bs a - 1) := by unfold rget; rw [if_pos rfl, if_neg hat, if_neg hbad]
        have hz7 := szr_ge bs a
        have hz8 := szr_le bs a
        have hp1 : ∀ (R : Type) (KN : Option Addr → Int → Option R) (KR : Int → Int → Option R), R09_Reader_Get_p2 k (some ⟨p, 0, none⟩) 8 H KN KR = KN (some ⟨p, 0, none⟩) ((szr bs a : Nat) : Int) := by
          intro R KN KR
          by_cases h7 : szr bs a = 7
          · have d3 : decide (szr bs a = 7) = true := decide_eq_true h7
            have d4 : decide (bs.getD a 0 ≥ 128) = false := decide_eq_false fun hh => hbad ⟨h7, hh⟩
            unfold R09_Reader_Get_p2 R09_Reader_Get_p2_b
            repeat (first | (with_reducible refine (hp2 _ _).trans ?_) | (with_reducible refine (e4 _ _).trans ?_) | (with_reducible refine (e5 _ _).trans ?_) | ((with_reducible refine go_ip (x := ?_) ?_ ?_); rotate_left 1; (first | ((with_reducible refine (m _).trans ?_); rfl) | rfl)) | ((with_reducible refine go_bp (x := ?_) ?_ ?_); rotate_left 1; (first | ((with_reducible refine (m _).trans ?_); rfl) | rfl)) | ((with_reducible refine go_lp (x := ?_) (l := ?_) (c := ?_) ?_ ?_); rotate_left 3; (first | ((with_reducible refine (m _).trans ?_); rfl) | rfl)) | ((with_reducible refine go_pp (x := ?_) ?_ ?_); rotate_left 1; (first | ((with_reducible refine (m _).trans ?_); rfl) | rfl)) | ((with_reducible refine go_i (x := ?_) ?_ ?_); rotate_left 1; (first | ((with_reducible refine (m _).trans ?_); rfl) | rfl)) | ((with_reducible refine go_b (x := ?_) ?_ ?_); rotate_left 1; (first | ((with_reducible refine (m _).trans ?_); rfl) | rfl)) | ((with_reducible refine go_l (x := ?_) (l := ?_) (c := ?_) ?_ ?_); rotate_left 3; (first | ((with_reducible refine (m _).trans ?_); rfl) | rfl)) | ((with_reducible refine go_p (x := ?_) ?_ ?_); rotate_left 1; (first | ((with_reducible refine (m _).trans ?_); rfl) | rfl)) | ((with_reducible refine go_halst rfl ?_ ?_ ?_); rfl; rfl) | (with_reducible refine go_halN rfl ?_) | (with_reducible refine go_t d3 ?_) | (with_reducible refine go_f d3 ?_) | (with_reducible refine go_t d4 ?_) | (with_reducible refine go_f d4 ?_) | ((with_reducible refine go_t ?_ ?_); (show _ = true; rfl)) | ((with_reducible refine go_f ?_ ?_); (show _ = false; rfl)) | (with_reducible refine go_ne ?_) | (with_reducible refine go_eq ?_) | (with_reducible refine go_fad ?_) | (with_reducible refine go_nil ?_))
            rw [h7]; rfl
          · have d3 : decide (szr bs a = 7) = false := decide_eq_false h7
            have h8 : szr bs a = 8 := by omega
            unfold R09_Reader_Get_p2 R09_Reader_Get_p2_b
            repeat (first | (with_reducible refine (hp2 _ _).trans ?_) | ((with_reducible refine go_ip (x := ?_) ?_ ?_); rotate_left 1; (first | ((with_reducible refine (m _).trans ?_); rfl) | rfl)) | ((with_reducible refine go_bp (x := ?_) ?_ ?_); rotate_left 1; (first | ((with_reducible refine (m _).trans ?_); rfl) | rfl)) | ((with_reducible refine go_lp (x := ?_) (l := ?_) (c := ?_) ?_ ?_); rotate_left 3; (first | ((with_reducible refine (m _).trans ?_); rfl) | rfl)) | ((with_reducible refine go_pp (x := ?_) ?_ ?_); rotate_left 1; (first | ((with_reducible refine (m _).trans ?_); rfl) | rfl)) | ((with_reducible refine go_i (x := ?_) ?_ ?_); rotate_left 1; (first | ((with_reducible refine (m _).trans ?_); rfl) | rfl)) | ((with_reducible refine go_b (x := ?_) ?_ ?_); rotate_left 1; (first | ((with_reducible refine (m _).trans ?_); rfl) | rfl)) | ((with_reducible refine go_l (x := ?_) (l := ?_) (c := ?_) ?_ ?_); rotate_left 3; (first | ((with_reducible refine (m _).trans ?_); rfl) | rfl)) | ((with_reducible refine go_p (x := ?_) ?_ ?_); rotate_left 1; (first | ((with_reducible refine (m _).trans ?_); rfl) | rfl)) | ((with_reducible refine go_halst rfl ?_ ?_ ?_); rfl; rfl) | (with_reducible refine go_halN rfl ?_) | (with_reducible refine go_t d3 ?_) | (with_reducible refine go_f d3 ?_) | ((with_reducible refine go_t ?_ ?_); (show _ = true; rfl)) | ((with_reducible refine go_f ?_ ?_); (show _ = false; rfl)) | (with_reducible refine go_ne ?_) | (with_reducible refine go_eq ?_) | (with_reducible refine go_fad ?_) | (with_reducible refine go_nil ?_))
            rw [h8]; rfl
        obtain ⟨H1, e1, O1, b1, n1⟩ := Rd.st2 hO (a + 1)
        obtain ⟨H2, e2, O2, b2, n2⟩ := Rd.st3 O1 (szr bs a)
        obtain ⟨H3, e3, O3, b3⟩ := tail H2 (a + 1) (szr bs a - 1) (by rw [show szr bs a - 1 + 1 = szr bs a from by omega]; exact O2) (b1.trans b2) (by omega) (by omega) (by omega)
        have w1 : IntKind.wrap .i64 (((a : Nat) : Int) + 1) = ((a + 1 : Nat) : Int) := by rw [w64 (by omega) (by omega)]; omega
        have e1' : ∀ (R : Type) (K : Heap → Option R), hst1 H (some ⟨p, 2, none⟩) (.int .i64 (IntKind.wrap .i64 (((a : Nat) : Int) + 1))) K = K H1 := by rw [w1]; exact e1
        rw [er] at hr ⊢
        refine ⟨H3, fun R K => ?_, ⟨⟨c, O3⟩, h.sh.but b3 h.ap, h.ap, hr, h.by_⟩, b3⟩
        unfold R09_Reader_Get R09_Reader_Get_b R09_Reader_Get_p0 R09_Reader_Get_p0_b R09_Reader_Get_p1 R09_Reader_Get_p1_b
        refine go_f rfl (go_nil (go_fad (go_b (m 0) (go_f rfl (go_nil (go_fad (go_i (m 3) (go_t d0 (go_nil (go_fad (go_i (m 2) (go_nil (go_fad (go_l (m 1) (go_f d1 ((hp1 _ _ _).trans ?_))))))))))))))))
        repeat (first | (with_reducible refine (e1' _ _).trans ?_) | (with_reducible refine (e2 _ _).trans ?_) | ((with_reducible refine go_ip (x := ?_) ?_ ?_); rotate_left 1; (first | ((with_reducible refine (m _).trans ?_); rfl) | rfl)) | ((with_reducible refine go_bp (x := ?_) ?_ ?_); rotate_left 1; (first | ((with_reducible refine (m _).trans ?_); rfl) | rfl)) | ((with_reducible refine go_lp (x := ?_) (l := ?_) (c := ?_) ?_ ?_); rotate_left 3; (first | ((with_reducible refine (m _).trans ?_); rfl) | rfl)) | ((with_reducible refine go_pp (x := ?_) ?_ ?_); rotate_left 1; (first | ((with_reducible refine (m _).trans ?_); rfl) | rfl)) | ((with_reducible refine go_i (x := ?_) ?_ ?_); rotate_left 1; (first | ((with_reducible refine (m _).trans ?_); rfl) | rfl)) | ((with_reducible refine go_b (x := ?_) ?_ ?_); rotate_left 1; (first | ((with_reducible refine (m _).trans ?_); rfl) | rfl)) | ((with_reducible refine go_l (x := ?_) (l := ?_) (c := ?_) ?_ ?_); rotate_left 3; (first | ((with_reducible refine (m _).trans ?_); rfl) | rfl)) | ((with_reducible refine go_p (x := ?_) ?_ ?_); rotate_left 1; (first | ((with_reducible refine (m _).trans ?_); rfl) | rfl)) | ((with_reducible refine go_halst rfl ?_ ?_ ?_); rfl; rfl) | (with_reducible refine go_halN rfl ?_) | (with_reducible refine go_t d0 ?_) | (with_reducible refine go_f d0 ?_) | (with_reducible refine go_t d1 ?_) | (with_reducible refine go_f d1 ?_) | ((with_reducible refine go_t ?_ ?_); (show _ = true; rfl)) | ((with_reducible refine go_f ?_ ?_); (show _ = false; rfl)) | (with_reducible refine go_ne ?_) | (with_reducible refine go_eq ?_) | (with_reducible refine go_fad ?_) | (with_reducible refine go_nil ?_))
        exact e3 R K
  · have d0 : (((l : Nat) : Int) == 0) = false := by rw [beq_eq_false_iff_ne]; omega
    have er : rget bs (a, l) = ((((bitr bs a (l - 1) : Nat) : Int), 0), a, l - 1) := by unfold rget; rw [if_neg hl0]
    obtain ⟨H3, e3, O3, b3⟩ := tail H a (l - 1) (by rw [show l - 1 + 1 = l from by omega]; exact hO) (.refl _ _) (by omega) (by omega) (by omega)
    rw [er] at hr ⊢
    refine ⟨H3, fun R K => ?_, ⟨⟨c, O3⟩, h.sh.but b3 h.ap, h.ap, hr, h.by_⟩, b3⟩
    unfold R09_Reader_Get R09_Reader_Get_b R09_Reader_Get_p0 R09_Reader_Get_p0_b R09_Reader_Get_p1 R09_Reader_Get_p1_b
    refine go_f rfl (go_nil (go_fad (go_b (m 0) (go_f rfl (go_nil (go_fad (go_i (m 3) (go_f d0 ?_))))))))
    exact e3 R K
/-- A new reader of the reference. -/
theorem uReader_eq {H : Heap} {q : Option Addr} {bs : List Int} (c : Nat) (hS : Shows H q (byt bs)) (hb : Byts bs) : ∃ p q' H', (∀ (R : Type) (K : Option Addr → Heap → Option R), R09_NewReader q bs.length c H K = K (some ⟨p, 0, none⟩) H') ∧ Rd H' p q' bs (0, 0) ∧ Old H.length H H' ∧ H.length ≤ p ∧ ∀ a, q' = some a → H.length ≤ a.block ∧ a.block < p := by
  have hl := hb.2
  obtain ⟨Ha, hHa⟩ : ∃ Ha, Ha = H ++ [some (⟨[], false, 0⟩ : Blk)] := ⟨_, rfl⟩
  have oa : Old H.length H Ha := hHa ▸ Old.app _ _
  have na : Ha.length = H.length + 1 := by rw [hHa]; simp
  have hc := (hS.keep oa).hcells
  rw [byt_len] at hc
  by_cases h0 : bs.length = 0
  · have : bs = [] := List.length_eq_zero_iff.1 h0
    subst this
    obtain ⟨H2, hH2⟩ : ∃ H2, H2 = Ha ++ [some ⟨[.bool true, .slice (some ⟨H.length, 0, none⟩) 0 0, .int .i64 0, .int .i64 0], false, 0⟩] := ⟨_, rfl⟩
    have o2 : Old Ha.length Ha H2 := hH2 ▸ Old.app _ _
    have O2 : Owns H2 Ha.length [.bool true, .slice (some ⟨H.length, 0, none⟩) 0 0, .int .i64 0, .int .i64 0] 0 := by rw [hH2]; exact hblk_new Ha _
    have e1 : ∀ (R : Type) (K : Option Addr → Nat → Nat → Heap → Option R), happS 1 1 Ha (some ⟨H.length, 0, none⟩) 0 0 q 0 K = K (some ⟨H.length, 0, none⟩) 0 0 Ha := fun R K => by
      have hc0 : FW.hcells Ha q 0 = some [] := by unfold FW.hcells; rfl
      unfold happS happ
      rw [Nat.zero_mul, hc0]
      simp only
      rw [if_neg (by unfold unk; omega), if_pos (by omega), if_pos trivial]
    refine ⟨Ha.length, some ⟨H.length, 0, none⟩, H2, fun R K => ?_, ⟨⟨0, O2⟩, .inl rfl, (fun a ha => by cases ha; simp only; omega), ⟨by simp, by simp, by simp⟩, hb⟩, oa.trans (o2.mono oa.1), by omega, fun a ha => by cases ha; simp only; omega⟩
    show R09_NewReader q 0 c H K = _
    unfold R09_NewReader R09_NewReader_b
    repeat (first | (with_reducible refine (e1 _ _).trans ?_) | ((with_reducible refine go_ip (x := ?_) ?_ ?_); rotate_left 1; (first  | rfl)) | ((with_reducible refine go_bp (x := ?_) ?_ ?_); rotate_left 1; (first  | rfl)) | ((with_reducible refine go_lp (x := ?_) (l := ?_) (c := ?_) ?_ ?_); rotate_left 3; (first  | rfl)) | ((with_reducible refine go_pp (x := ?_) ?_ ?_); rotate_left 1; (first  | rfl)) | ((with_reducible refine go_i (x := ?_) ?_ ?_); rotate_left 1; (first  | rfl)) | ((with_reducible refine go_b (x := ?_) ?_ ?_); rotate_left 1; (first  | rfl)) | ((with_reducible refine go_l (x := ?_) (l := ?_) (c := ?_) ?_ ?_); rotate_left 3; (first  | rfl)) | ((with_reducible refine go_p (x := ?_) ?_ ?_); rotate_left 1; (first  | rfl)) | ((with_reducible refine go_halst hHa ?_ ?_ ?_); rfl; rfl) | (with_reducible refine go_halN hHa ?_) | ((with_reducible refine go_halst hH2 ?_ ?_ ?_); rfl; rfl) | (with_reducible refine go_halN hH2 ?_) | ((with_reducible refine go_t ?_ ?_); (show _ = true; rfl)) | ((with_reducible refine go_f ?_ ?_); (show _ = false; rfl)) | (with_reducible refine go_ne ?_) | (with_reducible refine go_eq ?_) | (with_reducible refine go_fad ?_) | (with_reducible refine go_nil ?_))
    rfl
  · obtain ⟨H1, hH1⟩ : ∃ H1, H1 = Ha ++ [some (⟨byt bs, false, 1⟩ : Blk)] := ⟨_, rfl⟩
    have n1 : H1.length = Ha.length + 1 := by rw [hH1]; simp
    have o1 : Old Ha.length Ha H1 := hH1 ▸ Old.app _ _
    have e1 : ∀ (R : Type) (K : Option Addr → Nat → Nat → Heap → Option R), happS 1 1 Ha (some ⟨H.length, 0, none⟩) 0 0 q bs.length K = K (some ⟨Ha.length, 0, none⟩) bs.length unk H1 := fun R K => by
      unfold happS happ
      rw [Nat.mul_one, hc]
      simp only
      rw [if_neg (by unfold unk; omega), if_neg (by omega), if_pos (by omega)]
      have : FW.hcells Ha (some ⟨H.length, 0, none⟩) (0 * 1) = some [] := rfl
      rw [this, hH1]
      simp
    obtain ⟨H2, hH2⟩ : ∃ H2, H2 = H1 ++ [some ⟨[.bool true, .slice (some ⟨Ha.length, 0, none⟩) bs.length unk, .int .i64 0, .int .i64 0], false, 0⟩] := ⟨_, rfl⟩
    have o2 : Old H1.length H1 H2 := hH2 ▸ Old.app _ _
    have O1 : Owns H1 Ha.length (byt bs) 1 := by rw [hH1]; exact hblk_new Ha _
    have O2 : Owns H2 H1.length [.bool true, .slice (some ⟨Ha.length, 0, none⟩) bs.length unk, .int .i64 0, .int .i64 0] 0 := by rw [hH2]; exact hblk_new H1 _
    refine ⟨H1.length, some ⟨Ha.length, 0, none⟩, H2, fun R K => ?_, ⟨⟨unk, O2⟩, (O1.old o2 (by omega)).sees.shows, (fun a ha => by cases ha; simp only; omega), ⟨by simp, by simp, by simp⟩, hb⟩, oa.trans ((o1.trans (o2.mono o1.1)).mono oa.1), by omega, fun a ha => by cases ha; simp only; omega⟩
    unfold R09_NewReader R09_NewReader_b
    repeat (first | (with_reducible refine (e1 _ _).trans ?_) | ((with_reducible refine go_ip (x := ?_) ?_ ?_); rotate_left 1; (first  | rfl)) | ((with_reducible refine go_bp (x := ?_) ?_ ?_); rotate_left 1; (first  | rfl)) | ((with_reducible refine go_lp (x := ?_) (l := ?_) (c := ?_) ?_ ?_); rotate_left 3; (first  | rfl)) | ((with_reducible refine go_pp (x := ?_) ?_ ?_); rotate_left 1; (first  | rfl)) | ((with_reducible refine go_i (x := ?_) ?_ ?_); rotate_left 1; (first  | rfl)) | ((with_reducible refine go_b (x := ?_) ?_ ?_); rotate_left 1; (first  | rfl)) | ((with_reducible refine go_l (x := ?_) (l := ?_) (c := ?_) ?_ ?_); rotate_left 3; (first  | rfl)) | ((with_reducible refine go_p (x := ?_) ?_ ?_); rotate_left 1; (first  | rfl)) | ((with_reducible refine go_halst hHa ?_ ?_ ?_); rfl; rfl) | (with_reducible refine go_halN hHa ?_) | ((with_reducible refine go_halst hH2 ?_ ?_ ?_); rfl; rfl) | (with_reducible refine go_halN hH2 ?_) | ((with_reducible refine go_t ?_ ?_); (show _ = true; rfl)) | ((with_reducible refine go_f ?_ ?_); (show _ = false; rfl)) | (with_reducible refine go_ne ?_) | (with_reducible refine go_eq ?_) | (with_reducible refine go_fad ?_) | (with_reducible refine go_nil ?_))
    rfl
end Go.Proofs.Ytblkejnciinaeaa.Sh
/- Bitio: the reference's reader, its calls. -/
set_option linter.unusedVariables false
set_option linter.unusedSimpArgs false
namespace Go.Proofs.Ytblkejnciinaeaa.Sh
open Go.Proofs.Ytblkejnciinaeaa.FW Go.IntWalk
theorem uback_eq {H : Heap} {p : Nat} {q : Option Addr} {bs : List Int} {s s' : Nat × Nat} (h : Rd H p q bs s) (hs : Okr bs s') : ∃ H2, (∀ (R : Type) (K : Heap → Option R), R09_Reader_back (some ⟨p, 0, none⟩) ((s'.1 : Nat) : Int) ((s'.2 : Nat) : Int) H K = K H2) ∧ Rd H2 p q bs s' ∧ But p H H2 := by
  obtain ⟨H1, H2, e1, e2, R2, b2⟩ := h.undo hs
  refine ⟨H2, fun R K => ?_, R2, b2⟩
  unfold R09_Reader_back R09_Reader_back_b
  repeat (first | (with_reducible refine (e1 _ _).trans ?_) | (with_reducible refine (e2 _ _).trans ?_) | ((with_reducible refine go_ip (x := ?_) ?_ ?_); rotate_left 1; (first  | rfl)) | ((with_reducible refine go_bp (x := ?_) ?_ ?_); rotate_left 1; (first  | rfl)) | ((with_reducible refine go_lp (x := ?_) (l := ?_) (c := ?_) ?_ ?_); rotate_left 3; (first  | rfl)) | ((with_reducible refine go_pp (x := ?_) ?_ ?_); rotate_left 1; (first  | rfl)) | ((with_reducible refine go_i (x := ?_) ?_ ?_); rotate_left 1; (first  | rfl)) | ((with_reducible refine go_b (x := ?_) ?_ ?_); rotate_left 1; (first  | rfl)) | ((with_reducible refine go_l (x := ?_) (l := ?_) (c := ?_) ?_ ?_); rotate_left 3; (first  | rfl)) | ((with_reducible refine go_p (x := ?_) ?_ ?_); rotate_left 1; (first  | rfl)) | ((with_reducible refine go_halst rfl ?_ ?_ ?_); rfl; rfl) | (with_reducible refine go_halN rfl ?_) | ((with_reducible refine go_t ?_ ?_); (show _ = true; rfl)) | ((with_reducible refine go_f ?_ ?_); (show _ = false; rfl)) | (with_reducible refine go_ne ?_) | (with_reducible refine go_eq ?_) | (with_reducible refine go_fad ?_) | (with_reducible refine go_nil ?_))
  rfl
theorem uBits_rl (k : Nat) {p : Nat} {q : Option Addr} {bs : List Int} {s0 : Nat × Nat} (h0 : Okr bs s0) (w : Nat) (hw : w ≤ 40) : ∀ (m n i v : Nat), m < n → w = i + m → v < 2 ^ i → ∀ (H : Heap) (s : Nat × Nat), Rd H p q bs s →
    ∃ H', (∀ (R : Type) (KE : Int → Heap → Option R) (KR : Int → Int → Heap → Option R), R09_Reader_Bits_l2 k KE KR n (some ⟨p, 0, none⟩) (w : Int) ((s0.1 : Nat) : Int) ((s0.2 : Nat) : Int) (v : Int) (i : Int) H = if (back s0 (rbits bs m v s)).1.2 ≠ 0 then KR (back s0 (rbits bs m v s)).1.1 (back s0 (rbits bs m v s)).1.2 H' else KE (back s0 (rbits bs m v s)).1.1 H') ∧ Rd H' p q bs (back s0 (rbits bs m v s)).2 ∧ But p H H' ∧ ((back s0 (rbits bs m v s)).1.2 = 0 → ∃ u : Nat, (back s0 (rbits bs m v s)).1.1 = (u : Int) ∧ u < 2 ^ w) := by
  intro m
  induction m with
  | zero =>
    intro n i v hn hi hv H s h
    obtain ⟨n, rfl⟩ : ∃ n', n = n' + 1 := ⟨n - 1, by omega⟩
    have ed : decide ((i : Int) < (w : Int)) = false := decide_eq_false (by omega)
    refine ⟨H, fun R KE KR => ?_, h, .refl _ _, fun _ => ⟨v, rfl, by rw [hi]; exact hv⟩⟩
    unfold R09_Reader_Bits_l2 R09_Reader_Bits_l2_b
    exact go_f ed rfl
  | succ m ih =>
    intro n i v hn hi hv H s h
    obtain ⟨n, rfl⟩ : ∃ n', n = n' + 1 := ⟨n - 1, by omega⟩
    have ed : decide ((i : Int) < (w : Int)) = true := decide_eq_true (by omega)
    obtain ⟨H1, e1, R1, b1⟩ := uGet_eq k h
    have hb := rget_bit bs s
    by_cases he : (rget bs s).1.2 = 0
    · have d1 : ((rget bs s).1.2 != 0) = false := by rw [he]; rfl
      have er : rbits bs (m + 1) v s = rbits bs m (2 * v + bn (rget bs s).1.1) (rget bs s).2 := by rw [rbits, if_neg (fun hh => hh he)]
      have hbn := bn_le (rget bs s).1.1
      have hp : 2 ^ i ≤ 2 ^ 40 := Nat.pow_le_pow_right (by omega) (by omega)
      have hbe := bn_of hb.1
      obtain ⟨H2, e2, R2, b2, u2⟩ := ih n (i + 1) (2 * v + bn (rget bs s).1.1) (by omega) (by omega) (by rw [Nat.pow_succ]; omega) H1 _ R1
      have w0 : IntKind.wrap .i64 (IntKind.wrap .i64 (2 * (v : Int)) + (rget bs s).1.1) = ((2 * v + bn (rget bs s).1.1 : Nat) : Int) := by
        rw [w64 (n := 2 * (v : Int)) (by omega) (by omega), w64 (by omega) (by omega)]; omega
      have w1 : IntKind.wrap .i64 ((i : Int) + 1) = ((i + 1 : Nat) : Int) := by rw [w64 (by omega) (by omega)]; omega
      rw [er]
      refine ⟨H2, fun R KE KR => ?_, R2, b1.trans b2, u2⟩
      unfold R09_Reader_Bits_l2 R09_Reader_Bits_l2_b
      repeat (first | (with_reducible refine (e1 _ _).trans ?_) | ((with_reducible refine go_ip (x := ?_) ?_ ?_); rotate_left 1; (first  | rfl)) | ((with_reducible refine go_bp (x := ?_) ?_ ?_); rotate_left 1; (first  | rfl)) | ((with_reducible refine go_lp (x := ?_) (l := ?_) (c := ?_) ?_ ?_); rotate_left 3; (first  | rfl)) | ((with_reducible refine go_pp (x := ?_) ?_ ?_); rotate_left 1; (first  | rfl)) | ((with_reducible refine go_i (x := ?_) ?_ ?_); rotate_left 1; (first  | rfl)) | ((with_reducible refine go_b (x := ?_) ?_ ?_); rotate_left 1; (first  | rfl)) | ((with_reducible refine go_l (x := ?_) (l := ?_) (c := ?_) ?_ ?_); rotate_left 3; (first  | rfl)) | ((with_reducible refine go_p (x := ?_) ?_ ?_); rotate_left 1; (first  | rfl)) | ((with_reducible refine go_halst rfl ?_ ?_ ?_); rfl; rfl) | (with_reducible refine go_halN rfl ?_) | (with_reducible refine go_t ed ?_) | (with_reducible refine go_f ed ?_) | (with_reducible refine go_t d1 ?_) | (with_reducible refine go_f d1 ?_) | ((with_reducible refine go_t ?_ ?_); (show _ = true; rfl)) | ((with_reducible refine go_f ?_ ?_); (show _ = false; rfl)) | (with_reducible refine go_ne ?_) | (with_reducible refine go_eq ?_) | (with_reducible refine go_fad ?_) | (with_reducible refine go_nil ?_))
      try dsimp only
      rw [w1, w0]
      exact e2 _ _ _
    · have d1 : ((rget bs s).1.2 != 0) = true := by simpa using he
      have er : back s0 (rbits bs (m + 1) v s) = ((0, (rget bs s).1.2), s0) := by rw [rbits, if_pos he]; unfold back; rw [if_pos he]
      obtain ⟨H2, e2, R2, b2⟩ := uback_eq R1 h0
      rw [er]
      refine ⟨H2, fun R KE KR => ?_, R2, b1.trans b2, fun hh => (he hh).elim⟩
      rw [if_pos he]
      unfold R09_Reader_Bits_l2 R09_Reader_Bits_l2_b
      repeat (first | (with_reducible refine (e1 _ _).trans ?_) | (with_reducible refine (e2 _ _).trans ?_) | ((with_reducible refine go_ip (x := ?_) ?_ ?_); rotate_left 1; (first  | rfl)) | ((with_reducible refine go_bp (x := ?_) ?_ ?_); rotate_left 1; (first  | rfl)) | ((with_reducible refine go_lp (x := ?_) (l := ?_) (c := ?_) ?_ ?_); rotate_left 3; (first  | rfl)) | ((with_reducible refine go_pp (x := ?_) ?_ ?_); rotate_left 1; (first  | rfl)) | ((with_reducible refine go_i (x := ?_) ?_ ?_); rotate_left 1; (first  | rfl)) | ((with_reducible refine go_b (x := ?_) ?_ ?_); rotate_left 1; (first  | rfl)) | ((with_reducible refine go_l (x := ?_) (l := ?_) (c := ?_) ?_ ?_); rotate_left 3; (first  | rfl)) | ((with_reducible refine go_p (x := ?_) ?_ ?_); rotate_left 1; (first  | rfl)) | ((with_reducible refine go_halst rfl ?_ ?_ ?_); rfl; rfl) | (with_reducible refine go_halN rfl ?_) | (with_reducible refine go_t ed ?_) | (with_reducible refine go_f ed ?_) | (with_reducible refine go_t d1 ?_) | (with_reducible refine go_f d1 ?_) | ((with_reducible refine go_t ?_ ?_); (show _ = true; rfl)) | ((with_reducible refine go_f ?_ ?_); (show _ = false; rfl)) | (with_reducible refine go_ne ?_) | (with_reducible refine go_eq ?_) | (with_reducible refine go_fad ?_) | (with_reducible refine go_nil ?_))
      rfl
theorem uBitsR_eq {k : Nat} (hk : 100 < k) {H : Heap} {p : Nat} {q : Option Addr} {bs : List Int} {s : Nat × Nat} (h : Rd H p q bs s) (n : Int) :
    ∃ H', (∀ (R : Type) (K : Int → Int → Heap → Option R), R09_Reader_Bits k (some ⟨p, 0, none⟩) n H K = K (rB bs n s).1.1 (rB bs n s).1.2 H') ∧ Rd H' p q bs (rB bs n s).2 ∧ But p H H' ∧ ((rB bs n s).1.2 = 0 → ∃ u : Nat, (rB bs n s).1.1 = (u : Int) ∧ u < 2 ^ n.toNat) := by
  obtain ⟨c, hO⟩ := h.c
  have m : ∀ o, hcell H p o = (rcl q bs.length c s.1 s.2)[o]? := fun o => hO.sees.cell o
  by_cases c1 : n < 0
  · have d1 := decide_eq_true c1
    have er : rB bs n s = ((0, 1), s) := if_neg (by omega)
    rw [er]
    refine ⟨H, fun R K => ?_, h, .refl _ _, fun hh => by cases hh⟩
    unfold R09_Reader_Bits R09_Reader_Bits_b R09_Reader_Bits_p0 R09_Reader_Bits_p0_b R09_Reader_Bits_p1 R09_Reader_Bits_p1_b
    repeat (first | ((with_reducible refine go_ip (x := ?_) ?_ ?_); rotate_left 1; (first | ((with_reducible refine (m _).trans ?_); rfl) | rfl)) | ((with_reducible refine go_bp (x := ?_) ?_ ?_); rotate_left 1; (first | ((with_reducible refine (m _).trans ?_); rfl) | rfl)) | ((with_reducible refine go_lp (x := ?_) (l := ?_) (c := ?_) ?_ ?_); rotate_left 3; (first | ((with_reducible refine (m _).trans ?_); rfl) | rfl)) | ((with_reducible refine go_pp (x := ?_) ?_ ?_); rotate_left 1; (first | ((with_reducible refine (m _).trans ?_); rfl) | rfl)) | ((with_reducible refine go_i (x := ?_) ?_ ?_); rotate_left 1; (first | ((with_reducible refine (m _).trans ?_); rfl) | rfl)) | ((with_reducible refine go_b (x := ?_) ?_ ?_); rotate_left 1; (first | ((with_reducible refine (m _).trans ?_); rfl) | rfl)) | ((with_reducible refine go_l (x := ?_) (l := ?_) (c := ?_) ?_ ?_); rotate_left 3; (first | ((with_reducible refine (m _).trans ?_); rfl) | rfl)) | ((with_reducible refine go_p (x := ?_) ?_ ?_); rotate_left 1; (first | ((with_reducible refine (m _).trans ?_); rfl) | rfl)) | ((with_reducible refine go_halst rfl ?_ ?_ ?_); rfl; rfl) | (with_reducible refine go_halN rfl ?_) | (with_reducible refine go_t d1 ?_) | (with_reducible refine go_f d1 ?_) | ((with_reducible refine go_t ?_ ?_); (show _ = true; rfl)) | ((with_reducible refine go_f ?_ ?_); (show _ = false; rfl)) | (with_reducible refine go_ne ?_) | (with_reducible refine go_eq ?_) | (with_reducible refine go_fad ?_) | (with_reducible refine go_nil ?_))
    rfl
  have d1 := decide_eq_false c1
  by_cases c2 : n > 32
  · have d2 := decide_eq_true c2
    have er : rB bs n s = ((0, 1), s) := if_neg (by omega)
    rw [er]
    refine ⟨H, fun R K => ?_, h, .refl _ _, fun hh => by cases hh⟩
    unfold R09_Reader_Bits R09_Reader_Bits_b R09_Reader_Bits_p0 R09_Reader_Bits_p0_b R09_Reader_Bits_p1 R09_Reader_Bits_p1_b
    repeat (first | ((with_reducible refine go_ip (x := ?_) ?_ ?_); rotate_left 1; (first | ((with_reducible refine (m _).trans ?_); rfl) | rfl)) | ((with_reducible refine go_bp (x := ?_) ?_ ?_); rotate_left 1; (first | ((with_reducible refine (m _).trans ?_); rfl) | rfl)) | ((with_reducible refine go_lp (x := ?_) (l := ?_) (c := ?_) ?_ ?_); rotate_left 3; (first | ((with_reducible refine (m _).trans ?_); rfl) | rfl)) | ((with_reducible refine go_pp (x := ?_) ?_ ?_); rotate_left 1; (first | ((with_reducible refine (m _).trans ?_); rfl) | rfl)) | ((with_reducible refine go_i (x := ?_) ?_ ?_); rotate_left 1; (first | ((with_reducible refine (m _).trans ?_); rfl) | rfl)) | ((with_reducible refine go_b (x := ?_) ?_ ?_); rotate_left 1; (first | ((with_reducible refine (m _).trans ?_); rfl) | rfl)) | ((with_reducible refine go_l (x := ?_) (l := ?_) (c := ?_) ?_ ?_); rotate_left 3; (first | ((with_reducible refine (m _).trans ?_); rfl) | rfl)) | ((with_reducible refine go_p (x := ?_) ?_ ?_); rotate_left 1; (first | ((with_reducible refine (m _).trans ?_); rfl) | rfl)) | ((with_reducible refine go_halst rfl ?_ ?_ ?_); rfl; rfl) | (with_reducible refine go_halN rfl ?_) | (with_reducible refine go_t d1 ?_) | (with_reducible refine go_f d1 ?_) | (with_reducible refine go_t d2 ?_) | (with_reducible refine go_f d2 ?_) | ((with_reducible refine go_t ?_ ?_); (show _ = true; rfl)) | ((with_reducible refine go_f ?_ ?_); (show _ = false; rfl)) | (with_reducible refine go_ne ?_) | (with_reducible refine go_eq ?_) | (with_reducible refine go_fad ?_) | (with_reducible refine go_nil ?_))
    rfl
  have d2 := decide_eq_false c2
  obtain ⟨w, rfl⟩ : ∃ w : Nat, n = w := ⟨n.toNat, by omega⟩
  have er : rB bs (w : Int) s = back s (rbits bs w 0 s) := by unfold rB; rw [if_pos ⟨by omega, by omega⟩, Int.toNat_natCast]
  obtain ⟨H3, e3, R3, b3, u3⟩ := uBits_rl k h.ok w (by omega) w k 0 0 (by omega) (by omega) (by simp) H s h
  simp only [Int.natCast_zero] at e3
  rw [er, Int.toNat_natCast]
  refine ⟨H3, fun R K => ?_, R3, b3, u3⟩
  unfold R09_Reader_Bits R09_Reader_Bits_b R09_Reader_Bits_p0 R09_Reader_Bits_p0_b R09_Reader_Bits_p1 R09_Reader_Bits_p1_b
  repeat (first | ((with_reducible refine go_ip (x := ?_) ?_ ?_); rotate_left 1; (first | ((with_reducible refine (m _).trans ?_); rfl) | rfl)) | ((with_reducible refine go_bp (x := ?_) ?_ ?_); rotate_left 1; (first | ((with_reducible refine (m _).trans ?_); rfl) | rfl)) | ((with_reducible refine go_lp (x := ?_) (l := ?_) (c := ?_) ?_ ?_); rotate_left 3; (first | ((with_reducible refine (m _).trans ?_); rfl) | rfl)) | ((with_reducible refine go_pp (x := ?_) ?_ ?_); rotate_left 1; (first | ((with_reducible refine (m _).trans ?_); rfl) | rfl)) | ((with_reducible refine go_i (x := ?_) ?_ ?_); rotate_left 1; (first | ((with_reducible refine (m _).trans ?_); rfl) | rfl)) | ((with_reducible refine go_b (x := ?_) ?_ ?_); rotate_left 1; (first | ((with_reducible refine (m _).trans ?_); rfl) | rfl)) | ((with_reducible refine go_l (x := ?_) (l := ?_) (c := ?_) ?_ ?_); rotate_left 3; (first | ((with_reducible refine (m _).trans ?_); rfl) | rfl)) | ((with_reducible refine go_p (x := ?_) ?_ ?_); rotate_left 1; (first | ((with_reducible refine (m _).trans ?_); rfl) | rfl)) | ((with_reducible refine go_halst rfl ?_ ?_ ?_); rfl; rfl) | (with_reducible refine go_halN rfl ?_) | (with_reducible refine go_t d1 ?_) | (with_reducible refine go_f d1 ?_) | (with_reducible refine go_t d2 ?_) | (with_reducible refine go_f d2 ?_) | ((with_reducible refine go_t ?_ ?_); (show _ = true; rfl)) | ((with_reducible refine go_f ?_ ?_); (show _ = false; rfl)) | (with_reducible refine go_ne ?_) | (with_reducible refine go_eq ?_) | (with_reducible refine go_fad ?_) | (with_reducible refine go_nil ?_))
  refine (e3 _ _ _).trans ?_
  split
  · rfl
  · rename_i hh
    have : (back s (rbits bs w 0 s)).1.2 = 0 := Decidable.byContradiction fun x => hh x
    rw [this]
end Go.Proofs.Ytblkejnciinaeaa.Sh
/- Bitio: the program's writer, a bit at a time. -/
set_option linter.unusedVariables false
set_option linter.unusedSimpArgs false
namespace Go.Proofs.Ytblkejnciinaeaa.Sh
open Go.Proofs.Ytblkejnciinaeaa.FW Go.IntWalk
/-- The bits of the byte behind these. -/
def sz (b : List Int) : Nat := if b.getLast? = some 255 then 7 else 8
theorem sz_le (b : List Int) : sz b ≤ 8 := by unfold sz; split <;> omega
theorem sz_ge (b : List Int) : 7 ≤ sz b := by unfold sz; split <;> omega
theorem sz_snoc (b : List Int) (x : Int) : sz (b ++ [x]) = if x = 255 then 7 else 8 := by unfold sz; simp
/-- Bytes that these bits fill. -/
inductive Full : List Int → List Int → Prop
  | nil : Full [] []
  | snoc {b pre c : List Int} : Full b pre → c.length = sz b → Full (b ++ [(val c : Int)]) (pre ++ c)
def wcl (q : Option Addr) (c : Nat) (b t : List Int) (n : Nat) : List Value := [.bool true, .slice q b.length c, .int .u8 ((val t : Nat) : Int), .int .i64 ((t.length : Nat) : Int), .int .i64 ((sz b : Nat) : Int), .int .i64 ((n : Nat) : Int)]
/-- The program's writer: the bits that it was given. -/
structure Wr (N : Nat) (H : Heap) (p : Nat) (q : Option Addr) (l : List Int) : Prop where
  c : ∃ c b pre t, l = pre ++ t ∧ Full b pre ∧ t.length < sz b ∧ Owns H p (wcl q c b t l.length) 0 ∧ Bld N 1 H q b.length c (byt b) ∧ b.length ≤ l.length
  low : N ≤ p
  apt : ∀ a, q = some a → a.block ≠ p
  b01 : B01 l
theorem Wr.lt {N : Nat} {H : Heap} {p : Nat} {q : Option Addr} {l : List Int} (h : Wr N H p q l) : p < H.length := by obtain ⟨c, b, pre, t, _, _, _, h1, _⟩ := h.c; exact h1.lt
theorem Wr.qlt {N : Nat} {H : Heap} {p : Nat} {q : Option Addr} {l : List Int} (h : Wr N H p q l) : ∀ a, q = some a → a.block < H.length := by obtain ⟨c, b, pre, t, _, _, _, _, h1, _⟩ := h.c; exact h1.below
theorem Bld.qlow {N sz l c : Nat} {H : Heap} {q : Option Addr} {cs : List Value} (h1 : Bld N sz H q l c cs) : ∀ a, q = some a → N ≤ a.block := by
  rcases h1 with ⟨rfl, _⟩ | ⟨b, rfl, _, h3, _⟩
  · intro a ha; cases ha
  · intro a ha; cases ha; exact h3
theorem Wr.qlow {N : Nat} {H : Heap} {p : Nat} {q : Option Addr} {l : List Int} (h : Wr N H p q l) : ∀ a, q = some a → N ≤ a.block := by
  obtain ⟨c, b, pre, t, _, _, _, _, h1, _⟩ := h.c; exact Bld.qlow h1
theorem Wr.stp {N : Nat} {H H' : Heap} {p p2 : Nat} {q q' q2 : Option Addr} {l : List Int} (h : Wr N H p2 q2 l) (s : Stp p q H q' H') (a : Apt p q p2 q2) : Wr N H' p2 q2 l := by
  obtain ⟨c, b, pre, t, e1, e2, e3, h1, h2, e4⟩ := h.c
  exact ⟨⟨c, b, pre, t, e1, e2, e3, Owns.stp s h1 a.1.symm a.2.1, Bld.stp s h2 a.2.2.1 a.2.2.2, e4⟩, h.low, h.apt, h.b01⟩
theorem Full.len {b pre : List Int} (h : Full b pre) : b.length ≤ pre.length := by
  induction h with
  | nil => simp
  | @snoc b pre c h e ih => have := sz_ge b; rw [List.length_append, List.length_append]; simp only [List.length_cons, List.length_nil]; omega
theorem Full.byte {b pre : List Int} (h : Full b pre) : ∀ x ∈ b, 0 ≤ x ∧ x ≤ 255 := by
  induction h with
  | nil => intro x hx; cases hx
  | @snoc b pre c h e ih =>
    intro x hx
    rcases List.mem_append.1 hx with h1 | h1
    · exact ih x h1
    · simp only [List.mem_singleton] at h1
      subst h1
      have := val_lt c
      have h8 : 2 ^ c.length ≤ 2 ^ 8 := Nat.pow_le_pow_right (by omega) (by have := sz_le b; omega)
      omega
theorem shx {t : List Int} {x : Int} (ht : t.length < 8) (hx : x = 0 ∨ x = 1) (R : Type) (K : Int → Option R) : hbin .or .u8 (IntKind.wrap .u8 (((val t : Nat) : Int) * 2)) (IntKind.wrap .u8 x) K = K ((val (t ++ [x]) : Nat) : Int) := by
  have h1 := val_lt t
  have h2 : 2 ^ t.length ≤ 2 ^ 7 := Nat.pow_le_pow_right (by omega) (by omega)
  have e1 : IntKind.wrap .u8 (((val t : Nat) : Int) * 2) = ((2 ^ 1 * val t : Nat) : Int) := by rw [u8_in _ ⟨by omega, by omega⟩]; omega
  have e2 : IntKind.wrap .u8 x = ((bn x : Nat) : Int) := by rw [← bn_of hx, u8_in _ ⟨by omega, by omega⟩]
  have hb := bn_le x
  rw [e1, e2, or8 (by omega) (by omega), ← Nat.two_pow_add_eq_or_of_lt (i := 1) (by omega), val_snoc]
theorem put_eq (k : Nat) {N : Nat} {H : Heap} {p : Nat} {q : Option Addr} {l : List Int} (h : Wr N H p q l) (hN : N ≤ H.length) (hl : l.length < 1000000) {x : Int} (hx : x = 0 ∨ x = 1) :
    ∃ q' H', (∀ (R : Type) (K : Heap → Option R), bitio_Writer_put k (some ⟨p, 0, none⟩) x H K = K H') ∧ Wr N H' p q' (l ++ [x]) ∧ Stp p q H q' H' := by
  obtain ⟨c, b, pre, t, rfl, hF, ht, hO, hB, hbl⟩ := h.c
  have hs8 := sz_le b
  have hs7 := sz_ge b
  have htl : t.length ≤ (pre ++ t).length := by simp
  have m : ∀ o, hcell H p o = (wcl q c b t (pre ++ t).length)[o]? := fun o => hO.sees.cell o
  have s0 := shx (t := t) (x := x) (by omega) hx
  obtain ⟨H1, e1, O1, B1, n1⟩ := Owns.st1 (o := 2) hO (by simp [wcl]) (.int .u8 ((val (t ++ [x]) : Nat) : Int))
  obtain ⟨H2, e2, O2, B2, n2⟩ := Owns.st1 (o := 3) O1 (by simp [wcl]) (.int .i64 (((t.length : Nat) : Int) + 1))
  obtain ⟨H3, e3, O3, B3, n3⟩ := Owns.st1 (o := 5) O2 (by simp [wcl]) (.int .i64 ((((pre ++ t).length : Nat) : Int) + 1))
  have hlen : (((pre ++ t ++ [x]).length : Nat) : Int) = (((pre ++ t).length : Nat) : Int) + 1 := by simp only [List.length_append, List.length_cons, List.length_nil]; omega
  have O3' : Owns H3 p [.bool true, .slice q b.length c, .int .u8 ((val (t ++ [x]) : Nat) : Int), .int .i64 (((t.length : Nat) : Int) + 1), .int .i64 ((sz b : Nat) : Int), .int .i64 ((((pre ++ t).length : Nat) : Int) + 1)] 0 := O3
  have m1 : ∀ o, hcell H1 p o = [Value.bool true, .slice q b.length c, .int .u8 ((val (t ++ [x]) : Nat) : Int), .int .i64 ((t.length : Nat) : Int), .int .i64 ((sz b : Nat) : Int), .int .i64 (((pre ++ t).length : Nat) : Int)][o]? := fun o => O1.sees.cell o
  have m2 : ∀ o, hcell H2 p o = [Value.bool true, .slice q b.length c, .int .u8 ((val (t ++ [x]) : Nat) : Int), .int .i64 (((t.length : Nat) : Int) + 1), .int .i64 ((sz b : Nat) : Int), .int .i64 (((pre ++ t).length : Nat) : Int)][o]? := fun o => O2.sees.cell o
  have m3 : ∀ o, hcell H3 p o = [Value.bool true, .slice q b.length c, .int .u8 ((val (t ++ [x]) : Nat) : Int), .int .i64 (((t.length : Nat) : Int) + 1), .int .i64 ((sz b : Nat) : Int), .int .i64 ((((pre ++ t).length : Nat) : Int) + 1)][o]? := fun o => O3.sees.cell o
  have w1 : IntKind.wrap .i64 (((t.length : Nat) : Int) + 1) = ((t.length : Nat) : Int) + 1 := w64 (by omega) (by omega)
  have w2 : IntKind.wrap .i64 ((((pre ++ t).length : Nat) : Int) + 1) = (((pre ++ t).length : Nat) : Int) + 1 := w64 (by omega) (by omega)
  have B13 : But p H H3 := (B1.trans B2).trans B3
  have e2' : ∀ (R : Type) (K : Heap → Option R), hst1 H1 (some ⟨p, 3, none⟩) (.int .i64 (IntKind.wrap .i64 (((t.length : Nat) : Int) + 1))) K = K H2 := by rw [w1]; exact e2
  have e3' : ∀ (R : Type) (K : Heap → Option R), hst1 H2 (some ⟨p, 5, none⟩) (.int .i64 (IntKind.wrap .i64 ((((pre ++ t).length : Nat) : Int) + 1))) K = K H3 := by rw [w2]; exact e3
  have hB3 : Bld N 1 H3 q b.length c (byt b) := Bld.stp (Stp.of_but (q := none) B13) hB h.apt (fun a b ha => by cases ha)
  have hb1 : B01 (pre ++ t ++ [x]) := h.b01.app (.one hx)
  have htx : (t ++ [x]).length = t.length + 1 := by simp
  by_cases hc : t.length + 1 < sz b
  · have ed : decide (((t.length : Nat) : Int) + 1 < ((sz b : Nat) : Int)) = true := decide_eq_true (by omega)
    refine ⟨q, H3, fun R K => ?_, ⟨⟨c, b, pre, t ++ [x], by simp, hF, by rw [htx]; exact hc, ?_, hB3, by rw [List.length_append]; omega⟩, h.low, h.apt, hb1⟩, .of_but B13⟩
    · unfold bitio_Writer_put bitio_Writer_put_b
      repeat (first | (with_reducible refine (s0 _ _).trans ?_) | (with_reducible refine (e1 _ _).trans ?_) | (with_reducible refine (e2' _ _).trans ?_) | (with_reducible refine (e3' _ _).trans ?_) | ((with_reducible refine go_ip (x := ?_) ?_ ?_); rotate_left 1; (first | ((with_reducible refine (m _).trans ?_); rfl) | ((with_reducible refine (m1 _).trans ?_); rfl) | ((with_reducible refine (m2 _).trans ?_); rfl) | ((with_reducible refine (m3 _).trans ?_); rfl) | rfl)) | ((with_reducible refine go_bp (x := ?_) ?_ ?_); rotate_left 1; (first | ((with_reducible refine (m _).trans ?_); rfl) | ((with_reducible refine (m1 _).trans ?_); rfl) | ((with_reducible refine (m2 _).trans ?_); rfl) | ((with_reducible refine (m3 _).trans ?_); rfl) | rfl)) | ((with_reducible refine go_lp (x := ?_) (l := ?_) (c := ?_) ?_ ?_); rotate_left 3; (first | ((with_reducible refine (m _).trans ?_); rfl) | ((with_reducible refine (m1 _).trans ?_); rfl) | ((with_reducible refine (m2 _).trans ?_); rfl) | ((with_reducible refine (m3 _).trans ?_); rfl) | rfl)) | ((with_reducible refine go_pp (x := ?_) ?_ ?_); rotate_left 1; (first | ((with_reducible refine (m _).trans ?_); rfl) | ((with_reducible refine (m1 _).trans ?_); rfl) | ((with_reducible refine (m2 _).trans ?_); rfl) | ((with_reducible refine (m3 _).trans ?_); rfl) | rfl)) | ((with_reducible refine go_i (x := ?_) ?_ ?_); rotate_left 1; (first | ((with_reducible refine (m _).trans ?_); rfl) | ((with_reducible refine (m1 _).trans ?_); rfl) | ((with_reducible refine (m2 _).trans ?_); rfl) | ((with_reducible refine (m3 _).trans ?_); rfl) | rfl)) | ((with_reducible refine go_b (x := ?_) ?_ ?_); rotate_left 1; (first | ((with_reducible refine (m _).trans ?_); rfl) | ((with_reducible refine (m1 _).trans ?_); rfl) | ((with_reducible refine (m2 _).trans ?_); rfl) | ((with_reducible refine (m3 _).trans ?_); rfl) | rfl)) | ((with_reducible refine go_l (x := ?_) (l := ?_) (c := ?_) ?_ ?_); rotate_left 3; (first | ((with_reducible refine (m _).trans ?_); rfl) | ((with_reducible refine (m1 _).trans ?_); rfl) | ((with_reducible refine (m2 _).trans ?_); rfl) | ((with_reducible refine (m3 _).trans ?_); rfl) | rfl)) | ((with_reducible refine go_p (x := ?_) ?_ ?_); rotate_left 1; (first | ((with_reducible refine (m _).trans ?_); rfl) | ((with_reducible refine (m1 _).trans ?_); rfl) | ((with_reducible refine (m2 _).trans ?_); rfl) | ((with_reducible refine (m3 _).trans ?_); rfl) | rfl)) | ((with_reducible refine go_halst rfl ?_ ?_ ?_); rfl; rfl) | (with_reducible refine go_halN rfl ?_) | (with_reducible refine go_t ed ?_) | (with_reducible refine go_f ed ?_) | ((with_reducible refine go_t ?_ ?_); (show _ = true; rfl)) | ((with_reducible refine go_f ?_ ?_); (show _ = false; rfl)) | (with_reducible refine go_ne ?_) | (with_reducible refine go_eq ?_) | (with_reducible refine go_fad ?_) | (with_reducible refine go_nil ?_))
      rfl
    · unfold wcl; rw [htx, hlen]; exact O3'
  · have ed : decide (((t.length : Nat) : Int) + 1 < ((sz b : Nat) : Int)) = false := decide_eq_false (by omega)
    have hF' : Full (b ++ [((val (t ++ [x]) : Nat) : Int)]) (pre ++ (t ++ [x])) := .snoc hF (by omega)
    have hbl' := hF'.len
    have hbl2 := hF.len
    have hll : (pre ++ t).length = pre.length + t.length := List.length_append
    obtain ⟨H4, e4, B4, n4, s4⟩ := app1 (bytes := 1) hB3 (by omega) (.int .u8 ((val (t ++ [x]) : Nat) : Int)) (by omega)
    have hp := hO.lt
    have O4 : Owns H4 p [.bool true, .slice q b.length c, .int .u8 ((val (t ++ [x]) : Nat) : Int), .int .i64 (((t.length : Nat) : Int) + 1), .int .i64 ((sz b : Nat) : Int), .int .i64 ((((pre ++ t).length : Nat) : Int) + 1)] 0 := by
      unfold Owns at *; rw [s4 p (by omega) h.apt]; exact O3'
    obtain ⟨H5, e5, O5, B5, n5⟩ := Owns.st1 (o := 1) O4 (by simp) (.slice (some ⟨H3.length + 1, 0, none⟩) (b.length + 1) unk)
    obtain ⟨H6, e6, O6, B6, n6⟩ := Owns.st1 (o := 4) O5 (by simp) (.int .i64 8)
    have m6 : ∀ o, hcell H6 p o = [Value.bool true, .slice (some ⟨H3.length + 1, 0, none⟩) (b.length + 1) unk, .int .u8 ((val (t ++ [x]) : Nat) : Int), .int .i64 (((t.length : Nat) : Int) + 1), .int .i64 8, .int .i64 ((((pre ++ t).length : Nat) : Int) + 1)][o]? := fun o => O6.sees.cell o
    have mb : hcell (H3 ++ [some (⟨[.int .u8 ((val (t ++ [x]) : Nat) : Int)], false, 0⟩ : Blk)]) p 1 = some (.slice q b.length c) := by rw [hcell_old (by omega)]; exact m3 1
    obtain ⟨H7, O7, B7, n7, g7⟩ : ∃ H7, Owns H7 p [.bool true, .slice (some ⟨H3.length + 1, 0, none⟩) (b.length + 1) unk, .int .u8 ((val (t ++ [x]) : Nat) : Int), .int .i64 (((t.length : Nat) : Int) + 1), .int .i64 ((sz (b ++ [((val (t ++ [x]) : Nat) : Int)]) : Nat) : Int), .int .i64 ((((pre ++ t).length : Nat) : Int) + 1)] 0 ∧ But p H6 H7 ∧ H7.length = H6.length ∧
        ∀ (R : Type) (KN : Option Addr → Heap → Option R), bitio_Writer_put_p0 k (some ⟨p, 0, none⟩) H6 KN = KN (some ⟨p, 0, none⟩) H7 := by
      rw [sz_snoc]
      by_cases h255 : ((val (t ++ [x]) : Nat) : Int) = 255
      · obtain ⟨H7, e7, O7, B7, n7⟩ := Owns.st1 (o := 4) O6 (by simp) (.int .i64 7)
        have hc : (((val (t ++ [x]) : Nat) : Int) == 255) = true := by rw [h255]; rfl
        rw [if_pos h255]
        refine ⟨H7, O7, B7, n7, fun R KN => ?_⟩
        unfold bitio_Writer_put_p0 bitio_Writer_put_p0_b
        repeat (first | (with_reducible refine (e7 _ _).trans ?_) | ((with_reducible refine go_ip (x := ?_) ?_ ?_); rotate_left 1; (first | ((with_reducible refine (m6 _).trans ?_); rfl) | rfl)) | ((with_reducible refine go_bp (x := ?_) ?_ ?_); rotate_left 1; (first | ((with_reducible refine (m6 _).trans ?_); rfl) | rfl)) | ((with_reducible refine go_lp (x := ?_) (l := ?_) (c := ?_) ?_ ?_); rotate_left 3; (first | ((with_reducible refine (m6 _).trans ?_); rfl) | rfl)) | ((with_reducible refine go_pp (x := ?_) ?_ ?_); rotate_left 1; (first | ((with_reducible refine (m6 _).trans ?_); rfl) | rfl)) | ((with_reducible refine go_i (x := ?_) ?_ ?_); rotate_left 1; (first | ((with_reducible refine (m6 _).trans ?_); rfl) | rfl)) | ((with_reducible refine go_b (x := ?_) ?_ ?_); rotate_left 1; (first | ((with_reducible refine (m6 _).trans ?_); rfl) | rfl)) | ((with_reducible refine go_l (x := ?_) (l := ?_) (c := ?_) ?_ ?_); rotate_left 3; (first | ((with_reducible refine (m6 _).trans ?_); rfl) | rfl)) | ((with_reducible refine go_p (x := ?_) ?_ ?_); rotate_left 1; (first | ((with_reducible refine (m6 _).trans ?_); rfl) | rfl)) | ((with_reducible refine go_halst rfl ?_ ?_ ?_); rfl; rfl) | (with_reducible refine go_halN rfl ?_) | (with_reducible refine go_t hc ?_) | (with_reducible refine go_f hc ?_) | ((with_reducible refine go_t ?_ ?_); (show _ = true; rfl)) | ((with_reducible refine go_f ?_ ?_); (show _ = false; rfl)) | (with_reducible refine go_ne ?_) | (with_reducible refine go_eq ?_) | (with_reducible refine go_fad ?_) | (with_reducible refine go_nil ?_))
        rfl
      · have hc : (((val (t ++ [x]) : Nat) : Int) == 255) = false := by simpa using h255
        rw [if_neg h255]
        refine ⟨H6, O6, .refl _ _, rfl, fun R KN => ?_⟩
        unfold bitio_Writer_put_p0 bitio_Writer_put_p0_b
        repeat (first | ((with_reducible refine go_ip (x := ?_) ?_ ?_); rotate_left 1; (first | ((with_reducible refine (m6 _).trans ?_); rfl) | rfl)) | ((with_reducible refine go_bp (x := ?_) ?_ ?_); rotate_left 1; (first | ((with_reducible refine (m6 _).trans ?_); rfl) | rfl)) | ((with_reducible refine go_lp (x := ?_) (l := ?_) (c := ?_) ?_ ?_); rotate_left 3; (first | ((with_reducible refine (m6 _).trans ?_); rfl) | rfl)) | ((with_reducible refine go_pp (x := ?_) ?_ ?_); rotate_left 1; (first | ((with_reducible refine (m6 _).trans ?_); rfl) | rfl)) | ((with_reducible refine go_i (x := ?_) ?_ ?_); rotate_left 1; (first | ((with_reducible refine (m6 _).trans ?_); rfl) | rfl)) | ((with_reducible refine go_b (x := ?_) ?_ ?_); rotate_left 1; (first | ((with_reducible refine (m6 _).trans ?_); rfl) | rfl)) | ((with_reducible refine go_l (x := ?_) (l := ?_) (c := ?_) ?_ ?_); rotate_left 3; (first | ((with_reducible refine (m6 _).trans ?_); rfl) | rfl)) | ((with_reducible refine go_p (x := ?_) ?_ ?_); rotate_left 1; (first | ((with_reducible refine (m6 _).trans ?_); rfl) | rfl)) | ((with_reducible refine go_halst rfl ?_ ?_ ?_); rfl; rfl) | (with_reducible refine go_halN rfl ?_) | (with_reducible refine go_t hc ?_) | (with_reducible refine go_f hc ?_) | ((with_reducible refine go_t ?_ ?_); (show _ = true; rfl)) | ((with_reducible refine go_f ?_ ?_); (show _ = false; rfl)) | (with_reducible refine go_ne ?_) | (with_reducible refine go_eq ?_) | (with_reducible refine go_fad ?_) | (with_reducible refine go_nil ?_))
        rfl
    obtain ⟨H8, e8, O8, B8, n8⟩ := Owns.st1 (o := 2) O7 (by simp) (.int .u8 0)
    obtain ⟨H9, e9, O9, B9, n9⟩ := Owns.st1 (o := 3) O8 (by simp) (.int .i64 0)
    have B59 : But p H4 H9 := (((B5.trans B6).trans B7).trans B8).trans B9
    refine ⟨some ⟨H3.length + 1, 0, none⟩, H9, fun R K => ?_, ⟨⟨unk, b ++ [((val (t ++ [x]) : Nat) : Int)], pre ++ (t ++ [x]), [], by simp, hF', by have := sz_ge (b ++ [((val (t ++ [x]) : Nat) : Int)]); simp only [List.length_nil]; omega, ?_, ?_, by rw [← List.append_assoc] at hbl'; exact hbl'⟩, h.low, fun a ha => by cases ha; simp only; omega, hb1⟩, ⟨by omega, fun i hi h1 h2 => ?_, .inr fun a ha => by cases ha; simp only; omega⟩⟩
    · unfold bitio_Writer_put bitio_Writer_put_b
      repeat (first | (with_reducible refine (s0 _ _).trans ?_) | (with_reducible refine (e1 _ _).trans ?_) | (with_reducible refine (e2' _ _).trans ?_) | (with_reducible refine (e3' _ _).trans ?_) | (with_reducible refine (e4 _ _).trans ?_) | (with_reducible refine (e5 _ _).trans ?_) | (with_reducible refine (e6 _ _).trans ?_) | (with_reducible refine (g7 _ _).trans ?_) | (with_reducible refine (e8 _ _).trans ?_) | (with_reducible refine (e9 _ _).trans ?_) | ((with_reducible refine go_ip (x := ?_) ?_ ?_); rotate_left 1; (first | ((with_reducible refine (m _).trans ?_); rfl) | ((with_reducible refine (m1 _).trans ?_); rfl) | ((with_reducible refine (m2 _).trans ?_); rfl) | ((with_reducible refine (m3 _).trans ?_); rfl) | rfl)) | ((with_reducible refine go_bp (x := ?_) ?_ ?_); rotate_left 1; (first | ((with_reducible refine (m _).trans ?_); rfl) | ((with_reducible refine (m1 _).trans ?_); rfl) | ((with_reducible refine (m2 _).trans ?_); rfl) | ((with_reducible refine (m3 _).trans ?_); rfl) | rfl)) | ((with_reducible refine go_lp (x := ?_) (l := ?_) (c := ?_) ?_ ?_); rotate_left 3; (first | ((with_reducible refine (m _).trans ?_); rfl) | ((with_reducible refine (m1 _).trans ?_); rfl) | ((with_reducible refine (m2 _).trans ?_); rfl) | ((with_reducible refine (m3 _).trans ?_); rfl) | rfl)) | ((with_reducible refine go_pp (x := ?_) ?_ ?_); rotate_left 1; (first | ((with_reducible refine (m _).trans ?_); rfl) | ((with_reducible refine (m1 _).trans ?_); rfl) | ((with_reducible refine (m2 _).trans ?_); rfl) | ((with_reducible refine (m3 _).trans ?_); rfl) | rfl)) | ((with_reducible refine go_i (x := ?_) ?_ ?_); rotate_left 1; (first | ((with_reducible refine (m _).trans ?_); rfl) | ((with_reducible refine (m1 _).trans ?_); rfl) | ((with_reducible refine (m2 _).trans ?_); rfl) | ((with_reducible refine (m3 _).trans ?_); rfl) | rfl)) | ((with_reducible refine go_b (x := ?_) ?_ ?_); rotate_left 1; (first | ((with_reducible refine (m _).trans ?_); rfl) | ((with_reducible refine (m1 _).trans ?_); rfl) | ((with_reducible refine (m2 _).trans ?_); rfl) | ((with_reducible refine (m3 _).trans ?_); rfl) | rfl)) | ((with_reducible refine go_l (x := ?_) (l := ?_) (c := ?_) ?_ ?_); rotate_left 3; (first | ((with_reducible refine (m _).trans ?_); rfl) | ((with_reducible refine (m1 _).trans ?_); rfl) | ((with_reducible refine (m2 _).trans ?_); rfl) | ((with_reducible refine (m3 _).trans ?_); rfl) | rfl)) | ((with_reducible refine go_p (x := ?_) ?_ ?_); rotate_left 1; (first | ((with_reducible refine (m _).trans ?_); rfl) | ((with_reducible refine (m1 _).trans ?_); rfl) | ((with_reducible refine (m2 _).trans ?_); rfl) | ((with_reducible refine (m3 _).trans ?_); rfl) | rfl)) | ((with_reducible refine go_halst rfl ?_ ?_ ?_); rfl; rfl) | (with_reducible refine go_halN rfl ?_) | (with_reducible refine go_t ed ?_) | (with_reducible refine go_f ed ?_) | ((with_reducible refine go_t ?_ ?_); (show _ = true; rfl)) | ((with_reducible refine go_f ?_ ?_); (show _ = false; rfl)) | (with_reducible refine go_ne ?_) | (with_reducible refine go_eq ?_) | (with_reducible refine go_fad ?_) | (with_reducible refine go_nil ?_))
      rfl
    · unfold wcl
      rw [hlen, show (b ++ [((val (t ++ [x]) : Nat) : Int)]).length = b.length + 1 from by simp]
      exact O9
    · rw [byt_app, show (b ++ [((val (t ++ [x]) : Nat) : Int)]).length = b.length + 1 from by simp]
      exact Bld.stp (Stp.of_but (q := none) B59) B4 (fun a ha => by cases ha; simp only; omega) (fun a b ha => by cases ha)
    · rw [B59.2 i (by omega) h1, s4 i (by omega) h2, B13.2 i hi h1]
theorem nWriter_eq {N : Nat} {H : Heap} (hN : N ≤ H.length) : ∃ H', (∀ (R : Type) (K : Option Addr → Heap → Option R), bitio_NewWriter H K = K (some ⟨H.length, 0, none⟩) H') ∧ Wr N H' H.length none [] ∧ Old H.length H H' ∧ H'.length = H.length + 1 := by
  refine ⟨H ++ [some ⟨[.bool true, .slice none 0 0, .int .u8 0, .int .i64 0, .int .i64 8, .int .i64 0], false, 0⟩], fun R K => rfl, ⟨⟨0, [], [], [], rfl, .nil, by decide, (show hblk _ _ = _ from hblk_new H _), Bld.nil _ _ _, by simp⟩, hN, (fun a ha => by cases ha), (fun x hx => by cases hx)⟩, Old.app _ _, by simp⟩
theorem ok_eq {N : Nat} {H : Heap} {p : Nat} {q : Option Addr} {l : List Int} (h : Wr N H p q l) : ∀ (R : Type) (K : Bool → Option R), bitio_Writer_ok (some ⟨p, 0, none⟩) H K = K true := by
  obtain ⟨c, b, pre, t, rfl, hF, ht, hO, hB, _⟩ := h.c
  have m : hcell H p 0 = some (.bool true) := hO.sees.cell 0
  intro R K
  unfold bitio_Writer_ok bitio_Writer_ok_b
  repeat (first | ((with_reducible refine go_ip (x := ?_) ?_ ?_); rotate_left 1; (first  | exact m | rfl)) | ((with_reducible refine go_bp (x := ?_) ?_ ?_); rotate_left 1; (first  | exact m | rfl)) | ((with_reducible refine go_lp (x := ?_) (l := ?_) (c := ?_) ?_ ?_); rotate_left 3; (first  | exact m | rfl)) | ((with_reducible refine go_pp (x := ?_) ?_ ?_); rotate_left 1; (first  | exact m | rfl)) | ((with_reducible refine go_i (x := ?_) ?_ ?_); rotate_left 1; (first  | exact m | rfl)) | ((with_reducible refine go_b (x := ?_) ?_ ?_); rotate_left 1; (first  | exact m | rfl)) | ((with_reducible refine go_l (x := ?_) (l := ?_) (c := ?_) ?_ ?_); rotate_left 3; (first  | exact m | rfl)) | ((with_reducible refine go_p (x := ?_) ?_ ?_); rotate_left 1; (first  | exact m | rfl)) | ((with_reducible refine go_halst rfl ?_ ?_ ?_); rfl; rfl) | (with_reducible refine go_halN rfl ?_) | ((with_reducible refine go_t ?_ ?_); (show _ = true; rfl)) | ((with_reducible refine go_f ?_ ?_); (show _ = false; rfl)) | (with_reducible refine go_ne ?_) | (with_reducible refine go_eq ?_) | (with_reducible refine go_fad ?_) | (with_reducible refine go_nil ?_))
  rfl
theorem len_eq {N : Nat} {H : Heap} {p : Nat} {q : Option Addr} {l : List Int} (h : Wr N H p q l) : ∀ (R : Type) (K : Int → Option R), bitio_Writer_Len (some ⟨p, 0, none⟩) H K = K ((l.length : Nat) : Int) := by
  have o := ok_eq h
  obtain ⟨c, b, pre, t, rfl, hF, ht, hO, hB, _⟩ := h.c
  have m : hcell H p 5 = some (.int .i64 (((pre ++ t).length : Nat) : Int)) := hO.sees.cell 5
  intro R K
  unfold bitio_Writer_Len bitio_Writer_Len_b
  repeat (first | (with_reducible refine (o _ _).trans ?_) | ((with_reducible refine go_ip (x := ?_) ?_ ?_); rotate_left 1; (first  | exact m | rfl)) | ((with_reducible refine go_bp (x := ?_) ?_ ?_); rotate_left 1; (first  | exact m | rfl)) | ((with_reducible refine go_lp (x := ?_) (l := ?_) (c := ?_) ?_ ?_); rotate_left 3; (first  | exact m | rfl)) | ((with_reducible refine go_pp (x := ?_) ?_ ?_); rotate_left 1; (first  | exact m | rfl)) | ((with_reducible refine go_i (x := ?_) ?_ ?_); rotate_left 1; (first  | exact m | rfl)) | ((with_reducible refine go_b (x := ?_) ?_ ?_); rotate_left 1; (first  | exact m | rfl)) | ((with_reducible refine go_l (x := ?_) (l := ?_) (c := ?_) ?_ ?_); rotate_left 3; (first  | exact m | rfl)) | ((with_reducible refine go_p (x := ?_) ?_ ?_); rotate_left 1; (first  | exact m | rfl)) | ((with_reducible refine go_halst rfl ?_ ?_ ?_); rfl; rfl) | (with_reducible refine go_halN rfl ?_) | ((with_reducible refine go_t ?_ ?_); (show _ = true; rfl)) | ((with_reducible refine go_f ?_ ?_); (show _ = false; rfl)) | (with_reducible refine go_ne ?_) | (with_reducible refine go_eq ?_) | (with_reducible refine go_fad ?_) | (with_reducible refine go_nil ?_))
  rfl
end Go.Proofs.Ytblkejnciinaeaa.Sh
/- Bitio: bytes that came in. -/
set_option linter.unusedVariables false
set_option linter.unusedSimpArgs false
namespace Go.Proofs.Ytblkejnciinaeaa.Sh
open Go.Proofs.Ytblkejnciinaeaa.FW Go.IntWalk
theorem wf_8 {a : Int} (h : (Lit.int .u8 a).wf = true) : 0 ≤ a ∧ a ≤ 255 := by
  simp only [Lit.wf, IntKind.min, IntKind.max, IntKind.signed, IntKind.bits, Bool.and_eq_true, decide_eq_true_eq, if_true, Bool.false_eq_true, if_false] at h
  exact ⟨by omega, by omega⟩
theorem bytes_of {H : Heap} : ∀ (es : List (List Value)), (∀ e ∈ es, Shp (.int .u8) H e) → ∃ xs : List Int, xs.length = es.length ∧ es.flatten = byt xs ∧ ∀ v ∈ xs, 0 ≤ v ∧ v ≤ 255 := by
  intro es
  induction es with
  | nil => intro _; exact ⟨[], rfl, rfl, fun v h => by cases h⟩
  | cons e es ih =>
    intro h
    obtain ⟨xs, h1, h2, h3⟩ := ih fun x hx => h x (List.mem_cons_of_mem _ hx)
    obtain ⟨a, rfl, ha⟩ := h e (by simp)
    refine ⟨a :: xs, by simp [h1], by rw [List.flatten_cons, h2]; rfl, fun v hv => ?_⟩
    rcases List.mem_cons.1 hv with rfl | hv
    · exact wf_8 ha
    · exact h3 v hv
end Go.Proofs.Ytblkejnciinaeaa.Sh
