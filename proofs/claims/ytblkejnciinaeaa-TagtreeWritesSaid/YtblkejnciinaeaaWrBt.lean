/- TtWrites: Bt. -/
import Derived.Test.YtblkejnciinaeaaSh0
import Derived.Test.YtblkejnciinaeaaFwY
import Derived.Test.YtblkejnciinaeaaFwO
import Derived.IntWalk
import Derived.Test.YtblkejnciinaeaaSh1
import Derived.Test.YtblkejnciinaeaaSh2
import Derived.Test.YtblkejnciinaeaaSh10
/- Bitio: numbers, bits and bytes. -/
set_option linter.unusedVariables false
set_option linter.unusedSimpArgs false
namespace Go.Proofs.Ytblkejnciinaeaa.Sh
open Go.Proofs.Ytblkejnciinaeaa.FW Go.IntWalk
def byt (l : List Int) : List Value := l.map (.int .u8)
def b64 (l : List Int) : List Value := l.map (.int .i64)
theorem byt_len (l : List Int) : (byt l).length = l.length := by simp [byt]
theorem b64_len (l : List Int) : (b64 l).length = l.length := by simp [b64]
theorem byt_app (a b : List Int) : byt (a ++ b) = byt a ++ byt b := by simp [byt]
theorem b64_app (a b : List Int) : b64 (a ++ b) = b64 a ++ b64 b := by simp [b64]
theorem byt_one (l : List Int) : (byt l).all oneC = true := by simp [byt, oneC]
theorem b64_one (l : List Int) : (b64 l).all oneC = true := by simp [b64, oneC]
theorem w64 {n : Int} (h : -9223372036854775808 ≤ n) (h2 : n ≤ 9223372036854775807) : IntKind.i64.wrap n = n := i64_in n ⟨h, h2⟩
theorem wu64 {n : Int} (h : 0 ≤ n) (h2 : n ≤ 18446744073709551615) : IntKind.u64.wrap n = n := u64_in n ⟨h, h2⟩
theorem or8 {R : Type} {a b : Nat} (ha : a < 256) (hb : b < 256) (K : Int → Option R) : hbin .or .u8 (a : Int) (b : Int) K = K ((a ||| b : Nat) : Int) := by
  have e : (BitVec.ofInt 8 (a : Int) ||| BitVec.ofInt 8 (b : Int)).toNat = a ||| b := by
    rw [BitVec.ofInt_natCast, BitVec.ofInt_natCast, BitVec.toNat_or, BitVec.toNat_ofNat, BitVec.toNat_ofNat, Nat.mod_eq_of_lt (by omega), Nat.mod_eq_of_lt (by omega)]
  have l : a ||| b < 2 ^ 8 := Nat.or_lt_two_pow ha hb
  show K (IntKind.u8.wrap ((BitVec.ofInt 8 (a : Int) ||| BitVec.ofInt 8 (b : Int)).toNat : Int)) = _
  rw [e, u8_in _ ⟨by omega, by omega⟩]
theorem or64 {R : Type} {a b : Nat} (ha : a < 2 ^ 62) (hb : b < 2 ^ 62) (K : Int → Option R) : hbin .or .i64 (a : Int) (b : Int) K = K ((a ||| b : Nat) : Int) := by
  have e : (BitVec.ofInt 64 (a : Int) ||| BitVec.ofInt 64 (b : Int)).toNat = a ||| b := by
    rw [BitVec.ofInt_natCast, BitVec.ofInt_natCast, BitVec.toNat_or, BitVec.toNat_ofNat, BitVec.toNat_ofNat, Nat.mod_eq_of_lt (by omega), Nat.mod_eq_of_lt (by omega)]
  have l : a ||| b < 2 ^ 62 := Nat.or_lt_two_pow ha hb
  show K (IntKind.i64.wrap ((BitVec.ofInt 64 (a : Int) ||| BitVec.ofInt 64 (b : Int)).toNat : Int)) = _
  rw [e, i64_in _ ⟨by omega, by omega⟩]
theorem and64 {R : Type} {a b : Nat} (ha : a < 2 ^ 62) (hb : b < 2 ^ 62) (K : Int → Option R) : hbin .and .i64 (a : Int) (b : Int) K = K ((a &&& b : Nat) : Int) := by
  have e : (BitVec.ofInt 64 (a : Int) &&& BitVec.ofInt 64 (b : Int)).toNat = a &&& b := by
    rw [BitVec.ofInt_natCast, BitVec.ofInt_natCast, BitVec.toNat_and, BitVec.toNat_ofNat, BitVec.toNat_ofNat, Nat.mod_eq_of_lt (by omega), Nat.mod_eq_of_lt (by omega)]
  have l : a &&& b ≤ a := Nat.and_le_left
  show K (IntKind.i64.wrap ((BitVec.ofInt 64 (a : Int) &&& BitVec.ofInt 64 (b : Int)).toNat : Int)) = _
  rw [e, i64_in _ ⟨by omega, by omega⟩]
theorem and8 {R : Type} {a b : Nat} (ha : a < 256) (hb : b < 256) (K : Int → Option R) : hbin .and .u8 (a : Int) (b : Int) K = K ((a &&& b : Nat) : Int) := by
  have e : (BitVec.ofInt 8 (a : Int) &&& BitVec.ofInt 8 (b : Int)).toNat = a &&& b := by
    rw [BitVec.ofInt_natCast, BitVec.ofInt_natCast, BitVec.toNat_and, BitVec.toNat_ofNat, BitVec.toNat_ofNat, Nat.mod_eq_of_lt (by omega), Nat.mod_eq_of_lt (by omega)]
  have l : a &&& b ≤ a := Nat.and_le_left
  show K (IntKind.u8.wrap ((BitVec.ofInt 8 (a : Int) &&& BitVec.ofInt 8 (b : Int)).toNat : Int)) = _
  rw [e, u8_in _ ⟨by omega, by omega⟩]
theorem fdn (a n : Nat) : (a : Int).fdiv (2 ^ n) = ((a / 2 ^ n : Nat) : Int) := by
  rw [Int.fdiv_eq_ediv_of_nonneg _ (Int.pow_nonneg (by omega)), Int.natCast_ediv, Int.natCast_pow]; rfl
theorem shr64 {R : Type} {a n : Nat} (hn : n ≤ 64) (K : Int → Option R) : hbin .shr .i64 (a : Int) (IntKind.wrap .u64 (n : Int)) K = K ((a / 2 ^ n : Nat) : Int) := by
  rw [wu64 (by omega) (by omega)]
  simp only [hbin]
  rw [if_neg (by omega), Int.toNat_natCast, Nat.min_eq_left (show n ≤ IntKind.i64.bits from hn), fdn]
theorem shr8 {R : Type} {a n : Nat} (hn : n ≤ 8) (K : Int → Option R) : hbin .shr .u8 (a : Int) (IntKind.wrap .u64 (n : Int)) K = K ((a / 2 ^ n : Nat) : Int) := by
  rw [wu64 (by omega) (by omega)]
  simp only [hbin]
  rw [if_neg (by omega), Int.toNat_natCast, Nat.min_eq_left (show n ≤ IntKind.u8.bits from hn), fdn]
theorem pn (a n : Nat) : (a : Int) * 2 ^ n = ((a * 2 ^ n : Nat) : Int) := by rw [Int.natCast_mul, Int.natCast_pow]; rfl
theorem shl64 {R : Type} {a n : Nat} (hn : n ≤ 64) (hl : a * 2 ^ n < 2 ^ 62) (K : Int → Option R) : hbin .shl .i64 (a : Int) (IntKind.wrap .u64 (n : Int)) K = K ((a * 2 ^ n : Nat) : Int) := by
  rw [wu64 (by omega) (by omega)]
  simp only [hbin]
  rw [if_neg (by omega), Int.toNat_natCast, Nat.min_eq_left (show n ≤ IntKind.i64.bits from hn), pn, w64 (by omega) (by omega)]
theorem shl8 {R : Type} {a n : Nat} (hn : n ≤ 8) (hl : a * 2 ^ n < 256) (K : Int → Option R) : hbin .shl .u8 (a : Int) (IntKind.wrap .u64 (n : Int)) K = K ((a * 2 ^ n : Nat) : Int) := by
  rw [wu64 (by omega) (by omega)]
  simp only [hbin]
  rw [if_neg (by omega), Int.toNat_natCast, Nat.min_eq_left (show n ≤ IntKind.u8.bits from hn), pn, u8_in _ ⟨by omega, by omega⟩]
theorem p32 {n : Nat} (h : n ≤ 32) : 2 ^ n ≤ 2 ^ 32 := Nat.pow_le_pow_right (by omega) h
/-- Bits: 0 and 1. -/
def B01 (l : List Int) : Prop := ∀ x ∈ l, x = 0 ∨ x = 1
theorem B01.app {a b : List Int} (h : B01 a) (k : B01 b) : B01 (a ++ b) := fun x hx => by
  rcases List.mem_append.1 hx with h1 | h1
  · exact h x h1
  · exact k x h1
theorem B01.one {x : Int} (h : x = 0 ∨ x = 1) : B01 [x] := fun y hy => by simp at hy; subst hy; exact h
theorem B01.left {a b : List Int} (h : B01 (a ++ b)) : B01 a := fun x hx => h x (List.mem_append_left _ hx)
theorem B01.right {a b : List Int} (h : B01 (a ++ b)) : B01 b := fun x hx => h x (List.mem_append_right _ hx)
def bn (x : Int) : Nat := if x = 1 then 1 else 0
theorem bn_of {x : Int} (h : x = 0 ∨ x = 1) : x = (bn x : Int) := by rcases h with rfl | rfl <;> rfl
theorem bn_le (x : Int) : bn x ≤ 1 := by unfold bn; split <;> omega
/-- The number of a row of bits. -/
def val (c : List Int) : Nat := c.foldl (fun v x => 2 * v + bn x) 0
theorem val_nil : val [] = 0 := rfl
theorem val_snoc (c : List Int) (x : Int) : val (c ++ [x]) = 2 * val c + bn x := by simp [val]
theorem val_lt (c : List Int) : val c < 2 ^ c.length := by
  have : ∀ (n : Nat) (c : List Int), c.length = n → val c < 2 ^ n := by
    intro n
    induction n with
    | zero => intro c h; rw [List.length_eq_zero_iff.1 h]; simp [val]
    | succ n ih =>
      intro c h
      have hne : c ≠ [] := fun e => by rw [e] at h; simp at h
      have := ih c.dropLast (by simp [h])
      have hb := bn_le (c.getLast hne)
      rw [← List.dropLast_concat_getLast hne, val_snoc, Nat.pow_succ]; omega
  exact this _ c rfl
theorem val_zeros (c : List Int) (m : Nat) : val (c ++ List.replicate m 0) = val c * 2 ^ m := by
  induction m with
  | zero => simp
  | succ m ih =>
    rw [List.replicate_succ', ← List.append_assoc, val_snoc, ih, Nat.pow_succ]
    have h0 : bn 0 = 0 := rfl
    have h1 : val c * (2 ^ m * 2) = 2 * (val c * 2 ^ m) := by rw [← Nat.mul_assoc, Nat.mul_comm]
    omega
/-- The bits of a byte. -/
def bt (v : Nat) : Nat → List Int
  | 0 => []
  | n + 1 => ((v / 2 ^ n % 2 : Nat) : Int) :: bt v n
theorem bt_len (v n : Nat) : (bt v n).length = n := by induction n with | zero => rfl | succ n ih => simp [bt, ih]
theorem bt_01 (v n : Nat) : B01 (bt v n) := by
  induction n with
  | zero => intro x hx; cases hx
  | succ n ih =>
    intro x hx
    rcases List.mem_cons.1 hx with h | h
    · subst h; omega
    · exact ih x h
theorem val_foldl (c : List Int) (v : Nat) : c.foldl (fun v x => 2 * v + bn x) v = v * 2 ^ c.length + val c := by
  induction c generalizing v with
  | nil => simp [val]
  | cons x c ih =>
    have h := ih (2 * v + bn x)
    have h0 := ih (2 * 0 + bn x)
    unfold val
    simp only [List.foldl_cons, List.length_cons] at *
    rw [h, h0, Nat.pow_succ, Nat.add_mul, Nat.add_mul]
    have : 2 * v * 2 ^ c.length = v * (2 ^ c.length * 2) := by rw [Nat.mul_comm 2 v, Nat.mul_assoc, Nat.mul_comm 2]
    omega
theorem val_cons (x : Int) (c : List Int) : val (x :: c) = bn x * 2 ^ c.length + val c := by
  have := val_foldl c (2 * 0 + bn x)
  unfold val
  simp only [List.foldl_cons]
  rw [this]; simp [val]
theorem val_app (a b : List Int) : val (a ++ b) = val a * 2 ^ b.length + val b := by
  unfold val; rw [List.foldl_append]; exact val_foldl b _
theorem bn_bit (m : Nat) : bn ((m % 2 : Nat) : Int) = m % 2 := by
  unfold bn; split <;> omega
theorem val_bt (v n : Nat) : val (bt v n) = v % 2 ^ n := by
  induction n with
  | zero => simp [bt, val, Nat.mod_one]
  | succ n ih =>
    rw [bt, val_cons, ih, bt_len, bn_bit, Nat.pow_succ, Nat.mod_mul, Nat.mul_comm]; omega
end Go.Proofs.Ytblkejnciinaeaa.Sh
/- Bitio: appended elements, strings of bytes, what a writer's call leaves alone. -/
set_option linter.unusedVariables false
set_option linter.unusedSimpArgs false
namespace Go.Proofs.Ytblkejnciinaeaa.Sh
open Go.Proofs.Ytblkejnciinaeaa.FW Go.IntWalk
theorem app1 {N bytes : Nat} {H : Heap} {q : Option Addr} {l c : Nat} {cs : List Value} (h : Bld N 1 H q l c cs) (hN : N ≤ H.length) (v : Value) (hl : (l + 1) * bytes ≤ 35184372088832) :
    ∃ H', (∀ (R : Type) (K : Option Addr → Nat → Nat → Heap → Option R), happS 1 bytes (H ++ [some ⟨[v], false, 0⟩]) q l c (some ⟨H.length, 0, none⟩) 1 K = K (some ⟨H.length + 1, 0, none⟩) (l + 1) unk H') ∧ Bld N 1 H' (some ⟨H.length + 1, 0, none⟩) (l + 1) unk (cs ++ [v]) ∧ H'.length = H.length + 2 ∧ ∀ i, i < H.length → (∀ a, q = some a → a.block ≠ i) → hblk H' i = hblk H i := by
  have hp : Shows (H ++ [some (⟨[v], false, 0⟩ : Blk)]) (some ⟨H.length, 0, none⟩) [v] := Sees.shows ⟨_, hblk_new H _, rfl⟩
  have hc := hp.hcells
  have hL : (H ++ [some (⟨[v], false, 0⟩ : Blk)]).length = H.length + 1 := by simp
  rcases h with ⟨rfl, rfl, rfl, rfl⟩ | ⟨b, rfl, rfl, h3, h4, h5⟩
  · refine ⟨H ++ [some ⟨[v], false, 0⟩] ++ [some ⟨[v], false, 1⟩], fun R K => ?_, .inr ⟨H.length + 1, rfl, rfl, by omega, ?_, by simp⟩, by simp, fun i hi _ => by rw [List.append_assoc]; exact app_old hi⟩
    · unfold happS happ
      rw [show 1 * 1 = [v].length from rfl, hc]
      simp only
      rw [if_neg (by unfold unk; omega), if_neg (by omega), if_pos (by simpa using hl), hL]
      rfl
    · have := hblk_new (H ++ [some (⟨[v], false, 0⟩ : Blk)]) (some ⟨[v], false, 1⟩)
      rw [hL] at this
      exact this
  · have hblt := h4.sees.lt
    have h4' : hblk (H ++ [some (⟨[v], false, 0⟩ : Blk)]) b = some ⟨cs, false, 1⟩ := by rw [app_old hblt]; exact h4
    refine ⟨hset (H ++ [some ⟨[v], false, 0⟩]) b none ++ [some ⟨cs ++ [v], false, 1⟩], fun R K => ?_, .inr ⟨H.length + 1, rfl, rfl, by omega, ?_, by rw [Nat.add_mul, h5, List.length_append]; rfl⟩, by simp [hset_length], fun i hi hne => ?_⟩
    · unfold happS happ
      rw [show 1 * 1 = [v].length from rfl, hc]
      simp only [if_true, h4', cond_false, h5, true_and, hL]
      rw [if_pos hl]
    · have := app_new (hset (H ++ [some (⟨[v], false, 0⟩ : Blk)]) b none) (some ⟨cs ++ [v], false, 1⟩) []
      rwa [hset_length, hL] at this
    · rw [app_old (by rw [hset_length]; omega), hset_get, if_neg (by have := hne _ rfl; simp only at this; omega), app_old hi]
theorem nums_byt (l : List Int) : nums (byt l) = some l := by
  induction l with
  | nil => rfl
  | cons x l ih => show (match nums (byt l) with | some xs => some (x :: xs) | none => none) = _; rw [ih]
theorem b2s_eq {H : Heap} {q : Option Addr} {l : List Int} (h : Shows H q (byt l)) (R : Type) (K : ByteArray → Option R) : hb2s H q l.length K = K (strOfNums l) := by
  unfold hb2s
  have := h.hcells
  rw [byt_len] at this
  rw [this]
  simp only [nums_byt]
/-- What a step of a thing at p with a row q leaves alone. -/
structure Stp (p : Nat) (q : Option Addr) (H : Heap) (q' : Option Addr) (H' : Heap) : Prop where
  len : H.length ≤ H'.length
  old : ∀ i, i < H.length → i ≠ p → (∀ a, q = some a → a.block ≠ i) → hblk H' i = hblk H i
  new : q' = q ∨ ∀ a, q' = some a → H.length ≤ a.block
theorem Stp.refl (p : Nat) (q : Option Addr) (H : Heap) : Stp p q H q H := ⟨Nat.le_refl _, fun _ _ _ _ => rfl, .inl rfl⟩
theorem Stp.trans {p : Nat} {q q1 q2 : Option Addr} {H H1 H2 : Heap} (a : Stp p q H q1 H1) (b : Stp p q1 H1 q2 H2) : Stp p q H q2 H2 := by
  refine ⟨Nat.le_trans a.len b.len, fun i hi h1 h2 => (b.old i (Nat.lt_of_lt_of_le hi a.len) h1 fun x hx => ?_).trans (a.old i hi h1 h2), ?_⟩
  · rcases a.new with h | h
    · subst h; exact h2 x hx
    · have := h x hx; omega
  · rcases b.new with h | h
    · subst h; exact a.new
    · exact .inr fun x hx => Nat.le_trans a.len (h x hx)
theorem Stp.of_old {p : Nat} {q : Option Addr} {H H' : Heap} (o : Old H.length H H') : Stp p q H q H' := ⟨o.1, fun i hi _ _ => o.2 i hi, .inl rfl⟩
theorem Stp.of_but {p : Nat} {q : Option Addr} {H H' : Heap} (o : But p H H') : Stp p q H q H' := ⟨o.1, fun i hi h _ => o.2 i hi h, .inl rfl⟩
theorem Stp.below {N p : Nat} {q q' : Option Addr} {H H' : Heap} (s : Stp p q H q' H') (hp : N ≤ p) (hq : ∀ a, q = some a → N ≤ a.block) (hN : N ≤ H.length) : Old N H H' :=
  ⟨s.len, fun i hi => s.old i (by omega) (by omega) fun a ha => by have := hq a ha; omega⟩
/-- Two things apart. -/
def Apt (p : Nat) (q : Option Addr) (p2 : Nat) (q2 : Option Addr) : Prop := p ≠ p2 ∧ (∀ a, q = some a → a.block ≠ p2) ∧ (∀ a, q2 = some a → a.block ≠ p) ∧ ∀ a b, q = some a → q2 = some b → a.block ≠ b.block
theorem Apt.symm {p p2 : Nat} {q q2 : Option Addr} (h : Apt p q p2 q2) : Apt p2 q2 p q := ⟨h.1.symm, h.2.2.1, h.2.1, fun a b ha hb => (h.2.2.2 b a hb ha).symm⟩
theorem Apt.step {p p2 : Nat} {q q2 q' : Option Addr} {H H' : Heap} (h : Apt p q p2 q2) (s : Stp p q H q' H') (h2 : p2 < H.length) (h3 : ∀ a, q2 = some a → a.block < H.length) : Apt p q' p2 q2 := by
  rcases s.new with e | e
  · subst e; exact h
  · exact ⟨h.1, fun a ha => by have := e a ha; omega, h.2.2.1, fun a b ha hb => by have := e a ha; have := h3 b hb; omega⟩
theorem Owns.stp {p : Nat} {q q' : Option Addr} {H H' : Heap} (s : Stp p q H q' H') {b sz : Nat} {cs : List Value} (h : Owns H b cs sz) (h1 : b ≠ p) (h2 : ∀ a, q = some a → a.block ≠ b) : Owns H' b cs sz := by
  have := h.lt
  unfold Owns at *; rw [s.old b this h1 h2]; exact h
theorem Bld.stp {p : Nat} {q q' : Option Addr} {H H' : Heap} (s : Stp p q H q' H') {N sz l c : Nat} {q2 : Option Addr} {cs : List Value} (h : Bld N sz H q2 l c cs) (h1 : ∀ a, q2 = some a → a.block ≠ p) (h2 : ∀ a b, q = some a → q2 = some b → a.block ≠ b.block) : Bld N sz H' q2 l c cs := by
  rcases h with h | ⟨b, rfl, h3, h4, h5, h6⟩
  · exact .inl h
  · exact .inr ⟨b, rfl, h3, h4, Owns.stp s h5 (h1 _ rfl) (fun a ha => h2 a _ ha rfl), h6⟩
/-- The reference's writer: its bits. -/
structure Ur (N : Nat) (H : Heap) (p : Nat) (q : Option Addr) (l : List Int) : Prop where
  c : ∃ c, Owns H p [.bool true, .slice q l.length c] 0 ∧ Bld N 1 H q l.length c (b64 l)
  low : N ≤ p
  apt : ∀ a, q = some a → a.block ≠ p
theorem Ur.lt {N : Nat} {H : Heap} {p : Nat} {q : Option Addr} {l : List Int} (h : Ur N H p q l) : p < H.length := by obtain ⟨c, h1, _⟩ := h.c; exact h1.lt
theorem Ur.qlt {N : Nat} {H : Heap} {p : Nat} {q : Option Addr} {l : List Int} (h : Ur N H p q l) : ∀ a, q = some a → a.block < H.length := by obtain ⟨c, _, h1⟩ := h.c; exact h1.below
theorem Ur.qlow {N : Nat} {H : Heap} {p : Nat} {q : Option Addr} {l : List Int} (h : Ur N H p q l) : ∀ a, q = some a → N ≤ a.block := by
  obtain ⟨c, _, h1⟩ := h.c
  rcases h1 with ⟨rfl, _⟩ | ⟨b, rfl, _, h3, _⟩
  · intro a ha; cases ha
  · intro a ha; cases ha; exact h3
theorem Ur.stp {N : Nat} {H H' : Heap} {p p2 : Nat} {q q' q2 : Option Addr} {l : List Int} (h : Ur N H p2 q2 l) (s : Stp p q H q' H') (a : Apt p q p2 q2) : Ur N H' p2 q2 l := by
  obtain ⟨c, h1, h2⟩ := h.c
  exact ⟨⟨c, Owns.stp s h1 a.1.symm a.2.1, Bld.stp s h2 a.2.2.1 a.2.2.2⟩, h.low, h.apt⟩
/-- One more bit. -/
theorem Ur.add {N : Nat} {H : Heap} {p : Nat} {q : Option Addr} {l : List Int} (h : Ur N H p q l) (hN : N ≤ H.length) (x : Int) (hl : l.length < 1000000) : ∃ c H1 H2, hcell H p 1 = some (.slice q l.length c) ∧
    (∀ (R : Type) (K : Option Addr → Nat → Nat → Heap → Option R), happS 1 8 (H ++ [some ⟨[.int .i64 x], false, 0⟩]) q l.length c (some ⟨H.length, 0, none⟩) 1 K = K (some ⟨H.length + 1, 0, none⟩) (l.length + 1) unk H1) ∧
    (∀ (R : Type) (K : Heap → Option R), hst1 H1 (some ⟨p, 1, none⟩) (.slice (some ⟨H.length + 1, 0, none⟩) (l.length + 1) unk) K = K H2) ∧ Ur N H2 p (some ⟨H.length + 1, 0, none⟩) (l ++ [x]) ∧ Stp p q H (some ⟨H.length + 1, 0, none⟩) H2 := by
  obtain ⟨c, h1, h2⟩ := h.c
  obtain ⟨H1, e1, B1, n1, s1⟩ := app1 (bytes := 8) h2 hN (.int .i64 x) (by omega)
  have hp := h1.lt
  have o1 : Owns H1 p [.bool true, .slice q l.length c] 0 := by unfold Owns at *; rw [s1 p hp h.apt]; exact h1
  obtain ⟨H2, e2, o2, b2, n2⟩ := Owns.st1 (o := 1) o1 (by simp) (.slice (some ⟨H.length + 1, 0, none⟩) (l.length + 1) unk)
  refine ⟨c, H1, H2, by rw [h1.sees.cell]; rfl, e1, e2, ⟨⟨unk, by simpa using o2, ?_⟩, h.low, fun a ha => by cases ha; simp only; omega⟩, ⟨by omega, fun i hi h3 h4 => ?_, .inr fun a ha => by cases ha; simp only; omega⟩⟩
  · rw [b64_app, List.length_append]
    exact Bld.stp (p := p) (q := none) (q' := none) ⟨b2.1, fun i hi h _ => b2.2 i hi h, .inl rfl⟩ B1 (fun a ha => by cases ha; simp only; omega) (fun a b ha => by cases ha)
  · rw [b2.2 i (by omega) h3, s1 i hi h4]
end Go.Proofs.Ytblkejnciinaeaa.Sh
/- Bitio: the program's writer, a bit at a time. -/
set_option linter.unusedVariables false
set_option linter.unusedSimpArgs false
namespace Go.Proofs.Ytblkejnciinaeaa.Sh
open Go.Proofs.Ytblkejnciinaeaa.FW Go.IntWalk
/-- The bits of the byte behind these. -/
def sz (b : List Int) : Nat := if b.getLast? = some 255 then 7 else 8
theorem sz_le (b : List Int) : sz b ≤ 8 := by unfold sz; split <;> omega
theorem sz_ge (b : List Int) : 7 ≤ sz b := by unfold sz; split <;> omega
theorem sz_snoc (b : List Int) (x : Int) : sz (b ++ [x]) = if x = 255 then 7 else 8 := by unfold sz; simp
/-- Bytes that these bits fill. -/
inductive Full : List Int → List Int → Prop
  | nil : Full [] []
  | snoc {b pre c : List Int} : Full b pre → c.length = sz b → Full (b ++ [(val c : Int)]) (pre ++ c)
def wcl (q : Option Addr) (c : Nat) (b t : List Int) (n : Nat) : List Value := [.bool true, .slice q b.length c, .int .u8 ((val t : Nat) : Int), .int .i64 ((t.length : Nat) : Int), .int .i64 ((sz b : Nat) : Int), .int .i64 ((n : Nat) : Int)]
/-- The program's writer: the bits that it was given. -/
structure Wr (N : Nat) (H : Heap) (p : Nat) (q : Option Addr) (l : List Int) : Prop where
  c : ∃ c b pre t, l = pre ++ t ∧ Full b pre ∧ t.length < sz b ∧ Owns H p (wcl q c b t l.length) 0 ∧ Bld N 1 H q b.length c (byt b) ∧ b.length ≤ l.length
  low : N ≤ p
  apt : ∀ a, q = some a → a.block ≠ p
  b01 : B01 l
theorem Wr.lt {N : Nat} {H : Heap} {p : Nat} {q : Option Addr} {l : List Int} (h : Wr N H p q l) : p < H.length := by obtain ⟨c, b, pre, t, _, _, _, h1, _⟩ := h.c; exact h1.lt
theorem Wr.qlt {N : Nat} {H : Heap} {p : Nat} {q : Option Addr} {l : List Int} (h : Wr N H p q l) : ∀ a, q = some a → a.block < H.length := by obtain ⟨c, b, pre, t, _, _, _, _, h1, _⟩ := h.c; exact h1.below
theorem Bld.qlow {N sz l c : Nat} {H : Heap} {q : Option Addr} {cs : List Value} (h1 : Bld N sz H q l c cs) : ∀ a, q = some a → N ≤ a.block := by
  rcases h1 with ⟨rfl, _⟩ | ⟨b, rfl, _, h3, _⟩
  · intro a ha; cases ha
  · intro a ha; cases ha; exact h3
theorem Wr.qlow {N : Nat} {H : Heap} {p : Nat} {q : Option Addr} {l : List Int} (h : Wr N H p q l) : ∀ a, q = some a → N ≤ a.block := by
  obtain ⟨c, b, pre, t, _, _, _, _, h1, _⟩ := h.c; exact Bld.qlow h1
theorem Wr.stp {N : Nat} {H H' : Heap} {p p2 : Nat} {q q' q2 : Option Addr} {l : List Int} (h : Wr N H p2 q2 l) (s : Stp p q H q' H') (a : Apt p q p2 q2) : Wr N H' p2 q2 l := by
  obtain ⟨c, b, pre, t, e1, e2, e3, h1, h2, e4⟩ := h.c
  exact ⟨⟨c, b, pre, t, e1, e2, e3, Owns.stp s h1 a.1.symm a.2.1, Bld.stp s h2 a.2.2.1 a.2.2.2, e4⟩, h.low, h.apt, h.b01⟩
theorem Full.len {b pre : List Int} (h : Full b pre) : b.length ≤ pre.length := by
  induction h with
  | nil => simp
  | @snoc b pre c h e ih => have := sz_ge b; rw [List.length_append, List.length_append]; simp only [List.length_cons, List.length_nil]; omega
theorem Full.byte {b pre : List Int} (h : Full b pre) : ∀ x ∈ b, 0 ≤ x ∧ x ≤ 255 := by
  induction h with
  | nil => intro x hx; cases hx
  | @snoc b pre c h e ih =>
    intro x hx
    rcases List.mem_append.1 hx with h1 | h1
    · exact ih x h1
    · simp only [List.mem_singleton] at h1
      subst h1
      have := val_lt c
      have h8 : 2 ^ c.length ≤ 2 ^ 8 := Nat.pow_le_pow_right (by omega) (by have := sz_le b; omega)
      omega
theorem shx {t : List Int} {x : Int} (ht : t.length < 8) (hx : x = 0 ∨ x = 1) (R : Type) (K : Int → Option R) : hbin .or .u8 (IntKind.wrap .u8 (((val t : Nat) : Int) * 2)) (IntKind.wrap .u8 x) K = K ((val (t ++ [x]) : Nat) : Int) := by
  have h1 := val_lt t
  have h2 : 2 ^ t.length ≤ 2 ^ 7 := Nat.pow_le_pow_right (by omega) (by omega)
  have e1 : IntKind.wrap .u8 (((val t : Nat) : Int) * 2) = ((2 ^ 1 * val t : Nat) : Int) := by rw [u8_in _ ⟨by omega, by omega⟩]; omega
  have e2 : IntKind.wrap .u8 x = ((bn x : Nat) : Int) := by rw [← bn_of hx, u8_in _ ⟨by omega, by omega⟩]
  have hb := bn_le x
  rw [e1, e2, or8 (by omega) (by omega), ← Nat.two_pow_add_eq_or_of_lt (i := 1) (by omega), val_snoc]
theorem put_eq (k : Nat) {N : Nat} {H : Heap} {p : Nat} {q : Option Addr} {l : List Int} (h : Wr N H p q l) (hN : N ≤ H.length) (hl : l.length < 1000000) {x : Int} (hx : x = 0 ∨ x = 1) :
    ∃ q' H', (∀ (R : Type) (K : Heap → Option R), bitio_Writer_put k (some ⟨p, 0, none⟩) x H K = K H') ∧ Wr N H' p q' (l ++ [x]) ∧ Stp p q H q' H' := by
  obtain ⟨c, b, pre, t, rfl, hF, ht, hO, hB, hbl⟩ := h.c
  have hs8 := sz_le b
  have hs7 := sz_ge b
  have htl : t.length ≤ (pre ++ t).length := by simp
  have m : ∀ o, hcell H p o = (wcl q c b t (pre ++ t).length)[o]? := fun o => hO.sees.cell o
  have s0 := shx (t := t) (x := x) (by omega) hx
  obtain ⟨H1, e1, O1, B1, n1⟩ := Owns.st1 (o := 2) hO (by simp [wcl]) (.int .u8 ((val (t ++ [x]) : Nat) : Int))
  obtain ⟨H2, e2, O2, B2, n2⟩ := Owns.st1 (o := 3) O1 (by simp [wcl]) (.int .i64 (((t.length : Nat) : Int) + 1))
  obtain ⟨H3, e3, O3, B3, n3⟩ := Owns.st1 (o := 5) O2 (by simp [wcl]) (.int .i64 ((((pre ++ t).length : Nat) : Int) + 1))
  have hlen : (((pre ++ t ++ [x]).length : Nat) : Int) = (((pre ++ t).length : Nat) : Int) + 1 := by simp only [List.length_append, List.length_cons, List.length_nil]; omega
  have O3' : Owns H3 p [.bool true, .slice q b.length c, .int .u8 ((val (t ++ [x]) : Nat) : Int), .int .i64 (((t.length : Nat) : Int) + 1), .int .i64 ((sz b : Nat) : Int), .int .i64 ((((pre ++ t).length : Nat) : Int) + 1)] 0 := O3
  have m1 : ∀ o, hcell H1 p o = [Value.bool true, .slice q b.length c, .int .u8 ((val (t ++ [x]) : Nat) : Int), .int .i64 ((t.length : Nat) : Int), .int .i64 ((sz b : Nat) : Int), .int .i64 (((pre ++ t).length : Nat) : Int)][o]? := fun o => O1.sees.cell o
  have m2 : ∀ o, hcell H2 p o = [Value.bool true, .slice q b.length c, .int .u8 ((val (t ++ [x]) : Nat) : Int), .int .i64 (((t.length : Nat) : Int) + 1), .int .i64 ((sz b : Nat) : Int), .int .i64 (((pre ++ t).length : Nat) : Int)][o]? := fun o => O2.sees.cell o
  have m3 : ∀ o, hcell H3 p o = [Value.bool true, .slice q b.length c, .int .u8 ((val (t ++ [x]) : Nat) : Int), .int .i64 (((t.length : Nat) : Int) + 1), .int .i64 ((sz b : Nat) : Int), .int .i64 ((((pre ++ t).length : Nat) : Int) + 1)][o]? := fun o => O3.sees.cell o
  have w1 : IntKind.wrap .i64 (((t.length : Nat) : Int) + 1) = ((t.length : Nat) : Int) + 1 := w64 (by omega) (by omega)
  have w2 : IntKind.wrap .i64 ((((pre ++ t).length : Nat) : Int) + 1) = (((pre ++ t).length : Nat) : Int) + 1 := w64 (by omega) (by omega)
  have B13 : But p H H3 := (B1.trans B2).trans B3
  have e2' : ∀ (R : Type) (K : Heap → Option R), hst1 H1 (some ⟨p, 3, none⟩) (.int .i64 (IntKind.wrap .i64 (((t.length : Nat) : Int) + 1))) K = K H2 := by rw [w1]; exact e2
  have e3' : ∀ (R : Type) (K : Heap → Option R), hst1 H2 (some ⟨p, 5, none⟩) (.int .i64 (IntKind.wrap .i64 ((((pre ++ t).length : Nat) : Int) + 1))) K = K H3 := by rw [w2]; exact e3
  have hB3 : Bld N 1 H3 q b.length c (byt b) := Bld.stp (Stp.of_but (q := none) B13) hB h.apt (fun a b ha => by cases ha)
  have hb1 : B01 (pre ++ t ++ [x]) := h.b01.app (.one hx)
  have htx : (t ++ [x]).length = t.length + 1 := by simp
  by_cases hc : t.length + 1 < sz b
  · have ed : decide (((t.length : Nat) : Int) + 1 < ((sz b : Nat) : Int)) = true := decide_eq_true (by omega)
    refine ⟨q, H3, fun R K => ?_, ⟨⟨c, b, pre, t ++ [x], by simp, hF, by rw [htx]; exact hc, ?_, hB3, by rw [List.length_append]; omega⟩, h.low, h.apt, hb1⟩, .of_but B13⟩
    · unfold bitio_Writer_put bitio_Writer_put_b
      repeat (first | (with_reducible refine (s0 _ _).trans ?_) | (with_reducible refine (e1 _ _).trans ?_) | (with_reducible refine (e2' _ _).trans ?_) | (with_reducible refine (e3' _ _).trans ?_) | ((with_reducible refine go_ip (x := ?_) ?_ ?_); rotate_left 1; (first | ((with_reducible refine (m _).trans ?_); rfl) | ((with_reducible refine (m1 _).trans ?_); rfl) | ((with_reducible refine (m2 _).trans ?_); rfl) | ((with_reducible refine (m3 _).trans ?_); rfl) | rfl)) | ((with_reducible refine go_bp (x := ?_) ?_ ?_); rotate_left 1; (first | ((with_reducible refine (m _).trans ?_); rfl) | ((with_reducible refine (m1 _).trans ?_); rfl) | ((with_reducible refine (m2 _).trans ?_); rfl) | ((with_reducible refine (m3 _).trans ?_); rfl) | rfl)) | ((with_reducible refine go_lp (x := ?_) (l := ?_) (c := ?_) ?_ ?_); rotate_left 3; (first | ((with_reducible refine (m _).trans ?_); rfl) | ((with_reducible refine (m1 _).trans ?_); rfl) | ((with_reducible refine (m2 _).trans ?_); rfl) | ((with_reducible refine (m3 _).trans ?_); rfl) | rfl)) | ((with_reducible refine go_pp (x := ?_) ?_ ?_); rotate_left 1; (first | ((with_reducible refine (m _).trans ?_); rfl) | ((with_reducible refine (m1 _).trans ?_); rfl) | ((with_reducible refine (m2 _).trans ?_); rfl) | ((with_reducible refine (m3 _).trans ?_); rfl) | rfl)) | ((with_reducible refine go_i (x := ?_) ?_ ?_); rotate_left 1; (first | ((with_reducible refine (m _).trans ?_); rfl) | ((with_reducible refine (m1 _).trans ?_); rfl) | ((with_reducible refine (m2 _).trans ?_); rfl) | ((with_reducible refine (m3 _).trans ?_); rfl) | rfl)) | ((with_reducible refine go_b (x := ?_) ?_ ?_); rotate_left 1; (first | ((with_reducible refine (m _).trans ?_); rfl) | ((with_reducible refine (m1 _).trans ?_); rfl) | ((with_reducible refine (m2 _).trans ?_); rfl) | ((with_reducible refine (m3 _).trans ?_); rfl) | rfl)) | ((with_reducible refine go_l (x := ?_) (l := ?_) (c := ?_) ?_ ?_); rotate_left 3; (first | ((with_reducible refine (m _).trans ?_); rfl) | ((with_reducible refine (m1 _).trans ?_); rfl) | ((with_reducible refine (m2 _).trans ?_); rfl) | ((with_reducible refine (m3 _).trans ?_); rfl) | rfl)) | ((with_reducible refine go_p (x := ?_) ?_ ?_); rotate_left 1; (first | ((with_reducible refine (m _).trans ?_); rfl) | ((with_reducible refine (m1 _).trans ?_); rfl) | ((with_reducible refine (m2 _).trans ?_); rfl) | ((with_reducible refine (m3 _).trans ?_); rfl) | rfl)) | ((with_reducible refine go_halst rfl ?_ ?_ ?_); rfl; rfl) | (with_reducible refine go_halN rfl ?_) | (with_reducible refine go_t ed ?_) | (with_reducible refine go_f ed ?_) | ((with_reducible refine go_t ?_ ?_); (show _ = true; rfl)) | ((with_reducible refine go_f ?_ ?_); (show _ = false; rfl)) | (with_reducible refine go_ne ?_) | (with_reducible refine go_eq ?_) | (with_reducible refine go_fad ?_) | (with_reducible refine go_nil ?_))
      rfl
    · unfold wcl; rw [htx, hlen]; exact O3'
  · have ed : decide (((t.length : Nat) : Int) + 1 < ((sz b : Nat) : Int)) = false := decide_eq_false (by omega)
    have hF' : Full (b ++ [((val (t ++ [x]) : Nat) : Int)]) (pre ++ (t ++ [x])) := .snoc hF (by omega)
    have hbl' := hF'.len
    have hbl2 := hF.len
    have hll : (pre ++ t).length = pre.length + t.length := List.length_append
    obtain ⟨H4, e4, B4, n4, s4⟩ := app1 (bytes := 1) hB3 (by omega) (.int .u8 ((val (t ++ [x]) : Nat) : Int)) (by omega)
    have hp := hO.lt
    have O4 : Owns H4 p [.bool true, .slice q b.length c, .int .u8 ((val (t ++ [x]) : Nat) : Int), .int .i64 (((t.length : Nat) : Int) + 1), .int .i64 ((sz b : Nat) : Int), .int .i64 ((((pre ++ t).length : Nat) : Int) + 1)] 0 := by
      unfold Owns at *; rw [s4 p (by omega) h.apt]; exact O3'
    obtain ⟨H5, e5, O5, B5, n5⟩ := Owns.st1 (o := 1) O4 (by simp) (.slice (some ⟨H3.length + 1, 0, none⟩) (b.length + 1) unk)
    obtain ⟨H6, e6, O6, B6, n6⟩ := Owns.st1 (o := 4) O5 (by simp) (.int .i64 8)
    have m6 : ∀ o, hcell H6 p o = [Value.bool true, .slice (some ⟨H3.length + 1, 0, none⟩) (b.length + 1) unk, .int .u8 ((val (t ++ [x]) : Nat) : Int), .int .i64 (((t.length : Nat) : Int) + 1), .int .i64 8, .int .i64 ((((pre ++ t).length : Nat) : Int) + 1)][o]? := fun o => O6.sees.cell o
    have mb : hcell (H3 ++ [some (⟨[.int .u8 ((val (t ++ [x]) : Nat) : Int)], false, 0⟩ : Blk)]) p 1 = some (.slice q b.length c) := by rw [hcell_old (by omega)]; exact m3 1
    obtain ⟨H7, O7, B7, n7, g7⟩ : ∃ H7, Owns H7 p [.bool true, .slice (some ⟨H3.length + 1, 0, none⟩) (b.length + 1) unk, .int .u8 ((val (t ++ [x]) : Nat) : Int), .int .i64 (((t.length : Nat) : Int) + 1), .int .i64 ((sz (b ++ [((val (t ++ [x]) : Nat) : Int)]) : Nat) : Int), .int .i64 ((((pre ++ t).length : Nat) : Int) + 1)] 0 ∧ But p H6 H7 ∧ H7.length = H6.length ∧
        ∀ (R : Type) (KN : Option Addr → Heap → Option R), bitio_Writer_put_p0 k (some ⟨p, 0, none⟩) H6 KN = KN (some ⟨p, 0, none⟩) H7 := by
      rw [sz_snoc]
      by_cases h255 : ((val (t ++ [x]) : Nat) : Int) = 255
      · obtain ⟨H7, e7, O7, B7, n7⟩ := Owns.st1 (o := 4) O6 (by simp) (.int .i64 7)
        have hc : (((val (t ++ [x]) : Nat) : Int) == 255) = true := by rw [h255]; rfl
        rw [if_pos h255]
        refine ⟨H7, O7, B7, n7, fun R KN => ?_⟩
        unfold bitio_Writer_put_p0 bitio_Writer_put_p0_b
        repeat (first | (with_reducible refine (e7 _ _).trans ?_) | ((with_reducible refine go_ip (x := ?_) ?_ ?_); rotate_left 1; (first | ((with_reducible refine (m6 _).trans ?_); rfl) | rfl)) | ((with_reducible refine go_bp (x := ?_) ?_ ?_); rotate_left 1; (first | ((with_reducible refine (m6 _).trans ?_); rfl) | rfl)) | ((with_reducible refine go_lp (x := ?_) (l := ?_) (c := ?_) ?_ ?_); rotate_left 3; (first | ((with_reducible refine (m6 _).trans ?_); rfl) | rfl)) | ((with_reducible refine go_pp (x := ?_) ?_ ?_); rotate_left 1; (first | ((with_reducible refine (m6 _).trans ?_); rfl) | rfl)) | ((with_reducible refine go_i (x := ?_) ?_ ?_); rotate_left 1; (first | ((with_reducible refine (m6 _).trans ?_); rfl) | rfl)) | ((with_reducible refine go_b (x := ?_) ?_ ?_); rotate_left 1; (first | ((with_reducible refine (m6 _).trans ?_); rfl) | rfl)) | ((with_reducible refine go_l (x := ?_) (l := ?_) (c := ?_) ?_ ?_); rotate_left 3; (first | ((with_reducible refine (m6 _).trans ?_); rfl) | rfl)) | ((with_reducible refine go_p (x := ?_) ?_ ?_); rotate_left 1; (first | ((with_reducible refine (m6 _).trans ?_); rfl) | rfl)) | ((with_reducible refine go_halst rfl ?_ ?_ ?_); rfl; rfl) | (with_reducible refine go_halN rfl ?_) | (with_reducible refine go_t hc ?_) | (with_reducible refine go_f hc ?_) | ((with_reducible refine go_t ?_ ?_); (show _ = true; rfl)) | ((with_reducible refine go_f ?_ ?_); (show _ = false; rfl)) | (with_reducible refine go_ne ?_) | (with_reducible refine go_eq ?_) | (with_reducible refine go_fad ?_) | (with_reducible refine go_nil ?_))
        rfl
      · have hc : (((val (t ++ [x]) : Nat) : Int) == 255) = false := by simpa using h255
        rw [if_neg h255]
        refine ⟨H6, O6, .refl _ _, rfl, fun R KN => ?_⟩
        unfold bitio_Writer_put_p0 bitio_Writer_put_p0_b
        repeat (first | ((with_reducible refine go_ip (x := ?_) ?_ ?_); rotate_left 1; (first | ((with_reducible refine (m6 _).trans ?_); rfl) | rfl)) | ((with_reducible refine go_bp (x := ?_) ?_ ?_); rotate_left 1; (first | ((with_reducible refine (m6 _).trans ?_); rfl) | rfl)) | ((with_reducible refine go_lp (x := ?_) (l := ?_) (c := ?_) ?_ ?_); rotate_left 3; (first | ((with_reducible refine (m6 _).trans ?_); rfl) | rfl)) | ((with_reducible refine go_pp (x := ?_) ?_ ?_); rotate_left 1; (first | ((with_reducible refine (m6 _).trans ?_); rfl) | rfl)) | ((with_reducible refine go_i (x := ?_) ?_ ?_); rotate_left 1; (first | ((with_reducible refine (m6 _).trans ?_); rfl) | rfl)) | ((with_reducible refine go_b (x := ?_) ?_ ?_); rotate_left 1; (first | ((with_reducible refine (m6 _).trans ?_); rfl) | rfl)) | ((with_reducible refine go_l (x := ?_) (l := ?_) (c := ?_) ?_ ?_); rotate_left 3; (first | ((with_reducible refine (m6 _).trans ?_); rfl) | rfl)) | ((with_reducible refine go_p (x := ?_) ?_ ?_); rotate_left 1; (first | ((with_reducible refine (m6 _).trans ?_); rfl) | rfl)) | ((with_reducible refine go_halst rfl ?_ ?_ ?_); rfl; rfl) | (with_reducible refine go_halN rfl ?_) | (with_reducible refine go_t hc ?_) | (with_reducible refine go_f hc ?_) | ((with_reducible refine go_t ?_ ?_); (show _ = true; rfl)) | ((with_reducible refine go_f ?_ ?_); (show _ = false; rfl)) | (with_reducible refine go_ne ?_) | (with_reducible refine go_eq ?_) | (with_reducible refine go_fad ?_) | (with_reducible refine go_nil ?_))
        rfl
    obtain ⟨H8, e8, O8, B8, n8⟩ := Owns.st1 (o := 2) O7 (by simp) (.int .u8 0)
    obtain ⟨H9, e9, O9, B9, n9⟩ := Owns.st1 (o := 3) O8 (by simp) (.int .i64 0)
    have B59 : But p H4 H9 := (((B5.trans B6).trans B7).trans B8).trans B9
    refine ⟨some ⟨H3.length + 1, 0, none⟩, H9, fun R K => ?_, ⟨⟨unk, b ++ [((val (t ++ [x]) : Nat) : Int)], pre ++ (t ++ [x]), [], by simp, hF', by have := sz_ge (b ++ [((val (t ++ [x]) : Nat) : Int)]); simp only [List.length_nil]; omega, ?_, ?_, by rw [← List.append_assoc] at hbl'; exact hbl'⟩, h.low, fun a ha => by cases ha; simp only; omega, hb1⟩, ⟨by omega, fun i hi h1 h2 => ?_, .inr fun a ha => by cases ha; simp only; omega⟩⟩
    · unfold bitio_Writer_put bitio_Writer_put_b
      repeat (first | (with_reducible refine (s0 _ _).trans ?_) | (with_reducible refine (e1 _ _).trans ?_) | (with_reducible refine (e2' _ _).trans ?_) | (with_reducible refine (e3' _ _).trans ?_) | (with_reducible refine (e4 _ _).trans ?_) | (with_reducible refine (e5 _ _).trans ?_) | (with_reducible refine (e6 _ _).trans ?_) | (with_reducible refine (g7 _ _).trans ?_) | (with_reducible refine (e8 _ _).trans ?_) | (with_reducible refine (e9 _ _).trans ?_) | ((with_reducible refine go_ip (x := ?_) ?_ ?_); rotate_left 1; (first | ((with_reducible refine (m _).trans ?_); rfl) | ((with_reducible refine (m1 _).trans ?_); rfl) | ((with_reducible refine (m2 _).trans ?_); rfl) | ((with_reducible refine (m3 _).trans ?_); rfl) | rfl)) | ((with_reducible refine go_bp (x := ?_) ?_ ?_); rotate_left 1; (first | ((with_reducible refine (m _).trans ?_); rfl) | ((with_reducible refine (m1 _).trans ?_); rfl) | ((with_reducible refine (m2 _).trans ?_); rfl) | ((with_reducible refine (m3 _).trans ?_); rfl) | rfl)) | ((with_reducible refine go_lp (x := ?_) (l := ?_) (c := ?_) ?_ ?_); rotate_left 3; (first | ((with_reducible refine (m _).trans ?_); rfl) | ((with_reducible refine (m1 _).trans ?_); rfl) | ((with_reducible refine (m2 _).trans ?_); rfl) | ((with_reducible refine (m3 _).trans ?_); rfl) | rfl)) | ((with_reducible refine go_pp (x := ?_) ?_ ?_); rotate_left 1; (first | ((with_reducible refine (m _).trans ?_); rfl) | ((with_reducible refine (m1 _).trans ?_); rfl) | ((with_reducible refine (m2 _).trans ?_); rfl) | ((with_reducible refine (m3 _).trans ?_); rfl) | rfl)) | ((with_reducible refine go_i (x := ?_) ?_ ?_); rotate_left 1; (first | ((with_reducible refine (m _).trans ?_); rfl) | ((with_reducible refine (m1 _).trans ?_); rfl) | ((with_reducible refine (m2 _).trans ?_); rfl) | ((with_reducible refine (m3 _).trans ?_); rfl) | rfl)) | ((with_reducible refine go_b (x := ?_) ?_ ?_); rotate_left 1; (first | ((with_reducible refine (m _).trans ?_); rfl) | ((with_reducible refine (m1 _).trans ?_); rfl) | ((with_reducible refine (m2 _).trans ?_); rfl) | ((with_reducible refine (m3 _).trans ?_); rfl) | rfl)) | ((with_reducible refine go_l (x := ?_) (l := ?_) (c := ?_) ?_ ?_); rotate_left 3; (first | ((with_reducible refine (m _).trans ?_); rfl) | ((with_reducible refine (m1 _).trans ?_); rfl) | ((with_reducible refine (m2 _).trans ?_); rfl) | ((with_reducible refine (m3 _).trans ?_); rfl) | rfl)) | ((with_reducible refine go_p (x := ?_) ?_ ?_); rotate_left 1; (first | ((with_reducible refine (m _).trans ?_); rfl) | ((with_reducible refine (m1 _).trans ?_); rfl) | ((with_reducible refine (m2 _).trans ?_); rfl) | ((with_reducible refine (m3 _).trans ?_); rfl) | rfl)) | ((with_reducible refine go_halst rfl ?_ ?_ ?_); rfl; rfl) | (with_reducible refine go_halN rfl ?_) | (with_reducible refine go_t ed ?_) | (with_reducible refine go_f ed ?_) | ((with_reducible refine go_t ?_ ?_); (show _ = true; rfl)) | ((with_reducible refine go_f ?_ ?_); (show _ = false; rfl)) | (with_reducible refine go_ne ?_) | (with_reducible refine go_eq ?_) | (with_reducible refine go_fad ?_) | (with_reducible refine go_nil ?_))
      rfl
    · unfold wcl
      rw [hlen, show (b ++ [((val (t ++ [x]) : Nat) : Int)]).length = b.length + 1 from by simp]
      exact O9
    · rw [byt_app, show (b ++ [((val (t ++ [x]) : Nat) : Int)]).length = b.length + 1 from by simp]
      exact Bld.stp (Stp.of_but (q := none) B59) B4 (fun a ha => by cases ha; simp only; omega) (fun a b ha => by cases ha)
    · rw [B59.2 i (by omega) h1, s4 i (by omega) h2, B13.2 i hi h1]
theorem nWriter_eq {N : Nat} {H : Heap} (hN : N ≤ H.length) : ∃ H', (∀ (R : Type) (K : Option Addr → Heap → Option R), bitio_NewWriter H K = K (some ⟨H.length, 0, none⟩) H') ∧ Wr N H' H.length none [] ∧ Old H.length H H' ∧ H'.length = H.length + 1 := by
  refine ⟨H ++ [some ⟨[.bool true, .slice none 0 0, .int .u8 0, .int .i64 0, .int .i64 8, .int .i64 0], false, 0⟩], fun R K => rfl, ⟨⟨0, [], [], [], rfl, .nil, by decide, (show hblk _ _ = _ from hblk_new H _), Bld.nil _ _ _, by simp⟩, hN, (fun a ha => by cases ha), (fun x hx => by cases hx)⟩, Old.app _ _, by simp⟩
theorem ok_eq {N : Nat} {H : Heap} {p : Nat} {q : Option Addr} {l : List Int} (h : Wr N H p q l) : ∀ (R : Type) (K : Bool → Option R), bitio_Writer_ok (some ⟨p, 0, none⟩) H K = K true := by
  obtain ⟨c, b, pre, t, rfl, hF, ht, hO, hB, _⟩ := h.c
  have m : hcell H p 0 = some (.bool true) := hO.sees.cell 0
  intro R K
  unfold bitio_Writer_ok bitio_Writer_ok_b
  repeat (first | ((with_reducible refine go_ip (x := ?_) ?_ ?_); rotate_left 1; (first  | exact m | rfl)) | ((with_reducible refine go_bp (x := ?_) ?_ ?_); rotate_left 1; (first  | exact m | rfl)) | ((with_reducible refine go_lp (x := ?_) (l := ?_) (c := ?_) ?_ ?_); rotate_left 3; (first  | exact m | rfl)) | ((with_reducible refine go_pp (x := ?_) ?_ ?_); rotate_left 1; (first  | exact m | rfl)) | ((with_reducible refine go_i (x := ?_) ?_ ?_); rotate_left 1; (first  | exact m | rfl)) | ((with_reducible refine go_b (x := ?_) ?_ ?_); rotate_left 1; (first  | exact m | rfl)) | ((with_reducible refine go_l (x := ?_) (l := ?_) (c := ?_) ?_ ?_); rotate_left 3; (first  | exact m | rfl)) | ((with_reducible refine go_p (x := ?_) ?_ ?_); rotate_left 1; (first  | exact m | rfl)) | ((with_reducible refine go_halst rfl ?_ ?_ ?_); rfl; rfl) | (with_reducible refine go_halN rfl ?_) | ((with_reducible refine go_t ?_ ?_); (show _ = true; rfl)) | ((with_reducible refine go_f ?_ ?_); (show _ = false; rfl)) | (with_reducible refine go_ne ?_) | (with_reducible refine go_eq ?_) | (with_reducible refine go_fad ?_) | (with_reducible refine go_nil ?_))
  rfl
theorem len_eq {N : Nat} {H : Heap} {p : Nat} {q : Option Addr} {l : List Int} (h : Wr N H p q l) : ∀ (R : Type) (K : Int → Option R), bitio_Writer_Len (some ⟨p, 0, none⟩) H K = K ((l.length : Nat) : Int) := by
  have o := ok_eq h
  obtain ⟨c, b, pre, t, rfl, hF, ht, hO, hB, _⟩ := h.c
  have m : hcell H p 5 = some (.int .i64 (((pre ++ t).length : Nat) : Int)) := hO.sees.cell 5
  intro R K
  unfold bitio_Writer_Len bitio_Writer_Len_b
  repeat (first | (with_reducible refine (o _ _).trans ?_) | ((with_reducible refine go_ip (x := ?_) ?_ ?_); rotate_left 1; (first  | exact m | rfl)) | ((with_reducible refine go_bp (x := ?_) ?_ ?_); rotate_left 1; (first  | exact m | rfl)) | ((with_reducible refine go_lp (x := ?_) (l := ?_) (c := ?_) ?_ ?_); rotate_left 3; (first  | exact m | rfl)) | ((with_reducible refine go_pp (x := ?_) ?_ ?_); rotate_left 1; (first  | exact m | rfl)) | ((with_reducible refine go_i (x := ?_) ?_ ?_); rotate_left 1; (first  | exact m | rfl)) | ((with_reducible refine go_b (x := ?_) ?_ ?_); rotate_left 1; (first  | exact m | rfl)) | ((with_reducible refine go_l (x := ?_) (l := ?_) (c := ?_) ?_ ?_); rotate_left 3; (first  | exact m | rfl)) | ((with_reducible refine go_p (x := ?_) ?_ ?_); rotate_left 1; (first  | exact m | rfl)) | ((with_reducible refine go_halst rfl ?_ ?_ ?_); rfl; rfl) | (with_reducible refine go_halN rfl ?_) | ((with_reducible refine go_t ?_ ?_); (show _ = true; rfl)) | ((with_reducible refine go_f ?_ ?_); (show _ = false; rfl)) | (with_reducible refine go_ne ?_) | (with_reducible refine go_eq ?_) | (with_reducible refine go_fad ?_) | (with_reducible refine go_nil ?_))
  rfl
end Go.Proofs.Ytblkejnciinaeaa.Sh
/- Bitio: what the calls of a writer come to. -/
set_option linter.unusedVariables false
set_option linter.unusedSimpArgs false
namespace Go.Proofs.Ytblkejnciinaeaa.Sh
open Go.Proofs.Ytblkejnciinaeaa.FW Go.IntWalk
/-- What the calls of a writer return, and the bits that they append. -/
def wP (x : Int) : Int × List Int := if x = 0 ∨ x = 1 then (0, [x]) else (1, [])
def wB (v n : Int) : Int × List Int := if 0 ≤ n ∧ n ≤ 32 ∧ 0 ≤ v ∧ v < 2 ^ n.toNat then (0, bt v.toNat n.toNat) else (1, [])
def gm (v : Nat) : List Int := List.replicate v.log2 0 ++ bt v (v.log2 + 1)
def wG (v : Int) : Int × List Int := if 1 ≤ v ∧ v < 4294967296 then (0, gm v.toNat) else (1, [])
def wU (v : Int) : Int × List Int := if 0 ≤ v ∧ v ≤ 65535 then (0, List.replicate v.toNat 1 ++ [0]) else (1, [])
theorem bit_n (v m : Nat) : v / 2 ^ m &&& 1 = v / 2 ^ m % 2 := Nat.and_one_is_mod _
end Go.Proofs.Ytblkejnciinaeaa.Sh
/- Bitio: the program's writer, its calls. -/
set_option linter.unusedVariables false
set_option linter.unusedSimpArgs false
namespace Go.Proofs.Ytblkejnciinaeaa.Sh
open Go.Proofs.Ytblkejnciinaeaa.FW Go.IntWalk
theorem pPut_eq (k : Nat) {N : Nat} {H : Heap} {p : Nat} {q : Option Addr} {l : List Int} (h : Wr N H p q l) (hN : N ≤ H.length) (hl : l.length < 1000000) (x : Int) :
    ∃ q' H', (∀ (R : Type) (K : Int → Heap → Option R), bitio_Writer_Put k (some ⟨p, 0, none⟩) x H K = K (wP x).1 H') ∧ Wr N H' p q' (l ++ (wP x).2) ∧ Stp p q H q' H' := by
  have o := ok_eq h
  by_cases hx : x = 0 ∨ x = 1
  · obtain ⟨q', H', e1, W, S⟩ := put_eq k h hN hl hx
    have e : wP x = (0, [x]) := if_pos hx
    rw [e]
    refine ⟨_, H', fun R K => ?_, W, S⟩
    unfold bitio_Writer_Put bitio_Writer_Put_b bitio_Writer_Put_p0 bitio_Writer_Put_p0_b
    have hc : (x != 0) = false ∨ ((x != 0) = true ∧ (x != 1) = false) := by rcases hx with rfl | rfl <;> simp
    rcases hc with hc | ⟨hc, hd⟩
    · repeat (first | (with_reducible refine (o _ _).trans ?_) | (with_reducible refine (e1 _ _).trans ?_) | ((with_reducible refine go_ip (x := ?_) ?_ ?_); rotate_left 1; (first  | rfl)) | ((with_reducible refine go_bp (x := ?_) ?_ ?_); rotate_left 1; (first  | rfl)) | ((with_reducible refine go_lp (x := ?_) (l := ?_) (c := ?_) ?_ ?_); rotate_left 3; (first  | rfl)) | ((with_reducible refine go_pp (x := ?_) ?_ ?_); rotate_left 1; (first  | rfl)) | ((with_reducible refine go_i (x := ?_) ?_ ?_); rotate_left 1; (first  | rfl)) | ((with_reducible refine go_b (x := ?_) ?_ ?_); rotate_left 1; (first  | rfl)) | ((with_reducible refine go_l (x := ?_) (l := ?_) (c := ?_) ?_ ?_); rotate_left 3; (first  | rfl)) | ((with_reducible refine go_p (x := ?_) ?_ ?_); rotate_left 1; (first  | rfl)) | ((with_reducible refine go_halst rfl ?_ ?_ ?_); rfl; rfl) | (with_reducible refine go_halN rfl ?_) | (with_reducible refine go_t hc ?_) | (with_reducible refine go_f hc ?_) | ((with_reducible refine go_t ?_ ?_); (show _ = true; rfl)) | ((with_reducible refine go_f ?_ ?_); (show _ = false; rfl)) | (with_reducible refine go_ne ?_) | (with_reducible refine go_eq ?_) | (with_reducible refine go_fad ?_) | (with_reducible refine go_nil ?_))
      rfl
    · repeat (first | (with_reducible refine (o _ _).trans ?_) | (with_reducible refine (e1 _ _).trans ?_) | ((with_reducible refine go_ip (x := ?_) ?_ ?_); rotate_left 1; (first  | rfl)) | ((with_reducible refine go_bp (x := ?_) ?_ ?_); rotate_left 1; (first  | rfl)) | ((with_reducible refine go_lp (x := ?_) (l := ?_) (c := ?_) ?_ ?_); rotate_left 3; (first  | rfl)) | ((with_reducible refine go_pp (x := ?_) ?_ ?_); rotate_left 1; (first  | rfl)) | ((with_reducible refine go_i (x := ?_) ?_ ?_); rotate_left 1; (first  | rfl)) | ((with_reducible refine go_b (x := ?_) ?_ ?_); rotate_left 1; (first  | rfl)) | ((with_reducible refine go_l (x := ?_) (l := ?_) (c := ?_) ?_ ?_); rotate_left 3; (first  | rfl)) | ((with_reducible refine go_p (x := ?_) ?_ ?_); rotate_left 1; (first  | rfl)) | ((with_reducible refine go_halst rfl ?_ ?_ ?_); rfl; rfl) | (with_reducible refine go_halN rfl ?_) | (with_reducible refine go_t hc ?_) | (with_reducible refine go_f hc ?_) | (with_reducible refine go_t hd ?_) | (with_reducible refine go_f hd ?_) | ((with_reducible refine go_t ?_ ?_); (show _ = true; rfl)) | ((with_reducible refine go_f ?_ ?_); (show _ = false; rfl)) | (with_reducible refine go_ne ?_) | (with_reducible refine go_eq ?_) | (with_reducible refine go_fad ?_) | (with_reducible refine go_nil ?_))
      rfl
  · have e : wP x = (1, []) := if_neg hx
    rw [e]
    refine ⟨q, H, fun R K => ?_, by simpa using h, .refl _ _ _⟩
    have hc : (x != 0) = true := by simp; omega
    have hd : (x != 1) = true := by simp; omega
    unfold bitio_Writer_Put bitio_Writer_Put_b bitio_Writer_Put_p0 bitio_Writer_Put_p0_b
    repeat (first | (with_reducible refine (o _ _).trans ?_) | ((with_reducible refine go_ip (x := ?_) ?_ ?_); rotate_left 1; (first  | rfl)) | ((with_reducible refine go_bp (x := ?_) ?_ ?_); rotate_left 1; (first  | rfl)) | ((with_reducible refine go_lp (x := ?_) (l := ?_) (c := ?_) ?_ ?_); rotate_left 3; (first  | rfl)) | ((with_reducible refine go_pp (x := ?_) ?_ ?_); rotate_left 1; (first  | rfl)) | ((with_reducible refine go_i (x := ?_) ?_ ?_); rotate_left 1; (first  | rfl)) | ((with_reducible refine go_b (x := ?_) ?_ ?_); rotate_left 1; (first  | rfl)) | ((with_reducible refine go_l (x := ?_) (l := ?_) (c := ?_) ?_ ?_); rotate_left 3; (first  | rfl)) | ((with_reducible refine go_p (x := ?_) ?_ ?_); rotate_left 1; (first  | rfl)) | ((with_reducible refine go_halst rfl ?_ ?_ ?_); rfl; rfl) | (with_reducible refine go_halN rfl ?_) | (with_reducible refine go_t hc ?_) | (with_reducible refine go_f hc ?_) | (with_reducible refine go_t hd ?_) | (with_reducible refine go_f hd ?_) | ((with_reducible refine go_t ?_ ?_); (show _ = true; rfl)) | ((with_reducible refine go_f ?_ ?_); (show _ = false; rfl)) | (with_reducible refine go_ne ?_) | (with_reducible refine go_eq ?_) | (with_reducible refine go_fad ?_) | (with_reducible refine go_nil ?_))
    rfl
theorem pBits_l (k : Nat) {N p v : Nat} (hv : v < 2 ^ 60) : ∀ (m n : Nat), m < n → m ≤ 33 → ∀ (i : Int), i = (m : Int) - 1 → ∀ (H : Heap) (q : Option Addr) (l : List Int), Wr N H p q l → N ≤ H.length → l.length + m < 1000000 →
    ∃ q' H', (∀ (R : Type) (KE : Heap → Option R), bitio_Writer_Bits_l1 k KE n (some ⟨p, 0, none⟩) (v : Int) i H = KE H') ∧ Wr N H' p q' (l ++ bt v m) ∧ Stp p q H q' H' := by
  intro m
  induction m with
  | zero =>
    intro n hn hm i hi H q l h hN hl
    obtain ⟨n, rfl⟩ : ∃ n', n = n' + 1 := ⟨n - 1, by omega⟩
    have ed : decide (i ≥ 0) = false := decide_eq_false (by omega)
    refine ⟨q, H, fun R KE => ?_, by simpa [bt] using h, .refl _ _ _⟩
    unfold bitio_Writer_Bits_l1 bitio_Writer_Bits_l1_b
    repeat (first | ((with_reducible refine go_ip (x := ?_) ?_ ?_); rotate_left 1; (first  | rfl)) | ((with_reducible refine go_bp (x := ?_) ?_ ?_); rotate_left 1; (first  | rfl)) | ((with_reducible refine go_lp (x := ?_) (l := ?_) (c := ?_) ?_ ?_); rotate_left 3; (first  | rfl)) | ((with_reducible refine go_pp (x := ?_) ?_ ?_); rotate_left 1; (first  | rfl)) | ((with_reducible refine go_i (x := ?_) ?_ ?_); rotate_left 1; (first  | rfl)) | ((with_reducible refine go_b (x := ?_) ?_ ?_); rotate_left 1; (first  | rfl)) | ((with_reducible refine go_l (x := ?_) (l := ?_) (c := ?_) ?_ ?_); rotate_left 3; (first  | rfl)) | ((with_reducible refine go_p (x := ?_) ?_ ?_); rotate_left 1; (first  | rfl)) | ((with_reducible refine go_halst rfl ?_ ?_ ?_); rfl; rfl) | (with_reducible refine go_halN rfl ?_) | (with_reducible refine go_t ed ?_) | (with_reducible refine go_f ed ?_) | ((with_reducible refine go_t ?_ ?_); (show _ = true; rfl)) | ((with_reducible refine go_f ?_ ?_); (show _ = false; rfl)) | (with_reducible refine go_ne ?_) | (with_reducible refine go_eq ?_) | (with_reducible refine go_fad ?_) | (with_reducible refine go_nil ?_))
    rfl
  | succ m ih =>
    intro n hn hm i hi H q l h hN hl
    obtain ⟨n, rfl⟩ : ∃ n', n = n' + 1 := ⟨n - 1, by omega⟩
    obtain rfl : i = (m : Int) := by omega
    have ed : decide ((m : Int) ≥ 0) = true := decide_eq_true (by omega)
    obtain ⟨q2, H2, e1, U, S⟩ := put_eq k h hN (by omega) (x := ((v / 2 ^ m % 2 : Nat) : Int)) (by omega)
    obtain ⟨q', H', e3, U3, S3⟩ := ih n (by omega) (by omega) ((m : Int) - 1) rfl H2 _ _ U (by have := S.len; omega) (by rw [List.length_append]; simp only [List.length_cons, List.length_nil]; omega)
    have s1 : ∀ (R : Type) (K : Int → Option R), hbin .shr .i64 (v : Int) (IntKind.wrap .u64 (m : Int)) K = K ((v / 2 ^ m : Nat) : Int) := fun R K => shr64 (by omega) K
    have s2 : ∀ (R : Type) (K : Int → Option R), hbin .and .i64 ((v / 2 ^ m : Nat) : Int) 1 K = K ((v / 2 ^ m % 2 : Nat) : Int) := fun R K => by
      rw [← bit_n]; exact and64 (b := 1) (Nat.lt_of_le_of_lt (Nat.div_le_self _ _) (by omega)) (by omega) K
    have w := w64 (n := (m : Int) - 1) (by omega) (by omega)
    refine ⟨q', H', fun R KE => ?_, by rw [bt]; simpa [List.append_assoc] using U3, S.trans S3⟩
    unfold bitio_Writer_Bits_l1 bitio_Writer_Bits_l1_b
    repeat (first | (with_reducible refine (s1 _ _).trans ?_) | (with_reducible refine (s2 _ _).trans ?_) | (with_reducible refine (e1 _ _).trans ?_) | ((with_reducible refine go_ip (x := ?_) ?_ ?_); rotate_left 1; (first  | rfl)) | ((with_reducible refine go_bp (x := ?_) ?_ ?_); rotate_left 1; (first  | rfl)) | ((with_reducible refine go_lp (x := ?_) (l := ?_) (c := ?_) ?_ ?_); rotate_left 3; (first  | rfl)) | ((with_reducible refine go_pp (x := ?_) ?_ ?_); rotate_left 1; (first  | rfl)) | ((with_reducible refine go_i (x := ?_) ?_ ?_); rotate_left 1; (first  | rfl)) | ((with_reducible refine go_b (x := ?_) ?_ ?_); rotate_left 1; (first  | rfl)) | ((with_reducible refine go_l (x := ?_) (l := ?_) (c := ?_) ?_ ?_); rotate_left 3; (first  | rfl)) | ((with_reducible refine go_p (x := ?_) ?_ ?_); rotate_left 1; (first  | rfl)) | ((with_reducible refine go_halst rfl ?_ ?_ ?_); rfl; rfl) | (with_reducible refine go_halN rfl ?_) | (with_reducible refine go_t ed ?_) | (with_reducible refine go_f ed ?_) | ((with_reducible refine go_t ?_ ?_); (show _ = true; rfl)) | ((with_reducible refine go_f ?_ ?_); (show _ = false; rfl)) | (with_reducible refine go_ne ?_) | (with_reducible refine go_eq ?_) | (with_reducible refine go_fad ?_) | (with_reducible refine go_nil ?_))
    try dsimp only
    rw [w]
    exact e3 _ _
theorem pBits_eq {k : Nat} (hk : 1000 < k) {N : Nat} {H : Heap} {p : Nat} {q : Option Addr} {l : List Int} (h : Wr N H p q l) (hN : N ≤ H.length) (hl : l.length < 999000) (v nn : Int) (hv : v ≤ 9223372036854775807) :
    ∃ q' H', (∀ (R : Type) (K : Int → Heap → Option R), bitio_Writer_Bits k (some ⟨p, 0, none⟩) v nn H K = K (wB v nn).1 H') ∧ Wr N H' p q' (l ++ (wB v nn).2) ∧ Stp p q H q' H' := by
  have o := ok_eq h
  have bad : wB v nn = (1, []) → (∀ (R : Type) (K : Int → Heap → Option R), bitio_Writer_Bits k (some ⟨p, 0, none⟩) v nn H K = K 1 H) → ∃ q' H', (∀ (R : Type) (K : Int → Heap → Option R), bitio_Writer_Bits k (some ⟨p, 0, none⟩) v nn H K = K (wB v nn).1 H') ∧ Wr N H' p q' (l ++ (wB v nn).2) ∧ Stp p q H q' H' := fun e g => by
    rw [e]; exact ⟨q, H, g, by simpa using h, .refl _ _ _⟩
  by_cases c1 : nn < 0
  · refine bad (if_neg (by omega)) fun R K => ?_
    have d1 := decide_eq_true c1
    unfold bitio_Writer_Bits bitio_Writer_Bits_b bitio_Writer_Bits_p0 bitio_Writer_Bits_p0_b
    repeat (first | (with_reducible refine (o _ _).trans ?_) | ((with_reducible refine go_ip (x := ?_) ?_ ?_); rotate_left 1; (first  | rfl)) | ((with_reducible refine go_bp (x := ?_) ?_ ?_); rotate_left 1; (first  | rfl)) | ((with_reducible refine go_lp (x := ?_) (l := ?_) (c := ?_) ?_ ?_); rotate_left 3; (first  | rfl)) | ((with_reducible refine go_pp (x := ?_) ?_ ?_); rotate_left 1; (first  | rfl)) | ((with_reducible refine go_i (x := ?_) ?_ ?_); rotate_left 1; (first  | rfl)) | ((with_reducible refine go_b (x := ?_) ?_ ?_); rotate_left 1; (first  | rfl)) | ((with_reducible refine go_l (x := ?_) (l := ?_) (c := ?_) ?_ ?_); rotate_left 3; (first  | rfl)) | ((with_reducible refine go_p (x := ?_) ?_ ?_); rotate_left 1; (first  | rfl)) | ((with_reducible refine go_halst rfl ?_ ?_ ?_); rfl; rfl) | (with_reducible refine go_halN rfl ?_) | (with_reducible refine go_t d1 ?_) | (with_reducible refine go_f d1 ?_) | ((with_reducible refine go_t ?_ ?_); (show _ = true; rfl)) | ((with_reducible refine go_f ?_ ?_); (show _ = false; rfl)) | (with_reducible refine go_ne ?_) | (with_reducible refine go_eq ?_) | (with_reducible refine go_fad ?_) | (with_reducible refine go_nil ?_))
    rfl
  have d1 := decide_eq_false c1
  by_cases c2 : nn > 32
  · refine bad (if_neg (by omega)) fun R K => ?_
    have d2 := decide_eq_true c2
    unfold bitio_Writer_Bits bitio_Writer_Bits_b bitio_Writer_Bits_p0 bitio_Writer_Bits_p0_b
    repeat (first | (with_reducible refine (o _ _).trans ?_) | ((with_reducible refine go_ip (x := ?_) ?_ ?_); rotate_left 1; (first  | rfl)) | ((with_reducible refine go_bp (x := ?_) ?_ ?_); rotate_left 1; (first  | rfl)) | ((with_reducible refine go_lp (x := ?_) (l := ?_) (c := ?_) ?_ ?_); rotate_left 3; (first  | rfl)) | ((with_reducible refine go_pp (x := ?_) ?_ ?_); rotate_left 1; (first  | rfl)) | ((with_reducible refine go_i (x := ?_) ?_ ?_); rotate_left 1; (first  | rfl)) | ((with_reducible refine go_b (x := ?_) ?_ ?_); rotate_left 1; (first  | rfl)) | ((with_reducible refine go_l (x := ?_) (l := ?_) (c := ?_) ?_ ?_); rotate_left 3; (first  | rfl)) | ((with_reducible refine go_p (x := ?_) ?_ ?_); rotate_left 1; (first  | rfl)) | ((with_reducible refine go_halst rfl ?_ ?_ ?_); rfl; rfl) | (with_reducible refine go_halN rfl ?_) | (with_reducible refine go_t d1 ?_) | (with_reducible refine go_f d1 ?_) | (with_reducible refine go_t d2 ?_) | (with_reducible refine go_f d2 ?_) | ((with_reducible refine go_t ?_ ?_); (show _ = true; rfl)) | ((with_reducible refine go_f ?_ ?_); (show _ = false; rfl)) | (with_reducible refine go_ne ?_) | (with_reducible refine go_eq ?_) | (with_reducible refine go_fad ?_) | (with_reducible refine go_nil ?_))
    rfl
  have d2 := decide_eq_false c2
  by_cases c3 : v < 0
  · refine bad (if_neg (by omega)) fun R K => ?_
    have d3 := decide_eq_true c3
    unfold bitio_Writer_Bits bitio_Writer_Bits_b bitio_Writer_Bits_p0 bitio_Writer_Bits_p0_b
    repeat (first | (with_reducible refine (o _ _).trans ?_) | ((with_reducible refine go_ip (x := ?_) ?_ ?_); rotate_left 1; (first  | rfl)) | ((with_reducible refine go_bp (x := ?_) ?_ ?_); rotate_left 1; (first  | rfl)) | ((with_reducible refine go_lp (x := ?_) (l := ?_) (c := ?_) ?_ ?_); rotate_left 3; (first  | rfl)) | ((with_reducible refine go_pp (x := ?_) ?_ ?_); rotate_left 1; (first  | rfl)) | ((with_reducible refine go_i (x := ?_) ?_ ?_); rotate_left 1; (first  | rfl)) | ((with_reducible refine go_b (x := ?_) ?_ ?_); rotate_left 1; (first  | rfl)) | ((with_reducible refine go_l (x := ?_) (l := ?_) (c := ?_) ?_ ?_); rotate_left 3; (first  | rfl)) | ((with_reducible refine go_p (x := ?_) ?_ ?_); rotate_left 1; (first  | rfl)) | ((with_reducible refine go_halst rfl ?_ ?_ ?_); rfl; rfl) | (with_reducible refine go_halN rfl ?_) | (with_reducible refine go_t d1 ?_) | (with_reducible refine go_f d1 ?_) | (with_reducible refine go_t d2 ?_) | (with_reducible refine go_f d2 ?_) | (with_reducible refine go_t d3 ?_) | (with_reducible refine go_f d3 ?_) | ((with_reducible refine go_t ?_ ?_); (show _ = true; rfl)) | ((with_reducible refine go_f ?_ ?_); (show _ = false; rfl)) | (with_reducible refine go_ne ?_) | (with_reducible refine go_eq ?_) | (with_reducible refine go_fad ?_) | (with_reducible refine go_nil ?_))
    rfl
  have d3 := decide_eq_false c3
  obtain ⟨n, rfl⟩ : ∃ n : Nat, nn = n := ⟨nn.toNat, by omega⟩
  have hp := p32 (n := n) (by omega)
  have s0 : ∀ (R : Type) (K : Int → Option R), hbin .shl .i64 1 (IntKind.wrap .u64 (n : Int)) K = K ((2 ^ n : Nat) : Int) := fun R K => by
    have := shl64 (a := 1) (n := n) (by omega) (by omega) K
    rwa [Nat.one_mul] at this
  by_cases c4 : v ≥ ((2 ^ n : Nat) : Int)
  · refine bad (if_neg fun hh => ?_) fun R K => ?_
    · have := hh.2.2.2
      rw [Int.toNat_natCast] at this
      have e : ((2 ^ n : Nat) : Int) = 2 ^ n := by rw [Int.natCast_pow]; rfl
      omega
    have d4 := decide_eq_true c4
    unfold bitio_Writer_Bits bitio_Writer_Bits_b bitio_Writer_Bits_p0 bitio_Writer_Bits_p0_b
    repeat (first | (with_reducible refine (o _ _).trans ?_) | (with_reducible refine (s0 _ _).trans ?_) | ((with_reducible refine go_ip (x := ?_) ?_ ?_); rotate_left 1; (first  | rfl)) | ((with_reducible refine go_bp (x := ?_) ?_ ?_); rotate_left 1; (first  | rfl)) | ((with_reducible refine go_lp (x := ?_) (l := ?_) (c := ?_) ?_ ?_); rotate_left 3; (first  | rfl)) | ((with_reducible refine go_pp (x := ?_) ?_ ?_); rotate_left 1; (first  | rfl)) | ((with_reducible refine go_i (x := ?_) ?_ ?_); rotate_left 1; (first  | rfl)) | ((with_reducible refine go_b (x := ?_) ?_ ?_); rotate_left 1; (first  | rfl)) | ((with_reducible refine go_l (x := ?_) (l := ?_) (c := ?_) ?_ ?_); rotate_left 3; (first  | rfl)) | ((with_reducible refine go_p (x := ?_) ?_ ?_); rotate_left 1; (first  | rfl)) | ((with_reducible refine go_halst rfl ?_ ?_ ?_); rfl; rfl) | (with_reducible refine go_halN rfl ?_) | (with_reducible refine go_t d1 ?_) | (with_reducible refine go_f d1 ?_) | (with_reducible refine go_t d2 ?_) | (with_reducible refine go_f d2 ?_) | (with_reducible refine go_t d3 ?_) | (with_reducible refine go_f d3 ?_) | (with_reducible refine go_t d4 ?_) | (with_reducible refine go_f d4 ?_) | ((with_reducible refine go_t ?_ ?_); (show _ = true; rfl)) | ((with_reducible refine go_f ?_ ?_); (show _ = false; rfl)) | (with_reducible refine go_ne ?_) | (with_reducible refine go_eq ?_) | (with_reducible refine go_fad ?_) | (with_reducible refine go_nil ?_))
    rfl
  have d4 := decide_eq_false c4
  obtain ⟨u, rfl⟩ : ∃ u : Nat, v = u := ⟨v.toNat, by omega⟩
  have e : wB (u : Int) (n : Int) = (0, bt u n) := by
    have e : ((2 ^ n : Nat) : Int) = 2 ^ n := by rw [Int.natCast_pow]; rfl
    unfold wB
    rw [if_pos ⟨by omega, by omega, by omega, by rw [Int.toNat_natCast]; omega⟩, Int.toNat_natCast, Int.toNat_natCast]
  obtain ⟨q', H', e3, U3, S3⟩ := pBits_l k (N := N) (p := p) (v := u) (by omega) n k (by omega) (by omega) ((n : Int) - 1) rfl H q l h hN (by omega)
  have w := w64 (n := (n : Int) - 1) (by omega) (by omega)
  rw [e]
  refine ⟨q', H', fun R K => ?_, U3, S3⟩
  unfold bitio_Writer_Bits bitio_Writer_Bits_b bitio_Writer_Bits_p0 bitio_Writer_Bits_p0_b
  repeat (first | (with_reducible refine (o _ _).trans ?_) | (with_reducible refine (s0 _ _).trans ?_) | ((with_reducible refine go_ip (x := ?_) ?_ ?_); rotate_left 1; (first  | rfl)) | ((with_reducible refine go_bp (x := ?_) ?_ ?_); rotate_left 1; (first  | rfl)) | ((with_reducible refine go_lp (x := ?_) (l := ?_) (c := ?_) ?_ ?_); rotate_left 3; (first  | rfl)) | ((with_reducible refine go_pp (x := ?_) ?_ ?_); rotate_left 1; (first  | rfl)) | ((with_reducible refine go_i (x := ?_) ?_ ?_); rotate_left 1; (first  | rfl)) | ((with_reducible refine go_b (x := ?_) ?_ ?_); rotate_left 1; (first  | rfl)) | ((with_reducible refine go_l (x := ?_) (l := ?_) (c := ?_) ?_ ?_); rotate_left 3; (first  | rfl)) | ((with_reducible refine go_p (x := ?_) ?_ ?_); rotate_left 1; (first  | rfl)) | ((with_reducible refine go_halst rfl ?_ ?_ ?_); rfl; rfl) | (with_reducible refine go_halN rfl ?_) | (with_reducible refine go_t d1 ?_) | (with_reducible refine go_f d1 ?_) | (with_reducible refine go_t d2 ?_) | (with_reducible refine go_f d2 ?_) | (with_reducible refine go_t d3 ?_) | (with_reducible refine go_f d3 ?_) | (with_reducible refine go_t d4 ?_) | (with_reducible refine go_f d4 ?_) | ((with_reducible refine go_t ?_ ?_); (show _ = true; rfl)) | ((with_reducible refine go_f ?_ ?_); (show _ = false; rfl)) | (with_reducible refine go_ne ?_) | (with_reducible refine go_eq ?_) | (with_reducible refine go_fad ?_) | (with_reducible refine go_nil ?_))
  try dsimp only
  rw [w]
  exact e3 _ _
end Go.Proofs.Ytblkejnciinaeaa.Sh
/- Bitio: the reference's writer. -/
set_option linter.unusedVariables false
set_option linter.unusedSimpArgs false
namespace Go.Proofs.Ytblkejnciinaeaa.Sh
open Go.Proofs.Ytblkejnciinaeaa.FW Go.IntWalk
theorem uPut_eq (k : Nat) {N : Nat} {H : Heap} {p : Nat} {q : Option Addr} {l : List Int} (h : Ur N H p q l) (hN : N ≤ H.length) (hl : l.length < 1000000) (x : Int) :
    ∃ q' H', (∀ (R : Type) (K : Int → Heap → Option R), R09_Writer_Put k (some ⟨p, 0, none⟩) x H K = K (wP x).1 H') ∧ Ur N H' p q' (l ++ (wP x).2) ∧ Stp p q H q' H' := by
  obtain ⟨c, h1, h2⟩ := h.c
  have m : ∀ o, hcell H p o = [Value.bool true, .slice q l.length c][o]? := fun o => h1.sees.cell o
  by_cases hx : x = 0 ∨ x = 1
  · obtain ⟨c', H1, H2, c1, e1, e2, U, S⟩ := h.add hN x hl
    have e : wP x = (0, [x]) := if_pos hx
    have m0 : hcell H p 0 = some (.bool true) := m 0
    rw [e]
    refine ⟨_, H2, fun R K => ?_, U, S⟩
    unfold R09_Writer_Put R09_Writer_Put_b R09_Writer_Put_p0 R09_Writer_Put_p0_b R09_Writer_Put_p1 R09_Writer_Put_p1_b
    have hc : (x != 0) = false ∨ ((x != 0) = true ∧ (x != 1) = false) := by rcases hx with rfl | rfl <;> simp
    rcases hc with hc | ⟨hc, hd⟩
    · repeat (first | (with_reducible refine (e1 _ _).trans ?_) | (with_reducible refine (e2 _ _).trans ?_) | ((with_reducible refine go_ip (x := ?_) ?_ ?_); rotate_left 1; (first | ((with_reducible refine (hcell_new _ _ _).trans ?_); rfl) | exact m0 | exact c1 | rfl)) | ((with_reducible refine go_bp (x := ?_) ?_ ?_); rotate_left 1; (first | ((with_reducible refine (hcell_new _ _ _).trans ?_); rfl) | exact m0 | exact c1 | rfl)) | ((with_reducible refine go_lp (x := ?_) (l := ?_) (c := ?_) ?_ ?_); rotate_left 3; (first | ((with_reducible refine (hcell_new _ _ _).trans ?_); rfl) | exact m0 | exact c1 | rfl)) | ((with_reducible refine go_pp (x := ?_) ?_ ?_); rotate_left 1; (first | ((with_reducible refine (hcell_new _ _ _).trans ?_); rfl) | exact m0 | exact c1 | rfl)) | ((with_reducible refine go_i (x := ?_) ?_ ?_); rotate_left 1; (first | ((with_reducible refine (hcell_new _ _ _).trans ?_); rfl) | exact m0 | exact c1 | rfl)) | ((with_reducible refine go_b (x := ?_) ?_ ?_); rotate_left 1; (first | ((with_reducible refine (hcell_new _ _ _).trans ?_); rfl) | exact m0 | exact c1 | rfl)) | ((with_reducible refine go_l (x := ?_) (l := ?_) (c := ?_) ?_ ?_); rotate_left 3; (first | ((with_reducible refine (hcell_new _ _ _).trans ?_); rfl) | exact m0 | exact c1 | rfl)) | ((with_reducible refine go_p (x := ?_) ?_ ?_); rotate_left 1; (first | ((with_reducible refine (hcell_new _ _ _).trans ?_); rfl) | exact m0 | exact c1 | rfl)) | ((with_reducible refine go_halst rfl ?_ ?_ ?_); rfl; rfl) | (with_reducible refine go_halN rfl ?_) | (with_reducible refine go_t hc ?_) | (with_reducible refine go_f hc ?_) | ((with_reducible refine go_t ?_ ?_); (show _ = true; rfl)) | ((with_reducible refine go_f ?_ ?_); (show _ = false; rfl)) | (with_reducible refine go_ne ?_) | (with_reducible refine go_eq ?_) | (with_reducible refine go_fad ?_) | (with_reducible refine go_nil ?_))
      rfl
    · repeat (first | (with_reducible refine (e1 _ _).trans ?_) | (with_reducible refine (e2 _ _).trans ?_) | ((with_reducible refine go_ip (x := ?_) ?_ ?_); rotate_left 1; (first | ((with_reducible refine (hcell_new _ _ _).trans ?_); rfl) | exact m0 | exact c1 | rfl)) | ((with_reducible refine go_bp (x := ?_) ?_ ?_); rotate_left 1; (first | ((with_reducible refine (hcell_new _ _ _).trans ?_); rfl) | exact m0 | exact c1 | rfl)) | ((with_reducible refine go_lp (x := ?_) (l := ?_) (c := ?_) ?_ ?_); rotate_left 3; (first | ((with_reducible refine (hcell_new _ _ _).trans ?_); rfl) | exact m0 | exact c1 | rfl)) | ((with_reducible refine go_pp (x := ?_) ?_ ?_); rotate_left 1; (first | ((with_reducible refine (hcell_new _ _ _).trans ?_); rfl) | exact m0 | exact c1 | rfl)) | ((with_reducible refine go_i (x := ?_) ?_ ?_); rotate_left 1; (first | ((with_reducible refine (hcell_new _ _ _).trans ?_); rfl) | exact m0 | exact c1 | rfl)) | ((with_reducible refine go_b (x := ?_) ?_ ?_); rotate_left 1; (first | ((with_reducible refine (hcell_new _ _ _).trans ?_); rfl) | exact m0 | exact c1 | rfl)) | ((with_reducible refine go_l (x := ?_) (l := ?_) (c := ?_) ?_ ?_); rotate_left 3; (first | ((with_reducible refine (hcell_new _ _ _).trans ?_); rfl) | exact m0 | exact c1 | rfl)) | ((with_reducible refine go_p (x := ?_) ?_ ?_); rotate_left 1; (first | ((with_reducible refine (hcell_new _ _ _).trans ?_); rfl) | exact m0 | exact c1 | rfl)) | ((with_reducible refine go_halst rfl ?_ ?_ ?_); rfl; rfl) | (with_reducible refine go_halN rfl ?_) | (with_reducible refine go_t hc ?_) | (with_reducible refine go_f hc ?_) | (with_reducible refine go_t hd ?_) | (with_reducible refine go_f hd ?_) | ((with_reducible refine go_t ?_ ?_); (show _ = true; rfl)) | ((with_reducible refine go_f ?_ ?_); (show _ = false; rfl)) | (with_reducible refine go_ne ?_) | (with_reducible refine go_eq ?_) | (with_reducible refine go_fad ?_) | (with_reducible refine go_nil ?_))
      rfl
  · have e : wP x = (1, []) := if_neg hx
    rw [e]
    refine ⟨q, H, fun R K => ?_, by simpa using h, .refl _ _ _⟩
    have hc : (x != 0) = true := by simp; omega
    have hd : (x != 1) = true := by simp; omega
    unfold R09_Writer_Put R09_Writer_Put_b R09_Writer_Put_p0 R09_Writer_Put_p0_b R09_Writer_Put_p1 R09_Writer_Put_p1_b
    repeat (first | ((with_reducible refine go_ip (x := ?_) ?_ ?_); rotate_left 1; (first | ((with_reducible refine (m _).trans ?_); rfl) | rfl)) | ((with_reducible refine go_bp (x := ?_) ?_ ?_); rotate_left 1; (first | ((with_reducible refine (m _).trans ?_); rfl) | rfl)) | ((with_reducible refine go_lp (x := ?_) (l := ?_) (c := ?_) ?_ ?_); rotate_left 3; (first | ((with_reducible refine (m _).trans ?_); rfl) | rfl)) | ((with_reducible refine go_pp (x := ?_) ?_ ?_); rotate_left 1; (first | ((with_reducible refine (m _).trans ?_); rfl) | rfl)) | ((with_reducible refine go_i (x := ?_) ?_ ?_); rotate_left 1; (first | ((with_reducible refine (m _).trans ?_); rfl) | rfl)) | ((with_reducible refine go_b (x := ?_) ?_ ?_); rotate_left 1; (first | ((with_reducible refine (m _).trans ?_); rfl) | rfl)) | ((with_reducible refine go_l (x := ?_) (l := ?_) (c := ?_) ?_ ?_); rotate_left 3; (first | ((with_reducible refine (m _).trans ?_); rfl) | rfl)) | ((with_reducible refine go_p (x := ?_) ?_ ?_); rotate_left 1; (first | ((with_reducible refine (m _).trans ?_); rfl) | rfl)) | ((with_reducible refine go_halst rfl ?_ ?_ ?_); rfl; rfl) | (with_reducible refine go_halN rfl ?_) | (with_reducible refine go_t hc ?_) | (with_reducible refine go_f hc ?_) | (with_reducible refine go_t hd ?_) | (with_reducible refine go_f hd ?_) | ((with_reducible refine go_t ?_ ?_); (show _ = true; rfl)) | ((with_reducible refine go_f ?_ ?_); (show _ = false; rfl)) | (with_reducible refine go_ne ?_) | (with_reducible refine go_eq ?_) | (with_reducible refine go_fad ?_) | (with_reducible refine go_nil ?_))
    rfl
theorem uBits_l (k : Nat) {N p v : Nat} (hv : v < 2 ^ 60) : ∀ (m n : Nat), m < n → m ≤ 33 → ∀ (i : Int), i = (m : Int) - 1 → ∀ (H : Heap) (q : Option Addr) (l : List Int), Ur N H p q l → N ≤ H.length → l.length + m < 1000000 →
    ∃ q' H', (∀ (R : Type) (KE : Heap → Option R), R09_Writer_Bits_l2 k KE n (some ⟨p, 0, none⟩) (v : Int) i H = KE H') ∧ Ur N H' p q' (l ++ bt v m) ∧ Stp p q H q' H' := by
  intro m
  induction m with
  | zero =>
    intro n hn hm i hi H q l h hN hl
    obtain ⟨n, rfl⟩ : ∃ n', n = n' + 1 := ⟨n - 1, by omega⟩
    have ed : decide (i ≥ 0) = false := decide_eq_false (by omega)
    refine ⟨q, H, fun R KE => ?_, by simpa [bt] using h, .refl _ _ _⟩
    unfold R09_Writer_Bits_l2 R09_Writer_Bits_l2_b
    repeat (first | ((with_reducible refine go_ip (x := ?_) ?_ ?_); rotate_left 1; (first  | rfl)) | ((with_reducible refine go_bp (x := ?_) ?_ ?_); rotate_left 1; (first  | rfl)) | ((with_reducible refine go_lp (x := ?_) (l := ?_) (c := ?_) ?_ ?_); rotate_left 3; (first  | rfl)) | ((with_reducible refine go_pp (x := ?_) ?_ ?_); rotate_left 1; (first  | rfl)) | ((with_reducible refine go_i (x := ?_) ?_ ?_); rotate_left 1; (first  | rfl)) | ((with_reducible refine go_b (x := ?_) ?_ ?_); rotate_left 1; (first  | rfl)) | ((with_reducible refine go_l (x := ?_) (l := ?_) (c := ?_) ?_ ?_); rotate_left 3; (first  | rfl)) | ((with_reducible refine go_p (x := ?_) ?_ ?_); rotate_left 1; (first  | rfl)) | ((with_reducible refine go_halst rfl ?_ ?_ ?_); rfl; rfl) | (with_reducible refine go_halN rfl ?_) | (with_reducible refine go_t ed ?_) | (with_reducible refine go_f ed ?_) | ((with_reducible refine go_t ?_ ?_); (show _ = true; rfl)) | ((with_reducible refine go_f ?_ ?_); (show _ = false; rfl)) | (with_reducible refine go_ne ?_) | (with_reducible refine go_eq ?_) | (with_reducible refine go_fad ?_) | (with_reducible refine go_nil ?_))
    rfl
  | succ m ih =>
    intro n hn hm i hi H q l h hN hl
    obtain ⟨n, rfl⟩ : ∃ n', n = n' + 1 := ⟨n - 1, by omega⟩
    obtain rfl : i = (m : Int) := by omega
    have ed : decide ((m : Int) ≥ 0) = true := decide_eq_true (by omega)
    obtain ⟨c', H1, H2, c1, e1, e2, U, S⟩ := h.add hN ((v / 2 ^ m % 2 : Nat) : Int) (by omega)
    obtain ⟨q', H', e3, U3, S3⟩ := ih n (by omega) (by omega) ((m : Int) - 1) rfl H2 _ _ U (by have := S.len; omega) (by rw [List.length_append]; simp only [List.length_cons, List.length_nil]; omega)
    have s1 : ∀ (R : Type) (K : Int → Option R), hbin .shr .i64 (v : Int) (IntKind.wrap .u64 (m : Int)) K = K ((v / 2 ^ m : Nat) : Int) := fun R K => shr64 (by omega) K
    have s2 : ∀ (R : Type) (K : Int → Option R), hbin .and .i64 ((v / 2 ^ m : Nat) : Int) 1 K = K ((v / 2 ^ m % 2 : Nat) : Int) := fun R K => by
      rw [← bit_n]; exact and64 (b := 1) (Nat.lt_of_le_of_lt (Nat.div_le_self _ _) (by omega)) (by omega) K
    have w := w64 (n := (m : Int) - 1) (by omega) (by omega)
    refine ⟨q', H', fun R KE => ?_, by rw [bt]; simpa [List.append_assoc] using U3, S.trans S3⟩
    unfold R09_Writer_Bits_l2 R09_Writer_Bits_l2_b
    repeat (first | (with_reducible refine (s1 _ _).trans ?_) | (with_reducible refine (s2 _ _).trans ?_) | (with_reducible refine (e1 _ _).trans ?_) | (with_reducible refine (e2 _ _).trans ?_) | ((with_reducible refine go_ip (x := ?_) ?_ ?_); rotate_left 1; (first | ((with_reducible refine (hcell_new _ _ _).trans ?_); rfl) | exact c1 | rfl)) | ((with_reducible refine go_bp (x := ?_) ?_ ?_); rotate_left 1; (first | ((with_reducible refine (hcell_new _ _ _).trans ?_); rfl) | exact c1 | rfl)) | ((with_reducible refine go_lp (x := ?_) (l := ?_) (c := ?_) ?_ ?_); rotate_left 3; (first | ((with_reducible refine (hcell_new _ _ _).trans ?_); rfl) | exact c1 | rfl)) | ((with_reducible refine go_pp (x := ?_) ?_ ?_); rotate_left 1; (first | ((with_reducible refine (hcell_new _ _ _).trans ?_); rfl) | exact c1 | rfl)) | ((with_reducible refine go_i (x := ?_) ?_ ?_); rotate_left 1; (first | ((with_reducible refine (hcell_new _ _ _).trans ?_); rfl) | exact c1 | rfl)) | ((with_reducible refine go_b (x := ?_) ?_ ?_); rotate_left 1; (first | ((with_reducible refine (hcell_new _ _ _).trans ?_); rfl) | exact c1 | rfl)) | ((with_reducible refine go_l (x := ?_) (l := ?_) (c := ?_) ?_ ?_); rotate_left 3; (first | ((with_reducible refine (hcell_new _ _ _).trans ?_); rfl) | exact c1 | rfl)) | ((with_reducible refine go_p (x := ?_) ?_ ?_); rotate_left 1; (first | ((with_reducible refine (hcell_new _ _ _).trans ?_); rfl) | exact c1 | rfl)) | ((with_reducible refine go_halst rfl ?_ ?_ ?_); rfl; rfl) | (with_reducible refine go_halN rfl ?_) | (with_reducible refine go_t ed ?_) | (with_reducible refine go_f ed ?_) | ((with_reducible refine go_t ?_ ?_); (show _ = true; rfl)) | ((with_reducible refine go_f ?_ ?_); (show _ = false; rfl)) | (with_reducible refine go_ne ?_) | (with_reducible refine go_eq ?_) | (with_reducible refine go_fad ?_) | (with_reducible refine go_nil ?_))
    try dsimp only
    rw [w]
    exact e3 _ _
theorem uBits_eq {k : Nat} (hk : 1000 < k) {N : Nat} {H : Heap} {p : Nat} {q : Option Addr} {l : List Int} (h : Ur N H p q l) (hN : N ≤ H.length) (hl : l.length < 999000) (v nn : Int) (hv : v ≤ 9223372036854775807) :
    ∃ q' H', (∀ (R : Type) (K : Int → Heap → Option R), R09_Writer_Bits k (some ⟨p, 0, none⟩) v nn H K = K (wB v nn).1 H') ∧ Ur N H' p q' (l ++ (wB v nn).2) ∧ Stp p q H q' H' := by
  obtain ⟨c, h1, h2⟩ := h.c
  have m : ∀ o, hcell H p o = [Value.bool true, .slice q l.length c][o]? := fun o => h1.sees.cell o
  have bad : wB v nn = (1, []) → (∀ (R : Type) (K : Int → Heap → Option R), R09_Writer_Bits k (some ⟨p, 0, none⟩) v nn H K = K 1 H) → ∃ q' H', (∀ (R : Type) (K : Int → Heap → Option R), R09_Writer_Bits k (some ⟨p, 0, none⟩) v nn H K = K (wB v nn).1 H') ∧ Ur N H' p q' (l ++ (wB v nn).2) ∧ Stp p q H q' H' := fun e g => by
    rw [e]; exact ⟨q, H, g, by simpa using h, .refl _ _ _⟩
  by_cases c1 : nn < 0
  · refine bad (if_neg (by omega)) fun R K => ?_
    have d1 := decide_eq_true c1
    unfold R09_Writer_Bits R09_Writer_Bits_b R09_Writer_Bits_p0 R09_Writer_Bits_p0_b R09_Writer_Bits_p1 R09_Writer_Bits_p1_b
    repeat (first | ((with_reducible refine go_ip (x := ?_) ?_ ?_); rotate_left 1; (first | ((with_reducible refine (m _).trans ?_); rfl) | rfl)) | ((with_reducible refine go_bp (x := ?_) ?_ ?_); rotate_left 1; (first | ((with_reducible refine (m _).trans ?_); rfl) | rfl)) | ((with_reducible refine go_lp (x := ?_) (l := ?_) (c := ?_) ?_ ?_); rotate_left 3; (first | ((with_reducible refine (m _).trans ?_); rfl) | rfl)) | ((with_reducible refine go_pp (x := ?_) ?_ ?_); rotate_left 1; (first | ((with_reducible refine (m _).trans ?_); rfl) | rfl)) | ((with_reducible refine go_i (x := ?_) ?_ ?_); rotate_left 1; (first | ((with_reducible refine (m _).trans ?_); rfl) | rfl)) | ((with_reducible refine go_b (x := ?_) ?_ ?_); rotate_left 1; (first | ((with_reducible refine (m _).trans ?_); rfl) | rfl)) | ((with_reducible refine go_l (x := ?_) (l := ?_) (c := ?_) ?_ ?_); rotate_left 3; (first | ((with_reducible refine (m _).trans ?_); rfl) | rfl)) | ((with_reducible refine go_p (x := ?_) ?_ ?_); rotate_left 1; (first | ((with_reducible refine (m _).trans ?_); rfl) | rfl)) | ((with_reducible refine go_halst rfl ?_ ?_ ?_); rfl; rfl) | (with_reducible refine go_halN rfl ?_) | (with_reducible refine go_t d1 ?_) | (with_reducible refine go_f d1 ?_) | ((with_reducible refine go_t ?_ ?_); (show _ = true; rfl)) | ((with_reducible refine go_f ?_ ?_); (show _ = false; rfl)) | (with_reducible refine go_ne ?_) | (with_reducible refine go_eq ?_) | (with_reducible refine go_fad ?_) | (with_reducible refine go_nil ?_))
    rfl
  have d1 := decide_eq_false c1
  by_cases c2 : nn > 32
  · refine bad (if_neg (by omega)) fun R K => ?_
    have d2 := decide_eq_true c2
    unfold R09_Writer_Bits R09_Writer_Bits_b R09_Writer_Bits_p0 R09_Writer_Bits_p0_b R09_Writer_Bits_p1 R09_Writer_Bits_p1_b
    repeat (first | ((with_reducible refine go_ip (x := ?_) ?_ ?_); rotate_left 1; (first | ((with_reducible refine (m _).trans ?_); rfl) | rfl)) | ((with_reducible refine go_bp (x := ?_) ?_ ?_); rotate_left 1; (first | ((with_reducible refine (m _).trans ?_); rfl) | rfl)) | ((with_reducible refine go_lp (x := ?_) (l := ?_) (c := ?_) ?_ ?_); rotate_left 3; (first | ((with_reducible refine (m _).trans ?_); rfl) | rfl)) | ((with_reducible refine go_pp (x := ?_) ?_ ?_); rotate_left 1; (first | ((with_reducible refine (m _).trans ?_); rfl) | rfl)) | ((with_reducible refine go_i (x := ?_) ?_ ?_); rotate_left 1; (first | ((with_reducible refine (m _).trans ?_); rfl) | rfl)) | ((with_reducible refine go_b (x := ?_) ?_ ?_); rotate_left 1; (first | ((with_reducible refine (m _).trans ?_); rfl) | rfl)) | ((with_reducible refine go_l (x := ?_) (l := ?_) (c := ?_) ?_ ?_); rotate_left 3; (first | ((with_reducible refine (m _).trans ?_); rfl) | rfl)) | ((with_reducible refine go_p (x := ?_) ?_ ?_); rotate_left 1; (first | ((with_reducible refine (m _).trans ?_); rfl) | rfl)) | ((with_reducible refine go_halst rfl ?_ ?_ ?_); rfl; rfl) | (with_reducible refine go_halN rfl ?_) | (with_reducible refine go_t d1 ?_) | (with_reducible refine go_f d1 ?_) | (with_reducible refine go_t d2 ?_) | (with_reducible refine go_f d2 ?_) | ((with_reducible refine go_t ?_ ?_); (show _ = true; rfl)) | ((with_reducible refine go_f ?_ ?_); (show _ = false; rfl)) | (with_reducible refine go_ne ?_) | (with_reducible refine go_eq ?_) | (with_reducible refine go_fad ?_) | (with_reducible refine go_nil ?_))
    rfl
  have d2 := decide_eq_false c2
  by_cases c3 : v < 0
  · refine bad (if_neg (by omega)) fun R K => ?_
    have d3 := decide_eq_true c3
    unfold R09_Writer_Bits R09_Writer_Bits_b R09_Writer_Bits_p0 R09_Writer_Bits_p0_b R09_Writer_Bits_p1 R09_Writer_Bits_p1_b
    repeat (first | ((with_reducible refine go_ip (x := ?_) ?_ ?_); rotate_left 1; (first | ((with_reducible refine (m _).trans ?_); rfl) | rfl)) | ((with_reducible refine go_bp (x := ?_) ?_ ?_); rotate_left 1; (first | ((with_reducible refine (m _).trans ?_); rfl) | rfl)) | ((with_reducible refine go_lp (x := ?_) (l := ?_) (c := ?_) ?_ ?_); rotate_left 3; (first | ((with_reducible refine (m _).trans ?_); rfl) | rfl)) | ((with_reducible refine go_pp (x := ?_) ?_ ?_); rotate_left 1; (first | ((with_reducible refine (m _).trans ?_); rfl) | rfl)) | ((with_reducible refine go_i (x := ?_) ?_ ?_); rotate_left 1; (first | ((with_reducible refine (m _).trans ?_); rfl) | rfl)) | ((with_reducible refine go_b (x := ?_) ?_ ?_); rotate_left 1; (first | ((with_reducible refine (m _).trans ?_); rfl) | rfl)) | ((with_reducible refine go_l (x := ?_) (l := ?_) (c := ?_) ?_ ?_); rotate_left 3; (first | ((with_reducible refine (m _).trans ?_); rfl) | rfl)) | ((with_reducible refine go_p (x := ?_) ?_ ?_); rotate_left 1; (first | ((with_reducible refine (m _).trans ?_); rfl) | rfl)) | ((with_reducible refine go_halst rfl ?_ ?_ ?_); rfl; rfl) | (with_reducible refine go_halN rfl ?_) | (with_reducible refine go_t d1 ?_) | (with_reducible refine go_f d1 ?_) | (with_reducible refine go_t d2 ?_) | (with_reducible refine go_f d2 ?_) | (with_reducible refine go_t d3 ?_) | (with_reducible refine go_f d3 ?_) | ((with_reducible refine go_t ?_ ?_); (show _ = true; rfl)) | ((with_reducible refine go_f ?_ ?_); (show _ = false; rfl)) | (with_reducible refine go_ne ?_) | (with_reducible refine go_eq ?_) | (with_reducible refine go_fad ?_) | (with_reducible refine go_nil ?_))
    rfl
  have d3 := decide_eq_false c3
  obtain ⟨n, rfl⟩ : ∃ n : Nat, nn = n := ⟨nn.toNat, by omega⟩
  have hp := p32 (n := n) (by omega)
  have s0 : ∀ (R : Type) (K : Int → Option R), hbin .shl .i64 1 (IntKind.wrap .u64 (n : Int)) K = K ((2 ^ n : Nat) : Int) := fun R K => by
    have := shl64 (a := 1) (n := n) (by omega) (by omega) K
    rwa [Nat.one_mul] at this
  by_cases c4 : v ≥ ((2 ^ n : Nat) : Int)
  · refine bad (if_neg fun hh => ?_) fun R K => ?_
    · have := hh.2.2.2
      rw [Int.toNat_natCast] at this
      have e : ((2 ^ n : Nat) : Int) = 2 ^ n := by rw [Int.natCast_pow]; rfl
      omega
    have d4 := decide_eq_true c4
    unfold R09_Writer_Bits R09_Writer_Bits_b R09_Writer_Bits_p0 R09_Writer_Bits_p0_b R09_Writer_Bits_p1 R09_Writer_Bits_p1_b
    repeat (first | (with_reducible refine (s0 _ _).trans ?_) | ((with_reducible refine go_ip (x := ?_) ?_ ?_); rotate_left 1; (first | ((with_reducible refine (m _).trans ?_); rfl) | rfl)) | ((with_reducible refine go_bp (x := ?_) ?_ ?_); rotate_left 1; (first | ((with_reducible refine (m _).trans ?_); rfl) | rfl)) | ((with_reducible refine go_lp (x := ?_) (l := ?_) (c := ?_) ?_ ?_); rotate_left 3; (first | ((with_reducible refine (m _).trans ?_); rfl) | rfl)) | ((with_reducible refine go_pp (x := ?_) ?_ ?_); rotate_left 1; (first | ((with_reducible refine (m _).trans ?_); rfl) | rfl)) | ((with_reducible refine go_i (x := ?_) ?_ ?_); rotate_left 1; (first | ((with_reducible refine (m _).trans ?_); rfl) | rfl)) | ((with_reducible refine go_b (x := ?_) ?_ ?_); rotate_left 1; (first | ((with_reducible refine (m _).trans ?_); rfl) | rfl)) | ((with_reducible refine go_l (x := ?_) (l := ?_) (c := ?_) ?_ ?_); rotate_left 3; (first | ((with_reducible refine (m _).trans ?_); rfl) | rfl)) | ((with_reducible refine go_p (x := ?_) ?_ ?_); rotate_left 1; (first | ((with_reducible refine (m _).trans ?_); rfl) | rfl)) | ((with_reducible refine go_halst rfl ?_ ?_ ?_); rfl; rfl) | (with_reducible refine go_halN rfl ?_) | (with_reducible refine go_t d1 ?_) | (with_reducible refine go_f d1 ?_) | (with_reducible refine go_t d2 ?_) | (with_reducible refine go_f d2 ?_) | (with_reducible refine go_t d3 ?_) | (with_reducible refine go_f d3 ?_) | (with_reducible refine go_t d4 ?_) | (with_reducible refine go_f d4 ?_) | ((with_reducible refine go_t ?_ ?_); (show _ = true; rfl)) | ((with_reducible refine go_f ?_ ?_); (show _ = false; rfl)) | (with_reducible refine go_ne ?_) | (with_reducible refine go_eq ?_) | (with_reducible refine go_fad ?_) | (with_reducible refine go_nil ?_))
    rfl
  have d4 := decide_eq_false c4
  obtain ⟨u, rfl⟩ : ∃ u : Nat, v = u := ⟨v.toNat, by omega⟩
  have e : wB (u : Int) (n : Int) = (0, bt u n) := by
    have e : ((2 ^ n : Nat) : Int) = 2 ^ n := by rw [Int.natCast_pow]; rfl
    unfold wB
    rw [if_pos ⟨by omega, by omega, by omega, by rw [Int.toNat_natCast]; omega⟩, Int.toNat_natCast, Int.toNat_natCast]
  obtain ⟨q', H', e3, U3, S3⟩ := uBits_l k (N := N) (p := p) (v := u) (by omega) n k (by omega) (by omega) ((n : Int) - 1) rfl H q l h hN (by omega)
  have w := w64 (n := (n : Int) - 1) (by omega) (by omega)
  rw [e]
  refine ⟨q', H', fun R K => ?_, U3, S3⟩
  unfold R09_Writer_Bits R09_Writer_Bits_b R09_Writer_Bits_p0 R09_Writer_Bits_p0_b R09_Writer_Bits_p1 R09_Writer_Bits_p1_b
  repeat (first | (with_reducible refine (s0 _ _).trans ?_) | ((with_reducible refine go_ip (x := ?_) ?_ ?_); rotate_left 1; (first | ((with_reducible refine (m _).trans ?_); rfl) | rfl)) | ((with_reducible refine go_bp (x := ?_) ?_ ?_); rotate_left 1; (first | ((with_reducible refine (m _).trans ?_); rfl) | rfl)) | ((with_reducible refine go_lp (x := ?_) (l := ?_) (c := ?_) ?_ ?_); rotate_left 3; (first | ((with_reducible refine (m _).trans ?_); rfl) | rfl)) | ((with_reducible refine go_pp (x := ?_) ?_ ?_); rotate_left 1; (first | ((with_reducible refine (m _).trans ?_); rfl) | rfl)) | ((with_reducible refine go_i (x := ?_) ?_ ?_); rotate_left 1; (first | ((with_reducible refine (m _).trans ?_); rfl) | rfl)) | ((with_reducible refine go_b (x := ?_) ?_ ?_); rotate_left 1; (first | ((with_reducible refine (m _).trans ?_); rfl) | rfl)) | ((with_reducible refine go_l (x := ?_) (l := ?_) (c := ?_) ?_ ?_); rotate_left 3; (first | ((with_reducible refine (m _).trans ?_); rfl) | rfl)) | ((with_reducible refine go_p (x := ?_) ?_ ?_); rotate_left 1; (first | ((with_reducible refine (m _).trans ?_); rfl) | rfl)) | ((with_reducible refine go_halst rfl ?_ ?_ ?_); rfl; rfl) | (with_reducible refine go_halN rfl ?_) | (with_reducible refine go_t d1 ?_) | (with_reducible refine go_f d1 ?_) | (with_reducible refine go_t d2 ?_) | (with_reducible refine go_f d2 ?_) | (with_reducible refine go_t d3 ?_) | (with_reducible refine go_f d3 ?_) | (with_reducible refine go_t d4 ?_) | (with_reducible refine go_f d4 ?_) | ((with_reducible refine go_t ?_ ?_); (show _ = true; rfl)) | ((with_reducible refine go_f ?_ ?_); (show _ = false; rfl)) | (with_reducible refine go_ne ?_) | (with_reducible refine go_eq ?_) | (with_reducible refine go_fad ?_) | (with_reducible refine go_nil ?_))
  try dsimp only
  rw [w]
  exact e3 _ _
theorem uLen_eq (k : Nat) {N : Nat} {H : Heap} {p : Nat} {q : Option Addr} {l : List Int} (h : Ur N H p q l) : ∀ (R : Type) (K : Int → Option R), R09_Writer_Len k (some ⟨p, 0, none⟩) H K = K ((l.length : Nat) : Int) := by
  obtain ⟨c, h1, h2⟩ := h.c
  have m : ∀ o, hcell H p o = [Value.bool true, .slice q l.length c][o]? := fun o => h1.sees.cell o
  intro R K
  unfold R09_Writer_Len R09_Writer_Len_b R09_Writer_Len_p0 R09_Writer_Len_p0_b
  repeat (first | ((with_reducible refine go_ip (x := ?_) ?_ ?_); rotate_left 1; (first | ((with_reducible refine (m _).trans ?_); rfl) | rfl)) | ((with_reducible refine go_bp (x := ?_) ?_ ?_); rotate_left 1; (first | ((with_reducible refine (m _).trans ?_); rfl) | rfl)) | ((with_reducible refine go_lp (x := ?_) (l := ?_) (c := ?_) ?_ ?_); rotate_left 3; (first | ((with_reducible refine (m _).trans ?_); rfl) | rfl)) | ((with_reducible refine go_pp (x := ?_) ?_ ?_); rotate_left 1; (first | ((with_reducible refine (m _).trans ?_); rfl) | rfl)) | ((with_reducible refine go_i (x := ?_) ?_ ?_); rotate_left 1; (first | ((with_reducible refine (m _).trans ?_); rfl) | rfl)) | ((with_reducible refine go_b (x := ?_) ?_ ?_); rotate_left 1; (first | ((with_reducible refine (m _).trans ?_); rfl) | rfl)) | ((with_reducible refine go_l (x := ?_) (l := ?_) (c := ?_) ?_ ?_); rotate_left 3; (first | ((with_reducible refine (m _).trans ?_); rfl) | rfl)) | ((with_reducible refine go_p (x := ?_) ?_ ?_); rotate_left 1; (first | ((with_reducible refine (m _).trans ?_); rfl) | rfl)) | ((with_reducible refine go_halst rfl ?_ ?_ ?_); rfl; rfl) | (with_reducible refine go_halN rfl ?_) | ((with_reducible refine go_t ?_ ?_); (show _ = true; rfl)) | ((with_reducible refine go_f ?_ ?_); (show _ = false; rfl)) | (with_reducible refine go_ne ?_) | (with_reducible refine go_eq ?_) | (with_reducible refine go_fad ?_) | (with_reducible refine go_nil ?_))
  rfl
theorem nUr_eq {N : Nat} {H : Heap} (hN : N ≤ H.length) : ∃ H', (∀ (R : Type) (K : Option Addr → Heap → Option R), R09_NewWriter H K = K (some ⟨H.length, 0, none⟩) H') ∧ Ur N H' H.length none [] ∧ Old H.length H H' ∧ H'.length = H.length + 1 := by
  refine ⟨H ++ [some ⟨[.bool true, .slice none 0 0], false, 0⟩], fun R K => rfl, ⟨⟨0, (show hblk _ _ = _ from hblk_new H _), Bld.nil _ _ _⟩, hN, (fun a ha => by cases ha)⟩, Old.app _ _, by simp⟩
end Go.Proofs.Ytblkejnciinaeaa.Sh
/- Bitio: the bytes of a writer. -/
set_option linter.unusedVariables false
set_option linter.unusedSimpArgs false
namespace Go.Proofs.Ytblkejnciinaeaa.Sh
open Go.Proofs.Ytblkejnciinaeaa.FW Go.IntWalk
/-- An element of a row of bytes, of a row of numbers. -/
theorem byte_at {H : Heap} {q : Option Addr} {xs : List Int} (h : Shows H q (byt xs)) {i : Nat} {x : Int} (hi : xs[i]? = some x) :
    ∃ p, (∀ (R : Type) (K : Option Addr → Option R), hidx q xs.length (i : Int) 1 K = K p) ∧ ∀ (R : Type) (K : Int → Option R), ldI .u8 H p K = K x := by
  have hl := (List.getElem?_eq_some_iff.1 hi).1
  obtain ⟨p, e, _, m⟩ := h.idx (l := xs.length) (size := 1) (by rw [byt_len]; omega) (i := (i : Int)) (by omega) (by omega) (by omega)
  exact ⟨p, e, fun R K => ldI_of (m _ (by rw [Int.toNat_natCast, Nat.mul_one]; simp [byt, hi])) rfl K⟩
theorem num_at {H : Heap} {q : Option Addr} {xs : List Int} (h : Shows H q (b64 xs)) {i : Nat} {x : Int} (hi : xs[i]? = some x) :
    ∃ p, (∀ (R : Type) (K : Option Addr → Option R), hidx q xs.length (i : Int) 1 K = K p) ∧ ∀ (R : Type) (K : Int → Option R), ldI .i64 H p K = K x := by
  have hl := (List.getElem?_eq_some_iff.1 hi).1
  obtain ⟨p, e, _, m⟩ := h.idx (l := xs.length) (size := 1) (by rw [b64_len]; omega) (i := (i : Int)) (by omega) (by omega) (by omega)
  exact ⟨p, e, fun R K => ldI_of (m _ (by rw [Int.toNat_natCast, Nat.mul_one]; simp [b64, hi])) rfl K⟩
/-- The bytes in the end: of the full ones and the bits behind them. -/
def fnB (b t : List Int) : List Int := if t.length = 0 then (if sz b = 7 then b ++ [0] else b) else b ++ [((val t * 2 ^ (sz b - t.length) : Nat) : Int)]
theorem hslc_all {q : Option Addr} {l c : Nat} (hc : c < unk) (hl : l ≤ c) (R : Type) (K : Option Addr → Nat → Nat → Option R) (b : Nat) (hq : q = some ⟨b, 0, none⟩) : hslc 1 q l c none (some ((l : Nat) : Int)) (some ((l : Nat) : Int)) K = K q l l := by
  subst hq
  have hne : c ≠ unk := by omega
  unfold hslc
  simp only [Option.getD_some, Option.getD_none, if_neg hne, Option.isSome_some]
  rw [if_pos ⟨by omega, by omega, by omega, by omega, by omega⟩, if_neg (fun h => hne h.1)]
  by_cases h0 : ((l : Nat) : Int) = 0
  · rw [if_pos h0]
    have : l = 0 := by omega
    subst this; rfl
  · rw [if_neg h0, if_pos trivial]
    have e1 : ((l : Nat) : Int).toNat - (0 : Int).toNat = l := by simp
    rw [e1]
theorem bytes_eq (k : Nat) {N : Nat} {H : Heap} {p : Nat} {q : Option Addr} {l : List Int} (h : Wr N H p q l) (hl : l.length < 1000000) :
    ∃ b pre t H' z, l = pre ++ t ∧ Full b pre ∧ t.length < sz b ∧ (∀ (R : Type) (K : Option Addr → Nat → Nat → Heap → Option R), bitio_Writer_Bytes k (some ⟨p, 0, none⟩) H K = K (some ⟨H.length, 0, none⟩) (fnB b t).length (fnB b t).length H') ∧ Owns H' H.length (byt (fnB b t) ++ z) 0 ∧ Old H.length H H' := by
  have o := ok_eq h
  obtain ⟨c, b, pre, t, rfl, hF, ht, hO, hB, hbl⟩ := h.c
  have hs8 := sz_le b
  have hs7 := sz_ge b
  have hp := hO.lt
  have m : ∀ o, hcell H p o = (wcl q c b t (pre ++ t).length)[o]? := fun o => hO.sees.cell o
  obtain ⟨q1, H1, e1, C1, o1, n1⟩ := Cap.make (size := 1) (bytes := 1) H [.int .u8 0] rfl (n := b.length + 1) (by omega) (by omega)
  have e1' : ∀ (R : Type) (K : Option Addr → Nat → Nat → Heap → Option R), hmk [.int .u8 0] 1 H 0 (IntKind.wrap .i64 (((b.length : Nat) : Int) + 1)) K = K q1 0 (b.length + 1) H1 := fun R K => by
    rw [w64 (by omega) (by omega)]; exact e1 R K
  have hB1 : Shows H1 q (byt b) := hB.shows.1.keep o1
  have m1 : ∀ o, hcell H1 p o = (wcl q c b t (pre ++ t).length)[o]? := fun o => (hO.old o1 hp).sees.cell o
  obtain ⟨H2, e2, C2, o2, n2⟩ : ∃ H2, (∀ (R : Type) (K : Option Addr → Nat → Nat → Heap → Option R), happS 1 1 H1 q1 0 (b.length + 1) q b.length K = K q1 b.length (b.length + 1) H2) ∧ Cap H.length 1 H2 q1 b.length (b.length + 1) (byt b) ∧ Old H.length H1 H2 ∧ H2.length = H1.length := by
    by_cases h0 : b.length = 0
    · refine ⟨H1, fun R K => ?_, ?_, .refl _ _, rfl⟩
      · unfold happS happ
        rw [h0]
        simp only [Nat.zero_mul]
        have : FW.hcells H1 q 0 = some [] := by unfold FW.hcells; rfl
        rw [this]
        simp only
        rw [if_neg (by unfold unk; omega), if_pos (by omega), if_pos trivial]
      · rw [h0]
        have : b = [] := List.length_eq_zero_iff.1 h0
        subst this; exact C1
    · obtain ⟨H2, e2, C2, o2, n2⟩ := C1.app (bytes := 1) hB1 (n := b.length) (by rw [byt_len]; omega) (byt_one b) (by omega) (by omega)
      rw [Nat.zero_add] at e2 C2
      exact ⟨H2, e2, by simpa using C2, o2, n2⟩
  have o12 : Old H.length H H2 := o1.trans o2
  have m2 : ∀ o, hcell H2 p o = (wcl q c b t (pre ++ t).length)[o]? := fun o => (hO.old o12 hp).sees.cell o
  have hq1 : q1 = some ⟨H.length, 0, none⟩ := by
    have := e1 (Option Addr) fun q _ _ _ => some q
    unfold hmk at this
    rw [if_pos ⟨by omega, by omega, by omega, by omega⟩] at this
    simpa using this.symm
  subst hq1
  have last : ∀ (v : Int), ∃ H3 z, (∀ (R : Type) (K : Option Addr → Nat → Nat → Heap → Option R), happS 1 1 (H2 ++ [some ⟨[.int .u8 v], false, 0⟩]) (some ⟨H.length, 0, none⟩) b.length (b.length + 1) (some ⟨H2.length, 0, none⟩) 1 K = K (some ⟨H.length, 0, none⟩) (b.length + 1) (b.length + 1) H3) ∧ Owns H3 H.length (byt (b ++ [v]) ++ z) 0 ∧ Old H.length H H3 := fun v => by
    have C3 := C2.old (Old.app H2 [some ⟨[.int .u8 v], false, 0⟩]) (Nat.le_refl _)
    have hp : Shows (H2 ++ [some (⟨[.int .u8 v], false, 0⟩ : Blk)]) (some ⟨H2.length, 0, none⟩) [.int .u8 v] := Sees.shows ⟨_, hblk_new H2 _, rfl⟩
    obtain ⟨H3, e3, C4, o3, n3⟩ := C3.app (bytes := 1) hp (n := 1) rfl rfl (by omega) (by omega)
    obtain ⟨bb, z, hb, _, _, O, _⟩ := C4
    cases hb
    refine ⟨H3, z, e3, by rw [byt_app]; exact O, o12.trans ((Old.app H2 _).mono (by have := o12.1; omega) |>.trans o3)⟩
  have main : ∀ (bs : List Int) (c' : Nat) (H3 : Heap) (z : List Value), (∀ (R : Type) (KN : Option Addr → Nat → Nat → Heap → Option R), bitio_Writer_Bytes_p0 k (some ⟨p, 0, none⟩) (some ⟨H.length, 0, none⟩) b.length (b.length + 1) H2 KN = KN (some ⟨H.length, 0, none⟩) bs.length c' H3) → c' < unk → bs.length ≤ c' → Owns H3 H.length (byt bs ++ z) 0 → Old H.length H H3 → bs = fnB b t → ∃ H' z, (∀ (R : Type) (K : Option Addr → Nat → Nat → Heap → Option R), bitio_Writer_Bytes k (some ⟨p, 0, none⟩) H K = K (some ⟨H.length, 0, none⟩) (fnB b t).length (fnB b t).length H') ∧ Owns H' H.length (byt (fnB b t) ++ z) 0 ∧ Old H.length H H' := by
    intro bs c' H3 z g hc' hl' hO3 o3 hbs
    subst hbs
    refine ⟨H3, z, fun R K => ?_, hO3, o3⟩
    have hs := hslc_all hc' hl' (b := H.length) (hq := rfl)
    unfold bitio_Writer_Bytes bitio_Writer_Bytes_b
    repeat (first | (with_reducible refine (o _ _).trans ?_) | (with_reducible refine (e1' _ _).trans ?_) | (with_reducible refine (e2 _ _).trans ?_) | (with_reducible refine (g _ _).trans ?_) | (with_reducible refine (hs _ _).trans ?_) | ((with_reducible refine go_ip (x := ?_) ?_ ?_); rotate_left 1; (first | ((with_reducible refine (m _).trans ?_); rfl) | ((with_reducible refine (m1 _).trans ?_); rfl) | ((with_reducible refine (m2 _).trans ?_); rfl) | rfl)) | ((with_reducible refine go_bp (x := ?_) ?_ ?_); rotate_left 1; (first | ((with_reducible refine (m _).trans ?_); rfl) | ((with_reducible refine (m1 _).trans ?_); rfl) | ((with_reducible refine (m2 _).trans ?_); rfl) | rfl)) | ((with_reducible refine go_lp (x := ?_) (l := ?_) (c := ?_) ?_ ?_); rotate_left 3; (first | ((with_reducible refine (m _).trans ?_); rfl) | ((with_reducible refine (m1 _).trans ?_); rfl) | ((with_reducible refine (m2 _).trans ?_); rfl) | rfl)) | ((with_reducible refine go_pp (x := ?_) ?_ ?_); rotate_left 1; (first | ((with_reducible refine (m _).trans ?_); rfl) | ((with_reducible refine (m1 _).trans ?_); rfl) | ((with_reducible refine (m2 _).trans ?_); rfl) | rfl)) | ((with_reducible refine go_i (x := ?_) ?_ ?_); rotate_left 1; (first | ((with_reducible refine (m _).trans ?_); rfl) | ((with_reducible refine (m1 _).trans ?_); rfl) | ((with_reducible refine (m2 _).trans ?_); rfl) | rfl)) | ((with_reducible refine go_b (x := ?_) ?_ ?_); rotate_left 1; (first | ((with_reducible refine (m _).trans ?_); rfl) | ((with_reducible refine (m1 _).trans ?_); rfl) | ((with_reducible refine (m2 _).trans ?_); rfl) | rfl)) | ((with_reducible refine go_l (x := ?_) (l := ?_) (c := ?_) ?_ ?_); rotate_left 3; (first | ((with_reducible refine (m _).trans ?_); rfl) | ((with_reducible refine (m1 _).trans ?_); rfl) | ((with_reducible refine (m2 _).trans ?_); rfl) | rfl)) | ((with_reducible refine go_p (x := ?_) ?_ ?_); rotate_left 1; (first | ((with_reducible refine (m _).trans ?_); rfl) | ((with_reducible refine (m1 _).trans ?_); rfl) | ((with_reducible refine (m2 _).trans ?_); rfl) | rfl)) | ((with_reducible refine go_halst rfl ?_ ?_ ?_); rfl; rfl) | (with_reducible refine go_halN rfl ?_) | ((with_reducible refine go_t ?_ ?_); (show _ = true; rfl)) | ((with_reducible refine go_f ?_ ?_); (show _ = false; rfl)) | (with_reducible refine go_ne ?_) | (with_reducible refine go_eq ?_) | (with_reducible refine go_fad ?_) | (with_reducible refine go_nil ?_))
    rfl
  have fin : ∃ H' z, (∀ (R : Type) (K : Option Addr → Nat → Nat → Heap → Option R), bitio_Writer_Bytes k (some ⟨p, 0, none⟩) H K = K (some ⟨H.length, 0, none⟩) (fnB b t).length (fnB b t).length H') ∧ Owns H' H.length (byt (fnB b t) ++ z) 0 ∧ Old H.length H H' := by
    by_cases h0 : t.length = 0
    · have d0 : decide (((t.length : Nat) : Int) > 0) = false := decide_eq_false (by omega)
      by_cases h7 : sz b = 7
      · have d7 : (((sz b : Nat) : Int) == 7) = true := by rw [h7]; rfl
        obtain ⟨H3, z, e3, O3, o3⟩ := last 0
        refine main (b ++ [0]) (b.length + 1) H3 z (fun R KN => ?_) (by unfold unk; omega) (by simp) O3 o3 (by unfold fnB; rw [if_pos h0, if_pos h7])
        unfold bitio_Writer_Bytes_p0 bitio_Writer_Bytes_p0_b
        repeat (first | (with_reducible refine (e3 _ _).trans ?_) | ((with_reducible refine go_ip (x := ?_) ?_ ?_); rotate_left 1; (first | ((with_reducible refine (m2 _).trans ?_); rfl) | rfl)) | ((with_reducible refine go_bp (x := ?_) ?_ ?_); rotate_left 1; (first | ((with_reducible refine (m2 _).trans ?_); rfl) | rfl)) | ((with_reducible refine go_lp (x := ?_) (l := ?_) (c := ?_) ?_ ?_); rotate_left 3; (first | ((with_reducible refine (m2 _).trans ?_); rfl) | rfl)) | ((with_reducible refine go_pp (x := ?_) ?_ ?_); rotate_left 1; (first | ((with_reducible refine (m2 _).trans ?_); rfl) | rfl)) | ((with_reducible refine go_i (x := ?_) ?_ ?_); rotate_left 1; (first | ((with_reducible refine (m2 _).trans ?_); rfl) | rfl)) | ((with_reducible refine go_b (x := ?_) ?_ ?_); rotate_left 1; (first | ((with_reducible refine (m2 _).trans ?_); rfl) | rfl)) | ((with_reducible refine go_l (x := ?_) (l := ?_) (c := ?_) ?_ ?_); rotate_left 3; (first | ((with_reducible refine (m2 _).trans ?_); rfl) | rfl)) | ((with_reducible refine go_p (x := ?_) ?_ ?_); rotate_left 1; (first | ((with_reducible refine (m2 _).trans ?_); rfl) | rfl)) | ((with_reducible refine go_halst rfl ?_ ?_ ?_); rfl; rfl) | (with_reducible refine go_halN rfl ?_) | (with_reducible refine go_t d0 ?_) | (with_reducible refine go_f d0 ?_) | (with_reducible refine go_t d7 ?_) | (with_reducible refine go_f d7 ?_) | ((with_reducible refine go_t ?_ ?_); (show _ = true; rfl)) | ((with_reducible refine go_f ?_ ?_); (show _ = false; rfl)) | (with_reducible refine go_ne ?_) | (with_reducible refine go_eq ?_) | (with_reducible refine go_fad ?_) | (with_reducible refine go_nil ?_))
        rw [List.length_append]; rfl
      · have d7 : (((sz b : Nat) : Int) == 7) = false := by simp; omega
        obtain ⟨bb, z, hb, _, _, O, _⟩ := C2
        cases hb
        refine main b (b.length + 1) H2 z (fun R KN => ?_) (by unfold unk; omega) (by omega) O o12 (by unfold fnB; rw [if_pos h0, if_neg h7])
        unfold bitio_Writer_Bytes_p0 bitio_Writer_Bytes_p0_b
        repeat (first | ((with_reducible refine go_ip (x := ?_) ?_ ?_); rotate_left 1; (first | ((with_reducible refine (m2 _).trans ?_); rfl) | rfl)) | ((with_reducible refine go_bp (x := ?_) ?_ ?_); rotate_left 1; (first | ((with_reducible refine (m2 _).trans ?_); rfl) | rfl)) | ((with_reducible refine go_lp (x := ?_) (l := ?_) (c := ?_) ?_ ?_); rotate_left 3; (first | ((with_reducible refine (m2 _).trans ?_); rfl) | rfl)) | ((with_reducible refine go_pp (x := ?_) ?_ ?_); rotate_left 1; (first | ((with_reducible refine (m2 _).trans ?_); rfl) | rfl)) | ((with_reducible refine go_i (x := ?_) ?_ ?_); rotate_left 1; (first | ((with_reducible refine (m2 _).trans ?_); rfl) | rfl)) | ((with_reducible refine go_b (x := ?_) ?_ ?_); rotate_left 1; (first | ((with_reducible refine (m2 _).trans ?_); rfl) | rfl)) | ((with_reducible refine go_l (x := ?_) (l := ?_) (c := ?_) ?_ ?_); rotate_left 3; (first | ((with_reducible refine (m2 _).trans ?_); rfl) | rfl)) | ((with_reducible refine go_p (x := ?_) ?_ ?_); rotate_left 1; (first | ((with_reducible refine (m2 _).trans ?_); rfl) | rfl)) | ((with_reducible refine go_halst rfl ?_ ?_ ?_); rfl; rfl) | (with_reducible refine go_halN rfl ?_) | (with_reducible refine go_t d0 ?_) | (with_reducible refine go_f d0 ?_) | (with_reducible refine go_t d7 ?_) | (with_reducible refine go_f d7 ?_) | ((with_reducible refine go_t ?_ ?_); (show _ = true; rfl)) | ((with_reducible refine go_f ?_ ?_); (show _ = false; rfl)) | (with_reducible refine go_ne ?_) | (with_reducible refine go_eq ?_) | (with_reducible refine go_fad ?_) | (with_reducible refine go_nil ?_))
        rfl
    · have d0 : decide (((t.length : Nat) : Int) > 0) = true := decide_eq_true (by omega)
      obtain ⟨H3, z, e3, O3, o3⟩ := last ((val t * 2 ^ (sz b - t.length) : Nat) : Int)
      have hv := val_lt t
      have hv2 : val t * 2 ^ (sz b - t.length) < 256 := by
        have h1 : val t * 2 ^ (sz b - t.length) < 2 ^ t.length * 2 ^ (sz b - t.length) := Nat.mul_lt_mul_of_pos_right hv (Nat.two_pow_pos _)
        rw [← Nat.pow_add, show t.length + (sz b - t.length) = sz b from by omega] at h1
        exact Nat.lt_of_lt_of_le h1 (Nat.pow_le_pow_right (n := 2) (by omega) hs8)
      have s1 : ∀ (R : Type) (K : Int → Option R), hbin .shl .u8 ((val t : Nat) : Int) (IntKind.wrap .u64 (IntKind.wrap .i64 (((sz b : Nat) : Int) - ((t.length : Nat) : Int)))) K = K ((val t * 2 ^ (sz b - t.length) : Nat) : Int) := fun R K => by
        rw [w64 (by omega) (by omega), show ((sz b : Nat) : Int) - ((t.length : Nat) : Int) = ((sz b - t.length : Nat) : Int) from by omega]
        exact shl8 (by omega) hv2 K
      refine main (b ++ [((val t * 2 ^ (sz b - t.length) : Nat) : Int)]) (b.length + 1) H3 z (fun R KN => ?_) (by unfold unk; omega) (by simp) O3 o3 (by unfold fnB; rw [if_neg h0])
      unfold bitio_Writer_Bytes_p0 bitio_Writer_Bytes_p0_b
      repeat (first | (with_reducible refine (s1 _ _).trans ?_) | (with_reducible refine (e3 _ _).trans ?_) | ((with_reducible refine go_ip (x := ?_) ?_ ?_); rotate_left 1; (first | ((with_reducible refine (m2 _).trans ?_); rfl) | rfl)) | ((with_reducible refine go_bp (x := ?_) ?_ ?_); rotate_left 1; (first | ((with_reducible refine (m2 _).trans ?_); rfl) | rfl)) | ((with_reducible refine go_lp (x := ?_) (l := ?_) (c := ?_) ?_ ?_); rotate_left 3; (first | ((with_reducible refine (m2 _).trans ?_); rfl) | rfl)) | ((with_reducible refine go_pp (x := ?_) ?_ ?_); rotate_left 1; (first | ((with_reducible refine (m2 _).trans ?_); rfl) | rfl)) | ((with_reducible refine go_i (x := ?_) ?_ ?_); rotate_left 1; (first | ((with_reducible refine (m2 _).trans ?_); rfl) | rfl)) | ((with_reducible refine go_b (x := ?_) ?_ ?_); rotate_left 1; (first | ((with_reducible refine (m2 _).trans ?_); rfl) | rfl)) | ((with_reducible refine go_l (x := ?_) (l := ?_) (c := ?_) ?_ ?_); rotate_left 3; (first | ((with_reducible refine (m2 _).trans ?_); rfl) | rfl)) | ((with_reducible refine go_p (x := ?_) ?_ ?_); rotate_left 1; (first | ((with_reducible refine (m2 _).trans ?_); rfl) | rfl)) | ((with_reducible refine go_halst rfl ?_ ?_ ?_); rfl; rfl) | (with_reducible refine go_halN rfl ?_) | (with_reducible refine go_t d0 ?_) | (with_reducible refine go_f d0 ?_) | ((with_reducible refine go_t ?_ ?_); (show _ = true; rfl)) | ((with_reducible refine go_f ?_ ?_); (show _ = false; rfl)) | (with_reducible refine go_ne ?_) | (with_reducible refine go_eq ?_) | (with_reducible refine go_fad ?_) | (with_reducible refine go_nil ?_))
      rw [List.length_append]; rfl
  obtain ⟨H', z, g1, g2, g3⟩ := fin
  exact ⟨b, pre, t, H', z, rfl, hF, ht, g1, g2, g3⟩
end Go.Proofs.Ytblkejnciinaeaa.Sh
/- Bitio: the bytes of the reference's writer. -/
set_option linter.unusedVariables false
set_option linter.unusedSimpArgs false
namespace Go.Proofs.Ytblkejnciinaeaa.Sh
open Go.Proofs.Ytblkejnciinaeaa.FW Go.IntWalk
/-- n bits from a place on, zeros behind the end. -/
def ck (l : List Int) (a n : Nat) : List Int := (List.range n).map fun i => l.getD (a + i) 0
theorem ck_succ (l : List Int) (a n : Nat) : ck l a (n + 1) = ck l a n ++ [l.getD (a + n) 0] := by unfold ck; rw [List.range_succ, List.map_append]; rfl
theorem ck_len (l : List Int) (a n : Nat) : (ck l a n).length = n := by simp [ck]
theorem ck_mid (pre c rest : List Int) : ck (pre ++ (c ++ rest)) pre.length c.length = c := by
  apply List.ext_getElem?
  intro i
  by_cases h : i < c.length
  · simp [ck, h, List.getElem?_append_right]
    rw [List.getElem?_append_left h, List.getElem?_eq_getElem h]; rfl
  · rw [List.getElem?_eq_none (by rw [ck_len]; omega), List.getElem?_eq_none (by omega)]
theorem ck_end (pre t : List Int) (n : Nat) (h : t.length ≤ n) : ck (pre ++ t) pre.length n = t ++ List.replicate (n - t.length) 0 := by
  apply List.ext_getElem?
  intro i
  by_cases h1 : i < t.length
  · rw [List.getElem?_append_left h1]
    have : i < n := by omega
    simp [ck, this, List.getElem?_append_right, h1]
  · by_cases h2 : i < n
    · rw [List.getElem?_append_right (by omega)]
      have : i - t.length < n - t.length := by omega
      simp [ck, h2, List.getElem?_append_right, this]
      rw [List.getElem?_eq_none (by omega)]; rfl
    · rw [List.getElem?_eq_none (by rw [ck_len]; omega), List.getElem?_eq_none (by simp; omega)]
theorem l3_eq (k : Nat) {N : Nat} {H : Heap} {p : Nat} {q : Option Addr} {l : List Int} (h : Ur N H p q l) (hb : B01 l) (hl : l.length < 1000000) (qb : Option Addr) (lb cb : Nat) {a w : Nat} (ha : a < 2000000) (hw : w ≤ 8) : ∀ (m n j : Nat), m < n → w = j + m → ∀ (R : Type) (KE : Option Addr → Option Addr → Nat → Nat → Int → Int → Option R),
    R09_Writer_Bytes_l3 k KE n (some ⟨p, 0, none⟩) qb lb cb ((a + j : Nat) : Int) (w : Int) ((val (ck l a j) : Nat) : Int) (j : Int) H = KE (some ⟨p, 0, none⟩) qb lb cb ((a + w : Nat) : Int) ((val (ck l a w) : Nat) : Int) := by
  intro m
  obtain ⟨c, h1, h2⟩ := h.c
  have mm : ∀ o, hcell H p o = [Value.bool true, .slice q l.length c][o]? := fun o => h1.sees.cell o
  induction m with
  | zero =>
    intro n j hn hj R KE
    obtain ⟨n, rfl⟩ : ∃ n', n = n' + 1 := ⟨n - 1, by omega⟩
    obtain rfl : w = j := by omega
    have ed : decide ((w : Int) < (w : Int)) = false := decide_eq_false (by omega)
    unfold R09_Writer_Bytes_l3 R09_Writer_Bytes_l3_b
    exact go_f ed rfl
  | succ m ih =>
    intro n j hn hj R KE
    obtain ⟨n, rfl⟩ : ∃ n', n = n' + 1 := ⟨n - 1, by omega⟩
    have ed : decide ((j : Int) < (w : Int)) = true := decide_eq_true (by omega)
    have hv := val_lt (ck l a j)
    rw [ck_len] at hv
    have hv8 : 2 ^ j ≤ 2 ^ 8 := Nat.pow_le_pow_right (by omega) (by omega)
    have hbn := bn_le (l.getD (a + j) 0)
    have w1 : IntKind.wrap .i64 (((val (ck l a j) : Nat) : Int) * 2) = ((val (ck l a j) : Nat) : Int) * 2 := w64 (by omega) (by omega)
    have w2 : IntKind.wrap .i64 (((a + j : Nat) : Int) + 1) = ((a + (j + 1) : Nat) : Int) := by rw [w64 (by omega) (by omega)]; omega
    have w3 : IntKind.wrap .i64 ((j : Int) + 1) = ((j + 1 : Nat) : Int) := by rw [w64 (by omega) (by omega)]; omega
    have hvs : val (ck l a (j + 1)) = 2 * val (ck l a j) + bn (l.getD (a + j) 0) := by rw [ck_succ, val_snoc]
    have key : ∀ (R : Type) (KN : Option Addr → Option Addr → Nat → Nat → Int → Int → Int → Int → Option R), R09_Writer_Bytes_p4 k (some ⟨p, 0, none⟩) qb lb cb ((a + j : Nat) : Int) (w : Int) (((val (ck l a j) : Nat) : Int) * 2) (j : Int) H KN = KN (some ⟨p, 0, none⟩) qb lb cb ((a + j : Nat) : Int) (w : Int) ((val (ck l a (j + 1)) : Nat) : Int) (j : Int) := by
      intro R KN
      by_cases hin : a + j < l.length
      · have hx : l[a + j]? = some (l.getD (a + j) 0) := by rw [List.getD_eq_getElem?_getD, List.getElem?_eq_getElem hin]; rfl
        have d1 : decide (((a + j : Nat) : Int) < ((l.length : Nat) : Int)) = true := decide_eq_true (by omega)
        obtain ⟨x, e1, e2⟩ := num_at h2.shows.1 hx
        have hbx := bn_of (hb _ (List.mem_of_getElem? hx))
        have w4 : IntKind.wrap .i64 (((val (ck l a j) : Nat) : Int) * 2 + l.getD (a + j) 0) = ((val (ck l a (j + 1)) : Nat) : Int) := by rw [w64 (by omega) (by omega)]; omega
        unfold R09_Writer_Bytes_p4 R09_Writer_Bytes_p4_b
        repeat (first | (with_reducible refine (e1 _ _).trans ?_) | (with_reducible refine (e2 _ _).trans ?_) | ((with_reducible refine go_ip (x := ?_) ?_ ?_); rotate_left 1; (first | ((with_reducible refine (mm _).trans ?_); rfl) | rfl)) | ((with_reducible refine go_bp (x := ?_) ?_ ?_); rotate_left 1; (first | ((with_reducible refine (mm _).trans ?_); rfl) | rfl)) | ((with_reducible refine go_lp (x := ?_) (l := ?_) (c := ?_) ?_ ?_); rotate_left 3; (first | ((with_reducible refine (mm _).trans ?_); rfl) | rfl)) | ((with_reducible refine go_pp (x := ?_) ?_ ?_); rotate_left 1; (first | ((with_reducible refine (mm _).trans ?_); rfl) | rfl)) | ((with_reducible refine go_i (x := ?_) ?_ ?_); rotate_left 1; (first | ((with_reducible refine (mm _).trans ?_); rfl) | rfl)) | ((with_reducible refine go_b (x := ?_) ?_ ?_); rotate_left 1; (first | ((with_reducible refine (mm _).trans ?_); rfl) | rfl)) | ((with_reducible refine go_l (x := ?_) (l := ?_) (c := ?_) ?_ ?_); rotate_left 3; (first | ((with_reducible refine (mm _).trans ?_); rfl) | rfl)) | ((with_reducible refine go_p (x := ?_) ?_ ?_); rotate_left 1; (first | ((with_reducible refine (mm _).trans ?_); rfl) | rfl)) | ((with_reducible refine go_halst rfl ?_ ?_ ?_); rfl; rfl) | (with_reducible refine go_halN rfl ?_) | (with_reducible refine go_t d1 ?_) | (with_reducible refine go_f d1 ?_) | ((with_reducible refine go_t ?_ ?_); (show _ = true; rfl)) | ((with_reducible refine go_f ?_ ?_); (show _ = false; rfl)) | (with_reducible refine go_ne ?_) | (with_reducible refine go_eq ?_) | (with_reducible refine go_fad ?_) | (with_reducible refine go_nil ?_))
        rw [w4]
      · have hx : l.getD (a + j) 0 = 0 := by rw [List.getD_eq_getElem?_getD, List.getElem?_eq_none (by omega)]; rfl
        have d1 : decide (((a + j : Nat) : Int) < ((l.length : Nat) : Int)) = false := decide_eq_false (by omega)
        have h0 : bn 0 = 0 := rfl
        have hvs' : ((val (ck l a (j + 1)) : Nat) : Int) = ((val (ck l a j) : Nat) : Int) * 2 := by rw [hvs, hx]; omega
        rw [hvs']
        unfold R09_Writer_Bytes_p4 R09_Writer_Bytes_p4_b
        repeat (first | ((with_reducible refine go_ip (x := ?_) ?_ ?_); rotate_left 1; (first | ((with_reducible refine (mm _).trans ?_); rfl) | rfl)) | ((with_reducible refine go_bp (x := ?_) ?_ ?_); rotate_left 1; (first | ((with_reducible refine (mm _).trans ?_); rfl) | rfl)) | ((with_reducible refine go_lp (x := ?_) (l := ?_) (c := ?_) ?_ ?_); rotate_left 3; (first | ((with_reducible refine (mm _).trans ?_); rfl) | rfl)) | ((with_reducible refine go_pp (x := ?_) ?_ ?_); rotate_left 1; (first | ((with_reducible refine (mm _).trans ?_); rfl) | rfl)) | ((with_reducible refine go_i (x := ?_) ?_ ?_); rotate_left 1; (first | ((with_reducible refine (mm _).trans ?_); rfl) | rfl)) | ((with_reducible refine go_b (x := ?_) ?_ ?_); rotate_left 1; (first | ((with_reducible refine (mm _).trans ?_); rfl) | rfl)) | ((with_reducible refine go_l (x := ?_) (l := ?_) (c := ?_) ?_ ?_); rotate_left 3; (first | ((with_reducible refine (mm _).trans ?_); rfl) | rfl)) | ((with_reducible refine go_p (x := ?_) ?_ ?_); rotate_left 1; (first | ((with_reducible refine (mm _).trans ?_); rfl) | rfl)) | ((with_reducible refine go_halst rfl ?_ ?_ ?_); rfl; rfl) | (with_reducible refine go_halN rfl ?_) | (with_reducible refine go_t d1 ?_) | (with_reducible refine go_f d1 ?_) | ((with_reducible refine go_t ?_ ?_); (show _ = true; rfl)) | ((with_reducible refine go_f ?_ ?_); (show _ = false; rfl)) | (with_reducible refine go_ne ?_) | (with_reducible refine go_eq ?_) | (with_reducible refine go_fad ?_) | (with_reducible refine go_nil ?_))
        rfl
    unfold R09_Writer_Bytes_l3 R09_Writer_Bytes_l3_b
    refine go_t ed ?_
    rw [w1]
    refine (key _ _).trans ?_
    try dsimp only
    rw [w2, w3]
    exact ih n (j + 1) (by omega) (by omega) R KE
theorem p2_eq (k : Nat) {H : Heap} (pp qb : Option Addr) (cb : Nat) (at_ : Int) {b : List Int} (hS : Shows H qb (byt b)) (hl : b.length < 1000000) (R : Type) (KN : Option Addr → Option Addr → Nat → Nat → Int → Int → Option R) : R09_Writer_Bytes_p2 k pp qb b.length cb at_ 8 H KN = KN pp qb b.length cb at_ ((sz b : Nat) : Int) := by
  by_cases h0 : b.length > 0
  · have d0 : decide (((b.length : Nat) : Int) > 0) = true := decide_eq_true (by omega)
    have hx : b[b.length - 1]? = b.getLast? := (List.getLast?_eq_getElem? (l := b)).symm
    obtain ⟨x, hx2⟩ : ∃ x, b.getLast? = some x := ⟨_, List.getLast?_eq_some_getLast (fun h => by rw [h] at h0; simp at h0)⟩
    obtain ⟨y, e1, e2⟩ := byte_at hS (i := b.length - 1) (x := x) (by rw [hx, hx2])
    have e1' : ∀ (R : Type) (K : Option Addr → Option R), hidx qb b.length (IntKind.wrap .i64 (((b.length : Nat) : Int) - 1)) 1 K = K y := fun R K => by
      rw [w64 (by omega) (by omega), show ((b.length : Nat) : Int) - 1 = ((b.length - 1 : Nat) : Int) from by omega]; exact e1 R K
    have hs : sz b = if x = 255 then 7 else 8 := by unfold sz; rw [hx2]; simp
    by_cases h255 : x = 255
    · have d1 : (x == 255) = true := by rw [h255]; rfl
      rw [hs, if_pos h255]
      unfold R09_Writer_Bytes_p2 R09_Writer_Bytes_p2_b
      repeat (first | (with_reducible refine (e1' _ _).trans ?_) | (with_reducible refine (e2 _ _).trans ?_) | ((with_reducible refine go_ip (x := ?_) ?_ ?_); rotate_left 1; (first  | rfl)) | ((with_reducible refine go_bp (x := ?_) ?_ ?_); rotate_left 1; (first  | rfl)) | ((with_reducible refine go_lp (x := ?_) (l := ?_) (c := ?_) ?_ ?_); rotate_left 3; (first  | rfl)) | ((with_reducible refine go_pp (x := ?_) ?_ ?_); rotate_left 1; (first  | rfl)) | ((with_reducible refine go_i (x := ?_) ?_ ?_); rotate_left 1; (first  | rfl)) | ((with_reducible refine go_b (x := ?_) ?_ ?_); rotate_left 1; (first  | rfl)) | ((with_reducible refine go_l (x := ?_) (l := ?_) (c := ?_) ?_ ?_); rotate_left 3; (first  | rfl)) | ((with_reducible refine go_p (x := ?_) ?_ ?_); rotate_left 1; (first  | rfl)) | ((with_reducible refine go_halst rfl ?_ ?_ ?_); rfl; rfl) | (with_reducible refine go_halN rfl ?_) | (with_reducible refine go_t d0 ?_) | (with_reducible refine go_f d0 ?_) | (with_reducible refine go_t d1 ?_) | (with_reducible refine go_f d1 ?_) | ((with_reducible refine go_t ?_ ?_); (show _ = true; rfl)) | ((with_reducible refine go_f ?_ ?_); (show _ = false; rfl)) | (with_reducible refine go_ne ?_) | (with_reducible refine go_eq ?_) | (with_reducible refine go_fad ?_) | (with_reducible refine go_nil ?_))
      rfl
    · have d1 : (x == 255) = false := by simpa using h255
      rw [hs, if_neg h255]
      unfold R09_Writer_Bytes_p2 R09_Writer_Bytes_p2_b
      repeat (first | (with_reducible refine (e1' _ _).trans ?_) | (with_reducible refine (e2 _ _).trans ?_) | ((with_reducible refine go_ip (x := ?_) ?_ ?_); rotate_left 1; (first  | rfl)) | ((with_reducible refine go_bp (x := ?_) ?_ ?_); rotate_left 1; (first  | rfl)) | ((with_reducible refine go_lp (x := ?_) (l := ?_) (c := ?_) ?_ ?_); rotate_left 3; (first  | rfl)) | ((with_reducible refine go_pp (x := ?_) ?_ ?_); rotate_left 1; (first  | rfl)) | ((with_reducible refine go_i (x := ?_) ?_ ?_); rotate_left 1; (first  | rfl)) | ((with_reducible refine go_b (x := ?_) ?_ ?_); rotate_left 1; (first  | rfl)) | ((with_reducible refine go_l (x := ?_) (l := ?_) (c := ?_) ?_ ?_); rotate_left 3; (first  | rfl)) | ((with_reducible refine go_p (x := ?_) ?_ ?_); rotate_left 1; (first  | rfl)) | ((with_reducible refine go_halst rfl ?_ ?_ ?_); rfl; rfl) | (with_reducible refine go_halN rfl ?_) | (with_reducible refine go_t d0 ?_) | (with_reducible refine go_f d0 ?_) | (with_reducible refine go_t d1 ?_) | (with_reducible refine go_f d1 ?_) | ((with_reducible refine go_t ?_ ?_); (show _ = true; rfl)) | ((with_reducible refine go_f ?_ ?_); (show _ = false; rfl)) | (with_reducible refine go_ne ?_) | (with_reducible refine go_eq ?_) | (with_reducible refine go_fad ?_) | (with_reducible refine go_nil ?_))
      rfl
  · have d0 : decide (((b.length : Nat) : Int) > 0) = false := decide_eq_false (by omega)
    have : b = [] := List.length_eq_zero_iff.1 (by omega)
    subst this
    unfold R09_Writer_Bytes_p2 R09_Writer_Bytes_p2_b
    repeat (first | ((with_reducible refine go_ip (x := ?_) ?_ ?_); rotate_left 1; (first  | rfl)) | ((with_reducible refine go_bp (x := ?_) ?_ ?_); rotate_left 1; (first  | rfl)) | ((with_reducible refine go_lp (x := ?_) (l := ?_) (c := ?_) ?_ ?_); rotate_left 3; (first  | rfl)) | ((with_reducible refine go_pp (x := ?_) ?_ ?_); rotate_left 1; (first  | rfl)) | ((with_reducible refine go_i (x := ?_) ?_ ?_); rotate_left 1; (first  | rfl)) | ((with_reducible refine go_b (x := ?_) ?_ ?_); rotate_left 1; (first  | rfl)) | ((with_reducible refine go_l (x := ?_) (l := ?_) (c := ?_) ?_ ?_); rotate_left 3; (first  | rfl)) | ((with_reducible refine go_p (x := ?_) ?_ ?_); rotate_left 1; (first  | rfl)) | ((with_reducible refine go_halst rfl ?_ ?_ ?_); rfl; rfl) | (with_reducible refine go_halN rfl ?_) | (with_reducible refine go_t d0 ?_) | (with_reducible refine go_f d0 ?_) | ((with_reducible refine go_t ?_ ?_); (show _ = true; rfl)) | ((with_reducible refine go_f ?_ ?_); (show _ = false; rfl)) | (with_reducible refine go_ne ?_) | (with_reducible refine go_eq ?_) | (with_reducible refine go_fad ?_) | (with_reducible refine go_nil ?_))
    rfl
theorem p5_eq (k : Nat) {H : Heap} (qb : Option Addr) (cb : Nat) {b : List Int} (hS : Shows H qb (byt b)) (hl : b.length < 1000000) (R : Type) (KN : Option Addr → Nat → Nat → Bool → Option R) : R09_Writer_Bytes_p5 k qb b.length cb H KN = KN qb b.length cb (decide (sz b = 7)) := by
  by_cases h0 : b.length > 0
  · have d0 : decide (((b.length : Nat) : Int) > 0) = true := decide_eq_true (by omega)
    have hx : b[b.length - 1]? = b.getLast? := (List.getLast?_eq_getElem? (l := b)).symm
    obtain ⟨x, hx2⟩ : ∃ x, b.getLast? = some x := ⟨_, List.getLast?_eq_some_getLast (fun h => by rw [h] at h0; simp at h0)⟩
    obtain ⟨y, e1, e2⟩ := byte_at hS (i := b.length - 1) (x := x) (by rw [hx, hx2])
    have e1' : ∀ (R : Type) (K : Option Addr → Option R), hidx qb b.length (IntKind.wrap .i64 (((b.length : Nat) : Int) - 1)) 1 K = K y := fun R K => by
      rw [w64 (by omega) (by omega), show ((b.length : Nat) : Int) - 1 = ((b.length - 1 : Nat) : Int) from by omega]; exact e1 R K
    have hs : decide (sz b = 7) = (x == 255) := by
      unfold sz; rw [hx2]
      by_cases h : x = 255
      · subst h; rfl
      · have : (x == 255) = false := by simpa using h
        rw [this]; simp [h]
    unfold R09_Writer_Bytes_p5 R09_Writer_Bytes_p5_b
    repeat (first | (with_reducible refine (e1' _ _).trans ?_) | (with_reducible refine (e2 _ _).trans ?_) | ((with_reducible refine go_ip (x := ?_) ?_ ?_); rotate_left 1; (first  | rfl)) | ((with_reducible refine go_bp (x := ?_) ?_ ?_); rotate_left 1; (first  | rfl)) | ((with_reducible refine go_lp (x := ?_) (l := ?_) (c := ?_) ?_ ?_); rotate_left 3; (first  | rfl)) | ((with_reducible refine go_pp (x := ?_) ?_ ?_); rotate_left 1; (first  | rfl)) | ((with_reducible refine go_i (x := ?_) ?_ ?_); rotate_left 1; (first  | rfl)) | ((with_reducible refine go_b (x := ?_) ?_ ?_); rotate_left 1; (first  | rfl)) | ((with_reducible refine go_l (x := ?_) (l := ?_) (c := ?_) ?_ ?_); rotate_left 3; (first  | rfl)) | ((with_reducible refine go_p (x := ?_) ?_ ?_); rotate_left 1; (first  | rfl)) | ((with_reducible refine go_halst rfl ?_ ?_ ?_); rfl; rfl) | (with_reducible refine go_halN rfl ?_) | (with_reducible refine go_t d0 ?_) | (with_reducible refine go_f d0 ?_) | ((with_reducible refine go_t ?_ ?_); (show _ = true; rfl)) | ((with_reducible refine go_f ?_ ?_); (show _ = false; rfl)) | (with_reducible refine go_ne ?_) | (with_reducible refine go_eq ?_) | (with_reducible refine go_fad ?_) | (with_reducible refine go_nil ?_))
    rw [hs]
  · have d0 : decide (((b.length : Nat) : Int) > 0) = false := decide_eq_false (by omega)
    have : b = [] := List.length_eq_zero_iff.1 (by omega)
    subst this
    unfold R09_Writer_Bytes_p5 R09_Writer_Bytes_p5_b
    repeat (first | ((with_reducible refine go_ip (x := ?_) ?_ ?_); rotate_left 1; (first  | rfl)) | ((with_reducible refine go_bp (x := ?_) ?_ ?_); rotate_left 1; (first  | rfl)) | ((with_reducible refine go_lp (x := ?_) (l := ?_) (c := ?_) ?_ ?_); rotate_left 3; (first  | rfl)) | ((with_reducible refine go_pp (x := ?_) ?_ ?_); rotate_left 1; (first  | rfl)) | ((with_reducible refine go_i (x := ?_) ?_ ?_); rotate_left 1; (first  | rfl)) | ((with_reducible refine go_b (x := ?_) ?_ ?_); rotate_left 1; (first  | rfl)) | ((with_reducible refine go_l (x := ?_) (l := ?_) (c := ?_) ?_ ?_); rotate_left 3; (first  | rfl)) | ((with_reducible refine go_p (x := ?_) ?_ ?_); rotate_left 1; (first  | rfl)) | ((with_reducible refine go_halst rfl ?_ ?_ ?_); rfl; rfl) | (with_reducible refine go_halN rfl ?_) | (with_reducible refine go_t d0 ?_) | (with_reducible refine go_f d0 ?_) | ((with_reducible refine go_t ?_ ?_); (show _ = true; rfl)) | ((with_reducible refine go_f ?_ ?_); (show _ = false; rfl)) | (with_reducible refine go_ne ?_) | (with_reducible refine go_eq ?_) | (with_reducible refine go_fad ?_) | (with_reducible refine go_nil ?_))
    rfl
/-- One more byte. -/
theorem l1_step {k : Nat} (hk : 100 < k) {N : Nat} {H0 : Heap} {p : Nat} {q : Option Addr} {l : List Int} (h : Ur N H0 p q l) (hb : B01 l) (hl : l.length < 1000000) {b pre : List Int} (hpl : pre.length < l.length) (hbl : b.length < 1000000) {qb : Option Addr} {cb : Nat} {H : Heap} (hB : Bld H0.length 1 H qb b.length cb (byt b)) (hO : Old H0.length H0 H) :
    ∃ q' c' H', (∀ (n : Nat) (R : Type) (KE : Option Addr → Nat → Nat → Heap → Option R), R09_Writer_Bytes_l1 k KE (n + 1) (some ⟨p, 0, none⟩) qb b.length cb ((pre.length : Nat) : Int) H = R09_Writer_Bytes_l1 k KE n (some ⟨p, 0, none⟩) q' (b ++ [((val (ck l pre.length (sz b)) : Nat) : Int)]).length c' ((pre.length + sz b : Nat) : Int) H') ∧ Bld H0.length 1 H' q' (b ++ [((val (ck l pre.length (sz b)) : Nat) : Int)]).length c' (byt (b ++ [((val (ck l pre.length (sz b)) : Nat) : Int)])) ∧ Old H0.length H0 H' := by
  have hs8 := sz_le b
  have hU : Ur N H p q l := by
    obtain ⟨c, h1, h2⟩ := h.c
    exact ⟨⟨c, h1.old hO h1.lt, h2.old hO (Nat.le_refl _)⟩, h.low, h.apt⟩
  obtain ⟨c, h1, h2⟩ := hU.c
  have mm : ∀ o, hcell H p o = [Value.bool true, .slice q l.length c][o]? := fun o => h1.sees.cell o
  have d0 : decide (((pre.length : Nat) : Int) < ((l.length : Nat) : Int)) = true := decide_eq_true (by omega)
  have hv := val_lt (ck l pre.length (sz b))
  rw [ck_len] at hv
  have hv8 : 2 ^ sz b ≤ 2 ^ 8 := Nat.pow_le_pow_right (by omega) hs8
  obtain ⟨H', e1, B1, n1, s1⟩ := app1 (bytes := 1) hB (by have := hO.1; omega) (.int .u8 ((val (ck l pre.length (sz b)) : Nat) : Int)) (by omega)
  have g2 := fun R (KN : Option Addr → Option Addr → Nat → Nat → Int → Int → Option R) => p2_eq k (some ⟨p, 0, none⟩) qb cb ((pre.length : Nat) : Int) hB.shows.1 hbl R KN
  have g3 := l3_eq k hU hb hl qb b.length cb (a := pre.length) (w := sz b) (by omega) hs8 (sz b) k 0 (by omega) (by omega)
  have hv0 : ((val (ck l pre.length 0) : Nat) : Int) = 0 := rfl
  simp only [Int.natCast_zero, Nat.add_zero, hv0] at g3
  have w1 : IntKind.wrap .u8 ((val (ck l pre.length (sz b)) : Nat) : Int) = ((val (ck l pre.length (sz b)) : Nat) : Int) := u8_in _ ⟨by omega, by omega⟩
  refine ⟨some ⟨H.length + 1, 0, none⟩, unk, H', fun n R KE => ?_, ?_, ⟨by have := hO.1; omega, fun i hi => ?_⟩⟩
  · have hle : (b ++ [((val (ck l pre.length (sz b)) : Nat) : Int)]).length = b.length + 1 := by simp
    rw [hle]
    unfold R09_Writer_Bytes_l1 R09_Writer_Bytes_l1_b
    repeat (first | ((with_reducible refine go_ip (x := ?_) ?_ ?_); rotate_left 1; (first | ((with_reducible refine (mm _).trans ?_); rfl) | rfl)) | ((with_reducible refine go_bp (x := ?_) ?_ ?_); rotate_left 1; (first | ((with_reducible refine (mm _).trans ?_); rfl) | rfl)) | ((with_reducible refine go_lp (x := ?_) (l := ?_) (c := ?_) ?_ ?_); rotate_left 3; (first | ((with_reducible refine (mm _).trans ?_); rfl) | rfl)) | ((with_reducible refine go_pp (x := ?_) ?_ ?_); rotate_left 1; (first | ((with_reducible refine (mm _).trans ?_); rfl) | rfl)) | ((with_reducible refine go_i (x := ?_) ?_ ?_); rotate_left 1; (first | ((with_reducible refine (mm _).trans ?_); rfl) | rfl)) | ((with_reducible refine go_b (x := ?_) ?_ ?_); rotate_left 1; (first | ((with_reducible refine (mm _).trans ?_); rfl) | rfl)) | ((with_reducible refine go_l (x := ?_) (l := ?_) (c := ?_) ?_ ?_); rotate_left 3; (first | ((with_reducible refine (mm _).trans ?_); rfl) | rfl)) | ((with_reducible refine go_p (x := ?_) ?_ ?_); rotate_left 1; (first | ((with_reducible refine (mm _).trans ?_); rfl) | rfl)) | ((with_reducible refine go_halst rfl ?_ ?_ ?_); rfl; rfl) | (with_reducible refine go_halN rfl ?_) | (with_reducible refine go_t d0 ?_) | (with_reducible refine go_f d0 ?_) | ((with_reducible refine go_t ?_ ?_); (show _ = true; rfl)) | ((with_reducible refine go_f ?_ ?_); (show _ = false; rfl)) | (with_reducible refine go_ne ?_) | (with_reducible refine go_eq ?_) | (with_reducible refine go_fad ?_) | (with_reducible refine go_nil ?_))
    refine (g2 _ _).trans ?_
    refine (g3 _ _).trans ?_
    try dsimp only
    rw [w1]
    repeat (first | (with_reducible refine (e1 _ _).trans ?_) | ((with_reducible refine go_ip (x := ?_) ?_ ?_); rotate_left 1; (first  | rfl)) | ((with_reducible refine go_bp (x := ?_) ?_ ?_); rotate_left 1; (first  | rfl)) | ((with_reducible refine go_lp (x := ?_) (l := ?_) (c := ?_) ?_ ?_); rotate_left 3; (first  | rfl)) | ((with_reducible refine go_pp (x := ?_) ?_ ?_); rotate_left 1; (first  | rfl)) | ((with_reducible refine go_i (x := ?_) ?_ ?_); rotate_left 1; (first  | rfl)) | ((with_reducible refine go_b (x := ?_) ?_ ?_); rotate_left 1; (first  | rfl)) | ((with_reducible refine go_l (x := ?_) (l := ?_) (c := ?_) ?_ ?_); rotate_left 3; (first  | rfl)) | ((with_reducible refine go_p (x := ?_) ?_ ?_); rotate_left 1; (first  | rfl)) | ((with_reducible refine go_halst rfl ?_ ?_ ?_); rfl; rfl) | (with_reducible refine go_halN rfl ?_) | ((with_reducible refine go_t ?_ ?_); (show _ = true; rfl)) | ((with_reducible refine go_f ?_ ?_); (show _ = false; rfl)) | (with_reducible refine go_ne ?_) | (with_reducible refine go_eq ?_) | (with_reducible refine go_fad ?_) | (with_reducible refine go_nil ?_))
    cases n <;> rfl
  · rw [byt_app, show (b ++ [((val (ck l pre.length (sz b)) : Nat) : Int)]).length = b.length + 1 from by simp]
    exact B1
  · rw [s1 i (by have := hO.1; omega) (fun a ha => by have := Bld.qlow hB a ha; omega), hO.2 i hi]
theorem l1_eq {k : Nat} (hk : 100 < k) {N : Nat} {H0 : Heap} {p : Nat} {q : Option Addr} {l : List Int} (h : Ur N H0 p q l) (hb : B01 l) (hl : l.length < 1000000) {b pre : List Int} (hF : Full b pre) : ∀ rest, l = pre ++ rest →
    ∃ q' c' H', (∀ (n : Nat) (R : Type) (KE : Option Addr → Nat → Nat → Heap → Option R), R09_Writer_Bytes_l1 k KE (n + b.length) (some ⟨p, 0, none⟩) none 0 0 0 H0 = R09_Writer_Bytes_l1 k KE n (some ⟨p, 0, none⟩) q' b.length c' ((pre.length : Nat) : Int) H') ∧ Bld H0.length 1 H' q' b.length c' (byt b) ∧ Old H0.length H0 H' := by
  induction hF with
  | nil => intro rest hr; exact ⟨none, 0, H0, fun n R KE => rfl, Bld.nil _ _ _, .refl _ _⟩
  | @snoc b pre c hF hc ih =>
    intro rest hr
    have hs7 := sz_ge b
    have hlen : l.length = pre.length + (c.length + rest.length) := by rw [hr, List.length_append, List.length_append]; omega
    have hbl := hF.len
    obtain ⟨q1, c1, H1, e1, B1, o1⟩ := ih (c ++ rest) (by rw [hr, List.append_assoc])
    obtain ⟨q2, c2, H2, e2, B2, o2⟩ := l1_step (k := k) (by omega) h hb hl (pre := pre) (by omega) (by omega) B1 o1
    have hck : ck l pre.length (sz b) = c := by rw [hr, ← hc, List.append_assoc]; exact ck_mid _ _ _
    rw [hck] at e2 B2
    refine ⟨q2, c2, H2, fun n R KE => ?_, B2, o2⟩
    rw [show n + (b ++ [((val c : Nat) : Int)]).length = (n + 1) + b.length from by simp; omega, e1 (n + 1) R KE, e2 n R KE, show (pre ++ c).length = pre.length + sz b from by rw [List.length_append, hc]]
/-- The bytes of the reference's writer. -/
theorem uBytes_eq {k : Nat} (hk : 1100000 < k) {N : Nat} {H : Heap} {p : Nat} {q : Option Addr} {l : List Int} (h : Ur N H p q l) (hb : B01 l) (hl : l.length < 1000000) {b pre t : List Int} (hlt : l = pre ++ t) (hF : Full b pre) (ht : t.length < sz b) :
    ∃ q' c' H', (∀ (R : Type) (K : Option Addr → Nat → Nat → Heap → Option R), R09_Writer_Bytes k (some ⟨p, 0, none⟩) H K = K q' (fnB b t).length c' H') ∧ Shows H' q' (byt (fnB b t)) ∧ Old H.length H H' := by
  have hs8 := sz_le b
  have hs7 := sz_ge b
  have hbl := hF.len
  have hlen : l.length = pre.length + t.length := by rw [hlt, List.length_append]
  obtain ⟨q1, c1, H1, e1, B1, o1⟩ := l1_eq (k := k) (by omega) h hb hl hF t hlt
  have e1' := fun R KE => e1 (k - b.length) R KE
  rw [show k - b.length + b.length = k from by omega] at e1'
  obtain ⟨c, h1, h2⟩ := h.c
  have m0 : hcell H p 0 = some (.bool true) := h1.sees.cell 0
  by_cases h0 : t.length = 0
  · have hm : hcell H1 p 1 = some (.slice q l.length c) := (h1.old o1 h1.lt).sees.cell 1
    have d0 : decide (((pre.length : Nat) : Int) < ((l.length : Nat) : Int)) = false := decide_eq_false (by omega)
    have e2 : ∀ (R : Type) (KE : Option Addr → Nat → Nat → Heap → Option R), R09_Writer_Bytes_l1 k KE (k - b.length) (some ⟨p, 0, none⟩) q1 b.length c1 ((pre.length : Nat) : Int) H1 = KE q1 b.length c1 H1 := fun R KE => by
      obtain ⟨n, hn⟩ : ∃ n, k - b.length = n + 1 := ⟨k - b.length - 1, by omega⟩
      rw [hn]
      unfold R09_Writer_Bytes_l1 R09_Writer_Bytes_l1_b
      repeat (first | ((with_reducible refine go_ip (x := ?_) ?_ ?_); rotate_left 1; (first  | exact hm | rfl)) | ((with_reducible refine go_bp (x := ?_) ?_ ?_); rotate_left 1; (first  | exact hm | rfl)) | ((with_reducible refine go_lp (x := ?_) (l := ?_) (c := ?_) ?_ ?_); rotate_left 3; (first  | exact hm | rfl)) | ((with_reducible refine go_pp (x := ?_) ?_ ?_); rotate_left 1; (first  | exact hm | rfl)) | ((with_reducible refine go_i (x := ?_) ?_ ?_); rotate_left 1; (first  | exact hm | rfl)) | ((with_reducible refine go_b (x := ?_) ?_ ?_); rotate_left 1; (first  | exact hm | rfl)) | ((with_reducible refine go_l (x := ?_) (l := ?_) (c := ?_) ?_ ?_); rotate_left 3; (first  | exact hm | rfl)) | ((with_reducible refine go_p (x := ?_) ?_ ?_); rotate_left 1; (first  | exact hm | rfl)) | ((with_reducible refine go_halst rfl ?_ ?_ ?_); rfl; rfl) | (with_reducible refine go_halN rfl ?_) | (with_reducible refine go_t d0 ?_) | (with_reducible refine go_f d0 ?_) | ((with_reducible refine go_t ?_ ?_); (show _ = true; rfl)) | ((with_reducible refine go_f ?_ ?_); (show _ = false; rfl)) | (with_reducible refine go_ne ?_) | (with_reducible refine go_eq ?_) | (with_reducible refine go_fad ?_) | (with_reducible refine go_nil ?_))
      rfl
    have g5 := fun R KN => p5_eq k q1 c1 B1.shows.1 (by omega) R KN
    by_cases h7 : sz b = 7
    · obtain ⟨H2, e3, B3, n3, s3⟩ := app1 (bytes := 1) B1 (by have := o1.1; omega) (.int .u8 0) (by omega)
      have d7 : decide (sz b = 7) = true := decide_eq_true h7
      have hfn : fnB b t = b ++ [0] := by unfold fnB; rw [if_pos h0, if_pos h7]
      rw [hfn]
      refine ⟨some ⟨H1.length + 1, 0, none⟩, unk, H2, fun R K => ?_, ?_, ⟨by have := o1.1; omega, fun i hi => ?_⟩⟩
      · unfold R09_Writer_Bytes R09_Writer_Bytes_b R09_Writer_Bytes_p0 R09_Writer_Bytes_p0_b
        repeat (first | ((with_reducible refine go_ip (x := ?_) ?_ ?_); rotate_left 1; (first  | exact m0 | rfl)) | ((with_reducible refine go_bp (x := ?_) ?_ ?_); rotate_left 1; (first  | exact m0 | rfl)) | ((with_reducible refine go_lp (x := ?_) (l := ?_) (c := ?_) ?_ ?_); rotate_left 3; (first  | exact m0 | rfl)) | ((with_reducible refine go_pp (x := ?_) ?_ ?_); rotate_left 1; (first  | exact m0 | rfl)) | ((with_reducible refine go_i (x := ?_) ?_ ?_); rotate_left 1; (first  | exact m0 | rfl)) | ((with_reducible refine go_b (x := ?_) ?_ ?_); rotate_left 1; (first  | exact m0 | rfl)) | ((with_reducible refine go_l (x := ?_) (l := ?_) (c := ?_) ?_ ?_); rotate_left 3; (first  | exact m0 | rfl)) | ((with_reducible refine go_p (x := ?_) ?_ ?_); rotate_left 1; (first  | exact m0 | rfl)) | ((with_reducible refine go_halst rfl ?_ ?_ ?_); rfl; rfl) | (with_reducible refine go_halN rfl ?_) | ((with_reducible refine go_t ?_ ?_); (show _ = true; rfl)) | ((with_reducible refine go_f ?_ ?_); (show _ = false; rfl)) | (with_reducible refine go_ne ?_) | (with_reducible refine go_eq ?_) | (with_reducible refine go_fad ?_) | (with_reducible refine go_nil ?_))
        refine (e1' _ _).trans ((e2 _ _).trans ((g5 _ _).trans ?_))
        repeat (first | (with_reducible refine (e3 _ _).trans ?_) | ((with_reducible refine go_ip (x := ?_) ?_ ?_); rotate_left 1; (first  | rfl)) | ((with_reducible refine go_bp (x := ?_) ?_ ?_); rotate_left 1; (first  | rfl)) | ((with_reducible refine go_lp (x := ?_) (l := ?_) (c := ?_) ?_ ?_); rotate_left 3; (first  | rfl)) | ((with_reducible refine go_pp (x := ?_) ?_ ?_); rotate_left 1; (first  | rfl)) | ((with_reducible refine go_i (x := ?_) ?_ ?_); rotate_left 1; (first  | rfl)) | ((with_reducible refine go_b (x := ?_) ?_ ?_); rotate_left 1; (first  | rfl)) | ((with_reducible refine go_l (x := ?_) (l := ?_) (c := ?_) ?_ ?_); rotate_left 3; (first  | rfl)) | ((with_reducible refine go_p (x := ?_) ?_ ?_); rotate_left 1; (first  | rfl)) | ((with_reducible refine go_halst rfl ?_ ?_ ?_); rfl; rfl) | (with_reducible refine go_halN rfl ?_) | (with_reducible refine go_t d7 ?_) | (with_reducible refine go_f d7 ?_) | ((with_reducible refine go_t ?_ ?_); (show _ = true; rfl)) | ((with_reducible refine go_f ?_ ?_); (show _ = false; rfl)) | (with_reducible refine go_ne ?_) | (with_reducible refine go_eq ?_) | (with_reducible refine go_fad ?_) | (with_reducible refine go_nil ?_))
        rw [List.length_append]; rfl
      · rw [byt_app]; exact B3.shows.1
      · rw [s3 i (by have := o1.1; omega) (fun a ha => by have := Bld.qlow B1 a ha; omega), o1.2 i hi]
    · have d7 : decide (sz b = 7) = false := decide_eq_false h7
      have hfn : fnB b t = b := by unfold fnB; rw [if_pos h0, if_neg h7]
      rw [hfn]
      refine ⟨q1, c1, H1, fun R K => ?_, B1.shows.1, o1⟩
      unfold R09_Writer_Bytes R09_Writer_Bytes_b R09_Writer_Bytes_p0 R09_Writer_Bytes_p0_b
      repeat (first | ((with_reducible refine go_ip (x := ?_) ?_ ?_); rotate_left 1; (first  | exact m0 | rfl)) | ((with_reducible refine go_bp (x := ?_) ?_ ?_); rotate_left 1; (first  | exact m0 | rfl)) | ((with_reducible refine go_lp (x := ?_) (l := ?_) (c := ?_) ?_ ?_); rotate_left 3; (first  | exact m0 | rfl)) | ((with_reducible refine go_pp (x := ?_) ?_ ?_); rotate_left 1; (first  | exact m0 | rfl)) | ((with_reducible refine go_i (x := ?_) ?_ ?_); rotate_left 1; (first  | exact m0 | rfl)) | ((with_reducible refine go_b (x := ?_) ?_ ?_); rotate_left 1; (first  | exact m0 | rfl)) | ((with_reducible refine go_l (x := ?_) (l := ?_) (c := ?_) ?_ ?_); rotate_left 3; (first  | exact m0 | rfl)) | ((with_reducible refine go_p (x := ?_) ?_ ?_); rotate_left 1; (first  | exact m0 | rfl)) | ((with_reducible refine go_halst rfl ?_ ?_ ?_); rfl; rfl) | (with_reducible refine go_halN rfl ?_) | ((with_reducible refine go_t ?_ ?_); (show _ = true; rfl)) | ((with_reducible refine go_f ?_ ?_); (show _ = false; rfl)) | (with_reducible refine go_ne ?_) | (with_reducible refine go_eq ?_) | (with_reducible refine go_fad ?_) | (with_reducible refine go_nil ?_))
      refine (e1' _ _).trans ((e2 _ _).trans ((g5 _ _).trans ?_))
      repeat (first | ((with_reducible refine go_ip (x := ?_) ?_ ?_); rotate_left 1; (first  | rfl)) | ((with_reducible refine go_bp (x := ?_) ?_ ?_); rotate_left 1; (first  | rfl)) | ((with_reducible refine go_lp (x := ?_) (l := ?_) (c := ?_) ?_ ?_); rotate_left 3; (first  | rfl)) | ((with_reducible refine go_pp (x := ?_) ?_ ?_); rotate_left 1; (first  | rfl)) | ((with_reducible refine go_i (x := ?_) ?_ ?_); rotate_left 1; (first  | rfl)) | ((with_reducible refine go_b (x := ?_) ?_ ?_); rotate_left 1; (first  | rfl)) | ((with_reducible refine go_l (x := ?_) (l := ?_) (c := ?_) ?_ ?_); rotate_left 3; (first  | rfl)) | ((with_reducible refine go_p (x := ?_) ?_ ?_); rotate_left 1; (first  | rfl)) | ((with_reducible refine go_halst rfl ?_ ?_ ?_); rfl; rfl) | (with_reducible refine go_halN rfl ?_) | (with_reducible refine go_t d7 ?_) | (with_reducible refine go_f d7 ?_) | ((with_reducible refine go_t ?_ ?_); (show _ = true; rfl)) | ((with_reducible refine go_f ?_ ?_); (show _ = false; rfl)) | (with_reducible refine go_ne ?_) | (with_reducible refine go_eq ?_) | (with_reducible refine go_fad ?_) | (with_reducible refine go_nil ?_))
      rfl
  · obtain ⟨q2, c2, H2, e2, B2, o2⟩ := l1_step (k := k) (by omega) h hb hl (pre := pre) (by omega) (by omega) B1 o1
    have hck : val (ck l pre.length (sz b)) = val t * 2 ^ (sz b - t.length) := by rw [hlt, ck_end _ _ _ (by omega), val_zeros]
    have hfn : fnB b t = b ++ [((val t * 2 ^ (sz b - t.length) : Nat) : Int)] := by unfold fnB; rw [if_neg h0]
    rw [hck, ← hfn] at e2 B2
    have hfl : (fnB b t).length = b.length + 1 := by rw [hfn]; simp
    have hm : hcell H2 p 1 = some (.slice q l.length c) := (h1.old o2 h1.lt).sees.cell 1
    have d0 : decide (((pre.length + sz b : Nat) : Int) < ((l.length : Nat) : Int)) = false := decide_eq_false (by omega)
    have e3 : ∀ (R : Type) (KE : Option Addr → Nat → Nat → Heap → Option R), R09_Writer_Bytes_l1 k KE (k - b.length) (some ⟨p, 0, none⟩) q1 b.length c1 ((pre.length : Nat) : Int) H1 = KE q2 (fnB b t).length c2 H2 := fun R KE => by
      obtain ⟨n, hn⟩ : ∃ n, k - b.length = n + 1 + 1 := ⟨k - b.length - 2, by omega⟩
      rw [hn, e2 (n + 1) R KE]
      unfold R09_Writer_Bytes_l1 R09_Writer_Bytes_l1_b
      repeat (first | ((with_reducible refine go_ip (x := ?_) ?_ ?_); rotate_left 1; (first  | exact hm | rfl)) | ((with_reducible refine go_bp (x := ?_) ?_ ?_); rotate_left 1; (first  | exact hm | rfl)) | ((with_reducible refine go_lp (x := ?_) (l := ?_) (c := ?_) ?_ ?_); rotate_left 3; (first  | exact hm | rfl)) | ((with_reducible refine go_pp (x := ?_) ?_ ?_); rotate_left 1; (first  | exact hm | rfl)) | ((with_reducible refine go_i (x := ?_) ?_ ?_); rotate_left 1; (first  | exact hm | rfl)) | ((with_reducible refine go_b (x := ?_) ?_ ?_); rotate_left 1; (first  | exact hm | rfl)) | ((with_reducible refine go_l (x := ?_) (l := ?_) (c := ?_) ?_ ?_); rotate_left 3; (first  | exact hm | rfl)) | ((with_reducible refine go_p (x := ?_) ?_ ?_); rotate_left 1; (first  | exact hm | rfl)) | ((with_reducible refine go_halst rfl ?_ ?_ ?_); rfl; rfl) | (with_reducible refine go_halN rfl ?_) | (with_reducible refine go_t d0 ?_) | (with_reducible refine go_f d0 ?_) | ((with_reducible refine go_t ?_ ?_); (show _ = true; rfl)) | ((with_reducible refine go_f ?_ ?_); (show _ = false; rfl)) | (with_reducible refine go_ne ?_) | (with_reducible refine go_eq ?_) | (with_reducible refine go_fad ?_) | (with_reducible refine go_nil ?_))
      rfl
    have g5 := fun R KN => p5_eq k q2 c2 B2.shows.1 (by omega) R KN
    have h8 : sz (fnB b t) ≠ 7 := by
      rw [hfn, sz_snoc]
      have hpw : 2 ^ (sz b - t.length) = 2 * 2 ^ (sz b - t.length - 1) := by rw [← Nat.pow_succ']; congr 1; omega
      rw [if_neg]
      · omega
      · intro hh
        have h3 : val t * 2 ^ (sz b - t.length) = 255 := by omega
        rw [hpw, ← Nat.mul_assoc, Nat.mul_comm (val t) 2, Nat.mul_assoc] at h3
        omega
    have d7 : decide (sz (fnB b t) = 7) = false := decide_eq_false h8
    refine ⟨q2, c2, H2, fun R K => ?_, B2.shows.1, o2⟩
    unfold R09_Writer_Bytes R09_Writer_Bytes_b R09_Writer_Bytes_p0 R09_Writer_Bytes_p0_b
    repeat (first | ((with_reducible refine go_ip (x := ?_) ?_ ?_); rotate_left 1; (first  | exact m0 | rfl)) | ((with_reducible refine go_bp (x := ?_) ?_ ?_); rotate_left 1; (first  | exact m0 | rfl)) | ((with_reducible refine go_lp (x := ?_) (l := ?_) (c := ?_) ?_ ?_); rotate_left 3; (first  | exact m0 | rfl)) | ((with_reducible refine go_pp (x := ?_) ?_ ?_); rotate_left 1; (first  | exact m0 | rfl)) | ((with_reducible refine go_i (x := ?_) ?_ ?_); rotate_left 1; (first  | exact m0 | rfl)) | ((with_reducible refine go_b (x := ?_) ?_ ?_); rotate_left 1; (first  | exact m0 | rfl)) | ((with_reducible refine go_l (x := ?_) (l := ?_) (c := ?_) ?_ ?_); rotate_left 3; (first  | exact m0 | rfl)) | ((with_reducible refine go_p (x := ?_) ?_ ?_); rotate_left 1; (first  | exact m0 | rfl)) | ((with_reducible refine go_halst rfl ?_ ?_ ?_); rfl; rfl) | (with_reducible refine go_halN rfl ?_) | ((with_reducible refine go_t ?_ ?_); (show _ = true; rfl)) | ((with_reducible refine go_f ?_ ?_); (show _ = false; rfl)) | (with_reducible refine go_ne ?_) | (with_reducible refine go_eq ?_) | (with_reducible refine go_fad ?_) | (with_reducible refine go_nil ?_))
    refine (e1' _ _).trans ((e3 _ _).trans ((g5 _ _).trans ?_))
    repeat (first | ((with_reducible refine go_ip (x := ?_) ?_ ?_); rotate_left 1; (first  | rfl)) | ((with_reducible refine go_bp (x := ?_) ?_ ?_); rotate_left 1; (first  | rfl)) | ((with_reducible refine go_lp (x := ?_) (l := ?_) (c := ?_) ?_ ?_); rotate_left 3; (first  | rfl)) | ((with_reducible refine go_pp (x := ?_) ?_ ?_); rotate_left 1; (first  | rfl)) | ((with_reducible refine go_i (x := ?_) ?_ ?_); rotate_left 1; (first  | rfl)) | ((with_reducible refine go_b (x := ?_) ?_ ?_); rotate_left 1; (first  | rfl)) | ((with_reducible refine go_l (x := ?_) (l := ?_) (c := ?_) ?_ ?_); rotate_left 3; (first  | rfl)) | ((with_reducible refine go_p (x := ?_) ?_ ?_); rotate_left 1; (first  | rfl)) | ((with_reducible refine go_halst rfl ?_ ?_ ?_); rfl; rfl) | (with_reducible refine go_halN rfl ?_) | (with_reducible refine go_t d7 ?_) | (with_reducible refine go_f d7 ?_) | ((with_reducible refine go_t ?_ ?_); (show _ = true; rfl)) | ((with_reducible refine go_f ?_ ?_); (show _ = false; rfl)) | (with_reducible refine go_ne ?_) | (with_reducible refine go_eq ?_) | (with_reducible refine go_fad ?_) | (with_reducible refine go_nil ?_))
    rfl
end Go.Proofs.Ytblkejnciinaeaa.Sh
/- Bitio: one way to fill bytes; bytes that are the same. -/
set_option linter.unusedVariables false
set_option linter.unusedSimpArgs false
namespace Go.Proofs.Ytblkejnciinaeaa.Sh
open Go.Proofs.Ytblkejnciinaeaa.FW Go.IntWalk
def stp (s : List Int × List Int) : List Int × List Int := (s.1 ++ [((val (s.2.take (sz s.1)) : Nat) : Int)], s.2.drop (sz s.1))
def its : Nat → List Int × List Int → List Int × List Int
  | 0, s => s
  | n + 1, s => stp (its n s)
theorem its_full {b pre : List Int} (h : Full b pre) : ∀ t, its b.length ([], pre ++ t) = (b, t) := by
  induction h with
  | nil => intro t; rfl
  | @snoc b pre c hF hc ih =>
    intro t
    rw [show (b ++ [((val c : Nat) : Int)]).length = b.length + 1 from by simp, its, List.append_assoc, ih]
    unfold stp
    simp only
    rw [← hc, List.take_left, List.drop_left]
theorem its_more {b pre : List Int} (h : Full b pre) : ∀ t n, n < b.length → sz (its n ([], pre ++ t)).1 ≤ (its n ([], pre ++ t)).2.length := by
  induction h with
  | nil => intro t n hn; simp at hn
  | @snoc b pre c hF hc ih =>
    intro t n hn
    rw [List.append_assoc]
    simp only [List.length_append, List.length_cons, List.length_nil] at hn
    by_cases h1 : n < b.length
    · exact ih (c ++ t) n h1
    · have : n = b.length := by omega
      subst this
      rw [its_full hF]
      simp only [List.length_append]; omega
theorem full_uniq {b pre t b' pre' t' : List Int} (h : Full b pre) (h' : Full b' pre') (e : pre ++ t = pre' ++ t') (ht : t.length < sz b) (ht' : t'.length < sz b') : b = b' ∧ t = t' := by
  have e1 := its_full h t
  have e2 := its_full h' t'
  rcases Nat.lt_trichotomy b.length b'.length with hl | hl | hl
  · have := its_more h' t' b.length hl
    rw [← e, e1] at this
    simp only at this; omega
  · rw [e, hl, e2] at e1
    exact ⟨(congrArg Prod.fst e1).symm, (congrArg Prod.snd e1).symm⟩
  · have := its_more h t b'.length hl
    rw [e, e2] at this
    simp only at this; omega
theorem ba_beq (s : ByteArray) : (s == s) = true := by
  show (s.data == s.data) = true
  exact beq_self_eq_true _
theorem same_self {H : Heap} {q q2 : Option Addr} {l : List Int} (c c2 : Nat) (h : Shows H q (byt l)) (h2 : Shows H q2 (byt l)) (R : Type) (K : Bool → Option R) : R09_SameBytes q l.length c q2 l.length c2 H K = K true := by
  unfold R09_SameBytes R09_SameBytes_b
  refine (b2s_eq h _ _).trans ((b2s_eq h2 _ _).trans ?_)
  rw [ba_beq]
theorem Wr.keep {N : Nat} {H H' : Heap} {p : Nat} {q : Option Addr} {l : List Int} (h : Wr N H p q l) (o : Old H.length H H') : Wr N H' p q l := by
  obtain ⟨c, b, pre, t, e1, e2, e3, h1, h2, e4⟩ := h.c
  exact ⟨⟨c, b, pre, t, e1, e2, e3, h1.old o h1.lt, h2.old o (Nat.le_refl _), e4⟩, h.low, h.apt, h.b01⟩
theorem fnB_byte {b pre t : List Int} (h : Full b pre) (ht : t.length < sz b) : ∀ x ∈ fnB b t, 0 ≤ x ∧ x ≤ 255 := by
  have hs8 := sz_le b
  have hv := val_lt t
  have hby := h.byte
  intro x hx
  unfold fnB at hx
  split at hx
  · split at hx
    · rcases List.mem_append.1 hx with h1 | h1
      · exact hby x h1
      · simp only [List.mem_singleton] at h1; omega
    · exact hby x hx
  · have hlt : val t * 2 ^ (sz b - t.length) < 2 ^ sz b := by
      have h1 : val t * 2 ^ (sz b - t.length) < 2 ^ t.length * 2 ^ (sz b - t.length) := Nat.mul_lt_mul_of_pos_right hv (Nat.two_pow_pos _)
      rwa [← Nat.pow_add, show t.length + (sz b - t.length) = sz b from by omega] at h1
    have h28 : 2 ^ sz b ≤ 2 ^ 8 := Nat.pow_le_pow_right (by omega) hs8
    rcases List.mem_append.1 hx with h1 | h1
    · exact hby x h1
    · simp only [List.mem_singleton] at h1; omega
theorem fnB_len (b t : List Int) : (fnB b t).length ≤ b.length + 1 := by
  unfold fnB
  split
  · split
    · simp
    · omega
  · simp
end Go.Proofs.Ytblkejnciinaeaa.Sh
