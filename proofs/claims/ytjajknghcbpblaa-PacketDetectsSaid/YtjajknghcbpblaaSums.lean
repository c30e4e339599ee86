/- Closed forms of the checksums, check bytes and numbers of the code and of the reference. No program in sight but its printed functions. -/
import Derived.Test.YtjajknghcbpblaaCrc
namespace Go.Proofs.Ytjajknghcbpblaa.Arith
open Go.RowKit Go.Proofs.Ytjajknghcbpblaa.Q Go.Proofs.YtjajknghcbpblaaW.PrintWords Go.Proofs.YtjajknghcbpblaaW.PrintLast Go.Proofs.YtjajknghcbpblaaW.PrintMore

theorem drop_cons {l : List Int} {i : Nat} (h : i < l.length) : l.drop i = l.getD i 0 :: l.drop (i + 1) := by
  rw [List.drop_eq_getElem_cons h, List.getD_eq_getElem?_getD, List.getElem?_eq_getElem h]
  rfl
theorem rd_nat (l : List Int) (i : Nat) : rd l (i : Int) = l.getD i 0 := rfl

/-! the code's checksum -/
theorem code_byte (l : List Int) (len i : Int) (j : Nat) (hj : j ≤ 8) (n k : Nat) (hn : n < 65536) :
    packet_Checksum.l1 (k + j + 1) (n : Int) l len i ((8 - j : Nat) : Int) = packet_Checksum.l0 k ((cit j n : Nat) : Int) l len (wrap64 (i + 1)) := by
  induction j generalizing n with
  | zero =>
    rw [packet_Checksum.l1]
    rw [if_neg (by omega)]
    rfl
  | succ j ih =>
    rw [show k + (j + 1) + 1 = (k + j + 1) + 1 by omega]
    rw [packet_Checksum.l1]
    rw [if_pos (by omega), wid (x := (n : Int) * 2) (by omega) (by omega), wid (x := ((8 - (j + 1) : Nat) : Int) + 1) (by omega) (by omega), show ((8 - (j + 1) : Nat) : Int) + 1 = ((8 - j : Nat) : Int) by omega, show (n : Int) * 2 = ((n * 2 : Nat) : Int) by omega]
    have ea := band (n * 2) 65536 (by omega) (by decide)
    have ex := bxor (n * 2) 69665 (by omega) (by decide)
    rw [show ((65536 : Nat) : Int) = 65536 from rfl] at ea
    rw [show ((69665 : Nat) : Int) = 69665 from rfl] at ex
    rw [ea, ex, and_bit (n * 2) (by omega)]
    have es := step_code n hn
    by_cases a : 32768 ≤ n
    · rw [if_pos a] at es
      rw [show (if 65536 ≤ n * 2 then 65536 else 0 : Nat) = 65536 from if_pos (by omega), if_neg (show ¬ ((65536 : Nat) : Int) = 0 by decide), es, ih (by omega) _ (cst_lt n)]
      rfl
    · rw [if_neg a] at es
      rw [show (if 65536 ≤ n * 2 then 65536 else 0 : Nat) = 0 from if_neg (by omega), if_pos (show ((0 : Nat) : Int) = 0 by decide), es, ih (by omega) _ (cst_lt n)]
      rfl
theorem code_sum_l (l : List Int) (hl : By l) (hm : l.length ≤ 9223372036854775806) (m : Nat) : ∀ (i n : Nat), n < 65536 → l.length - i = m → i ≤ l.length → packet_Checksum.l0 (10 * m + 1) (n : Int) l (l.length : Int) (i : Int) = some ((crcL n (l.drop i) : Nat) : Int) := by
  induction m with
  | zero =>
    intro i n hn hi h
    rw [packet_Checksum.l0]
    rw [if_neg (by omega), show i = l.length by omega, List.drop_length]
    rfl
  | succ m ih =>
    intro i n hn hi h
    have hb := hl.at i
    rw [show 10 * (m + 1) + 1 = ((10 * m + 1) + 8 + 1) + 1 by omega]
    rw [packet_Checksum.l0]
    rw [if_pos (by omega), if_pos (by omega), if_pos (by omega), rd_nat, wid (x := l.getD i 0) (by omega) (by omega), wid (x := l.getD i 0 * 256) (by omega) (by omega)]
    have e : l.getD i 0 * 256 = (((l.getD i 0).toNat * 256 : Nat) : Int) := by omega
    have eb := code_byte l (l.length : Int) (i : Int) 8 (by decide) (n ^^^ (l.getD i 0).toNat * 256) (10 * m + 1) (cb_in hn hb.2)
    rw [show ((8 - 8 : Nat) : Int) = 0 from rfl] at eb
    rw [e, bxor n _ (by omega) (by omega), eb, wid (by omega) (by omega), show (i : Int) + 1 = ((i + 1 : Nat) : Int) by omega]
    show packet_Checksum.l0 (10 * m + 1) ((cb n (l.getD i 0) : Nat) : Int) l (l.length : Int) ((i + 1 : Nat) : Int) = _
    rw [ih (i + 1) _ (cb_lt hn hb.2) (by omega) (by omega), drop_cons (i := i) (by omega)]
    rfl
/-- the CRC-16 of bytes -/
def crc (l : List Int) : Nat := crcL 65535 l
theorem crc_lt {l : List Int} (h : By l) : crc l < 65536 := crcL_lt _ (by decide) h
theorem checksum_f {l : List Int} (hl : By l) (hm : l.length ≤ 9223372036854775806) {k : Nat} (hk : 10 * l.length + 1 ≤ k) : packet_Checksum.f k l = some ((crc l : Nat) : Int) := by
  have h := code_sum_l l hl hm l.length 0 65535 (by decide) (by omega) (by omega)
  exact at_rounds (g := fun k => packet_Checksum.f k l) (packet_Checksum.mono l) hk h

/-! the reference's checksum -/
theorem ref_bit (r x : Nat) (j : Nat) (hj : j < 8) (hx : x < 256) (hr : r < 65536) : (Go.bits .xor .i64 ((r : Int) / 32768) (Go.bits .and .i64 (shr .i64 (wrap64 ((x : Nat) : Int)) (IntKind.u64.wrap ((j : Nat) : Int))) 1)) = ((r / 32768 ^^^ (x / 2 ^ j % 2) : Nat) : Int) := by
  have hu : IntKind.u64.wrap ((j : Nat) : Int) = ((j : Nat) : Int) := by
    simp [IntKind.wrap, IntKind.bits, IntKind.signed]
    omega
  rw [hu, wid (by omega) (by omega)]
  unfold shr
  rw [Int.toNat_natCast, Nat.min_eq_left (by show j ≤ 64; omega)]
  have e : ((x : Nat) : Int) / 2 ^ j = ((x / 2 ^ j : Nat) : Int) := by
    rw [Int.natCast_ediv]
    simp
  have hlt : x / 2 ^ j ≤ x := Nat.div_le_self _ _
  have eb := band (x / 2 ^ j) 1 (by omega) (by decide)
  rw [show ((1 : Nat) : Int) = 1 from rfl] at eb
  rw [e, eb, Nat.and_one_is_mod]
  have ex := bxor (r / 32768) (x / 2 ^ j % 2) (by omega) (by omega)
  rw [← ex]
  congr 1
theorem ref_byte (l : List Int) (len i : Int) (x : Nat) (hx : x < 256) (j : Nat) (hj : j ≤ 8) (r k : Nat) (hr : r < 65536) :
    waveletref27_Checksum.l1 (k + j + 1) (r : Int) (x : Int) ((j : Int) - 1) l len i = waveletref27_Checksum.l0 k ((cit j (r ^^^ (x * 2 ^ (16 - j) % 65536)) : Nat) : Int) l len (wrap64 (i + 1)) := by
  induction j generalizing r with
  | zero =>
    rw [waveletref27_Checksum.l1]
    rw [if_neg (by omega), show x * 2 ^ (16 - 0) % 65536 = 0 by omega, Nat.xor_zero]
    rfl
  | succ j ih =>
    rw [show k + (j + 1) + 1 = (k + j + 1) + 1 by omega]
    rw [waveletref27_Checksum.l1]
    rw [show ((j + 1 : Nat) : Int) - 1 = (j : Int) by omega, if_pos (by omega)]
    have hu : IntKind.u64.wrap ((j : Nat) : Int) = ((j : Nat) : Int) := by
      simp [IntKind.wrap, IntKind.bits, IntKind.signed]
      omega
    rw [if_pos (by rw [hu]; omega), ref_bit r x j (by omega) hx hr, wid (x := (r : Int) * 2) (by omega) (by omega), wid (x := (j : Int) - 1) (by omega) (by omega), show (r : Int) * 2 = ((r * 2 : Nat) : Int) by omega]
    have ea := band (r * 2) 65535 (by omega) (by decide)
    rw [show ((65535 : Nat) : Int) = 65535 from rfl, show (65535 : Nat) = 2 ^ 16 - 1 from rfl, Nat.and_two_pow_sub_one_eq_mod] at ea
    have ex := bxor (r * 2 % 2 ^ 16) 4129 (by omega) (by decide)
    rw [show ((4129 : Nat) : Int) = 4129 from rfl] at ex
    rw [ea, ex]
    have hy : x * 2 ^ (16 - (j + 1)) % 65536 < 65536 := Nat.mod_lt _ (by decide)
    have hb : x * 2 ^ (16 - (j + 1)) % 65536 / 32768 = x / 2 ^ j % 2 := by
      rcases (by omega : j = 0 ∨ j = 1 ∨ j = 2 ∨ j = 3 ∨ j = 4 ∨ j = 5 ∨ j = 6 ∨ j = 7) with rfl | rfl | rfl | rfl | rfl | rfl | rfl | rfl <;> simp only [Nat.reduceAdd, Nat.reduceSub, Nat.reducePow] <;> omega
    have hd : x * 2 ^ (16 - (j + 1)) % 65536 * 2 % 65536 = x * 2 ^ (16 - j) % 65536 := by
      rw [show 16 - j = (16 - (j + 1)) + 1 by omega, Nat.pow_succ, ← Nat.mul_assoc]
      omega
    have hs := step_ref r (x * 2 ^ (16 - (j + 1)) % 65536) hr hy
    rw [hb, hd] at hs
    show _ = waveletref27_Checksum.l0 k ((cit j (cst (r ^^^ (x * 2 ^ (16 - (j + 1)) % 65536))) : Nat) : Int) l len (wrap64 (i + 1))
    rw [hs]
    by_cases c : (r / 32768 ^^^ x / 2 ^ j % 2) = 1
    · rw [if_pos c, if_pos (by rw [c]; rfl)]
      exact ih (by omega) _ (Nat.xor_lt_two_pow (n := 16) (by omega) (by decide))
    · rw [if_neg c, if_neg (fun h => c (by exact_mod_cast h))]
      exact ih (by omega) _ (by omega)
theorem ref_sum_l (l : List Int) (hl : By l) (hm : l.length ≤ 9223372036854775806) (m : Nat) : ∀ (i n : Nat), n < 65536 → l.length - i = m → i ≤ l.length → waveletref27_Checksum.l0 (10 * m + 1) (n : Int) l (l.length : Int) (i : Int) = some ((crcL n (l.drop i) : Nat) : Int) := by
  induction m with
  | zero =>
    intro i n hn hi h
    rw [waveletref27_Checksum.l0]
    rw [if_neg (by omega), show i = l.length by omega, List.drop_length]
    rfl
  | succ m ih =>
    intro i n hn hi h
    have hb := hl.at i
    rw [show 10 * (m + 1) + 1 = ((10 * m + 1) + 8 + 1) + 1 by omega]
    rw [waveletref27_Checksum.l0]
    rw [if_pos (by omega), if_pos (by omega), if_pos (by omega), rd_nat]
    have e : l.getD i 0 = (((l.getD i 0).toNat : Nat) : Int) := by omega
    have eb := ref_byte l (l.length : Int) (i : Int) (l.getD i 0).toNat (by omega) 8 (by decide) n (10 * m + 1) hn
    rw [← e, show ((8 : Nat) : Int) - 1 = 7 by decide, show (l.getD i 0).toNat * 2 ^ (16 - 8) % 65536 = (l.getD i 0).toNat * 256 by omega] at eb
    rw [eb, wid (by omega) (by omega), show (i : Int) + 1 = ((i + 1 : Nat) : Int) by omega]
    show waveletref27_Checksum.l0 (10 * m + 1) ((cb n (l.getD i 0) : Nat) : Int) l (l.length : Int) ((i + 1 : Nat) : Int) = _
    rw [ih (i + 1) _ (cb_lt hn hb.2) (by omega) (by omega), drop_cons (i := i) (by omega)]
    rfl
theorem ref_checksum_f {l : List Int} (hl : By l) (hm : l.length ≤ 9223372036854775806) {k : Nat} (hk : 10 * l.length + 1 ≤ k) : waveletref27_Checksum.f k l = some ((crc l : Nat) : Int) := by
  have h := ref_sum_l l hl hm l.length 0 65535 (by decide) (by omega) (by omega)
  exact at_rounds (g := fun k => waveletref27_Checksum.f k l) (waveletref27_Checksum.mono l) hk h

theorem example_holds : waveletlaw27_exampleHolds.f 400 = some true := by kernel_rfl
theorem example_at {k : Nat} (hk : 400 ≤ k) : waveletlaw27_exampleHolds.f k = some true := at_rounds (g := waveletlaw27_exampleHolds.f) waveletlaw27_exampleHolds.mono hk example_holds
end Go.Proofs.Ytjajknghcbpblaa.Arith
