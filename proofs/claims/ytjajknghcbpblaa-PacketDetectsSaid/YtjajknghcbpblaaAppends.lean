/- Closed forms of Append, of the code and of the reference. -/
import Derived.Test.YtjajknghcbpblaaFrames
namespace Go.Proofs.Ytjajknghcbpblaa.Arith
open Go.RowKit Go.Proofs.Ytjajknghcbpblaa.Q Go.Proofs.YtjajknghcbpblaaW.PrintWords Go.Proofs.YtjajknghcbpblaaW.PrintLast Go.Proofs.YtjajknghcbpblaaW.PrintMore

theorem splice_mid (P M S cs : List Int) (h : M.length = cs.length) (off : Nat) (ho : off = P.length) : Go.splice (P ++ (M ++ S)) off cs = P ++ (cs ++ S) := by
  subst ho
  unfold Go.splice
  rw [List.take_left', ← h, List.drop_append]
  · simp
  · rfl
theorem set_mid (P S : List Int) (m v : Int) (off : Nat) (ho : off = P.length) : (P ++ (m :: S)).set off v = P ++ (v :: S) := by
  subst ho
  rw [List.set_append_right _ _ (Nat.le_refl _), Nat.sub_self]
  rfl
theorem putU2 (P S : List Int) (m0 m1 v : Int) (off : Nat) (ho : off = P.length) : putU (P ++ (m0 :: m1 :: S)) off 2 v 2 = P ++ (v / 256 % 256 :: v % 256 :: S) := by
  show ((P ++ (m0 :: m1 :: S)).set (off + 0) (v / 2 ^ (8 * (2 - 1 - 0)) % 256)).set (off + 1) (v / 2 ^ (8 * (2 - 1 - 1)) % 256) = _
  rw [set_mid P _ m0 _ (off + 0) (by omega)]
  have := set_mid (P ++ [v / 2 ^ (8 * (2 - 1 - 0)) % 256]) S m1 (v / 2 ^ (8 * (2 - 1 - 1)) % 256) (off + 1) (by simp; omega)
  simp only [List.append_assoc, List.cons_append, List.nil_append] at this
  rw [this]
  simp
theorem putU4 (P S : List Int) (m0 m1 m2 m3 v : Int) (off : Nat) (ho : off = P.length) : putU (P ++ (m0 :: m1 :: m2 :: m3 :: S)) off 4 v 4 = P ++ (v / 16777216 % 256 :: v / 65536 % 256 :: v / 256 % 256 :: v % 256 :: S) := by
  show ((((P ++ (m0 :: m1 :: m2 :: m3 :: S)).set (off + 0) (v / 2 ^ (8 * (4 - 1 - 0)) % 256)).set (off + 1) (v / 2 ^ (8 * (4 - 1 - 1)) % 256)).set (off + 2) (v / 2 ^ (8 * (4 - 1 - 2)) % 256)).set (off + 3) (v / 2 ^ (8 * (4 - 1 - 3)) % 256) = _
  rw [set_mid P _ m0 _ (off + 0) (by omega)]
  have h1 := set_mid (P ++ [v / 2 ^ (8 * (4 - 1 - 0)) % 256]) (m2 :: m3 :: S) m1 (v / 2 ^ (8 * (4 - 1 - 1)) % 256) (off + 1) (by simp; omega)
  have h2 := set_mid (P ++ [v / 2 ^ (8 * (4 - 1 - 0)) % 256, v / 2 ^ (8 * (4 - 1 - 1)) % 256]) (m3 :: S) m2 (v / 2 ^ (8 * (4 - 1 - 2)) % 256) (off + 2) (by simp; omega)
  have h3 := set_mid (P ++ [v / 2 ^ (8 * (4 - 1 - 0)) % 256, v / 2 ^ (8 * (4 - 1 - 1)) % 256, v / 2 ^ (8 * (4 - 1 - 2)) % 256]) S m3 (v / 2 ^ (8 * (4 - 1 - 3)) % 256) (off + 3) (by simp; omega)
  simp only [List.append_assoc, List.cons_append, List.nil_append] at h1 h2 h3
  rw [h1, h2, h3]
  simp

/-- The bytes behind the marker. -/
def RST (hd bd : List Int) (fence : Bool) : List Int := if fence = true then hd ++ ([255, 180] ++ bd) else hd ++ bd
/-- The first ten bytes of the marker. -/
def TEN (seq n c : Int) : List Int := [255, 179, seq / 256 % 256, seq % 256, n / 16777216 % 256, n / 65536 % 256, n / 256 % 256, n % 256, c / 256 % 256, c % 256]
def MRK (seq n c : Int) : List Int := [255, 179, seq / 256 % 256, seq % 256, n / 16777216 % 256, n / 65536 % 256, n / 256 % 256, n % 256, c / 256 % 256, c % 256, chk 0 (TEN seq n c)]
/-- What Append makes. -/
def AP (b rest : List Int) (sync : Bool) (seq : Int) : List Int := if sync = true then b ++ (MRK seq (rest.length : Int) ((crc rest : Nat) : Int) ++ rest) else b ++ rest

theorem rep2 (n m : Nat) : List.replicate (n + m) (0 : Int) = List.replicate n 0 ++ List.replicate m 0 := (List.replicate_append_replicate).symm
theorem rep0 (n m : Nat) (h : n = m) : List.replicate n (0 : Int) = List.replicate m 0 := by rw [h]

theorem l_ff (b hd bd : List Int) : packet_Append.l_ff b hd bd = AP b (RST hd bd false) false 0 := by
  unfold packet_Append.l_ff AP RST
  rw [if_neg (by decide), if_neg (by decide), rep2, rep2]
  have h1 := splice_mid [] (List.replicate b.length 0) (List.replicate hd.length 0 ++ List.replicate bd.length 0) b (by simp) 0 rfl
  have h2 := splice_mid b (List.replicate hd.length 0) (List.replicate bd.length 0) hd (by simp) b.length rfl
  have h3 := splice_mid (b ++ hd) (List.replicate bd.length 0) [] bd (by simp) (b.length + hd.length) (by simp)
  simp only [List.nil_append, List.append_nil, List.append_assoc] at h1 h2 h3
  rw [h1, h2, h3]
theorem l_ft (b hd bd : List Int) : packet_Append.l_ft b hd bd = AP b (RST hd bd true) false 0 := by
  unfold packet_Append.l_ft AP RST
  rw [if_neg (by decide), if_pos rfl, rep0 _ (b.length + (hd.length + (2 + bd.length))) (by omega), rep2, rep2, rep2]
  have h1 := splice_mid [] (List.replicate b.length 0) (List.replicate hd.length 0 ++ (List.replicate 2 0 ++ List.replicate bd.length 0)) b (by simp) 0 rfl
  have h2 := splice_mid b (List.replicate hd.length 0) (List.replicate 2 0 ++ List.replicate bd.length 0) hd (by simp) b.length rfl
  have h3 := putU2 (b ++ hd) (List.replicate bd.length 0) 0 0 65460 (b.length + hd.length) (by simp)
  have h4 := splice_mid (b ++ (hd ++ [255, 180])) (List.replicate bd.length 0) [] bd (by simp) (b.length + hd.length + 2) (by simp; omega)
  simp only [List.nil_append, List.append_nil, List.append_assoc, Int.reduceDiv, Int.reduceMod, List.cons_append] at h1 h2 h3 h4
  rw [h1, h2]
  show Go.splice (putU (b ++ (hd ++ (0 :: 0 :: List.replicate bd.length 0))) (b.length + hd.length) 2 65460 2) (b.length + hd.length + 2) bd = _
  rw [h3, h4]
  rfl
theorem mark_in (b rest : List Int) (seq n : Int) : putU (putU (putU (b ++ (List.replicate 11 0 ++ rest)) b.length 2 65459 2) (b.length + 2) 2 seq 2) (b.length + 4) 4 n 4 = b ++ ([255, 179, seq / 256 % 256, seq % 256, n / 16777216 % 256, n / 65536 % 256, n / 256 % 256, n % 256, 0, 0, 0] ++ rest) := by
  have h1 := putU2 b (0 :: 0 :: 0 :: 0 :: 0 :: 0 :: 0 :: 0 :: 0 :: rest) 0 0 65459 b.length rfl
  have h2 := putU2 (b ++ [255, 179]) (0 :: 0 :: 0 :: 0 :: 0 :: 0 :: 0 :: rest) 0 0 seq (b.length + 2) (by simp)
  have h3 := putU4 (b ++ [255, 179, seq / 256 % 256, seq % 256]) (0 :: 0 :: 0 :: rest) 0 0 0 0 n (b.length + 4) (by simp)
  simp only [List.nil_append, List.append_assoc, Int.reduceDiv, Int.reduceMod, List.cons_append] at h1 h2 h3
  show putU (putU (putU (b ++ (0 :: 0 :: 0 :: 0 :: 0 :: 0 :: 0 :: 0 :: 0 :: 0 :: 0 :: rest)) b.length 2 65459 2) (b.length + 2) 2 seq 2) (b.length + 4) 4 n 4 = _
  rw [h1, h2, h3]
  rfl
theorem mark_crc (b rest : List Int) (seq n c : Int) : putU (b ++ ([255, 179, seq / 256 % 256, seq % 256, n / 16777216 % 256, n / 65536 % 256, n / 256 % 256, n % 256, 0, 0, 0] ++ rest)) (b.length + 8) 2 c 2 = b ++ (TEN seq n c ++ (0 :: rest)) := by
  have h1 := putU2 (b ++ [255, 179, seq / 256 % 256, seq % 256, n / 16777216 % 256, n / 65536 % 256, n / 256 % 256, n % 256]) (0 :: rest) 0 0 c (b.length + 8) (by simp)
  simp only [List.append_assoc, List.cons_append, List.nil_append] at h1 ⊢
  rw [h1]
  rfl
theorem m_tf (b hd bd : List Int) (seq : Int) : packet_Append.m_tf b hd bd seq = b ++ ([255, 179, seq / 256 % 256, seq % 256, ((RST hd bd false).length : Int) / 16777216 % 256, ((RST hd bd false).length : Int) / 65536 % 256, ((RST hd bd false).length : Int) / 256 % 256, ((RST hd bd false).length : Int) % 256, 0, 0, 0] ++ RST hd bd false) := by
  unfold packet_Append.m_tf
  rw [rep0 _ (b.length + (11 + (hd.length + bd.length))) (by omega), rep2, rep2, rep2]
  have h1 := splice_mid [] (List.replicate b.length 0) (List.replicate 11 0 ++ (List.replicate hd.length 0 ++ List.replicate bd.length 0)) b (by simp) 0 rfl
  have h2 := splice_mid (b ++ List.replicate 11 0) (List.replicate hd.length 0) (List.replicate bd.length 0) hd (by simp) (b.length + 11) (by simp)
  have h3 := splice_mid (b ++ (List.replicate 11 0 ++ hd)) (List.replicate bd.length 0) [] bd (by simp) (b.length + 11 + hd.length) (by simp; omega)
  simp only [List.nil_append, List.append_nil, List.append_assoc] at h1 h2 h3
  have hl : ((RST hd bd false).length : Int) = (hd.length : Int) + (bd.length : Int) := by simp [RST]
  rw [h1, h2, h3, hl]
  exact mark_in b (hd ++ bd) seq _
theorem m_tt (b hd bd : List Int) (seq : Int) : packet_Append.m_tt b hd bd seq = b ++ ([255, 179, seq / 256 % 256, seq % 256, ((RST hd bd true).length : Int) / 16777216 % 256, ((RST hd bd true).length : Int) / 65536 % 256, ((RST hd bd true).length : Int) / 256 % 256, ((RST hd bd true).length : Int) % 256, 0, 0, 0] ++ RST hd bd true) := by
  unfold packet_Append.m_tt
  rw [rep0 _ (b.length + (11 + (hd.length + (2 + bd.length)))) (by omega), rep2, rep2, rep2, rep2]
  have h1 := splice_mid [] (List.replicate b.length 0) (List.replicate 11 0 ++ (List.replicate hd.length 0 ++ (List.replicate 2 0 ++ List.replicate bd.length 0))) b (by simp) 0 rfl
  have h2 := splice_mid (b ++ List.replicate 11 0) (List.replicate hd.length 0) (List.replicate 2 0 ++ List.replicate bd.length 0) hd (by simp) (b.length + 11) (by simp)
  have h3 := putU2 (b ++ (List.replicate 11 0 ++ hd)) (List.replicate bd.length 0) 0 0 65460 (b.length + 11 + hd.length) (by simp; omega)
  have h4 := splice_mid (b ++ (List.replicate 11 0 ++ (hd ++ [255, 180]))) (List.replicate bd.length 0) [] bd (by simp) (b.length + 11 + hd.length + 2) (by simp; omega)
  simp only [List.nil_append, List.append_nil, List.append_assoc, Int.reduceDiv, Int.reduceMod, List.cons_append] at h1 h2 h3 h4
  have hl : ((RST hd bd true).length : Int) = (hd.length : Int) + (bd.length : Int) + 2 := by simp [RST]; omega
  rw [h1, h2, hl]
  show putU (putU (putU (Go.splice (putU (b ++ (List.replicate 11 0 ++ (hd ++ (0 :: 0 :: List.replicate bd.length 0)))) (b.length + 11 + hd.length) 2 65460 2) (b.length + 11 + hd.length + 2) bd) b.length 2 65459 2) (b.length + 2) 2 seq 2) (b.length + 4) 4 ((hd.length : Int) + (bd.length : Int) + 2) 4 = _
  rw [h3, h4]
  exact mark_in b (hd ++ (255 :: 180 :: bd)) seq _
theorem RST_by {hd bd : List Int} (h1 : By hd) (h2 : By bd) (fence : Bool) : By (RST hd bd fence) := by
  unfold RST
  cases fence
  · exact h1.app h2
  · refine h1.app (By.app (fun x hx => ?_) h2)
    simp at hx
    omega
/-- From the filled list on: the CRC-16, then the check byte. -/
theorem append_tail (b rest : List Int) (seq : Int) (hb : By rest) (hl : rest.length ≤ 140737488351232) (r : Nat) (hr : r = rest.length) {k : Nat} (hk : 10 * rest.length + 12 ≤ k) (M : List Int) (C' : Int → List Int) (hC : ∀ c, C' c = putU M (b.length + 8) 2 c 2)
    (hM : M = b ++ ([255, 179, seq / 256 % 256, seq % 256, (rest.length : Int) / 16777216 % 256, (rest.length : Int) / 65536 % 256, (rest.length : Int) / 256 % 256, (rest.length : Int) % 256, 0, 0, 0] ++ rest)) :
    ((packet_Checksum.f k ((M.drop (b.length + 11)).take r)).bind fun crc => ((packet_check.f k (((C' crc).drop b.length).take 11)).bind fun ck => some ((C' crc).set (b.length + 10) ck, (0 : Int)))) = some (AP b rest true seq, 0) := by
  have e1 : (M.drop (b.length + 11)).take r = rest := by
    rw [hM, hr, ← List.drop_drop, List.drop_left']
    · simp
    · rfl
  rw [e1, checksum_f hb (by omega) (by omega), Option.bind_some, hC, hM, mark_crc]
  have e2 : ((b ++ (TEN seq (rest.length : Int) ((crc rest : Nat) : Int) ++ (0 :: rest))).drop b.length).take 11 = TEN seq (rest.length : Int) ((crc rest : Nat) : Int) ++ [0] := by
    rw [List.drop_left' rfl]
    rfl
  rw [e2, check_f (by simp [TEN]) (by omega), Option.bind_some]
  have e3 : (TEN seq (rest.length : Int) ((crc rest : Nat) : Int) ++ [0]).take 10 = TEN seq (rest.length : Int) ((crc rest : Nat) : Int) := rfl
  rw [e3]
  have h := set_mid (b ++ TEN seq (rest.length : Int) ((crc rest : Nat) : Int)) rest 0 (chk 0 (TEN seq (rest.length : Int) ((crc rest : Nat) : Int))) (b.length + 10) (by simp [TEN])
  simp only [List.append_assoc] at h
  rw [h]
  rfl
theorem append_code (b hd bd : List Int) (h0 h1 h2 h3 : Int) (sync fence : Bool) (seq : Int) (hh : By hd) (hbd : By bd) (hs : 0 ≤ seq ∧ seq ≤ 65535) (hl : hd.length + bd.length ≤ 2000) (hb : b.length ≤ 1000) {k : Nat} (hk : 20040 ≤ k) :
    packet_Append.f k b h0 h1 h2 h3 hd bd sync fence seq = some (AP b (RST hd bd fence) sync seq, 0) := by
  unfold packet_Append.f
  rw [if_neg (by omega), if_neg (by omega), if_neg (by omega), if_neg (by omega), if_pos (by omega)]
  cases sync with
  | false =>
    rw [if_neg (by decide)]
    cases fence with
    | false => rw [if_neg (by decide), l_ff]; rfl
    | true => rw [if_pos rfl, l_ft]; rfl
  | true =>
    rw [if_pos rfl]
    cases fence with
    | false =>
      have e : (RST hd bd false).length = hd.length + bd.length := by simp [RST]
      rw [if_neg (by decide)]
      exact append_tail b (RST hd bd false) seq (RST_by hh hbd _) (by omega) _ e.symm (by omega) _ (fun c => packet_Append.c_tf b hd bd seq c) (fun c => rfl) (m_tf b hd bd seq)
    | true =>
      have e : (RST hd bd true).length = hd.length + bd.length + 2 := by simp [RST]; omega
      rw [if_pos rfl]
      exact append_tail b (RST hd bd true) seq (RST_by hh hbd _) (by omega) _ e.symm (by omega) _ (fun c => packet_Append.c_tt b hd bd seq c) (fun c => rfl) (m_tt b hd bd seq)
theorem append_range (b hd bd : List Int) (h0 h1 h2 h3 : Int) (sync fence : Bool) (seq : Int) (hs : seq < 0 ∨ 65535 < seq) (k : Nat) : packet_Append.f k b h0 h1 h2 h3 hd bd sync fence seq = some ([], 2) := by
  unfold packet_Append.f
  by_cases c : seq < 0
  · rw [if_pos c]
  · rw [if_neg c, if_pos (by omega)]

/-! the reference -/
theorem ref_append_j1 (b rest0 bd : List Int) (h0 h1 h2 h3 : Int) (hd : List Int) (sync : Bool) (seq : Int) (hb : b.length ≤ 1000) (hl : (rest0 ++ bd).length ≤ 2002) (hr : By (rest0 ++ bd)) {k : Nat} (hk : 20032 ≤ k) :
    waveletref27_Append.j1 (k + 1) b sync seq rest0 h0 h1 h2 h3 hd bd = some (AP b (rest0 ++ bd) sync seq, 0) := by
  have hl' : rest0.length + bd.length ≤ 2002 := by simpa using hl
  rw [waveletref27_Append.j1, if_pos (by omega), Option.bind_some, Option.bind_some, if_pos (by simp; omega), Option.bind_some, List.nil_append]
  generalize rest0 ++ bd = rest at hl hr
  unfold AP
  cases sync with
  | false =>
    rw [if_neg (show ¬ (false = true) by decide), if_pos (by omega), if_neg (show ¬ (false = true) by decide)]
  | true =>
    rw [if_pos rfl, if_pos rfl, ref_checksum_f hr (by omega) (by omega), Option.bind_some, Option.bind_some]
    show (if b.length + (TEN seq (rest.length : Int) ((crc rest : Nat) : Int)).length < 140737488355328 then ((some (b ++ TEN seq (rest.length : Int) ((crc rest : Nat) : Int))).bind _ : Option (List Int × Int)) else none) = _
    have ht : (TEN seq (rest.length : Int) ((crc rest : Nat) : Int)).length = 10 := rfl
    have e10 : ((b ++ TEN seq (rest.length : Int) ((crc rest : Nat) : Int)).drop b.length).take 10 = TEN seq (rest.length : Int) ((crc rest : Nat) : Int) := by
      rw [List.drop_left' rfl]
      rfl
    rw [if_pos (by omega), Option.bind_some, List.length_append, ht, wid (by omega) (by omega), show ((b.length + 10 : Nat) : Int) - 10 = ((b.length : Nat) : Int) by omega, ref_check_f (by rw [List.length_append, ht]; omega) (by rw [List.length_append, ht]; omega) (by omega), Option.bind_some, e10]
    rw [if_pos (by omega), Option.bind_some, if_pos (by rw [List.length_append, List.length_append, ht]; simp; omega)]
    simp [MRK, TEN]
theorem ref_append (b hd bd : List Int) (h0 h1 h2 h3 : Int) (sync fence : Bool) (seq : Int) (hh : By hd) (hbd : By bd) (hs : 0 ≤ seq ∧ seq ≤ 65535) (hl : hd.length + bd.length ≤ 2000) (hb : b.length ≤ 1000) {k : Nat} (hk : 20040 ≤ k) :
    waveletref27_Append.f k b h0 h1 h2 h3 hd bd sync fence seq = some (AP b (RST hd bd fence) sync seq, 0) := by
  obtain ⟨k, rfl⟩ : ∃ n, k = n + 1 + 1 := ⟨k - 2, by omega⟩
  unfold waveletref27_Append.f
  rw [if_neg (by omega), waveletref27_Append.j0, if_neg (by rw [decide_eq_false (by omega)]; decide), wid (by omega) (by omega), if_neg (by omega), Option.bind_some, if_pos (by simp; omega), Option.bind_some, List.nil_append]
  have hB := RST_by hh hbd fence
  cases fence with
  | false =>
    rw [if_neg (by decide)]
    exact ref_append_j1 b hd bd h0 h1 h2 h3 hd sync seq hb (by simp; omega) hB (by omega)
  | true =>
    rw [if_pos rfl, Option.bind_some, if_pos (by simp; omega)]
    have e : RST hd bd true = (hd ++ [255, 180]) ++ bd := by simp [RST]
    rw [e] at hB ⊢
    exact ref_append_j1 b (hd ++ [255, 180]) bd h0 h1 h2 h3 hd sync seq hb (by simp; omega) hB (by omega)
theorem ref_append_range (b hd bd : List Int) (h0 h1 h2 h3 : Int) (sync fence : Bool) (seq : Int) (hs : seq < 0 ∨ 65535 < seq) (k : Nat) : waveletref27_Append.f (k + 1) b h0 h1 h2 h3 hd bd sync fence seq = some ([], 2) := by
  unfold waveletref27_Append.f
  by_cases c : seq < 0
  · rw [if_pos c, waveletref27_Append.j0, if_pos rfl]
  · rw [if_neg c, waveletref27_Append.j0, decide_eq_true (show seq > 65535 by omega), if_pos rfl]
theorem same_self (l : List Int) : waveletref27_SameBytes.f l l = some true := by
  unfold waveletref27_SameBytes.f
  simp
theorem PacketAppends_pure (b hd bd : List Int) (h0 h1 h2 h3 : Int) (sync fence : Bool) (seq : Int) (hh : ∀ x ∈ hd, (Lit.int .u8 x).wf = true) (hbd : ∀ x ∈ bd, (Lit.int .u8 x).wf = true) (hl : hd.length ≤ 140737488351232) (hl' : bd.length ≤ 140737488351232) :
    ∃ k, waveletlaw27_PacketAppends.f k b h0 h1 h2 h3 hd bd sync fence seq = some true := by
  refine ⟨20100, ?_⟩
  unfold waveletlaw27_PacketAppends.f
  rw [wid (by omega) (by omega)]
  have ex : ∀ k, 400 ≤ k → ((waveletlaw27_exampleHolds.f k).bind fun t => some t) = some true := fun k hk => by rw [example_at hk]; rfl
  by_cases c1 : (b.length : Int) > 1000
  · rw [if_pos c1]
    rw [waveletlaw27_PacketAppends.j0, if_pos rfl]
    exact ex _ (by decide)
  · rw [if_neg c1]
    rw [waveletlaw27_PacketAppends.j0]
    by_cases c2 : (hd.length : Int) + (bd.length : Int) > 2000
    · rw [if_pos (decide_eq_true c2)]
      exact ex _ (by decide)
    · rw [if_neg (by rw [decide_eq_false c2]; decide), Option.bind_some, if_pos (by simp; omega), Option.bind_some, List.nil_append]
      by_cases c3 : 0 ≤ seq ∧ seq ≤ 65535
      · rw [append_code b hd bd h0 h1 h2 h3 sync fence seq (By.of hh) (By.of hbd) c3 (by omega) (by omega) (by decide), Option.bind_some, ref_append b hd bd h0 h1 h2 h3 sync fence seq (By.of hh) (By.of hbd) c3 (by omega) (by omega) (by decide), Option.bind_some]
        rw [same_self, Option.bind_some, if_pos rfl, if_pos rfl, same_self, Option.bind_some, if_pos rfl]
        exact ex _ (by decide)
      · rw [append_range b hd bd h0 h1 h2 h3 sync fence seq (by omega) _, Option.bind_some, ref_append_range b hd bd h0 h1 h2 h3 sync fence seq (by omega) _, Option.bind_some]
        rw [same_self, Option.bind_some, if_pos rfl, if_pos rfl, same_self, Option.bind_some, if_pos rfl]
        exact ex _ (by decide)
end Go.Proofs.Ytjajknghcbpblaa.Arith
