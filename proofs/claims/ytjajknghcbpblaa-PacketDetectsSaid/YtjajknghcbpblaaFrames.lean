/- Closed forms of Frame and Resync, of the code and of the reference. -/
import Derived.Test.YtjajknghcbpblaaQx7
import Derived.Test.YtjajknghcbpblaaSums
namespace Go.Proofs.Ytjajknghcbpblaa.Arith
open Go.RowKit Go.Proofs.Ytjajknghcbpblaa.Q Go.Proofs.YtjajknghcbpblaaW.PrintWords Go.Proofs.YtjajknghcbpblaaW.PrintLast Go.Proofs.YtjajknghcbpblaaW.PrintMore

/-- the check byte -/
def chk : Int → List Int → Int
  | s, [] => s
  | s, x :: t => chk ((s + x) % 256) t
/-- the number in bytes -/
def num : Int → List Int → Int
  | v, [] => v
  | v, x :: t => num (v * 256 + x) t
theorem bor (a b : Int) (ha : 0 ≤ a) (ha' : a < 2 ^ 54) (hb : 0 ≤ b ∧ b ≤ 255) : Go.bits .or .i64 (a * 256) b = a * 256 + b :=
  bits_join .i64 62 (by decide) (fun n h0 h1 => by rw [IntKind.wrap_i64]; omega) 8 (a * 256) b (by omega) (by omega) (by omega) hb.1 (by omega) (by omega)
theorem check_l (l : List Int) (hl : l.length ≤ 9223372036854775806) (m : Nat) : ∀ (i : Nat) (s : Int), l.length - i = m → i ≤ l.length → packet_check.l0 (m + 1) s l (l.length : Int) (i : Int) = some (chk s (l.drop i)) := by
  induction m with
  | zero =>
    intro i s hi h
    rw [packet_check.l0, if_neg (by omega), show i = l.length by omega, List.drop_length]
    rfl
  | succ m ih =>
    intro i s hi h
    rw [packet_check.l0, if_pos (by omega), if_pos (by omega), if_pos (by omega), rd_nat, wid (by omega) (by omega), show (i : Int) + 1 = ((i + 1 : Nat) : Int) by omega, ih (i + 1) _ (by omega) (by omega), drop_cons (i := i) (by omega)]
    rfl
theorem check_f {l : List Int} (hl : 10 ≤ l.length) {k : Nat} (hk : 11 ≤ k) : packet_check.f k l = some (chk 0 (l.take 10)) := by
  refine at_rounds (g := fun k => packet_check.f k l) (packet_check.mono l) hk ?_
  have e : (l.take 10).length = 10 := by simp; omega
  have h := check_l (l.take 10) (by omega) 10 0 0 (by omega) (by omega)
  show packet_check.f 11 l = _
  unfold packet_check.f
  rw [if_pos (by omega), Option.bind_some]
  exact h
theorem get_l (l : List Int) (hb : By l) (hl : l.length ≤ 4) (m : Nat) : ∀ (i : Nat) (v : Int), 0 ≤ v → v < 256 ^ i → l.length - i = m → i ≤ l.length → packet_get.l0 (m + 1) v l (l.length : Int) (i : Int) = some (num v (l.drop i)) := by
  induction m with
  | zero =>
    intro i v _ _ hi h
    rw [packet_get.l0, if_neg (by omega), show i = l.length by omega, List.drop_length]
    rfl
  | succ m ih =>
    intro i v h0 h1 hi h
    have hx := hb.at i
    have hv : v < 16777216 := by
      rcases (by omega : i = 0 ∨ i = 1 ∨ i = 2 ∨ i = 3) with rfl | rfl | rfl | rfl <;> omega
    have hp : (256 : Int) ^ (i + 1) = 256 ^ i * 256 := Int.pow_succ _ _
    rw [packet_get.l0, if_pos (by omega), if_pos (by omega), if_pos (by omega), rd_nat, wid (x := v * 256) (by omega) (by omega), wid (x := l.getD i 0) (by omega) (by omega), wid (by omega) (by omega), bor v _ h0 (by omega) hx, show (i : Int) + 1 = ((i + 1 : Nat) : Int) by omega, ih (i + 1) _ (by omega) (by omega) (by omega) (by omega), drop_cons (i := i) (by omega)]
    rfl
theorem get_f {l : List Int} (hb : By l) (hl : l.length ≤ 4) {k : Nat} (hk : 5 ≤ k) : packet_get.f k l = some (num 0 l) := by
  have h := get_l l hb hl l.length 0 0 (by decide) (by decide) (by omega) (by omega)
  exact at_rounds (g := fun k => packet_get.f k l) (packet_get.mono l) (k := l.length + 1) (by omega) h

/-- What Frame says of the eleven bytes m at 'a' and those behind them. -/
def FRm (rest : List Int) (len a : Int) (m : List Int) : Int × Int × Int × Int :=
  match m with
  | [g0, g1, g2, g3, g4, g5, g6, g7, g8, g9, g10] =>
    if g0 = 255 ∧ g1 = 179 then
      if g10 = chk 0 [g0, g1, g2, g3, g4, g5, g6, g7, g8, g9] then
        if len - a - 11 < num 0 [g4, g5, g6, g7] then (0, 0, 0, 7)
        else if ((crc (rest.take (num 0 [g4, g5, g6, g7]).toNat) : Nat) : Int) = num 0 [g8, g9] then (num 0 [g2, g3], a + 11, a + 11 + num 0 [g4, g5, g6, g7], 0) else (0, 0, 0, 17)
      else (0, 0, 0, 17)
    else (0, 0, 0, 11)
  | _ => (0, 0, 0, 7)
def FR (l : List Int) (a : Int) : Int × Int × Int × Int :=
  if a < 0 ∨ a > (l.length : Int) then (0, 0, 0, 2) else FRm (l.drop (a.toNat + 11)) (l.length : Int) a ((l.drop a.toNat).take 11)

theorem eleven {m : List Int} (h : m.length = 11) : ∃ g0 g1 g2 g3 g4 g5 g6 g7 g8 g9 g10, m = [g0, g1, g2, g3, g4, g5, g6, g7, g8, g9, g10] := by
  match m, h with
  | [g0, g1, g2, g3, g4, g5, g6, g7, g8, g9, g10], _ => exact ⟨_, _, _, _, _, _, _, _, _, _, _, rfl⟩
theorem getD_cut {l m : List Int} {a n : Nat} (e : (l.drop a).take n = m) (i : Nat) (hi : i < n) : l.getD (a + i) 0 = m.getD i 0 := by
  rw [← e, List.getD_eq_getElem?_getD, List.getD_eq_getElem?_getD, List.getElem?_take, if_pos hi, List.getElem?_drop]
theorem num2 (a b : Int) : num 0 [a, b] = a * 256 + b := by simp [num]
theorem num4 (a b c d : Int) : num 0 [a, b, c, d] = ((a * 256 + b) * 256 + c) * 256 + d := by simp [num]

theorem take_drop_cut (l : List Int) (a n : Nat) : (l.take (a + n)).drop a = (l.drop a).take n := by
  rw [List.drop_take, Nat.add_sub_cancel_left]
theorem rest_code {l : List Int} (hb : By l) (hl : l.length ≤ 140737488351232) (a n : Nat) (s : Int) {k : Nat} (hk : 10 * l.length + 1 ≤ k) :
    packet_rest.f k l (a : Int) ((a : Int) + (n : Int)) s = some (if (l.length : Int) < (a : Int) + (n : Int) then 7 else if ((crc ((l.drop a).take n) : Nat) : Int) = s then 0 else 17) := by
  unfold packet_rest.f
  by_cases c : (l.length : Int) < (a : Int) + (n : Int)
  · rw [if_pos (show (a : Int) + (n : Int) > (l.length : Int) from c), if_pos c]
  · rw [if_neg (show ¬ (a : Int) + (n : Int) > (l.length : Int) from c), if_neg c, if_pos (by omega), if_pos (by omega), if_pos (by omega), show ((a : Int) + (n : Int)).toNat = a + n by omega, Int.toNat_natCast, take_drop_cut]
    have hlen : ((l.drop a).take n).length ≤ l.length := by simp; omega
    rw [checksum_f ((hb.drop a).take n) (by omega) (by omega), Option.bind_some]
    by_cases d : ((crc ((l.drop a).take n) : Nat) : Int) = s
    · rw [if_pos d, if_pos d]
    · rw [if_neg d, if_neg d]
theorem frame_code {l : List Int} (hb : By l) (hl : l.length ≤ 140737488351232) (a : Int) (ha : -9223372036854775808 ≤ a) (ha' : a ≤ 9223372036854775807) {k : Nat} (hk : 10 * l.length + 20 ≤ k) : packet_Frame.f k l a = some (FR l a) := by
  obtain ⟨k, rfl⟩ : ∃ n, k = n + 1 := ⟨k - 1, by omega⟩
  unfold packet_Frame.f packet_mark.f FR
  by_cases c1 : a < 0
  · rw [if_pos c1, if_pos (.inl c1), packet_mark.j0, if_pos rfl]
    rfl
  by_cases c2 : a > (l.length : Int)
  · rw [if_neg c1, if_pos (.inr c2), packet_mark.j0, decide_eq_true c2, if_pos rfl]
    rfl
  rw [if_neg c1, if_neg (fun h => h.elim c1 c2), packet_mark.j0, decide_eq_false c2, if_neg (by decide), wid (x := (l.length : Int) - a) (by omega) (by omega)]
  obtain ⟨a, rfl⟩ := Int.eq_ofNat_of_zero_le (by omega : 0 ≤ a)
  rw [Int.toNat_natCast]
  have hlm : ((l.drop a).take 11).length = min 11 (l.length - a) := by simp
  by_cases c3 : (l.length : Int) - (a : Int) < 11
  · rw [if_pos c3]
    generalize e : (l.drop a).take 11 = m at hlm
    unfold FRm
    split
    · simp at hlm
      omega
    · rfl
  rw [if_neg c3, if_pos (by omega), wid (x := (a : Int) + 11) (by omega) (by omega), if_pos (by omega), if_pos (by omega), Option.bind_some, show ((a : Int) + 11).toNat = a + 11 by omega, take_drop_cut]
  have hbm : By ((l.drop a).take 11) := (hb.drop a).take 11
  obtain ⟨g0, g1, g2, g3, g4, g5, g6, g7, g8, g9, g10, e⟩ := eleven (by omega : ((l.drop a).take 11).length = 11)
  rw [e] at hbm ⊢
  have hg : ∀ x ∈ [g0, g1, g2, g3, g4, g5, g6, g7, g8, g9, g10], 0 ≤ x ∧ x ≤ 255 := hbm
  simp only [List.mem_cons, List.not_mem_nil, or_false, forall_eq_or_imp, forall_eq] at hg
  obtain ⟨b0, b1, b2, b3, b4, b5, b6, b7, b8, b9, b10⟩ := hg
  simp only [List.length_cons, List.length_nil, List.take_succ_cons, List.take_zero, List.drop_succ_cons, List.drop_zero, Nat.reduceAdd, Int.reduceLE, Int.reduceLT, if_true, Int.cast_ofNat_Int, Nat.reduceLeDiff]
  rw [get_f (l := [g0, g1]) (fun x hx => by simp at hx; rcases hx with rfl | rfl <;> assumption) (by simp) (by omega), Option.bind_some]
  unfold FRm
  simp only
  have en : num 0 [g0, g1] = 65459 ↔ g0 = 255 ∧ g1 = 179 := by
    rw [num2]
    omega
  by_cases c4 : g0 = 255 ∧ g1 = 179
  · rw [if_pos (en.2 c4), if_pos c4, check_f (by simp) (by omega), Option.bind_some]
    show ((if rd [g0, g1, g2, g3, g4, g5, g6, g7, g8, g9, g10] 10 = chk 0 [g0, g1, g2, g3, g4, g5, g6, g7, g8, g9] then _ else _ : Option (Int × Int × Int × Int × Int)).bind _) = _
    rw [show rd [g0, g1, g2, g3, g4, g5, g6, g7, g8, g9, g10] 10 = g10 from rfl]
    by_cases c5 : g10 = chk 0 [g0, g1, g2, g3, g4, g5, g6, g7, g8, g9]
    · rw [if_pos c5, if_pos c5]
      rw [get_f (l := [g2, g3]) (fun x hx => by simp at hx; rcases hx with rfl | rfl <;> assumption) (by simp) (by omega), Option.bind_some]
      rw [get_f (l := [g4, g5, g6, g7]) (fun x hx => by simp at hx; rcases hx with rfl | rfl | rfl | rfl <;> assumption) (by simp) (by omega), Option.bind_some]
      rw [get_f (l := [g8, g9]) (fun x hx => by simp at hx; rcases hx with rfl | rfl <;> assumption) (by simp) (by omega), Option.bind_some, Option.bind_some]
      have hn := num4 g4 g5 g6 g7
      have h0 : 0 ≤ num 0 [g4, g5, g6, g7] := by rw [hn]; omega
      have h1 : num 0 [g4, g5, g6, g7] < 4294967296 := by rw [hn]; omega
      obtain ⟨n, en⟩ := Int.eq_ofNat_of_zero_le h0
      rw [en] at h1 ⊢
      rw [if_pos rfl, wid (x := (a : Int) + 11 + (n : Int)) (by omega) (by omega)]
      have hr := rest_code hb hl (a + 11) n (num 0 [g8, g9]) (k := k + 1) (by omega)
      rw [show ((a + 11 : Nat) : Int) = (a : Int) + 11 by omega] at hr
      show ((packet_rest.f (k + 1) l ((a : Int) + 11) ((a : Int) + 11 + (n : Int)) (num 0 [g8, g9])).bind _) = _
      rw [hr, Option.bind_some, Int.toNat_natCast]
      by_cases c6 : (l.length : Int) - (a : Int) - 11 < (n : Int)
      · rw [if_pos c6, if_pos (show (l.length : Int) < (a : Int) + 11 + (n : Int) by omega), if_neg (by decide)]
      · rw [if_neg c6, if_neg (show ¬ (l.length : Int) < (a : Int) + 11 + (n : Int) by omega)]
        by_cases c7 : ((crc ((l.drop (a + 11)).take n) : Nat) : Int) = num 0 [g8, g9]
        · rw [if_pos c7, if_pos c7, if_pos rfl]
        · rw [if_neg c7, if_neg c7, if_neg (by decide)]
    · rw [if_neg c5, if_neg c5]
      rfl
  · rw [if_neg (fun h => c4 (en.1 h)), if_neg c4]
    rfl

/-! the reference -/
theorem ref_check_l (l : List Int) (a : Nat) (ha : a + 10 ≤ l.length) (hl : l.length ≤ 9223372036854775806) (m : Nat) : ∀ (i : Nat) (s : Int), 10 - i = m → i ≤ 10 → waveletref27_check.l0 (m + 1) l (a : Int) s (i : Int) = some (chk s (((l.drop a).take 10).drop i)) := by
  have e : ((l.drop a).take 10).length = 10 := by simp; omega
  induction m with
  | zero =>
    intro i s hi h
    rw [waveletref27_check.l0, if_neg (by omega), List.drop_eq_nil_of_le (by omega)]
    rfl
  | succ m ih =>
    intro i s hi h
    rw [waveletref27_check.l0, if_pos (by omega), wid (x := (a : Int) + (i : Int)) (by omega) (by omega), if_pos (by omega), if_pos (by omega), wid (by omega) (by omega), show (a : Int) + (i : Int) = ((a + i : Nat) : Int) by omega, rd_nat, show (i : Int) + 1 = ((i + 1 : Nat) : Int) by omega, ih (i + 1) _ (by omega) (by omega), drop_cons (i := i) (by omega), getD_cut (a := a) (n := 10) rfl i (by omega)]
    rfl
theorem ref_check_f {l : List Int} {a : Nat} (ha : a + 10 ≤ l.length) (hl : l.length ≤ 9223372036854775806) {k : Nat} (hk : 11 ≤ k) : waveletref27_check.f k l (a : Int) = some (chk 0 ((l.drop a).take 10)) := by
  have h := ref_check_l l a ha hl 10 0 0 (by decide) (by decide)
  exact at_rounds (g := fun k => waveletref27_check.f k l (a : Int)) (waveletref27_check.mono l _) hk h
theorem bor2 {x y : Int} (hx : 0 ≤ x ∧ x ≤ 255) (hy : 0 ≤ y ∧ y ≤ 255) : Go.bits .or .i64 (wrap64 (wrap64 x * 256)) (wrap64 y) = num 0 [x, y] := by
  rw [num2, wid (x := x) (by omega) (by omega), wid (x := y) (by omega) (by omega), wid (by omega) (by omega)]
  exact bor x y hx.1 (by omega) hy
theorem bor4 {x y z u : Int} (hx : 0 ≤ x ∧ x ≤ 255) (hy : 0 ≤ y ∧ y ≤ 255) (hz : 0 ≤ z ∧ z ≤ 255) (hu : 0 ≤ u ∧ u ≤ 255) :
    Go.bits .or .i64 (Go.bits .or .i64 (Go.bits .or .i64 (wrap64 (wrap64 x * 16777216)) (wrap64 (wrap64 y * 65536))) (wrap64 (wrap64 z * 256))) (wrap64 u) = num 0 [x, y, z, u] := by
  have hw : ∀ n : Int, 0 ≤ n → n < 2 ^ 62 → IntKind.i64.wrap n = n := fun n h0 h1 => by rw [IntKind.wrap_i64]; omega
  rw [num4, wid (x := x) (by omega) (by omega), wid (x := y) (by omega) (by omega), wid (x := z) (by omega) (by omega), wid (x := u) (by omega) (by omega), wid (x := x * 16777216) (by omega) (by omega), wid (x := y * 65536) (by omega) (by omega), wid (x := z * 256) (by omega) (by omega)]
  rw [bits_join .i64 62 (by decide) hw 24 (x * 16777216) (y * 65536) (by omega) (by omega) (by omega) (by omega) (by omega) (by omega)]
  rw [bits_join .i64 62 (by decide) hw 16 (x * 16777216 + y * 65536) (z * 256) (by omega) (by omega) (by omega) (by omega) (by omega) (by omega)]
  rw [bits_join .i64 62 (by decide) hw 8 (x * 16777216 + y * 65536 + z * 256) u (by omega) (by omega) (by omega) (by omega) (by omega) (by omega)]
  omega
theorem rest_ref {l : List Int} (hb : By l) (hl : l.length ≤ 140737488351232) (a n : Nat) (s : Int) (ha : a ≤ l.length) (hn : n < 4294967296) {k : Nat} (hk : 10 * l.length + 1 ≤ k) :
    waveletref27_rest.f k l (a : Int) (n : Int) s = some (if (l.length : Int) - (a : Int) - 11 < (n : Int) then (0, 0, 7) else if ((crc ((l.drop (a + 11)).take n) : Nat) : Int) = s then ((a : Int) + 11, (a : Int) + 11 + (n : Int), 0) else (0, 0, 17)) := by
  unfold waveletref27_rest.f
  rw [wid (x := (l.length : Int) - (a : Int)) (by omega) (by omega), wid (x := (l.length : Int) - (a : Int) - 11) (by omega) (by omega), wid (x := (a : Int) + 11) (by omega) (by omega), wid (x := (a : Int) + 11 + (n : Int)) (by omega) (by omega)]
  by_cases c : (l.length : Int) - (a : Int) - 11 < (n : Int)
  · rw [if_pos c, if_pos c]
  · rw [if_neg c, if_neg c, if_pos (by omega), if_pos (by omega), if_pos (by omega), show ((a : Int) + 11 + (n : Int)).toNat = (a + 11) + n by omega, show ((a : Int) + 11).toNat = a + 11 by omega, take_drop_cut]
    have hlen : ((l.drop (a + 11)).take n).length ≤ l.length := by simp; omega
    rw [ref_checksum_f ((hb.drop _).take n) (by omega) (by omega), Option.bind_some]
    by_cases d : ((crc ((l.drop (a + 11)).take n) : Nat) : Int) = s
    · rw [if_pos d, if_pos d]
    · rw [if_neg d, if_neg d]
theorem head_ref {l : List Int} (hl : l.length ≤ 140737488351232) (a : Nat) (ha : a + 11 ≤ l.length) (g0 g1 g2 g3 g4 g5 g6 g7 g8 g9 g10 : Int) (e : (l.drop a).take 11 = [g0, g1, g2, g3, g4, g5, g6, g7, g8, g9, g10])
    (hg : By [g0, g1, g2, g3, g4, g5, g6, g7, g8, g9, g10]) {k : Nat} (hk : 12 ≤ k) :
    waveletref27_head.f k l (a : Int) = some (if g0 = 255 ∧ g1 = 179 then (if g10 = chk 0 [g0, g1, g2, g3, g4, g5, g6, g7, g8, g9] then (num 0 [g2, g3], num 0 [g4, g5, g6, g7], num 0 [g8, g9], 0) else (0, 0, 0, 17)) else (0, 0, 0, 11)) := by
  obtain ⟨k, rfl⟩ : ∃ n, k = n + 1 := ⟨k - 1, by omega⟩
  simp only [By, List.mem_cons, List.not_mem_nil, or_false, forall_eq_or_imp, forall_eq] at hg
  obtain ⟨b0, b1, b2, b3, b4, b5, b6, b7, b8, b9, b10⟩ := hg
  have G : ∀ i : Nat, i < 11 → rd l ((a : Int) + (i : Int)) = [g0, g1, g2, g3, g4, g5, g6, g7, g8, g9, g10].getD i 0 := fun i hi => by
    rw [← getD_cut e i hi, show (a : Int) + (i : Int) = ((a + i : Nat) : Int) by omega]
    rfl
  have r0 : rd l (a : Int) = g0 := by have := G 0 (by decide); simpa using this
  have r1 : rd l ((a : Int) + 1) = g1 := G 1 (by decide)
  have r2 : rd l ((a : Int) + 2) = g2 := G 2 (by decide)
  have r3 : rd l ((a : Int) + 3) = g3 := G 3 (by decide)
  have r4 : rd l ((a : Int) + 4) = g4 := G 4 (by decide)
  have r5 : rd l ((a : Int) + 5) = g5 := G 5 (by decide)
  have r6 : rd l ((a : Int) + 6) = g6 := G 6 (by decide)
  have r7 : rd l ((a : Int) + 7) = g7 := G 7 (by decide)
  have r8 : rd l ((a : Int) + 8) = g8 := G 8 (by decide)
  have r9 : rd l ((a : Int) + 9) = g9 := G 9 (by decide)
  have r10 : rd l ((a : Int) + 10) = g10 := G 10 (by decide)
  have W : ∀ i : Int, 0 ≤ i → i < 11 → wrap64 ((a : Int) + i) = (a : Int) + i := fun i h0 h1 => wid (by omega) (by omega)
  unfold waveletref27_head.f
  rw [wid (x := (l.length : Int) - (a : Int)) (by omega) (by omega), if_neg (by omega), if_pos (by omega), if_pos (by omega), r0]
  by_cases c0 : g0 = 255
  · rw [if_pos c0, W 1 (by decide) (by decide), if_pos (by omega), if_pos (by omega), r1, waveletref27_head.j0]
    by_cases c1 : g1 = 179
    · rw [if_neg (by rw [c1]; decide), if_pos (show g0 = 255 ∧ g1 = 179 from ⟨c0, c1⟩), W 10 (by decide) (by decide), if_pos (by omega), if_pos (by omega), ref_check_f (by omega) (by omega) (by omega), Option.bind_some, r10]
      have e10 : (l.drop a).take 10 = [g0, g1, g2, g3, g4, g5, g6, g7, g8, g9] := by
        have := congrArg (fun z => z.take 10) e
        simpa [List.take_take] using this
      rw [e10]
      by_cases c2 : g10 = chk 0 [g0, g1, g2, g3, g4, g5, g6, g7, g8, g9]
      · rw [if_pos c2, if_pos c2, W 2 (by decide) (by decide), W 3 (by decide) (by decide), W 4 (by decide) (by decide), W 5 (by decide) (by decide), W 6 (by decide) (by decide), W 7 (by decide) (by decide), W 8 (by decide) (by decide), W 9 (by decide) (by decide)]
        rw [r2, r3, r4, r5, r6, r7, r8, r9, bor2 b2 b3, bor4 b4 b5 b6 b7, bor2 b8 b9]
        iterate 16 rw [if_pos (by omega)]
      · rw [if_neg c2, if_neg c2]
    · rw [if_pos (bne_iff_ne.2 c1), if_neg (fun h => c1 h.2)]
  · rw [if_neg c0, if_neg (fun h => c0 h.1), waveletref27_head.j0, if_pos rfl]
theorem frame_ref {l : List Int} (hb : By l) (hl : l.length ≤ 140737488351232) (a : Int) (ha : -9223372036854775808 ≤ a) (ha' : a ≤ 9223372036854775807) {k : Nat} (hk : 10 * l.length + 20 ≤ k) : waveletref27_Frame.f k l a = some (FR l a) := by
  obtain ⟨k, rfl⟩ : ∃ n, k = n + 1 := ⟨k - 1, by omega⟩
  unfold waveletref27_Frame.f FR
  by_cases c1 : a < 0
  · rw [if_pos c1, if_pos (.inl c1), waveletref27_Frame.j0, if_pos rfl]
  by_cases c2 : a > (l.length : Int)
  · rw [if_neg c1, if_pos (.inr c2), waveletref27_Frame.j0, decide_eq_true c2, if_pos rfl]
  rw [if_neg c1, if_neg (fun h => h.elim c1 c2), waveletref27_Frame.j0, decide_eq_false c2, if_neg (by decide)]
  obtain ⟨a, rfl⟩ := Int.eq_ofNat_of_zero_le (by omega : 0 ≤ a)
  rw [Int.toNat_natCast]
  have hlm : ((l.drop a).take 11).length = min 11 (l.length - a) := by simp
  by_cases c3 : (l.length : Int) - (a : Int) < 11
  · unfold waveletref27_head.f
    rw [wid (x := (l.length : Int) - (a : Int)) (by omega) (by omega), if_pos c3]
    generalize e : (l.drop a).take 11 = m at hlm
    unfold FRm
    split
    · simp at hlm
      omega
    · rfl
  have hbm : By ((l.drop a).take 11) := (hb.drop a).take 11
  obtain ⟨g0, g1, g2, g3, g4, g5, g6, g7, g8, g9, g10, e⟩ := eleven (by omega : ((l.drop a).take 11).length = 11)
  rw [e] at hbm
  rw [head_ref hl a (by omega) g0 g1 g2 g3 g4 g5 g6 g7 g8 g9 g10 e hbm (by omega), Option.bind_some, e]
  unfold FRm
  simp only
  have hg := hbm
  simp only [By, List.mem_cons, List.not_mem_nil, or_false, forall_eq_or_imp, forall_eq] at hg
  obtain ⟨b0, b1, b2, b3, b4, b5, b6, b7, b8, b9, b10⟩ := hg
  by_cases c4 : g0 = 255 ∧ g1 = 179
  · simp only [if_pos c4]
    by_cases c5 : g10 = chk 0 [g0, g1, g2, g3, g4, g5, g6, g7, g8, g9]
    · simp only [if_pos c5, if_true]
      have hn := num4 g4 g5 g6 g7
      have h0 : 0 ≤ num 0 [g4, g5, g6, g7] := by rw [hn]; omega
      have h1 : num 0 [g4, g5, g6, g7] < 4294967296 := by rw [hn]; omega
      obtain ⟨n, en⟩ := Int.eq_ofNat_of_zero_le h0
      rw [en] at h1 ⊢
      rw [rest_ref hb hl a n _ (by omega) (by omega) (by omega), Option.bind_some, Int.toNat_natCast]
      by_cases c6 : (l.length : Int) - (a : Int) - 11 < (n : Int)
      · rw [if_pos c6, if_pos c6, if_neg (by decide)]
      · rw [if_neg c6, if_neg c6]
        by_cases c7 : ((crc ((l.drop (a + 11)).take n) : Nat) : Int) = num 0 [g8, g9]
        · rw [if_pos c7, if_pos c7, if_pos rfl]
        · rw [if_neg c7, if_neg c7, if_neg (by decide)]
    · simp only [if_neg c5]
      rfl
  · simp only [if_neg c4]
    rfl

/-! Resync -/
def RS (l : List Int) (low high : Int) : Nat → Nat → Int × Int × Bool
  | 0, _ => (0, 0, false)
  | m + 1, i => if (FR l (i : Int)).2.2.2 = 0 ∧ (FR l (i : Int)).1 ≥ low ∧ (FR l (i : Int)).1 ≤ high then ((i : Int), (FR l (i : Int)).1, true) else RS l low high m (i + 1)
theorem resync_code_l {l : List Int} (hb : By l) (hl : l.length ≤ 140737488351232) (low high : Int) (m : Nat) : ∀ i : Nat, l.length + 1 - i = m → packet_Resync.l0 (10 * l.length + 21 + m) l (i : Int) low high = some (RS l low high m i) := by
  induction m with
  | zero =>
    intro i hi
    rw [packet_Resync.l0, if_neg (by omega)]
    rfl
  | succ m ih =>
    intro i hi
    have hs := ih (i + 1) (by omega)
    rw [show 10 * l.length + 21 + (m + 1) = (10 * l.length + 21 + m) + 1 by omega, packet_Resync.l0, if_pos (by omega), frame_code hb hl (i : Int) (by omega) (by omega) (by omega), Option.bind_some, wid (by omega) (by omega), show (i : Int) + 1 = ((i + 1 : Nat) : Int) by omega, hs]
    unfold RS
    by_cases c1 : (FR l (i : Int)).2.2.2 = 0
    · rw [if_pos c1]
      by_cases c2 : (FR l (i : Int)).1 ≥ low
      · rw [if_pos c2]
        by_cases c3 : (FR l (i : Int)).1 ≤ high
        · rw [if_pos c3, if_pos ⟨c1, c2, c3⟩]
        · rw [if_neg c3, if_neg (fun h => c3 h.2.2)]
          cases m <;> rfl
      · rw [if_neg c2, if_neg (fun h => c2 h.2.1)]
        cases m <;> rfl
    · rw [if_neg c1, if_neg (fun h => c1 h.1)]
      cases m <;> rfl
theorem resync_ref_l {l : List Int} (hb : By l) (hl : l.length ≤ 140737488351232) (low high : Int) (m : Nat) : ∀ i : Nat, l.length + 1 - i = m → waveletref27_Resync.l0 (10 * l.length + 21 + m) l low high (i : Int) = some (RS l low high m i) := by
  induction m with
  | zero =>
    intro i hi
    rw [waveletref27_Resync.l0, if_neg (by omega)]
    rfl
  | succ m ih =>
    intro i hi
    have hs := ih (i + 1) (by omega)
    rw [show 10 * l.length + 21 + (m + 1) = (10 * l.length + 21 + m) + 1 by omega, waveletref27_Resync.l0, if_pos (by omega), frame_ref hb hl (i : Int) (by omega) (by omega) (by omega), Option.bind_some, wid (by omega) (by omega), show (i : Int) + 1 = ((i + 1 : Nat) : Int) by omega, hs]
    unfold RS
    by_cases c1 : (FR l (i : Int)).2.2.2 = 0
    · rw [if_pos c1]
      by_cases c2 : (FR l (i : Int)).1 ≥ low
      · rw [if_pos c2]
        by_cases c3 : (FR l (i : Int)).1 ≤ high
        · rw [if_pos c3, if_pos ⟨c1, c2, c3⟩]
        · rw [if_neg c3, if_neg (fun h => c3 h.2.2)]
          cases m <;> rfl
      · rw [if_neg c2, if_neg (fun h => c2 h.2.1)]
        cases m <;> rfl
    · rw [if_neg c1, if_neg (fun h => c1 h.1)]
      cases m <;> rfl
def RSY (l : List Int) (a low high : Int) : Int × Int × Bool := if a < 0 then (0, 0, false) else RS l low high (l.length + 1 - a.toNat) a.toNat
theorem resync_code {l : List Int} (hb : By l) (hl : l.length ≤ 140737488351232) (a low high : Int) {k : Nat} (hk : 11 * l.length + 23 ≤ k) : packet_Resync.f k l a low high = some (RSY l a low high) := by
  refine at_rounds (g := fun k => packet_Resync.f k l a low high) (packet_Resync.mono l a low high) (k := 10 * l.length + 21 + (l.length + 1 - a.toNat)) (by omega) ?_
  show packet_Resync.f _ l a low high = _
  unfold packet_Resync.f RSY
  by_cases c : a < 0
  · rw [if_pos c, if_pos c]
  · rw [if_neg c, if_neg c]
    have h := resync_code_l hb hl low high (l.length + 1 - a.toNat) a.toNat rfl
    rwa [show ((a.toNat : Nat) : Int) = a by omega] at h
theorem resync_ref {l : List Int} (hb : By l) (hl : l.length ≤ 140737488351232) (a low high : Int) {k : Nat} (hk : 11 * l.length + 24 ≤ k) : waveletref27_Resync.f k l a low high = some (RSY l a low high) := by
  refine at_rounds (g := fun k => waveletref27_Resync.f k l a low high) (waveletref27_Resync.mono l a low high) (k := 10 * l.length + 21 + (l.length + 1 - a.toNat) + 1) (by omega) ?_
  show waveletref27_Resync.f _ l a low high = _
  unfold waveletref27_Resync.f RSY
  by_cases c : a < 0
  · rw [if_pos c, if_pos c, waveletref27_Resync.j0, if_pos rfl]
  · rw [if_neg c, if_neg c, waveletref27_Resync.j0]
    by_cases d : a > (l.length : Int)
    · rw [if_pos (decide_eq_true d), show l.length + 1 - a.toNat = 0 by omega]
      rfl
    · rw [if_neg (by rw [decide_eq_false d]; decide)]
      have h := resync_ref_l hb hl low high (l.length + 1 - a.toNat) a.toNat rfl
      rwa [show ((a.toNat : Nat) : Int) = a by omega] at h
end Go.Proofs.Ytjajknghcbpblaa.Arith
