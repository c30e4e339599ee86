/- Colorspec: the program's Decode, whole. -/
import Derived.Test.YtkjcjlembepdkaaCsM
set_option linter.unusedVariables false
set_option linter.unusedSimpArgs false
namespace Go.Proofs.Ytkjcjlembepdkaa.Sh
open Go.Proofs.Ytkjcjlembepdkaa.FW
theorem or64 {a b : Nat} (ha : a < 256) (hb : b < 256) (R : Type) (K : Int → Option R) : hbin .or .i64 (((a * 256 : Nat) : Int)) (b : Int) K = K ((a * 256 + b : Nat) : Int) := by
  simp only [hbin]
  have h1 : BitVec.ofInt IntKind.i64.bits ((a * 256 : Nat) : Int) = BitVec.ofNat 64 (a * 256) := BitVec.ofInt_natCast 64 (a * 256)
  have h2 : BitVec.ofInt IntKind.i64.bits ((b : Nat) : Int) = BitVec.ofNat 64 b := BitVec.ofInt_natCast 64 b
  have h3 : (BitVec.ofInt IntKind.i64.bits ((a * 256 : Nat) : Int) ||| BitVec.ofInt IntKind.i64.bits ((b : Nat) : Int)).toNat = a * 256 + b := by
    rw [BitVec.toNat_or, h1, h2]
    have e1 : (BitVec.ofNat 64 (a * 256)).toNat = a * 256 := by rw [BitVec.toNat_ofNat]; omega
    have e2 : (BitVec.ofNat 64 b).toNat = b := by rw [BitVec.toNat_ofNat]; omega
    have e3 := Nat.two_pow_add_eq_or_of_lt (i := 8) (b := b) (by omega) a
    have : 2 ^ 8 * a = a * 256 := by omega
    rw [this] at e3
    rw [e3]
    congr 1
  rw [h3, w64 (by omega) (by omega)]
theorem byte_of {bs : List Int} (hbs : ∀ x ∈ bs, 0 ≤ x ∧ x ≤ 255) {i : Nat} (hi : i < bs.length) : bs[i]? = some (bs.getD i 0) ∧ 0 ≤ bs.getD i 0 ∧ bs.getD i 0 ≤ 255 := by
  have h : bs[i]? = some (bs.getD i 0) := by simp [hi]
  exact ⟨h, hbs _ (List.mem_of_getElem? h)⟩
theorem chunks_len (n : Nat) : ∀ (m : Nat) (l : List Int), (chunks n m l).length = m := by
  intro m
  induction m with
  | zero => intro l; rfl
  | succ m ih => intro l; rw [chunks, List.length_cons, ih]
theorem decode_eq {k : Nat} (hk : 100000 < k) {H : Heap} {q : Option Addr} {bs : List Int} {c : Nat} (h : Shows H q (byt bs)) (hc : c = unk ∨ bs.length ≤ c ∧ c < unk) (hl : bs.length ≤ 100000) (hbs : ∀ x ∈ bs, 0 ≤ x ∧ x ≤ 255) :
    ∃ (H' : Heap) (s' : Int) (q' : Option Addr) (c' : Nat) (q2' : Option Addr) (c2' : Nat) (rs' : List Int) (rows' : List Rw) (e : Int), (∀ (R : Type) (K : Int → Option Addr → Nat → Nat → Option Addr → Nat → Nat → Int → Heap → Option R), colorspec_Decode k q bs.length c H K = K s' q' rs'.length c' q2' rows'.length c2' e H') ∧ Old H.length H H' ∧ Shows H' q' (ints rs') ∧ PalS H' q2' rows' ∧ (s', rs', cons rows', e) = decR bs := by
  obtain ⟨H1, hH1⟩ : ∃ H1, H1 = H ++ [some (⟨[.int .i64 0, .slice none 0 0, .slice none 0 0], false, 0⟩ : Blk)] := ⟨_, rfl⟩
  have o1 : Old H.length H H1 := hH1 ▸ Old.app _ _
  have O1 : Owns H1 H.length [.int .i64 0, .slice none 0 0, .slice none 0 0] 0 := by rw [hH1]; exact hblk_new H _
  have l1 : H1.length = H.length + 1 := by rw [hH1]; simp
  have h1 := h.keep o1
  obtain ⟨Hz, ez, bz, nz'⟩ := put3 O1 rfl 0 none 0 0 none 0 0
  have oz : Old H.length H Hz := o1.trans (bz.old (Nat.le_refl _) (by omega))
  have fail : ∀ (e : Int), decR bs = (0, [], [], e) → (∀ (R : Type) (K : Int → Option Addr → Nat → Nat → Option Addr → Nat → Nat → Int → Heap → Option R), colorspec_Decode k q bs.length c H K = K 0 none 0 0 none 0 0 e Hz) → ∃ (H' : Heap) (s' : Int) (q' : Option Addr) (c' : Nat) (q2' : Option Addr) (c2' : Nat) (rs' : List Int) (rows' : List Rw) (e : Int), (∀ (R : Type) (K : Int → Option Addr → Nat → Nat → Option Addr → Nat → Nat → Int → Heap → Option R), colorspec_Decode k q bs.length c H K = K s' q' rs'.length c' q2' rows'.length c2' e H') ∧ Old H.length H H' ∧ Shows H' q' (ints rs') ∧ PalS H' q2' rows' ∧ (s', rs', cons rows', e) = decR bs := fun e h1 h2 => ⟨Hz, 0, none, 0, none, 0, [], [], e, h2, oz, .inl rfl, ⟨.inl rfl, fun r hr => by cases hr⟩, h1.symm⟩
  by_cases c1 : bs.length < 2
  · refine fail 7 (by unfold decR; rw [if_pos c1]) fun R K => ?_
    unfold colorspec_Decode colorspec_Decode_b
    exact go_halN hH1 (go_t (decide_eq_true (by omega)) (ez R fun a b c d e f g h => K a b c d e f g 7 h))
  obtain ⟨g1, b1, b1'⟩ := byte_of hbs (i := 1) (by omega)
  obtain ⟨n, hn⟩ : ∃ n, n = dn bs := ⟨_, rfl⟩
  have hn' : bs.getD 1 0 = (n : Int) := by rw [hn]; unfold dn; omega
  rw [hn'] at g1 b1'
  obtain ⟨p1, e1, e1'⟩ := byt_at h1 g1
  have wn : IntKind.wrap .i64 (n : Int) = (n : Int) := w64 (by omega) (by omega)
  have wn4 : IntKind.wrap .i64 ((n : Int) + 4) = ((n + 4 : Nat) : Int) := by rw [w64 (by omega) (by omega)]; omega
  by_cases c2 : bs.length < n + 4
  · refine fail 7 (by unfold decR; rw [if_neg c1, ← hn, if_pos c2]) fun R K => ?_
    unfold colorspec_Decode colorspec_Decode_b
    refine go_halN hH1 (go_f (decide_eq_false (by omega)) ((e1 _ _).trans ((e1' _ _).trans ?_)))
    rw [wn, wn4]
    exact go_t (decide_eq_true (by omega)) (ez R fun a b c d e f g h => K a b c d e f g 7 h)
  obtain ⟨g2, b2, b2'⟩ := byte_of hbs (i := n + 2) (by omega)
  obtain ⟨g3, b3, b3'⟩ := byte_of hbs (i := n + 3) (by omega)
  obtain ⟨x, hx⟩ : ∃ x : Nat, bs.getD (n + 2) 0 = (x : Int) := ⟨(bs.getD (n + 2) 0).toNat, by omega⟩
  obtain ⟨y, hy⟩ : ∃ y : Nat, bs.getD (n + 3) 0 = (y : Int) := ⟨(bs.getD (n + 3) 0).toNat, by omega⟩
  rw [hx] at g2 b2'
  rw [hy] at g3 b3'
  obtain ⟨p2, e2, e2'⟩ := byt_at h1 g2
  obtain ⟨p3, e3, e3'⟩ := byt_at h1 g3
  obtain ⟨m, hm⟩ : ∃ m, m = x * 256 + y := ⟨_, rfl⟩
  have hdm : dm bs = m := by unfold dm; rw [← hn, hx, hy, hm]; omega
  have hmb : m ≤ 65535 := by omega
  have hnm : n * m ≤ 255 * 65535 := Nat.mul_le_mul (by omega) hmb
  have wx : IntKind.wrap .i64 (x : Int) = (x : Int) := w64 (by omega) (by omega)
  have wy : IntKind.wrap .i64 (y : Int) = (y : Int) := w64 (by omega) (by omega)
  have wx2 : IntKind.wrap .i64 ((x : Int) * 256) = ((x * 256 : Nat) : Int) := by rw [w64 (by omega) (by omega)]; omega
  have wnm : IntKind.wrap .i64 (((n + 4 : Nat) : Int) + IntKind.wrap .i64 ((n : Int) * (m : Int))) = ((n + 4 + n * m : Nat) : Int) := by
    rw [← Int.natCast_mul, w64 (n := ((n * m : Nat) : Int)) (by omega) (by omega), w64 (by omega) (by omega)]; omega
  have wn2 : IntKind.wrap .i64 ((n : Int) + 2) = ((n + 2 : Nat) : Int) := by rw [w64 (by omega) (by omega)]; omega
  have wn3 : IntKind.wrap .i64 ((n : Int) + 3) = ((n + 3 : Nat) : Int) := by rw [w64 (by omega) (by omega)]; omega
  have hdec : decR bs = if bs.length < n + 4 + n * m then (0, [], [], 7) else if bs.length > n + 4 + n * m then (0, [], [], 9) else dec2 (bs.getD 0 0) ((bs.drop 2).take n) (chunks n m (bs.drop (n + 4))) := by
    unfold decR; rw [if_neg c1, ← hn, if_neg c2, hdm]
  by_cases c3 : bs.length < n + 4 + n * m
  · refine fail 7 (by rw [hdec, if_pos c3]) fun R K => ?_
    unfold colorspec_Decode colorspec_Decode_b
    refine go_halN hH1 (go_f (decide_eq_false (by omega)) ((e1 _ _).trans ((e1' _ _).trans ?_)))
    rw [wn, wn4, wn2, wn3]
    refine go_f (decide_eq_false (by omega)) ((e2 _ _).trans ((e2' _ _).trans ((e3 _ _).trans ((e3' _ _).trans ?_))))
    rw [wx, wy, wx2]
    refine (or64 (by omega) (by omega) _ _).trans ?_
    rw [← hm, wnm]
    exact go_t (decide_eq_true (by omega)) (ez R fun a b c d e f g h => K a b c d e f g 7 h)
  by_cases c4 : bs.length > n + 4 + n * m
  · refine fail 9 (by rw [hdec, if_neg c3, if_pos c4]) fun R K => ?_
    unfold colorspec_Decode colorspec_Decode_b
    refine go_halN hH1 (go_f (decide_eq_false (by omega)) ((e1 _ _).trans ((e1' _ _).trans ?_)))
    rw [wn, wn4, wn2, wn3]
    refine go_f (decide_eq_false (by omega)) ((e2 _ _).trans ((e2' _ _).trans ((e3 _ _).trans ((e3' _ _).trans ?_))))
    rw [wx, wy, wx2]
    refine (or64 (by omega) (by omega) _ _).trans ?_
    rw [← hm, wnm]
    exact go_f (decide_eq_false (by omega)) (go_t (decide_eq_true (by omega)) (ez R fun a b c d e f g h => K a b c d e f g 9 h))
  rw [if_neg c3, if_neg c4] at hdec
  obtain ⟨g0, b0, b0'⟩ := byte_of hbs (i := 0) (by omega)
  obtain ⟨s, hs⟩ : ∃ s, s = bs.getD 0 0 := ⟨_, rfl⟩
  rw [← hs] at g0 b0 b0' hdec
  obtain ⟨p0, e0, e0'⟩ := byt_at h1 g0
  have ws : IntKind.wrap .i64 s = s := w64 (by omega) (by omega)
  obtain ⟨q5, c5, e5, S5⟩ := part_eq h1 hc (by unfold unk; omega) (lo := 2) (hi := n + 2) (by omega) (by omega) (by omega) (by omega)
  obtain ⟨rs, hrs⟩ : ∃ rs, rs = (bs.drop 2).take (n + 2 - 2) := ⟨_, rfl⟩
  rw [← hrs] at e5 S5
  have hrs' : rs = (bs.drop 2).take n := by rw [hrs, show n + 2 - 2 = n from by omega]
  rw [← hrs'] at hdec
  have hrl : rs.length = n := by rw [hrs']; simp; omega
  have hrb : ∀ x ∈ rs, 0 ≤ x ∧ x ≤ 255 := fun x hx => hbs x (List.mem_of_mem_drop (List.mem_of_mem_take (hrs' ▸ hx)))
  obtain ⟨H6, G, q6, c6, e6, hG, B6, o6⟩ := numbers_eq hk c5 S5 (by omega) hrb
  have lG := o6.1
  obtain ⟨H7, hH7⟩ : ∃ H7, H7 = G ++ [some (⟨[.int .i64 s, .slice q6 rs.length c6, .slice none 0 0], false, 0⟩ : Blk)] := ⟨_, rfl⟩
  have o7 : Old G.length G H7 := hH7 ▸ Old.app _ _
  have O7 : Owns H7 G.length [.int .i64 s, .slice q6 rs.length c6, .slice none 0 0] 0 := by rw [hH7]; exact hblk_new G _
  have l7 : H7.length = G.length + 1 := by rw [hH7]; simp
  have D7 : DecS H1.length G.length H7 s rs [] q6 c6 none 0 := by
    refine ⟨O7, B6.shows.1.keep o7, fun a ha => ?_, .nil _ _ _, (fun a ha => by cases ha), (fun r hr => by cases hr), (fun r hr => by cases hr)⟩
    rcases B6 with ⟨h, _⟩ | ⟨b6, h, _, h6, h8, _⟩
    · rw [h] at ha; cases ha
    · rw [h] at ha; cases ha
      have := h8.lt
      exact ⟨by simp only; omega, by simp only; omega, (fun a' ha' => by cases ha'), h6⟩
  have o17 : Old H1.length H1 H7 := o6.trans (o7.mono lG)
  have o07 : Old H.length H H7 := o1.trans (o17.mono (by omega))
  have O17 : Owns H7 H.length [.int .i64 0, .slice none 0 0, .slice none 0 0] 0 := O1.old o17 (by omega)
  have a0 : hcell H7 G.length 0 = some (.int .i64 s) := O7.sees.cell 0
  by_cases hfl : n = 0 ∧ m > 0
  · obtain ⟨hn0, hm0⟩ := hfl
    have hr0 : rs = [] := List.eq_nil_of_length_eq_zero (by omega)
    have hv : vC s rs (chunks n m (bs.drop (n + 4))) = if kn s then 21 else 3 := by
      unfold vC
      rw [hr0, show rolesB s [] = false from rfl]
      simp
    obtain ⟨H8, e8, b8, n8⟩ := put3 O17 rfl 0 none 0 0 none 0 0
    refine ⟨H8, 0, none, 0, none, 0, [], [], if kn s then 21 else 3, fun R K => ?_, o07.trans (b8.old (Nat.le_refl _) (by omega)), .inl rfl, ⟨.inl rfl, fun r hr => by cases hr⟩, ?_⟩
    · unfold colorspec_Decode colorspec_Decode_b
      refine go_halN hH1 (go_f (decide_eq_false (by omega)) ((e1 _ _).trans ((e1' _ _).trans ?_)))
      rw [wn, wn4, wn2, wn3]
      refine go_f (decide_eq_false (by omega)) ((e2 _ _).trans ((e2' _ _).trans ((e3 _ _).trans ((e3' _ _).trans ?_))))
      rw [wx, wy, wx2]
      refine (or64 (by omega) (by omega) _ _).trans ?_
      rw [← hm, wnm]
      refine go_f (decide_eq_false (by omega)) (go_f (decide_eq_false (by omega)) ((e0 _ _).trans ((e0' _ _).trans ((e5 _ _).trans ((e6 _ _).trans ?_)))))
      rw [← hG, ws]
      refine go_halst hH7 rfl rfl ?_
      unfold colorspec_Decode_p0 colorspec_Decode_p0_b
      refine go_t (by rw [hn0]; rfl) (go_t (decide_eq_true (by omega)) (go_fad (go_i a0 ((known_eq _ _ _).trans ?_))))
      cases hkn : kn s with
      | false => exact go_t rfl (e8 R fun a b c d e f g h => K a b c d e f g 3 h)
      | true => exact go_f rfl (e8 R fun a b c d e f g h => K a b c d e f g 21 h)
    · rw [hdec]
      unfold dec2
      rw [if_neg (show ¬ vC s rs (chunks n m (bs.drop (n + 4))) = 0 by rw [hv]; split <;> omega), hv]
      rfl
  have hflag : ∀ (R : Type) (KN : Option Addr → Nat → Nat → Option Addr → Int → Option Addr → Bool → Option R), colorspec_Decode_p0 k q bs.length c (some ⟨H.length, 0, none⟩) (n : Int) (m : Int) (some ⟨G.length, 0, none⟩) KN = KN q bs.length c (some ⟨H.length, 0, none⟩) (n : Int) (some ⟨G.length, 0, none⟩) false := by
    intro R KN
    unfold colorspec_Decode_p0 colorspec_Decode_p0_b
    by_cases hn0 : n = 0
    · refine go_t (by rw [hn0]; rfl) ?_
      rw [decide_eq_false (by omega)]
    · exact go_f (by rw [beq_eq_false_iff_ne]; omega) rfl
  obtain ⟨H8, rows, qp, cp, e8, D8, hrows, o8⟩ : ∃ H' rows' qp' cp', (∀ (R : Type) (KE : Option Addr → Option Addr → Heap → Option R), colorspec_Decode_l1 k KE k q bs.length c (some ⟨H.length, 0, none⟩) (n : Int) (some ⟨G.length, 0, none⟩) ((n + 4 : Nat) : Int) H7 = KE (some ⟨H.length, 0, none⟩) (some ⟨G.length, 0, none⟩) H') ∧ DecS H1.length G.length H' s rs rows' q6 c6 qp' cp' ∧ cons rows' = chunks n m (bs.drop (n + 4)) ∧ Old H1.length H7 H' := by
    by_cases hn0 : n = 0
    · have hm0 : m = 0 := by omega
      obtain ⟨k', rfl⟩ : ∃ k', k = k' + 1 := ⟨k - 1, by omega⟩
      refine ⟨H7, [], none, 0, fun R KE => ?_, D7, by rw [hm0]; rfl, .refl _ _⟩
      unfold colorspec_Decode_l1 colorspec_Decode_l1_b
      have hz : n * m = 0 := by rw [hn0]; simp
      exact go_f (decide_eq_false (by omega)) rfl
    · have := drow_l k hk (some ⟨H.length, 0, none⟩) lG hc hl hbs (byt_below h1) (n := n) (by omega) m k (n + 4) (by omega) (by omega) (by omega) H7 [] none 0 D7 (by omega) (h1.keep o17) (by simp; omega)
      obtain ⟨H', rows', qp', cp', e1, e2, e3, e4⟩ := this
      exact ⟨H', rows', qp', cp', e1, e2, by rw [e3]; rfl, e4⟩
  have o08 : Old H.length H H8 := o07.trans (o8.mono (by omega))
  have l8 := o8.1
  have x0 : hcell H8 G.length 0 = some (.int .i64 s) := D8.o.sees.cell 0
  have x1 : hcell H8 G.length 1 = some (.slice q6 rs.length c6) := D8.o.sees.cell 1
  have x2 : hcell H8 G.length 2 = some (.slice qp rows.length cp) := D8.o.sees.cell 2
  have hrwl : rows.length = m := by rw [← cons_len, hrows, chunks_len]
  have F8 : FewC rs rows := ⟨by omega, by omega, fun r hr => by
    have : r.2.2 ∈ chunks n m (bs.drop (n + 4)) := by rw [← hrows]; exact List.mem_map.2 ⟨r, hr, rfl⟩
    have hch : ∀ (m : Nat) (l : List Int), ∀ x ∈ chunks n m l, x.length ≤ n := by
      intro m
      induction m with
      | zero => intro l x hx; cases hx
      | succ m ih =>
        intro l x hx
        rcases List.mem_cons.1 hx with rfl | hx
        · rw [List.length_take]; omega
        · exact ih _ x hx
    have := hch m _ _ this; omega⟩
  obtain ⟨H9, e9, o9⟩ := validate_eq (k := k) (by omega) s c6 cp D8.r D8.pal F8
  have l9 := o9.1
  have D9 := D8.keep o9
  have o09 : Old H.length H H9 := o08.trans (o9.mono (by omega))
  have Oz9 : Owns H9 H.length [.int .i64 0, .slice none 0 0, .slice none 0 0] 0 := (O17.old o8 (by omega)).old o9 (by omega)
  have hvc : validI s rs rows = vC s rs (chunks n m (bs.drop (n + 4))) := by rw [valid_con, hrows]
  have y0 : hcell H9 G.length 0 = some (.int .i64 s) := D9.o.sees.cell 0
  have y1 : hcell H9 G.length 1 = some (.slice q6 rs.length c6) := D9.o.sees.cell 1
  have y2 : hcell H9 G.length 2 = some (.slice qp rows.length cp) := D9.o.sees.cell 2
  by_cases hv : validI s rs rows = 0
  · obtain ⟨Ha, ea, ba, na⟩ := put3 Oz9 rfl s q6 rs.length c6 qp rows.length cp
    have kp : ∀ {q : Option Addr} {cs : List Value}, Shows H9 q cs → (∀ a, q = some a → H1.length ≤ a.block ∧ a.block < H9.length) → Shows Ha q cs := fun h hh => Shows.same' h fun a ha => by have := hh a ha; exact ba.2 _ this.2 (by omega)
    refine ⟨Ha, s, q6, c6, qp, cp, rs, rows, 0, fun R K => ?_, o09.trans (ba.old (Nat.le_refl _) (by omega)), kp D9.r (fun a ha => ⟨(D9.ra a ha).2.2.2, (D9.ra a ha).2.1⟩), ⟨kp D9.p.shows.1 (fun a ha => ⟨by
      rcases D9.p with ⟨h, _⟩ | ⟨b', h, _, h3, _⟩
      · rw [h] at ha; cases ha
      · rw [h] at ha; cases ha; exact h3, D9.p.below a ha⟩), fun r hr => kp (D9.w r hr) (fun a ha => ⟨(D9.wa r hr a ha).2.2.2, (D9.wa r hr a ha).2.1⟩)⟩, ?_⟩
    · unfold colorspec_Decode colorspec_Decode_b
      refine go_halN hH1 (go_f (decide_eq_false (by omega)) ((e1 _ _).trans ((e1' _ _).trans ?_)))
      rw [wn, wn4, wn2, wn3]
      refine go_f (decide_eq_false (by omega)) ((e2 _ _).trans ((e2' _ _).trans ((e3 _ _).trans ((e3' _ _).trans ?_))))
      rw [wx, wy, wx2]
      refine (or64 (by omega) (by omega) _ _).trans ?_
      rw [← hm, wnm]
      refine go_f (decide_eq_false (by omega)) (go_f (decide_eq_false (by omega)) ((e0 _ _).trans ((e0' _ _).trans ((e5 _ _).trans ((e6 _ _).trans ?_)))))
      rw [← hG, ws]
      refine go_halst hH7 rfl rfl ((hflag _ _).trans (go_f rfl ?_))
      try dsimp only
      rw [wn4]
      refine (e8 _ _).trans (go_ip x0 (go_lp x1 (go_lp x2 ((e9 _ _).trans (go_f (by rw [hv]; rfl) (go_ip y0 (go_lp y1 (go_lp y2 ?_))))))))
      exact ea R fun a b c d e f g h => K a b c d e f g 0 h
    · rw [hdec, hrows]
      unfold dec2
      rw [if_pos (by rw [← hvc]; exact hv)]
  · obtain ⟨Ha, ea, ba, na⟩ := put3 Oz9 rfl 0 none 0 0 none 0 0
    refine ⟨Ha, 0, none, 0, none, 0, [], [], validI s rs rows, fun R K => ?_, o09.trans (ba.old (Nat.le_refl _) (by omega)), .inl rfl, ⟨.inl rfl, fun r hr => by cases hr⟩, ?_⟩
    · unfold colorspec_Decode colorspec_Decode_b
      refine go_halN hH1 (go_f (decide_eq_false (by omega)) ((e1 _ _).trans ((e1' _ _).trans ?_)))
      rw [wn, wn4, wn2, wn3]
      refine go_f (decide_eq_false (by omega)) ((e2 _ _).trans ((e2' _ _).trans ((e3 _ _).trans ((e3' _ _).trans ?_))))
      rw [wx, wy, wx2]
      refine (or64 (by omega) (by omega) _ _).trans ?_
      rw [← hm, wnm]
      refine go_f (decide_eq_false (by omega)) (go_f (decide_eq_false (by omega)) ((e0 _ _).trans ((e0' _ _).trans ((e5 _ _).trans ((e6 _ _).trans ?_)))))
      rw [← hG, ws]
      refine go_halst hH7 rfl rfl ((hflag _ _).trans (go_f rfl ?_))
      try dsimp only
      rw [wn4]
      refine (e8 _ _).trans (go_ip x0 (go_lp x1 (go_lp x2 ((e9 _ _).trans (go_t (by rw [bne_iff_ne]; exact hv) ?_)))))
      exact ea R fun a b c d e f g h => K a b c d e f g (validI s rs rows) h
    · rw [hdec]
      unfold dec2
      rw [if_neg (by rw [← hvc]; exact hv), hvc]
      rfl
end Go.Proofs.Ytkjcjlembepdkaa.Sh
