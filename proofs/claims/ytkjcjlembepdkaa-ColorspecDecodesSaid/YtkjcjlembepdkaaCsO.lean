/- Colorspec: the reference's Decode. -/
import Derived.Test.YtkjcjlembepdkaaSh15
import Derived.Test.YtkjcjlembepdkaaCsN
set_option linter.unusedVariables false
set_option linter.unusedSimpArgs false
namespace Go.Proofs.Ytkjcjlembepdkaa.Sh
open Go.Proofs.Ytkjcjlembepdkaa.FW
theorem chunks_snoc (n : Nat) : ∀ (m : Nat) (l : List Int), chunks n (m + 1) l = chunks n m l ++ [(l.drop (m * n)).take n] := by
  intro m
  induction m with
  | zero => intro l; simp [chunks]
  | succ m ih =>
    intro l
    rw [chunks, ih, chunks, List.cons_append, List.drop_drop, show n + m * n = (m + 1) * n from by rw [Nat.add_mul]; omega]
/-- A number appended to a row of one's own. -/
theorem Grw.num {N : Nat} {H : Heap} {q : Option Addr} {l c : Nat} {xs : List Int} (h : Grw N 1 H q l c (ints xs)) (hN : N ≤ H.length) (hl : l ≤ 100000000) (x : Int) :
    ∃ H1 b' H', H1 = H ++ [some (⟨[.int .i64 x], false, 0⟩ : Blk)] ∧ (∀ (R : Type) (K : Option Addr → Nat → Nat → Heap → Option R), happS 1 8 H1 q l c (some ⟨H.length, 0, none⟩) 1 K = K (some ⟨b', 0, none⟩) (l + 1) unk H') ∧ Bld N 1 H' (some ⟨b', 0, none⟩) (l + 1) unk (ints (xs ++ [x])) ∧ N ≤ b' ∧ b' < H'.length ∧ Old N H H' := by
  obtain ⟨H1, hH1⟩ : ∃ H1, H1 = H ++ [some (⟨[.int .i64 x], false, 0⟩ : Blk)] := ⟨_, rfl⟩
  have o1 : Old H.length H H1 := hH1 ▸ Old.app _ _
  have O1 : Owns H1 H.length (ints [x]) 0 := by rw [hH1]; exact hblk_new H _
  have l1 : H1.length = H.length + 1 := by rw [hH1]; simp
  obtain ⟨q', H', e, G, o, l'⟩ := (h.keep o1).app (bytes := 8) (n := 1) (by omega) O1.sees.shows rfl (by omega) (by omega)
  have G' : Grw N 1 H' q' (l + 1) unk (ints (xs ++ [x])) := by simpa [ints] using G
  rcases G' with (⟨_, h2, _⟩ | ⟨b', rfl, h2, h3, h4, h5⟩) | ⟨h1, h2, _⟩
  · omega
  · exact ⟨H1, b', H', hH1, e, .inr ⟨b', rfl, h2, h3, h4, h5⟩, h3, h4.lt, (o1.mono hN).trans o⟩
  · omega
theorem rol_l (k : Nat) {N b : Nat} {s : Int} {q : Option Addr} {bs : List Int} {c : Nat} (p4 : Option Addr) (hb : N ≤ b) (hl : bs.length ≤ 100000) (hbs : ∀ x ∈ bs, 0 ≤ x ∧ x ≤ 255) (hq : bs = [] ∨ Below N q) {n : Nat} (hn : n + 2 ≤ bs.length) (hn2 : n ≤ 255) (mm : Int) : ∀ (m f i : Nat), m < f → n = i + m → ∀ (H : Heap) (qr : Option Addr) (cr : Nat), Owns H b [.int .i64 s, .slice qr i cr, .slice none 0 0] 0 → Bld (b + 1) 1 H qr i cr (ints ((bs.drop 2).take i)) → Shows H q (byt bs) →
    ∃ H' qr' cr', (∀ (R : Type) (KE : Option Addr → Nat → Nat → Option Addr → Int → Int → Option Addr → Heap → Option R), R46_Decode_l0 k KE f q bs.length c p4 (n : Int) mm (some ⟨b, 0, none⟩) (i : Int) H = KE q bs.length c p4 (n : Int) mm (some ⟨b, 0, none⟩) H') ∧ Owns H' b [.int .i64 s, .slice qr' n cr', .slice none 0 0] 0 ∧ Bld (b + 1) 1 H' qr' n cr' (ints ((bs.drop 2).take n)) ∧ Old N H H' := by
  intro m
  induction m with
  | zero =>
    intro f i hf hi H qr cr O B hS
    obtain ⟨f, rfl⟩ : ∃ n', f = n' + 1 := ⟨f - 1, by omega⟩
    obtain rfl : n = i := by omega
    refine ⟨H, qr, cr, fun R KE => ?_, O, B, .refl _ _⟩
    unfold R46_Decode_l0 R46_Decode_l0_b
    exact go_f (decide_eq_false (by omega)) rfl
  | succ m ih =>
    intro f i hf hi H qr cr O B hS
    obtain ⟨f, rfl⟩ : ∃ n', f = n' + 1 := ⟨f - 1, by omega⟩
    obtain ⟨g, b0, b1⟩ := byte_of hbs (i := 2 + i) (by omega)
    obtain ⟨p', e1, e2⟩ := byt_at hS g
    have hbl := O.lt
    obtain ⟨H1, b', H2, hH1, e3, B2, hb1, hb2, o2⟩ := Grw.num (.inl B) (by omega) (by omega) (bs.getD (2 + i) 0)
    have Ob2 : Owns H2 b [.int .i64 s, .slice qr i cr, .slice none 0 0] 0 := O.old o2 (by omega)
    obtain ⟨H3, e4, O3, b3, n3⟩ := Ob2.st1 (o := 1) (by simp) (.slice (some ⟨b', 0, none⟩) (i + 1) unk)
    have hsn : (bs.drop 2).take (i + 1) = (bs.drop 2).take i ++ [bs.getD (2 + i) 0] := take_snoc (by rw [List.getElem?_drop]; exact g)
    have B3 : Bld (b + 1) 1 H3 (some ⟨b', 0, none⟩) (i + 1) unk (ints ((bs.drop 2).take (i + 1))) := by
      rw [hsn]
      rcases B2 with ⟨h, _⟩ | ⟨b5, h, h1, h2, h3, h4⟩
      · cases h
      · cases h; exact .inr ⟨_, rfl, h1, h2, h3.but b3 (by omega), h4⟩
    have o03 : Old N H H3 := (o2.mono (by omega)).trans (b3.old hb (by omega))
    obtain ⟨H4, qr', cr', e5, O4, B4, o4⟩ := ih f (i + 1) (by omega) (by omega) H3 _ unk O3 B3 (hS.old o03 (by
      rcases hq with h | h
      · left; rw [h]; rfl
      · exact .inr h))
    refine ⟨H4, qr', cr', fun R KE => ?_, O4, B4, o03.trans o4⟩
    have m1 : hcell H b 1 = some (.slice qr i cr) := O.sees.cell 1
    unfold R46_Decode_l0 R46_Decode_l0_b
    refine go_t (decide_eq_true (by omega)) (go_fad (go_l m1 ?_))
    rw [show IntKind.wrap .i64 (2 + (i : Int)) = ((2 + i : Nat) : Int) from by rw [w64 (by omega) (by omega)]; omega]
    refine (e1 _ _).trans ((e2 _ _).trans ?_)
    rw [w64 (n := bs.getD (2 + i) 0) (by omega) (by omega)]
    refine go_halN hH1 ((e3 _ _).trans (go_fad ((e4 _ _).trans ?_)))
    rw [w64 (n := (i : Int) + 1) (by omega) (by omega)]
    exact e5 R KE
theorem rcol_l (k : Nat) {N : Nat} {q : Option Addr} {bs : List Int} {c : Nat} (p4 p7 : Option Addr) (hl : bs.length ≤ 100000) (hbs : ∀ x ∈ bs, 0 ≤ x ∧ x ≤ 255) (hq : bs = [] ∨ Below N q) {n ix a0 : Nat} (ha : a0 = n + 4 + ix * n) (ha2 : a0 + n ≤ bs.length) (mm : Int) : ∀ (m f j : Nat), m < f → n = j + m → ∀ (H : Heap) (b1 : Nat) (c1 : Nat), Grw N 1 H (some ⟨b1, 0, none⟩) j c1 (ints ((bs.drop a0).take j)) → N ≤ b1 → b1 < H.length → Shows H q (byt bs) →
    ∃ H' b' c', (∀ (R : Type) (KE : Option Addr → Nat → Nat → Option Addr → Int → Int → Option Addr → Int → Option Addr → Nat → Nat → Heap → Option R), R46_Decode_l2 k KE f q bs.length c p4 (n : Int) mm p7 (ix : Int) (some ⟨b1, 0, none⟩) j c1 (j : Int) H = KE q bs.length c p4 (n : Int) mm p7 (ix : Int) (some ⟨b', 0, none⟩) n c' H') ∧ Shows H' (some ⟨b', 0, none⟩) (ints ((bs.drop a0).take n)) ∧ N ≤ b' ∧ b' < H'.length ∧ Old N H H' := by
  intro m
  induction m with
  | zero =>
    intro f j hf hj H b1 c1 G hb1 hb2 hS
    obtain ⟨f, rfl⟩ : ∃ n', f = n' + 1 := ⟨f - 1, by omega⟩
    obtain rfl : n = j := by omega
    refine ⟨H, b1, c1, fun R KE => ?_, G.shows.1, hb1, hb2, .refl _ _⟩
    unfold R46_Decode_l2 R46_Decode_l2_b
    exact go_f (decide_eq_false (by omega)) rfl
  | succ m ih =>
    intro f j hf hj H b1 c1 G hb1 hb2 hS
    obtain ⟨f, rfl⟩ : ∃ n', f = n' + 1 := ⟨f - 1, by omega⟩
    obtain ⟨g, g0, g1⟩ := byte_of hbs (i := a0 + j) (by omega)
    obtain ⟨p', e1, e2⟩ := byt_at hS g
    obtain ⟨H1, b', H2, hH1, e3, B2, hb3, hb4, o2⟩ := Grw.num G (by omega) (by omega) (bs.getD (a0 + j) 0)
    have hsn : (bs.drop a0).take (j + 1) = (bs.drop a0).take j ++ [bs.getD (a0 + j) 0] := take_snoc (by rw [List.getElem?_drop]; exact g)
    rw [← hsn] at B2
    obtain ⟨H4, b5, c5, e5, S5, hb5, hb6, o5⟩ := ih f (j + 1) (by omega) (by omega) H2 b' unk (.inl B2) hb3 hb4 (hS.old o2 (by
      rcases hq with h | h
      · left; rw [h]; rfl
      · exact .inr h))
    refine ⟨H4, b5, c5, fun R KE => ?_, S5, hb5, hb6, o2.trans o5⟩
    unfold R46_Decode_l2 R46_Decode_l2_b
    refine go_t (decide_eq_true (by omega)) ?_
    have hw : IntKind.wrap .i64 (IntKind.wrap .i64 (IntKind.wrap .i64 (4 + (n : Int)) + IntKind.wrap .i64 ((ix : Int) * (n : Int))) + (j : Int)) = ((a0 + j : Nat) : Int) := by
      rw [← Int.natCast_mul]
      generalize ix * n = z at ha ⊢
      rw [w64 (n := 4 + (n : Int)) (by omega) (by omega), w64 (n := (z : Int)) (by omega) (by omega), w64 (n := 4 + (n : Int) + (z : Int)) (by omega) (by omega), w64 (by omega) (by omega)]
      omega
    rw [hw]
    refine (e1 _ _).trans ((e2 _ _).trans ?_)
    rw [w64 (n := bs.getD (a0 + j) 0) (by omega) (by omega)]
    refine go_halN hH1 ((e3 _ _).trans ?_)
    rw [w64 (n := (j : Int) + 1) (by omega) (by omega)]
    exact e5 R KE
theorem rdrow_l (k : Nat) (hk : 100000 < k) {N b : Nat} {s : Int} {rs : List Int} {qr : Option Addr} {cr : Nat} {q : Option Addr} {bs : List Int} {c : Nat} (p4 : Option Addr) (hb : N ≤ b) (hl : bs.length ≤ 100000) (hbs : ∀ x ∈ bs, 0 ≤ x ∧ x ≤ 255) (hq : bs = [] ∨ Below N q) {n m : Nat} (hlen : bs.length = n + 4 + n * m) (hn2 : n ≤ 255) (hm2 : m ≤ 65535) : ∀ (mm f ix : Nat), mm < f → m = ix + mm → ∀ (H : Heap) (rows : List Rw) (qp : Option Addr) (cp : Nat), DecS N b H s rs rows qr cr qp cp → cons rows = chunks n ix (bs.drop (n + 4)) → N ≤ H.length → Shows H q (byt bs) →
    ∃ H' rows' qp' cp', (∀ (R : Type) (KE : Option Addr → Option Addr → Heap → Option R), R46_Decode_l1 k KE f q bs.length c p4 (n : Int) (m : Int) (some ⟨b, 0, none⟩) (ix : Int) H = KE p4 (some ⟨b, 0, none⟩) H') ∧ DecS N b H' s rs rows' qr cr qp' cp' ∧ cons rows' = chunks n m (bs.drop (n + 4)) ∧ Old N H H' := by
  intro mm
  induction mm with
  | zero =>
    intro f ix hf hi H rows qp cp D hrw hN hS
    obtain ⟨f, rfl⟩ : ∃ n', f = n' + 1 := ⟨f - 1, by omega⟩
    obtain rfl : m = ix := by omega
    refine ⟨H, rows, qp, cp, fun R KE => ?_, D, hrw, .refl _ _⟩
    unfold R46_Decode_l1 R46_Decode_l1_b
    exact go_f (decide_eq_false (by omega)) rfl
  | succ mm ih =>
    intro f ix hf hi H rows qp cp D hrw hN hS
    obtain ⟨f, rfl⟩ : ∃ n', f = n' + 1 := ⟨f - 1, by omega⟩
    have hrl : rows.length = ix := by rw [← cons_len, hrw, chunks_len]
    have hmul : ix * n + n ≤ n * m := by
      have := Nat.mul_le_mul_right n (show ix + 1 ≤ m by omega)
      rw [Nat.add_mul, Nat.one_mul] at this
      rw [Nat.mul_comm n m]; exact this
    obtain ⟨H1, hH1⟩ : ∃ H1, H1 = H ++ [some (⟨[], false, 0⟩ : Blk)] := ⟨_, rfl⟩
    have o1 : Old H.length H H1 := hH1 ▸ Old.app _ _
    have l1 : H1.length = H.length + 1 := by rw [hH1]; simp
    have hq' : bs = [] ∨ Below H.length q := by
      rcases hq with h | h
      · exact .inl h
      · exact .inr fun a ha => by have := h a ha; omega
    obtain ⟨H2, b2, c2, e2, S2, hb2, hb2', o2⟩ := rcol_l k (N := H.length) (c := c) p4 (some ⟨b, 0, none⟩) hl hbs hq' (n := n) (ix := ix) (a0 := n + 4 + ix * n) rfl (by omega) (m : Int) n k 0 (by omega) (by omega) H1 H.length 0 (.inr ⟨rfl, by unfold unk; omega, .inl (by simp [ints]), by simp [ints]⟩) (Nat.le_refl _) (by omega) (hS.keep o1)
    have oH2 : Old H.length H H2 := o1.trans o2
    have l2 := oH2.1
    have D2 := D.keep oH2
    obtain ⟨xs, hxs⟩ : ∃ xs, xs = (bs.drop (n + 4 + ix * n)).take n := ⟨_, rfl⟩
    have hxl : xs.length = n := by rw [hxs]; simp; omega
    rw [← hxs] at S2
    have hbl := D.o.lt
    obtain ⟨H3, H4, H5, qn, hH3, e4, e5, D5, o5⟩ := D2.more (by omega) hb (by omega) (some ⟨b2, 0, none⟩, c2, xs) S2 (fun a ha => by
      simp only at ha
      cases ha
      simp only
      exact ⟨by omega, hb2', fun a' ha' => by have := D.p.below a' ha'; omega, by omega⟩)
    have o05 : Old N H H5 := (oH2.mono hN).trans o5
    have hrw' : cons (rows ++ [(some ⟨b2, 0, none⟩, c2, xs)]) = chunks n (ix + 1) (bs.drop (n + 4)) := by
      rw [cons_app, hrw, chunks_snoc, List.drop_drop, hxs]; rfl
    obtain ⟨Ha, rows', qp', cp', ea, Da, ca, oa⟩ := ih f (ix + 1) (by omega) (by omega) H5 _ qn unk D5 hrw' (by have := o05.1; omega) (hS.old o05 (by
      rcases hq with h | h
      · left; rw [h]; rfl
      · exact .inr h))
    refine ⟨Ha, rows', qp', cp', fun R KE => ?_, Da, ca, o05.trans oa⟩
    have m2 : hcell H2 b 2 = some (.slice qp rows.length cp) := D2.o.sees.cell 2
    have hrc : rc (some ⟨b2, 0, none⟩, c2, xs) = .slice (some ⟨b2, 0, none⟩) n c2 := by unfold rc; rw [hxl]
    rw [hrc] at hH3
    unfold R46_Decode_l1 R46_Decode_l1_b
    refine go_t (decide_eq_true (by omega)) (go_halN hH1 ((e2 _ _).trans (go_fad (go_l m2 (go_halN hH3 ((e4 _ _).trans (go_fad ((e5 _ _).trans ?_))))))))
    rw [w64 (n := (ix : Int) + 1) (by omega) (by omega)]
    exact ea R KE
theorem rdecode_eq {k : Nat} (hk : 100000 < k) {H : Heap} {q : Option Addr} {bs : List Int} {c : Nat} (h : Shows H q (byt bs)) (hc : c = unk ∨ bs.length ≤ c ∧ c < unk) (hl : bs.length ≤ 100000) (hbs : ∀ x ∈ bs, 0 ≤ x ∧ x ≤ 255) :
    ∃ (H' : Heap) (s' : Int) (q' : Option Addr) (c' : Nat) (q2' : Option Addr) (c2' : Nat) (rs' : List Int) (rows' : List Rw) (e : Int), (∀ (R : Type) (K : Int → Option Addr → Nat → Nat → Option Addr → Nat → Nat → Int → Heap → Option R), R46_Decode k q bs.length c H K = K s' q' rs'.length c' q2' rows'.length c2' e H') ∧ Old H.length H H' ∧ Shows H' q' (ints rs') ∧ PalS H' q2' rows' ∧ (s', rs', cons rows', e) = decR bs := by
  obtain ⟨H1, hH1⟩ : ∃ H1, H1 = H ++ [some (⟨[.int .i64 0, .slice none 0 0, .slice none 0 0], false, 0⟩ : Blk)] := ⟨_, rfl⟩
  have o1 : Old H.length H H1 := hH1 ▸ Old.app _ _
  have O1 : Owns H1 H.length [.int .i64 0, .slice none 0 0, .slice none 0 0] 0 := by rw [hH1]; exact hblk_new H _
  have l1 : H1.length = H.length + 1 := by rw [hH1]; simp
  have h1 := h.keep o1
  obtain ⟨Hz, ez, bz, nz'⟩ := put3 O1 rfl 0 none 0 0 none 0 0
  have oz : Old H.length H Hz := o1.trans (bz.old (Nat.le_refl _) (by omega))
  have fail : ∀ (e : Int), decR bs = (0, [], [], e) → (∀ (R : Type) (K : Int → Option Addr → Nat → Nat → Option Addr → Nat → Nat → Int → Heap → Option R), R46_Decode k q bs.length c H K = K 0 none 0 0 none 0 0 e Hz) → ∃ (H' : Heap) (s' : Int) (q' : Option Addr) (c' : Nat) (q2' : Option Addr) (c2' : Nat) (rs' : List Int) (rows' : List Rw) (e : Int), (∀ (R : Type) (K : Int → Option Addr → Nat → Nat → Option Addr → Nat → Nat → Int → Heap → Option R), R46_Decode k q bs.length c H K = K s' q' rs'.length c' q2' rows'.length c2' e H') ∧ Old H.length H H' ∧ Shows H' q' (ints rs') ∧ PalS H' q2' rows' ∧ (s', rs', cons rows', e) = decR bs := fun e h1 h2 => ⟨Hz, 0, none, 0, none, 0, [], [], e, h2, oz, .inl rfl, ⟨.inl rfl, fun r hr => by cases hr⟩, h1.symm⟩
  by_cases c1 : bs.length < 2
  · refine fail 7 (by unfold decR; rw [if_pos c1]) fun R K => ?_
    unfold R46_Decode R46_Decode_b
    exact go_halN hH1 (go_t (decide_eq_true (by omega)) (ez R fun a b c d e f g h => K a b c d e f g 7 h))
  obtain ⟨g1, b1, b1'⟩ := byte_of hbs (i := 1) (by omega)
  obtain ⟨n, hn⟩ : ∃ n, n = dn bs := ⟨_, rfl⟩
  have hn' : bs.getD 1 0 = (n : Int) := by rw [hn]; unfold dn; omega
  rw [hn'] at g1 b1'
  obtain ⟨p1, e1, e1'⟩ := byt_at h1 g1
  have wn : IntKind.wrap .i64 (n : Int) = (n : Int) := w64 (by omega) (by omega)
  have wn4 : IntKind.wrap .i64 (4 + (n : Int)) = ((n + 4 : Nat) : Int) := by rw [w64 (by omega) (by omega)]; omega
  by_cases c2 : bs.length < n + 4
  · refine fail 7 (by unfold decR; rw [if_neg c1, ← hn, if_pos c2]) fun R K => ?_
    unfold R46_Decode R46_Decode_b
    refine go_halN hH1 (go_f (decide_eq_false (by omega)) ((e1 _ _).trans ((e1' _ _).trans ?_)))
    rw [wn, wn4]
    exact go_t (decide_eq_true (by omega)) (ez R fun a b c d e f g h => K a b c d e f g 7 h)
  obtain ⟨g2, b2, b2'⟩ := byte_of hbs (i := n + 2) (by omega)
  obtain ⟨g3, b3, b3'⟩ := byte_of hbs (i := n + 3) (by omega)
  obtain ⟨x, hx⟩ : ∃ x : Nat, bs.getD (n + 2) 0 = (x : Int) := ⟨(bs.getD (n + 2) 0).toNat, by omega⟩
  obtain ⟨y, hy⟩ : ∃ y : Nat, bs.getD (n + 3) 0 = (y : Int) := ⟨(bs.getD (n + 3) 0).toNat, by omega⟩
  rw [hx] at g2 b2'
  rw [hy] at g3 b3'
  obtain ⟨p2, e2, e2'⟩ := byt_at h1 g2
  obtain ⟨p3, e3, e3'⟩ := byt_at h1 g3
  obtain ⟨m, hm⟩ : ∃ m, m = x * 256 + y := ⟨_, rfl⟩
  have hdm : dm bs = m := by unfold dm; rw [← hn, hx, hy, hm]; omega
  have hmb : m ≤ 65535 := by omega
  have hnm : n * m ≤ 255 * 65535 := Nat.mul_le_mul (by omega) hmb
  have wx : IntKind.wrap .i64 (x : Int) = (x : Int) := w64 (by omega) (by omega)
  have wy : IntKind.wrap .i64 (y : Int) = (y : Int) := w64 (by omega) (by omega)
  have wx2 : IntKind.wrap .i64 ((x : Int) * 256) = ((x * 256 : Nat) : Int) := by rw [w64 (by omega) (by omega)]; omega
  have wxy : IntKind.wrap .i64 (((x * 256 : Nat) : Int) + (y : Int)) = (m : Int) := by rw [w64 (by omega) (by omega)]; omega
  have wnm : IntKind.wrap .i64 (((n + 4 : Nat) : Int) + IntKind.wrap .i64 ((m : Int) * (n : Int))) = ((n + 4 + n * m : Nat) : Int) := by
    rw [Int.mul_comm, ← Int.natCast_mul, w64 (n := ((n * m : Nat) : Int)) (by omega) (by omega), w64 (by omega) (by omega)]; omega
  have wn2 : IntKind.wrap .i64 (2 + (n : Int)) = ((n + 2 : Nat) : Int) := by rw [w64 (by omega) (by omega)]; omega
  have wn3 : IntKind.wrap .i64 (3 + (n : Int)) = ((n + 3 : Nat) : Int) := by rw [w64 (by omega) (by omega)]; omega
  have hdec : decR bs = if bs.length < n + 4 + n * m then (0, [], [], 7) else if bs.length > n + 4 + n * m then (0, [], [], 9) else dec2 (bs.getD 0 0) ((bs.drop 2).take n) (chunks n m (bs.drop (n + 4))) := by
    unfold decR; rw [if_neg c1, ← hn, if_neg c2, hdm]
  by_cases c3 : bs.length < n + 4 + n * m
  · refine fail 7 (by rw [hdec, if_pos c3]) fun R K => ?_
    unfold R46_Decode R46_Decode_b
    refine go_halN hH1 (go_f (decide_eq_false (by omega)) ((e1 _ _).trans ((e1' _ _).trans ?_)))
    rw [wn, wn4, wn2, wn3]
    refine go_f (decide_eq_false (by omega)) ((e2 _ _).trans ((e2' _ _).trans ((e3 _ _).trans ((e3' _ _).trans ?_))))
    rw [wx, wy, wx2]
    rw [wxy, wnm]
    exact go_t (decide_eq_true (by omega)) (ez R fun a b c d e f g h => K a b c d e f g 7 h)
  by_cases c4 : bs.length > n + 4 + n * m
  · refine fail 9 (by rw [hdec, if_neg c3, if_pos c4]) fun R K => ?_
    unfold R46_Decode R46_Decode_b
    refine go_halN hH1 (go_f (decide_eq_false (by omega)) ((e1 _ _).trans ((e1' _ _).trans ?_)))
    rw [wn, wn4, wn2, wn3]
    refine go_f (decide_eq_false (by omega)) ((e2 _ _).trans ((e2' _ _).trans ((e3 _ _).trans ((e3' _ _).trans ?_))))
    rw [wx, wy, wx2]
    rw [wxy, wnm]
    exact go_f (decide_eq_false (by omega)) (go_t (decide_eq_true (by omega)) (ez R fun a b c d e f g h => K a b c d e f g 9 h))
  rw [if_neg c3, if_neg c4] at hdec
  obtain ⟨g0, b0, b0'⟩ := byte_of hbs (i := 0) (by omega)
  obtain ⟨s, hs⟩ : ∃ s, s = bs.getD 0 0 := ⟨_, rfl⟩
  rw [← hs] at g0 b0 b0' hdec
  obtain ⟨p0, e0, e0'⟩ := byt_at h1 g0
  have ws : IntKind.wrap .i64 s = s := w64 (by omega) (by omega)
  obtain ⟨rs, hrs'⟩ : ∃ rs, rs = (bs.drop 2).take n := ⟨_, rfl⟩
  rw [← hrs'] at hdec
  have hrl : rs.length = n := by rw [hrs']; simp; omega
  obtain ⟨H7, hH7⟩ : ∃ H7, H7 = H1 ++ [some (⟨[.int .i64 s, .slice none 0 0, .slice none 0 0], false, 0⟩ : Blk)] := ⟨_, rfl⟩
  have o7 : Old H1.length H1 H7 := hH7 ▸ Old.app _ _
  have O7 : Owns H7 H1.length [.int .i64 s, .slice none 0 0, .slice none 0 0] 0 := by rw [hH7]; exact hblk_new H1 _
  have l7 : H7.length = H1.length + 1 := by rw [hH7]; simp
  obtain ⟨H6, q6, c6, e6, O6, B6, o6⟩ := rol_l k (N := H1.length) (c := c) (some ⟨H.length, 0, none⟩) (Nat.le_refl _) hl hbs (byt_below h1) (n := n) (by omega) (by omega) (m : Int) n k 0 (by omega) (by omega) H7 none 0 O7 (.nil _ _ _) (h1.keep o7)
  rw [← hrs'] at B6
  have o16 : Old H1.length H1 H6 := o7.trans o6
  have o06 : Old H.length H H6 := o1.trans (o16.mono (by omega))
  have D6 : DecS H1.length H1.length H6 s rs [] q6 c6 none 0 := by
    refine ⟨by rw [hrl]; exact O6, B6.shows.1, fun a ha => ?_, .nil _ _ _, (fun a ha => by cases ha), (fun r hr => by cases hr), (fun r hr => by cases hr)⟩
    rcases B6 with ⟨h, _⟩ | ⟨b6, h, _, h6, h8, _⟩
    · rw [h] at ha; cases ha
    · rw [h] at ha; cases ha
      have := h8.lt
      exact ⟨by simp only; omega, by simp only; omega, (fun a' ha' => by cases ha'), by simp only; omega⟩
  obtain ⟨H8, rows, qp, cp, e8, D8, hrows, o8⟩ := rdrow_l k hk (N := H1.length) (c := c) (some ⟨H.length, 0, none⟩) (Nat.le_refl _) hl hbs (byt_below h1) (n := n) (m := m) (by omega) (by omega) hmb m k 0 (by omega) (by omega) H6 [] none 0 D6 rfl o16.1 (h1.keep o16)
  have o08 : Old H.length H H8 := o06.trans (o8.mono (by omega))
  have l8 := o8.1
  have l6 := o16.1
  have x0 : hcell H8 H1.length 0 = some (.int .i64 s) := D8.o.sees.cell 0
  have x1 : hcell H8 H1.length 1 = some (.slice q6 rs.length c6) := D8.o.sees.cell 1
  have x2 : hcell H8 H1.length 2 = some (.slice qp rows.length cp) := D8.o.sees.cell 2
  have hrwl : rows.length = m := by rw [← cons_len, hrows, chunks_len]
  have F8 : FewC rs rows := ⟨by omega, by omega, fun r hr => by
    have : r.2.2 ∈ chunks n m (bs.drop (n + 4)) := by rw [← hrows]; exact List.mem_map.2 ⟨r, hr, rfl⟩
    have hch : ∀ (m : Nat) (l : List Int), ∀ x ∈ chunks n m l, x.length ≤ n := by
      intro m
      induction m with
      | zero => intro l x hx; cases hx
      | succ m ih =>
        intro l x hx
        rcases List.mem_cons.1 hx with rfl | hx
        · rw [List.length_take]; omega
        · exact ih _ x hx
    have := hch m _ _ this; omega⟩
  obtain ⟨H9, e9, o9⟩ := rvalid_eq (k := k) (by omega) s c6 cp D8.r D8.pal F8
  have l9 := o9.1
  have D9 := D8.keep o9
  have o09 : Old H.length H H9 := o08.trans (o9.mono (by omega))
  have Oz9 : Owns H9 H.length [.int .i64 0, .slice none 0 0, .slice none 0 0] 0 := (O1.old (o16.trans o8) (by omega)).old o9 (by omega)
  have hvc : validI s rs rows = vC s rs (chunks n m (bs.drop (n + 4))) := by rw [valid_con, hrows]
  have y0 : hcell H9 H1.length 0 = some (.int .i64 s) := D9.o.sees.cell 0
  have y1 : hcell H9 H1.length 1 = some (.slice q6 rs.length c6) := D9.o.sees.cell 1
  have y2 : hcell H9 H1.length 2 = some (.slice qp rows.length cp) := D9.o.sees.cell 2
  by_cases hv : validI s rs rows = 0
  · obtain ⟨Ha, ea, ba, na⟩ := put3 Oz9 rfl s q6 rs.length c6 qp rows.length cp
    have kp : ∀ {q : Option Addr} {cs : List Value}, Shows H9 q cs → (∀ a, q = some a → H1.length ≤ a.block ∧ a.block < H9.length) → Shows Ha q cs := fun h hh => Shows.same' h fun a ha => by have := hh a ha; exact ba.2 _ this.2 (by omega)
    refine ⟨Ha, s, q6, c6, qp, cp, rs, rows, 0, fun R K => ?_, o09.trans (ba.old (Nat.le_refl _) (by omega)), kp D9.r (fun a ha => ⟨(D9.ra a ha).2.2.2, (D9.ra a ha).2.1⟩), ⟨kp D9.p.shows.1 (fun a ha => ⟨by
      rcases D9.p with ⟨h, _⟩ | ⟨b', h, _, h3, _⟩
      · rw [h] at ha; cases ha
      · rw [h] at ha; cases ha; exact h3, D9.p.below a ha⟩), fun r hr => kp (D9.w r hr) (fun a ha => ⟨(D9.wa r hr a ha).2.2.2, (D9.wa r hr a ha).2.1⟩)⟩, ?_⟩
    · unfold R46_Decode R46_Decode_b
      refine go_halN hH1 (go_f (decide_eq_false (by omega)) ((e1 _ _).trans ((e1' _ _).trans ?_)))
      rw [wn, wn4, wn2, wn3]
      refine go_f (decide_eq_false (by omega)) ((e2 _ _).trans ((e2' _ _).trans ((e3 _ _).trans ((e3' _ _).trans ?_))))
      rw [wx, wy, wx2]
      rw [wxy, wnm]
      refine go_f (decide_eq_false (by omega)) (go_f (decide_eq_false (by omega)) ((e0 _ _).trans ((e0' _ _).trans ?_)))
      rw [ws]
      refine go_halst hH7 rfl rfl ((e6 _ _).trans ((e8 _ _).trans (go_ip x0 (go_lp x1 (go_lp x2 ((e9 _ _).trans ?_))))))
      refine go_f (by rw [hv]; rfl) (go_ip y0 (go_lp y1 (go_lp y2 ?_)))
      exact ea R fun a b c d e f g h => K a b c d e f g 0 h
    · rw [hdec, hrows]
      unfold dec2
      rw [if_pos (by rw [← hvc]; exact hv)]
  · obtain ⟨Ha, ea, ba, na⟩ := put3 Oz9 rfl 0 none 0 0 none 0 0
    refine ⟨Ha, 0, none, 0, none, 0, [], [], validI s rs rows, fun R K => ?_, o09.trans (ba.old (Nat.le_refl _) (by omega)), .inl rfl, ⟨.inl rfl, fun r hr => by cases hr⟩, ?_⟩
    · unfold R46_Decode R46_Decode_b
      refine go_halN hH1 (go_f (decide_eq_false (by omega)) ((e1 _ _).trans ((e1' _ _).trans ?_)))
      rw [wn, wn4, wn2, wn3]
      refine go_f (decide_eq_false (by omega)) ((e2 _ _).trans ((e2' _ _).trans ((e3 _ _).trans ((e3' _ _).trans ?_))))
      rw [wx, wy, wx2]
      rw [wxy, wnm]
      refine go_f (decide_eq_false (by omega)) (go_f (decide_eq_false (by omega)) ((e0 _ _).trans ((e0' _ _).trans ?_)))
      rw [ws]
      refine go_halst hH7 rfl rfl ((e6 _ _).trans ((e8 _ _).trans (go_ip x0 (go_lp x1 (go_lp x2 ((e9 _ _).trans ?_))))))
      refine go_t (by rw [bne_iff_ne]; exact hv) ?_
      exact ea R fun a b c d e f g h => K a b c d e f g (validI s rs rows) h
    · rw [hdec]
      unfold dec2
      rw [if_neg (by rw [← hvc]; exact hv), hvc]
      rfl
end Go.Proofs.Ytkjcjlembepdkaa.Sh
