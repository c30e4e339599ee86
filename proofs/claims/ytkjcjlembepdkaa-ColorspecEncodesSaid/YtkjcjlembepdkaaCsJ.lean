/- Colorspec: the reference's Encode. -/
import Derived.Test.YtkjcjlembepdkaaCsI
set_option linter.unusedVariables false
set_option linter.unusedSimpArgs false
namespace Go.Proofs.Ytkjcjlembepdkaa.Sh
open Go.Proofs.Ytkjcjlembepdkaa.FW
theorem At3.old {H H' : Heap} {b N : Nat} {s : Int} {q : Option Addr} {l c : Nat} {q2 : Option Addr} {l2 c2 : Nat} (A : At3 H b s q l c q2 l2 c2) (o : Old N H H') (hb : b < N) : At3 H' b s q l c q2 l2 c2 := by
  have h : ∀ i, hcell H' b i = hcell H b i := fun i => by unfold hcell; rw [o.2 b hb]
  exact ⟨(h 0).trans A.a, (h 1).trans A.b', (h 2).trans A.c'⟩
theorem renc0_l (k : Nat) {N b : Nat} {s : Int} {q q2 : Option Addr} {l2 c2 : Nat} {rs : List Int} (c : Nat) (hl : rs.length ≤ 1000) (hb : b < N) : ∀ (m n i : Nat), m < n → rs.length = i + m → ∀ (H : Heap) (q1 : Option Addr) (c1 : Nat) (bs : List Int), Grw N 1 H q1 bs.length c1 (byt bs) → N ≤ H.length → At3 H b s q rs.length c q2 l2 c2 → (∀ a, q = some a → a.block < N) → Shows H q (ints rs) → bs.length + m ≤ 10000000 →
    ∃ H' q' c', (∀ (R : Type) (KE : Option Addr → Option Addr → Nat → Nat → Heap → Option R), R46_Encode_l0 k KE n (some ⟨b, 0, none⟩) q1 bs.length c1 (i : Int) H = KE (some ⟨b, 0, none⟩) q' (bs ++ (rs.drop i).map w8).length c' H') ∧ Grw N 1 H' q' (bs ++ (rs.drop i).map w8).length c' (byt (bs ++ (rs.drop i).map w8)) ∧ Old N H H' := by
  intro m
  induction m with
  | zero =>
    intro n i hn hj H q1 c1 bs G hN A hq hS hbl
    obtain ⟨n, rfl⟩ : ∃ n', n = n' + 1 := ⟨n - 1, by omega⟩
    have : bs ++ (rs.drop i).map w8 = bs := by rw [List.drop_eq_nil_of_le (by omega)]; simp
    rw [this]
    refine ⟨H, q1, c1, fun R KE => ?_, G, .refl _ _⟩
    unfold R46_Encode_l0 R46_Encode_l0_b
    exact go_fad (go_l A.b' (go_f (decide_eq_false (by omega)) rfl))
  | succ m ih =>
    intro n i hn hj H q1 c1 bs G hN A hq hS hbl
    obtain ⟨n, rfl⟩ : ∃ n', n = n' + 1 := ⟨n - 1, by omega⟩
    obtain ⟨x, hx⟩ := ex_get (l := rs) (i := i) (by omega)
    obtain ⟨p', e1, e2⟩ := int_at hS hx
    obtain ⟨H1, q2', H2, hH1, e3, G2, o2, l2'⟩ := G.one hN (by omega) (w8 x)
    have hS2 := hS.old o2 (.inr hq)
    obtain ⟨H3, q3, c3, e4, G3, o3⟩ := ih n (i + 1) (by omega) (by omega) H2 q2' unk _ G2 (by omega) (A.old o2 hb) hq hS2 (by rw [List.length_append, List.length_singleton]; omega)
    have he : bs ++ (rs.drop i).map w8 = bs ++ [w8 x] ++ (rs.drop (i + 1)).map w8 := by rw [drop_cons hx]; simp
    rw [he]
    refine ⟨H3, q3, c3, fun R KE => ?_, G3, o2.trans o3⟩
    unfold R46_Encode_l0 R46_Encode_l0_b
    refine go_fad (go_l A.b' (go_t (decide_eq_true (by omega)) (go_fad (go_l A.b' ((e1 _ _).trans ((e2 _ _).trans (go_halN hH1 ((e3 _ _).trans ?_))))))))
    rw [w64 (n := (i : Int) + 1) (by omega) (by omega)]
    have := e4 R KE
    rw [List.length_append] at this
    exact this
theorem renc2_l (k : Nat) {N b : Nat} {s : Int} {q q2 : Option Addr} {l c c2 : Nat} {rows : List Rw} (hb : b < N) {ix : Nat} {r : Rw} (hx : rows[ix]? = some r) (hrl : r.2.2.length ≤ 1000) : ∀ (m n i : Nat), m < n → r.2.2.length = i + m → ∀ (H : Heap) (q1 : Option Addr) (c1 : Nat) (bs : List Int), Grw N 1 H q1 bs.length c1 (byt bs) → N ≤ H.length → At3 H b s q l c q2 rows.length c2 → PalB N H q2 rows → bs.length + m ≤ 80000000 →
    ∃ H' q' c', (∀ (R : Type) (KE : Option Addr → Option Addr → Nat → Nat → Int → Heap → Option R), R46_Encode_l2 k KE n (some ⟨b, 0, none⟩) q1 bs.length c1 (ix : Int) (i : Int) H = KE (some ⟨b, 0, none⟩) q' (bs ++ (r.2.2.drop i).map w8).length c' (ix : Int) H') ∧ Grw N 1 H' q' (bs ++ (r.2.2.drop i).map w8).length c' (byt (bs ++ (r.2.2.drop i).map w8)) ∧ Old N H H' := by
  intro m
  induction m with
  | zero =>
    intro n i hn hj H q1 c1 bs G hN A hP hbl
    obtain ⟨n, rfl⟩ : ∃ n', n = n' + 1 := ⟨n - 1, by omega⟩
    obtain ⟨p, e1, e2⟩ := row_at hP.p hx
    have : bs ++ (r.2.2.drop i).map w8 = bs := by rw [List.drop_eq_nil_of_le (by omega)]; simp
    rw [this]
    refine ⟨H, q1, c1, fun R KE => ?_, G, .refl _ _⟩
    unfold R46_Encode_l2 R46_Encode_l2_b
    exact go_fad (go_l A.c' ((e1 _ _).trans ((e2 _ _).trans (go_f (decide_eq_false (by omega)) rfl))))
  | succ m ih =>
    intro n i hn hj H q1 c1 bs G hN A hP hbl
    obtain ⟨n, rfl⟩ : ∃ n', n = n' + 1 := ⟨n - 1, by omega⟩
    obtain ⟨p, e1, e2⟩ := row_at hP.p hx
    obtain ⟨x, hy⟩ := ex_get (l := r.2.2) (i := i) (by omega)
    obtain ⟨p', e3, e4⟩ := int_at (hP.p.rw r (List.mem_of_getElem? hx)) hy
    obtain ⟨H1, q2', H2, hH1, e5, G2, o2, l2'⟩ := G.one hN (by omega) (w8 x)
    obtain ⟨H3, q3, c3, e6, G3, o3⟩ := ih n (i + 1) (by omega) (by omega) H2 q2' unk _ G2 (by omega) (A.old o2 hb) (hP.old o2) (by rw [List.length_append, List.length_singleton]; omega)
    have he : bs ++ (r.2.2.drop i).map w8 = bs ++ [w8 x] ++ (r.2.2.drop (i + 1)).map w8 := by rw [drop_cons hy]; simp
    rw [he]
    refine ⟨H3, q3, c3, fun R KE => ?_, G3, o2.trans o3⟩
    unfold R46_Encode_l2 R46_Encode_l2_b
    refine go_fad (go_l A.c' ((e1 _ _).trans ((e2 _ _).trans (go_t (decide_eq_true (by omega)) (go_fad (go_l A.c' ((e1 _ _).trans ((e2 _ _).trans ((e3 _ _).trans ((e4 _ _).trans (go_halN hH1 ((e5 _ _).trans ?_))))))))))))
    rw [w64 (n := (i : Int) + 1) (by omega) (by omega)]
    have := e6 R KE
    rw [List.length_append] at this
    exact this
theorem renc1_l (k : Nat) (hk : 80000 < k) {N b : Nat} {s : Int} {q q2 : Option Addr} {l c c2 : Nat} {rows : List Rw} (hl : rows.length ≤ 70000) (hr : ∀ r ∈ rows, r.2.2.length ≤ 1000) (hb : b < N) : ∀ (m n i : Nat), m < n → rows.length = i + m → ∀ (H : Heap) (q1 : Option Addr) (c1 : Nat) (bs : List Int), Grw N 1 H q1 bs.length c1 (byt bs) → N ≤ H.length → At3 H b s q l c q2 rows.length c2 → PalB N H q2 rows → bs.length + m * 1000 ≤ 79000000 →
    ∃ H' q' c', (∀ (R : Type) (KE : Option Addr → Nat → Nat → Heap → Option R), R46_Encode_l1 k KE n (some ⟨b, 0, none⟩) q1 bs.length c1 (i : Int) H = KE q' (bs ++ (rows.drop i).flatMap rcon).length c' H') ∧ Grw N 1 H' q' (bs ++ (rows.drop i).flatMap rcon).length c' (byt (bs ++ (rows.drop i).flatMap rcon)) ∧ Old N H H' := by
  intro m
  induction m with
  | zero =>
    intro n i hn hj H q1 c1 bs G hN A hP hbl
    obtain ⟨n, rfl⟩ : ∃ n', n = n' + 1 := ⟨n - 1, by omega⟩
    have : bs ++ (rows.drop i).flatMap rcon = bs := by rw [List.drop_eq_nil_of_le (by omega)]; simp
    rw [this]
    refine ⟨H, q1, c1, fun R KE => ?_, G, .refl _ _⟩
    unfold R46_Encode_l1 R46_Encode_l1_b
    exact go_fad (go_l A.c' (go_f (decide_eq_false (by omega)) rfl))
  | succ m ih =>
    intro n i hn hj H q1 c1 bs G hN A hP hbl
    obtain ⟨n, rfl⟩ : ∃ n', n = n' + 1 := ⟨n - 1, by omega⟩
    obtain ⟨r, hx⟩ := ex_get (l := rows) (i := i) (by omega)
    have hrl := hr r (List.mem_of_getElem? hx)
    have he : bs ++ (rows.drop i).flatMap rcon = bs ++ r.2.2.map w8 ++ (rows.drop (i + 1)).flatMap rcon := by rw [drop_cons hx]; simp [rcon]
    obtain ⟨H2, q2', c2', e3, G2, o2⟩ := renc2_l k hb hx hrl r.2.2.length k 0 (by omega) (by omega) H q1 c1 bs G hN A hP (by omega)
    rw [List.drop_zero] at e3 G2
    obtain ⟨H3, q3, c3, e4, G3, o3⟩ := ih n (i + 1) (by omega) (by omega) H2 q2' c2' _ G2 (by have := o2.1; omega) (A.old o2 hb) (hP.old o2) (by rw [List.length_append, List.length_map]; omega)
    rw [he]
    refine ⟨H3, q3, c3, fun R KE => ?_, G3, o2.trans o3⟩
    unfold R46_Encode_l1 R46_Encode_l1_b
    refine go_fad (go_l A.c' (go_t (decide_eq_true (by omega)) ((e3 _ _).trans ?_)))
    try dsimp only
    rw [w64 (n := (i : Int) + 1) (by omega) (by omega)]
    exact e4 R KE
theorem rencode_eq {k : Nat} (hk : 80000 < k) {H : Heap} {q q2 : Option Addr} {rs : List Int} {rows : List Rw} (s : Int) (c c2 : Nat) (h : Shows H q (ints rs)) (hp : PalS H q2 rows) (F : FewC rs rows) :
    ∃ H' q' c', (∀ (R : Type) (K : Option Addr → Nat → Nat → Int → Heap → Option R), R46_Encode k s q rs.length c q2 rows.length c2 H K = K q' (encR s rs rows).length c' (validI s rs rows) H') ∧ Old H.length H H' ∧ Shows H' q' (byt (encR s rs rows)) := by
  have fb := F.b
  have fa := F.a
  obtain ⟨H1, hH1⟩ : ∃ H1, H1 = H ++ [some (⟨[.int .i64 s, .slice q rs.length c, .slice q2 rows.length c2], false, 0⟩ : Blk)] := ⟨_, rfl⟩
  have o1 : Old H.length H H1 := hH1 ▸ Old.app _ _
  have O1 : Owns H1 H.length [.int .i64 s, .slice q rs.length c, .slice q2 rows.length c2] 0 := by rw [hH1]; exact hblk_new H _
  have l1 : H1.length = H.length + 1 := by rw [hH1]; simp
  have A := at3 O1
  obtain ⟨H2, e2, o2⟩ := rvalid_eq (k := k) hk s c c2 (h.keep o1) (hp.keep o1) F
  have oo : Old H.length H H2 := o1.trans (o2.mono (by omega))
  have l2 := o2.1
  by_cases hv : validI s rs rows = 0
  case neg =>
    have he : encR s rs rows = [] := by unfold encR; rw [if_neg hv]
    rw [he]
    refine ⟨H2, none, 0, fun R K => ?_, oo, .inl rfl⟩
    unfold R46_Encode R46_Encode_b
    exact go_halN hH1 (go_ip A.a (go_lp A.b' (go_lp A.c' ((e2 _ _).trans (go_t (by rw [bne_iff_ne]; exact hv) rfl)))))
  have he : encR s rs rows = encB s rs rows := by unfold encR; rw [if_pos hv]
  rw [he, hv]
  have B := at3 (O1.old o2 (by omega))
  obtain ⟨H3, hH3⟩ : ∃ H3, H3 = H2 ++ [some (⟨[.int .u8 (w8 s), .int .u8 (w8 ((rs.length : Nat) : Int))], false, 0⟩ : Blk)] := ⟨_, rfl⟩
  have o3 : Old H2.length H2 H3 := hH3 ▸ Old.app _ _
  have O3 : Owns H3 H2.length (byt [w8 s, w8 ((rs.length : Nat) : Int)]) 0 := by rw [hH3]; exact hblk_new H2 _
  have l3 : H3.length = H2.length + 1 := by rw [hH3]; simp
  have C3 := at3 ((O1.old o2 (by omega)).old o3 (by omega))
  have o03 := oo.trans (o3.mono (by omega))
  have G3 : Grw H2.length 1 H3 (some ⟨H2.length, 0, none⟩) [w8 s, w8 ((rs.length : Nat) : Int)].length 2 (byt [w8 s, w8 ((rs.length : Nat) : Int)]) := .inr ⟨rfl, by unfold unk; omega, O3.sees.shows, rfl⟩
  have hne := valid_few hv
  have hq2 : ∀ a, q = some a → a.block < H2.length := by
    intro a ha
    rcases ints_below h with h | h
    · rw [h] at hne; simp at hne
    · have := h a ha; omega
  obtain ⟨H4, q4, c4, e4, G4, o4⟩ := renc0_l k (b := H.length) (s := s) (q2 := q2) (l2 := rows.length) (c2 := c2) c fa (by omega) rs.length k 0 (by omega) (by omega) H3 _ 2 _ G3 (by omega) C3 hq2 (h.keep o03) (by simp; omega)
  rw [List.drop_zero] at e4 G4
  have l4 := o4.1
  have o04 : Old H.length H H4 := o03.trans (o4.mono (by omega))
  have O4 : Owns H4 H.length [.int .i64 s, .slice q rs.length c, .slice q2 rows.length c2] 0 := by
    have := (O1.old o2 (by omega)).old o3 (by omega)
    exact this.old o4 (by omega)
  have D4 := at3 O4
  obtain ⟨H5, hH5⟩ : ∃ H5, H5 = H4 ++ [some (⟨[.int .u8 (w8 (Int.fdiv ((rows.length : Nat) : Int) 256)), .int .u8 (w8 ((rows.length : Nat) : Int))], false, 0⟩ : Blk)] := ⟨_, rfl⟩
  have o5 : Old H4.length H4 H5 := hH5 ▸ Old.app _ _
  have O5 : Owns H5 H4.length (byt [w8 (Int.fdiv ((rows.length : Nat) : Int) 256), w8 ((rows.length : Nat) : Int)]) 0 := by rw [hH5]; exact hblk_new H4 _
  have l5 : H5.length = H4.length + 1 := by rw [hH5]; simp
  obtain ⟨q6, H6, e6, G6, o6, l6⟩ := (G4.keep o5).app (bytes := 1) (n := 2) (by omega) O5.sees.shows rfl (by simp; omega) (by omega)
  have o56 : Old H2.length H4 H6 := (o5.mono (by omega)).trans o6
  have o06 : Old H.length H H6 := o04.trans (o56.mono (by omega))
  have E6 := at3 (O4.old o56 (by omega))
  have G6' : Grw H2.length 1 H6 q6 ([w8 s, w8 ((rs.length : Nat) : Int)] ++ rs.map w8 ++ [w8 (Int.fdiv ((rows.length : Nat) : Int) 256), w8 ((rows.length : Nat) : Int)]).length unk (byt ([w8 s, w8 ((rs.length : Nat) : Int)] ++ rs.map w8 ++ [w8 (Int.fdiv ((rows.length : Nat) : Int) 256), w8 ((rows.length : Nat) : Int)])) := by
    rw [List.length_append, byt_app]
    exact G6
  have P6 : PalB H2.length H6 q2 rows := by
    have := (hp.keep oo).below
    exact this.old ((o3.mono (by omega)).trans (o4.trans o56))
  obtain ⟨H7, q7, c7, e7, G7, o7⟩ := renc1_l k hk fb F.c (by omega) rows.length k 0 (by omega) (by omega) H6 q6 unk _ G6' (by omega) E6 P6 (by simp; omega)
  rw [List.drop_zero] at e7 G7
  refine ⟨H7, q7, c7, fun R K => ?_, o06.trans (o7.mono (by omega)), G7.shows.1⟩
  have e5 : R46_Encode k s q rs.length c q2 rows.length c2 H K = happS 1 1 H5 q4 ([w8 s, w8 ((rs.length : Nat) : Int)] ++ rs.map w8).length c4 (some ⟨H4.length, 0, none⟩) 2 fun q50 l51 c52 H53 => R46_Encode_l1 k (fun q61 l62 c63 H64 => K q61 l62 c63 0 H64) k (some ⟨H.length, 0, none⟩) q50 l51 c52 0 H53 := by
    unfold R46_Encode R46_Encode_b
    refine go_halN hH1 (go_ip A.a (go_lp A.b' (go_lp A.c' ((e2 _ _).trans (go_f (by rw [hv]; rfl) (go_fad (go_i B.a (go_fad (go_l B.b' (go_halN hH3 ((e4 _ _).trans ?_)))))))))))
    exact go_fad (go_l D4.c' (go_fad (go_l D4.c' (go_halN hH5 rfl))))
  rw [e5]
  refine (e6 _ _).trans ?_
  have := e7 R (fun q61 l62 c63 H64 => K q61 l62 c63 0 H64)
  rw [List.length_append (bs := [_, _])] at this
  exact this
end Go.Proofs.Ytkjcjlembepdkaa.Sh
