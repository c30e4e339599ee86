/- Colorspec: the reference's palette, Valid, Check, Few. -/
import Derived.Test.YtkjcjlembepdkaaCsF
set_option linter.unusedVariables false
set_option linter.unusedSimpArgs false
namespace Go.Proofs.Ytkjcjlembepdkaa.Sh
open Go.Proofs.Ytkjcjlembepdkaa.FW
theorem col_l (k : Nat) {b : Nat} {s : Int} {H : Heap} {q q2 : Option Addr} {l c c2 : Nat} {rows : List Rw} (A : At3 H b s q l c q2 rows.length c2) (hp : PalS H q2 rows) {ix : Nat} {r : Rw} (hx : rows[ix]? = some r) (hr : r.2.2.length ≤ 1000) : ∀ (m n i : Nat), m < n → r.2.2.length = i + m → ∀ (R : Type) (KE : Option Addr → Int → Option R) (KR : Bool → Option R),
    R46_palette_l2 k KE KR n (some ⟨b, 0, none⟩) (ix : Int) (i : Int) H = bif inB 0 255 (r.2.2.drop i) then KE (some ⟨b, 0, none⟩) (ix : Int) else KR false := by
  obtain ⟨p, e1, e2⟩ := row_at hp hx
  have hS := hp.rw r (List.mem_of_getElem? hx)
  intro m
  induction m with
  | zero =>
    intro n i hn hj R KE KR
    obtain ⟨n, rfl⟩ : ∃ n', n = n' + 1 := ⟨n - 1, by omega⟩
    unfold R46_palette_l2 R46_palette_l2_b
    rw [List.drop_eq_nil_of_le (by omega)]
    exact go_fad (go_l A.c' ((e1 _ _).trans ((e2 _ _).trans (go_f (decide_eq_false (by omega)) rfl))))
  | succ m ih =>
    intro n i hn hj R KE KR
    obtain ⟨n, rfl⟩ : ∃ n', n = n' + 1 := ⟨n - 1, by omega⟩
    obtain ⟨x, hy⟩ := ex_get (l := r.2.2) (i := i) (by omega)
    obtain ⟨p', e3, e4⟩ := int_at hS hy
    rw [drop_cons hy]
    unfold R46_palette_l2 R46_palette_l2_b R46_palette_p3 R46_palette_p3_b
    refine go_fad (go_l A.c' ((e1 _ _).trans ((e2 _ _).trans (go_t (decide_eq_true (by omega)) ?_))))
    refine go_fad (go_l A.c' ((e1 _ _).trans ((e2 _ _).trans ((e3 _ _).trans ((e4 _ _).trans ?_)))))
    show _ = bif (decide (0 ≤ x ∧ x ≤ 255) && inB 0 255 (r.2.2.drop (i + 1))) then _ else _
    by_cases h1 : x < 0
    · rw [show decide (0 ≤ x ∧ x ≤ 255) = false from decide_eq_false (by omega)]
      exact go_t (decide_eq_true h1) rfl
    · refine go_f (decide_eq_false h1) (go_fad (go_l A.c' ((e1 _ _).trans ((e2 _ _).trans ((e3 _ _).trans ((e4 _ _).trans ?_))))))
      by_cases h2 : x > 255
      · rw [show decide (0 ≤ x ∧ x ≤ 255) = false from decide_eq_false (by omega)]
        exact go_t (decide_eq_true h2) rfl
      · rw [show decide (0 ≤ x ∧ x ≤ 255) = true from decide_eq_true (by omega), Bool.true_and]
        refine go_f (decide_eq_false h2) ?_
        dsimp only
        rw [w64 (n := (i : Int) + 1) (by omega) (by omega)]
        exact ih n (i + 1) (by omega) (by omega) R KE KR
theorem rrows_l (k : Nat) (hk : 1000 < k) {b : Nat} {s : Int} {H : Heap} {q q2 : Option Addr} {l c c2 : Nat} {rows : List Rw} (A : At3 H b s q l c q2 rows.length c2) (hp : PalS H q2 rows) (hl : rows.length ≤ 70000) (hr : ∀ r ∈ rows, r.2.2.length ≤ 1000) : ∀ (m n i : Nat), m < n → rows.length = i + m → ∀ (R : Type) (KE : Unit → Option R) (KR : Bool → Option R),
    R46_palette_l1 k KE KR n (some ⟨b, 0, none⟩) (i : Int) H = bif okP l (rows.drop i) then KE () else KR false := by
  intro m
  induction m with
  | zero =>
    intro n i hn hj R KE KR
    obtain ⟨n, rfl⟩ : ∃ n', n = n' + 1 := ⟨n - 1, by omega⟩
    unfold R46_palette_l1 R46_palette_l1_b
    rw [List.drop_eq_nil_of_le (by omega)]
    exact go_fad (go_l A.c' (go_f (decide_eq_false (by omega)) rfl))
  | succ m ih =>
    intro n i hn hj R KE KR
    obtain ⟨n, rfl⟩ : ∃ n', n = n' + 1 := ⟨n - 1, by omega⟩
    obtain ⟨r, hx⟩ := ex_get (l := rows) (i := i) (by omega)
    obtain ⟨p, e1, e2⟩ := row_at hp hx
    have hrl := hr r (List.mem_of_getElem? hx)
    have cl := col_l k A hp hx hrl r.2.2.length k 0 (by omega) (by omega)
    rw [List.drop_zero] at cl
    rw [drop_cons hx]
    unfold R46_palette_l1 R46_palette_l1_b
    refine go_fad (go_l A.c' (go_t (decide_eq_true (by omega)) (go_fad (go_l A.c' ((e1 _ _).trans ((e2 _ _).trans (go_fad (go_l A.b' ?_))))))))
    show _ = bif ((decide (r.2.2.length = l) && inB 0 255 r.2.2) && okP l (rows.drop (i + 1))) then _ else _
    by_cases h1 : r.2.2.length = l
    · refine go_f (by rw [h1]; exact bne_self_eq_false' _) ((cl _ _ _).trans ?_)
      rw [decide_eq_true h1, Bool.true_and]
      cases h2 : inB 0 255 r.2.2 with
      | false => rfl
      | true =>
        rw [Bool.true_and, cond_true]
        try dsimp only
        rw [w64 (n := (i : Int) + 1) (by omega) (by omega)]
        exact ih n (i + 1) (by omega) (by omega) R KE KR
    · rw [decide_eq_false h1]
      exact go_t (by rw [bne_iff_ne]; omega) rfl
theorem palette_eq {k : Nat} (hk : 80000 < k) {H : Heap} {q q2 : Option Addr} {rs : List Int} {rows : List Rw} (s : Int) (c c2 : Nat) (hp : PalS H q2 rows) (F : FewC rs rows) :
    ∃ H', (∀ (R : Type) (K : Bool → Heap → Option R), R46_palette k s q rs.length c q2 rows.length c2 H K = K (depB rows.length && okP rs.length rows) H') ∧ Old H.length H H' := by
  have fb := F.b
  obtain ⟨H1, hH1⟩ : ∃ H1, H1 = H ++ [some (⟨[.int .i64 s, .slice q rs.length c, .slice q2 rows.length c2], false, 0⟩ : Blk)] := ⟨_, rfl⟩
  have o1 : Old H.length H H1 := hH1 ▸ Old.app _ _
  have A := at3 (show Owns H1 H.length [.int .i64 s, .slice q rs.length c, .slice q2 rows.length c2] 0 by rw [hH1]; exact hblk_new H _)
  have rl := rrows_l k (by omega) A (hp.keep o1) F.b F.c rows.length k 0 (by omega) (by omega)
  rw [List.drop_zero] at rl
  refine ⟨H1, fun R K => ?_, o1⟩
  unfold R46_palette R46_palette_b R46_palette_p0 R46_palette_p0_b
  refine go_halN hH1 (go_fad (go_l A.c' ?_))
  by_cases hz : rows.length = 0
  · refine go_f (decide_eq_false (by omega)) ((rl _ _ _).trans ?_)
    rw [show depB rows.length = true from by unfold depB; rw [decide_eq_true hz]; rfl, Bool.true_and]
    cases okP rs.length rows <;> rfl
  · refine go_t (decide_eq_true (by omega)) (go_fad (go_l A.c' ((rdepth_eq (by omega) _ _ _).trans ?_)))
    by_cases hd : dep rows.length = 0
    · rw [show depB rows.length = false from by unfold depB; rw [decide_eq_false hz, hd]; rfl]
      exact go_t (by rw [hd]; rfl) rfl
    · rw [show depB rows.length = true from by unfold depB; rw [Bool.or_eq_true]; exact .inr (by rw [bne_iff_ne]; exact hd), Bool.true_and]
      refine go_f (by rw [beq_eq_false_iff_ne]; exact hd) ((rl _ _ _).trans ?_)
      cases okP rs.length rows <;> rfl
theorem rvalid_eq {k : Nat} (hk : 80000 < k) {H : Heap} {q q2 : Option Addr} {rs : List Int} {rows : List Rw} (s : Int) (c c2 : Nat) (h : Shows H q (ints rs)) (hp : PalS H q2 rows) (F : FewC rs rows) :
    ∃ H', (∀ (R : Type) (K : Int → Heap → Option R), R46_Valid k s q rs.length c q2 rows.length c2 H K = K (validI s rs rows) H') ∧ Old H.length H H' := by
  obtain ⟨H1, hH1⟩ : ∃ H1, H1 = H ++ [some (⟨[.int .i64 s, .slice q rs.length c, .slice q2 rows.length c2], false, 0⟩ : Blk)] := ⟨_, rfl⟩
  have o1 : Old H.length H H1 := hH1 ▸ Old.app _ _
  have O1 : Owns H1 H.length [.int .i64 s, .slice q rs.length c, .slice q2 rows.length c2] 0 := by rw [hH1]; exact hblk_new H _
  have l1 : H1.length = H.length + 1 := by rw [hH1]; simp
  have A := at3 O1
  obtain ⟨H2, e2, o2⟩ := rroles_eq (k := k) (by omega) s c rows.length c2 (h.keep o1) (by have := F.a; omega) (q2 := q2)
  have B := at3 (O1.old o2 (by omega))
  have oo : Old H.length H H2 := o1.trans (o2.mono (by omega))
  obtain ⟨H3, e3, o3⟩ := palette_eq (k := k) hk s c c2 (q := q) (hp.keep oo) F
  have l2 := o2.1
  by_cases h1 : s < 1
  · refine ⟨H1, fun R K => ?_, o1⟩
    rw [show validI s rs rows = 3 from by unfold validI kn; rw [decide_eq_false (by omega)]; rfl]
    unfold R46_Valid R46_Valid_b R46_Valid_p0 R46_Valid_p0_b
    exact go_halN hH1 (go_fad (go_i A.a (go_t (decide_eq_true h1) rfl)))
  by_cases h4 : s > 4
  · refine ⟨H1, fun R K => ?_, o1⟩
    rw [show validI s rs rows = 3 from by unfold validI kn; rw [decide_eq_false (by omega)]; rfl]
    unfold R46_Valid R46_Valid_b R46_Valid_p0 R46_Valid_p0_b
    exact go_halN hH1 (go_fad (go_i A.a (go_f (decide_eq_false h1) (go_fad (go_i A.a (go_t (decide_eq_true h4) rfl))))))
  have e0 : validI s rs rows = if rolesB s rs && depB rows.length && okP rs.length rows then 0 else 21 := by unfold validI kn; rw [decide_eq_true (by omega)]; rfl
  rw [e0]
  have start : ∀ (R : Type) (K : Int → Heap → Option R) (r : Option R), (bif (!rolesB s rs) then K 21 H2 else ldI .i64 H2 (pad (some ⟨H.length, 0, none⟩) 0) fun n22 => ldL H2 (pad (some ⟨H.length, 0, none⟩) 1) fun q23 l24 c25 => ldL H2 (pad (some ⟨H.length, 0, none⟩) 2) fun q26 l27 c28 => R46_palette k n22 q23 l24 c25 q26 l27 c28 H2 fun t29 H30 => bif (!t29) then K 21 H30 else K 0 H30) = r → R46_Valid k s q rs.length c q2 rows.length c2 H K = r := by
    intro R K r hr
    unfold R46_Valid R46_Valid_b R46_Valid_p0 R46_Valid_p0_b
    exact go_halN hH1 (go_fad (go_i A.a (go_f (decide_eq_false h1) (go_fad (go_i A.a (go_f (decide_eq_false h4) (go_ip A.a (go_lp A.b' (go_lp A.c' ((e2 _ _).trans hr))))))))))
  cases hro : rolesB s rs with
  | false => exact ⟨H2, fun R K => start R K _ (by rw [hro]; exact go_t rfl rfl), oo⟩
  | true =>
    refine ⟨H3, fun R K => start R K _ ?_, oo.trans (o3.mono (by omega))⟩
    rw [hro]
    refine go_f rfl (go_ip B.a (go_lp B.b' (go_lp B.c' ((e3 _ _).trans ?_))))
    rw [Bool.true_and]
    cases depB rows.length && okP rs.length rows <;> rfl
def fewB (rs : List Int) (rows : List Rw) : Bool := decide (rs.length ≤ 20) && decide (rows.length ≤ 300) && rows.all fun r => decide (r.2.2.length ≤ 20)
theorem few_of {rs : List Int} {rows : List Rw} (h : fewB rs rows = true) : FewC rs rows := by
  unfold fewB at h
  simp only [Bool.and_eq_true, decide_eq_true_eq, List.all_eq_true] at h
  exact ⟨by omega, by omega, fun r hr => by have := h.2 r hr; omega⟩
theorem few_l (k : Nat) {b : Nat} {s : Int} {H : Heap} {q q2 : Option Addr} {l c c2 : Nat} {rows : List Rw} (A : At3 H b s q l c q2 rows.length c2) (hp : PalS H q2 rows) (hl : rows.length ≤ 300) : ∀ (m n i : Nat), m < n → rows.length = i + m → ∀ (R : Type) (KE : Unit → Option R) (KR : Bool → Option R),
    R46_Few_l1 k KE KR n (some ⟨b, 0, none⟩) (i : Int) H = bif (rows.drop i).all (fun r => decide (r.2.2.length ≤ 20)) then KE () else KR false := by
  intro m
  induction m with
  | zero =>
    intro n i hn hj R KE KR
    obtain ⟨n, rfl⟩ : ∃ n', n = n' + 1 := ⟨n - 1, by omega⟩
    unfold R46_Few_l1 R46_Few_l1_b
    rw [List.drop_eq_nil_of_le (by omega)]
    exact go_fad (go_l A.c' (go_f (decide_eq_false (by omega)) rfl))
  | succ m ih =>
    intro n i hn hj R KE KR
    obtain ⟨n, rfl⟩ : ∃ n', n = n' + 1 := ⟨n - 1, by omega⟩
    obtain ⟨r, hx⟩ := ex_get (l := rows) (i := i) (by omega)
    obtain ⟨p, e1, e2⟩ := row_at hp hx
    rw [drop_cons hx, List.all_cons]
    unfold R46_Few_l1 R46_Few_l1_b
    refine go_fad (go_l A.c' (go_t (decide_eq_true (by omega)) (go_fad (go_l A.c' ((e1 _ _).trans ((e2 _ _).trans ?_))))))
    by_cases h1 : r.2.2.length ≤ 20
    · rw [decide_eq_true h1, Bool.true_and]
      refine go_f (decide_eq_false (by omega)) ?_
      rw [w64 (n := (i : Int) + 1) (by omega) (by omega)]
      exact ih n (i + 1) (by omega) (by omega) R KE KR
    · rw [decide_eq_false h1]
      exact go_t (decide_eq_true (by omega)) rfl
theorem Few_eq {k : Nat} (hk : 80000 < k) {H : Heap} {q q2 : Option Addr} {rs : List Int} {rows : List Rw} (s : Int) (c c2 : Nat) (hp : PalS H q2 rows) :
    ∃ H', (∀ (R : Type) (K : Bool → Heap → Option R), R46_Few k s q rs.length c q2 rows.length c2 H K = K (fewB rs rows) H') ∧ Old H.length H H' := by
  obtain ⟨H1, hH1⟩ : ∃ H1, H1 = H ++ [some (⟨[.int .i64 s, .slice q rs.length c, .slice q2 rows.length c2], false, 0⟩ : Blk)] := ⟨_, rfl⟩
  have o1 : Old H.length H H1 := hH1 ▸ Old.app _ _
  have A := at3 (show Owns H1 H.length [.int .i64 s, .slice q rs.length c, .slice q2 rows.length c2] 0 by rw [hH1]; exact hblk_new H _)
  refine ⟨H1, fun R K => ?_, o1⟩
  unfold R46_Few R46_Few_b R46_Few_p0 R46_Few_p0_b
  refine go_halN hH1 (go_fad (go_l A.b' ?_))
  unfold fewB
  by_cases h1 : rs.length ≤ 20
  case neg => rw [decide_eq_false h1]; exact go_t (decide_eq_true (by omega)) rfl
  rw [decide_eq_true h1]
  refine go_f (decide_eq_false (by omega)) (go_fad (go_l A.c' ?_))
  by_cases h2 : rows.length ≤ 300
  case neg => rw [decide_eq_false h2]; exact go_t (decide_eq_true (by omega)) rfl
  rw [decide_eq_true h2]
  have fl := few_l k A (hp.keep o1) h2 rows.length k 0 (by omega) (by omega)
  rw [List.drop_zero] at fl
  refine go_f (decide_eq_false (by omega)) ((fl _ _ _).trans ?_)
  cases rows.all fun r => decide (r.2.2.length ≤ 20) <;> rfl
theorem rcheck_eq {k : Nat} (hk : 80000 < k) {H : Heap} {q q2 q3 : Option Addr} {rs : List Int} {rows : List Rw} {cs : List Cm} (s : Int) (c c2 : Nat) (n1 n2 n3 n4 n5 n6 : Int) (c3 : Nat) (h : Shows H q (ints rs)) (hp : PalS H q2 rows) (hc : Shows H q3 (cs.flatMap cmc)) (F : FewC rs rows) :
    ∃ H', (∀ (R : Type) (K : Int → Heap → Option R), R46_Check k s q rs.length c q2 rows.length c2 n1 n2 n3 n4 n5 n6 q3 cs.length c3 H K = K (checkI s rs rows cs) H') ∧ Old H.length H H' := by
  have fb := F.b
  obtain ⟨H1, hH1⟩ : ∃ H1, H1 = H ++ [some (⟨[.int .i64 s, .slice q rs.length c, .slice q2 rows.length c2], false, 0⟩ : Blk)] := ⟨_, rfl⟩
  have o1 : Old H.length H H1 := hH1 ▸ Old.app _ _
  have O1 : Owns H1 H.length [.int .i64 s, .slice q rs.length c, .slice q2 rows.length c2] 0 := by rw [hH1]; exact hblk_new H _
  have l1 : H1.length = H.length + 1 := by rw [hH1]; simp
  obtain ⟨H2, hH2⟩ : ∃ H2, H2 = H1 ++ [some (⟨[.int .i64 n1, .int .i64 n2, .int .i64 n3, .int .i64 n4, .int .i64 n5, .int .i64 n6, .slice q3 cs.length c3], false, 0⟩ : Blk)] := ⟨_, rfl⟩
  have o2 : Old H1.length H1 H2 := hH2 ▸ Old.app _ _
  have O2 : Owns H2 H1.length [.int .i64 n1, .int .i64 n2, .int .i64 n3, .int .i64 n4, .int .i64 n5, .int .i64 n6, .slice q3 cs.length c3] 0 := by rw [hH2]; exact hblk_new H1 _
  have l2 : H2.length = H1.length + 1 := by rw [hH2]; simp
  have Oc2 := O1.old o2 (by omega)
  have m0 : hcell H2 H.length 0 = some (.int .i64 s) := Oc2.sees.cell 0
  have m1 : hcell H2 H.length 1 = some (.slice q rs.length c) := Oc2.sees.cell 1
  have m2 : hcell H2 H.length 2 = some (.slice q2 rows.length c2) := Oc2.sees.cell 2
  have o12 := o1.trans (o2.mono (by omega))
  obtain ⟨H3, e3, o3⟩ := rvalid_eq (k := k) hk s c c2 (h.keep o12) (hp.keep o12) F
  have oo := o12.trans (o3.mono (by omega))
  have Oc3 := Oc2.old o3 (by omega)
  have Oh3 := O2.old o3 (by omega)
  have a1 : hcell H3 H.length 1 = some (.slice q rs.length c) := Oc3.sees.cell 1
  have a2 : hcell H3 H.length 2 = some (.slice q2 rows.length c2) := Oc3.sees.cell 2
  have h6 : hcell H3 H1.length 6 = some (.slice q3 cs.length c3) := Oh3.sees.cell 6
  refine ⟨H3, fun R K => ?_, oo⟩
  unfold R46_Check R46_Check_b
  refine go_halN hH1 (go_halN hH2 (go_ip m0 (go_lp m1 (go_lp m2 ((e3 _ _).trans ?_)))))
  unfold checkI
  by_cases hv : validI s rs rows = 0
  case neg => rw [if_pos hv]; exact go_t (by rw [bne_iff_ne]; exact hv) rfl
  rw [if_neg (by simp [hv])]
  refine go_f (by rw [hv]; rfl) (go_fad (go_l a2 ?_))
  by_cases hz : rows.length = 0
  · rw [if_pos hz]
    refine go_t (by rw [hz]; rfl) (go_fad (go_l h6 (go_fad (go_l a1 ?_))))
    by_cases hcl : cs.length = rs.length
    · rw [if_pos hcl]; exact go_f (by rw [hcl]; exact bne_self_eq_false' _) rfl
    · rw [if_neg hcl]; exact go_t (by rw [bne_iff_ne]; omega) rfl
  · rw [if_neg hz]
    refine go_f (by rw [beq_eq_false_iff_ne]; omega) (go_fad (go_l h6 ?_))
    match cs, hc, h6 with
    | [], _, _ => exact go_t rfl rfl
    | [x], hc, h6 =>
      obtain ⟨b, o, e4, x0, x1, _, _⟩ := one_at (hc.keep oo)
      show _ = K (if x.2.1 = true ∨ x.1 ≠ dep rows.length then 21 else 0) H3
      refine go_f rfl (go_fad (go_l h6 ((e4 _ _).trans (go_fad (go_b x1 ?_)))))
      by_cases hs : x.2.1 = true
      · rw [if_pos (.inl hs)]; exact go_t hs rfl
      · refine go_f (by simpa using hs) (go_fad (go_l h6 ((e4 _ _).trans (go_fad (go_i x0 (go_fad (go_l a2 ((rdepth_eq (by omega) _ _ _).trans ?_))))))))
        by_cases hd : x.1 = dep rows.length
        · rw [if_neg (by simp [hs, hd])]; exact go_f (by rw [hd]; exact bne_self_eq_false' _) rfl
        · rw [if_pos (.inr hd)]; exact go_t (by rw [bne_iff_ne]; exact hd) rfl
    | _ :: _ :: l, _, _ => exact go_t (by rw [bne_iff_ne]; simp; omega) rfl
end Go.Proofs.Ytkjcjlembepdkaa.Sh
