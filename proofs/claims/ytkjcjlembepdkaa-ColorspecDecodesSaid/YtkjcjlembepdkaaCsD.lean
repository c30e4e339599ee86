/- Colorspec: what a color specification must be; the program's validate. -/
import Derived.Test.YtkjcjlembepdkaaSh1
import Derived.Test.YtkjcjlembepdkaaCsC
set_option linter.unusedVariables false
set_option linter.unusedSimpArgs false
namespace Go.Proofs.Ytkjcjlembepdkaa.Sh
open Go.Proofs.Ytkjcjlembepdkaa.FW
def nzc (rs : List Int) : Nat := (rs.filter fun x => x != 0).length
def rolesB (s : Int) (rs : List Int) : Bool := decide (1 ≤ rs.length) && decide (rs.length ≤ 4) && decide (1 ≤ nzc rs) && decide (rs.length ≤ nzc rs + 1) && (decide (s = 4) || decide ((nzc rs : Int) = chan s)) && inB 0 (nzc rs) rs && decide rs.Nodup
/-- A row of a palette: where, its capacity, the numbers. -/
abbrev Rw := Option Addr × Nat × List Int
def rc (r : Rw) : Value := .slice r.1 r.2.2.length r.2.1
structure PalS (H : Heap) (q : Option Addr) (rows : List Rw) : Prop where
  sh : Shows H q (rows.map rc)
  rw : ∀ r ∈ rows, Shows H r.1 (ints r.2.2)
theorem PalS.keep {H H' : Heap} {q : Option Addr} {rows : List Rw} (h : PalS H q rows) (o : Old H.length H H') : PalS H' q rows := ⟨h.sh.keep o, fun r hr => (h.rw r hr).keep o⟩
theorem row_at {H : Heap} {q : Option Addr} {rows : List Rw} (h : PalS H q rows) {i : Nat} {r : Rw} (hi : rows[i]? = some r) :
    ∃ p, (∀ (R : Type) (K : Option Addr → Option R), hidx q rows.length (i : Int) 1 K = K p) ∧ ∀ (R : Type) (K : Option Addr → Nat → Nat → Option R), ldL H p K = K r.1 r.2.2.length r.2.1 := by
  have hlt : i < rows.length := (List.getElem?_eq_some_iff.1 hi).1
  obtain ⟨p, e, _, m⟩ := h.sh.idx (l := rows.length) (size := 1) (by simp) (i := (i : Int)) (by omega) (by omega) (by omega)
  exact ⟨p, e, fun R K => ldL_of (m _ (by rw [Int.toNat_natCast, Nat.mul_one, List.getElem?_map, hi]; rfl)) K⟩
/-- A color specification's cells. -/
def cl (s : Int) (q : Option Addr) (l c : Nat) (q2 : Option Addr) (l2 c2 : Nat) : List Value := [.int .i64 s, .slice q l c, .slice q2 l2 c2]
theorem cnt_l (k : Nat) (p : Option Addr) {H : Heap} {q : Option Addr} {xs : List Int} (c : Nat) (h : Shows H q (ints xs)) (hl : xs.length < 1000000) : ∀ (m n i : Nat), m < n → xs.length = i + m → ∀ (R : Type) (KE : Option Addr → Int → Option R),
    colorspec_roles_l1 k KE n p ((nzc (xs.take i) : Nat) : Int) q xs.length c ((xs.length : Nat) : Int) (i : Int) H = KE p ((nzc xs : Nat) : Int) := by
  intro m
  induction m with
  | zero =>
    intro n i hn hj R KE
    obtain ⟨n, rfl⟩ : ∃ n', n = n' + 1 := ⟨n - 1, by omega⟩
    unfold colorspec_roles_l1 colorspec_roles_l1_b
    rw [List.take_of_length_le (by omega)]
    exact go_f (decide_eq_false (by omega)) rfl
  | succ m ih =>
    intro n i hn hj R KE
    obtain ⟨n, rfl⟩ : ∃ n', n = n' + 1 := ⟨n - 1, by omega⟩
    obtain ⟨x, hx⟩ := ex_get (l := xs) (i := i) (by omega)
    obtain ⟨p', e1, e2⟩ := int_at h hx
    have hle : nzc (xs.take i) ≤ xs.length := by
      unfold nzc
      exact Nat.le_trans (List.length_filter_le _ _) (by rw [List.length_take]; omega)
    have ih' := ih n (i + 1) (by omega) (by omega) R KE
    rw [take_snoc hx] at ih'
    unfold colorspec_roles_l1 colorspec_roles_l1_b colorspec_roles_p2 colorspec_roles_p2_b
    refine go_t (decide_eq_true (by omega)) ((e1 _ _).trans ((e2 _ _).trans ?_))
    by_cases h0 : x = 0
    · have : nzc (xs.take i ++ [x]) = nzc (xs.take i) := by unfold nzc; rw [List.filter_append]; simp [h0]
      rw [this] at ih'
      refine go_f (by rw [h0]; rfl) ?_
      dsimp only
      rw [w64 (n := (i : Int) + 1) (by omega) (by omega)]
      exact ih'
    · have : nzc (xs.take i ++ [x]) = nzc (xs.take i) + 1 := by unfold nzc; rw [List.filter_append]; simp [h0]
      rw [this] at ih'
      refine go_t (by rw [bne_iff_ne]; exact h0) ?_
      dsimp only
      rw [w64 (n := (i : Int) + 1) (by omega) (by omega), w64 (n := ((nzc (xs.take i) : Nat) : Int) + 1) (by omega) (by omega)]
      exact ih'
theorem nodup_dup (xs : List Int) : xs.Nodup ↔ ¬ Dup xs.length fun i => xs.getD i 0 := by
  unfold Dup
  rw [List.nodup_iff_pairwise_ne, List.pairwise_iff_getElem]
  constructor
  · rintro h ⟨i, j, hi, hj, hne, he⟩
    have e1 : xs.getD i 0 = xs[i] := by simp [hi]
    have e2 : xs.getD j 0 = xs[j] := by simp [hj]
    have he : xs[i] = xs[j] := e1.symm.trans (he.trans e2)
    rcases Nat.lt_or_gt_of_ne hne with h1 | h1
    · exact h i j hi hj h1 he
    · exact h j i hj hi h1 he.symm
  · intro h i j hi hj hij he
    refine h ⟨i, j, hi, hj, by omega, ?_⟩
    simp [hi, hj, he]
theorem roles_eq {k : Nat} (hk : 1000 < k) {H : Heap} {q q2 : Option Addr} {rs : List Int} (s : Int) (c l2 c2 : Nat) (h : Shows H q (ints rs)) (hl : rs.length ≤ 1000) :
    ∃ H', (∀ (R : Type) (K : Bool → Heap → Option R), colorspec_roles k s q rs.length c q2 l2 c2 H K = K (rolesB s rs) H') ∧ Old H.length H H' := by
  obtain ⟨H1, hH1⟩ : ∃ H1, H1 = H ++ [some (⟨[.int .i64 s, .slice q rs.length c, .slice q2 l2 c2], false, 0⟩ : Blk)] := ⟨_, rfl⟩
  have o1 : Old H.length H H1 := hH1 ▸ Old.app _ _
  have O1 : Owns H1 H.length [.int .i64 s, .slice q rs.length c, .slice q2 l2 c2] 0 := by rw [hH1]; exact hblk_new H _
  have l1 : H1.length = H.length + 1 := by rw [hH1]; simp
  have m0 : hcell H1 H.length 0 = some (.int .i64 s) := O1.sees.cell 0
  have m1 : hcell H1 H.length 1 = some (.slice q rs.length c) := O1.sees.cell 1
  have h1 := h.keep o1
  have cnt := cnt_l k (some ⟨H.length, 0, none⟩) c h1 (by omega) rs.length k 0 (by omega) (by omega)
  by_cases c1 : rs.length < 1
  · refine ⟨H1, fun R K => ?_, o1⟩
    rw [show rolesB s rs = false from by unfold rolesB; rw [decide_eq_false (by omega)]; rfl]
    unfold colorspec_roles colorspec_roles_b colorspec_roles_p0 colorspec_roles_p0_b
    exact go_halN hH1 (go_fad (go_l m1 (go_t (decide_eq_true (by omega)) rfl)))
  by_cases c2' : rs.length > 4
  · refine ⟨H1, fun R K => ?_, o1⟩
    rw [show rolesB s rs = false from by unfold rolesB; rw [decide_eq_false (p := rs.length ≤ 4) (by omega), Bool.and_false]; rfl]
    unfold colorspec_roles colorspec_roles_b colorspec_roles_p0 colorspec_roles_p0_b
    exact go_halN hH1 (go_fad (go_l m1 (go_f (decide_eq_false (by omega)) (go_fad (go_l m1 (go_t (decide_eq_true (by omega)) rfl))))))
  have start : ∀ (R : Type) (K : Bool → Heap → Option R) (r : Option R), colorspec_roles_p3 k (some ⟨H.length, 0, none⟩) ((nzc rs : Nat) : Int) H1 (fun p23 => hfad 1 p23 fun p24 => ldL H1 p24 fun q25 l26 c27 => slices_Clone___int_int_ q25 l26 c27 H1 fun q28 l29 c30 H31 => slices_Sort___int_int_ k q28 l29 c30 H31 fun H32 => hfrz H32 p23 fun H33 => slices_Compact___int_int_ k q28 l29 c30 H33 fun q34 l35 c36 H37 => hfad 1 p23 fun p38 => bif isRo H33 p38 then (ldL H33 p38 fun q39 l40 c41 => K (((l35 : Nat) : Int) == ((l40 : Nat) : Int)) H37) else none) (fun t42 => K t42 H1) = r → colorspec_roles k s q rs.length c q2 l2 c2 H K = r := by
    intro R K r hr
    unfold colorspec_roles colorspec_roles_b colorspec_roles_p0 colorspec_roles_p0_b
    exact go_halN hH1 (go_fad (go_l m1 (go_f (decide_eq_false (by omega)) (go_fad (go_l m1 (go_f (decide_eq_false (by omega)) (go_fad (go_l m1 ((cnt _ _).trans hr)))))))))
  have hn : nzc rs ≤ rs.length := List.length_filter_le _ _
  have hsub : IntKind.wrap .i64 (((rs.length : Nat) : Int) - ((nzc rs : Nat) : Int)) = ((rs.length : Nat) : Int) - ((nzc rs : Nat) : Int) := w64 (by omega) (by omega)
  have wi := within_eq (k := k) 0 ((nzc rs : Nat) : Int) c h1 (by omega) (by omega)
  -- the end
  obtain ⟨H2, e2, O2, o2, l2'⟩ := clone_eq c h1 (by omega) (by omega)
  obtain ⟨H3, e3, O3, b3, n3⟩ := sort_eq (k := k) (by omega) unk (Oi.of O2) (by omega) (by omega)
  have Ob3 : Owns H3 H.length [.int .i64 s, .slice q rs.length c, .slice q2 l2 c2] 0 := (O1.old o2 (by omega)).but b3 (by omega)
  obtain ⟨H4, e4, c4, r4, b4, n4⟩ := frz_own (o := 0) (s := none) Ob3
  have O4 : Oi H4 (H1.length + 1) rs.length (srt (rs.length - 1) 1 fun i => rs.getD i 0) := by obtain ⟨z, O3⟩ := O3; exact ⟨z, O3.but b4 (by omega)⟩
  obtain ⟨H5, l5, e5, hl5, b5, n5⟩ := compact_eq (k := k) (by omega) (by omega) O4
  have hris : Ris rs.length (srt (rs.length - 1) 1 fun i => rs.getD i 0) := by
    have := srt_ris (rs.length - 1) 1 (fun i => rs.getD i 0) (fun a b h1 h2 => by omega)
    rwa [show 1 + (rs.length - 1) = rs.length from by omega] at this
  have hnd : (l5 = rs.length) ↔ rs.Nodup := by
    rw [hl5, ← ris_dup hris, dup_srt _ _ _ (by omega), nodup_dup]
  have hK : (((l5 : Nat) : Int) == ((rs.length : Nat) : Int)) = decide rs.Nodup := by
    by_cases hd : rs.Nodup
    · rw [decide_eq_true hd, hnd.2 hd]; exact beq_self_eq_true _
    · rw [decide_eq_false hd, beq_eq_false_iff_ne]; intro he; exact hd (hnd.1 (by omega))
  have m4 : hcell H4 H.length 1 = some (.slice q rs.length c) := c4 1
  have oo : Old H.length H H5 := o1.trans ((o2.mono (by omega)).trans ((b3.old (by omega) (by omega)).trans ((b4.old (by omega) (by omega)).trans (b5.old (by omega) (by omega)))))
  have fin : ∀ (R : Type) (K : Bool → Heap → Option R), (hfad 1 (some ⟨H.length, 0, none⟩) fun p24 => ldL H1 p24 fun q25 l26 c27 => slices_Clone___int_int_ q25 l26 c27 H1 fun q28 l29 c30 H31 => slices_Sort___int_int_ k q28 l29 c30 H31 fun H32 => hfrz H32 (some ⟨H.length, 0, none⟩) fun H33 => slices_Compact___int_int_ k q28 l29 c30 H33 fun q34 l35 c36 H37 => hfad 1 (some ⟨H.length, 0, none⟩) fun p38 => bif isRo H33 p38 then (ldL H33 p38 fun q39 l40 c41 => K (((l35 : Nat) : Int) == ((l40 : Nat) : Int)) H37) else none) = K (decide rs.Nodup) H5 := by
    intro R K
    refine go_fad (go_l m1 ((e2 _ _).trans ((e3 _ _).trans ((e4 _ _).trans ((e5 _ _).trans (go_fad (go_t (r4 _ _) (go_l m4 ?_))))))))
    rw [hK]
  have b1 : decide (1 ≤ rs.length) = true := decide_eq_true (by omega)
  have b2 : decide (rs.length ≤ 4) = true := decide_eq_true (by omega)
  by_cases d1 : nzc rs < 1
  · refine ⟨H1, fun R K => start R K _ ?_, o1⟩
    rw [show rolesB s rs = false from by unfold rolesB; rw [b1, b2, decide_eq_false (p := 1 ≤ nzc rs) (by omega)]; rfl]
    unfold colorspec_roles_p3 colorspec_roles_p3_b
    exact go_t (decide_eq_true (by omega)) rfl
  have d1' : decide (1 ≤ nzc rs) = true := decide_eq_true (by omega)
  by_cases d2 : rs.length ≤ nzc rs + 1
  case neg =>
    refine ⟨H1, fun R K => start R K _ ?_, o1⟩
    rw [show rolesB s rs = false from by unfold rolesB; rw [b1, b2, d1', decide_eq_false d2]; rfl]
    unfold colorspec_roles_p3 colorspec_roles_p3_b
    exact go_f (decide_eq_false (by omega)) (go_fad (go_l m1 (go_t (by rw [hsub]; exact decide_eq_true (by omega)) rfl)))
  have d2' : decide (rs.length ≤ nzc rs + 1) = true := decide_eq_true d2
  by_cases d3 : s = 4
  · have d3' : decide (s = 4) = true := decide_eq_true d3
    cases d4 : inB 0 ((nzc rs : Nat) : Int) rs with
    | false =>
      refine ⟨H1, fun R K => start R K _ ?_, o1⟩
      rw [show rolesB s rs = false from by unfold rolesB; rw [b1, b2, d1', d2', d3', d4]; rfl]
      unfold colorspec_roles_p3 colorspec_roles_p3_b
      exact go_f (decide_eq_false (by omega)) (go_fad (go_l m1 (go_f (by rw [hsub]; exact decide_eq_false (by omega)) (go_fad (go_i m0 (go_f (by rw [d3]; rfl) (go_fad (go_l m1 ((wi _ _).trans (go_t (by rw [d4]; rfl) rfl)))))))))) 
    | true =>
      refine ⟨H5, fun R K => start R K _ ?_, oo⟩
      rw [show rolesB s rs = decide rs.Nodup from by unfold rolesB; rw [b1, b2, d1', d2', d3', d4]; simp]
      unfold colorspec_roles_p3 colorspec_roles_p3_b
      exact go_f (decide_eq_false (by omega)) (go_fad (go_l m1 (go_f (by rw [hsub]; exact decide_eq_false (by omega)) (go_fad (go_i m0 (go_f (by rw [d3]; rfl) (go_fad (go_l m1 ((wi _ _).trans (go_f (by rw [d4]; rfl) (fin R K)))))))))))
  · have d3' : decide (s = 4) = false := decide_eq_false d3
    have d3'' : (s != 4) = true := by rw [bne_iff_ne]; exact d3
    by_cases d5 : ((nzc rs : Nat) : Int) = chan s
    case neg =>
      refine ⟨H1, fun R K => start R K _ ?_, o1⟩
      rw [show rolesB s rs = false from by unfold rolesB; rw [b1, b2, d1', d2', d3', decide_eq_false d5]; rfl]
      unfold colorspec_roles_p3 colorspec_roles_p3_b
      exact go_f (decide_eq_false (by omega)) (go_fad (go_l m1 (go_f (by rw [hsub]; exact decide_eq_false (by omega)) (go_fad (go_i m0 (go_t d3'' (go_fad (go_i m0 ((chan_eq _ _ _).trans (go_t (by rw [bne_iff_ne]; exact d5) rfl))))))))))
    have d5' : decide (((nzc rs : Nat) : Int) = chan s) = true := decide_eq_true d5
    have d5'' : (((nzc rs : Nat) : Int) != chan s) = false := by rw [d5]; exact bne_self_eq_false' _
    cases d4 : inB 0 ((nzc rs : Nat) : Int) rs with
    | false =>
      refine ⟨H1, fun R K => start R K _ ?_, o1⟩
      rw [show rolesB s rs = false from by unfold rolesB; rw [b1, b2, d1', d2', d3', d5', d4]; rfl]
      unfold colorspec_roles_p3 colorspec_roles_p3_b
      exact go_f (decide_eq_false (by omega)) (go_fad (go_l m1 (go_f (by rw [hsub]; exact decide_eq_false (by omega)) (go_fad (go_i m0 (go_t d3'' (go_fad (go_i m0 ((chan_eq _ _ _).trans (go_f d5'' (go_fad (go_l m1 ((wi _ _).trans (go_t (by rw [d4]; rfl) rfl))))))))))))))
    | true =>
      refine ⟨H5, fun R K => start R K _ ?_, oo⟩
      rw [show rolesB s rs = decide rs.Nodup from by unfold rolesB; rw [b1, b2, d1', d2', d3', d5', d4]; simp]
      unfold colorspec_roles_p3 colorspec_roles_p3_b
      exact go_f (decide_eq_false (by omega)) (go_fad (go_l m1 (go_f (by rw [hsub]; exact decide_eq_false (by omega)) (go_fad (go_i m0 (go_t d3'' (go_fad (go_i m0 ((chan_eq _ _ _).trans (go_f d5'' (go_fad (go_l m1 ((wi _ _).trans (go_f (by rw [d4]; rfl) (fin R K)))))))))))))))
end Go.Proofs.Ytkjcjlembepdkaa.Sh
