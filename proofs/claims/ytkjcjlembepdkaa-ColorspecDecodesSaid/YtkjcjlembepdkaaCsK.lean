/- Colorspec: color specifications that are the same. -/
import Derived.Test.YtkjcjlembepdkaaSh5
import Derived.Test.YtkjcjlembepdkaaSh9
import Derived.Test.YtkjcjlembepdkaaCsF
set_option linter.unusedVariables false
set_option linter.unusedSimpArgs false
namespace Go.Proofs.Ytkjcjlembepdkaa.Sh
open Go.Proofs.Ytkjcjlembepdkaa.FW
theorem equal_l (k : Nat) {H : Heap} {q q' : Option Addr} {xs ys : List Int} (c c' : Nat) (h : Shows H q (ints xs)) (h' : Shows H q' (ints ys)) (hl : xs.length ≤ 100000) (he : xs.length = ys.length) : ∀ (m n i : Nat), m < n → xs.length = i + m → ∀ (R : Type) (KE : Unit → Option R) (KR : Bool → Option R),
    slices_Equal___int_int__l0 k KE KR n q xs.length c q' ys.length c' ((xs.length : Nat) : Int) (i : Int) H = bif decide (xs.drop i = ys.drop i) then KE () else KR false := by
  intro m
  induction m with
  | zero =>
    intro n i hn hj R KE KR
    obtain ⟨n, rfl⟩ : ∃ n', n = n' + 1 := ⟨n - 1, by omega⟩
    unfold slices_Equal___int_int__l0 slices_Equal___int_int__l0_b
    rw [List.drop_eq_nil_of_le (by omega), List.drop_eq_nil_of_le (by omega)]
    exact go_f (decide_eq_false (by omega)) rfl
  | succ m ih =>
    intro n i hn hj R KE KR
    obtain ⟨n, rfl⟩ : ∃ n', n = n' + 1 := ⟨n - 1, by omega⟩
    obtain ⟨x, hx⟩ := ex_get (l := xs) (i := i) (by omega)
    obtain ⟨y, hy⟩ := ex_get (l := ys) (i := i) (by omega)
    obtain ⟨p1, e1, e2⟩ := int_at h hx
    obtain ⟨p2, e3, e4⟩ := int_at h' hy
    rw [drop_cons hx, drop_cons hy]
    unfold slices_Equal___int_int__l0 slices_Equal___int_int__l0_b
    refine go_t (decide_eq_true (by omega)) ((e1 _ _).trans ((e2 _ _).trans ((e3 _ _).trans ((e4 _ _).trans ?_))))
    by_cases hxy : x = y
    · subst hxy
      refine go_ne ?_
      rw [w64 (n := (i : Int) + 1) (by omega) (by omega)]
      refine (ih n (i + 1) (by omega) (by omega) R KE KR).trans ?_
      simp
    · rw [decide_eq_false (by simp [hxy])]
      exact go_t (by rw [bne_iff_ne]; exact hxy) rfl
theorem equal_eq {k : Nat} (hk : 100000 < k) {H : Heap} {q q' : Option Addr} {xs ys : List Int} (c c' : Nat) (h : Shows H q (ints xs)) (h' : Shows H q' (ints ys)) (hl : xs.length ≤ 100000) (R : Type) (K : Bool → Option R) : slices_Equal___int_int_ k q xs.length c q' ys.length c' H K = K (decide (xs = ys)) := by
  unfold slices_Equal___int_int_ slices_Equal___int_int__b
  by_cases he : xs.length = ys.length
  · refine go_f (by rw [he]; exact bne_self_eq_false' _) ((equal_l k c c' h h' hl he xs.length k 0 (by omega) (by omega) R _ _).trans ?_)
    rw [List.drop_zero, List.drop_zero]
    cases decide (xs = ys) <;> rfl
  · rw [decide_eq_false (fun hh => he (congrArg List.length hh))]
    exact go_t (by rw [bne_iff_ne]; omega) rfl
theorem sameInts_l (k : Nat) {H : Heap} {q q' : Option Addr} {xs ys : List Int} (c c' : Nat) (h : Shows H q (ints xs)) (h' : Shows H q' (ints ys)) (hl : xs.length ≤ 100000) (he : xs.length = ys.length) : ∀ (m n i : Nat), m < n → xs.length = i + m → ∀ (R : Type) (KE : Unit → Option R) (KR : Bool → Option R),
    R46_sameInts_l0 k KE KR n q xs.length c q' ys.length c' (i : Int) H = bif decide (xs.drop i = ys.drop i) then KE () else KR false := by
  intro m
  induction m with
  | zero =>
    intro n i hn hj R KE KR
    obtain ⟨n, rfl⟩ : ∃ n', n = n' + 1 := ⟨n - 1, by omega⟩
    unfold R46_sameInts_l0 R46_sameInts_l0_b
    rw [List.drop_eq_nil_of_le (by omega), List.drop_eq_nil_of_le (by omega)]
    exact go_f (decide_eq_false (by omega)) rfl
  | succ m ih =>
    intro n i hn hj R KE KR
    obtain ⟨n, rfl⟩ : ∃ n', n = n' + 1 := ⟨n - 1, by omega⟩
    obtain ⟨x, hx⟩ := ex_get (l := xs) (i := i) (by omega)
    obtain ⟨y, hy⟩ := ex_get (l := ys) (i := i) (by omega)
    obtain ⟨p1, e1, e2⟩ := int_at h hx
    obtain ⟨p2, e3, e4⟩ := int_at h' hy
    rw [drop_cons hx, drop_cons hy]
    unfold R46_sameInts_l0 R46_sameInts_l0_b
    refine go_t (decide_eq_true (by omega)) ((e1 _ _).trans ((e2 _ _).trans ((e3 _ _).trans ((e4 _ _).trans ?_))))
    by_cases hxy : x = y
    · subst hxy
      refine go_ne ?_
      rw [w64 (n := (i : Int) + 1) (by omega) (by omega)]
      refine (ih n (i + 1) (by omega) (by omega) R KE KR).trans ?_
      simp
    · rw [decide_eq_false (by simp [hxy])]
      exact go_t (by rw [bne_iff_ne]; exact hxy) rfl
theorem sameInts_eq {k : Nat} (hk : 100000 < k) {H : Heap} {q q' : Option Addr} {xs ys : List Int} (c c' : Nat) (h : Shows H q (ints xs)) (h' : Shows H q' (ints ys)) (hl : xs.length ≤ 100000) (R : Type) (K : Bool → Option R) : R46_sameInts k q xs.length c q' ys.length c' H K = K (decide (xs = ys)) := by
  unfold R46_sameInts R46_sameInts_b
  by_cases he : xs.length = ys.length
  · refine go_f (by rw [he]; exact bne_self_eq_false' _) ((sameInts_l k c c' h h' hl he xs.length k 0 (by omega) (by omega) R _ _).trans ?_)
    rw [List.drop_zero, List.drop_zero]
    cases decide (xs = ys) <;> rfl
  · rw [decide_eq_false (fun hh => he (congrArg List.length hh))]
    exact go_t (by rw [bne_iff_ne]; omega) rfl
def cons (rows : List Rw) : List (List Int) := rows.map fun r => r.2.2
theorem cons_len (rows : List Rw) : (cons rows).length = rows.length := by simp [cons]
theorem eqf_l (k : Nat) (hk : 100000 < k) {H : Heap} {q q' : Option Addr} {rows rows' : List Rw} (c c' : Nat) (h : PalS H q rows) (h' : PalS H q' rows') (hl : rows.length ≤ 70000) (hr : ∀ r ∈ rows, r.2.2.length ≤ 1000) (he : rows.length = rows'.length) : ∀ (m n i : Nat), m < n → rows.length = i + m → ∀ (R : Type) (KE : Unit → Option R) (KR : Bool → Option R),
    slices_EqualFunc_____int_____int___int___int__v38_l0 k KE KR n q' rows'.length c' q rows.length c ((rows.length : Nat) : Int) (i : Int) H = bif decide (cons (rows.drop i) = cons (rows'.drop i)) then KE () else KR false := by
  intro m
  induction m with
  | zero =>
    intro n i hn hj R KE KR
    obtain ⟨n, rfl⟩ : ∃ n', n = n' + 1 := ⟨n - 1, by omega⟩
    unfold slices_EqualFunc_____int_____int___int___int__v38_l0 slices_EqualFunc_____int_____int___int___int__v38_l0_b
    rw [List.drop_eq_nil_of_le (by omega), List.drop_eq_nil_of_le (by omega)]
    exact go_f (decide_eq_false (by omega)) rfl
  | succ m ih =>
    intro n i hn hj R KE KR
    obtain ⟨n, rfl⟩ : ∃ n', n = n' + 1 := ⟨n - 1, by omega⟩
    obtain ⟨x, hx⟩ := ex_get (l := rows) (i := i) (by omega)
    obtain ⟨y, hy⟩ := ex_get (l := rows') (i := i) (by omega)
    obtain ⟨p1, e1, e2⟩ := row_at h hx
    obtain ⟨p2, e3, e4⟩ := row_at h' hy
    have hxm := List.mem_of_getElem? hx
    have e5 := equal_eq (k := k) hk x.2.1 y.2.1 (h.rw x hxm) (h'.rw y (List.mem_of_getElem? hy)) (by have := hr x hxm; omega)
    rw [drop_cons hx, drop_cons hy]
    unfold slices_EqualFunc_____int_____int___int___int__v38_l0 slices_EqualFunc_____int_____int___int___int__v38_l0_b colorspec_Same_1 colorspec_Same_1_b
    refine go_t (decide_eq_true (by omega)) ((e1 _ _).trans ((e2 _ _).trans ((e3 _ _).trans ((e4 _ _).trans ((e5 _ _).trans ?_)))))
    by_cases hxy : x.2.2 = y.2.2
    · rw [decide_eq_true hxy]
      refine go_f rfl ?_
      rw [w64 (n := (i : Int) + 1) (by omega) (by omega)]
      refine (ih n (i + 1) (by omega) (by omega) R KE KR).trans ?_
      simp [cons, hxy]
    · rw [decide_eq_false hxy, decide_eq_false (by simp [cons, hxy])]
      exact go_t rfl rfl
def sameB (s : Int) (rs : List Int) (rows : List Rw) (s' : Int) (rs' : List Int) (rows' : List Rw) : Bool := decide (s = s') && decide (rs = rs') && decide (cons rows = cons rows')
theorem same_eq {k : Nat} (hk : 100000 < k) {H : Heap} {q q2 q' q2' : Option Addr} {rs rs' : List Int} {rows rows' : List Rw} (s s' : Int) (c c2 c' c2' : Nat) (h : Shows H q (ints rs)) (hp : PalS H q2 rows) (F : FewC rs rows) (h' : Shows H q' (ints rs')) (hp' : PalS H q2' rows') :
    ∃ H', (∀ (R : Type) (K : Bool → Heap → Option R), colorspec_Same k s q rs.length c q2 rows.length c2 s' q' rs'.length c' q2' rows'.length c2' H K = K (sameB s rs rows s' rs' rows') H') ∧ Old H.length H H' := by
  obtain ⟨H1, hH1⟩ : ∃ H1, H1 = H ++ [some (⟨[.int .i64 s, .slice q rs.length c, .slice q2 rows.length c2], false, 0⟩ : Blk)] := ⟨_, rfl⟩
  have o1 : Old H.length H H1 := hH1 ▸ Old.app _ _
  have O1 : Owns H1 H.length [.int .i64 s, .slice q rs.length c, .slice q2 rows.length c2] 0 := by rw [hH1]; exact hblk_new H _
  have l1 : H1.length = H.length + 1 := by rw [hH1]; simp
  obtain ⟨H2, hH2⟩ : ∃ H2, H2 = H1 ++ [some (⟨[.int .i64 s', .slice q' rs'.length c', .slice q2' rows'.length c2'], false, 0⟩ : Blk)] := ⟨_, rfl⟩
  have o2 : Old H1.length H1 H2 := hH2 ▸ Old.app _ _
  have B := at3 (show Owns H2 H1.length [.int .i64 s', .slice q' rs'.length c', .slice q2' rows'.length c2'] 0 by rw [hH2]; exact hblk_new H1 _)
  have A := at3 (O1.old o2 (by omega))
  have oo : Old H.length H H2 := o1.trans (o2.mono (by omega))
  refine ⟨H2, fun R K => ?_, oo⟩
  unfold colorspec_Same colorspec_Same_b sameB
  refine go_halN hH1 (go_halN hH2 (go_fad (go_i A.a (go_fad (go_i B.a ?_)))))
  by_cases hs : s = s'
  case neg => rw [decide_eq_false hs]; exact go_f (by rw [beq_eq_false_iff_ne]; exact hs) rfl
  rw [decide_eq_true hs]
  refine go_t (by rw [hs]; exact beq_self_eq_true _) (go_fad (go_l A.b' (go_fad (go_l B.b' ((equal_eq hk c c' (h.keep oo) (h'.keep oo) (by have := F.a; omega) _ _).trans ?_)))))
  by_cases hr : rs = rs'
  case neg => rw [decide_eq_false hr]; exact go_f rfl rfl
  rw [decide_eq_true hr]
  refine go_t rfl (go_fad (go_l A.c' (go_fad (go_l B.c' ?_))))
  unfold slices_EqualFunc_____int_____int___int___int__v38 slices_EqualFunc_____int_____int___int___int__v38_b
  by_cases hl : rows.length = rows'.length
  · refine go_f (by rw [hl]; exact bne_self_eq_false' _) ((eqf_l k hk c2 c2' (hp.keep oo) (hp'.keep oo) F.b F.c hl rows.length k 0 (by have := F.b; omega) (by omega) R _ _).trans ?_)
    rw [List.drop_zero, List.drop_zero]
    cases decide (cons rows = cons rows') <;> rfl
  · rw [decide_eq_false (p := cons rows = cons rows') (fun hh => hl (by rw [← cons_len, hh, cons_len]))]
    exact go_t (by rw [bne_iff_ne]; omega) rfl
theorem rsame_l (k : Nat) (hk : 100000 < k) {H : Heap} {b b' : Nat} {s s' : Int} {qr qr' q q' : Option Addr} {lr cr lr' cr' c c' : Nat} {rows rows' : List Rw} (A : At3 H b s qr lr cr q rows.length c) (B : At3 H b' s' qr' lr' cr' q' rows'.length c') (h : PalS H q rows) (h' : PalS H q' rows') (hl : rows.length ≤ 70000) (hr : ∀ r ∈ rows, r.2.2.length ≤ 1000) (he : rows.length = rows'.length) : ∀ (m n i : Nat), m < n → rows.length = i + m → ∀ (R : Type) (KE : Unit → Option R) (KR : Bool → Option R),
    R46_Same_l1 k KE KR n (some ⟨b, 0, none⟩) (some ⟨b', 0, none⟩) (i : Int) H = bif decide (cons (rows.drop i) = cons (rows'.drop i)) then KE () else KR false := by
  intro m
  induction m with
  | zero =>
    intro n i hn hj R KE KR
    obtain ⟨n, rfl⟩ : ∃ n', n = n' + 1 := ⟨n - 1, by omega⟩
    unfold R46_Same_l1 R46_Same_l1_b
    rw [List.drop_eq_nil_of_le (by omega), List.drop_eq_nil_of_le (by omega)]
    exact go_fad (go_l A.c' (go_f (decide_eq_false (by omega)) rfl))
  | succ m ih =>
    intro n i hn hj R KE KR
    obtain ⟨n, rfl⟩ : ∃ n', n = n' + 1 := ⟨n - 1, by omega⟩
    obtain ⟨x, hx⟩ := ex_get (l := rows) (i := i) (by omega)
    obtain ⟨y, hy⟩ := ex_get (l := rows') (i := i) (by omega)
    obtain ⟨p1, e1, e2⟩ := row_at h hx
    obtain ⟨p2, e3, e4⟩ := row_at h' hy
    have hxm := List.mem_of_getElem? hx
    have e5 := sameInts_eq (k := k) hk x.2.1 y.2.1 (h.rw x hxm) (h'.rw y (List.mem_of_getElem? hy)) (by have := hr x hxm; omega)
    rw [drop_cons hx, drop_cons hy]
    unfold R46_Same_l1 R46_Same_l1_b
    refine go_fad (go_l A.c' (go_t (decide_eq_true (by omega)) (go_fad (go_l A.c' ((e1 _ _).trans ((e2 _ _).trans (go_fad (go_l B.c' ((e3 _ _).trans ((e4 _ _).trans ((e5 _ _).trans ?_)))))))))))
    by_cases hxy : x.2.2 = y.2.2
    · rw [decide_eq_true hxy]
      refine go_f rfl ?_
      rw [w64 (n := (i : Int) + 1) (by omega) (by omega)]
      refine (ih n (i + 1) (by omega) (by omega) R KE KR).trans ?_
      simp [cons, hxy]
    · rw [decide_eq_false hxy, decide_eq_false (by simp [cons, hxy])]
      exact go_t rfl rfl
theorem rsame_eq {k : Nat} (hk : 100000 < k) {H : Heap} {q q2 q' q2' : Option Addr} {rs rs' : List Int} {rows rows' : List Rw} (s s' : Int) (c c2 c' c2' : Nat) (h : Shows H q (ints rs)) (hp : PalS H q2 rows) (F : FewC rs rows) (h' : Shows H q' (ints rs')) (hp' : PalS H q2' rows') :
    ∃ H', (∀ (R : Type) (K : Bool → Heap → Option R), R46_Same k s q rs.length c q2 rows.length c2 s' q' rs'.length c' q2' rows'.length c2' H K = K (sameB s rs rows s' rs' rows') H') ∧ Old H.length H H' := by
  obtain ⟨H1, hH1⟩ : ∃ H1, H1 = H ++ [some (⟨[.int .i64 s, .slice q rs.length c, .slice q2 rows.length c2], false, 0⟩ : Blk)] := ⟨_, rfl⟩
  have o1 : Old H.length H H1 := hH1 ▸ Old.app _ _
  have O1 : Owns H1 H.length [.int .i64 s, .slice q rs.length c, .slice q2 rows.length c2] 0 := by rw [hH1]; exact hblk_new H _
  have l1 : H1.length = H.length + 1 := by rw [hH1]; simp
  obtain ⟨H2, hH2⟩ : ∃ H2, H2 = H1 ++ [some (⟨[.int .i64 s', .slice q' rs'.length c', .slice q2' rows'.length c2'], false, 0⟩ : Blk)] := ⟨_, rfl⟩
  have o2 : Old H1.length H1 H2 := hH2 ▸ Old.app _ _
  have B := at3 (show Owns H2 H1.length [.int .i64 s', .slice q' rs'.length c', .slice q2' rows'.length c2'] 0 by rw [hH2]; exact hblk_new H1 _)
  have A := at3 (O1.old o2 (by omega))
  have oo : Old H.length H H2 := o1.trans (o2.mono (by omega))
  refine ⟨H2, fun R K => ?_, oo⟩
  unfold R46_Same R46_Same_b R46_Same_p0 R46_Same_p0_b sameB
  refine go_halN hH1 (go_halN hH2 (go_fad (go_i A.a (go_fad (go_i B.a ?_)))))
  by_cases hs : s = s'
  case neg => rw [decide_eq_false hs]; exact go_t (by rw [bne_iff_ne]; exact hs) rfl
  rw [decide_eq_true hs]
  refine go_f (by rw [hs]; exact bne_self_eq_false' _) (go_fad (go_l A.b' (go_fad (go_l B.b' ((sameInts_eq hk c c' (h.keep oo) (h'.keep oo) (by have := F.a; omega) _ _).trans ?_)))))
  by_cases hr : rs = rs'
  case neg => rw [decide_eq_false hr]; exact go_t rfl rfl
  rw [decide_eq_true hr]
  refine go_f rfl (go_fad (go_l A.c' (go_fad (go_l B.c' ?_))))
  by_cases hl : rows.length = rows'.length
  · refine go_f (by rw [hl]; exact bne_self_eq_false' _) ((rsame_l k hk A B (hp.keep oo) (hp'.keep oo) F.b F.c hl rows.length k 0 (by have := F.b; omega) (by omega) R _ _).trans ?_)
    rw [List.drop_zero, List.drop_zero]
    cases decide (cons rows = cons rows') <;> rfl
  · rw [decide_eq_false (p := cons rows = cons rows') (fun hh => hl (by rw [← cons_len, hh, cons_len]))]
    exact go_t (by rw [bne_iff_ne]; omega) rfl
end Go.Proofs.Ytkjcjlembepdkaa.Sh
