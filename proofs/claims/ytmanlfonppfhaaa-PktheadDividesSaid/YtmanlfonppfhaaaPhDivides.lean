/- PktheadDivides: the parts of two contributions are those of both together. -/
import Derived.Test.YtmanlfonppfhaaaSh20
import Derived.Test.YtmanlfonppfhaaaPhC
set_option linter.unusedVariables false
set_option linter.unusedSimpArgs false
namespace Go.Proofs.Ytmanlfonppfhaaa.Sh
open Go.Proofs.Ytmanlfonppfhaaa.FW
theorem sl_init {R : Type} {b l : Nat} (h : 1 ≤ l) (hl : l ≤ 1000) (K : Option Addr → Nat → Nat → Option R) : hslc 1 (some ⟨b, 0, none⟩) l unk none (some ((l : Int) - 1)) none K = K (some ⟨b, 0, none⟩) (l - 1) unk := by
  unfold hslc
  simp only [Option.getD_none, Option.getD_some]
  rw [if_pos ⟨by omega, by omega, by unfold unk; omega, by rw [if_pos trivial]; exact ⟨rfl, .inr ⟨rfl, by omega⟩⟩⟩, if_pos ⟨trivial, rfl⟩, if_pos trivial, show ((l : Int) - 1).toNat = l - 1 from by omega]
theorem sl_tail {R : Type} {b l : Nat} (h : 1 ≤ l) (hl : l ≤ 1000) (K : Option Addr → Nat → Nat → Option R) : hslc 1 (some ⟨b, 0, none⟩) l unk (some 1) none none K = if 1 < l then K (some ⟨b, 1, none⟩) (l - 1) unk else K (some ⟨0, 1, some 0⟩) 0 unk := by
  unfold hslc
  simp only [Option.getD_none, Option.getD_some]
  rw [if_pos ⟨by omega, by omega, by unfold unk; omega, by rw [if_pos trivial]; exact ⟨rfl, .inr ⟨rfl, by omega⟩⟩⟩, if_pos ⟨trivial, rfl⟩, if_neg (by omega)]
  by_cases h1 : 1 < l
  · rw [if_pos h1, if_pos ⟨by omega, by omega⟩, show ((l : Int)).toNat - (1 : Int).toNat = l - 1 from by omega]; rfl
  · rw [if_neg h1, if_neg (by omega), if_pos (by omega)]
theorem appU {H : Heap} {b : Nat} {X Y : List Int} {q : Option Addr} (O : Owns H b (ints X) 1) (S : Shows H q (ints Y)) (hl : X.length + Y.length ≤ 1000) :
    ∃ H', (∀ (R : Type) (K : Option Addr → Nat → Nat → Heap → Option R), happS 1 8 H (some ⟨b, 0, none⟩) X.length unk q Y.length K = K (some ⟨H.length, 0, none⟩) (X.length + Y.length) unk H') ∧ Owns H' H.length (ints (X ++ Y)) 1 ∧ (∀ i, i < H.length → i ≠ b → hblk H' i = hblk H i) ∧ H'.length = H.length + 1 := by
  have hc := S.hcells
  have hY : (ints Y).length = Y.length := by simp [ints]
  have hX : (ints X).length = X.length := by simp [ints]
  rw [hY] at hc
  have O' : hblk H b = some ⟨ints X, false, 1⟩ := O
  have hlt := O.lt
  refine ⟨hset H b none ++ [some (⟨ints (X ++ Y), false, 1⟩ : Blk)], fun R K => ?_, ?_, fun i hi hne => ?_, by simp [hset_length]⟩
  · unfold happS happ
    rw [Nat.mul_one, hc]
    simp only [if_true, O', cond_false, Nat.mul_one, hX, true_and]
    rw [if_pos (by omega)]
    simp [ints]
  · have := app_new (hset H b none) (some ⟨ints (X ++ Y), false, 1⟩) []
    rwa [hset_length] at this
  · rw [app_old (by rw [hset_length]; exact hi), hset_get, if_neg (fun hh => hne hh.1)]
theorem app0 {H : Heap} {b : Nat} {Y : List Int} {q : Option Addr} (S : Shows H q (ints Y)) (h0 : Y ≠ []) (hl : Y.length ≤ 1000) :
    ∃ H', (∀ (R : Type) (K : Option Addr → Nat → Nat → Heap → Option R), happS 1 8 H (some ⟨b, 0, none⟩) 0 0 q Y.length K = K (some ⟨H.length, 0, none⟩) Y.length unk H') ∧ Owns H' H.length (ints Y) 1 ∧ Old H.length H H' ∧ H'.length = H.length + 1 := by
  have hc := S.hcells
  have hY : (ints Y).length = Y.length := by simp [ints]
  rw [hY] at hc
  have hp : 0 < Y.length := List.length_pos_iff.2 h0
  refine ⟨H ++ [some (⟨ints Y, false, 1⟩ : Blk)], fun R K => ?_, (show hblk _ _ = _ from hblk_new _ _), Old.app _ _, by simp⟩
  unfold happS happ
  rw [Nat.mul_one, hc]
  dsimp only
  have hc2 : FW.hcells H (some ⟨b, 0, none⟩) (0 * 1) = some [] := by unfold FW.hcells; rw [if_pos (by omega)]
  rw [if_neg (by unfold unk; omega), if_neg (by omega), if_pos (by omega), hc2, Nat.zero_add]
  rfl
theorem appn {H : Heap} {b : Nat} {Y : List Int} {q : Option Addr} (S : Shows H q (ints Y)) (hl : Y.length ≤ 1000) (hb : b < H.length) :
    ∃ H' q' c', (∀ (R : Type) (K : Option Addr → Nat → Nat → Heap → Option R), hapnS 1 8 H (some ⟨b, 0, none⟩) 0 0 q Y.length K = K q' Y.length c' H') ∧ Old H.length H H' ∧ ((Y = [] ∧ q' = some ⟨b, 0, none⟩ ∧ c' = 0) ∨ (∃ b', q' = some ⟨b', 0, none⟩ ∧ c' = unk ∧ H.length ≤ b' ∧ Owns H' b' (ints Y) 1)) := by
  have hc := S.hcells
  have hY : (ints Y).length = Y.length := by simp [ints]
  rw [hY] at hc
  by_cases h0 : Y = []
  · subst h0
    refine ⟨H, some ⟨b, 0, none⟩, 0, fun R K => ?_, .refl _ _, .inl ⟨rfl, rfl, rfl⟩⟩
    unfold hapnS hapn
    rw [show ([] : List Int).length * 1 = ([] : List Int).length from rfl, hc]
    dsimp only
    rw [if_neg (by unfold unk; omega)]
    rfl
  · have hp : 0 < Y.length := List.length_pos_iff.2 h0
    refine ⟨H ++ [some (⟨ints Y, false, 1⟩ : Blk)], some ⟨H.length, 0, none⟩, unk, fun R K => ?_, Old.app _ _, .inr ⟨_, rfl, rfl, Nat.le_refl _, (show hblk _ _ = _ from hblk_new _ _)⟩⟩
    unfold hapnS hapn
    rw [Nat.mul_one, hc]
    dsimp only
    have hc2 : FW.hcells H (some ⟨b, 0, none⟩) (0 * 1) = some [] := by unfold FW.hcells; rw [if_pos (by omega)]
    rw [if_neg (by unfold unk; omega), if_neg (by omega), if_neg (by omega), if_pos (by omega), hc2, Nat.zero_add]
    rfl
theorem own_pre {H : Heap} {b sz : Nat} {X Y : List Int} (O : Owns H b (ints (X ++ Y)) sz) : Shows H (some ⟨b, 0, none⟩) (ints X) := by
  have : ints (X ++ Y) = ints X ++ ints Y := by simp [ints]
  rw [this] at O
  exact own_shows O
theorem own_suf {H : Heap} {b sz : Nat} {y : Int} {Y : List Int} (O : Owns H b (ints (y :: Y)) sz) : Shows H (some ⟨b, 1, none⟩) (ints Y) := .inr ⟨b, 1, ints (y :: Y), rfl, O.sees, by simp [ints]; omega, List.take_of_length_le (Nat.le_refl _)⟩
theorem sum_l (k : Nat) {H : Heap} {q : Option Addr} {xs : List Int} (c : Nat) (h : Shows H q (ints xs)) (hp : ∀ x ∈ xs, 1 ≤ x) (hl : xs.length ≤ 1000) : ∀ (m n i : Nat) (acc : Int), m < n → xs.length = i + m → 0 ≤ acc → acc + (xs.drop i).sum ≤ 1000 → ∀ (R : Type) (KE : Int → Option R), L_sum_l0 k KE n q xs.length c acc (i : Int) H = KE (acc + (xs.drop i).sum) := by
  intro m
  induction m with
  | zero =>
    intro n i acc hn hj h0 h1 R KE
    obtain ⟨n, rfl⟩ : ∃ n', n = n' + 1 := ⟨n - 1, by omega⟩
    unfold L_sum_l0 L_sum_l0_b
    rw [List.drop_eq_nil_of_le (by omega)]
    exact go_f (decide_eq_false (by omega)) (by simp)
  | succ m ih =>
    intro n i acc hn hj h0 h1 R KE
    obtain ⟨n, rfl⟩ : ∃ n', n = n' + 1 := ⟨n - 1, by omega⟩
    obtain ⟨x, hx⟩ : ∃ x, xs[i]? = some x := ⟨_, List.getElem?_eq_getElem (by omega)⟩
    have hxp := hp x (List.mem_of_getElem? hx)
    obtain ⟨p, e, g⟩ := int_at' h hx
    rw [take_snoc' hx, List.sum_cons] at h1
    have hs : 0 ≤ (xs.drop (i + 1)).sum := by
      have : ∀ l : List Int, (∀ x ∈ l, 1 ≤ x) → 0 ≤ l.sum := by
        intro l
        induction l with
        | nil => intro _; simp
        | cons y l ih => intro h; have := ih fun x hx => h x (List.mem_cons_of_mem _ hx); have := h y (List.mem_cons_self ..); rw [List.sum_cons]; omega
      exact this _ fun x hx => hp x (List.mem_of_mem_drop hx)
    unfold L_sum_l0 L_sum_l0_b
    refine go_t (decide_eq_true (by omega)) ((e _ _).trans ((g _ _).trans ?_))
    rw [w64 (n := acc + x) (by omega) (by omega), w64 (n := (i : Int) + 1) (by omega) (by omega), take_snoc' hx, List.sum_cons, ← Int.add_assoc]
    exact ih n (i + 1) (acc + x) (by omega) (by omega) (by omega) (by omega) R KE
theorem sum_eq {k : Nat} (hk : 1000 < k) {H : Heap} {q : Option Addr} {xs : List Int} (c : Nat) (h : Shows H q (ints xs)) (hp : ∀ x ∈ xs, 1 ≤ x) (hl : xs.length ≤ 1000) (hs : xs.sum ≤ 1000) (R : Type) (K : Int → Option R) : L_sum k q xs.length c H K = K xs.sum := by
  have := sum_l k c h hp hl xs.length k 0 0 (by omega) (by omega) (by omega) (by rw [List.drop_zero]; omega) R K
  rw [List.drop_zero, Int.zero_add] at this
  exact this
theorem dv1_l (k : Nat) {H : Heap} {q : Option Addr} {xs : List Int} (c : Nat) (h : Shows H q (ints xs)) (hp : ∀ x ∈ xs, 1 ≤ x) (hl : xs.length ≤ 1000) (q4 : Option Addr) (l5 c6 : Nat) (q7 : Option Addr) (l8 c9 : Nat) : ∀ (m n i : Nat), m < n → xs.length = i + m → ∀ (R : Type) (KE : Option Addr → Nat → Nat → Option Addr → Nat → Nat → Option Addr → Nat → Nat → Option R) (KR : Bool → Option R), L_PktheadDivides_l1 k KE KR n q xs.length c q4 l5 c6 q7 l8 c9 (i : Int) H = KE q xs.length c q4 l5 c6 q7 l8 c9 := by
  intro m
  induction m with
  | zero =>
    intro n i hn hj R KE KR
    obtain ⟨n, rfl⟩ : ∃ n', n = n' + 1 := ⟨n - 1, by omega⟩
    unfold L_PktheadDivides_l1 L_PktheadDivides_l1_b
    exact go_f (decide_eq_false (by omega)) rfl
  | succ m ih =>
    intro n i hn hj R KE KR
    obtain ⟨n, rfl⟩ : ∃ n', n = n' + 1 := ⟨n - 1, by omega⟩
    obtain ⟨x, hx⟩ : ∃ x, xs[i]? = some x := ⟨_, List.getElem?_eq_getElem (by omega)⟩
    have hxp := hp x (List.mem_of_getElem? hx)
    obtain ⟨p, e, g⟩ := int_at' h hx
    unfold L_PktheadDivides_l1 L_PktheadDivides_l1_b
    refine go_t (decide_eq_true (by omega)) ((e _ _).trans ((g _ _).trans (go_f (decide_eq_false (by omega)) ?_)))
    rw [w64 (n := (i : Int) + 1) (by omega) (by omega)]
    exact ih n (i + 1) (by omega) (by omega) R KE KR
theorem dv2_l (k : Nat) {H : Heap} {q : Option Addr} {xs : List Int} (c : Nat) (h : Shows H q (ints xs)) (hp : ∀ x ∈ xs, 1 ≤ x) (hl : xs.length ≤ 1000) (q4 : Option Addr) (l5 c6 : Nat) (q7 : Option Addr) (l8 c9 : Nat) : ∀ (m n i : Nat), m < n → xs.length = i + m → ∀ (R : Type) (KE : Option Addr → Nat → Nat → Option Addr → Nat → Nat → Option Addr → Nat → Nat → Option R) (KR : Bool → Option R), L_PktheadDivides_l2 k KE KR n q4 l5 c6 q xs.length c q7 l8 c9 (i : Int) H = KE q4 l5 c6 q xs.length c q7 l8 c9 := by
  intro m
  induction m with
  | zero =>
    intro n i hn hj R KE KR
    obtain ⟨n, rfl⟩ : ∃ n', n = n' + 1 := ⟨n - 1, by omega⟩
    unfold L_PktheadDivides_l2 L_PktheadDivides_l2_b
    exact go_f (decide_eq_false (by omega)) rfl
  | succ m ih =>
    intro n i hn hj R KE KR
    obtain ⟨n, rfl⟩ : ∃ n', n = n' + 1 := ⟨n - 1, by omega⟩
    obtain ⟨x, hx⟩ : ∃ x, xs[i]? = some x := ⟨_, List.getElem?_eq_getElem (by omega)⟩
    have hxp := hp x (List.mem_of_getElem? hx)
    obtain ⟨p, e, g⟩ := int_at' h hx
    unfold L_PktheadDivides_l2 L_PktheadDivides_l2_b
    refine go_t (decide_eq_true (by omega)) ((e _ _).trans ((g _ _).trans (go_f (decide_eq_false (by omega)) ?_)))
    rw [w64 (n := (i : Int) + 1) (by omega) (by omega)]
    exact ih n (i + 1) (by omega) (by omega) R KE KR
theorem sum_len : ∀ (l : List Int), (∀ x ∈ l, 1 ≤ x) → (l.length : Int) ≤ l.sum := by
  intro l
  induction l with
  | nil => intro _; simp
  | cons y l ih => intro h; have := ih fun x hx => h x (List.mem_cons_of_mem _ hx); have := h y (List.mem_cons_self ..); rw [List.sum_cons, List.length_cons]; push_cast; omega
theorem bld_own {N : Nat} {H : Heap} {q : Option Addr} {l c : Nat} {xs : List Int} (B : Bld N 1 H q l c (ints xs)) (h : xs ≠ []) : ∃ b, q = some ⟨b, 0, none⟩ ∧ c = unk ∧ l = xs.length ∧ N ≤ b ∧ Owns H b (ints xs) 1 := by
  rcases B with ⟨_, _, _, h1⟩ | ⟨b, h1, h2, h3, h4, h5⟩
  · have := congrArg List.length h1; simp [ints] at this; exact absurd this h
  · exact ⟨b, h1, h2, by simpa [ints] using h5, h3, h4⟩
theorem dv3_eq (k : Nat) {H : Heap} {ba bb : Nat} {A B : List Int} {x y : Int} (OA : Owns H ba (ints (A ++ [x])) 1) (OB : Owns H bb (ints (y :: B)) 1) (hA : A.length ≤ 400) (hB : B.length ≤ 400) (hx : 1 ≤ x ∧ x ≤ 1000) (hy : 1 ≤ y ∧ y ≤ 1000) (q7 : Option Addr) (l8 c9 : Nat) (q10 : Option Addr) (l11 c12 : Nat) (hne : l11 ≠ l8) :
    ∃ H' q', (∀ (R : Type) (KN : Option Addr → Nat → Nat → Option Addr → Nat → Nat → Heap → Option R), L_PktheadDivides_p3 k (some ⟨ba, 0, none⟩) (A.length + 1) unk (some ⟨bb, 0, none⟩) (B.length + 1) unk q7 l8 c9 q10 l11 c12 H KN = KN q7 l8 c9 q' (A ++ (x + y) :: B).length unk H') ∧ Shows H' q' (ints (A ++ (x + y) :: B)) ∧ Old H.length H H' := by
  obtain ⟨H1, hH1⟩ : ∃ H1, H1 = H ++ [some (⟨[], false, 0⟩ : Blk)] := ⟨_, rfl⟩
  have o1 : Old H.length H H1 := hH1 ▸ Old.app _ _
  have l1 : H1.length = H.length + 1 := by rw [hH1]; simp
  have lA := OA.lt
  have lB := OB.lt
  obtain ⟨H2, q2, c2, e2, o2, st⟩ := appn (b := H.length) (own_pre (OA.old o1 lA)) (by omega) (by omega)
  have l2 := o2.1
  have o02 : Old H.length H H2 := o1.trans (o2.mono (by omega))
  have SA : Shows H2 (some ⟨ba, 0, none⟩) (ints (A ++ [x])) := (OA.old o02 lA).sees.shows
  have SB : Shows H2 (some ⟨bb, 0, none⟩) (ints (y :: B)) := (OB.old o02 lB).sees.shows
  obtain ⟨pa, ea, ga⟩ := int_at' SA (i := A.length) (x := x) (by simp)
  obtain ⟨pb, eb, gb⟩ := int_at' SB (i := 0) (x := y) rfl
  rw [show (A ++ [x]).length = A.length + 1 from by simp] at ea
  rw [show (y :: B).length = B.length + 1 from rfl] at eb
  obtain ⟨H3, hH3⟩ : ∃ H3, H3 = H2 ++ [some (⟨[.int .i64 (x + y)], false, 0⟩ : Blk)] := ⟨_, rfl⟩
  have o3 : Old H2.length H2 H3 := hH3 ▸ Old.app _ _
  have O3 : Owns H3 H2.length (ints [x + y]) 0 := by rw [hH3]; exact hblk_new H2 _
  have l3 : H3.length = H2.length + 1 := by rw [hH3]; simp
  have hap : ∃ H4, (∀ (R : Type) (K : Option Addr → Nat → Nat → Heap → Option R), happS 1 8 H3 q2 A.length c2 (some ⟨H2.length, 0, none⟩) 1 K = K (some ⟨H3.length, 0, none⟩) (A.length + 1) unk H4) ∧ Owns H4 H3.length (ints (A ++ [x + y])) 1 ∧ Old H.length H3 H4 ∧ H4.length = H3.length + 1 := by
    rcases st with ⟨rfl, rfl, rfl⟩ | ⟨b2, rfl, rfl, hb2, O2⟩
    · obtain ⟨H4, e4, O4, o4, l4⟩ := app0 (b := H.length) (O3.sees.shows) (by simp) (by simp)
      exact ⟨H4, e4, O4, o4.mono (by omega), l4⟩
    · obtain ⟨H4, e4, O4, k4, l4⟩ := appU (O2.old o3 O2.lt) (O3.sees.shows) (by simp; omega)
      exact ⟨H4, e4, O4, ⟨by omega, fun i hi => k4 i (by omega) (by omega)⟩, l4⟩
  obtain ⟨H4, e4, O4, o4, l4⟩ := hap
  have o04 : Old H.length H H4 := o02.trans ((o3.mono (by omega)).trans o4)
  obtain ⟨qt, et, St⟩ : ∃ qt, (∀ (R : Type) (K : Option Addr → Nat → Nat → Option R), hslc 1 (some ⟨bb, 0, none⟩) (B.length + 1) unk (some 1) none none K = K qt B.length unk) ∧ Shows H4 qt (ints B) := by
    by_cases hB0 : B = []
    · subst hB0
      exact ⟨some ⟨0, 1, some 0⟩, fun R K => (sl_tail (by simp) (by simp) K).trans (by rw [if_neg (by simp)]; rfl), .inl rfl⟩
    · have : 0 < B.length := List.length_pos_iff.2 hB0
      exact ⟨some ⟨bb, 1, none⟩, fun R K => (sl_tail (by omega) (by omega) K).trans (by rw [if_pos (by omega), Nat.add_sub_cancel]), own_suf (OB.old o04 lB)⟩
  obtain ⟨H5, e5, O5, k5, l5⟩ := appU O4 St (by simp; omega)
  have hfin : A ++ [x + y] ++ B = A ++ (x + y) :: B := by simp
  rw [hfin] at O5
  refine ⟨H5, some ⟨H4.length, 0, none⟩, fun R KN => ?_, O5.sees.shows, o04.trans ⟨by omega, fun i hi => k5 i (by omega) (by omega)⟩⟩
  unfold L_PktheadDivides_p3 L_PktheadDivides_p3_b
  have hw : IntKind.wrap .i64 (((A.length + 1 : Nat) : Int) - 1) = ((A.length : Nat) : Int) := by rw [w64 (by omega) (by omega)]; omega
  have hs := fun (R : Type) (K : Option Addr → Nat → Nat → Option R) => sl_init (R := R) (b := ba) (l := A.length + 1) (by omega) (by omega) K
  rw [show ((A.length + 1 : Nat) : Int) - 1 = ((A.length : Nat) : Int) from by omega, Nat.add_sub_cancel] at hs
  refine go_t (bne_iff_ne.2 (by omega)) (go_halN hH1 ?_)
  try dsimp only
  rw [hw]
  refine (hs _ _).trans ((e2 _ _).trans ((ea _ _).trans ((ga _ _).trans ((eb _ _).trans ((gb _ _).trans ?_)))))
  rw [w64 (n := x + y) (by omega) (by omega)]
  refine go_halN hH3 ((e4 _ _).trans ((et _ _).trans ?_))
  have e5' := e5 R
  rw [show (A ++ [x + y]).length = A.length + 1 from by simp] at e5'
  refine (e5' _).trans ?_
  rw [show A.length + 1 + B.length = (A ++ (x + y) :: B).length from by simp; omega]
theorem divides_run {k : Nat} (hk : 1000 < k) (hk2 : k ≤ 1000000) (a1 a2 a3 : Nat) (h1 : a1 ≤ 255) (h2 : a2 ≤ 255) (h3 : a3 ≤ 255) (t1 t2 t3 t4 t5 : Bool) (H : Heap) : L_PktheadDivides k (a1 : Int) (a2 : Int) (a3 : Int) t1 t2 t3 t4 t5 H (fun t H => asB (.bool t) H) = some true := by
  obtain ⟨b, hb⟩ : ∃ b : Int, b = ((a1 % 60 : Nat) : Int) := ⟨_, rfl⟩
  obtain ⟨p, hp⟩ : ∃ p : Int, p = ((a2 % 60 + 1 : Nat) : Int) := ⟨_, rfl⟩
  obtain ⟨q, hq⟩ : ∃ q : Int, q = ((a3 % 58 + 1 : Nat) : Int) := ⟨_, rfl⟩
  have w1 : Int.tmod (IntKind.wrap .i64 (a1 : Int)) 60 = b := by rw [w64 (by omega) (by omega), Int.tmod_eq_emod_of_nonneg (by omega), hb]; rfl
  have w2 : IntKind.wrap .i64 (Int.tmod (IntKind.wrap .i64 (a2 : Int)) 60 + 1) = p := by rw [w64 (n := (a2 : Int)) (by omega) (by omega), Int.tmod_eq_emod_of_nonneg (by omega), w64 (by omega) (by omega), hp]; rfl
  have w3 : IntKind.wrap .i64 (Int.tmod (IntKind.wrap .i64 (a3 : Int)) 58 + 1) = q := by rw [w64 (n := (a3 : Int)) (by omega) (by omega), Int.tmod_eq_emod_of_nonneg (by omega), w64 (by omega) (by omega), hq]; rfl
  have hb' : 0 ≤ b ∧ b ≤ 59 := by omega
  have hp' : 1 ≤ p ∧ p ≤ 60 := by omega
  have hq' : 1 ≤ q ∧ q ≤ 58 := by omega
  clear hb hp hq
  have w4 : IntKind.wrap .i64 (b + p) = b + p := w64 (by omega) (by omega)
  have w5 : IntKind.wrap .i64 (p + q) = p + q := w64 (by omega) (by omega)
  obtain ⟨s1, s2, s3, p1, p2, hdiv⟩ := pts_two t1 t2 (k := k) (by omega) hb'.1 hp'.1 hq'.1 (by omega)
  have p3 : ∀ x ∈ pts t1 t2 k b (p + q), 1 ≤ x := by
    unfold pts; rw [if_neg (by omega)]; exact parts_pos _ _ _ _
  generalize eA : pts t1 t2 k b p = A at *
  generalize eB : pts t1 t2 k (b + p) q = B at *
  generalize eC : pts t1 t2 k b (p + q) = C at *
  have hA0 : A ≠ [] := by rintro rfl; simp at s1; omega
  have hB0 : B ≠ [] := by rintro rfl; simp at s2; omega
  have hC0 : C ≠ [] := by rintro rfl; simp at s3; omega
  have lA := sum_len A p1
  have lB := sum_len B p2
  have lC := sum_len C p3
  obtain ⟨H1, hH1⟩ : ∃ H1, H1 = H ++ [some (⟨[.int .u8 (a1 : Int), .int .u8 (a2 : Int), .int .u8 (a3 : Int)], false, 0⟩ : Blk)] := ⟨_, rfl⟩
  have O1 : Owns H1 H.length [.int .u8 (a1 : Int), .int .u8 (a2 : Int), .int .u8 (a3 : Int)] 0 := by rw [hH1]; exact hblk_new H _
  have l1 : H1.length = H.length + 1 := by rw [hH1]; simp
  obtain ⟨H2, hH2⟩ : ∃ H2, H2 = H1 ++ [some (⟨[.bool t1, .bool t2, .bool t3, .bool t4, .bool t5], false, 0⟩ : Blk)] := ⟨_, rfl⟩
  have o2 : Old H1.length H1 H2 := hH2 ▸ Old.app _ _
  have O2 : Owns H2 H1.length [.bool t1, .bool t2, .bool t3, .bool t4, .bool t5] 0 := by rw [hH2]; exact hblk_new H1 _
  have l2 : H2.length = H1.length + 1 := by rw [hH2]; simp
  have N := (O1.old o2 (by omega)).sees
  have n0 : hcell H2 H.length (0 + 0 * 1) = some (.int .u8 (a1 : Int)) := N.cell 0
  have n1 : hcell H2 H.length (0 + 1 * 1) = some (.int .u8 (a2 : Int)) := N.cell 1
  have n2 : hcell H2 H.length (0 + 2 * 1) = some (.int .u8 (a3 : Int)) := N.cell 2
  have i0 : ∀ (R : Type) (K : Option Addr → Option R), hidx (some ⟨H.length, 0, none⟩) 3 0 1 K = K (some ⟨H.length, 0 + 0 * 1, none⟩) := fun R K => hidx_x _ _ _ _ _ _ _ ⟨by omega, by omega⟩
  have i1 : ∀ (R : Type) (K : Option Addr → Option R), hidx (some ⟨H.length, 0, none⟩) 3 1 1 K = K (some ⟨H.length, 0 + 1 * 1, none⟩) := fun R K => hidx_x _ _ _ _ _ _ _ ⟨by omega, by omega⟩
  have i2 : ∀ (R : Type) (K : Option Addr → Option R), hidx (some ⟨H.length, 0, none⟩) 3 2 1 K = K (some ⟨H.length, 0 + 2 * 1, none⟩) := fun R K => hidx_x _ _ _ _ _ _ _ ⟨by omega, by omega⟩
  have md : ∀ {G : Heap}, Old H2.length H2 G → hcell G H1.length 0 = some (.bool t1) ∧ hcell G H1.length 1 = some (.bool t2) ∧ hcell G H1.length 2 = some (.bool t3) ∧ hcell G H1.length 3 = some (.bool t4) ∧ hcell G H1.length 4 = some (.bool t5) := fun {G} o => by
    have O := (O2.old o (by omega)).sees
    exact ⟨O.cell 0, O.cell 1, O.cell 2, O.cell 3, O.cell 4⟩
  obtain ⟨x0, x1, x2, x3, x4⟩ := md (.refl _ _)
  obtain ⟨qa, la, ca, Ha, ea, Ba, oa, _⟩ := Parts_eq (k := k) (by omega) b p (by omega) t1 t2 t3 t4 t5 (roH H2)
  rw [eA] at Ba
  have Ba := Bld.lay Ba
  obtain ⟨G1, hG1⟩ : ∃ G1, G1 = H2 ++ Ha.drop H2.length := ⟨_, rfl⟩
  rw [← hG1] at Ba
  have og1 : Old H2.length H2 G1 := hG1 ▸ Old.app _ _
  have lg1 := og1.1
  obtain ⟨y0, y1, y2, y3, y4⟩ := md og1
  obtain ⟨qb, lb, cb, Hb, eb, Bb, ob, _⟩ := Parts_eq (k := k) (by omega) (b + p) q (by omega) t1 t2 t3 t4 t5 (roH G1)
  rw [eB] at Bb
  have Bb := Bld.lay Bb
  obtain ⟨G2, hG2⟩ : ∃ G2, G2 = G1 ++ Hb.drop G1.length := ⟨_, rfl⟩
  rw [← hG2] at Bb
  have og2 : Old G1.length G1 G2 := hG2 ▸ Old.app _ _
  have lg2 := og2.1
  obtain ⟨z0, z1, z2, z3, z4⟩ := md (og1.trans (og2.mono (by omega)))
  obtain ⟨qc, lc, cc, G3, ec, Bc, oc, _⟩ := Parts_eq (k := k) (by omega) b (p + q) (by omega) t1 t2 t3 t4 t5 G2
  rw [eC] at Bc
  have lg3 := oc.1
  have Ba3 := (Ba.old og2 (Nat.le_refl _)).old oc (Nat.le_refl _)
  have Bb3 := Bb.old oc (Nat.le_refl _)
  obtain ⟨ba, rfl, rfl, rfl, _, OA⟩ := bld_own Ba3 hA0
  obtain ⟨bb, rfl, rfl, rfl, _, OB⟩ := bld_own Bb3 hB0
  obtain ⟨bc, rfl, rfl, rfl, _, OC⟩ := bld_own Bc hC0
  have lOA := OA.lt
  have lOB := OB.lt
  have lOC := OC.lt
  have SA := OA.sees.shows
  have SB := OB.sees.shows
  have SC := OC.sees.shows
  have f1 := fun (R : Type) (K : Int → Option R) => sum_eq (k := k) (by omega) unk SA p1 (by omega) (by omega) R K
  have f2 := fun (R : Type) (K : Int → Option R) => sum_eq (k := k) (by omega) unk SB p2 (by omega) (by omega) R K
  have f3 := fun (R : Type) (K : Int → Option R) => sum_eq (k := k) (by omega) unk SC p3 (by omega) (by omega) R K
  rw [s1] at f1
  rw [s2] at f2
  rw [s3] at f3
  have lA0 := List.length_pos_iff.2 hA0
  have lB0 := List.length_pos_iff.2 hB0
  obtain ⟨G4, hG4⟩ : ∃ G4, G4 = G3 ++ [some (⟨[], false, 0⟩ : Blk)] := ⟨_, rfl⟩
  have o4 : Old G3.length G3 G4 := hG4 ▸ Old.app _ _
  have l4 : G4.length = G3.length + 1 := by rw [hG4]; simp
  obtain ⟨G5, e5, O5, o5, l5⟩ := app0 (b := G3.length) (SA.keep o4) hA0 (by omega)
  have o35 : Old G3.length G3 G5 := o4.trans (o5.mono (by omega))
  obtain ⟨G6, e6, O6, k6, l6⟩ := appU O5 (SB.keep o35) (by omega)
  have o36 : Old G3.length G3 G6 := o35.trans ⟨by omega, fun i hi => k6 i (by omega) (by omega)⟩
  have hcc : C.length ≤ 118 := by omega
  have fin : ∃ G7 q7, (∀ (R : Type) (KN : Option Addr → Nat → Nat → Option Addr → Nat → Nat → Heap → Option R), L_PktheadDivides_p3 k (some ⟨ba, 0, none⟩) A.length unk (some ⟨bb, 0, none⟩) B.length unk (some ⟨bc, 0, none⟩) C.length unk (some ⟨G5.length, 0, none⟩) (A.length + B.length) unk G6 KN = KN (some ⟨bc, 0, none⟩) C.length unk q7 C.length unk G7) ∧ Shows G7 q7 (ints C) ∧ Old G3.length G3 G7 := by
    rcases hdiv with hd | ⟨A', x, y, B', rfl, rfl, hd⟩
    · refine ⟨G6, some ⟨G5.length, 0, none⟩, fun R KN => ?_, by rw [hd]; exact O6.sees.shows, o36⟩
      have hl : A.length + B.length = C.length := by rw [hd, List.length_append]
      unfold L_PktheadDivides_p3 L_PktheadDivides_p3_b
      rw [hl]
      exact go_f (bne_eq_false_iff_eq.2 rfl) rfl
    · have hxm := p1 x (by simp)
      have hym := p2 y (by simp)
      have bx : x ≤ 1000 := by rw [List.sum_append] at s1; simp at s1; have := sum_len A' (fun z hz => p1 z (List.mem_append_left _ hz)); omega
      have bY : y ≤ 1000 := by rw [List.sum_cons] at s2; have := sum_len B' (fun z hz => p2 z (List.mem_cons_of_mem _ hz)); omega
      have hl1 : (A' ++ [x]).length = A'.length + 1 := by simp
      have hl2 : (y :: B').length = B'.length + 1 := rfl
      have hlC : C.length = A'.length + 1 + B'.length := by rw [hd]; simp; omega
      obtain ⟨G7, q7, e7, S7, o7⟩ := dv3_eq k (OA.old o36 lOA) (OB.old o36 lOB) (by omega) (by omega) ⟨hxm, bx⟩ ⟨hym, bY⟩ (some ⟨bc, 0, none⟩) C.length unk (some ⟨G5.length, 0, none⟩) ((A' ++ [x]).length + (y :: B').length) unk (by omega)
      rw [← hd] at e7 S7
      exact ⟨G7, q7, fun R KN => by rw [hl1, hl2]; rw [hl1, hl2] at e7; exact e7 R KN, S7, o36.trans (o7.mono (by have := o36.1; omega))⟩
  obtain ⟨G7, q7, e7, S7, o7⟩ := fin
  have es := fun (R : Type) (K : Bool → Option R) => SameInts_eq (k := k) (l1 := C.length) (l2 := C.length) unk unk S7 (SC.keep o7) rfl rfl (by omega) hk2 R K
  unfold L_PktheadDivides L_PktheadDivides_b
  refine go_halN hH1 (go_halN hH2 ((i0 _ _).trans (go_i n0 ((i1 _ _).trans (go_i n1 ((i2 _ _).trans (go_i n2 ?_)))))))
  refine go_bp x0 (go_bp x1 (go_bp x2 (go_bp x3 (go_bp x4 ?_))))
  try dsimp only
  rw [w1, w2, w3, w4, w5]
  refine (ea _ _).trans ?_
  rw [← hG1]
  refine go_bp y0 (go_bp y1 (go_bp y2 (go_bp y3 (go_bp y4 ((eb _ _).trans ?_)))))
  rw [← hG2]
  refine go_bp z0 (go_bp z1 (go_bp z2 (go_bp z3 (go_bp z4 ((ec _ _).trans ?_)))))
  unfold L_PktheadDivides_p0 L_PktheadDivides_p0_b
  refine (f1 _ _).trans (go_ne ((f2 _ _).trans (go_ne ((f3 _ _).trans ?_))))
  rw [w5]
  refine go_ne (go_f (beq_eq_false_iff_ne.2 (by omega)) (go_f (beq_eq_false_iff_ne.2 (by omega)) ?_))
  refine (dv1_l k unk SA p1 (by omega) _ _ _ _ _ _ A.length k 0 (by omega) (by omega) _ _ _).trans ?_
  refine (dv2_l k unk SB p2 (by omega) _ _ _ _ _ _ B.length k 0 (by omega) (by omega) _ _ _).trans ?_
  refine go_halN hG4 ((e5 _ _).trans ((e6 _ _).trans ((e7 _ _).trans ((es _ _).trans (go_t rfl rfl)))))
abbrev d3b : D := .pair (.int .u8) (.pair (.int .u8) (.pair (.int .u8) .nil))
def dMode : D := .pair .bool (.pair .bool (.pair .bool (.pair .bool (.pair .bool .nil))))
theorem wf_8 {a : Int} (h : (Lit.int .u8 a).wf = true) : 0 ≤ a ∧ a ≤ 255 := by
  simp only [Lit.wf, IntKind.min, IntKind.max, IntKind.signed, IntKind.bits, Bool.and_eq_true, decide_eq_true_eq, if_true, Bool.false_eq_true, if_false] at h
  exact ⟨by omega, by omega⟩
theorem divides_in (H : Heap) (us : List Value) (h : AllLies H [(d3b, true), (dMode, true)] us) : L_PktheadDivides_c Bool 10000 us H asB = some true := by
  obtain ⟨ns, vs, rfl, hn, h⟩ := lies_agg h
  obtain ⟨cs, vs, rfl, hs, h⟩ := lies_agg h
  obtain rfl := lies_nil h
  obtain ⟨_, _, rfl, ⟨a1, rfl, g1⟩, _, _, rfl, ⟨a2, rfl, g2⟩, _, y, rfl, ⟨a3, rfl, g3⟩, hy⟩ := hn
  have hy' : y = [] := hy
  subst hy'
  obtain ⟨x1, y1, rfl, ⟨t1, rfl⟩, x2, y2, rfl, ⟨t2, rfl⟩, x3, y3, rfl, ⟨t3, rfl⟩, x4, y4, rfl, ⟨t4, rfl⟩, x5, y5, rfl, ⟨t5, rfl⟩, hz⟩ := hs
  have hz' : y5 = [] := hz
  subst hz'
  have b1 := wf_8 g1
  have b2 := wf_8 g2
  have b3 := wf_8 g3
  obtain ⟨a1, rfl⟩ : ∃ n : Nat, a1 = n := ⟨a1.toNat, by omega⟩
  obtain ⟨a2, rfl⟩ : ∃ n : Nat, a2 = n := ⟨a2.toNat, by omega⟩
  obtain ⟨a3, rfl⟩ : ∃ n : Nat, a3 = n := ⟨a3.toNat, by omega⟩
  exact divides_run (k := 10000) (by omega) (by omega) a1 a2 a3 (by omega) (by omega) (by omega) t1 t2 t3 t4 t5 H
end Go.Proofs.Ytmanlfonppfhaaa.Sh
