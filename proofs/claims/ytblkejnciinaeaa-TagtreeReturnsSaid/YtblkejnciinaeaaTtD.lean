/- Tagtree: the minima. -/
import Derived.Test.YtblkejnciinaeaaTtC
import Derived.Test.YtblkejnciinaeaaSh1
set_option linter.unusedVariables false
set_option linter.unusedSimpArgs false
namespace Go.Proofs.Ytblkejnciinaeaa.Sh
open Go.Proofs.Ytblkejnciinaeaa.FW Go.IntWalk
def lset (g : Nat → Nat → Nd) (i : Nat) (f : Nat → Nd) : Nat → Nat → Nd := fun k => if k = i then f else g k
theorem lset_at (g : Nat → Nat → Nd) (i : Nat) (f : Nat → Nd) : lset g i f i = f := by unfold lset; rw [if_pos rfl]
theorem lset_ne (g : Nat → Nat → Nd) {i k : Nat} (f : Nat → Nd) (h : k ≠ i) : lset g i f k = g k := by unfold lset; rw [if_neg h]
theorem upd2_lset (g : Nat → Nat → Nd) (i j : Nat) (f : Nat → Nd) (x : Nd) : upd2 (lset g i f) i j x = lset g i (upd f j x) := by
  funext k
  by_cases h : k = i
  · subst h; rw [upd2_at, lset_at, lset_at]
  · rw [upd2_ne _ _ _ h, lset_ne _ _ h, lset_ne _ _ h]
theorem lset_self (g : Nat → Nat → Nd) (i : Nat) : lset g i (g i) = g := by
  funext k; unfold lset; split
  · rename_i h; rw [h]
  · rfl
def par (w w' k : Nat) : Nat := k / w / 2 * w' + k % w / 2
def mst (w w' : Nat) (fb : Nat → Nd) : Nat → (Nat → Nd) → Nat → Nd
  | 0, f => f
  | k + 1, f => upd (mst w w' fb k f) (par w w' k) (min (mst w w' fb k f (par w w' k)).1 (fb k).1, (mst w w' fb k f (par w w' k)).2)
def rsl (n : Nat) (f : Nat → Nd) : Nat → Nd := fun j => if j < n then (65535, (f j).2) else f j
def mlf (a b i : Nat) (g : Nat → Nat → Nd) : Nat → Nd := mst (wl a (i - 1)) (wl a i) (g (i - 1)) (wl a (i - 1) * wl b (i - 1)) (rsl (wl a i * wl b i) (g i))
def mins (a b : Nat) : Nat → Nat → (Nat → Nat → Nd) → Nat → Nat → Nd
  | 0, _, g => g
  | m + 1, i, g => mins a b m (i + 1) (lset g i (mlf a b i g))
theorem rsl_succ (j : Nat) (f : Nat → Nd) : upd (rsl j f) j (65535, (f j).2) = rsl (j + 1) f := by
  funext k
  unfold upd rsl
  by_cases h : k = j
  · subst h; rw [if_pos rfl, if_pos (by omega)]
  · rw [if_neg h]
    by_cases h2 : k < j
    · rw [if_pos h2, if_pos (by omega)]
    · rw [if_neg h2, if_neg (by omega)]
theorem wl_half (a i : Nat) : (wl a i - 1) / 2 + 1 = wl a (i + 1) := by
  unfold wl
  rw [Nat.add_sub_cancel, Nat.div_div_eq_div_mul, Nat.pow_succ]
theorem par_lt {a b i k : Nat} (hk : k < wl a i * wl b i) : par (wl a i) (wl a (i + 1)) k < wl a (i + 1) * wl b (i + 1) := by
  have h1 := wl_pos a i
  have h2 : k / wl a i < wl b i := Nat.div_lt_of_lt_mul hk
  have h3 : k % wl a i < wl a i := Nat.mod_lt _ h1
  have h4 := wl_half a i
  have h5 := wl_half b i
  have h6 : k / wl a i / 2 + 1 ≤ wl b (i + 1) := by omega
  have h7 : k % wl a i / 2 < wl a (i + 1) := by omega
  have := Nat.mul_le_mul_right (wl a (i + 1)) h6
  unfold par
  rw [Nat.add_mul] at this
  rw [Nat.mul_comm (wl a (i + 1))]; omega
theorem Tn.lvl {N : Nat} {H : Heap} {p bq : Nat} {c : Nat} {l : List Lv} {e d : Bool} {g : Nat → Nat → Nd} (T : Tn N H p (some ⟨bq, 0, none⟩) c l e d g) (hl : 1 ≤ l.length) {i : Nat} {v : Lv} (hv : l[i]? = some v) {j : Nat} (hj : j < 3) : hcell H bq (i * 3 + j) = (lvc v)[j]? := by
  obtain ⟨bq2, h, h1, _⟩ := T.row hl
  cases h
  rw [h1.sees.cell]
  exact fm3 lvc (fun _ => rfl) l i v hv j hj
theorem quo_eq {k w : Nat} (hk : k ≤ 65536) (hw : 1 ≤ w) (R : Type) (K : Int → Option R) : hbin .quo .i64 (k : Int) (w : Int) K = K ((k / w : Nat) : Int) := by
  have : k / w ≤ k := Nat.div_le_self _ _
  simp only [hbin]
  rw [if_neg (by omega), show Int.tdiv (k : Int) (w : Int) = ((k / w : Nat) : Int) from rfl]
  generalize k / w = d at this ⊢
  rw [w64 (by omega) (by omega)]
theorem rem_eq {k w : Nat} (hw : 1 ≤ w) (R : Type) (K : Int → Option R) : hbin .rem .i64 (k : Int) (w : Int) K = K ((k % w : Nat) : Int) := by
  simp only [hbin]
  rw [if_neg (by omega), show Int.tmod (k : Int) (w : Int) = ((k % w : Nat) : Int) from rfl]
theorem hidx3 {b n i : Nat} (hi : i < n) (R : Type) (K : Option Addr → Option R) : hidx (some ⟨b, 0, none⟩) n (i : Int) 3 K = K (some ⟨b, i * 3, none⟩) := by
  unfold hidx; simp only; rw [if_pos ⟨by omega, by omega⟩, Int.toNat_natCast, Nat.zero_add]
theorem min_l1 (k : Nat) {N p bq : Nat} {c : Nat} {l : List Lv} {e d : Bool} {g : Nat → Nat → Nd} {a b : Nat} (G : Geo a b l) {i : Nat} {v : Lv} (hv : l[i]? = some v) (pb : Option Addr) :
    ∀ (m n j : Nat), m < n → wl a i * wl b i = j + m → ∀ (H : Heap), N ≤ H.length → Tn N H p (some ⟨bq, 0, none⟩) c l e d (lset g i (rsl j (g i))) →
    ∃ H', (∀ (R : Type) (KE : Option Addr → Int → Option Addr → Option Addr → Heap → Option R), tagtree_Tree_minima_l1 k KE n (some ⟨p, 0, none⟩) (i : Int) pb (some ⟨bq, i * 3, none⟩) ((v.w * v.h : Nat) : Int) (j : Int) H = KE (some ⟨p, 0, none⟩) (i : Int) pb (some ⟨bq, i * 3, none⟩) H') ∧ Tn N H' p (some ⟨bq, 0, none⟩) c l e d (lset g i (rsl (wl a i * wl b i) (g i))) ∧ Tc l H H' := by
  obtain ⟨e1, e2⟩ := G.lv i v hv
  have hwh := G.wh i
  intro m
  induction m with
  | zero =>
    intro n j hn hj H hN T
    obtain ⟨n, rfl⟩ : ∃ n', n = n' + 1 := ⟨n - 1, by omega⟩
    have hj' : j = wl a i * wl b i := by omega
    subst hj'
    refine ⟨H, fun R KE => ?_, T, tc_refl _ _⟩
    unfold tagtree_Tree_minima_l1 tagtree_Tree_minima_l1_b
    exact go_f (decide_eq_false (by rw [e1, e2]; omega)) rfl
  | succ m ih =>
    intro n j hn hj H hN T
    obtain ⟨n, rfl⟩ : ∃ n', n = n' + 1 := ⟨n - 1, by omega⟩
    obtain ⟨H2, e3, T2, B2, n2⟩ := T.put1 G hv (j := j) (by omega) (o := 0) (by omega) (65535, (g i j).2) (.int .i64 65535) (by
      rw [lset_at]; unfold rsl; rw [if_neg (by omega)]; rfl)
    rw [upd2_lset, rsl_succ] at T2
    have o2 : Tc l H H2 := tc_but hv B2
    obtain ⟨H3, e4, T3, o3⟩ := ih n (j + 1) (by omega) (by omega) H2 (by have := o2.1; omega) T2
    refine ⟨H3, fun R KE => ?_, T3, tc_trans o2 o3⟩
    have mq : hcell H bq (i * 3 + 2) = some (.slice (some ⟨v.b, 0, none⟩) (v.w * v.h) v.c) := T.lvl G.pos hv (j := 2) (by omega)
    unfold tagtree_Tree_minima_l1 tagtree_Tree_minima_l1_b
    refine go_t (decide_eq_true (by rw [e1, e2]; omega)) (go_nil (go_fad (go_l mq ?_)))
    refine (hidx3 (by rw [e1, e2]; omega) _ _).trans (go_fad ((e3 _ _).trans ?_))
    rw [w64 (n := (j : Int) + 1) (by omega) (by omega)]
    exact e4 R KE
theorem min_l2 (k : Nat) {N p bq : Nat} {c : Nat} {l : List Lv} {e d : Bool} {g : Nat → Nat → Nd} {a b : Nat} (G : Geo a b l) {i : Nat} {v u : Lv} (hv : l[i + 1]? = some v) (hu : l[i]? = some u) (cc : Nat) (f0 : Nat → Nd) :
    ∀ (m n j : Nat), m < n → wl a i * wl b i = j + m → ∀ (H : Heap), N ≤ H.length → Tn N H p (some ⟨bq, 0, none⟩) c l e d (lset g (i + 1) (mst (wl a i) (wl a (i + 1)) (g i) j f0)) →
    ∃ H', (∀ (R : Type) (KE : Option Addr → Int → Heap → Option R), tagtree_Tree_minima_l2 k KE n (some ⟨p, 0, none⟩) ((i + 1 : Nat) : Int) (some ⟨bq, i * 3, none⟩) (some ⟨bq, (i + 1) * 3, none⟩) (some ⟨u.b, 0, none⟩) (u.w * u.h) cc ((u.w * u.h : Nat) : Int) (j : Int) H = KE (some ⟨p, 0, none⟩) ((i + 1 : Nat) : Int) H') ∧ Tn N H' p (some ⟨bq, 0, none⟩) c l e d (lset g (i + 1) (mst (wl a i) (wl a (i + 1)) (g i) (wl a i * wl b i) f0)) ∧ Tc l H H' := by
  obtain ⟨e1, e2⟩ := G.lv (i + 1) v hv
  obtain ⟨u1, u2⟩ := G.lv i u hu
  have hwh := G.wh i
  have hwh1 := G.wh (i + 1)
  intro m
  induction m with
  | zero =>
    intro n j hn hj H hN T
    obtain ⟨n, rfl⟩ : ∃ n', n = n' + 1 := ⟨n - 1, by omega⟩
    have hj' : j = wl a i * wl b i := by omega
    subst hj'
    refine ⟨H, fun R KE => ?_, T, tc_refl _ _⟩
    unfold tagtree_Tree_minima_l2 tagtree_Tree_minima_l2_b
    exact go_f (decide_eq_false (by rw [u1, u2]; omega)) rfl
  | succ m ih =>
    intro n j hn hj H hN T
    obtain ⟨n, rfl⟩ : ∃ n', n = n' + 1 := ⟨n - 1, by omega⟩
    have hjl : j < wl a i * wl b i := by omega
    have hp := par_lt hjl
    obtain ⟨F, hF⟩ : ∃ F, F = mst (wl a i) (wl a (i + 1)) (g i) j f0 := ⟨_, rfl⟩
    have hF1 : mst (wl a i) (wl a (i + 1)) (g i) (j + 1) f0 = upd F (par (wl a i) (wl a (i + 1)) j) (min (F (par (wl a i) (wl a (i + 1)) j)).1 (g i j).1, (F (par (wl a i) (wl a (i + 1)) j)).2) := by rw [hF]; rfl
    rw [← hF] at T
    obtain ⟨P, hP⟩ : ∃ P, P = par (wl a i) (wl a (i + 1)) j := ⟨_, rfl⟩
    rw [← hP] at hp hF1
    have r0 : hcell H u.b (j * 3 + 0) = some (.int .i64 (g i j).1) := by have := T.cell G hu hjl (o := 0) (by omega); rw [lset_ne _ _ (by omega)] at this; exact this
    have r1 : hcell H u.b (j * 3 + 1) = some (.int .i64 (g i j).2.1) := by have := T.cell G hu hjl (o := 1) (by omega); rw [lset_ne _ _ (by omega)] at this; exact this
    have r2 : hcell H u.b (j * 3 + 2) = some (.bool (g i j).2.2) := by have := T.cell G hu hjl (o := 2) (by omega); rw [lset_ne _ _ (by omega)] at this; exact this
    obtain ⟨Hn, hHn⟩ : ∃ Hn, Hn = H ++ [some (⟨[.int .i64 (g i j).1, .int .i64 (g i j).2.1, .bool (g i j).2.2], false, 0⟩ : Blk)] := ⟨_, rfl⟩
    have mn : hcell Hn H.length 0 = some (.int .i64 (g i j).1) := by rw [hHn]; exact hcell_new _ _ _
    have o1 : Old H.length H Hn := hHn ▸ Old.app _ _
    have T1 := T.old o1 (Nat.le_refl _)
    have q2 : hcell Hn bq ((i + 1) * 3 + 2) = some (.slice (some ⟨v.b, 0, none⟩) (v.w * v.h) v.c) := T1.lvl G.pos hv (j := 2) (by omega)
    have q0 : hcell Hn bq ((i + 1) * 3 + 0) = some (.int .i64 (v.w : Int)) := T1.lvl G.pos hv (j := 0) (by omega)
    have q0' : hcell Hn bq (i * 3 + 0) = some (.int .i64 (u.w : Int)) := T1.lvl G.pos hu (j := 0) (by omega)
    have rp : hcell Hn v.b (P * 3 + 0) = some (.int .i64 (F P).1) := by have := T1.cell G hv hp (o := 0) (by omega); rw [lset_at] at this; exact this
    obtain ⟨H2, e3, T2, B2, n2⟩ := T1.put1 G hv hp (o := 0) (by omega) (min (F P).1 (g i j).1, (F P).2) (.int .i64 (imn (F P).1 (g i j).1)) (by
      rw [lset_at]; unfold imn nd; simp only [List.set]; congr 2; rw [Int.min_def]; split <;> split <;> omega)
    rw [upd2_lset, ← hF1] at T2
    have o2 : Tc l Hn H2 := tc_but hv B2
    obtain ⟨H3, e4, T3, o3⟩ := ih n (j + 1) (by omega) (by omega) H2 (by have := o2.1; have := o1.1; omega) T2
    refine ⟨H3, fun R KE => ?_, T3, tc_trans (tc_old o1) (tc_trans o2 o3)⟩
    have hwi := wl_pos a i
    have hpar : P = j / wl a i / 2 * wl a (i + 1) + j % wl a i / 2 := hP
    have hw : IntKind.wrap .i64 (IntKind.wrap .i64 (IntKind.wrap .i64 (Int.tdiv ((j / wl a i : Nat) : Int) 2) * ((wl a (i + 1) : Nat) : Int)) + IntKind.wrap .i64 (Int.tdiv ((j % wl a i : Nat) : Int) 2)) = ((P : Nat) : Int) := by
      have h1 : Int.tdiv ((j / wl a i : Nat) : Int) 2 = ((j / wl a i / 2 : Nat) : Int) := rfl
      have h2 : Int.tdiv ((j % wl a i : Nat) : Int) 2 = ((j % wl a i / 2 : Nat) : Int) := rfl
      have h3 : j / wl a i ≤ j := Nat.div_le_self _ _
      have h4 : j % wl a i ≤ j := Nat.mod_le _ _
      rw [h1, h2]
      generalize j / wl a i = A at h3 hpar ⊢
      generalize j % wl a i = B at h4 hpar ⊢
      rw [w64 (n := ((A / 2 : Nat) : Int)) (by omega) (by omega), w64 (n := ((B / 2 : Nat) : Int)) (by omega) (by omega), ← Int.natCast_mul]
      generalize A / 2 * wl a (i + 1) = M at hpar ⊢
      rw [w64 (n := (M : Int)) (by omega) (by omega), w64 (by omega) (by omega)]
      omega
    unfold tagtree_Tree_minima_l2 tagtree_Tree_minima_l2_b
    refine go_t (decide_eq_true (by rw [u1, u2]; omega)) ((hidx3 (by rw [u1, u2]; omega) _ _).trans (go_ip r0 (go_ip r1 (go_bp r2 (go_halst hHn rfl rfl ?_)))))
    refine go_nil (go_fad (go_l q2 (go_nil (go_fad (go_i q0' ?_)))))
    rw [u1]
    refine (quo_eq (by omega) hwi _ _).trans (go_nil (go_fad (go_i q0 (go_nil (go_fad (go_i q0' ?_))))))
    rw [u1]
    refine (rem_eq hwi _ _).trans ?_
    rw [e1, hw]
    refine (hidx3 (by rw [e2]; omega) _ _).trans (go_nil (go_fad (go_i rp (go_fad (go_i mn (go_nil (go_fad ((e3 _ _).trans ?_))))))))
    rw [w64 (n := (j : Int) + 1) (by omega) (by omega), ← u1]
    exact e4 R KE
theorem lset_lset (g : Nat → Nat → Nd) (i : Nat) (f f' : Nat → Nd) : lset (lset g i f) i f' = lset g i f' := by
  funext k; unfold lset; split <;> rfl
theorem min_l0 {k : Nat} (hk : 70000 < k) {N p bq : Nat} {c : Nat} {l : List Lv} {e d : Bool} {a b : Nat} (G : Geo a b l) :
    ∀ (m n i : Nat), m < n → l.length = i + 1 + m → ∀ (H : Heap) (g : Nat → Nat → Nd), N ≤ H.length → Tn N H p (some ⟨bq, 0, none⟩) c l e d g →
    ∃ H', (∀ (R : Type) (KE : Heap → Option R), tagtree_Tree_minima_l0 k KE n (some ⟨p, 0, none⟩) ((i + 1 : Nat) : Int) H = KE H') ∧ Tn N H' p (some ⟨bq, 0, none⟩) c l e d (mins a b m (i + 1) g) ∧ Tc l H H' := by
  intro m
  have hlen := G.len
  induction m with
  | zero =>
    intro n i hn hi H g hN T
    obtain ⟨n, rfl⟩ : ∃ n', n = n' + 1 := ⟨n - 1, by omega⟩
    have m0 : hcell H p 0 = some (.slice (some ⟨bq, 0, none⟩) l.length c) := T.o.sees.cell 0
    refine ⟨H, fun R KE => ?_, T, tc_refl _ _⟩
    unfold tagtree_Tree_minima_l0 tagtree_Tree_minima_l0_b
    exact go_nil (go_fad (go_l m0 (go_f (decide_eq_false (by omega)) rfl)))
  | succ m ih =>
    intro n i hn hi H g hN T
    obtain ⟨n, rfl⟩ : ∃ n', n = n' + 1 := ⟨n - 1, by omega⟩
    obtain ⟨u, hu⟩ : ∃ u, l[i]? = some u := ⟨_, List.getElem?_eq_getElem (by omega)⟩
    obtain ⟨v, hv⟩ : ∃ v, l[i + 1]? = some v := ⟨_, List.getElem?_eq_getElem (by omega)⟩
    have hwh := G.wh i
    have hwh1 := G.wh (i + 1)
    have r0 : rsl 0 (g (i + 1)) = g (i + 1) := by funext j; unfold rsl; rw [if_neg (by omega)]
    obtain ⟨H1, e1, T1, o1⟩ := min_l1 k (g := g) G hv (some ⟨bq, i * 3, none⟩) (wl a (i + 1) * wl b (i + 1)) k 0 (by omega) (by omega) H hN (by rw [r0, lset_self]; exact T)
    obtain ⟨H2, e2, T2, o2⟩ := min_l2 k (g := g) G hv hu u.c (rsl (wl a (i + 1) * wl b (i + 1)) (g (i + 1))) (wl a i * wl b i) k 0 (by omega) (by omega) H1 (by have := o1.1; omega) T1
    obtain ⟨H3, e3, T3, o3⟩ := ih n (i + 1) (by omega) (by omega) H2 _ (by have := o1.1; have := o2.1; omega) T2
    refine ⟨H3, fun R KE => ?_, T3, tc_trans o1 (tc_trans o2 o3)⟩
    have m0 : hcell H p 0 = some (.slice (some ⟨bq, 0, none⟩) l.length c) := T.o.sees.cell 0
    have q2 : hcell H bq ((i + 1) * 3 + 2) = some (.slice (some ⟨v.b, 0, none⟩) (v.w * v.h) v.c) := T.lvl G.pos hv (j := 2) (by omega)
    have q2' : hcell H1 bq (i * 3 + 2) = some (.slice (some ⟨u.b, 0, none⟩) (u.w * u.h) u.c) := T1.lvl G.pos hu (j := 2) (by omega)
    have w1 : IntKind.wrap .i64 (((i + 1 : Nat) : Int) - 1) = (i : Int) := by rw [w64 (by omega) (by omega)]; omega
    have w2 : IntKind.wrap .i64 (((i + 1 : Nat) : Int) + 1) = ((i + 1 + 1 : Nat) : Int) := by rw [w64 (by omega) (by omega)]; omega
    unfold tagtree_Tree_minima_l0 tagtree_Tree_minima_l0_b
    refine go_nil (go_fad (go_l m0 (go_t (decide_eq_true (by omega)) (go_nil (go_fad (go_l m0 ?_))))))
    rw [w1]
    refine (hidx3 (by omega) _ _).trans (go_nil (go_fad (go_l m0 ((hidx3 (by omega) _ _).trans (go_nil (go_fad (go_l q2 ?_)))))))
    refine (e1 _ _).trans (go_nil (go_fad (go_l q2' ((e2 _ _).trans ?_))))
    rw [w2]
    exact e3 R KE
theorem minima_eq {k : Nat} (hk : 70000 < k) {N p : Nat} {q : Option Addr} {c : Nat} {l : List Lv} {e d : Bool} {a b : Nat} (G : Geo a b l) {H : Heap} {g : Nat → Nat → Nd} (hN : N ≤ H.length) (T : Tn N H p q c l e d g) :
    ∃ H', (∀ (R : Type) (K : Heap → Option R), tagtree_Tree_minima k (some ⟨p, 0, none⟩) H K = K H') ∧ Tn N H' p q c l e d (mins a b (l.length - 1) 1 g) ∧ Tc l H H' := by
  obtain ⟨bq, rfl, _, _⟩ := T.row G.pos
  have := G.pos
  have := G.len
  obtain ⟨H', e1, T1, o1⟩ := min_l0 hk G (l.length - 1) k 0 (by omega) (by omega) H g hN T
  refine ⟨H', fun R K => ?_, T1, o1⟩
  unfold tagtree_Tree_minima tagtree_Tree_minima_b
  exact e1 _ _
end Go.Proofs.Ytblkejnciinaeaa.Sh
