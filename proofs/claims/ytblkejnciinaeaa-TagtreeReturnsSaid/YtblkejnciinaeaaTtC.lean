/- Tagtree: a leaf's value set and read. -/
import Derived.Test.YtblkejnciinaeaaTtB
import Derived.Test.YtblkejnciinaeaaSh2
set_option linter.unusedVariables false
set_option linter.unusedSimpArgs false
namespace Go.Proofs.Ytblkejnciinaeaa.Sh
open Go.Proofs.Ytblkejnciinaeaa.FW Go.IntWalk
def upd2 (g : Nat → Nat → Nd) (i j : Nat) (x : Nd) : Nat → Nat → Nd := fun k => if k = i then upd (g i) j x else g k
theorem upd2_at (g : Nat → Nat → Nd) (i j : Nat) (x : Nd) : upd2 g i j x i = upd (g i) j x := by unfold upd2; rw [if_pos rfl]
theorem upd2_ne (g : Nat → Nat → Nd) {i k : Nat} (j : Nat) (x : Nd) (h : k ≠ i) : upd2 g i j x k = g k := by unfold upd2; rw [if_neg h]
/-- Only the nodes change. -/
def Tc (l : List Lv) (H H' : Heap) : Prop := H.length ≤ H'.length ∧ ∀ i, i < H.length → (∀ (j : Nat) (v : Lv), l[j]? = some v → v.b ≠ i) → hblk H' i = hblk H i
theorem tc_refl (l : List Lv) (H : Heap) : Tc l H H := ⟨Nat.le_refl _, fun _ _ _ => rfl⟩
theorem tc_trans {l : List Lv} {H1 H2 H3 : Heap} (a : Tc l H1 H2) (b : Tc l H2 H3) : Tc l H1 H3 := ⟨Nat.le_trans a.1 b.1, fun i hi h => (b.2 i (Nat.lt_of_lt_of_le hi a.1) h).trans (a.2 i hi h)⟩
theorem tc_but {l : List Lv} {H H' : Heap} {i : Nat} {v : Lv} (hv : l[i]? = some v) (o : But v.b H H') : Tc l H H' := ⟨o.1, fun j hj h => o.2 j hj fun e => h i v hv e.symm⟩
theorem tc_old {l : List Lv} {H H' : Heap} (o : Old H.length H H') : Tc l H H' := ⟨o.1, fun j hj _ => o.2 j hj⟩
theorem Tn.node {N : Nat} {H H' : Heap} {p : Nat} {q : Option Addr} {c : Nat} {l : List Lv} {e d : Bool} {g : Nat → Nat → Nd} (T : Tn N H p q c l e d g) {v : Lv} {i : Nat} (hv : l[i]? = some v) {j : Nat} {x : Nd} (ho : Owns H' v.b (nds (v.w * v.h) (upd (g i) j x)) v.z) (hb : But v.b H H') : Tn N H' p q c l e d (upd2 g i j x) := by
  obtain ⟨g1, g2, g3, g4⟩ := T.n i v hv
  refine ⟨T.o.but hb (fun h => g3 h.symm), Bld.but2 T.b hb g4, T.low, T.ap, fun k u hu => ?_, T.d⟩
  obtain ⟨u1, u2, u3, u4⟩ := T.n k u hu
  by_cases hk : k = i
  · subst hk
    rw [hv] at hu; cases hu
    rw [upd2_at]
    exact ⟨ho, u2, u3, u4⟩
  · rw [upd2_ne _ _ _ hk]
    exact ⟨u1.but hb (T.d k i u v hu hv hk), u2, u3, u4⟩
theorem Tn.put1 {N : Nat} {H : Heap} {p : Nat} {q : Option Addr} {c : Nat} {l : List Lv} {e d : Bool} {g : Nat → Nat → Nd} (T : Tn N H p q c l e d g) {a b : Nat} (G : Geo a b l) {v : Lv} {i : Nat} (hv : l[i]? = some v) {j : Nat} (hj : j < wl a i * wl b i) {o : Nat} (ho : o < 3) (x : Nd) (z : Value) (hx : (nd (g i j)).set o z = nd x) :
    ∃ H', (∀ (R : Type) (K : Heap → Option R), hst1 H (some ⟨v.b, j * 3 + o, none⟩) z K = K H') ∧ Tn N H' p q c l e d (upd2 g i j x) ∧ But v.b H H' ∧ H'.length = H.length := by
  obtain ⟨g1, g2, g3, g4⟩ := T.n i v hv
  obtain ⟨e1, e2⟩ := G.lv i v hv
  obtain ⟨H', e1', O, B, n⟩ := Owns.st1 (o := j * 3 + o) g1 (by rw [nds_len, e1, e2]; omega) z
  rw [nds_set _ (by rw [e1, e2]; exact hj) ho x z hx] at O
  exact ⟨H', e1', T.node hv O B, B, n⟩
theorem Tn.put3 {N : Nat} {H : Heap} {p : Nat} {q : Option Addr} {c : Nat} {l : List Lv} {e d : Bool} {g : Nat → Nat → Nd} (T : Tn N H p q c l e d g) {a b : Nat} (G : Geo a b l) {v : Lv} {i : Nat} (hv : l[i]? = some v) {j : Nat} (hj : j < wl a i * wl b i) (x : Nd) :
    ∃ H', (∀ (R : Type) (K : Heap → Option R), hst H (some ⟨v.b, j * 3, none⟩) (nd x) K = K H') ∧ Tn N H' p q c l e d (upd2 g i j x) ∧ But v.b H H' ∧ H'.length = H.length := by
  obtain ⟨g1, g2, g3, g4⟩ := T.n i v hv
  obtain ⟨e1, e2⟩ := G.lv i v hv
  obtain ⟨H', e1', O, n, s⟩ := hst_own (o := j * 3) (vs := nd x) g1 (by rw [nds_len, e1, e2]; have : (nd x).length = 3 := rfl; omega) rfl
  rw [nds_splice _ (by rw [e1, e2]; exact hj) x] at O
  have B : But v.b H H' := ⟨by omega, fun k _ hk => s k hk⟩
  exact ⟨H', e1', T.node hv O B, B, n⟩
theorem tok_eq {N : Nat} {H : Heap} {p : Nat} {q : Option Addr} {c : Nat} {l : List Lv} {e d : Bool} {g : Nat → Nat → Nd} (T : Tn N H p q c l e d g) (hl : 1 ≤ l.length) : ∀ (R : Type) (K : Bool → Option R), tagtree_Tree_ok (some ⟨p, 0, none⟩) H K = K true := by
  intro R K
  have m0 : hcell H p 0 = some (.slice q l.length c) := T.o.sees.cell 0
  have ed : decide (((l.length : Nat) : Int) > 0) = true := decide_eq_true (by omega)
  unfold tagtree_Tree_ok tagtree_Tree_ok_b
  refine go_t rfl (go_nil (go_fad (go_l m0 ?_)))
  rw [ed]
/-- A leaf that there is. -/
def ins (a b : Nat) (x y : Int) : Bool := decide (0 ≤ x ∧ x < a ∧ 0 ≤ y ∧ y < b)
theorem Geo.lv0 {a b : Nat} {l : List Lv} (G : Geo a b l) : ∃ v, l[0]? = some v ∧ v.w = a ∧ v.h = b := by
  have := G.pos
  obtain ⟨v, hv⟩ : ∃ v, l[0]? = some v := ⟨l[0], List.getElem?_eq_getElem (by omega)⟩
  have := G.lv 0 v hv
  rw [wl_zero G.a1, wl_zero G.b1] at this
  exact ⟨v, hv, this⟩
theorem has_eq {N : Nat} {H : Heap} {p : Nat} {q : Option Addr} {c : Nat} {l : List Lv} {e d : Bool} {g : Nat → Nat → Nd} (T : Tn N H p q c l e d g) {a b : Nat} (G : Geo a b l) (x y : Int) :
    ∃ H', (∀ (R : Type) (K : Bool → Heap → Option R), tagtree_Tree_has (some ⟨p, 0, none⟩) x y H K = K (ins a b x y) H') ∧ Old H.length H H' := by
  obtain ⟨v, hv, e1, e2⟩ := G.lv0
  obtain ⟨bq, rfl, hq, _⟩ := T.row G.pos
  have hpos := G.pos
  have m0 : hcell H p 0 = some (.slice (some ⟨bq, 0, none⟩) l.length c) := T.o.sees.cell 0
  have mq : ∀ j, j < 3 → hcell H bq (0 * 3 + j) = (lvc v)[j]? := fun j hj => by rw [hq.sees.cell]; exact fm3 lvc (fun _ => rfl) l 0 v hv j hj
  have q0 : hcell H bq (0 + 0) = some (.int .i64 (a : Int)) := by rw [← e1]; exact mq 0 (by omega)
  have q1 : hcell H bq (0 + 1) = some (.int .i64 (b : Int)) := by rw [← e2]; exact mq 1 (by omega)
  have q2 : hcell H bq (0 + 2) = some (.slice (some ⟨v.b, 0, none⟩) (v.w * v.h) v.c) := mq 2 (by omega)
  have hid : ∀ (R : Type) (K : Option Addr → Option R), hidx (some ⟨bq, 0, none⟩) l.length 0 3 K = K (some ⟨bq, 0, none⟩) := by
    intro R K; unfold hidx; simp only; rw [if_pos ⟨by omega, by omega⟩]; rfl
  obtain ⟨Hn, hHn⟩ : ∃ Hn, Hn = H ++ [some (⟨[.int .i64 (a : Int), .int .i64 (b : Int), .slice (some ⟨v.b, 0, none⟩) (v.w * v.h) v.c], false, 0⟩ : Blk)] := ⟨_, rfl⟩
  have m : ∀ i, hcell Hn H.length i = [Value.int .i64 (a : Int), .int .i64 (b : Int), .slice (some ⟨v.b, 0, none⟩) (v.w * v.h) v.c][i]? := fun i => by rw [hHn]; exact hcell_new _ _ _
  refine ⟨Hn, fun R K => ?_, hHn ▸ Old.app _ _⟩
  unfold tagtree_Tree_has tagtree_Tree_has_b ins
  refine go_nil (go_fad (go_l m0 ((hid _ _).trans (go_ip q0 (go_ip q1 (go_lp q2 (go_halst hHn rfl rfl ?_)))))))
  by_cases c1 : x ≥ 0
  · by_cases c2 : y ≥ 0
    · refine go_t (decide_eq_true c1) (go_t (decide_eq_true c2) (go_fad (go_i (m 0) ?_)))
      by_cases c3 : x < (a : Int)
      · refine go_t (decide_eq_true c3) (go_fad (go_i (m 1) ?_))
        congr 1
        exact decide_eq_decide.2 ⟨fun h => ⟨c1, c3, c2, h⟩, fun h => h.2.2.2⟩
      · refine go_f (decide_eq_false c3) ?_
        rw [decide_eq_false (fun h => c3 h.2.1)]
    · refine go_t (decide_eq_true c1) (go_f (decide_eq_false c2) ?_)
      rw [decide_eq_false (fun h => c2 h.2.2.1)]
  · refine go_f (decide_eq_false c1) ?_
    rw [decide_eq_false (fun h => c1 h.1)]
/-- The error of setting a value. -/
def setE (a b : Nat) (e d : Bool) (x y v : Int) : Int := if e = true ∨ d = true then 6 else if ins a b x y = true ∧ 0 ≤ v ∧ v ≤ 65535 then 0 else 2
def setG (a : Nat) (x y v : Int) (g : Nat → Nat → Nd) : Nat → Nat → Nd := upd2 g 0 (ix a x.toNat y.toNat 0) (v, (g 0 (ix a x.toNat y.toNat 0)).2)
def setT (a b : Nat) (e d : Bool) (x y v : Int) (g : Nat → Nat → Nd) : Nat → Nat → Nd := if setE a b e d x y v = 0 then setG a x y v g else g
theorem ins_t {a b : Nat} {x y : Int} (h : ins a b x y = true) : ∃ u w : Nat, x = u ∧ y = w ∧ u < a ∧ w < b := by
  have := of_decide_eq_true h
  exact ⟨x.toNat, y.toNat, by omega, by omega, by omega, by omega⟩
theorem Set_eq {k : Nat} {N : Nat} {H : Heap} {p : Nat} {q : Option Addr} {c : Nat} {l : List Lv} {e d : Bool} {g : Nat → Nat → Nd} (T : Tn N H p q c l e d g) {a b : Nat} (G : Geo a b l) (x y v : Int) :
    ∃ H', (∀ (R : Type) (K : Int → Heap → Option R), tagtree_Tree_Set k (some ⟨p, 0, none⟩) x y v H K = K (setE a b e d x y v) H') ∧ Tn N H' p q c l e d (setT a b e d x y v g) ∧ Tc l H H' := by
  have ok := tok_eq T G.pos
  have m1 : hcell H p 1 = some (.bool e) := T.o.sees.cell 1
  have m2 : hcell H p 2 = some (.bool d) := T.o.sees.cell 2
  unfold setT
  have stop : (e = true ∨ d = true) → setE a b e d x y v = 6 ∧ ∀ (R : Type) (K : Int → Heap → Option R), tagtree_Tree_Set k (some ⟨p, 0, none⟩) x y v H K = K 6 H := by
    intro hs
    refine ⟨if_pos hs, fun R K => ?_⟩
    unfold tagtree_Tree_Set tagtree_Tree_Set_b tagtree_Tree_Set_p0 tagtree_Tree_Set_p0_b
    refine (ok _ _).trans (go_f rfl (go_nil (go_fad (go_b m1 ?_))))
    cases e
    · refine go_f rfl (go_nil (go_fad (go_b m2 ?_)))
      exact go_t (by simpa using hs) rfl
    · exact go_t rfl rfl
  by_cases hs : e = true ∨ d = true
  · obtain ⟨s1, s2⟩ := stop hs
    rw [s1]
    exact ⟨H, s2, by rw [if_neg (by omega)]; exact T, tc_refl _ _⟩
  have he : e = false := by cases e <;> simp_all
  have hd : d = false := by cases d <;> simp_all
  obtain ⟨H1, h1, o1⟩ := has_eq T G x y
  have T1 := T.old o1 (Nat.le_refl _)
  have start : ∀ (R : Type) (K : Int → Heap → Option R) (r : Option R), (bif !(ins a b x y) then K 2 H1 else bif decide (v < 0) then K 2 H1 else bif decide (v > 65535) then K 2 H1 else tagtree_Tree_at (some ⟨p, 0, none⟩) 0 x y H1 fun p181 => hnil p181 fun p182 => hfad 0 p182 fun p183 => hst1 H1 p183 (.int .i64 v) fun H184 => K 0 H184) = r → tagtree_Tree_Set k (some ⟨p, 0, none⟩) x y v H K = r := by
    intro R K r h
    unfold tagtree_Tree_Set tagtree_Tree_Set_b tagtree_Tree_Set_p0 tagtree_Tree_Set_p0_b tagtree_Tree_Set_p1 tagtree_Tree_Set_p1_b
    refine (ok _ _).trans (go_f rfl (go_nil (go_fad (go_b m1 (go_f he (go_nil (go_fad (go_b m2 (go_f hd ((h1 _ _).trans h))))))))))
  by_cases hg : ins a b x y = true ∧ 0 ≤ v ∧ v ≤ 65535
  · have hE : setE a b e d x y v = 0 := by unfold setE; rw [if_neg hs, if_pos hg]
    obtain ⟨hi, hv0, hv1⟩ := hg
    obtain ⟨u, w, rfl, rfl, hu, hw⟩ := ins_t hi
    obtain ⟨v0, hl0, e1, e2⟩ := G.lv0
    have hj := ix_lt hu hw 0
    obtain ⟨H2, e3, T2, B2, n2⟩ := T1.put1 G hl0 hj (o := 0) (by omega) (v, (g 0 (ix a u w 0)).2) (.int .i64 v) rfl
    refine ⟨H2, fun R K => start R K _ ?_, ?_, tc_trans (tc_old o1) (tc_but hl0 B2)⟩
    · rw [hE, hi]
      refine go_f rfl (go_f (decide_eq_false (by omega)) (go_f (decide_eq_false (by omega)) ?_))
      refine (T1.at G hl0 hu hw _ _).trans (go_nil (go_fad (e3 _ _)))
    · rw [if_pos hE]; exact T2
  · have hE : setE a b e d x y v = 2 := by unfold setE; rw [if_neg hs, if_neg hg]
    rw [hE]
    refine ⟨H1, fun R K => start R K _ ?_, by rw [if_neg (by omega)]; exact T1, tc_old o1⟩
    cases hi : ins a b x y
    · rfl
    · refine go_f rfl ?_
      by_cases h0 : v < 0
      · exact go_t (decide_eq_true h0) rfl
      · exact go_f (decide_eq_false h0) (go_t (decide_eq_true (by rw [hi] at hg; simp at hg; omega)) rfl)
/-- The value that is known. -/
def valR (a b : Nat) (x y : Int) (g : Nat → Nat → Nd) : Int × Bool := if ins a b x y = true ∧ (g 0 (ix a x.toNat y.toNat 0)).2.2 = true then ((g 0 (ix a x.toNat y.toNat 0)).2.1, true) else (0, false)
theorem Value_eq {k : Nat} {N : Nat} {H : Heap} {p : Nat} {q : Option Addr} {c : Nat} {l : List Lv} {e d : Bool} {g : Nat → Nat → Nd} (T : Tn N H p q c l e d g) {a b : Nat} (G : Geo a b l) (x y : Int) :
    ∃ H', (∀ (R : Type) (K : Int → Bool → Heap → Option R), tagtree_Tree_Value k (some ⟨p, 0, none⟩) x y H K = K (valR a b x y g).1 (valR a b x y g).2 H') ∧ Old H.length H H' := by
  have ok := tok_eq T G.pos
  obtain ⟨H1, h1, o1⟩ := has_eq T G x y
  have T1 := T.old o1 (Nat.le_refl _)
  refine ⟨H1, fun R K => ?_, o1⟩
  unfold tagtree_Tree_Value tagtree_Tree_Value_b tagtree_Tree_Value_p0 tagtree_Tree_Value_p0_b
  refine (ok _ _).trans (go_f rfl ((h1 _ _).trans ?_))
  unfold valR
  cases hi : ins a b x y
  · rw [if_neg (by simp)]; rfl
  · obtain ⟨u, w, rfl, rfl, hu, hw⟩ := ins_t hi
    obtain ⟨v0, hl0, e1, e2⟩ := G.lv0
    have hj := ix_lt hu hw 0
    have ha : ∀ (R : Type) (K : Option Addr → Option R), tagtree_Tree_at (some ⟨p, 0, none⟩) 0 (u : Int) (w : Int) H1 K = K (some ⟨v0.b, ix a u w 0 * 3, none⟩) := T1.at G hl0 hu hw
    have n1 : hcell H1 v0.b (ix a u w 0 * 3 + 1) = some (.int .i64 (g 0 (ix a u w 0)).2.1) := T1.cell G hl0 hj (o := 1) (by omega)
    have n2 : hcell H1 v0.b (ix a u w 0 * 3 + 2) = some (.bool (g 0 (ix a u w 0)).2.2) := T1.cell G hl0 hj (o := 2) (by omega)
    refine go_f rfl ((ha _ _).trans (go_nil (go_fad (go_b n2 ?_))))
    rw [Int.toNat_natCast, Int.toNat_natCast]
    cases hk : (g 0 (ix a u w 0)).2.2
    · rw [if_neg (by simp)]; rfl
    · rw [if_pos ⟨rfl, rfl⟩]
      refine go_f rfl ((ha _ _).trans (go_nil (go_fad (go_i n1 rfl))))
end Go.Proofs.Ytblkejnciinaeaa.Sh
