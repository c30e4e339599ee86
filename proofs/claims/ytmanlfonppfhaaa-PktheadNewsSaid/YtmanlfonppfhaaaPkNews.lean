/- PktheadNews: New returns a state with the number of blocks, or the error. -/
import Derived.Test.YtmanlfonppfhaaaSh14
import Derived.Test.YtmanlfonppfhaaaPkD
import Derived.Test.YtmanlfonppfhaaaFwO
set_option linter.unusedVariables false
set_option linter.unusedSimpArgs false
namespace Go.Proofs.Ytmanlfonppfhaaa.Sh
open Go.Proofs.Ytmanlfonppfhaaa.FW Go.IntWalk
abbrev dPoint : D := .pair (.int .i64) (.pair (.int .i64) .nil)
abbrev dMode : D := .pair .bool (.pair .bool (.pair .bool (.pair .bool (.pair .bool .nil))))
abbrev dCase : D := .pair (.slc dPoint) (.pair (.slc (.int .i64)) (.pair dMode .nil))
theorem ints_of {H : Heap} : ∀ (es : List (List Value)), (∀ e ∈ es, Shp (.int .i64) H e) → ∃ xs : List Int, xs.length = es.length ∧ es.flatten = ints xs := by
  intro es
  induction es with
  | nil => intro _; exact ⟨[], rfl, rfl⟩
  | cons e es ih =>
    intro h
    obtain ⟨xs, h1, h2⟩ := ih fun x hx => h x (List.mem_cons_of_mem _ hx)
    obtain ⟨a, rfl, ha⟩ := h e (by simp)
    exact ⟨a :: xs, by simp [h1], by rw [List.flatten_cons, h2]; rfl⟩
theorem pts_of {H : Heap} : ∀ (es : List (List Value)), (∀ e ∈ es, Shp dPoint H e) → ∃ gs : List (Int × Int), gs.length = es.length ∧ es.flatten = gs.flatMap pt := by
  intro es
  induction es with
  | nil => intro _; exact ⟨[], rfl, rfl⟩
  | cons e es ih =>
    intro h
    obtain ⟨gs, h1, h2⟩ := ih fun x hx => h x (List.mem_cons_of_mem _ hx)
    obtain ⟨_, _, rfl, ⟨a, rfl, _⟩, _, y, rfl, ⟨b, rfl, _⟩, hn⟩ := h e (by simp)
    have hn' : y = [] := hn
    subst hn'
    exact ⟨(a, b) :: gs, by simp [h1], by rw [List.flatten_cons, h2]; rfl⟩
theorem case_of {H : Heap} {vs : List Value} (h : Shp dCase H vs) : ∃ (qg : Option Addr) (gs : List (Int × Int)) (cg : Nat) (qp : Option Addr) (pl : List Int) (cp : Nat) (t : Md), vs = [.slice qg gs.length cg, .slice qp pl.length cp, .bool t.1, .bool t.2.1, .bool t.2.2.1, .bool t.2.2.2.1, .bool t.2.2.2.2] ∧ Shows H qg (gs.flatMap pt) ∧ Shows H qp (ints pl) := by
  obtain ⟨_, _, rfl, ⟨qg, cg, es, rfl, _, _, he, hs⟩, _, _, rfl, ⟨qp, cp, es2, rfl, _, _, he2, hs2⟩, _, y, rfl, ⟨_, _, rfl, ⟨a, rfl⟩, _, _, rfl, ⟨b, rfl⟩, _, _, rfl, ⟨c, rfl⟩, _, _, rfl, ⟨d, rfl⟩, _, y2, rfl, ⟨e, rfl⟩, hn2⟩, hn⟩ := h
  have hn' : y = [] := hn
  have hn2' : y2 = [] := hn2
  subst hn' hn2'
  obtain ⟨gs, g1, g2⟩ := pts_of es he
  obtain ⟨pl, f1, f2⟩ := ints_of es2 he2
  rw [g2] at hs
  rw [f2] at hs2
  exact ⟨qg, gs, cg, qp, pl, cp, (a, b, c, d, e), by rw [g1, f1]; rfl, hs, hs2⟩
theorem bk_at {H : Heap} {q : Option Addr} {L : List Bk} (h : Shows H q (L.flatMap bkc)) {i : Nat} {v : Bk} (hi : L[i]? = some v) :
    ∃ b o, (∀ (R : Type) (K : Option Addr → Option R), hidx q L.length (i : Int) 10 K = K (some ⟨b, o, none⟩)) ∧ ∀ j, j < 10 → hcell H b (o + j) = (bkc v)[j]? := by
  have hlen : (L.flatMap bkc).length = L.length * 10 := by
    clear h hi
    induction L with
    | nil => rfl
    | cons x l ih => rw [List.flatMap_cons, List.length_append, ih, List.length_cons]; show 10 + _ = _; omega
  exact el_at (f := bkc) (sz := 10) (fun _ => rfl) (by omega) h hlen hi
theorem news_in (H : Heap) (us : List Value) (h : AllLies H [(dCase, true)] us) : L_PktheadNews_c Bool 1000000 us H asB = some true := by
  obtain ⟨k, hk⟩ : ∃ k, k = 1000000 := ⟨_, rfl⟩
  rw [← hk]
  have hk1 : 100000 < k := by omega
  clear hk
  obtain ⟨cs, vs, rfl, hs, h⟩ := lies_agg h
  obtain rfl := lies_nil h
  obtain ⟨qg, gs, cg, qp, pl, cp, t, rfl, hg, hp⟩ := case_of hs
  show L_PktheadNews k qg gs.length cg qp pl.length cp t.1 t.2.1 t.2.2.1 t.2.2.2.1 t.2.2.2.2 H (fun t H => asB (.bool t) H) = some true
  obtain ⟨H1, hH1⟩ : ∃ H1, H1 = H ++ [some (⟨[.slice qg gs.length cg, .slice qp pl.length cp, .bool t.1, .bool t.2.1, .bool t.2.2.1, .bool t.2.2.2.1, .bool t.2.2.2.2], false, 0⟩ : Blk)] := ⟨_, rfl⟩
  have o1 : Old H.length H H1 := hH1 ▸ Old.app _ _
  have O1 : Owns H1 H.length [.slice qg gs.length cg, .slice qp pl.length cp, .bool t.1, .bool t.2.1, .bool t.2.2.1, .bool t.2.2.2.1, .bool t.2.2.2.2] 0 := by rw [hH1]; exact hblk_new H _
  have l1 : H1.length = H.length + 1 := by rw [hH1]; simp
  obtain ⟨H2, p2, e2, o2, r2⟩ := pNew_eq hk1 cg cp t (hg.keep o1) (hp.keep o1)
  have o02 := o1.trans (o2.mono (by omega))
  have l2 := o2.1
  obtain ⟨H3, p3, e3, o3, r3⟩ := rN_eq hk1 cg cp t (hg.keep o02) (hp.keep o02)
  have x0 : ∀ {G : Heap}, Old H1.length H1 G → hcell G H.length 0 = some (.slice qg gs.length cg) ∧ hcell G H.length 1 = some (.slice qp pl.length cp) ∧ hcell G H.length 2 = some (.bool t.1) ∧ hcell G H.length 3 = some (.bool t.2.1) ∧ hcell G H.length 4 = some (.bool t.2.2.1) ∧ hcell G H.length 5 = some (.bool t.2.2.2.1) ∧ hcell G H.length 6 = some (.bool t.2.2.2.2) := fun {G} o => by
    have O := O1.old o (by omega)
    exact ⟨O.sees.cell 0, O.sees.cell 1, O.sees.cell 2, O.sees.cell 3, O.sees.cell 4, O.sees.cell 5, O.sees.cell 6⟩
  obtain ⟨a0, a1, a2, a3, a4, a5, a6⟩ := x0 (.refl _ _)
  obtain ⟨b0, b1, b2, b3, b4, b5, b6⟩ := x0 o2
  unfold L_PktheadNews L_PktheadNews_b L_PktheadNews_p0 L_PktheadNews_p0_b
  refine go_halN hH1 (go_fad (go_l a0 ?_))
  by_cases h1 : gs.length > 10
  · exact go_t (decide_eq_true (by omega)) (go_t rfl rfl)
  refine go_f (decide_eq_false (by omega)) (go_fad (go_l a1 ?_))
  by_cases h2 : pl.length > 10
  · exact go_t (decide_eq_true (by omega)) rfl
  refine go_f (decide_eq_false (by omega)) ?_
  refine go_fad (go_l a0 (go_fad (go_l a1 (go_fad (go_bp a2 (go_bp a3 (go_bp a4 (go_bp a5 (go_bp a6 ((e2 _ _).trans ?_))))))))))
  refine go_fad (go_l b0 (go_fad (go_l b1 (go_fad (go_bp b2 (go_bp b3 (go_bp b4 (go_bp b5 (go_bp b6 ((e3 _ _).trans (go_eq ?_)))))))))))
  rcases r2 with ⟨n2, rfl⟩ | ⟨z2, b, qb, cb, Xb, qk, ck, rfl, hb, G2⟩
  · rcases r3 with ⟨n3, rfl⟩ | ⟨z3, _⟩
    · refine go_t rfl ?_
      rfl
    · exact absurd z3 n2
  · rcases r3 with ⟨n3, _⟩ | ⟨z3, b', qv, cv, qi, ci, Xi, qm, cm, Xm, qk', ck', rfl, hb', G3⟩
    · exact absurd z2 n3
    · have G2' := G2.keep o3
      have m9 : hcell H3 b 9 = some (.slice qk (blks 0 gs).length ck) := G2'.o.sees.cell 9
      have s0 : hcell H3 b' 0 = some (.bool true) := G3.o.sees.cell 0
      have s9 : hcell H3 b' 9 = some (.slice qk' (blks 0 gs).length ck') := G3.o.sees.cell 9
      refine go_t rfl ?_
      unfold pkthead_State_Blocks pkthead_State_Blocks_b R26_State_Blocks R26_State_Blocks_b R26_State_made R26_State_made_b pkthead_State_Passes pkthead_State_Passes_b pkthead_State_Passes_p0 pkthead_State_Passes_p0_b
      refine go_f rfl (go_nil (go_fad (go_l m9 (go_t rfl (go_nil (go_fad (go_b s0 (go_f rfl (go_nil (go_fad (go_l s9 (go_eq ?_))))))))))))
      refine go_f rfl (go_f rfl (go_nil (go_fad (go_l m9 ?_))))
      by_cases hl : (blks 0 gs).length = 0
      · exact go_t (decide_eq_true (by omega)) (go_eq rfl)
      · obtain ⟨v, hv⟩ := ex_get (l := blks 0 gs) (i := 0) (by omega)
        have hB := (G2'.f _ (List.mem_cons_of_mem _ (List.mem_singleton.2 rfl))).shows.1
        obtain ⟨bb, oo, eh, mm⟩ := bk_at hB hv
        have m5 : hcell H3 bb (oo + 5) = some (.int .i64 0) := mm 5 (by omega)
        refine go_f (decide_eq_false (by omega)) (go_nil (go_fad (go_l m9 ((eh _ _).trans (go_fad (go_i m5 (go_eq rfl)))))))
end Go.Proofs.Ytmanlfonppfhaaa.Sh
