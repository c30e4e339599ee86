/- Tagtree: Clone. -/
import Derived.Test.YtblkejnciinaeaaTtH
import Derived.Test.YtblkejnciinaeaaSh8
set_option linter.unusedVariables false
set_option linter.unusedSimpArgs false
namespace Go.Proofs.Ytblkejnciinaeaa.Sh
open Go.Proofs.Ytblkejnciinaeaa.FW Go.IntWalk
theorem clone_l0 (k : Nat) {N M p pc bq : Nat} {c : Nat} {l : List Lv} {e d : Bool} {g : Nat → Nat → Nd} {a b : Nat} (G : Geo a b l) (hLo : ∀ i, ¬ Off p (some ⟨bq, 0, none⟩) l i → i < M) :
    ∀ (m n i : Nat), m < n → l.length = i + m → ∀ (H : Heap) (q1 : Option Addr) (c1 : Nat) (l1 : List Lv), N ≤ H.length → M ≤ H.length → Tn N H p (some ⟨bq, 0, none⟩) c l e d g → Tn M H pc q1 c1 l1 e d g → l1.length = i → (∀ (j : Nat) (v : Lv), l1[j]? = some v → v.w = wl a j ∧ v.h = wl b j) →
    ∃ H' q' c' l', (∀ (R : Type) (KE : Option Addr → Heap → Option R), tagtree_Tree_Clone_l0 k KE n (some ⟨pc, 0, none⟩) (some ⟨bq, 0, none⟩) l.length c ((l.length : Nat) : Int) (i : Int) H = KE (some ⟨pc, 0, none⟩) H') ∧ Tn M H' pc q' c' l' e d g ∧ l'.length = l.length ∧ (∀ (j : Nat) (v : Lv), l'[j]? = some v → v.w = wl a j ∧ v.h = wl b j) ∧ Old M H H' := by
  intro m
  have hlen := G.len
  induction m with
  | zero =>
    intro n i hn hi H q1 c1 l1 hN hM T T1 hl1 hg1
    obtain ⟨n, rfl⟩ : ∃ n', n = n' + 1 := ⟨n - 1, by omega⟩
    refine ⟨H, q1, c1, l1, fun R KE => ?_, T1, by omega, hg1, .refl _ _⟩
    unfold tagtree_Tree_Clone_l0 tagtree_Tree_Clone_l0_b
    exact go_f (decide_eq_false (by omega)) rfl
  | succ m ih =>
    intro n i hn hi H q1 c1 l1 hN hM T T1 hl1 hg1
    obtain ⟨n, rfl⟩ : ∃ n', n = n' + 1 := ⟨n - 1, by omega⟩
    obtain ⟨v, hv⟩ : ∃ v, l[i]? = some v := ⟨_, List.getElem?_eq_getElem (by omega)⟩
    obtain ⟨e1, e2⟩ := G.lv i v hv
    have hwh := G.wh i
    have hw1 := wl_pos a i
    have hw2 := wl_pos b i
    have q0 : hcell H bq (i * 3 + 0) = some (.int .i64 (v.w : Int)) := T.lvl G.pos hv (j := 0) (by omega)
    have qh : hcell H bq (i * 3 + 1) = some (.int .i64 (v.h : Int)) := T.lvl G.pos hv (j := 1) (by omega)
    have q2 : hcell H bq (i * 3 + 2) = some (.slice (some ⟨v.b, 0, none⟩) (v.w * v.h) v.c) := T.lvl G.pos hv (j := 2) (by omega)
    obtain ⟨Hn, hHn⟩ : ∃ Hn, Hn = H ++ [some (⟨[.int .i64 (v.w : Int), .int .i64 (v.h : Int), .slice (some ⟨v.b, 0, none⟩) (v.w * v.h) v.c], false, 0⟩ : Blk)] := ⟨_, rfl⟩
    have on : Old H.length H Hn := hHn ▸ Old.app _ _
    have mn : Owns Hn H.length [.int .i64 (v.w : Int), .int .i64 (v.h : Int), .slice (some ⟨v.b, 0, none⟩) (v.w * v.h) v.c] 0 := by rw [hHn]; exact hblk_new H _
    have b0 : hcell Hn H.length 0 = some (.int .i64 (v.w : Int)) := mn.sees.cell 0
    have b1 : hcell Hn H.length 1 = some (.int .i64 (v.h : Int)) := mn.sees.cell 1
    have b2 : hcell Hn H.length 2 = some (.slice (some ⟨v.b, 0, none⟩) (v.w * v.h) v.c) := mn.sees.cell 2
    have Tn1 := T.old on (Nat.le_refl _)
    have T1n := T1.old on (Nat.le_refl _)
    have pc0 : hcell Hn pc 0 = some (.slice q1 l1.length c1) := T1n.o.sees.cell 0
    obtain ⟨H1, H2, H3, H4, h1, h2, h3, h4, h5, T4, o4⟩ := lev_gen T1n (by have := on.1; omega) (by omega) v.w v.h unk 3
    rw [hl1] at h1
    have hap : ∀ (R : Type) (K : Option Addr → Nat → Nat → Heap → Option R), hapnS 3 24 Hn none 0 0 (some ⟨v.b, 0, none⟩) (v.w * v.h) K = K (some ⟨Hn.length, 0, none⟩) (v.w * v.h) unk H1 := by
      intro R K
      obtain ⟨o1, _⟩ := Tn1.n i v hv
      have hs := o1.sees.shows.hcells
      rw [nds_len] at hs
      have hpos : 0 < v.w * v.h := by rw [e1, e2]; exact Nat.mul_pos (by omega) (by omega)
      unfold hapnS hapn
      rw [hs]
      simp only
      rw [if_neg (by unfold unk; omega), if_neg (by omega), if_neg (by omega), if_pos (by rw [e1, e2]; omega), h1]
      simp [FW.hcells]
    have T4' : Tn N H4 p (some ⟨bq, 0, none⟩) c l e d g := Tn1.same fun i _ hi => o4.2 i (hLo i hi)
    obtain ⟨H5, q5, c5, l5, e5, T5, n5, g5, o5⟩ := ih n (i + 1) (by omega) (by omega) H4 _ _ _ (by have := o4.1; have := on.1; omega) (by have := o4.1; have := on.1; omega) T4' T4 (by simp [hl1]) (fun j u hu => by
      by_cases hj : j < l1.length
      · rw [List.getElem?_append_left hj] at hu; exact hg1 j u hu
      · have hj2 := (List.getElem?_eq_some_iff.1 hu).1
        simp only [List.length_append, List.length_cons, List.length_nil] at hj2
        obtain rfl : j = i := by omega
        rw [List.getElem?_append_right (by omega), hl1, Nat.sub_self] at hu
        simp at hu
        subst hu
        exact ⟨e1, e2⟩)
    refine ⟨H5, q5, c5, l5, fun R KE => ?_, T5, n5, g5, (on.mono hM).trans (o4.trans o5)⟩
    unfold tagtree_Tree_Clone_l0 tagtree_Tree_Clone_l0_b
    refine go_t (decide_eq_true (by omega)) ((hidx3 (by omega) _ _).trans (go_ip q0 (go_ip qh (go_lp q2 (go_halst hHn rfl rfl ?_)))))
    refine go_nil (go_fad (go_l pc0 (go_fad (go_i b0 (go_fad (go_i b1 (go_fad (go_l b2 ((hap _ _).trans ?_)))))))))
    refine go_halN h2 ((h4 _ _).trans (go_nil (go_fad ((h5 _ _).trans ?_))))
    rw [w64 (n := (i : Int) + 1) (by omega) (by omega)]
    exact e5 R KE
/-- A copy of a tree. -/
theorem Clone_eq {k : Nat} (hk : 100 < k) {N p : Nat} {q : Option Addr} {c : Nat} {l : List Lv} {e d : Bool} {g : Nat → Nat → Nd} {a b : Nat} (G : Geo a b l) {H : Heap} (hN : N ≤ H.length) (T : Tn N H p q c l e d g) :
    ∃ H' q' c' l', (∀ (R : Type) (K : Option Addr → Heap → Option R), tagtree_Tree_Clone k (some ⟨p, 0, none⟩) H K = K (some ⟨H.length, 0, none⟩) H') ∧ Tn H.length H' H.length q' c' l' e d g ∧ l'.length = l.length ∧ Geo a b l' ∧ Old H.length H H' := by
  obtain ⟨bq, rfl, _, _⟩ := T.row G.pos
  have hlen := G.len
  have ok := tok_eq T G.pos
  have m1 : hcell H p 1 = some (.bool e) := T.o.sees.cell 1
  have m2 : hcell H p 2 = some (.bool d) := T.o.sees.cell 2
  obtain ⟨H1, hH1⟩ : ∃ H1, H1 = H ++ [some (⟨[.slice none 0 0, .bool e, .bool d], false, 0⟩ : Blk)] := ⟨_, rfl⟩
  have o1 : Old H.length H H1 := hH1 ▸ Old.app _ _
  have O1 : Owns H1 H.length [.slice none 0 0, .bool e, .bool d] 0 := by rw [hH1]; exact hblk_new H _
  have T1 := T.old o1 (Nat.le_refl _)
  have C1 : Tn H.length H1 H.length none 0 [] e d g := ⟨O1, Bld.nil _ _ _, Nat.le_refl _, (fun a ha => by cases ha), (fun i v hv => by simp at hv), (fun i j v u hv => by simp at hv)⟩
  have l1 := o1.1
  obtain ⟨H2, q', c', l', e2, T2, n2, g2, o2⟩ := clone_l0 k (M := H.length) G (fun i hi => Decidable.byContradiction fun hc => hi (T.fresh (by omega))) l.length k 0 (by omega) (by omega) H1 none 0 [] (by omega) (by omega) T1 C1 rfl (fun j v hv => by simp at hv)
  have m0 : hcell H1 p 0 = some (.slice (some ⟨bq, 0, none⟩) l.length c) := T1.o.sees.cell 0
  refine ⟨H2, q', c', l', fun R K => ?_, T2, n2, ⟨G.a1, G.b1, G.ab, G.am, G.bm, by rw [n2]; exact G.pos, by rw [n2]; exact G.len, g2⟩, o1.trans o2⟩
  unfold tagtree_Tree_Clone tagtree_Tree_Clone_b
  refine (ok _ _).trans (go_f rfl (go_nil (go_fad (go_b m1 (go_nil (go_fad (go_b m2 (go_halN hH1 (go_nil (go_fad (go_l m0 ?_)))))))))))
  exact e2 _ _
end Go.Proofs.Ytblkejnciinaeaa.Sh
