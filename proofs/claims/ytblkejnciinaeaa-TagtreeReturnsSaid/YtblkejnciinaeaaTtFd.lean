/- Tagtree: the program's walk, for a reader (TtFe.lean turned). -/
import Derived.Test.YtblkejnciinaeaaTtE
import Derived.Test.YtblkejnciinaeaaSh5
set_option linter.unusedVariables false
set_option linter.unusedSimpArgs false
namespace Go.Proofs.Ytblkejnciinaeaa.Sh
open Go.Proofs.Ytblkejnciinaeaa.FW Go.IntWalk
theorem node_l_d {k : Nat} {S : Type} {D : Dev S} {code : Cod S} (O : DevOk D code (fun R => @tagtree_Tree_Decode_1 R k)) {t : Int} (ht : t ≤ 65536) (pt : Option Addr) (x y i : Int) (pq : Option Addr) (pl pc : Nat) {pb bb : Nat} (hbb : bb ≠ D.p) (hpb : pb ≠ D.p) (hbp : bb ≠ pb) :
    ∀ (m n : Nat), m + 1 < n → ∀ (c : Nat) (s : S) (q : Option Addr) (H : Heap) (nn : Nd), (t - nn.2.1).toNat = m → 0 ≤ nn.2.1 → D.inv s q H → D.room s (c + m + 1) → Owns H bb (nd nn) 0 → Owns H pb [.pointer (some ⟨D.p, 0, none⟩)] 0 → (∀ a, q = some a → a.block ≠ bb ∧ a.block ≠ pb) →
    ∃ q' H', (∀ (R : Type) (KE : Option Addr → Int → Int → Int → Option Addr → Option Addr → Nat → Nat → Int → Option Addr → Heap → Option R) (KR : Int → Heap → Option R), tagtree_Tree_walk_v53_l1 k KE KR n pt x y t (some ⟨pb, 0, none⟩) pq pl pc i (some ⟨bb, 0, none⟩) H = if (nlp code m s nn).1 ≠ 0 then KR (nlp code m s nn).1 H' else KE pt x y t (some ⟨pb, 0, none⟩) pq pl pc i (some ⟨bb, 0, none⟩) H') ∧
      D.inv (nlp code m s nn).2.1 q' H' ∧ ((nlp code m s nn).1 = 0 → D.room (nlp code m s nn).2.1 (c + (t - (nlp code m s nn).2.2.2.1).toNat)) ∧ Owns H' bb (nd (nlp code m s nn).2.2) 0 ∧ 0 ≤ (nlp code m s nn).2.2.2.1 ∧ Fr D.p bb q H q' H' ∧ (∀ a, q' = some a → a.block ≠ bb ∧ a.block ≠ pb) := by
  intro m
  induction m with
  | zero =>
    intro n hn c s q H nn hm h0 hi hr ho hp hq
    obtain ⟨n, rfl⟩ : ∃ n', n = n' + 1 := ⟨n - 1, by omega⟩
    have m1 : hcell H bb 1 = some (.int .i64 nn.2.1) := ho.sees.cell 1
    refine ⟨q, H, fun R KE KR => ?_, hi, fun _ => O.mono hr (by simp only [nlp]; omega), ho, h0, .refl _ _ _ _, hq⟩
    rw [if_neg (by simp [nlp])]
    unfold tagtree_Tree_walk_v53_l1 tagtree_Tree_walk_v53_l1_b tagtree_Tree_walk_v53_p2 tagtree_Tree_walk_v53_p2_b
    exact go_fad (go_i m1 (go_f (decide_eq_false (by omega)) rfl))
  | succ m ih =>
    intro n hn c s q H nn hm h0 hi hr ho hp hq
    obtain ⟨n, rfl⟩ : ∃ n', n = n' + 1 := ⟨n - 1, by omega⟩
    have c0 : hcell H bb 0 = some (.int .i64 nn.1) := ho.sees.cell 0
    have c1 : hcell H bb 1 = some (.int .i64 nn.2.1) := ho.sees.cell 1
    have c2 : hcell H bb 2 = some (.bool nn.2.2) := ho.sees.cell 2
    have dl : decide (nn.2.1 < t) = true := decide_eq_true (by omega)
    cases hkn : nn.2.2
    case true =>
      have er : nlp code (m + 1) s nn = (0, s, nn) := by simp only [nlp]; rw [if_pos hkn]
      rw [er]
      refine ⟨q, H, fun R KE KR => ?_, hi, fun _ => O.mono hr (by simp only; omega), ho, h0, .refl _ _ _ _, hq⟩
      rw [if_neg (by simp)]
      unfold tagtree_Tree_walk_v53_l1 tagtree_Tree_walk_v53_l1_b tagtree_Tree_walk_v53_p2 tagtree_Tree_walk_v53_p2_b
      refine go_fad (go_i c1 (go_t dl (go_fad (go_b c2 ?_))))
      rw [hkn]; rfl
    case false =>
      obtain ⟨q1, H1, e1, i1, r1, s1⟩ := O.run (m := c + m + 1) hi (by rw [show c + m + 1 + 1 = c + (m + 1) + 1 from by omega]; exact hr) hp nn
      have hbq : ∀ a, q = some a → a.block ≠ bb := fun a ha => (hq a ha).1
      have hpq : ∀ a, q = some a → a.block ≠ pb := fun a ha => (hq a ha).2
      have ho1 : Owns H1 bb (nd nn) 0 := ho.same (s1.old bb ho.lt hbb hbq)
      have hp1 : Owns H1 pb [.pointer (some ⟨D.p, 0, none⟩)] 0 := hp.same (s1.old pb hp.lt hpb hpq)
      have hq1 : ∀ a, q1 = some a → a.block ≠ bb ∧ a.block ≠ pb := fun a ha => by
        rcases s1.new with h | h
        · subst h; exact hq a ha
        · have := h a ha; have := ho.lt; have := hp.lt; omega
      have start : ∀ (R : Type) (KE : Option Addr → Int → Int → Int → Option Addr → Option Addr → Nat → Nat → Int → Option Addr → Heap → Option R) (KR : Int → Heap → Option R) (r : Option R),
          (bif ((code s nn).1.2 != 0) then KR (code s nn).1.2 H1 else bif ((code s nn).1.1 == 1) then (hfad 2 (some ⟨bb, 0, none⟩) fun p => hst1 H1 p (.bool true) fun H => tagtree_Tree_walk_v53_l1 k KE KR n pt x y t (some ⟨pb, 0, none⟩) pq pl pc i (some ⟨bb, 0, none⟩) H) else hfad 1 (some ⟨bb, 0, none⟩) fun p => ldI .i64 H1 p fun n380 => hfad 1 (some ⟨bb, 0, none⟩) fun p381 => hst1 H1 p381 (.int .i64 (IntKind.wrap .i64 (n380 + 1))) fun H => tagtree_Tree_walk_v53_l1 k KE KR n pt x y t (some ⟨pb, 0, none⟩) pq pl pc i (some ⟨bb, 0, none⟩) H) = r →
          tagtree_Tree_walk_v53_l1 k KE KR (n + 1) pt x y t (some ⟨pb, 0, none⟩) pq pl pc i (some ⟨bb, 0, none⟩) H = r := by
        intro R KE KR r h
        unfold tagtree_Tree_walk_v53_l1 tagtree_Tree_walk_v53_l1_b tagtree_Tree_walk_v53_p2 tagtree_Tree_walk_v53_p2_b
        refine go_fad (go_i c1 (go_t dl (go_fad (go_b c2 ?_))))
        refine go_t (by rw [hkn]; rfl) (go_ip c0 (go_ip c1 (go_bp c2 ?_)))
        exact (e1 R _).trans h
      by_cases herr : (code s nn).1.2 = 0
      · have de : ((code s nn).1.2 != 0) = false := by rw [herr]; rfl
        by_cases hbit : (code s nn).1.1 = 1
        · have db : ((code s nn).1.1 == 1) = true := by rw [hbit]; rfl
          have er : nlp code (m + 1) s nn = (0, (code s nn).2, nn.1, nn.2.1, true) := by simp only [nlp]; rw [if_neg (by rw [hkn]; simp), if_neg (by simp [herr]), if_pos hbit]
          obtain ⟨H2, e2, O2, B2, n2⟩ := Owns.st1 (o := 2) ho1 (by simp [nd]) (.bool true)
          have O2' : Owns H2 bb (nd (nn.1, nn.2.1, true)) 0 := O2
          have i2 : D.inv (code s nn).2 q1 H2 := O.same i1 B2.1 (B2.2 _ (O.lt i1) (fun h => hbb h.symm)) fun a ha => B2.2 _ (O.qlt i1 a ha) (hq1 a ha).1
          have f2 : Fr D.p bb q H q1 H2 := (Fr.of_stp s1).trans (.of_but B2)
          rw [er]
          obtain ⟨n, rfl⟩ : ∃ n', n = n' + 1 := ⟨n - 1, by omega⟩
          have d1 : hcell H2 bb 1 = some (.int .i64 nn.2.1) := O2'.sees.cell 1
          have d2 : hcell H2 bb 2 = some (.bool true) := O2'.sees.cell 2
          refine ⟨q1, H2, fun R KE KR => start R KE KR _ ?_, i2, fun _ => O.mono r1 (by simp only; omega), O2', h0, f2, hq1⟩
          rw [if_neg (by simp)]
          refine go_f de (go_t db (go_fad ((e2 _ _).trans ?_)))
          unfold tagtree_Tree_walk_v53_l1 tagtree_Tree_walk_v53_l1_b tagtree_Tree_walk_v53_p2 tagtree_Tree_walk_v53_p2_b
          exact go_fad (go_i d1 (go_t dl (go_fad (go_b d2 (go_f rfl rfl)))))
        · have db : ((code s nn).1.1 == 1) = false := by rw [beq_eq_false_iff_ne]; exact hbit
          have er : nlp code (m + 1) s nn = nlp code m (code s nn).2 (nn.1, nn.2.1 + 1, nn.2.2) := by
            conv => lhs; rw [nlp]
            rw [if_neg (by rw [hkn]; simp), if_neg (by simp [herr]), if_neg hbit]
          obtain ⟨H2, e2, O2, B2, n2⟩ := Owns.st1 (o := 1) ho1 (by simp [nd]) (.int .i64 (nn.2.1 + 1))
          have O2' : Owns H2 bb (nd (nn.1, nn.2.1 + 1, nn.2.2)) 0 := O2
          have i2 : D.inv (code s nn).2 q1 H2 := O.same i1 B2.1 (B2.2 _ (O.lt i1) (fun h => hbb h.symm)) fun a ha => B2.2 _ (O.qlt i1 a ha) (hq1 a ha).1
          have f2 : Fr D.p bb q H q1 H2 := (Fr.of_stp s1).trans (.of_but B2)
          have hp2 : Owns H2 pb [.pointer (some ⟨D.p, 0, none⟩)] 0 := hp1.but B2 (fun h => hbp h.symm)
          obtain ⟨q3, H3, e3, i3, r3, O3, z3, f3, hq3⟩ := ih n (by omega) c (code s nn).2 q1 H2 (nn.1, nn.2.1 + 1, nn.2.2) (by simp only; omega) (by simp only; omega) i2 r1 O2' hp2 hq1
          have d1 : hcell H1 bb 1 = some (.int .i64 nn.2.1) := ho1.sees.cell 1
          rw [er]
          refine ⟨q3, H3, fun R KE KR => start R KE KR _ ?_, i3, r3, O3, z3, f2.trans f3, hq3⟩
          refine go_f de (go_f db (go_fad (go_i d1 (go_fad ?_))))
          rw [w64 (n := nn.2.1 + 1) (by omega) (by omega)]
          exact (e2 _ _).trans (e3 R KE KR)
      · have de : ((code s nn).1.2 != 0) = true := by rw [bne_iff_ne]; exact herr
        have er : nlp code (m + 1) s nn = ((code s nn).1.2, (code s nn).2, nn) := by simp only [nlp]; rw [if_neg (by rw [hkn]; simp), if_pos herr]
        rw [er]
        refine ⟨q1, H1, fun R KE KR => start R KE KR _ ?_, i1, fun h => (herr h).elim, ho1, h0, .of_stp s1, hq1⟩
        rw [if_pos herr]
        exact go_t de rfl
theorem walk_l0_d {k : Nat} (hk : 70000 < k) {S : Type} {D : Dev S} {code : Cod S} (O : DevOk D code (fun R => @tagtree_Tree_Decode_1 R k)) {t : Int} (ht : t ≤ 65536) {N p : Nat} {q : Option Addr} {c : Nat} {l : List Lv} {e d : Bool} {g : Nat → Nat → Nd} {a b x y : Nat} (G : Geo a b l) (hx : x < a) (hy : y < b) (hg : ∀ i j, 0 ≤ (g i j).2.1) {pb bp pc : Nat} (hbp : bp ≠ D.p) (hpb : pb ≠ D.p) (hpp : bp ≠ pb) (hD : Off p q l D.p) (hB : Off p q l bp) :
    ∀ (m n : Nat), m < n → m ≤ l.length → ∀ (r : Nat) (s : S) (q2 : Option Addr) (H : Heap) (low : Int) (pf : Nat → Nd), D.inv s q2 H → D.room s (r + m + (t - low).toNat) → 0 ≤ low → Tn N H p q c l e d g → Owns H bp (nds l.length pf) 0 → Owns H pb [.pointer (some ⟨D.p, 0, none⟩)] 0 → (∀ a, q2 = some a → a.block ≠ bp ∧ a.block ≠ pb ∧ Off p q l a.block) →
    ∃ q2' H', (∀ (R : Type) (KE : Option Addr → Int → Int → Option Addr → Nat → Nat → Heap → Option R) (KR : Int → Heap → Option R), tagtree_Tree_walk_v53_l0 k KE KR n (some ⟨p, 0, none⟩) (x : Int) (y : Int) t (some ⟨pb, 0, none⟩) (some ⟨bp, 0, none⟩) l.length pc low ((m : Int) - 1) H = if (wk code t (fun i => g i (ix a x y i)) m low s pf).1 ≠ 0 then KR (wk code t (fun i => g i (ix a x y i)) m low s pf).1 H' else KE (some ⟨p, 0, none⟩) (x : Int) (y : Int) (some ⟨bp, 0, none⟩) l.length pc H') ∧
      D.inv (wk code t (fun i => g i (ix a x y i)) m low s pf).2.1 q2' H' ∧ ((wk code t (fun i => g i (ix a x y i)) m low s pf).1 = 0 → D.room (wk code t (fun i => g i (ix a x y i)) m low s pf).2.1 r) ∧ Tn N H' p q c l e d g ∧ Owns H' bp (nds l.length (wk code t (fun i => g i (ix a x y i)) m low s pf).2.2) 0 ∧ Fr D.p bp q2 H q2' H' ∧ (∀ a, q2' = some a → a.block ≠ bp ∧ a.block ≠ pb ∧ Off p q l a.block) := by
  intro m
  have hlen := G.len
  induction m with
  | zero =>
    intro n hn hml r s q2 H low pf hi hr h0 T hO hp hq
    obtain ⟨n, rfl⟩ : ∃ n', n = n' + 1 := ⟨n - 1, by omega⟩
    refine ⟨q2, H, fun R KE KR => ?_, hi, fun _ => O.mono hr (by omega), T, hO, .refl _ _ _ _, hq⟩
    rw [if_neg (by simp [wk])]
    unfold tagtree_Tree_walk_v53_l0 tagtree_Tree_walk_v53_l0_b
    exact go_f (decide_eq_false (by omega)) rfl
  | succ m ih =>
    intro n hn hml r s q2 H low pf hi hr h0 T hO hp hq
    obtain ⟨n, rfl⟩ : ∃ n', n = n' + 1 := ⟨n - 1, by omega⟩
    obtain ⟨v, hv⟩ : ∃ v, l[m]? = some v := ⟨_, List.getElem?_eq_getElem (by omega)⟩
    have hj := ix_lt hx hy m
    obtain ⟨J, hJ⟩ : ∃ J, J = ix a x y m := ⟨_, rfl⟩
    have hat : ∀ (R : Type) (K : Option Addr → Option R), tagtree_Tree_at (some ⟨p, 0, none⟩) (m : Int) (x : Int) (y : Int) H K = K (some ⟨v.b, J * 3, none⟩) := by rw [hJ]; exact T.at G hv hx hy
    rw [← hJ] at hj
    have n0 : hcell H v.b (J * 3 + 0) = some (.int .i64 (g m J).1) := T.cell G hv hj (o := 0) (by omega)
    have n1 : hcell H v.b (J * 3 + 1) = some (.int .i64 (g m J).2.1) := T.cell G hv hj (o := 1) (by omega)
    have n2 : hcell H v.b (J * 3 + 2) = some (.bool (g m J).2.2) := T.cell G hv hj (o := 2) (by omega)
    obtain ⟨Hn, hHn⟩ : ∃ Hn, Hn = H ++ [some (⟨[.int .i64 (g m J).1, .int .i64 (g m J).2.1, .bool (g m J).2.2], false, 0⟩ : Blk)] := ⟨_, rfl⟩
    have on : Old H.length H Hn := hHn ▸ Old.app _ _
    have mn : Owns Hn H.length (nd (g m J)) 0 := by rw [hHn]; exact hblk_new H _
    have m1 : hcell Hn H.length 1 = some (.int .i64 (g m J).2.1) := mn.sees.cell 1
    obtain ⟨H2, e2, O2, B2, l2⟩ := Owns.st1 (o := 1) mn (by simp [nd]) (.int .i64 (imx (g m J).2.1 low))
    have O2' : Owns H2 H.length (nd ((g m J).1, imx (g m J).2.1 low, (g m J).2.2)) 0 := O2
    have hx0 : 0 ≤ imx (g m J).2.1 low := by have := hg m J; unfold imx; split <;> omega
    have hxl : low ≤ imx (g m J).2.1 low := by unfold imx; split <;> omega
    have hDl := O.lt hi
    have hql := O.qlt hi
    have o2 : Old H.length H H2 := on.trans (B2.old (Nat.le_refl _) on.1)
    have i2 : D.inv s q2 H2 := O.same hi o2.1 (o2.2 _ hDl) fun a ha => o2.2 _ (hql a ha)
    have hp2 : Owns H2 pb [.pointer (some ⟨D.p, 0, none⟩)] 0 := hp.old o2 hp.lt
    have hpl := hp.lt
    have hOl := hO.lt
    have hO2 : Owns H2 bp (nds l.length pf) 0 := hO.old o2 hO.lt
    have T2 := T.old o2 (Nat.le_refl _)
    obtain ⟨q3, H3, e3, i3, r3, O3, z3, f3, hq3⟩ := node_l_d O ht (some ⟨p, 0, none⟩) (x : Int) (y : Int) (m : Int) (some ⟨bp, 0, none⟩) l.length pc (pb := pb) (bb := H.length) (by omega) hpb (by omega) (t - imx (g m J).2.1 low).toNat k (by omega) (r + m) s q2 H2 ((g m J).1, imx (g m J).2.1 low, (g m J).2.2) rfl hx0 i2 (O.mono hr (by omega)) O2' hp2 (fun a ha => by have := hql a ha; have := (hq a ha).2.1; exact ⟨by omega, this⟩)
    obtain ⟨r1, hr1⟩ : ∃ r1, r1 = nlp code (t - imx (g m J).2.1 low).toNat s ((g m J).1, imx (g m J).2.1 low, (g m J).2.2) := ⟨_, rfl⟩
    rw [← hr1] at i3 r3 O3 z3
    have e3' : ∀ (R : Type) (KE : Option Addr → Int → Int → Int → Option Addr → Option Addr → Nat → Nat → Int → Option Addr → Heap → Option R) (KR : Int → Heap → Option R), tagtree_Tree_walk_v53_l1 k KE KR k (some ⟨p, 0, none⟩) (x : Int) (y : Int) t (some ⟨pb, 0, none⟩) (some ⟨bp, 0, none⟩) l.length pc (m : Int) (some ⟨H.length, 0, none⟩) H2 = if r1.1 ≠ 0 then KR r1.1 H3 else KE (some ⟨p, 0, none⟩) (x : Int) (y : Int) t (some ⟨pb, 0, none⟩) (some ⟨bp, 0, none⟩) l.length pc (m : Int) (some ⟨H.length, 0, none⟩) H3 := by rw [hr1]; exact e3
    have f4 : Fr D.p bp q2 H q3 H3 := .drop o2 (Nat.le_refl _) f3
    have hOff : ∀ a, q3 = some a → a.block ≠ bp ∧ a.block ≠ pb ∧ Off p q l a.block := fun a ha => by
      rcases f4.new with h | h
      · subst h; exact hq a ha
      · have := h a ha; exact ⟨by omega, by omega, T.fresh this⟩
    have hO3 : Owns H3 bp (nds l.length pf) 0 := hO2.same (f3.old bp (by have := o2.1; omega) hbp (by omega) fun a ha => (hq a ha).1)
    have hp3 : Owns H3 pb [.pointer (some ⟨D.p, 0, none⟩)] 0 := hp2.same (f3.old pb (by have := o2.1; omega) hpb (by omega) fun a ha => (hq a ha).2.1)
    have T3 : Tn N H3 p q c l e d g := T.fr f4 hD (fun a ha => (hq a ha).2.2) hB
    have start : ∀ (R : Type) (KE : Option Addr → Int → Int → Option Addr → Nat → Nat → Heap → Option R) (KR : Int → Heap → Option R) (rr : Option R),
        (if r1.1 ≠ 0 then KR r1.1 H3 else (hfad 1 (some ⟨H.length, 0, none⟩) fun p405 => ldI .i64 H3 p405 fun n406 => ldI .i64 H3 (pad (some ⟨H.length, 0, none⟩) 0) fun n407 => ldI .i64 H3 (pad (some ⟨H.length, 0, none⟩) 1) fun n408 => ldB H3 (pad (some ⟨H.length, 0, none⟩) 2) fun t409 => hidx (some ⟨bp, 0, none⟩) l.length (m : Int) 3 fun p410 => hst H3 p410 [.int .i64 n407, .int .i64 n408, .bool t409] fun H411 => tagtree_Tree_walk_v53_l0 k KE KR n (some ⟨p, 0, none⟩) (x : Int) (y : Int) t (some ⟨pb, 0, none⟩) (some ⟨bp, 0, none⟩) l.length pc n406 (IntKind.wrap .i64 ((m : Int) - 1)) H411)) = rr →
        tagtree_Tree_walk_v53_l0 k KE KR (n + 1) (some ⟨p, 0, none⟩) (x : Int) (y : Int) t (some ⟨pb, 0, none⟩) (some ⟨bp, 0, none⟩) l.length pc low (((m + 1 : Nat) : Int) - 1) H = rr := by
      intro R KE KR rr h
      rw [show (((m + 1 : Nat) : Int) - 1) = (m : Int) from by omega]
      unfold tagtree_Tree_walk_v53_l0 tagtree_Tree_walk_v53_l0_b
      refine go_t (decide_eq_true (by omega)) ((hat _ _).trans (go_nil (go_ip n0 (go_ip n1 (go_bp n2 (go_halst hHn rfl rfl ?_))))))
      exact go_fad (go_i m1 (go_fad ((e2 _ _).trans ((e3' _ _ _).trans h))))
    by_cases herr : r1.1 = 0
    · obtain ⟨H4, e4, O4, l4, s4⟩ := hst_own (o := m * 3) (vs := nd r1.2.2) hO3 (by rw [nds_len]; have : (nd r1.2.2).length = 3 := rfl; omega) rfl
      rw [nds_splice _ (by omega) r1.2.2] at O4
      have B4 : But bp H3 H4 := ⟨by omega, fun i _ hi => s4 i hi⟩
      have i4 : D.inv r1.2.1 q3 H4 := O.same i3 B4.1 (B4.2 _ (O.lt i3) (fun h => hbp h.symm)) fun a ha => B4.2 _ (O.qlt i3 a ha) (hOff a ha).1
      have f5 : Fr D.p bp q2 H q3 H4 := f4.trans (.of_but B4)
      have T4 : Tn N H4 p q c l e d g := T3.fr (.of_but (p := D.p) (q := q3) B4) hD (fun a ha => (hOff a ha).2.2) hB
      obtain ⟨q5, H5, e5, i5, r5, T5, O5, f6, hq5⟩ := ih n (by omega) (by omega) r r1.2.1 q3 H4 r1.2.2.2.1 (upd pf m r1.2.2) i4 (r3 herr) z3 T4 O4 (hp3.but B4 (fun h => hpp h.symm)) hOff
      have hwk : wk code t (fun i => g i (ix a x y i)) (m + 1) low s pf = wk code t (fun i => g i (ix a x y i)) m r1.2.2.2.1 r1.2.1 (upd pf m r1.2.2) := by
        conv => lhs; rw [wk]
        simp only [← hJ, nl, ← hr1]
        rw [if_neg (by simp [herr])]
      rw [hwk]
      refine ⟨q5, H5, fun R KE KR => start R KE KR _ ?_, i5, r5, T5, O5, f5.trans f6, hq5⟩
      rw [if_neg (by simp [herr])]
      have k0 : hcell H3 H.length 0 = some (.int .i64 r1.2.2.1) := O3.sees.cell 0
      have k1 : hcell H3 H.length 1 = some (.int .i64 r1.2.2.2.1) := O3.sees.cell 1
      have k2 : hcell H3 H.length 2 = some (.bool r1.2.2.2.2) := O3.sees.cell 2
      refine go_fad (go_i k1 (go_ip k0 (go_ip k1 (go_bp k2 ((hidx3 (by omega) _ _).trans ((e4 _ _).trans ?_))))))
      rw [w64 (n := (m : Int) - 1) (by omega) (by omega)]
      exact e5 R KE KR
    · have hwk : wk code t (fun i => g i (ix a x y i)) (m + 1) low s pf = (r1.1, r1.2.1, pf) := by
        conv => lhs; rw [wk]
        simp only [← hJ, nl, ← hr1]
        rw [if_pos herr]
      rw [hwk]
      refine ⟨q3, H3, fun R KE KR => start R KE KR _ ?_, i3, fun h => (herr h).elim, T3, hO3, f4, hOff⟩
      rw [if_pos herr, if_pos herr]
theorem walk_l3_d {k : Nat} {N p : Nat} {q : Option Addr} {c : Nat} {l : List Lv} {e d : Bool} {g : Nat → Nat → Nd} {a b x y : Nat} (G : Geo a b l) (hx : x < a) (hy : y < b) {bp pc : Nat} {pf : Nat → Nd} (hB : Off p q l bp) :
    ∀ (m n j : Nat), m < n → l.length = j + m → ∀ (H : Heap), Tn N H p q c l e d (gw a x y g pf j) → Owns H bp (nds l.length pf) 0 →
    ∃ H', (∀ (R : Type) (KE : Heap → Option R), tagtree_Tree_walk_v53_l3 k KE n (some ⟨p, 0, none⟩) (x : Int) (y : Int) (some ⟨bp, 0, none⟩) l.length pc ((l.length : Nat) : Int) (j : Int) H = KE H') ∧ Tn N H' p q c l e d (gw a x y g pf l.length) ∧ H.length ≤ H'.length ∧ (∀ i, i < H.length → (∀ (j : Nat) (v : Lv), l[j]? = some v → v.b ≠ i) → hblk H' i = hblk H i) := by
  intro m
  have hlen := G.len
  induction m with
  | zero =>
    intro n j hn hj H T hO
    obtain ⟨n, rfl⟩ : ∃ n', n = n' + 1 := ⟨n - 1, by omega⟩
    have hjl : j = l.length := by omega
    subst hjl
    refine ⟨H, fun R KE => ?_, T, Nat.le_refl _, fun _ _ _ => rfl⟩
    unfold tagtree_Tree_walk_v53_l3 tagtree_Tree_walk_v53_l3_b
    exact go_f (decide_eq_false (by omega)) rfl
  | succ m ih =>
    intro n j hn hj H T hO
    obtain ⟨n, rfl⟩ : ∃ n', n = n' + 1 := ⟨n - 1, by omega⟩
    obtain ⟨v, hv⟩ : ∃ v, l[j]? = some v := ⟨_, List.getElem?_eq_getElem (by omega)⟩
    have hjx := ix_lt hx hy j
    have cell : ∀ o, o < 3 → hcell H bp (j * 3 + o) = (nd (pf j))[o]? := fun o ho => by rw [hO.sees.cell]; exact nds_at _ (by omega) ho
    have n0 : hcell H bp (j * 3 + 0) = some (.int .i64 (pf j).1) := cell 0 (by omega)
    have n1 : hcell H bp (j * 3 + 1) = some (.int .i64 (pf j).2.1) := cell 1 (by omega)
    have n2 : hcell H bp (j * 3 + 2) = some (.bool (pf j).2.2) := cell 2 (by omega)
    obtain ⟨Hn, hHn⟩ : ∃ Hn, Hn = H ++ [some (⟨[.int .i64 (pf j).1, .int .i64 (pf j).2.1, .bool (pf j).2.2], false, 0⟩ : Blk)] := ⟨_, rfl⟩
    have on : Old H.length H Hn := hHn ▸ Old.app _ _
    have mn : Owns Hn H.length (nd (pf j)) 0 := by rw [hHn]; exact hblk_new H _
    have k0 : hcell Hn H.length 0 = some (.int .i64 (pf j).1) := mn.sees.cell 0
    have k1 : hcell Hn H.length 1 = some (.int .i64 (pf j).2.1) := mn.sees.cell 1
    have k2 : hcell Hn H.length 2 = some (.bool (pf j).2.2) := mn.sees.cell 2
    have Tn1 := T.old on (Nat.le_refl _)
    have hat : ∀ (R : Type) (K : Option Addr → Option R), tagtree_Tree_at (some ⟨p, 0, none⟩) (j : Int) (x : Int) (y : Int) (roH Hn) K = K (some ⟨v.b, ix a x y j * 3, none⟩) := by
      obtain ⟨bq, hq, h1, _⟩ := Tn1.row G.pos
      have h2 := Tn1.o
      rw [hq] at h2
      exact at_eq G h2.sees.ro h1.sees.ro hv hx hy
    obtain ⟨H2, e3, T2, B2, l2⟩ := Tn1.put3 G hv hjx (pf j)
    rw [gw_succ] at T2
    have hO2 : Owns H2 bp (nds l.length pf) 0 := (hO.old on hO.lt).but B2 (fun h => hB.2.2 j v hv h.symm)
    obtain ⟨H3, e4, T3, l3, s3⟩ := ih n (j + 1) (by omega) (by omega) H2 T2 hO2
    refine ⟨H3, fun R KE => ?_, T3, by have := on.1; omega, fun i hi hne => ?_⟩
    · have e3' : ∀ (R : Type) (K : Heap → Option R), hst Hn (some ⟨v.b, ix a x y j * 3, none⟩) [.int .i64 (pf j).1, .int .i64 (pf j).2.1, .bool (pf j).2.2] K = K H2 := e3
      unfold tagtree_Tree_walk_v53_l3 tagtree_Tree_walk_v53_l3_b
      refine go_t (decide_eq_true (by omega)) ((hidx3 (by omega) _ _).trans (go_ip n0 (go_ip n1 (go_bp n2 (go_halst hHn rfl rfl ((hat _ _).trans ?_))))))
      rw [roH_tail]
      refine go_ip k0 (go_ip k1 (go_bp k2 (go_nil ((e3' _ _).trans ?_))))
      rw [w64 (n := (j : Int) + 1) (by omega) (by omega)]
      exact e4 R KE
    · rw [s3 i (by have := on.1; omega) hne, B2.2 i (by have := on.1; omega) (fun h => hne j v hv h.symm), on.2 i hi]
/-- What a walk does. -/
theorem walk_eq_d {k : Nat} (hk : 70000 < k) {S : Type} {D : Dev S} {code : Cod S} (O : DevOk D code (fun R => @tagtree_Tree_Decode_1 R k)) {t : Int} (ht : t ≤ 65536) {N p : Nat} {q : Option Addr} {c : Nat} {l : List Lv} {e d : Bool} {g : Nat → Nat → Nd} {a b x y : Nat} (G : Geo a b l) (hx : x < a) (hy : y < b) (hg : ∀ i j, 0 ≤ (g i j).2.1) {pb : Nat} (hpb : pb ≠ D.p) (hD : Off p q l D.p) {r : Nat} {s : S} {q2 : Option Addr} {H : Heap} (hi : D.inv s q2 H) (hr : D.room s (r + l.length + t.toNat)) (T : Tn N H p q c l e d g) (hp : Owns H pb [.pointer (some ⟨D.p, 0, none⟩)] 0) (hq : ∀ a, q2 = some a → a.block ≠ pb ∧ Off p q l a.block) :
    ∃ q2' H', (∀ (R : Type) (K : Int → Heap → Option R), tagtree_Tree_walk_v53 k (some ⟨p, 0, none⟩) (x : Int) (y : Int) t (some ⟨pb, 0, none⟩) H K = K (wkr code t g a x y l.length s).1 H') ∧
      D.inv (wkr code t g a x y l.length s).2.1 q2' H' ∧ ((wkr code t g a x y l.length s).1 = 0 → D.room (wkr code t g a x y l.length s).2.1 r) ∧
      Tn N H' p q c l e d (if (wkr code t g a x y l.length s).1 = 0 then gw a x y g (wkr code t g a x y l.length s).2.2 l.length else g) ∧
      H.length ≤ H'.length ∧ (∀ i, i < H.length → i ≠ D.p → (∀ a, q2 = some a → a.block ≠ i) → (∀ (j : Nat) (v : Lv), l[j]? = some v → v.b ≠ i) → hblk H' i = hblk H i) ∧ (q2' = q2 ∨ ∀ a, q2' = some a → H.length ≤ a.block) := by
  have hlen := G.len
  obtain ⟨H1, hH1⟩ : ∃ H1, H1 = H ++ [some (⟨nds l.length (fun _ => nz), false, 0⟩ : Blk)] := ⟨_, rfl⟩
  have o1 : Old H.length H H1 := hH1 ▸ Old.app _ _
  have O1 : Owns H1 H.length (nds l.length (fun _ => nz)) 0 := by rw [hH1]; exact hblk_new H _
  have hDl := O.lt hi
  have hql := O.qlt hi
  have hpl := hp.lt
  have i1 : D.inv s q2 H1 := O.same hi o1.1 (o1.2 _ hDl) fun a ha => o1.2 _ (hql a ha)
  have T1 := T.old o1 (Nat.le_refl _)
  have hB : Off p q l H.length := T.fresh (Nat.le_refl _)
  obtain ⟨q2', H2, e2, i2, r2, T2, O2, f2, hq2⟩ := walk_l0_d hk O ht G hx hy hg (pb := pb) (bp := H.length) (pc := l.length) (by omega) hpb (by omega) hD hB l.length k (by omega) (Nat.le_refl _) r s q2 H1 0 (fun _ => nz) i1 (by rw [Int.sub_zero]; exact hr) (by omega) T1 O1 (hp.old o1 hp.lt) (fun a ha => ⟨by have := hql a ha; omega, (hq a ha).1, (hq a ha).2⟩)
  obtain ⟨w, hw⟩ : ∃ w, w = wkr code t g a x y l.length s := ⟨_, rfl⟩
  have hw2 : w = wk code t (fun i => g i (ix a x y i)) l.length 0 s (fun _ => nz) := hw
  have f3 : Fr D.p H.length q2 H q2' H2 := (Fr.of_old o1).trans f2
  rw [← hw2] at i2 r2 O2
  have m0 : hcell H p 0 = some (.slice q l.length c) := T.o.sees.cell 0
  have m1 : hcell H1 p 0 = some (.slice q l.length c) := T1.o.sees.cell 0
  have emk : ∀ (R : Type) (K : Option Addr → Nat → Nat → Heap → Option R), hmk [.int .i64 0, .int .i64 0, .bool false] 24 H ((l.length : Nat) : Int) ((l.length : Nat) : Int) K = K (some ⟨H.length, 0, none⟩) l.length l.length H1 := fun R K => by rw [hH1]; exact hmk3 H (by omega) R K
  have start : ∀ (R : Type) (K : Int → Heap → Option R) (rr : Option R), (if w.1 ≠ 0 then K w.1 H2 else tagtree_Tree_walk_v53_l3 k (fun H449 => K 0 H449) k (some ⟨p, 0, none⟩) (x : Int) (y : Int) (some ⟨H.length, 0, none⟩) l.length l.length ((l.length : Nat) : Int) 0 H2) = rr → tagtree_Tree_walk_v53 k (some ⟨p, 0, none⟩) (x : Int) (y : Int) t (some ⟨pb, 0, none⟩) H K = rr := by
    intro R K rr h
    unfold tagtree_Tree_walk_v53 tagtree_Tree_walk_v53_b
    refine go_nil (go_fad (go_l m0 ((emk _ _).trans (go_nil (go_fad (go_l m1 ?_))))))
    rw [w64 (n := ((l.length : Nat) : Int) - 1) (by omega) (by omega)]
    refine (e2 _ _ _).trans ?_
    rw [← hw2]; exact h
  by_cases herr : w.1 = 0
  · obtain ⟨H3, e3, T3, l3, s3⟩ := walk_l3_d (k := k) (pc := l.length) (pf := w.2.2) G hx hy hB l.length k 0 (by omega) (by omega) H2 (by rw [gw_zero]; exact T2) O2
    have i3 : D.inv w.2.1 q2' H3 := O.same i2 l3 (s3 _ (O.lt i2) fun j v hv => hD.2.2 j v hv) fun a ha => s3 _ (O.qlt i2 a ha) fun j v hv => (hq2 a ha).2.2.2.2 j v hv
    refine ⟨q2', H3, ?_⟩
    rw [← hw]
    refine ⟨fun R K => start R K _ ?_, i3, r2, by rw [if_pos herr]; exact T3, by have := f3.len; omega, fun i hi' h1 h2 h3 => ?_, f3.new⟩
    · rw [if_neg (by simp [herr]), herr]; exact e3 R _
    · rw [s3 i (by have := f3.len; omega) h3, f3.old i hi' h1 (by omega) h2]
  · refine ⟨q2', H2, ?_⟩
    rw [← hw]
    refine ⟨fun R K => start R K _ ?_, i2, r2, by rw [if_neg herr]; exact T2, f3.len, fun i hi' h1 h2 _ => f3.old i hi' h1 (by omega) h2, f3.new⟩
    rw [if_pos herr]
end Go.Proofs.Ytblkejnciinaeaa.Sh
