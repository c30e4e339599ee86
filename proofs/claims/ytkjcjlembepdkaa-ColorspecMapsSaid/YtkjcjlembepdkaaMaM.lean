/- CsMaps. -/
import Derived.Test.YtkjcjlembepdkaaSh13
import Derived.Test.YtkjcjlembepdkaaMaCs
/- Colorspec: L_ColorspecMaps answers true. -/
set_option linter.unusedVariables false
set_option linter.unusedSimpArgs false
namespace Go.Proofs.Ytkjcjlembepdkaa.Sh
open Go.Proofs.Ytkjcjlembepdkaa.FW
theorem expO_cases {h : H6} {s : Int} {rs : List Int} {rows : List Rw} {cs : List Cm} {ps : List Pn} {e : Int} {h' : H6} {cs' : List Cm} {pl : List Pc} (hx : expO h s rs rows cs (ps.map pcon) = (e, h', cs', pl)) :
    (e ≠ 0 ∧ pl = []) ∨ (e = 0 ∧ rows.length = 0 ∧ h' = h ∧ cs' = cs ∧ pl = ps.map pcon) ∨ (e = 0 ∧ rows.length ≠ 0 ∧ ∃ c p, cs = [c] ∧ ps = [p] ∧ cs' = outC rs.length c.2.2.1 c.2.2.2 ∧ pl = outP rows p.1 p.2.2.2 rs.length ∧ (∀ v ∈ p.2.2.2, 0 ≤ v ∧ v.toNat < rows.length) ∧ rows.length ≤ 256 ∧ (∀ r ∈ rows, r.2.2.length = rs.length ∧ inB 0 255 r.2.2 = true)) := by
  unfold expO at hx
  split at hx
  · rename_i hc
    simp only [Prod.mk.injEq] at hx
    obtain ⟨rfl, _, _, rfl⟩ := hx
    exact .inl ⟨hc, rfl⟩
  rename_i h1
  have h1 : checkI s rs rows cs = 0 := Classical.byContradiction h1
  split at hx
  · simp only [Prod.mk.injEq] at hx
    obtain ⟨rfl, _, _, rfl⟩ := hx
    exact .inl ⟨by decide, rfl⟩
  rename_i h2
  have h2 : (ps.map pcon).length = cs.length := Classical.byContradiction h2
  rw [List.length_map] at h2
  split at hx
  · rename_i h3
    simp only [Prod.mk.injEq] at hx
    obtain ⟨rfl, rfl, rfl, rfl⟩ := hx
    exact .inr (.inl ⟨rfl, h3, rfl, rfl, rfl⟩)
  rename_i h3
  obtain ⟨c, rfl, hu, hrg, hrows⟩ := chk_pal h1 h3
  obtain ⟨p, rfl⟩ : ∃ p, ps = [p] := by
    match ps, h2 with
    | [p], _ => exact ⟨p, rfl⟩
  simp only [List.map_cons, List.map_nil, pcon, hrg] at hx
  cases hin : inB 0 ((rows.length : Int) - 1) p.2.2.2 with
  | false =>
    simp only [hin, Bool.false_eq_true, if_false, Prod.mk.injEq] at hx
    obtain ⟨rfl, _, _, rfl⟩ := hx
    exact .inl ⟨by decide, rfl⟩
  | true =>
    simp only [hin, if_true, Prod.mk.injEq] at hx
    obtain ⟨rfl, _, rfl, rfl⟩ := hx
    refine .inr (.inr ⟨rfl, h3, c, p, rfl, rfl, rfl, rfl, fun v hv => ?_, ?_, hrows⟩)
    · have := (List.all_eq_true.1 hin) v hv
      simp only [decide_eq_true_eq] at this
      omega
    · have hd : dep rows.length ≠ 0 := by
        unfold checkI at h1
        by_cases hv : validI s rs rows = 0
        · unfold validI at hv
          split at hv
          · split at hv
            · rename_i hb
              simp only [Bool.and_eq_true] at hb
              have := hb.1.2
              unfold depB at this
              simp only [Bool.or_eq_true, decide_eq_true_eq, bne_iff_ne] at this
              exact this.resolve_left h3
            · cases hv
          · cases hv
        · rw [if_pos hv] at h1; exact absurd h1 hv
      unfold dep at hd
      split at hd
      · omega
      split at hd
      · omega
      split at hd
      · omega
      split at hd
      · omega
      split at hd
      · omega
      split at hd
      · omega
      split at hd
      · omega
      split at hd
      · omega
      · exact absurd rfl hd
theorem ints_set (F : List Int) (j : Nat) (x : Int) : (ints F).set (0 + j * 1) (.int .i64 x) = ints (F.set j x) := by
  unfold ints; rw [Nat.zero_add, Nat.mul_one, List.map_set]
theorem mp_l4 (k : Nat) {bf : Nat} (p1 q2 : Option Addr) (l3 c4 c7 : Nat) (n8 n9 n10 : Int) : ∀ (m n j : Nat), m < n → 256 = j + m → ∀ (H : Heap) (F : List Int), Owns H bf (ints F) 0 → F.length = 256 → (∀ v, v < j → F[v]? = some (-1)) →
    ∃ H' F', (∀ (R : Type) (KE : Option Addr → Option Addr → Nat → Nat → Option Addr → Nat → Nat → Int → Int → Int → Heap → Option R), L_ColorspecMaps_l4 k KE n p1 q2 l3 c4 (some ⟨bf, 0, none⟩) 256 c7 n8 n9 n10 256 (j : Int) H = KE p1 q2 l3 c4 (some ⟨bf, 0, none⟩) 256 c7 n8 n9 n10 H') ∧ Owns H' bf (ints F') 0 ∧ F'.length = 256 ∧ (∀ v, v < 256 → F'[v]? = some (-1)) ∧ But bf H H' := by
  intro m
  induction m with
  | zero =>
    intro n j hn hj H F O hF hv
    obtain ⟨n, rfl⟩ : ∃ n', n = n' + 1 := ⟨n - 1, by omega⟩
    refine ⟨H, F, fun R KE => ?_, O, hF, fun v h => hv v (by omega), .refl _ _⟩
    unfold L_ColorspecMaps_l4 L_ColorspecMaps_l4_b
    exact go_f (decide_eq_false (by omega)) rfl
  | succ m ih =>
    intro n j hn hj H F O hF hv
    obtain ⟨n, rfl⟩ : ∃ n', n = n' + 1 := ⟨n - 1, by omega⟩
    obtain ⟨H1, e1, O1, b1, n1⟩ := O.st1 (o := 0 + j * 1) (by rw [ints_len]; omega) (.int .i64 (-1))
    rw [ints_set] at O1
    obtain ⟨Ha, Fa, ea, Oa, la, va, ba⟩ := ih n (j + 1) (by omega) (by omega) H1 (F.set j (-1)) O1 (by rw [List.length_set]; exact hF) (fun v h => by
      rw [List.getElem?_set]
      by_cases hjv : j = v
      · rw [if_pos hjv, if_pos (by omega)]
      · rw [if_neg hjv]; exact hv v (by omega))
    refine ⟨Ha, Fa, fun R KE => ?_, Oa, la, va, b1.trans ba⟩
    unfold L_ColorspecMaps_l4 L_ColorspecMaps_l4_b
    refine go_t (decide_eq_true (by omega)) ?_
    rw [hidx_x bf 0 256 none (j : Int) 1 _ ⟨by omega, by omega⟩, Int.toNat_natCast]
    refine (e1 _ _).trans ?_
    rw [w64 (n := (j : Int) + 1) (by omega) (by omega)]
    exact ea R KE
theorem mp_l5 (k : Nat) {bf : Nat} {qd qx : Option Addr} {cd cx : Nat} {data : List Int} {f : Int → Int} (hl : data.length ≤ 100000) (hin : ∀ v ∈ data, 0 ≤ v ∧ v ≤ 255) (hf : ∀ v ∈ data, 0 ≤ f v ∧ f v ≤ 255) (p1 : Option Addr) (c7 : Nat) (n8 n9 : Int) : ∀ (m n j : Nat), m < n → data.length = j + m → ∀ (H : Heap) (F : List Int), Owns H bf (ints F) 0 → F.length = 256 → (∀ (v : Nat) (y : Int), F[v]? = some y → y = -1 ∨ y = f (v : Int)) → ShB bf H qd (ints data) → ShB bf H qx (ints (data.map f)) →
    ∃ H' F', (∀ (R : Type) (KE : Option Addr → Option Addr → Nat → Nat → Option Addr → Nat → Nat → Int → Int → Heap → Option R) (KR : Bool → Heap → Option R), L_ColorspecMaps_l5 k KE KR n p1 qd data.length cd (some ⟨bf, 0, none⟩) 256 c7 n8 n9 qx data.length cx ((data.length : Nat) : Int) (j : Int) H = KE p1 qd data.length cd (some ⟨bf, 0, none⟩) 256 c7 n8 n9 H') ∧ Owns H' bf (ints F') 0 ∧ F'.length = 256 ∧ But bf H H' := by
  intro m
  induction m with
  | zero =>
    intro n j hn hj H F O hF hv S X
    obtain ⟨n, rfl⟩ : ∃ n', n = n' + 1 := ⟨n - 1, by omega⟩
    refine ⟨H, F, fun R KE KR => ?_, O, hF, .refl _ _⟩
    unfold L_ColorspecMaps_l5 L_ColorspecMaps_l5_b
    exact go_f (decide_eq_false (by omega)) rfl
  | succ m ih =>
    intro n j hn hj H F O hF hv S X
    obtain ⟨n, rfl⟩ : ∃ n', n = n' + 1 := ⟨n - 1, by omega⟩
    have hol := O.lt
    obtain ⟨v, hx⟩ := ex_get (l := data) (i := j) (by omega)
    have hm := List.mem_of_getElem? hx
    have h1 := hin v hm
    have h2 := hf v hm
    have hxx : (data.map f)[j]? = some (f v) := by rw [List.getElem?_map, hx]; rfl
    obtain ⟨pd, ed, gd⟩ := int_at S.s hx
    obtain ⟨px, ex, gx⟩ := int_at X.s hxx
    rw [List.length_map] at ex
    obtain ⟨y, hy⟩ := ex_get (l := F) (i := v.toNat) (by omega)
    have hyv := hv _ _ hy
    rw [show ((v.toNat : Nat) : Int) = v from by omega] at hyv
    have my : hcell H bf (0 + v.toNat * 1) = some (.int .i64 y) := by rw [O.sees.cell, Nat.zero_add, Nat.mul_one]; exact ints_get hy
    have eh : ∀ (R : Type) (K : Option Addr → Option R), hidx (some ⟨bf, 0, none⟩) 256 v 1 K = K (some ⟨bf, 0 + v.toNat * 1, none⟩) := fun R K => hidx_x bf 0 256 none v 1 K ⟨h1.1, by omega⟩
    obtain ⟨H1, e1, O1, b1, n1⟩ := O.st1 (o := 0 + v.toNat * 1) (by rw [ints_len]; omega) (.int .i64 (f v))
    rw [ints_set] at O1
    have ob : Old bf H H1 := b1.old (Nat.le_refl _) (by omega)
    obtain ⟨Ha, Fa, ea, Oa, la, ba⟩ := ih n (j + 1) (by omega) (by omega) H1 (F.set v.toNat (f v)) O1 (by rw [List.length_set]; exact hF) (fun w z hz => by
      rw [List.getElem?_set] at hz
      by_cases hjv : v.toNat = w
      · rw [if_pos hjv, if_pos (by omega)] at hz
        right
        rw [← hjv, show ((v.toNat : Nat) : Int) = v from by omega]
        exact (Option.some.inj hz).symm
      · rw [if_neg hjv] at hz; exact hv w z hz) (S.old ob) (X.old ob)
    refine ⟨Ha, Fa, fun R KE KR => ?_, Oa, la, b1.trans ba⟩
    unfold L_ColorspecMaps_l5 L_ColorspecMaps_l5_b L_ColorspecMaps_p6 L_ColorspecMaps_p6_b
    have fin : ∀ (R : Type) (KE : Option Addr → Option Addr → Nat → Nat → Option Addr → Nat → Nat → Int → Int → Heap → Option R) (KR : Bool → Heap → Option R), (hidx qd data.length (j : Int) 1 fun p50 => ldI .i64 H p50 fun n51 => hidx (some ⟨bf, 0, none⟩) 256 n51 1 fun p52 => hst1 H p52 (.int .i64 (f v)) fun H53 => L_ColorspecMaps_l5 k KE KR n p1 qd data.length cd (some ⟨bf, 0, none⟩) 256 c7 n8 n9 qx data.length cx ((data.length : Nat) : Int) (IntKind.wrap .i64 ((j : Int) + 1)) H53) = KE p1 qd data.length cd (some ⟨bf, 0, none⟩) 256 c7 n8 n9 Ha := fun R KE KR => by
      refine (ed _ _).trans ((gd _ _).trans ((eh _ _).trans ((e1 _ _).trans ?_)))
      rw [w64 (n := (j : Int) + 1) (by omega) (by omega)]
      exact ea R KE KR
    refine go_t (decide_eq_true (by omega)) ((ex _ _).trans ((gx _ _).trans (go_f (decide_eq_false (by omega)) (go_f (decide_eq_false (by omega)) ?_))))
    refine (ed _ _).trans ((gd _ _).trans (go_f (decide_eq_false (by omega)) ((ed _ _).trans ((gd _ _).trans (go_f (decide_eq_false (by omega)) ((ed _ _).trans ((gd _ _).trans ((eh _ _).trans (go_i my ?_)))))))))
    rcases hyv with hyv | hyv
    · exact go_f (decide_eq_false (by omega)) (fin R KE KR)
    · rw [hyv] at my
      exact go_t (decide_eq_true (by omega)) ((ed _ _).trans ((gd _ _).trans ((eh _ _).trans (go_i my (go_ne (fin R KE KR))))))
theorem mp_l2 (k : Nat) {bf bx : Nat} {qd q6 q7 : Option Addr} {cd c6 c7' c7 : Nat} {data : List Int} {rows : List Rw} {rc : Int × Int × Int × Int} {dx dy : Int} {ps : List Pn} {nr : Nat} (hk : 100000 < k) (hnr : nr ≤ 1000) (hl : data.length ≤ 100000) (hin : ∀ v ∈ data, 0 ≤ v ∧ v ≤ 255) (hf : ∀ i, i < nr → ∀ v ∈ data, 0 ≤ pick rows i v ∧ pick rows i v ≤ 255) (hps : ps.map pcon = outP rows rc data nr) (hb : bx < bf) : ∀ (m n i : Nat), m < n → nr = i + m → ∀ (H : Heap) (F : List Int), Owns H bf (ints F) 0 → F.length = 256 → ShB bf H qd (ints data) → PlnB bf H q7 ps → ShB bf H q6 ((outC nr dx dy).flatMap cmc) → hcell H bx 6 = some (.slice q6 (outC nr dx dy).length c6) → hcell H bx 7 = some (.slice q7 ps.length c7') →
    ∃ H', (∀ (R : Type) (KE : Heap → Option R) (KR : Bool → Heap → Option R), L_ColorspecMaps_l2 k KE KR n (some ⟨bx, 0, none⟩) qd data.length cd (some ⟨bf, 0, none⟩) 256 c7 (nr : Int) (i : Int) H = KE H') := by
  have hpl : ps.length = nr := by have := congrArg List.length hps; rwa [List.length_map, outP_len] at this
  intro m
  induction m with
  | zero =>
    intro n i hn hj H F O hF S P C m6 m7
    obtain ⟨n, rfl⟩ : ∃ n', n = n' + 1 := ⟨n - 1, by omega⟩
    refine ⟨H, fun R KE KR => ?_⟩
    unfold L_ColorspecMaps_l2 L_ColorspecMaps_l2_b
    exact go_f (decide_eq_false (by omega)) rfl
  | succ m ih =>
    intro n i hn hj H F O hF S P C m6 m7
    obtain ⟨n, rfl⟩ : ∃ n', n = n' + 1 := ⟨n - 1, by omega⟩
    have hol := O.lt
    obtain ⟨p, hx⟩ := ex_get (l := ps) (i := i) (by omega)
    have hm := List.mem_of_getElem? hx
    have hpc : pcon p = (rc, data.map (pick rows i)) := by
      have := congrArg (fun l => l[i]?) hps
      simp only [List.getElem?_map, hx, Option.map_some, outP, List.getElem?_range (show i < nr by omega), Option.some.injEq] at this
      exact this
    have hdd : p.2.2.2 = data.map (pick rows i) := (Prod.mk.inj hpc).2
    have hdl : p.2.2.2.length = data.length := by rw [hdd, List.length_map]
    obtain ⟨bb, oo, e1, m0, m1, m2, m3, m4⟩ := pl_at P.p hx
    have hcx : (outC nr dx dy)[i]? = some (8, false, dx, dy) := by unfold outC; rw [List.getElem?_replicate, if_pos (by omega)]
    obtain ⟨cb, co, ec, y0, y1, y2, y3⟩ := cm_at C.s hcx
    obtain ⟨H1, F1, e4, O1, l1, v1, b1⟩ := mp_l4 k (bf := bf) (some ⟨bx, 0, none⟩) qd data.length cd c7 (i : Int) (nr : Int) (i : Int) 256 k 0 (by omega) rfl H F O hF (fun v hv => by omega)
    have o1 : Old bf H H1 := b1.old (Nat.le_refl _) (by omega)
    have P1 := P.old o1
    have S1 := S.old o1
    have hk1 : ∀ j, hcell H1 bx j = hcell H bx j := fun j => by unfold hcell; rw [o1.2 bx hb]
    have m7' := (hk1 7).trans m7
    have m6' := (hk1 6).trans m6
    obtain ⟨bb', oo', e1', _, _, _, _, m4'⟩ := pl_at P1.p hx
    have X1 := P1.dat hm
    rw [hdd] at X1
    rw [hdl] at m4 m4'
    obtain ⟨H2, F2, e5, O2, l2, b2⟩ := mp_l5 k (qx := p.2.1) (cx := p.2.2.1) (qd := qd) (cd := cd) (f := pick rows i) hl hin (hf i (by omega)) (some ⟨bx, 0, none⟩) c7 (nr : Int) (i : Int) data.length k 0 (by omega) (by omega) H1 F1 O1 l1 (fun w y hy => by
      have : w < 256 := by have := (List.getElem?_eq_some_iff.1 hy).1; omega
      rw [v1 w this] at hy
      exact .inl (Option.some.inj hy).symm) S1 X1
    have o2 : Old bf H1 H2 := b2.old (Nat.le_refl _) (by have := O1.lt; omega)
    have hk2 : ∀ j, hcell H2 bx j = hcell H1 bx j := fun j => by unfold hcell; rw [o2.2 bx hb]
    obtain ⟨Ha, ea⟩ := ih n (i + 1) (by omega) (by omega) H2 F2 O2 l2 (S1.old o2) (P1.old o2) ((C.old o1).old o2) ((hk2 6).trans m6') ((hk2 7).trans m7')
    refine ⟨Ha, fun R KE KR => ?_⟩
    unfold L_ColorspecMaps_l2 L_ColorspecMaps_l2_b L_ColorspecMaps_p3 L_ColorspecMaps_p3_b
    refine go_t (decide_eq_true (by omega)) (go_fad (go_l m7 ((e1 _ _).trans (go_fad (go_l m4 (go_ne (go_fad (go_fad (go_l m6 ((ec _ _).trans (go_fad (go_i y0 (go_ne ?_)))))))))))))
    refine (e4 _ _).trans (go_fad (go_l m7' ((e1' _ _).trans (go_fad (go_l m4' ((e5 _ _ _).trans ?_))))))
    try dsimp only
    rw [w64 (n := (i : Int) + 1) (by omega) (by omega)]
    exact ea R KE KR
theorem mk256 (H : Heap) : ∃ H1, (∀ (R : Type) (K : Option Addr → Nat → Nat → Heap → Option R), hmk [.int .i64 0] 8 H 256 256 K = K (some ⟨H.length, 0, none⟩) 256 256 H1) ∧ Owns H1 H.length (ints (List.replicate 256 0)) 0 ∧ Old H.length H H1 := by
  refine ⟨H ++ [some (⟨vcells 256 (fun _ => .int .i64 0), false, 0⟩ : Blk)], fun R K => hmk_x (n := 256) H (.int .i64 0) K (by omega) (by omega), ?_, Old.app _ _⟩
  have : vcells 256 (fun _ => (Value.int .i64 0)) = ints (List.replicate 256 0) := by kernel_rfl
  rw [← this]
  exact (show hblk (H ++ [some (⟨vcells 256 (fun _ => .int .i64 0), false, 0⟩ : Blk)]) H.length = some ⟨vcells 256 (fun _ => .int .i64 0), false, 0⟩ from hblk_new _ _)
theorem maps_in (H : Heap) (us : List Value) (h : AllLies H [(dImage, true), (dColor, true)] us) : L_ColorspecMaps_c Bool 1000000 us H asB = some true := by
  obtain ⟨k, hk⟩ : ∃ k, k = 1000000 := ⟨_, rfl⟩
  rw [← hk]
  have hk1 : 100000 < k := by omega
  clear hk
  obtain ⟨ims, vs, rfl, hi, h⟩ := lies_agg h
  obtain ⟨cls, vs, rfl, hs, h⟩ := lies_agg h
  obtain rfl := lies_nil h
  obtain ⟨g, q3, cs, c3, q4, ps, c4, rfl, hC, hL, _⟩ := image_of hi
  obtain ⟨s, q, rs, c, q2, rows, c2, rfl, hS, hP, _⟩ := color_of hs
  show L_ColorspecMaps k g.1 g.2.1 g.2.2.1 g.2.2.2.1 g.2.2.2.2.1 g.2.2.2.2.2 q3 cs.length c3 q4 ps.length c4 s q rs.length c q2 rows.length c2 H (fun t H => asB (.bool t) H) = some true
  obtain ⟨H1, hH1⟩ : ∃ H1, H1 = H ++ [some (⟨img8 g q3 cs.length c3 q4 ps.length c4, false, 0⟩ : Blk)] := ⟨_, rfl⟩
  have o1 : Old H.length H H1 := hH1 ▸ Old.app _ _
  have O1 : Owns H1 H.length (img8 g q3 cs.length c3 q4 ps.length c4) 0 := by rw [hH1]; exact hblk_new H _
  have l1 : H1.length = H.length + 1 := by rw [hH1]; simp
  obtain ⟨H2, hH2⟩ : ∃ H2, H2 = H1 ++ [some (⟨cl s q rs.length c q2 rows.length c2, false, 0⟩ : Blk)] := ⟨_, rfl⟩
  have o2 : Old H1.length H1 H2 := hH2 ▸ Old.app _ _
  have O2 : Owns H2 H1.length (cl s q rs.length c q2 rows.length c2) 0 := by rw [hH2]; exact hblk_new H1 _
  have l2 : H2.length = H1.length + 1 := by rw [hH2]; simp
  have o02 := o1.trans (o2.mono (by omega))
  have A2 := at8 (O1.old o2 (by omega))
  have B2 := at3 O2
  obtain ⟨H3, e3, o3⟩ := fewI_eq (k := k) (by omega) (cs := cs) (q := q3) g c3 c4 (hL.keep o02)
  have l3 := o3.1
  have A3 := A2.old o3 (by omega)
  have B3 := B2.old o3 (by omega)
  have o03 := o02.trans (o3.mono (by omega))
  obtain ⟨H4, e4, o4⟩ := Few_eq (k := k) (by omega) (rs := rs) (q := q) s c c2 (hP.keep o03)
  have l4 := o4.1
  have A4 := A3.old o4 (by omega)
  have B4 := B3.old o4 (by omega)
  have o04 := o03.trans (o4.mono (by omega))
  unfold L_ColorspecMaps L_ColorspecMaps_b L_ColorspecMaps_p0 L_ColorspecMaps_p0_b
  refine go_halN hH1 (go_halN hH2 (A2.go ((e3 _ _).trans ?_)))
  cases hf1 : fewI cs ps with
  | false => exact go_t rfl (go_t rfl rfl)
  | true =>
    refine go_f rfl (go_ip B3.a (go_lp B3.b' (go_lp B3.c' ((e4 _ _).trans ?_))))
    cases hf : fewB rs rows with
    | false => exact go_t rfl rfl
    | true =>
      have F := few_of hf
      obtain ⟨f1, f2, f3⟩ := fewI_of hf1
      have hd : ∀ p ∈ ps, p.2.2.2.length ≤ 100000 := fun p hp => by have := f3 p hp; omega
      obtain ⟨H5, h5, q5, c5, cs5, q5', c5', ps5, e5, x5, I5, r5, o5⟩ := Expand_eq hk1 g s c c2 c3 c4 (hS.keep o04) (hP.keep o04) (hC.keep o04) (hL.keep o04) F (by omega) (by omega) hd
      obtain ⟨H6', hH6⟩ : ∃ H6', H6' = H5 ++ [some (⟨img8 h5 q5 cs5.length c5 q5' ps5.length c5', false, 0⟩ : Blk)] := ⟨_, rfl⟩
      have o6 : Old H5.length H5 H6' := hH6 ▸ Old.app _ _
      have O6 : Owns H6' H5.length (img8 h5 q5 cs5.length c5 q5' ps5.length c5') 0 := by rw [hH6]; exact hblk_new H5 _
      have l6 : H6'.length = H5.length + 1 := by rw [hH6]; simp
      have l5 := o5.1
      have o46 := o5.trans (o6.mono (by omega))
      have o06 := o04.trans (o46.mono (by omega))
      have A6 := A4.old o46 (by omega)
      have B6 := B4.old o46 (by omega)
      have X6 := at8 O6
      have I6 := I5.keep o6
      have hL6 := hL.keep o06
      refine go_f rfl (A4.go (go_ip B4.a (go_lp B4.b' (go_lp B4.c' ((x5 _ _).trans (go_halst hH6 rfl rfl ?_))))))
      have hb := expO_small (by have := F.a; omega) (by omega) (by omega) hd r5
      rcases expO_cases r5 with ⟨he, hp0⟩ | ⟨rfl, h3, rfl, rfl, hpl⟩ | ⟨rfl, h3, cm, p, rfl, rfl, rfl, hpl, hin, h256, hrows⟩
      · have : ps5.length = 0 := by have := congrArg List.length hp0; simpa using this
        exact go_t (bne_iff_ne.2 he) (go_fad (go_l X6.m7 (go_t (beq_iff_eq.2 (by omega)) rfl)))
      · obtain ⟨H7, e7, o7⟩ := sameImage_true hk1 h5 c5 c5' c3 c4 I6.c.s (hC.keep o06) ⟨I6.p.s, fun p hp => (I6.w p hp).s⟩ hL6 hpl hb.1 hb.2.1 hb.2.2
        refine go_ne (go_fad (go_l B6.c' (go_t (beq_iff_eq.2 (by omega)) ?_)))
        exact X6.go (A6.go ((e7 _ _).trans (go_t rfl rfl)))
      · have hpl5 : ps5.length = rs.length := by have := congrArg List.length hpl; rwa [List.length_map, outP_len] at this
        obtain ⟨pb, po, pe, pm0, pm1, pm2, pm3, pm4⟩ := pl_at hL6 (i := 0) (p := p) rfl
        obtain ⟨H7, e7, O7, o7⟩ := mk256 H6'
        have l7 := o7.1
        have X7 := X6.old o7 (by omega)
        have hpd := hd p (List.mem_singleton.2 rfl)
        have I6p : PlnS H6' q5' ps5 := ⟨I6.p.s, fun p hp => (I6.w p hp).s⟩
        have hcb : ShB H6'.length H6' q5 ((outC rs.length cm.2.2.1 cm.2.2.2).flatMap cmc) := ⟨I6.c.s, .inr fun a ha => (I6.c.a a ha).2⟩
        have hdb : ShB H6'.length H6' p.2.1 (ints p.2.2.2) := (PlnS.pb hL6).dat (List.mem_singleton.2 rfl)
        obtain ⟨H8, e8⟩ := mp_l2 k (bf := H6'.length) (bx := H5.length) (qd := p.2.1) (cd := p.2.2.1) (c7 := 256) (rc := p.1) (rows := rows) (ps := ps5) hk1 (nr := rs.length) (by have := F.a; omega) hpd (fun v hv => by have := hin v hv; omega) (fun i hi v hv => by
          obtain ⟨r, hr⟩ := ex_get (hin v hv).2
          have hrr := hrows r (List.mem_of_getElem? hr)
          obtain ⟨x, hx⟩ := ex_get (l := r.2.2) (i := i) (by omega)
          rw [pick_at hr hx]
          have := (List.all_eq_true.1 hrr.2) x (List.mem_of_getElem? hx)
          simpa using this) hpl (by omega) rs.length k 0 (by have := F.a; omega) (by omega) H7 _ O7 List.length_replicate (hdb.old o7) ((PlnS.pb I6p).old o7) (hcb.old o7) X7.m6 X7.m7
        refine go_ne (go_fad (go_l B6.c' (go_f (beq_eq_false_iff_ne.2 (by omega)) ?_)))
        unfold L_ColorspecMaps_p1 L_ColorspecMaps_p1_b
        refine go_fad (go_l X6.m7 (go_fad (go_l B6.b' (go_f (bne_eq_false_iff_eq.2 (by omega)) ?_))))
        refine go_fad (go_fad (go_l X6.m6 (go_fad (go_l B6.b' (go_f (bne_eq_false_iff_eq.2 (by rw [outC_len])) (go_fad (go_l A6.m7 (go_f rfl ?_))))))))
        refine go_fad (go_l A6.m7 ((pe _ _).trans (go_fad (go_l pm4 ((e7 _ _).trans (go_fad (go_l X7.m7 ?_)))))))
        rw [hpl5]
        exact (e8 _ _ _).trans rfl
end Go.Proofs.Ytkjcjlembepdkaa.Sh
