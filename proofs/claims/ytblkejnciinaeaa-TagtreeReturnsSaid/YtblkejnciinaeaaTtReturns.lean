/- Tagtree: L_TagtreeReturns answers true. -/
import Derived.Test.YtblkejnciinaeaaTtRetA
set_option linter.unusedVariables false
set_option linter.unusedSimpArgs false
namespace Go.Proofs.Ytblkejnciinaeaa.Sh
open Go.Proofs.Ytblkejnciinaeaa.FW Go.IntWalk
theorem ret_l6 {k : Nat} (hk : 70000 < k) {N p pr : Nat} {q qr : Option Addr} {c : Nat} {l : List Lv} {a b : Nat} (G : Geo a b l) {bs : List Int} {V : Nat → Int} {vb cv : Nat} {gl : List Op4} (hgl : gl.length ≤ 100) {qg : Option Addr} (cg : Nat) (hD : Off p q l pr) (hq : ∀ a, qr = some a → Off p q l a.block) (hvb : Off p q l vb) (hv1 : vb ≠ pr) (hv2 : ∀ a, qr = some a → a.block ≠ vb) {send : Nat × Nat} {M0 : Nat} (hg0 : gl.flatMap opc = [] ∨ ∃ bg, qg = some ⟨bg, 0, none⟩ ∧ Off p q l bg ∧ bg ≠ pr ∧ ∀ a, qr = some a → a.block ≠ bg) :
    ∀ (rest done : List Op4), gl = done ++ rest → ∀ (n : Nat), rest.length < n → ∀ (H : Heap) (dd : Bool) (gd : Nat → Nat → Nd) (s : Nat × Nat) (e : Bool) (g : Nat → Nat → Nd), Tn N H p q c l false dd gd → Gok gd → Gok g → Enc a b l.length e g V → (∀ i j, (g i j).2 = (gd i j).2) → trOk a b l.length (e, g) rest → Rd H pr qr bs s → (∀ a, qr = some a → a.block < H.length) → Run bs s (tr a b l.length (e, g) rest).2 send → OwnV H vb (a * b) (vv V) → Shows H qg (gl.flatMap opc) →
    ∃ H', (∀ (R : Type) (KE : Heap → Option R) (KR : Bool → Heap → Option R), L_TagtreeReturns_l6 k KE KR n (a : Int) (some ⟨p, 0, none⟩) (some ⟨vb, 0, none⟩) (a * b) cv (some ⟨pr, 0, none⟩) qg gl.length cg ((gl.length : Nat) : Int) (done.length : Int) H = KE H') := by
  intro rest
  induction rest with
  | nil =>
    intro done hdone n hn H dd gd s e g T hgd hgo hE hsim hok hR hql hrun hV hS
    obtain ⟨n, rfl⟩ : ∃ n', n = n' + 1 := ⟨n - 1, by simp only [List.length_nil] at hn; omega⟩
    rw [List.append_nil] at hdone
    refine ⟨H, fun R KE KR => ?_⟩
    unfold L_TagtreeReturns_l6 L_TagtreeReturns_l6_b
    exact go_f (decide_eq_false (by rw [hdone]; omega)) rfl
  | cons o rest ih =>
    intro done hdone n hn H dd gd s e g T hgd hgo hE hsim hok hR hql hrun hV hS
    obtain ⟨n, rfl⟩ : ∃ n', n = n' + 1 := ⟨n - 1, by omega⟩
    have hlen : gl.length = done.length + (rest.length + 1) := by rw [hdone]; simp
    have ho : gl[done.length]? = some o := by rw [hdone]; simp
    obtain ⟨H1, e0, o1, O1, l1⟩ := op_box hS ho
    obtain ⟨m0, m1, m2, m3⟩ := op_cells O1
    have T1 := T.old o1 (Nat.le_refl _)
    have R1 := hR.keep o1
    have hRl := hR.lt
    have hVl : vb < H.length := Owns.lt hV
    have hoff : Off p q l H.length := T.fresh (Nat.le_refl _)
    rw [tr] at hrun
    obtain ⟨s1, r1, r2⟩ := hrun.split
    obtain ⟨hEo, hokr⟩ := hok
    obtain ⟨E2, d1, d2, d3, d4⟩ := enc_dec (dd := dd) hE G.pos hgo hsim hEo r1
    obtain ⟨H2, e2, T2, R2, C2⟩ := Decode_eq hk T1 G hgd R1 (fun a ha => by have := hql a ha; omega) hD hq o.2.1 o.2.2.1 o.2.2.2
    have hgd2 := decR_ok (bs := bs) (a := a) (b := b) (L := l.length) (e := false) (d := dd) hgd o.2.1 o.2.2.1 o.2.2.2 s
    have hgo2 := encR_ok (a := a) (b := b) (L := l.length) (e := e) (d := false) hgo o.2.1 o.2.2.1 o.2.2.2
    rw [d1] at e2
    rw [d2] at R2
    have l2 := C2.len
    have O2 : Owns H2 H.length (opc o) 0 := O1.same (C2.old _ (by omega) (by omega) (fun a ha => by have := hql a ha; omega) hoff.1 hoff.2.2)
    obtain ⟨k0, k1, k2, k3⟩ := op_cells O2
    have hV2 : OwnV H2 vb (a * b) (vv V) := Owns.same (hV.keep o1) (C2.old _ (by omega) hv1 hv2 hvb.1 hvb.2.2)
    obtain ⟨_, hins, ht0, ht1, _⟩ := encR_zero hEo
    obtain ⟨u, w, hu, hw, hua, hwb⟩ := ins_t hins
    obtain ⟨hwx, hlt⟩ := wix hua hwb G.ab
    have hix : ix a o.2.1.toNat o.2.2.1.toNat 0 = w * a + u := by rw [hu, hw, Int.toNat_natCast, Int.toNat_natCast, ix_zero G.a1]
    rw [hix] at e2 d4
    have hcell2 : hcell H2 vb (w * a + u) = some (.int .i64 (V (w * a + u))) := OwnV.cell hV2 hlt none
    obtain ⟨H3, e3, o3⟩ := Value_eq (k := k) T2 G o.2.1 o.2.2.1
    have T3 := T2.old o3 (Nat.le_refl _)
    have R3 := R2.keep o3
    have S2 : Shows H2 qg (gl.flatMap opc) := by
      rcases hg0 with h | ⟨bg, rfl, h1, h2, h3⟩
      · exact .inl h
      · refine (hS.keep o1).same fun x hx => ?_
        cases hx
        rcases hS with h | ⟨b2, o2, full, h4, h5, _⟩
        · exfalso; rw [hdone] at h; simp [opc] at h
        · cases h4
          have := h5.lt
          exact C2.old _ (by simp only; omega) h2 h3 h1.1 h1.2.2
    obtain ⟨H4, e4⟩ := ih (done ++ [o]) (by rw [hdone]; simp) n (by simp only [List.length_cons] at hn; omega) H3 _ _ s1 _ _ T3 hgd2 hgo2 E2 d3 hokr R3 (fun a ha => by have := hql a ha; have := o3.1; omega) r2 (hV2.keep o3) (S2.keep o3)
    refine ⟨H4, fun R KE KR => ?_⟩
    unfold L_TagtreeReturns_l6 L_TagtreeReturns_l6_b
    refine go_t (decide_eq_true (by omega)) ?_
    unfold L_TagtreeReturns_p7 L_TagtreeReturns_p7_b
    refine (e0 _ _).trans (go_fad (go_i m1 (go_fad (go_i m2 (go_fad (go_i m3 ((e2 _ _).trans (go_fad (go_i k2 (go_fad (go_i k1 ?_)))))))))))
    have hidxv : ∀ (R : Type) (K : Option Addr → Option R), hidx (some ⟨vb, 0, none⟩) (a * b) (IntKind.wrap .i64 (IntKind.wrap .i64 (o.2.2.1 * (a : Int)) + o.2.1)) 1 K = K (some ⟨vb, w * a + u, none⟩) := by
      intro R K
      rw [hu, hw, hwx]
      refine (hidx_1 _ _ _ _ (by omega) (by omega) _ _).trans ?_
      rw [Int.toNat_natCast, Nat.zero_add]
    refine (hidxv _ _).trans (go_i hcell2 ?_)
    unfold L_TagtreeReturns_p8 L_TagtreeReturns_p8_b
    refine go_f rfl (go_fad (go_i k3 (go_f (by rw [beq_self_eq_true]; rfl) ?_)))
    refine go_fad (go_i k1 (go_fad (go_i k2 ((e3 _ _).trans ?_))))
    have fin : L_TagtreeReturns_l6 k KE KR n (a : Int) (some ⟨p, 0, none⟩) (some ⟨vb, 0, none⟩) (a * b) cv (some ⟨pr, 0, none⟩) qg gl.length cg ((gl.length : Nat) : Int) (IntKind.wrap .i64 ((done.length : Int) + 1)) H3 = KE H4 := by
      rw [w64 (n := (done.length : Int) + 1) (by omega) (by omega)]
      have := e4 R KE KR
      rw [List.length_append] at this
      exact this
    by_cases hless : V (w * a + u) < o.2.2.2
    · refine go_t (decide_eq_true hless) ?_
      rw [d4 hless]
      refine go_f rfl (go_ne fin)
    · exact go_f (decide_eq_false hless) fin
theorem returns_in (H : Heap) (us : List Value) (h : AllLies H [(.int .i64, false), (.int .i64, false), (.slc dOp, false)] us) : L_TagtreeReturns_c Bool 9223372036854777000 us H asB = some true := by
  obtain ⟨k, hk⟩ : ∃ k, k = 9223372036854777000 := ⟨_, rfl⟩
  rw [← hk]
  have hk1 : 1100000 < k := by omega
  clear hk
  obtain ⟨w, vs, rfl, _, h⟩ := lies_int h
  obtain ⟨hh, vs, rfl, _, h⟩ := lies_int h
  obtain ⟨q, c, es, vs, rfl, _, _, hsh, hS, h⟩ := lies_slc h
  obtain rfl := lies_nil h
  obtain ⟨ops, hl, hfl⟩ := ops_of es hsh
  rw [hfl] at hS
  rw [← hl]
  show L_TagtreeReturns k w hh q ops.length c H (fun t H => asB (.bool t) H) = some true
  obtain ⟨H1, e1, o1⟩ := small_eq (k := k) (by omega) c hS w hh
  unfold L_TagtreeReturns L_TagtreeReturns_b
  refine (e1 _ _).trans ?_
  cases hsm : smallB w hh ops
  · rfl
  obtain ⟨s1, s2, s3, s4⟩ := small_of hsm
  refine go_f rfl ?_
  have hS1 := hS.keep o1
  rcases New_eq (k := k) (by omega) H1 w hh with ⟨hv, e2⟩ | ⟨hv, a, b, H2, q2, c2, l, rfl, rfl, a1, b1, am, bm, ab, e2, T, hll, o2⟩
  · exact (e2 _ _).trans ((e2 _ _).trans (go_ne (go_t (by simpa using hv) rfl)))
  have G := geo_of a1 b1 am bm ab hll
  rcases New_eq (k := k) (by omega) H2 (a : Int) (b : Int) with ⟨hv', e3⟩ | ⟨_, a', b', H3, q3, c3, l', ha', hb', _, _, _, _, _, e3, T3, hll', o3⟩
  · exact (hv' hv).elim
  obtain rfl : a = a' := by omega
  obtain rfl : b = b' := by omega
  have G' := geo_of a1 b1 am bm ab hll'
  have hlen' : l'.length = l.length := by have := congrArg List.length (hll'.trans hll.symm); simpa using this
  refine (e2 _ _).trans ((e3 _ _).trans (go_ne (go_f rfl ?_)))
  have hb := shows_below hS1
  have hS2 := hS1.old o2 hb
  have hS3 := hS2.keep o3
  obtain ⟨H4, e4, V4, o4, n4⟩ := OwnV.make (bytes := 8) H3 (.int .i64 0) (n := a * b) (by omega) (by omega)
  have wab : IntKind.wrap .i64 ((a : Int) * (b : Int)) = ((a * b : Nat) : Int) := mulw ab
  rw [wab]
  refine (e4 _ _).trans ?_
  have l2 := o2.1
  have l3 := o3.1
  have l4 := o4.1
  have T4 := (T.old o3 (Nat.le_refl _)).old o4 (Nat.le_refl _)
  have U4 := T3.old o4 (Nat.le_refl _)
  have offv : Off H1.length q2 l H3.length := (T.old o3 (Nat.le_refl _)).fresh (Nat.le_refl _)
  have offvu : Off H2.length q3 l' H3.length := T3.fresh (Nat.le_refl _)
  obtain ⟨H5, g5, V5, e5, E5, T5, hV5, l5, f5⟩ := ret_l0 k (cv := a * b) G s3 c hb (some ⟨H2.length, 0, none⟩) offv (by omega) ops.length k 0 (by omega) (by omega) H4 (fun _ _ => nz) (fun _ => 0) (by omega) ⟨fun _ => rfl, fun _ _ _ => ⟨rfl, Int.le_refl 0⟩, fun h => by cases h⟩ T4 V4 (hS3.keep o4)
  simp only [Int.natCast_zero] at e5
  refine (e5 _ _ _).trans ?_
  -- the other tree and the calls
  have tlow : ∀ i, ¬ Off H1.length q2 l i → i < H2.length := fun i hi => Classical.byContradiction fun hc => hi (T.fresh (by omega))
  have ulow : ∀ i, ¬ Off H2.length q3 l' i → H2.length ≤ i ∧ i < H3.length := fun i hi => by
    refine ⟨Classical.byContradiction fun hc => hi ⟨by have := T3.low; omega, fun a ha => by have := Bld.qlow T3.b a ha; omega, fun j v hv => by have := (T3.n j v hv).2.1; omega⟩, Classical.byContradiction fun hc => hi (T3.fresh (by omega))⟩
  have vlt : ∀ (j : Nat) (v : Lv), l[j]? = some v → v.b < H2.length := fun j v hv => (T.n j v hv).1.lt
  have U5 : Tn H2.length H5 H2.length q3 c3 l' false false (fun _ _ => nz) := U4.same fun i hi hn => f5 i hi (by have := ulow i hn; omega) fun j v hv => by have := ulow i hn; have := vlt j v hv; omega
  have hS5 : Shows H5 q (ops.flatMap opc) := (hS3.keep o4).old (N := H1.length) ⟨l5, fun i hi => f5 i (by omega) (by omega) fun j v hv => by have := T.lows.2 j v hv; omega⟩ hb
  obtain ⟨H6, e6, W6, o6, n6⟩ := nWriter_eq (N := H5.length) (Nat.le_refl H5.length)
  have l6 := o6.1
  have T6 := T5.old o6 (Nat.le_refl _)
  refine (e6 _ _).trans ?_
  have hg5 : Gok g5 := fun i j => by rw [(E5.f rfl i j).1]; exact Int.le_refl 0
  obtain ⟨H7, e7', g7, q7, sb, gl, qg, cg, e7, L7, hgl, l7, f7⟩ := ret_l3 (k := k) (by omega) (N := H1.length) (M := H5.length) (pw := H5.length) G s3 s4 c hb (by omega) (T5.fresh (Nat.le_refl _)) (Nat.le_refl _) (some ⟨H2.length, 0, none⟩) (some ⟨H3.length, 0, none⟩) (a * b) (a * b) (false, g5) ops.length k 0 (by omega) (by omega) H6 false g5 none [] [] none 0 ⟨T6, hg5, W6, (fun a ha => by cases ha), Bld.nil _ _ _, (fun a ha => by cases ha), rfl, rfl, trivial, o6.1, by simp⟩ (by simp) (hS5.keep o6)
  simp only [Int.natCast_zero, List.length_nil] at e7
  refine (e7 _ _ _).trans ?_
  have hsl := L7.slen
  obtain ⟨fb, pre, t, H8, z, d8, F8, ht8, e8, O8, o8⟩ := bytes_eq k L7.W (by omega)
  refine (e8 _ _).trans ?_
  have hbl := F8.len
  have hfl := fnB_len fb t
  have hbt : sb.length = pre.length + t.length := by rw [d8, List.length_append]
  have hby : Byts (fnB fb t) := ⟨fnB_byte F8 ht8, by omega⟩
  obtain ⟨pr, qr, H9, e9, R9, o9, hpr, hqr⟩ := nReader_eq (fnB fb t).length (own_shows O8) hby
  refine (e9 _ _).trans ?_
  obtain ⟨send, hrun, _, _⟩ := fin_run F8 ht8 (by rw [← d8]; exact L7.W.b01) [] (by rw [List.append_nil]; exact hby)
  rw [List.append_nil, ← d8, L7.bits] at hrun
  have l8 := o8.1
  have l9 := o9.1
  have hR9 := R9.lt
  have keep7 : ∀ i, H2.length ≤ i → i < H5.length → hblk H7 i = hblk H5 i := fun i h1 h2 => by
    rw [f7 i h2 (by have := T.o.lt; omega) (fun j v hv => by have := vlt j v hv; omega), o6.2 i h2]
  have U7 : Tn H2.length H7 H2.length q3 c3 l' false false (fun _ _ => nz) := U5.same fun i hi hn => keep7 i (by have := ulow i hn; omega) (by omega)
  have V7 : OwnV H7 H3.length (a * b) (vv V5) := Owns.same hV5 (keep7 _ (by omega) (by omega))
  have U9 := (U7.old o8 (Nat.le_refl _)).old o9 (Nat.le_refl _)
  have V9 := (V7.keep o8).keep o9
  have S9 := (L7.row.shows.1.keep o8).keep o9
  have hgb := L7.row.below
  have hg0 : gl.flatMap opc = [] ∨ ∃ bg, qg = some ⟨bg, 0, none⟩ ∧ Off H2.length q3 l' bg ∧ bg ≠ pr ∧ ∀ a, qr = some a → a.block ≠ bg := by
    rcases L7.row with ⟨_, _, _, h⟩ | ⟨bg, rfl, _, h2, h3, _⟩
    · exact .inl h
    · have hbg := h3.lt
      exact .inr ⟨bg, rfl, U5.fresh h2, by omega, fun a ha => by have := (hqr a ha).1; omega⟩
  obtain ⟨Hz, ez⟩ := ret_l6 (k := k) (by omega) (cv := a * b) G' (bs := fnB fb t) (V := V5) (vb := H3.length) (gl := gl) (by omega) cg (U7.fresh (by omega)) (fun a ha => U7.fresh (by have := (hqr a ha).1; omega)) offvu (by omega) (fun a ha => by have := (hqr a ha).1; omega) (send := send) (M0 := 0) hg0 gl [] rfl k (by omega) H9 false (fun _ _ => nz) (0, 0) false g5 U9 (fun _ _ => Int.le_refl 0) hg5 (by rw [hlen']; exact E5) (fun i j => by rw [(E5.f rfl i j).1]; rfl) (by rw [hlen']; exact L7.good) R9 (fun a ha => by have := (hqr a ha).2; omega) (by rw [hlen']; exact hrun) V9 S9
  simp only [List.length_nil, Int.natCast_zero] at ez
  refine (ez _ _ _).trans ?_
  rfl
end Go.Proofs.Ytblkejnciinaeaa.Sh
