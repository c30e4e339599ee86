/- Tagtree: L_TagtreeMixes answers true. -/
import Derived.Test.YtblkejnciinaeaaTtH
import Derived.Test.YtblkejnciinaeaaSh13
set_option linter.unusedVariables false
set_option linter.unusedSimpArgs false
namespace Go.Proofs.Ytblkejnciinaeaa.Sh
open Go.Proofs.Ytblkejnciinaeaa.FW Go.IntWalk
theorem wk_zero {S : Type} (code : Cod S) (f : Nat → Nd) (hf : ∀ i, 0 ≤ (f i).2.1) : ∀ (m : Nat) (low : Int) (s : S) (pf : Nat → Nd), 0 ≤ low → (wk code 0 f m low s pf).1 = 0 := by
  intro m
  induction m with
  | zero => intro low s pf _; rfl
  | succ m ih =>
    intro low s pf hl
    have hx : 0 ≤ imx (f m).2.1 low := by have := hf m; unfold imx; split <;> omega
    have e : nl code 0 s ((f m).1, imx (f m).2.1 low, (f m).2.2) = (0, s, (f m).1, imx (f m).2.1 low, (f m).2.2) := by
      unfold nl
      rw [show (0 - (((f m).1, imx (f m).2.1 low, (f m).2.2) : Nd).2.1).toNat = 0 from by simp only; omega]
      rfl
    rw [wk, if_neg (by rw [e]; simp), e]
    exact ih _ _ _ hx
theorem Gz : Gok (fun _ _ => nz) := fun _ _ => Int.le_refl 0
theorem enc_nil {k : Nat} {N : Nat} {H : Heap} {p : Nat} {q : Option Addr} {c : Nat} {l : List Lv} {e : Bool} {g : Nat → Nat → Nd} (T : Tn N H p q c l e false g) (hl : 1 ≤ l.length) (x y t : Int) : ∃ H', (∀ (R : Type) (K : Int → Heap → Option R), tagtree_Tree_Encode k (some ⟨p, 0, none⟩) none x y t H K = K 6 H') ∧ Old H.length H H' := by
  obtain ⟨Hb, hHb⟩ : ∃ Hb, Hb = H ++ [some (⟨[.pointer none], false, 0⟩ : Blk)] := ⟨_, rfl⟩
  have ob : Old H.length H Hb := hHb ▸ Old.app _ _
  have mp : hcell Hb H.length 0 = some (.pointer none) := by rw [hHb]; exact hcell_new _ _ _
  have Tb := T.old ob (Nat.le_refl _)
  have ok := tok_eq Tb hl
  have m1 : hcell Hb p 2 = some (.bool false) := Tb.o.sees.cell 2
  refine ⟨Hb, fun R K => ?_, ob⟩
  unfold tagtree_Tree_Encode tagtree_Tree_Encode_b tagtree_Tree_Encode_p0 tagtree_Tree_Encode_p0_b
  refine go_halN hHb ((ok _ _).trans (go_f rfl (go_nil (go_fad (go_b m1 (go_f rfl (go_p mp ?_)))))))
  rfl
theorem dec_nil {k : Nat} {N : Nat} {H : Heap} {p : Nat} {q : Option Addr} {c : Nat} {l : List Lv} {d : Bool} {g : Nat → Nat → Nd} (T : Tn N H p q c l false d g) (hl : 1 ≤ l.length) (x y t : Int) : ∃ H', (∀ (R : Type) (K : Bool → Int → Heap → Option R), tagtree_Tree_Decode k (some ⟨p, 0, none⟩) none x y t H K = K false 6 H') ∧ Old H.length H H' := by
  obtain ⟨Hb, hHb⟩ : ∃ Hb, Hb = H ++ [some (⟨[.pointer none], false, 0⟩ : Blk)] := ⟨_, rfl⟩
  have ob : Old H.length H Hb := hHb ▸ Old.app _ _
  have mp : hcell Hb H.length 0 = some (.pointer none) := by rw [hHb]; exact hcell_new _ _ _
  have Tb := T.old ob (Nat.le_refl _)
  have ok := tok_eq Tb hl
  have m1 : hcell Hb p 1 = some (.bool false) := Tb.o.sees.cell 1
  obtain ⟨Hc, ec, oc⟩ : ∃ Hc, (∀ (R : Type) (K : Int → Int → Heap → Option R), bitio_Reader_Bits k none 0 Hb K = K 0 6 Hc) ∧ Old Hb.length Hb Hc := by
    obtain ⟨Hx, hHx⟩ : ∃ Hx, Hx = Hb ++ [some (⟨[.pointer none], false, 0⟩ : Blk)] := ⟨_, rfl⟩
    obtain ⟨Hy, hHy⟩ : ∃ Hy, Hy = Hx ++ [some (⟨[.int .i64 0], false, 0⟩ : Blk)] := ⟨_, rfl⟩
    have lx : Hx.length = Hb.length + 1 := by rw [hHx]; simp
    have ox : Old Hb.length Hb Hx := hHx ▸ Old.app _ _
    have oy : Old Hx.length Hx Hy := hHy ▸ Old.app _ _
    have mx : hcell Hy Hb.length 0 = some (.pointer none) := by rw [hHy, hcell_old (by omega), hHx]; exact hcell_new _ _ _
    refine ⟨Hy, fun R K => ?_, ox.trans (oy.mono ox.1)⟩
    unfold bitio_Reader_Bits bitio_Reader_Bits_b
    refine go_halN hHx (go_halN hHy (go_p mx ?_))
    rfl
  refine ⟨Hc, fun R K => ?_, ob.trans (oc.mono ob.1)⟩
  unfold tagtree_Tree_Decode tagtree_Tree_Decode_b tagtree_Tree_Decode_p0 tagtree_Tree_Decode_p0_b
  refine go_halN hHb ((ok _ _).trans (go_f rfl (go_nil (go_fad (go_b m1 (go_f rfl (go_p mp ((ec _ _).trans ?_))))))))
  exact go_t rfl rfl
theorem mixes_run {k : Nat} (hk : 100000 < k) (w h x y : Int) (z : Bool) (H : Heap) : L_TagtreeMixes k w h x y z H (fun t H => asB (.bool t) H) = some true := by
  unfold L_TagtreeMixes L_TagtreeMixes_b L_TagtreeMixes_p0 L_TagtreeMixes_p0_b
  by_cases c1 : w > 64
  · exact go_t (decide_eq_true c1) rfl
  refine go_f (decide_eq_false c1) ?_
  by_cases c2 : h > 64
  · exact go_t (decide_eq_true c2) rfl
  refine go_f (decide_eq_false c2) ?_
  rcases New_eq (k := k) (by omega) H w h with ⟨hv, e1⟩ | ⟨hv, a, b, H1, q, c, l, rfl, rfl, a1, b1, am, bm, ab, e1, T, hl, o1⟩
  · exact (e1 _ _).trans (go_t (by simpa using hv) rfl)
  have G := geo_of a1 b1 am bm ab hl
  refine (e1 _ _).trans (go_f rfl ?_)
  obtain ⟨H2, e2, o2⟩ := dec_nil (k := k) T G.pos x y 0
  have T2 := T.old o2 (Nat.le_refl _)
  obtain ⟨H3, e3, o3⟩ := enc_nil (k := k) T2 G.pos x y 0
  have T3 := T2.old o3 (Nat.le_refl _)
  unfold L_TagtreeMixes_p1 L_TagtreeMixes_p1_b
  refine (e2 _ _).trans (go_f rfl ((e3 _ _).trans (go_f rfl ?_)))
  obtain ⟨H4, e4, W4, o4, n4⟩ := nWriter_eq (N := H3.length) (Nat.le_refl H3.length)
  have T4 := T3.old o4 (Nat.le_refl _)
  obtain ⟨pr, qr, H5, e5, R5, o5, hpr, hqr⟩ := nReader_eq (H := H4) (q := none) (bs := []) 0 (.inl rfl) ⟨(fun x hx => by cases hx), by simp⟩
  have e5' : ∀ (R : Type) (K : Option Addr → Heap → Option R), bitio_NewReader none 0 0 H4 K = K (some ⟨pr, 0, none⟩) H5 := e5
  have T5 := T4.old o5 (Nat.le_refl _)
  have W5 := W4.same (o5.2 _ W4.lt) (fun a ha => by cases ha)
  have l4 := o4.1
  have l5 := o5.1
  have hRl := R5.lt
  have offw : Off H.length q l H3.length := T3.fresh (Nat.le_refl _)
  have offr : Off H.length q l pr := T4.fresh hpr
  have offq : ∀ a, qr = some a → Off H.length q l a.block := fun a ha => T4.fresh (hqr a ha).1
  refine (e4 _ _).trans ((e5' _ _).trans ?_)
  have hp2 : ∀ (R : Type) (KN : Int → Int → Bool → Option Addr → Option Addr → Option Addr → Bool → Option R), L_TagtreeMixes_p2 k (a : Int) (b : Int) x y z (some ⟨H.length, 0, none⟩) (some ⟨H3.length, 0, none⟩) (some ⟨pr, 0, none⟩) KN = KN x y z (some ⟨H.length, 0, none⟩) (some ⟨H3.length, 0, none⟩) (some ⟨pr, 0, none⟩) (ins a b x y) := by
    intro R KN
    unfold L_TagtreeMixes_p2 L_TagtreeMixes_p2_b ins
    by_cases c1 : x ≥ 0
    · refine go_t (decide_eq_true c1) ?_
      by_cases c2 : x < (a : Int)
      · refine go_t (decide_eq_true c2) ?_
        by_cases c3 : y ≥ 0
        · refine go_t (decide_eq_true c3) ?_
          congr 1
          exact decide_eq_decide.2 ⟨fun h => ⟨c1, c2, c3, h⟩, fun h => h.2.2.2⟩
        · refine go_f (decide_eq_false c3) ?_
          rw [decide_eq_false (fun h => c3 h.2.2.1)]
      · refine go_f (decide_eq_false c2) ?_
        rw [decide_eq_false (fun h => c2 h.2.1)]
    · refine go_f (decide_eq_false c1) ?_
      rw [decide_eq_false (fun h => c1 h.1)]
  refine (hp2 _ _).trans ?_
  have hk7 : 70000 < k := by omega
  have hN5 : H.length ≤ H5.length := by have := o1.1; have := o2.1; have := o3.1; omega
  cases hi : ins a b x y
  case false =>
    obtain ⟨H6, e6, T6, R6, C6⟩ := Decode_eq hk7 T5 G Gz R5 (fun a ha => by have := (hqr a ha).2; omega) offr offq x y 0
    have er : decR [] a b l.length false false (fun _ _ => nz) x y 0 (0, 0) = ((false, 2), false, (fun _ _ => nz), (0, 0)) := by unfold decR; rw [if_neg (by simp), if_neg (by rw [hi]; simp)]
    rw [er] at e6 T6
    have W6 := W5.same (C6.old _ W5.lt (by omega) (fun a ha => by have := (hqr a ha).1; omega) offw.1 offw.2.2) (fun a ha => by cases ha)
    obtain ⟨q7, H7, e7, T7, W7, C7, _⟩ := Encode_eq hk7 T6 (by have := C6.len; omega) G Gz W6 (by have := C6.len; omega) offw (fun a ha => by cases ha) x y 0 (by simp)
    have er2 : encR a b l.length false false (fun _ _ => nz) x y 0 = (2, false, (fun _ _ => nz), []) := by unfold encR; rw [if_neg (by simp), if_neg (by rw [hi]; simp)]
    rw [er2] at e7 T7
    obtain ⟨H8, e8, T8, c8⟩ := Set_eq (k := k) T7 G 0 0 3
    have es : setE a b false false 0 0 3 = 0 := by
      unfold setE; rw [if_neg (by simp), if_pos ⟨by unfold ins; exact decide_eq_true (by omega), by omega, by omega⟩]
    rw [es] at e8
    refine go_t rfl ((e6 _ _).trans (go_t rfl ((e7 _ _).trans (go_t rfl ((e8 _ _).trans (go_t rfl rfl))))))
  case true =>
    refine go_f rfl ?_
    cases z
    case true =>
      refine go_t rfl ?_
      obtain ⟨q6, H6, e6, T6, W6, C6, _⟩ := Encode_eq hk7 T5 hN5 G Gz W5 (by omega) offw (fun a ha => by cases ha) x y 0 (by simp)
      have R6 := R5.same (C6.old _ R5.lt (by omega) (fun a ha => by cases ha) offr.1 offr.2.2) (fun a ha => C6.old _ (by have := (hqr a ha).2; omega) (by have := (hqr a ha).1; omega) (fun a ha => by cases ha) (offq a ha).1 (offq a ha).2.2)
      have er : encR a b l.length false false (fun _ _ => nz) x y 0 = (0, true, encG a b l.length false (fun _ _ => nz) x.toNat y.toNat 0, encB a b l.length false (fun _ _ => nz) x.toNat y.toNat 0) := by unfold encR; rw [if_neg (by simp), if_pos ⟨hi, by omega, by omega⟩]
      have hg6 := encR_ok (a := a) (b := b) (L := l.length) (e := false) (d := false) Gz x y 0
      rw [er] at e6 T6 hg6
      obtain ⟨H7, e7, T7, R7, C7⟩ := Decode_eq hk7 T6 G hg6 R6 (fun a ha => by have := (hqr a ha).2; have := C6.len; omega) offr offq x y 0
      have er2 : ∀ g, decR [] a b l.length true false g x y 0 (0, 0) = ((false, 6), false, g, (0, 0)) := fun g => by unfold decR; rw [if_pos rfl]
      rw [er2] at e7 T7
      obtain ⟨H8, e8, T8, c8⟩ := Set_eq (k := k) T7 G x y 1
      have es : setE a b true false x y 1 = 6 := by unfold setE; rw [if_pos (.inl rfl)]
      rw [es] at e8
      exact (e6 _ _).trans (go_f rfl ((e7 _ _).trans (go_t rfl ((e8 _ _).trans (go_t rfl rfl)))))
    case false =>
      refine go_f rfl ?_
      obtain ⟨H6, e6, T6, R6, C6⟩ := Decode_eq hk7 T5 G Gz R5 (fun a ha => by have := (hqr a ha).2; omega) offr offq x y 0
      have hg6 := decR_ok (bs := []) (a := a) (b := b) (L := l.length) (e := false) (d := false) Gz x y 0 (0, 0)
      have hw : (decW [] a l.length (fun _ _ => nz) x.toNat y.toNat 0 (0, 0)).1 = 0 := wk_zero _ _ (fun _ => Int.le_refl 0) _ _ _ _ (Int.le_refl 0)
      have hlow : 0 ≤ ((decW [] a l.length (fun _ _ => nz) x.toNat y.toNat 0 (0, 0)).2.2 0).2.1 := wkr_ok _ _ Gz _ _ _ _ _ 0
      obtain ⟨W, hW⟩ : ∃ W, W = decW [] a l.length (fun _ _ => nz) x.toNat y.toNat 0 (0, 0) := ⟨_, rfl⟩
      rw [← hW] at hw hlow
      have er : decR [] a b l.length false false (fun _ _ => nz) x y 0 (0, 0) = ((false, 0), true, gw a x.toNat y.toNat (fun _ _ => nz) W.2.2 l.length, W.2.1) := by
        unfold decR
        rw [if_neg (by simp), if_pos ⟨hi, by omega, by omega⟩, ← hW, if_pos hw, decide_eq_false (by omega), Bool.and_false]
      rw [er] at e6 T6 hg6
      have W6 := W5.same (C6.old _ W5.lt (by omega) (fun a ha => by have := (hqr a ha).1; omega) offw.1 offw.2.2) (fun a ha => by cases ha)
      obtain ⟨q7, H7, e7, T7, W7, C7, _⟩ := Encode_eq hk7 T6 (by have := C6.len; omega) G hg6 W6 (by have := C6.len; omega) offw (fun a ha => by cases ha) x y 0 (by simp)
      have er2 : ∀ g, encR a b l.length false true g x y 0 = (6, false, g, []) := fun g => by unfold encR; rw [if_pos rfl]
      rw [er2] at e7 T7
      obtain ⟨H8, e8, T8, c8⟩ := Set_eq (k := k) T7 G x y 1
      have es : setE a b false true x y 1 = 6 := by unfold setE; rw [if_pos (.inr rfl)]
      rw [es] at e8
      exact (e6 _ _).trans (go_t rfl (go_t rfl ((e7 _ _).trans (go_t rfl ((e8 _ _).trans (go_t rfl rfl))))))
theorem mixes_in (H : Heap) (us : List Value) (h : AllLies H [(.int .i64, false), (.int .i64, false), (.int .i64, false), (.int .i64, false), (.bool, false)] us) : L_TagtreeMixes_c Bool 9223372036854777000 us H asB = some true := by
  obtain ⟨x, vs, rfl, _, h1⟩ := lies_int h
  obtain ⟨y, vs, rfl, _, h2⟩ := lies_int h1
  obtain ⟨n, vs, rfl, _, h3⟩ := lies_int h2
  obtain ⟨m, vs, rfl, _, h4⟩ := lies_int h3
  obtain ⟨z, vs, rfl, h5⟩ := lies_bool h4
  obtain rfl := lies_nil h5
  exact mixes_run (by omega) x y n m z H
end Go.Proofs.Ytblkejnciinaeaa.Sh
