/- Tagtree: L_TagtreeClones answers true. -/
import Derived.Test.YtblkejnciinaeaaTtR
set_option linter.unusedVariables false
set_option linter.unusedSimpArgs false
namespace Go.Proofs.Ytblkejnciinaeaa.Sh
open Go.Proofs.Ytblkejnciinaeaa.FW Go.IntWalk
theorem byt3 {x y : Int} (h : 0 ≤ x ∧ x ≤ 255) (h2 : 0 ≤ y ∧ y ≤ 255) : Byts [x, y, 90] := by
  refine ⟨fun z hz => ?_, by simp⟩
  simp only [List.mem_cons, List.mem_singleton, List.not_mem_nil, or_false] at hz
  rcases hz with rfl | rfl | rfl
  · exact h
  · exact h2
  · omega
theorem u8b (n : Int) : 0 ≤ IntKind.wrap .u8 n ∧ IntKind.wrap .u8 n ≤ 255 := by rw [IntKind.wrap_u8]; omega
def dat (o : Op4) : List Int := [IntKind.wrap .u8 (IntKind.wrap .i64 (37 * o.2.2.2)), IntKind.wrap .u8 (IntKind.wrap .i64 ((IntKind.wrap .i64 (91 * o.2.1)) + (IntKind.wrap .i64 (7 * o.2.2.1)))), 90]
/-- The things that a call needs. -/
theorem al_start (H : Heap) (o : Op4) : ∃ Ha Hb Hc Hd Hx px qx Hy py qy, Ha = H ++ [some (⟨opc o, false, 0⟩ : Blk)] ∧ Hd = Hc ++ [some (⟨byt (dat o), false, 0⟩ : Blk)] ∧ Ha.length = H.length + 1 ∧ Hb.length = H.length + 2 ∧ Hc.length = H.length + 3 ∧
    (∀ (R : Type) (K : Option Addr → Heap → Option R), bitio_NewWriter Ha K = K (some ⟨H.length + 1, 0, none⟩) Hb) ∧ (∀ (R : Type) (K : Option Addr → Heap → Option R), bitio_NewWriter Hb K = K (some ⟨H.length + 2, 0, none⟩) Hc) ∧
    (∀ (R : Type) (K : Option Addr → Heap → Option R), bitio_NewReader (some ⟨Hc.length, 0, none⟩) 3 3 Hd K = K (some ⟨px, 0, none⟩) Hx) ∧ (∀ (R : Type) (K : Option Addr → Heap → Option R), bitio_NewReader (some ⟨Hc.length, 0, none⟩) 3 3 Hx K = K (some ⟨py, 0, none⟩) Hy) ∧
    Owns Hc H.length (opc o) 0 ∧ Owns Hy H.length (opc o) 0 ∧ Wr H.length Hy (H.length + 1) none [] ∧ Wr H.length Hy (H.length + 2) none [] ∧ Rd Hy px qx (dat o) (0, 0) ∧ Rd Hy py qy (dat o) (0, 0) ∧ Old H.length H Hy ∧ H.length + 3 < px ∧ px < py ∧ (∀ a, qx = some a → H.length + 3 < a.block ∧ a.block < px) ∧ (∀ a, qy = some a → px < a.block ∧ a.block < py) ∧ py < Hy.length := by
  obtain ⟨Ha, hHa⟩ : ∃ Ha, Ha = H ++ [some (⟨opc o, false, 0⟩ : Blk)] := ⟨_, rfl⟩
  have oa : Old H.length H Ha := hHa ▸ Old.app _ _
  have la : Ha.length = H.length + 1 := by rw [hHa]; simp
  have Oa : Owns Ha H.length (opc o) 0 := by rw [hHa]; exact hblk_new H _
  obtain ⟨Hb, eb, Wb, ob, lb⟩ := nWriter_eq (N := H.length) (H := Ha) (by omega)
  obtain ⟨Hc, ec, Wc, oc, lc⟩ := nWriter_eq (N := H.length) (H := Hb) (by omega)
  obtain ⟨Hd, hHd⟩ : ∃ Hd, Hd = Hc ++ [some (⟨byt (dat o), false, 0⟩ : Blk)] := ⟨_, rfl⟩
  have od : Old Hc.length Hc Hd := hHd ▸ Old.app _ _
  have ld : Hd.length = Hc.length + 1 := by rw [hHd]; simp
  have Od : Owns Hd Hc.length (byt (dat o)) 0 := by rw [hHd]; exact hblk_new Hc _
  have hb : Byts (dat o) := byt3 (u8b _) (u8b _)
  obtain ⟨px, qx, Hx, ex, Rx, ox, hpx, hqx⟩ := nReader_eq 3 Od.sees.shows hb
  obtain ⟨py, qy, Hy, ey, Ry, oy, hpy, hqy⟩ := nReader_eq 3 (Od.sees.shows.keep ox) hb
  have hxl := Rx.lt
  have hyl := Ry.lt
  have l1 := ox.1
  have l2 := oy.1
  rw [la] at eb Wb
  rw [show Hb.length = H.length + 2 from by omega] at ec Wc
  have Oc : Owns Hc H.length (opc o) 0 := (Oa.old ob (by omega)).old oc (by omega)
  have Oy : Owns Hy H.length (opc o) 0 := ((Oc.old od (by omega)).old ox (by omega)).old oy (by omega)
  have W1 : Wr H.length Hy (H.length + 1) none [] := (((Wb.keep oc).keep od).keep ox).keep oy
  have W2 : Wr H.length Hy (H.length + 2) none [] := ((Wc.keep od).keep ox).keep oy
  refine ⟨Ha, Hb, Hc, Hd, Hx, px, qx, Hy, py, qy, hHa, hHd, la, by omega, by omega, eb, ec, ex, ey, Oc, Oy, W1, W2, Rx.keep oy, Ry, ?_, by omega, by omega, fun a ha => by have := hqx a ha; omega, fun a ha => by have := hqy a ha; omega, by omega⟩
  exact oa.trans ((ob.mono (by omega)).trans ((oc.mono (by omega)).trans ((od.mono (by omega)).trans ((ox.mono (by omega)).trans (oy.mono (by omega))))))
/-- A call of a tree alone. -/
theorem alike_one {k : Nat} (hk : 70000 < k) {N p : Nat} {q : Option Addr} {c : Nat} {l : List Lv} {e d : Bool} {g : Nat → Nat → Nd} {a b : Nat} (G : Geo a b l) {H : Heap} (T : Tn N H p q c l e d g) (hN : N ≤ H.length) (hg : Gok g) (o : Op4) :
    ∃ H', (∀ (R : Type) (K : Bool → Heap → Option R), L_alike k (some ⟨p, 0, none⟩) none o.1 o.2.1 o.2.2.1 o.2.2.2 H K = K true H') ∧ Tn N H' p q c l (opR (dat o) a b l.length e d g o).2.1 (opR (dat o) a b l.length e d g o).2.2.1 (opR (dat o) a b l.length e d g o).2.2.2.1 ∧ Old N H H' := by
  obtain ⟨Ha, Hb, Hc, Hd, Hx, px, qx, Hy, py, qy, hHa, hHd, la, lb, lc, ea, eb, ex, ey, Oc, Oy, W1, W2, Rx, Ry, oy, h1, h2, h3, h4, h5⟩ := al_start H o
  obtain ⟨m0, m1, m2, m3⟩ := op_cells Oc
  have Ty := T.old oy (Nat.le_refl _)
  have hlow := T.lows
  have off : ∀ i, H.length ≤ i → Off p q l i := fun i hi => T.fresh hi
  obtain ⟨H1, qa, e1, T1, _, c1, _⟩ := al_p0 hk G Ty (by omega) hg Oy W1 (by omega) Rx (fun a ha => by have := h3 a ha; omega) (off _ (by omega)) (off _ (by omega)) (fun a ha => off _ (by have := h3 a ha; omega)) none (some ⟨H.length + 2, 0, none⟩) (some ⟨py, 0, none⟩) false 0
  refine ⟨H1, fun R K => ?_, T1, ⟨by have := oy.1; have := c1.len; omega, fun i hi => ?_⟩⟩
  · unfold L_alike L_alike_b
    refine go_halN hHa ((ea _ _).trans ((eb _ _).trans (go_fad (go_i m3 (go_fad (go_i m1 (go_fad (go_i m2 (go_halN hHd ?_)))))))))
    refine (ex _ _).trans ((ey _ _).trans ((e1 _ _).trans ?_))
    exact go_t rfl rfl
  · rw [c1.old i (by have := oy.1; omega) (by omega) (fun j v hv => by have := hlow.2 j v hv; omega) (by omega) (by omega) (fun a ha => by have := h3 a ha; omega), oy.2 i (by omega)]
/-- A call of two trees that are the same. -/
theorem alike_two {k : Nat} (hk : 70000 < k) {N N2 p p2 : Nat} {q q2 : Option Addr} {c c2 : Nat} {l l2 : List Lv} {e d : Bool} {g : Nat → Nat → Nd} {a b : Nat} (G : Geo a b l) (G2 : Geo a b l2) (hll : l2.length = l.length) {H : Heap} (T : Tn N H p q c l e d g) (T2 : Tn N2 H p2 q2 c2 l2 e d g) (hN : N ≤ H.length) (hN2 : N2 ≤ H.length) (hg : Gok g) (hap : ∀ i, ¬ Off p q l i → Off p2 q2 l2 i) (o : Op4) :
    ∃ H', (∀ (R : Type) (K : Bool → Heap → Option R), L_alike k (some ⟨p2, 0, none⟩) (some ⟨p, 0, none⟩) o.1 o.2.1 o.2.2.1 o.2.2.2 H K = K true H') ∧ Tn N H' p q c l (opR (dat o) a b l.length e d g o).2.1 (opR (dat o) a b l.length e d g o).2.2.1 (opR (dat o) a b l.length e d g o).2.2.2.1 ∧ Tn N2 H' p2 q2 c2 l2 (opR (dat o) a b l.length e d g o).2.1 (opR (dat o) a b l.length e d g o).2.2.1 (opR (dat o) a b l.length e d g o).2.2.2.1 ∧ (∀ M, M ≤ N → M ≤ N2 → Old M H H') := by
  obtain ⟨Ha, Hb, Hc, Hd, Hx, px, qx, Hy, py, qy, hHa, hHd, la, lb, lc, ea, eb, ex, ey, Oc, Oy, W1, W2, Rx, Ry, oy, h1, h2, h3, h4, h5⟩ := al_start H o
  obtain ⟨m0, m1, m2, m3⟩ := op_cells Oc
  have Ty := T.old oy (Nat.le_refl _)
  have T2y := T2.old oy (Nat.le_refl _)
  have hlow := T.lows
  have hlow2 := T2.lows
  have off : ∀ i, H.length ≤ i → Off p q l i := fun i hi => T.fresh hi
  have off2 : ∀ i, H.length ≤ i → Off p2 q2 l2 i := fun i hi => T2.fresh hi
  obtain ⟨H1, qa, e1, T21, w1, c1, nqa⟩ := al_p0 hk G2 T2y (by omega) hg Oy W1 (by omega) Rx (fun a ha => by have := h3 a ha; omega) (off2 _ (by omega)) (off2 _ (by omega)) (fun a ha => off2 _ (by have := h3 a ha; omega)) (some ⟨p, 0, none⟩) (some ⟨H.length + 2, 0, none⟩) (some ⟨py, 0, none⟩) false 0
  rw [hll] at e1 T21 w1
  obtain ⟨r, hr⟩ : ∃ r, r = opR (dat o) a b l.length e d g o := ⟨_, rfl⟩
  have hgr : Gok r.2.2.2.1 := by rw [hr]; exact opR_ok hg
  have hlen : r.2.2.2.2.length ≤ 70000 := by rw [hr]; exact opR_len G.len
  rw [← hr] at e1 T21 w1
  have W1a := w1 (by omega) (fun a ha => by have := h3 a ha; omega)
  have l1 := c1.len
  -- what the first tree's call leaves alone
  have keep1 : ∀ i, i < Hy.length → Off p2 q2 l2 i → i ≠ H.length + 1 → i ≠ px → (∀ a, qx = some a → a.block ≠ i) → hblk H1 i = hblk Hy i := fun i hi ho => c1.old i hi ho.1 ho.2.2
  have T1 : Tn N H1 p q c l e d g := Ty.same fun i hi hn => keep1 i hi (hap i hn) (fun h => hn (by rw [h]; exact off _ (by omega))) (fun h => hn (by rw [h]; exact off _ (by omega))) (fun a ha h => hn (by rw [← h]; exact off _ (by have := h3 a ha; omega)))
  have O1 : Owns H1 H.length (opc o) 0 := Oy.same (keep1 _ (by omega) (off2 _ (by omega)) (by omega) (by omega) fun a ha => by have := h3 a ha; omega)
  have W21 : Wr H.length H1 (H.length + 2) none [] := W2.same (keep1 _ (by omega) (off2 _ (by omega)) (by omega) (by omega) fun a ha => by have := h3 a ha; omega) (fun a ha => by cases ha)
  have Ry1 : Rd H1 py qy (dat o) (0, 0) := Ry.same (keep1 _ (by omega) (off2 _ (by omega)) (by omega) (by omega) fun a ha => by have := h3 a ha; omega) fun a ha => by
    have h6 := h4 a ha
    exact keep1 _ (by omega) (off2 _ (by omega)) (by omega) (by omega) fun a' ha' => by have := h3 a' ha'; omega
  obtain ⟨H2, qb, e2, T22, w2, c2', nqb⟩ := al_p1 hk G T1 (by omega) hg O1 W21 (by omega) Ry1 (fun a ha => by have := h4 a ha; omega) (off _ (by omega)) (off _ (by omega)) (fun a ha => off _ (by have := h4 a ha; omega)) (some ⟨p2, 0, none⟩) (some ⟨H.length + 1, 0, none⟩) r.1.1 r.1.2
  rw [← hr] at e2 T22 w2
  have W2b := w2 (by omega) (fun a ha => by have := h4 a ha; omega)
  have l2' := c2'.len
  have keep2 : ∀ i, i < H1.length → Off p q l i → i ≠ H.length + 2 → i ≠ py → (∀ a, qy = some a → a.block ≠ i) → hblk H2 i = hblk H1 i := fun i hi ho => c2'.old i hi ho.1 ho.2.2
  have hap2 : ∀ i, ¬ Off p2 q2 l2 i → Off p q l i := fun i hi => Classical.byContradiction fun h => hi (hap i h)
  have T2b : Tn N2 H2 p2 q2 c2 l2 r.2.1 r.2.2.1 r.2.2.2.1 := T21.same fun i hi hn => keep2 i hi (hap2 i hn) (fun h => hn (by rw [h]; exact off2 _ (by omega))) (fun h => hn (by rw [h]; exact off2 _ (by omega))) (fun a ha h => hn (by rw [← h]; exact off2 _ (by have := h4 a ha; omega)))
  have O2 : Owns H2 H.length (opc o) 0 := O1.same (keep2 _ (by omega) (off _ (by omega)) (by omega) (by omega) fun a ha => by have := h4 a ha; omega)
  have W1b : Wr H.length H2 (H.length + 1) qa r.2.2.2.2 := W1a.same (keep2 _ (by omega) (off _ (by omega)) (by omega) (by omega) fun a ha => by have := h4 a ha; omega) fun a ha => by
    have h6 := nqa a ha
    have h7 := W1a.qlt a ha
    exact keep2 _ h7 (off _ (by omega)) (by omega) (by omega) fun a' ha' => by have := h4 a' ha'; omega
  obtain ⟨H3, e3, o3⟩ := Value_eq (k := k) T22 G o.2.1 o.2.2.1
  have T23 := T2b.old o3 (Nat.le_refl _)
  obtain ⟨H4, e4, o4⟩ := Value_eq (k := k) T23 G2 o.2.1 o.2.2.1
  have len1 := len_eq ((W1b.keep o3).keep o4)
  have len2 := len_eq ((W2b.keep o3).keep o4)
  have l3 := o3.1
  have l4 := o4.1
  obtain ⟨b5, pre5, t5, H5, z5, d5, F5, ht5, e5, O5, o5⟩ := bytes_eq k ((W1b.keep o3).keep o4) (by omega)
  obtain ⟨b6, pre6, t6, H6, z6, d6, F6, ht6, e6, O6, o6⟩ := bytes_eq k (((W2b.keep o3).keep o4).keep o5) (by omega)
  obtain ⟨rfl, rfl⟩ := full_uniq F5 F6 (d5.symm.trans d6) ht5 ht6
  have hsame : ∀ (R : Type) (K : Bool → Option R), R09_SameBytes (some ⟨H4.length, 0, none⟩) (fnB b5 t5).length (fnB b5 t5).length (some ⟨H5.length, 0, none⟩) (fnB b5 t5).length (fnB b5 t5).length H6 K = K true := fun R K => same_self _ _ (own_shows (O5.old o6 O5.lt)) (own_shows O6) R K
  obtain ⟨j0, j1, j2, j3⟩ := op_cells O2
  obtain ⟨i0, i1, i2, i3⟩ := op_cells (O2.old o3 O2.lt)
  have l5 := o5.1
  have l6 := o6.1
  rw [← hr]
  refine ⟨H6, fun R K => ?_, ((T22.old o3 (Nat.le_refl _)).old o4 (Nat.le_refl _) |>.old o5 (Nat.le_refl _)).old o6 (Nat.le_refl _), ((T23.old o4 (Nat.le_refl _)).old o5 (Nat.le_refl _)).old o6 (Nat.le_refl _), fun M hM hM2 => ⟨by omega, fun i hi => ?_⟩⟩
  · unfold L_alike L_alike_b
    refine go_halN hHa ((ea _ _).trans ((eb _ _).trans (go_fad (go_i m3 (go_fad (go_i m1 (go_fad (go_i m2 (go_halN hHd ?_)))))))))
    refine (ex _ _).trans ((ey _ _).trans ((e1 _ _).trans (go_f rfl ((e2 _ _).trans ?_))))
    refine go_fad (go_i j1 (go_fad (go_i j2 ((e3 _ _).trans (go_fad (go_i i1 (go_fad (go_i i2 ((e4 _ _).trans ?_)))))))))
    refine go_eq (go_t (beq_self_eq_true _) ((len1 _ _).trans ((len2 _ _).trans (go_eq ((e5 _ _).trans ((e6 _ _).trans ((hsame _ _).trans (go_t rfl (go_eq ?_)))))))))
    rw [beq_self_eq_true]
  · rw [o6.2 i (by omega), o5.2 i (by omega), o4.2 i (by omega), o3.2 i (by omega), c2'.old i (by omega) (by omega) (fun j v hv => by have := hlow.2 j v hv; omega) (by omega) (by omega) (fun a ha => by have := h4 a ha; omega), c1.old i (by omega) (by omega) (fun j v hv => by have := hlow2.2 j v hv; omega) (by omega) (by omega) (fun a ha => by have := h3 a ha; omega), oy.2 i (by omega)]
theorem Tn.below_off {N : Nat} {H : Heap} {p : Nat} {q : Option Addr} {c : Nat} {l : List Lv} {e d : Bool} {g : Nat → Nat → Nd} (T : Tn N H p q c l e d g) {i : Nat} (hi : i < N) : Off p q l i :=
  ⟨by have := T.low; omega, fun a ha => by have := Bld.qlow T.b a ha; omega, fun j v hv => by have := (T.n j v hv).2.1; omega⟩
theorem clones_l {k : Nat} (hk : 70000 < k) {N p : Nat} {q : Option Addr} {c : Nat} {l : List Lv} {a b : Nat} (G : Geo a b l) {ops : List Op4} (hlen : ops.length ≤ 100) {qo : Option Addr} (co : Nat) (hb : ops.flatMap opc = [] ∨ Below N qo) (at_ : Int) :
    ∀ (m n i : Nat), m < n → ops.length = i + m → ∀ (H : Heap) (e d : Bool) (g : Nat → Nat → Nd) (cp : Option Addr), N ≤ H.length → Gok g → Tn N H p q c l e d g → Shows H qo (ops.flatMap opc) →
    (cp = none ∨ ∃ N2 p2 q2 c2 l2, cp = some ⟨p2, 0, none⟩ ∧ Geo a b l2 ∧ l2.length = l.length ∧ Tn N2 H p2 q2 c2 l2 e d g ∧ N2 ≤ H.length ∧ N ≤ N2 ∧ ∀ i, ¬ Off p q l i → Off p2 q2 l2 i) →
    ∃ H', (∀ (R : Type) (KE : Heap → Option R) (KR : Bool → Heap → Option R), L_TagtreeClones_l0 k KE KR n at_ (some ⟨p, 0, none⟩) cp qo ops.length co ((ops.length : Nat) : Int) (i : Int) H = KE H') := by
  intro m
  induction m with
  | zero =>
    intro n i hn hi H e d g cp hN hg T hS hc
    obtain ⟨n, rfl⟩ : ∃ n', n = n' + 1 := ⟨n - 1, by omega⟩
    refine ⟨H, fun R KE KR => ?_⟩
    unfold L_TagtreeClones_l0 L_TagtreeClones_l0_b
    exact go_f (decide_eq_false (by omega)) rfl
  | succ m ih =>
    intro n i hn hi H e d g cp hN hg T hS hc
    obtain ⟨n, rfl⟩ : ∃ n', n = n' + 1 := ⟨n - 1, by omega⟩
    obtain ⟨o, ho⟩ : ∃ o, ops[i]? = some o := ⟨_, List.getElem?_eq_getElem (by omega)⟩
    obtain ⟨H1, e0, o1, O1, l1⟩ := op_box hS ho
    have T1 := T.old o1 (Nat.le_refl _)
    have ll1 := o1.1
    -- the clone
    obtain ⟨H2, cp2, e2, o2, hc2⟩ : ∃ H2 cp2, (∀ (R : Type) (KN : Int → Option Addr → Option Addr → Option Addr → Option Addr → Nat → Nat → Int → Int → Heap → Option R) (KR : Bool → Heap → Option R), L_TagtreeClones_p2 k at_ (some ⟨p, 0, none⟩) cp (i : Int) (some ⟨H.length, 0, none⟩) qo ops.length co ((ops.length : Nat) : Int) (i : Int) H1 KN KR = KN at_ (some ⟨p, 0, none⟩) cp2 (some ⟨H.length, 0, none⟩) qo ops.length co ((ops.length : Nat) : Int) (i : Int) H2) ∧ Old H1.length H1 H2 ∧ (cp2 = none ∨ ∃ N2 p2 q2 c2 l2, cp2 = some ⟨p2, 0, none⟩ ∧ Geo a b l2 ∧ l2.length = l.length ∧ Tn N2 H2 p2 q2 c2 l2 e d g ∧ N2 ≤ H2.length ∧ N ≤ N2 ∧ ∀ i, ¬ Off p q l i → Off p2 q2 l2 i) := by
      by_cases hat : (i : Int) = at_
      · obtain ⟨H2, q2, c2, l2, e2, T2, n2, G2, o2⟩ := Clone_eq (k := k) (by omega) G (by omega : N ≤ H1.length) T1
        refine ⟨H2, some ⟨H1.length, 0, none⟩, fun R KN KR => ?_, o2, .inr ⟨H1.length, H1.length, q2, c2, l2, rfl, G2, n2, T2, o2.1, by omega, fun i hi => T2.below_off (Classical.byContradiction fun h => hi (T1.fresh (by omega)))⟩⟩
        unfold L_TagtreeClones_p2 L_TagtreeClones_p2_b
        exact go_t (by rw [hat]; exact beq_self_eq_true _) ((e2 _ _).trans (go_f rfl rfl))
      · refine ⟨H1, cp, fun R KN KR => ?_, .refl _ _, ?_⟩
        · unfold L_TagtreeClones_p2 L_TagtreeClones_p2_b
          exact go_f (by rw [beq_eq_false_iff_ne]; exact hat) rfl
        · rcases hc with h | ⟨N2, p2, q2, c2, l2, h1, h2, h3, h4, h5, h6, h7⟩
          · exact .inl h
          · exact .inr ⟨N2, p2, q2, c2, l2, h1, h2, h3, h4.old o1 (Nat.le_refl _), by omega, h6, h7⟩
    have T2 := T1.old o2 (Nat.le_refl _)
    have ll2 := o2.1
    obtain ⟨m0, m1, m2, m3⟩ := op_cells (O1.old o2 O1.lt)
    have g0 : hcell H2 H.length (0 + 0) = some (.int .i64 o.1) := m0
    have g1 : hcell H2 H.length (0 + 1) = some (.int .i64 o.2.1) := m1
    have g2 : hcell H2 H.length (0 + 2) = some (.int .i64 o.2.2.1) := m2
    have g3 : hcell H2 H.length (0 + 3) = some (.int .i64 o.2.2.2) := m3
    have o12 : Old N H H2 := (o1.mono hN).trans (o2.mono (by omega))
    rcases hc2 with rfl | ⟨N2, p2, q2, c2, l2, rfl, G2, hll, TC, hN2, hNN, hap⟩
    · obtain ⟨H3, e3, T3, o3⟩ := alike_one hk G T2 (by omega) hg o
      obtain ⟨H4, e4⟩ := ih n (i + 1) (by omega) (by omega) H3 _ _ _ none (by have := o3.1; omega) (opR_ok hg) T3 (hS.old (o12.trans o3) hb) (.inl rfl)
      refine ⟨H4, fun R KE KR => ?_⟩
      unfold L_TagtreeClones_l0 L_TagtreeClones_l0_b L_TagtreeClones_p1 L_TagtreeClones_p1_b
      refine go_t (decide_eq_true (by omega)) ((e0 _ _).trans ((e2 _ _ _).trans (go_t rfl (go_ip g0 (go_ip g1 (go_ip g2 (go_ip g3 ((e3 _ _).trans ?_))))))))
      try dsimp only
      rw [w64 (n := (i : Int) + 1) (by omega) (by omega)]
      exact e4 R KE KR
    · obtain ⟨H3, e3, T3, TC3, o3⟩ := alike_two hk G G2 hll T2 TC (by omega) hN2 hg hap o
      have o3' := o3 N (Nat.le_refl _) hNN
      obtain ⟨H4, e4⟩ := ih n (i + 1) (by omega) (by omega) H3 _ _ _ (some ⟨p2, 0, none⟩) (by have := o3'.1; omega) (opR_ok hg) T3 (hS.old (o12.trans o3') hb) (.inr ⟨N2, p2, q2, c2, l2, rfl, G2, hll, TC3, by have := o3'.1; omega, hNN, hap⟩)
      refine ⟨H4, fun R KE KR => ?_⟩
      unfold L_TagtreeClones_l0 L_TagtreeClones_l0_b L_TagtreeClones_p1 L_TagtreeClones_p1_b
      refine go_t (decide_eq_true (by omega)) ((e0 _ _).trans ((e2 _ _ _).trans (go_f rfl (go_ip g0 (go_ip g1 (go_ip g2 (go_ip g3 ((e3 _ _).trans (go_f rfl ?_)))))))))
      try dsimp only
      rw [w64 (n := (i : Int) + 1) (by omega) (by omega)]
      exact e4 R KE KR
theorem clones_in (H : Heap) (us : List Value) (h : AllLies H [(.int .i64, false), (.int .i64, false), (.slc dOp, false), (.int .i64, false)] us) : L_TagtreeClones_c Bool 9223372036854777000 us H asB = some true := by
  obtain ⟨k, hk⟩ : ∃ k, k = 9223372036854777000 := ⟨_, rfl⟩
  rw [← hk]
  have hk1 : 1100000 < k := by omega
  clear hk
  obtain ⟨w, vs, rfl, _, h⟩ := lies_int h
  obtain ⟨hh, vs, rfl, _, h⟩ := lies_int h
  obtain ⟨q, c, es, vs, rfl, _, _, hsh, hS, h⟩ := lies_slc h
  obtain ⟨at_, vs, rfl, _, h⟩ := lies_int h
  obtain rfl := lies_nil h
  obtain ⟨ops, hl, hfl⟩ := ops_of es hsh
  rw [hfl] at hS
  rw [← hl]
  show L_TagtreeClones k w hh q ops.length c at_ H (fun t H => asB (.bool t) H) = some true
  obtain ⟨H1, e1, o1⟩ := small_eq (k := k) (by omega) c hS w hh
  unfold L_TagtreeClones L_TagtreeClones_b
  refine (e1 _ _).trans ?_
  cases hsm : smallB w hh ops
  · rfl
  obtain ⟨s1, s2, s3, s4⟩ := small_of hsm
  refine go_f rfl ?_
  have hS1 := hS.keep o1
  rcases New_eq (k := k) (by omega) H1 w hh with ⟨hv, e2⟩ | ⟨hv, a, b, H2, q2, c2, l, rfl, rfl, a1, b1, am, bm, ab, e2, T, hll, o2⟩
  · exact (e2 _ _).trans (go_t (by simpa using hv) rfl)
  have G := geo_of a1 b1 am bm ab hll
  refine (e2 _ _).trans (go_f rfl ?_)
  have hb := shows_below hS1
  have hS2 := hS1.old o2 hb
  obtain ⟨H3, e3⟩ := clones_l (k := k) (by omega) G s3 c hb at_ ops.length k 0 (by omega) (by omega) H2 false false (fun _ _ => nz) none o2.1 (fun _ _ => Int.le_refl 0) T hS2 (.inl rfl)
  simp only [Int.natCast_zero] at e3
  refine (e3 _ _ _).trans ?_
  rfl
end Go.Proofs.Ytblkejnciinaeaa.Sh
