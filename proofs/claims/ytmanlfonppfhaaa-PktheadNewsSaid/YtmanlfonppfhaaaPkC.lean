/- Pkthead: the program's New: bands and blocks. -/
import Derived.Test.YtmanlfonppfhaaaSh1
import Derived.Test.YtmanlfonppfhaaaPkB
set_option linter.unusedVariables false
set_option linter.unusedSimpArgs false
namespace Go.Proofs.Ytmanlfonppfhaaa.Sh
open Go.Proofs.Ytmanlfonppfhaaa.FW Go.IntWalk
theorem quo_eq {k w : Nat} (hk : k ≤ 65536) (hw : 1 ≤ w) (R : Type) (K : Int → Option R) : hbin .quo .i64 (k : Int) (w : Int) K = K ((k / w : Nat) : Int) := by
  have : k / w ≤ k := Nat.div_le_self _ _
  simp only [hbin]
  rw [if_neg (by omega), show Int.tdiv (k : Int) (w : Int) = ((k / w : Nat) : Int) from rfl]
  generalize k / w = d at this ⊢
  rw [w64 (by omega) (by omega)]
theorem rem_eq {k w : Nat} (hw : 1 ≤ w) (R : Type) (K : Int → Option R) : hbin .rem .i64 (k : Int) (w : Int) K = K ((k % w : Nat) : Int) := by
  simp only [hbin]
  rw [if_neg (by omega), show Int.tmod (k : Int) (w : Int) = ((k % w : Nat) : Int) from rfl]
/-- Blocks: subband, column, row. -/
abbrev Bk := Nat × Nat × Nat
def bkc (v : Bk) : List Value := [.int .i64 (v.1 : Int), .int .i64 (v.2.1 : Int), .int .i64 (v.2.2 : Int), .bool false, .int .i64 0, .int .i64 0, .int .i64 0, .int .i64 3, .int .i64 0, .int .i64 0]
def blkN (i w n : Nat) : List Bk := (List.range n).map fun k => (i, k % w, k / w)
def blkG (i : Nat) (g : Int × Int) : List Bk := blkN i g.1.toNat (g.1.toNat * g.2.toNat)
def blks : Nat → List (Int × Int) → List Bk
  | _, [] => []
  | i, g :: gs => blkG i g ++ blks (i + 1) gs
theorem blks_snoc (gs : List (Int × Int)) (g : Int × Int) : ∀ i, blks i (gs ++ [g]) = blks i gs ++ blkG (i + gs.length) g := by
  induction gs with
  | nil => intro i; simp [blks]
  | cons x gs ih => intro i; rw [List.cons_append, blks, ih, blks, List.append_assoc, List.length_cons, show i + 1 + gs.length = i + (gs.length + 1) from by omega]
theorem blkN_succ (i w n : Nat) : blkN i w (n + 1) = blkN i w n ++ [(i, n % w, n / w)] := by unfold blkN; rw [List.range_succ, List.map_append]; rfl
abbrev Md := Bool × Bool × Bool × Bool × Bool
def sP (t : Md) (qb : Option Addr) (lb cb : Nat) (qk : Option Addr) (lk ck : Nat) : List Value := [.bool true, .bool false, .bool false, .bool t.1, .bool t.2.1, .bool t.2.2.1, .bool t.2.2.2.1, .bool t.2.2.2.2, .slice qb lb cb, .slice qk lk ck, .int .i64 0]
/-- A state under way: its bands and blocks. -/
abbrev PG (N b : Nat) (H : Heap) (t : Md) (qb : Option Addr) (lb cb : Nat) (Xb : List Value) (qk : Option Addr) (ck : Nat) (L : List Bk) : Prop := Gw N b H (sP t qb lb cb qk L.length ck) [⟨8, 3, qb, lb, cb, Xb⟩, ⟨9, 10, qk, L.length, ck, L.flatMap bkc⟩]
theorem nl7 (k : Nat) {N b bg w h : Nat} {t : Md} {qb : Option Addr} {lb cb : Nat} {Xb : List Value} {M : List Bk} (i : Nat) (hwh : w * h ≤ 65536) (hM : M.length ≤ 65536) (hNb : N ≤ b) (q1 : Option Addr) (l2 c3 : Nat) (q7 : Option Addr) (l8 c9 : Nat) (n10 n11 : Int) : ∀ (m n j : Nat), m < n → w * h = j + m → ∀ (H : Heap) (qk : Option Addr) (ck : Nat), PG N b H t qb lb cb Xb qk ck (M ++ blkN i w j) → N ≤ H.length → hcell H bg 0 = some (.int .i64 (w : Int)) → bg ≠ b → (∀ a, qb = some a → a.block ≠ bg) → (∀ a, qk = some a → a.block ≠ bg) →
    ∃ H' qk' ck', (∀ (R : Type) (KE : Option Addr → Nat → Nat → Option Addr → Option Addr → Nat → Nat → Int → Int → Heap → Option R), pkthead_New_l7 k KE n q1 l2 c3 (some ⟨b, 0, none⟩) (i : Int) (some ⟨bg, 0, none⟩) q7 l8 c9 n10 n11 ((w * h : Nat) : Int) (j : Int) H = KE q1 l2 c3 (some ⟨b, 0, none⟩) q7 l8 c9 n10 n11 H') ∧ PG N b H' t qb lb cb Xb qk' ck' (M ++ blkN i w (w * h)) ∧ Old N H H' := by
  intro m
  induction m with
  | zero =>
    intro n j hn hj H qk ck G hN mg g1 g2 g3
    obtain ⟨n, rfl⟩ : ∃ n', n = n' + 1 := ⟨n - 1, by omega⟩
    have hjj : j = w * h := by omega
    rw [hjj] at G
    refine ⟨H, qk, ck, fun R KE => ?_, G, .refl _ _⟩
    unfold pkthead_New_l7 pkthead_New_l7_b
    exact go_f (decide_eq_false (by omega)) rfl
  | succ m ih =>
    intro n j hn hj H qk ck G hN mg g1 g2 g3
    obtain ⟨n, rfl⟩ : ∃ n', n = n' + 1 := ⟨n - 1, by omega⟩
    have hw : 1 ≤ w := by
      rcases Nat.eq_zero_or_pos w with h0 | h0
      · subst h0; omega
      · exact h0
    have hjl : (M ++ blkN i w j).length = M.length + j := by rw [List.length_append]; simp [blkN]
    have hbg : bg < H.length := by
      unfold hcell at mg
      cases hq : hblk H bg with
      | none => rw [hq] at mg; cases mg
      | some B => exact hblk_lt hq
    have m9 : hcell H b 9 = some (.slice qk (M ++ blkN i w j).length ck) := G.o.sees.cell 9
    obtain ⟨H1, H2, H3, hH1, e2, e3, G3, k3, o3, n3⟩ := Gw.grow (A := [⟨8, 3, qb, lb, cb, Xb⟩]) (B := []) (bytes := 80) (ec := bkc (i, j % w, j / w)) G (by simp) (by simp) rfl (by simp only; omega) hN
    have o3 := OldX.old o3 hNb
    have G3' : PG N b H3 t qb lb cb Xb (some ⟨H.length + 1, 0, none⟩) unk (M ++ blkN i w (j + 1)) := by
      have e1 : M ++ blkN i w (j + 1) = M ++ blkN i w j ++ [(i, j % w, j / w)] := by rw [blkN_succ, List.append_assoc]
      have e2 : (M ++ blkN i w (j + 1)).length = (M ++ blkN i w j).length + 1 := by rw [e1, List.length_append]; rfl
      have e3 : (M ++ blkN i w (j + 1)).flatMap bkc = (M ++ blkN i w j).flatMap bkc ++ bkc (i, j % w, j / w) := by rw [e1, List.flatMap_append]; simp
      unfold PG
      rw [e2, e3]
      exact G3
    have mg3 : hcell H3 bg 0 = some (.int .i64 (w : Int)) := by
      unfold hcell
      rw [k3 bg hbg ⟨g1, fun s hs a ha => by
        simp only [List.cons_append, List.nil_append, List.mem_cons, List.not_mem_nil, or_false] at hs
        rcases hs with rfl | rfl
        · exact g2 a ha
        · exact g3 a ha⟩]
      exact mg
    obtain ⟨Ha, qk', ck', ea, Ga, oa⟩ := ih n (j + 1) (by omega) (by omega) H3 _ _ G3' (by omega) mg3 g1 g2 (fun a ha => by cases ha; simp only; omega)
    refine ⟨Ha, qk', ck', fun R KE => ?_, Ga, o3.trans oa⟩
    unfold pkthead_New_l7 pkthead_New_l7_b
    refine go_t (decide_eq_true (by omega)) (go_nil (go_fad (go_l m9 (go_fad (go_i mg ((rem_eq hw _ _).trans (go_fad (go_i mg ((quo_eq (by omega) hw _ _).trans ?_)))))))))
    refine go_halN hH1 ((e2 _ _).trans (go_nil (go_fad ((e3 _ _).trans ?_))))
    rw [w64 (n := (j : Int) + 1) (by omega) (by omega)]
    exact ea R KE
theorem sumZ_take {zs : List Gd} (h : zs.all okZ = true) : ∀ i, sumZ (zs.take i) ≤ sumZ zs ∧ 0 ≤ sumZ (zs.take i) := by
  induction zs with
  | nil => intro i; simp [sumZ]
  | cons z zs ih =>
    intro i
    rw [List.all_cons, Bool.and_eq_true] at h
    have hz := h.1
    unfold okZ at hz
    simp only [Bool.and_eq_true] at hz
    have hm := okG_mul hz.1
    cases i with
    | zero =>
      have := ih h.2 0
      simp only [List.take_zero, sumZ, List.map_nil, List.sum_nil, List.map_cons, List.sum_cons] at *
      omega
    | succ i =>
      have := ih h.2 i
      simp only [List.take_succ_cons, sumZ, List.map_cons, List.sum_cons] at *
      omega
theorem blks_len {zs : List Gd} (h : zs.all okZ = true) : ∀ i, ((blks i (zs.map Prod.fst)).length : Int) = sumZ zs := by
  induction zs with
  | nil => intro i; rfl
  | cons z zs ih =>
    intro i
    rw [List.all_cons, Bool.and_eq_true] at h
    have hz := h.1
    unfold okZ at hz
    simp only [Bool.and_eq_true] at hz
    have hm := okG_mul hz.1
    have e : ((z.1.1.toNat * z.1.2.toNat : Nat) : Int) = z.1.1 * z.1.2 := by
      rw [Int.natCast_mul, Int.toNat_of_nonneg hm.2.2.1, Int.toNat_of_nonneg hm.2.2.2]
    have := ih h.2 (i + 1)
    rw [List.map_cons, blks, List.length_append]
    have hb : (blkG i z.1).length = z.1.1.toNat * z.1.2.toNat := by simp [blkG, blkN]
    rw [hb]
    have hs : sumZ (z :: zs) = z.1.1 * z.1.2 + sumZ zs := by simp [sumZ]
    rw [hs]
    push_cast at e ⊢
    omega
theorem all_take {zs : List Gd} (h : zs.all okZ = true) (i : Nat) : (zs.take i).all okZ = true := List.all_eq_true.2 fun z hz => List.all_eq_true.1 h z (List.mem_of_mem_take hz)
structure ShB (N : Nat) (H : Heap) (q : Option Addr) (cs : List Value) : Prop where
  s : Shows H q cs
  b : cs = [] ∨ Below N q
theorem ShB.old {N : Nat} {H H' : Heap} {q : Option Addr} {cs : List Value} (h : ShB N H q cs) (o : Old N H H') : ShB N H' q cs := ⟨h.s.old o h.b, h.b⟩
theorem np6_eq {k : Nat} (hk : 100 < k) {H : Heap} {bg bt : Nat} {x y v : Int} (m0 : hcell H bg 0 = some (.int .i64 x)) (m1 : hcell H bg 1 = some (.int .i64 y)) (O : Owns H bt [.int .i64 v, .pointer none, .pointer none] 0) (hlt : bg < bt) (q1 : Option Addr) (l2 c3 : Nat) (p4 : Option Addr) (n5 : Int) (q8 : Option Addr) (l9 c10 : Nat) (n11 n12 : Int) :
    ∃ H' p1 p2, (∀ (R : Type) (K : Option Addr → Nat → Nat → Option Addr → Int → Option Addr → Option Addr → Option Addr → Nat → Nat → Int → Int → Heap → Option R), pkthead_New_p6 k q1 l2 c3 p4 n5 (some ⟨bg, 0, none⟩) (some ⟨bt, 0, none⟩) q8 l9 c10 n11 n12 H K = K q1 l2 c3 p4 n5 (some ⟨bg, 0, none⟩) (some ⟨bt, 0, none⟩) q8 l9 c10 n11 n12 H') ∧ Owns H' bt [.int .i64 v, .pointer p1, .pointer p2] 0 ∧ Old bt H H' := by
  have hbt := O.lt
  by_cases hx : x > 0
  · obtain ⟨p1, H1, e1, o1⟩ := tNew_eq hk H x y
    obtain ⟨H2, e2, O2, b2, n2⟩ := (O.old o1 hbt).st1 (o := 1) (show 1 < 3 by omega) (.pointer p1)
    have ob2 : Old bt H H2 := (o1.mono (by omega)).trans (b2.old (Nat.le_refl _) (by have := o1.1; omega))
    have x0 : hcell H2 bg 0 = some (.int .i64 x) := by unfold hcell; rw [ob2.2 bg hlt]; exact m0
    have x1 : hcell H2 bg 1 = some (.int .i64 y) := by unfold hcell; rw [ob2.2 bg hlt]; exact m1
    obtain ⟨p2, H3, e3, o3⟩ := tNew_eq hk H2 x y
    have hbt2 := O2.lt
    obtain ⟨H4, e4, O4, b4, n4⟩ := (O2.old o3 hbt2).st1 (o := 2) (show 2 < 3 by omega) (.pointer p2)
    refine ⟨H4, p1, p2, fun R K => ?_, O4, ob2.trans ((o3.mono (by omega)).trans (b4.old (Nat.le_refl _) (by have := o3.1; omega)))⟩
    unfold pkthead_New_p6 pkthead_New_p6_b
    refine go_fad (go_i m0 (go_t (decide_eq_true hx) (go_fad (go_i m0 (go_fad (go_i m1 ((e1 _ _).trans (go_fad ((e2 _ _).trans ?_)))))))))
    exact go_fad (go_i x0 (go_fad (go_i x1 ((e3 _ _).trans (go_fad ((e4 _ _).trans rfl))))))
  · refine ⟨H, none, none, fun R K => ?_, O, .refl _ _⟩
    unfold pkthead_New_p6 pkthead_New_p6_b
    exact go_fad (go_i m0 (go_f (decide_eq_false hx) rfl))
theorem nl5 (k : Nat) (hk : 100000 < k) {N b : Nat} {t : Md} {qg qp : Option Addr} {cg cp : Nat} {zs : List Gd} (hl : zs.length ≤ 3) (hok : zs.all okZ = true) (hsum : sumZ zs ≤ 65536) (hNb : N ≤ b) : ∀ (m n i : Nat), m < n → zs.length = i + m → ∀ (H : Heap) (qb : Option Addr) (cb : Nat) (Xb : List Value) (qk : Option Addr) (ck : Nat), PG N b H t qb i cb Xb qk ck (blks 0 ((zs.map Prod.fst).take i)) → N ≤ H.length → ShB N H qg ((zs.map Prod.fst).flatMap pt) → ShB N H qp (ints (zs.map Prod.snd)) →
    ∃ H' qb' cb' Xb' qk' ck', (∀ (R : Type) (KE : Option Addr → Heap → Option R), pkthead_New_l5 k KE n qp zs.length cp (some ⟨b, 0, none⟩) qg zs.length cg ((zs.length : Nat) : Int) (i : Int) H = KE (some ⟨b, 0, none⟩) H') ∧ PG N b H' t qb' zs.length cb' Xb' qk' ck' (blks 0 (zs.map Prod.fst)) ∧ Old N H H' := by
  intro m
  induction m with
  | zero =>
    intro n i hn hj H qb cb Xb qk ck G hN hg hp
    obtain ⟨n, rfl⟩ : ∃ n', n = n' + 1 := ⟨n - 1, by omega⟩
    have hi : i = zs.length := by omega
    rw [hi, List.take_of_length_le (by rw [List.length_map]; omega)] at G
    refine ⟨H, qb, cb, Xb, qk, ck, fun R KE => ?_, G, .refl _ _⟩
    unfold pkthead_New_l5 pkthead_New_l5_b
    exact go_f (decide_eq_false (by omega)) rfl
  | succ m ih =>
    intro n i hn hj H qb cb Xb qk ck G hN hg hp
    obtain ⟨n, rfl⟩ : ∃ n', n = n' + 1 := ⟨n - 1, by omega⟩
    obtain ⟨z, hz⟩ := ex_get (l := zs) (i := i) (by omega)
    have hgz : (zs.map Prod.fst)[i]? = some z.1 := by rw [List.getElem?_map, hz]; rfl
    have hzo : okG z.1 = true := by
      have := (List.all_eq_true.1 hok) z (List.mem_of_getElem? hz)
      unfold okZ at this
      simp only [Bool.and_eq_true] at this
      exact this.1
    have hm := okG_mul hzo
    obtain ⟨w, hw⟩ : ∃ w : Nat, z.1.1 = w := ⟨z.1.1.toNat, by omega⟩
    obtain ⟨h, hh⟩ : ∃ h : Nat, z.1.2 = h := ⟨z.1.2.toNat, by omega⟩
    have hlen := blks_len (all_take hok i) 0
    rw [List.map_take] at hlen
    have hlen2 := blks_len (all_take hok (i + 1)) 0
    have hst := sumZ_take hok (i + 1)
    have hst0 := sumZ_take hok i
    have htk : zs.take (i + 1) = zs.take i ++ [z] := take_snoc hz
    have hss : sumZ (zs.take (i + 1)) = sumZ (zs.take i) + z.1.1 * z.1.2 := by rw [htk]; simp [sumZ]
    have hwh : w * h ≤ 65536 := by
      have : ((w * h : Nat) : Int) = z.1.1 * z.1.2 := by rw [hw, hh, Int.natCast_mul]
      omega
    have hMl : (blks 0 ((zs.map Prod.fst).take i)).length ≤ 65536 := by omega
    obtain ⟨bb, oo, e1, m0, m1⟩ := pt_at hg.s hgz
    rw [List.length_map] at e1
    obtain ⟨H1, hH1⟩ : ∃ H1, H1 = H ++ [some (⟨[.int .i64 z.1.1, .int .i64 z.1.2], false, 0⟩ : Blk)] := ⟨_, rfl⟩
    have o1 : Old H.length H H1 := hH1 ▸ Old.app _ _
    have O1 : Owns H1 H.length [.int .i64 z.1.1, .int .i64 z.1.2] 0 := by rw [hH1]; exact hblk_new H _
    have l1 : H1.length = H.length + 1 := by rw [hH1]; simp
    obtain ⟨pv, ep, ev⟩ := int_at (hp.old (o1.mono hN)).s (i := i) (x := z.2) (by rw [List.getElem?_map, hz]; rfl)
    rw [List.length_map] at ep
    obtain ⟨H2, hH2⟩ : ∃ H2, H2 = H1 ++ [some (⟨[.int .i64 z.2, .pointer none, .pointer none], false, 0⟩ : Blk)] := ⟨_, rfl⟩
    have o2 : Old H1.length H1 H2 := hH2 ▸ Old.app _ _
    have O2 : Owns H2 H1.length [.int .i64 z.2, .pointer none, .pointer none] 0 := by rw [hH2]; exact hblk_new H1 _
    have l2 : H2.length = H1.length + 1 := by rw [hH2]; simp
    have P2 := O1.old o2 (by omega)
    obtain ⟨H3, p1, p2, e3, O3, o3⟩ := np6_eq (k := k) (by omega) (bg := H.length) (x := z.1.1) (y := z.1.2) (P2.sees.cell 0) (P2.sees.cell 1) O2 (by omega) qp zs.length cp (some ⟨b, 0, none⟩) (i : Int) qg zs.length cg ((zs.length : Nat) : Int) (i : Int)
    have l3 := o3.1
    have o03 : Old H.length H H3 := o1.trans ((o2.mono (by omega)).trans (o3.mono (by omega)))
    have G3 := G.keep o03
    have P3 := P2.old o3 (by omega)
    have m8 : hcell H3 b 8 = some (.slice qb i cb) := G3.o.sees.cell 8
    have t0 : hcell H3 H1.length 0 = some (.int .i64 z.2) := O3.sees.cell 0
    have t1 : hcell H3 H1.length 1 = some (.pointer p1) := O3.sees.cell 1
    have t2 : hcell H3 H1.length 2 = some (.pointer p2) := O3.sees.cell 2
    obtain ⟨H4, H5, H6, hH4, e5, e6, G6, k6, o6, n6⟩ := Gw.grow (A := []) (B := [⟨9, 10, qk, (blks 0 ((zs.map Prod.fst).take i)).length, ck, (blks 0 ((zs.map Prod.fst).take i)).flatMap bkc⟩]) (s := ⟨8, 3, qb, i, cb, Xb⟩) (bytes := 24) (ec := [.int .i64 z.2, .pointer p1, .pointer p2]) G3 (by simp) (by simp) rfl (by simp only; omega) (by omega)
    have o6' := OldX.old o6 hNb
    have hbelow : ∀ s ∈ [(⟨8, 3, qb, i, cb, Xb⟩ : Sl), ⟨9, 10, qk, (blks 0 ((zs.map Prod.fst).take i)).length, ck, (blks 0 ((zs.map Prod.fst).take i)).flatMap bkc⟩], ∀ a, s.q = some a → a.block < H.length := fun s hs a ha => (G.f s hs).below a ha
    have hbb := G.o.lt
    have kg : hblk H6 H.length = hblk H3 H.length := k6 H.length (by omega) ⟨by omega, fun s hs a ha => by have := hbelow s hs a ha; omega⟩
    have g0 : hcell H6 H.length 0 = some (.int .i64 (w : Int)) := by unfold hcell; rw [kg]; have := P3.sees.cell 0; unfold hcell at this; rw [this]; simp [hw]
    have g1 : hcell H6 H.length 1 = some (.int .i64 (h : Int)) := by unfold hcell; rw [kg]; have := P3.sees.cell 1; unfold hcell at this; rw [this]; simp [hh]
    have G6' : PG N b H6 t (some ⟨H3.length + 1, 0, none⟩) (i + 1) unk (Xb ++ [.int .i64 z.2, .pointer p1, .pointer p2]) qk ck (blks 0 ((zs.map Prod.fst).take i) ++ blkN i w 0) := by
      have : blks 0 ((zs.map Prod.fst).take i) ++ blkN i w 0 = blks 0 ((zs.map Prod.fst).take i) := by simp [blkN]
      unfold PG
      rw [this]
      exact G6
    obtain ⟨H7, qk', ck', e7, G7, o7⟩ := nl7 k (bg := H.length) (w := w) (h := h) (M := blks 0 ((zs.map Prod.fst).take i)) i hwh hMl hNb qp zs.length cp qg zs.length cg ((zs.length : Nat) : Int) (i : Int) (w * h) k 0 (by omega) (by omega) H6 qk ck G6' (by omega) g0 (by omega) (fun a ha => by cases ha; simp only; omega) (fun a ha => by have := hbelow _ (List.mem_cons_of_mem _ (List.mem_singleton.2 rfl)) a ha; omega)
    have hbk : blks 0 ((zs.map Prod.fst).take i) ++ blkN i w (w * h) = blks 0 ((zs.map Prod.fst).take (i + 1)) := by
      rw [take_snoc hgz, blks_snoc]
      unfold blkG
      rw [hw, hh]
      simp [Nat.min_eq_left (show i ≤ zs.length by omega)]
    rw [hbk] at G7
    have o07 : Old N H H7 := (o03.mono hN).trans (o6'.trans o7)
    obtain ⟨Ha, qb', cb', Xb', qk2, ck2, ea, Ga, oa⟩ := ih n (i + 1) (by omega) (by omega) H7 _ _ _ _ _ G7 (by have := o07.1; omega) (hg.old o07) (hp.old o07)
    refine ⟨Ha, qb', cb', Xb', qk2, ck2, fun R KE => ?_, Ga, o07.trans oa⟩
    unfold pkthead_New_l5 pkthead_New_l5_b
    refine go_t (decide_eq_true (by omega)) ((e1 _ _).trans (go_ip m0 (go_ip m1 (go_halst hH1 rfl rfl ((ep _ _).trans ((ev _ _).trans (go_halst hH2 rfl rfl ((e3 _ _).trans ?_))))))))
    refine go_nil (go_fad (go_l m8 (go_ip t0 (go_pp t1 (go_pp t2 (go_halN hH4 ((e5 _ _).trans (go_nil (go_fad ((e6 _ _).trans ?_))))))))))
    refine go_fad (go_i g0 (go_fad (go_i g1 ?_)))
    rw [show IntKind.wrap .i64 ((w : Int) * (h : Int)) = ((w * h : Nat) : Int) from mulw hwh]
    refine (e7 _ _).trans ?_
    rw [w64 (n := (i : Int) + 1) (by omega) (by omega)]
    exact ea R KE
def newE (gs : List (Int × Int)) (pl : List Int) : Int := if gs.length ≠ pl.length ∨ gs.length > 3 then 4 else if (gs.zip pl).all okZ then (if sumZ (gs.zip pl) > 65536 then 5 else 0) else 2
theorem pNew_eq {k : Nat} (hk : 100000 < k) {H : Heap} {qg qp : Option Addr} {gs : List (Int × Int)} {pl : List Int} (cg cp : Nat) (t : Md) (hg : Shows H qg (gs.flatMap pt)) (hp : Shows H qp (ints pl)) :
    ∃ H' p, (∀ (R : Type) (K : Option Addr → Int → Heap → Option R), pkthead_New k qg gs.length cg qp pl.length cp t.1 t.2.1 t.2.2.1 t.2.2.2.1 t.2.2.2.2 H K = K p (newE gs pl) H') ∧ Old H.length H H' ∧ ((newE gs pl ≠ 0 ∧ p = none) ∨ (newE gs pl = 0 ∧ ∃ b qb cb Xb qk ck, p = some ⟨b, 0, none⟩ ∧ H.length ≤ b ∧ PG H.length b H' t qb gs.length cb Xb qk ck (blks 0 gs))) := by
  obtain ⟨H1, hH1⟩ : ∃ H1, H1 = H ++ [some (⟨[.bool t.1, .bool t.2.1, .bool t.2.2.1, .bool t.2.2.2.1, .bool t.2.2.2.2], false, 0⟩ : Blk)] := ⟨_, rfl⟩
  have o1 : Old H.length H H1 := hH1 ▸ Old.app _ _
  have O1 : Owns H1 H.length [.bool t.1, .bool t.2.1, .bool t.2.2.1, .bool t.2.2.2.1, .bool t.2.2.2.2] 0 := by rw [hH1]; exact hblk_new H _
  have l1 : H1.length = H.length + 1 := by rw [hH1]; simp
  by_cases h1 : gs.length = pl.length
  case neg =>
    have he : newE gs pl = 4 := by unfold newE; rw [if_pos (.inl h1)]
    refine ⟨H1, none, fun R K => ?_, o1, .inl ⟨by rw [he]; decide, rfl⟩⟩
    rw [he]
    unfold pkthead_New pkthead_New_b pkthead_New_p0 pkthead_New_p0_b
    exact go_halN hH1 (go_t (bne_iff_ne.2 (by omega)) rfl)
  by_cases h2 : gs.length > 3
  · have he : newE gs pl = 4 := by unfold newE; rw [if_pos (.inr h2)]
    refine ⟨H1, none, fun R K => ?_, o1, .inl ⟨by rw [he]; decide, rfl⟩⟩
    rw [he]
    unfold pkthead_New pkthead_New_b pkthead_New_p0 pkthead_New_p0_b
    exact go_halN hH1 (go_f (bne_eq_false_iff_eq.2 (by omega)) (go_t (decide_eq_true (by omega)) rfl))
  have he0 : newE gs pl = if (gs.zip pl).all okZ then (if sumZ (gs.zip pl) > 65536 then 5 else 0) else 2 := by unfold newE; rw [if_neg (by omega)]
  obtain ⟨zs, hzs⟩ : ∃ zs, zs = gs.zip pl := ⟨_, rfl⟩
  have f1 : zs.map Prod.fst = gs := by rw [hzs]; exact List.map_fst_zip (by omega)
  have f2 : zs.map Prod.snd = pl := by rw [hzs]; exact List.map_snd_zip (by omega)
  have f3 : zs.length = gs.length := by rw [← f1, List.length_map]
  rw [← hzs] at he0
  have hg1 := hg.keep o1
  have hp1 := hp.keep o1
  rw [← f1] at hg hg1
  rw [← f2] at hp hp1
  obtain ⟨H2, e2, o2⟩ := nl1 k (qg := qg) (qp := qp) (cg := cg) (cp := cp) (zs := zs) (by omega) (some ⟨H.length, 0, none⟩) zs.length k 0 0 (by omega) (by omega) (by omega) (by omega) H1 hg1 hp1
  rw [List.drop_zero] at e2
  have o02 : Old H.length H H2 := o1.trans (o2.mono (by omega))
  have l2 := o2.1
  have front : ∀ (R : Type) (K : Option Addr → Int → Heap → Option R), pkthead_New k qg gs.length cg qp pl.length cp t.1 t.2.1 t.2.2.1 t.2.2.2.1 t.2.2.2.2 H K = bif zs.all okZ then (bif decide (sumZ zs > 65536) then K none 5 H2 else (ldB H2 (pad (some ⟨H.length, 0, none⟩) 0) fun t49 => ldB H2 (pad (some ⟨H.length, 0, none⟩) 1) fun t50 => ldB H2 (pad (some ⟨H.length, 0, none⟩) 2) fun t51 => ldB H2 (pad (some ⟨H.length, 0, none⟩) 3) fun t52 => ldB H2 (pad (some ⟨H.length, 0, none⟩) 4) fun t53 => hal H2 [.bool true,.bool false,.bool false,.bool t49,.bool t50,.bool t51,.bool t52,.bool t53,.slice none 0 0,.slice none 0 0,.int .i64 0] fun p54 H55 => pkthead_New_l5 k (fun p57 H58 => K p57 0 H58) k qp zs.length cp p54 qg zs.length cg ((zs.length : Nat) : Int) 0 H55)) else K none 2 H2 := fun R K => by
    have f4 : pl.length = zs.length := by omega
    rw [f4, ← f3]
    unfold pkthead_New pkthead_New_b pkthead_New_p0 pkthead_New_p0_b
    refine go_halN hH1 (go_f (bne_eq_false_iff_eq.2 rfl) (go_f (decide_eq_false (by omega)) ((e2 _ _ _).trans ?_)))
    rw [Int.zero_add]
  cases hk1 : zs.all okZ with
  | false =>
    refine ⟨H2, none, fun R K => ?_, o02, .inl ⟨by rw [he0, hk1]; simp, rfl⟩⟩
    rw [front, hk1, he0, hk1]; rfl
  | true =>
    by_cases hs : sumZ zs > 65536
    · refine ⟨H2, none, fun R K => ?_, o02, .inl ⟨by rw [he0, hk1, if_pos rfl, if_pos hs]; decide, rfl⟩⟩
      rw [front, hk1, he0, hk1, if_pos rfl, if_pos hs]
      exact go_t rfl (go_t (decide_eq_true hs) rfl)
    have O2 := O1.old o2 (by omega)
    obtain ⟨H3, hH3⟩ : ∃ H3, H3 = H2 ++ [some (⟨sP t none 0 0 none 0 0, false, 0⟩ : Blk)] := ⟨_, rfl⟩
    have o3 : Old H2.length H2 H3 := hH3 ▸ Old.app _ _
    have O3 : Owns H3 H2.length (sP t none 0 0 none 0 0) 0 := by rw [hH3]; exact hblk_new H2 _
    have o03 : Old H.length H H3 := o02.trans (o3.mono (by omega))
    have G : PG H.length H2.length H3 t none 0 0 [] none 0 (blks 0 ((zs.map Prod.fst).take 0)) := by
      refine ⟨O3, fun s hs => ?_, fun s hs => ?_, fun s hs a ha => ?_, ?_⟩
      · simp only [List.mem_cons, List.not_mem_nil, or_false] at hs
        rcases hs with rfl | rfl <;> rfl
      · simp only [List.mem_cons, List.not_mem_nil, or_false] at hs
        rcases hs with rfl | rfl
        · exact .nil _ _ _
        · exact .nil _ _ _
      · simp only [List.mem_cons, List.not_mem_nil, or_false] at hs
        rcases hs with rfl | rfl <;> cases ha
      · simp
    have below : ∀ {q : Option Addr} {cs : List Value}, Shows H q cs → ShB H.length H3 q cs := fun {q cs} h => ⟨h.keep o03, by
      rcases h with h | ⟨b, o, full, rfl, h1, _⟩
      · exact .inl h
      · exact .inr fun a ha => by cases ha; exact h1.lt⟩
    obtain ⟨H4, qb, cb, Xb, qk, ck, e4, G4, o4⟩ := nl5 k hk (cg := cg) (cp := cp) (by omega) hk1 (by omega) (by omega) zs.length k 0 (by omega) (by omega) H3 none 0 [] none 0 G (by have := o03.1; omega) (below hg) (below hp)
    rw [f1, f3] at G4
    have hz : newE gs pl = 0 := by rw [he0, hk1, if_pos rfl, if_neg hs]
    refine ⟨H4, some ⟨H2.length, 0, none⟩, fun R K => ?_, o03.trans o4, .inr ⟨hz, _, qb, cb, Xb, qk, ck, rfl, by omega, G4⟩⟩
    rw [front, hk1, hz]
    refine go_t rfl (go_f (decide_eq_false hs) ?_)
    exact go_bp (O2.sees.cell 0) (go_bp (O2.sees.cell 1) (go_bp (O2.sees.cell 2) (go_bp (O2.sees.cell 3) (go_bp (O2.sees.cell 4) (go_halN hH3 (e4 _ _))))))
end Go.Proofs.Ytmanlfonppfhaaa.Sh
