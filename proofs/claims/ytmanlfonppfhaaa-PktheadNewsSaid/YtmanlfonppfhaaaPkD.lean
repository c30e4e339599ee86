/- Pkthead: the reference's New. -/
import Derived.Test.YtmanlfonppfhaaaSh1
import Derived.Test.YtmanlfonppfhaaaPkC
set_option linter.unusedVariables false
set_option linter.unusedSimpArgs false
namespace Go.Proofs.Ytmanlfonppfhaaa.Sh
open Go.Proofs.Ytmanlfonppfhaaa.FW Go.IntWalk
theorem rp2_eq {k : Nat} {H : Heap} {b : Nat} {x y : Int} (m0 : hcell H b 0 = some (.int .i64 x)) (m1 : hcell H b 1 = some (.int .i64 y)) (q1 : Option Addr) (l2 c3 : Nat) (q4 : Option Addr) (l5 c6 : Nat) (p7 : Option Addr) (n8 n9 : Int) (R : Type) (K : Option Addr → Nat → Nat → Option Addr → Nat → Nat → Option Addr → Int → Int → Option Addr → Bool → Option R) :
    R26_New_p2 k q1 l2 c3 q4 l5 c6 p7 n8 n9 (some ⟨b, 0, none⟩) H K = K q1 l2 c3 q4 l5 c6 p7 n8 n9 (some ⟨b, 0, none⟩) (decide (x = 0 ∧ y = 0)) := by
  unfold R26_New_p2 R26_New_p2_b
  refine go_fad (go_i m0 ?_)
  by_cases hx : x = 0
  · refine go_t (beq_iff_eq.2 hx) (go_fad (go_i m1 ?_))
    rw [show decide (x = 0 ∧ y = 0) = (y == 0) from by simp [hx]; rfl]
  · rw [show decide (x = 0 ∧ y = 0) = false from decide_eq_false (fun h => hx h.1)]
    exact go_f (beq_eq_false_iff_ne.2 hx) rfl
theorem rp3_eq {k : Nat} {H : Heap} {b : Nat} {x y : Int} (m0 : hcell H b 0 = some (.int .i64 x)) (m1 : hcell H b 1 = some (.int .i64 y)) {qp pv : Option Addr} {lp cp : Nat} {i v : Int} (ep : ∀ (R : Type) (K : Option Addr → Option R), hidx qp lp i 1 K = K pv) (ev : ∀ (R : Type) (K : Int → Option R), ldI .i64 H pv K = K v) (q1 : Option Addr) (l2 c3 : Nat) (p7 : Option Addr) (n8 : Int) (t : Bool) (R : Type) (K : Option Addr → Nat → Nat → Option Addr → Nat → Nat → Option Addr → Int → Int → Option Addr → Option R) (KR : Option Addr → Int → Option R) :
    R26_New_p3 k q1 l2 c3 qp lp cp p7 n8 i (some ⟨b, 0, none⟩) t H K KR = bif (t || decide (1 ≤ x ∧ x ≤ 4096 ∧ 1 ≤ y ∧ y ≤ 4096)) && decide (0 ≤ v ∧ v ≤ 60) then K q1 l2 c3 qp lp cp p7 n8 i (some ⟨b, 0, none⟩) else KR none 2 := by
  unfold R26_New_p3 R26_New_p3_b
  have key : ∀ (A : Option R), (hidx qp lp i 1 fun p18 => ldI .i64 H p18 fun n19 => bif decide (n19 < 0) then (KR none 2) else (hidx qp lp i 1 fun p20 => ldI .i64 H p20 fun n21 => bif decide (n21 > 60) then (KR none 2) else A)) = bif decide (0 ≤ v ∧ v ≤ 60) then A else KR none 2 := fun A => by
    refine (ep _ _).trans ((ev _ _).trans ?_)
    by_cases h1 : v < 0
    · rw [decide_eq_false (show ¬ (0 ≤ v ∧ v ≤ 60) from fun h => by omega)]
      exact go_t (decide_eq_true h1) rfl
    refine go_f (decide_eq_false h1) ((ep _ _).trans ((ev _ _).trans ?_))
    by_cases h2 : v > 60
    · rw [decide_eq_false (show ¬ (0 ≤ v ∧ v ≤ 60) from fun h => by omega)]
      exact go_t (decide_eq_true h2) rfl
    · rw [decide_eq_true (show 0 ≤ v ∧ v ≤ 60 from by omega)]
      exact go_f (decide_eq_false h2) rfl
  cases t with
  | true => exact key _
  | false =>
    refine go_t rfl (go_fad (go_i m0 ?_))
    rw [Bool.false_or]
    by_cases h1 : x < 1
    · rw [decide_eq_false (show ¬ (1 ≤ x ∧ x ≤ 4096 ∧ 1 ≤ y ∧ y ≤ 4096) from fun h => by omega)]
      exact go_t (decide_eq_true h1) rfl
    refine go_f (decide_eq_false h1) (go_fad (go_i m0 ?_))
    by_cases h2 : x > 4096
    · rw [decide_eq_false (show ¬ (1 ≤ x ∧ x ≤ 4096 ∧ 1 ≤ y ∧ y ≤ 4096) from fun h => by omega)]
      exact go_t (decide_eq_true h2) rfl
    refine go_f (decide_eq_false h2) (go_fad (go_i m1 ?_))
    by_cases h3 : y < 1
    · rw [decide_eq_false (show ¬ (1 ≤ x ∧ x ≤ 4096 ∧ 1 ≤ y ∧ y ≤ 4096) from fun h => by omega)]
      exact go_t (decide_eq_true h3) rfl
    refine go_f (decide_eq_false h3) (go_fad (go_i m1 ?_))
    by_cases h4 : y > 4096
    · rw [decide_eq_false (show ¬ (1 ≤ x ∧ x ≤ 4096 ∧ 1 ≤ y ∧ y ≤ 4096) from fun h => by omega)]
      exact go_t (decide_eq_true h4) rfl
    rw [decide_eq_true (show 1 ≤ x ∧ x ≤ 4096 ∧ 1 ≤ y ∧ y ≤ 4096 from by omega), Bool.true_and]
    exact go_f (decide_eq_false h4) (key _)
theorem rnl1 (k : Nat) {qg qp : Option Addr} {cg cp : Nat} {zs : List Gd} (hl : zs.length ≤ 3) (pm : Option Addr) : ∀ (m n i : Nat) (t : Int), m < n → zs.length = i + m → 0 ≤ t → t ≤ i * 16777216 → ∀ (H : Heap), Shows H qg ((zs.map Prod.fst).flatMap pt) → Shows H qp (ints (zs.map Prod.snd)) →
    ∃ H', (∀ (R : Type) (KE : Option Addr → Nat → Nat → Option Addr → Nat → Nat → Option Addr → Int → Heap → Option R) (KR : Option Addr → Int → Heap → Option R), R26_New_l1 k KE KR n qg zs.length cg qp zs.length cp pm t (i : Int) H = bif (zs.drop i).all okZ then KE qg zs.length cg qp zs.length cp pm (t + sumZ (zs.drop i)) H' else KR none 2 H') ∧ Old H.length H H' := by
  intro m
  induction m with
  | zero =>
    intro n i t hn hj t0 t1 H hg hp
    obtain ⟨n, rfl⟩ : ∃ n', n = n' + 1 := ⟨n - 1, by omega⟩
    refine ⟨H, fun R KE KR => ?_, .refl _ _⟩
    unfold R26_New_l1 R26_New_l1_b
    rw [List.drop_eq_nil_of_le (by omega)]
    exact go_f (decide_eq_false (by omega)) (by rw [show t + sumZ [] = t from by simp [sumZ]]; rfl)
  | succ m ih =>
    intro n i t hn hj t0 t1 H hg hp
    obtain ⟨n, rfl⟩ : ∃ n', n = n' + 1 := ⟨n - 1, by omega⟩
    obtain ⟨z, hz⟩ := ex_get (l := zs) (i := i) (by omega)
    obtain ⟨bb, oo, e1, m0, m1⟩ := pt_at hg (i := i) (g := z.1) (by rw [List.getElem?_map, hz]; rfl)
    rw [List.length_map] at e1
    obtain ⟨H1, hH1⟩ : ∃ H1, H1 = H ++ [some (⟨[.int .i64 z.1.1, .int .i64 z.1.2], false, 0⟩ : Blk)] := ⟨_, rfl⟩
    have o1 : Old H.length H H1 := hH1 ▸ Old.app _ _
    have O1 : Owns H1 H.length [.int .i64 z.1.1, .int .i64 z.1.2] 0 := by rw [hH1]; exact hblk_new H _
    have x0 : hcell H1 H.length 0 = some (.int .i64 z.1.1) := O1.sees.cell 0
    have x1 : hcell H1 H.length 1 = some (.int .i64 z.1.2) := O1.sees.cell 1
    obtain ⟨pv, ep, ev⟩ := int_at (hp.keep o1) (i := i) (x := z.2) (by rw [List.getElem?_map, hz]; rfl)
    rw [List.length_map] at ep
    have hd : (zs.drop i).all okZ = (okZ z && (zs.drop (i + 1)).all okZ) := by rw [drop_cons hz, List.all_cons]
    have hoz : okZ z = ((decide (z.1.1 = 0 ∧ z.1.2 = 0) || decide (1 ≤ z.1.1 ∧ z.1.1 ≤ 4096 ∧ 1 ≤ z.1.2 ∧ z.1.2 ≤ 4096)) && decide (0 ≤ z.2 ∧ z.2 ≤ 60)) := rfl
    have front : ∀ (R : Type) (KE : Option Addr → Nat → Nat → Option Addr → Nat → Nat → Option Addr → Int → Heap → Option R) (KR : Option Addr → Int → Heap → Option R), R26_New_l1 k KE KR (n + 1) qg zs.length cg qp zs.length cp pm t (i : Int) H = bif okZ z then R26_New_l1 k KE KR n qg zs.length cg qp zs.length cp pm (IntKind.wrap .i64 (t + (IntKind.wrap .i64 (z.1.1 * z.1.2)))) (IntKind.wrap .i64 ((i : Int) + 1)) H1 else KR none 2 H1 := fun R KE KR => by
      rw [R26_New_l1]
      unfold R26_New_l1_b
      refine go_t (decide_eq_true (by omega)) ((e1 _ _).trans (go_ip m0 (go_ip m1 (go_halst hH1 rfl rfl ?_))))
      refine (rp2_eq x0 x1 _ _ _ _ _ _ _ _ _ _ _).trans ((rp3_eq x0 x1 ep ev _ _ _ _ _ _ _ _ _).trans ?_)
      rw [← hoz]
      cases okZ z with
      | false => rfl
      | true => exact go_t rfl (go_fad (go_i x0 (go_fad (go_i x1 rfl))))
    cases hk : okZ z with
    | false =>
      refine ⟨H1, fun R KE KR => ?_, o1⟩
      rw [front, hk, hd, hk]; rfl
    | true =>
      have hk' := hk
      unfold okZ at hk'
      simp only [Bool.and_eq_true] at hk'
      have hm := okG_mul hk'.1
      obtain ⟨H2, e2, o2⟩ := ih n (i + 1) (t + z.1.1 * z.1.2) (by omega) (by omega) (by omega) (by push_cast; omega) H1 (hg.keep o1) (hp.keep o1)
      refine ⟨H2, fun R KE KR => ?_, o1.trans (o2.mono o1.1)⟩
      rw [front, hk, hd, hk, w64 (n := z.1.1 * z.1.2) (by omega) (by omega), w64 (n := t + z.1.1 * z.1.2) (by omega) (by omega), w64 (n := (i : Int) + 1) (by omega) (by omega)]
      have hs : t + sumZ (zs.drop i) = t + z.1.1 * z.1.2 + sumZ (zs.drop (i + 1)) := by
        rw [drop_cons hz]; simp [sumZ]; omega
      rw [hs, Bool.true_and]
      exact e2 R KE KR
def rbc (v : Bk) : List Value := [.int .i64 (v.1 : Int), .int .i64 (v.2.1 : Int), .int .i64 (v.2.2 : Int), .bool false, .int .i64 0, .int .i64 0, .int .i64 0, .int .i64 3]
def sR (t : Md) (qv : Option Addr) (lv cv : Nat) (qi : Option Addr) (li ci : Nat) (qm : Option Addr) (lm cm : Nat) (qk : Option Addr) (lk ck : Nat) : List Value := [.bool true, .slice qv lv cv, .bool t.1, .bool t.2.1, .bool t.2.2.1, .bool t.2.2.2.1, .bool t.2.2.2.2, .slice qi li ci, .slice qm lm cm, .slice qk lk ck, .int .i64 0, .bool false, .bool false, .slice none 0 0, .slice none 0 0]
/-- A state of the reference under way. -/
abbrev RG (N b : Nat) (H : Heap) (t : Md) (qv : Option Addr) (lv cv : Nat) (n : Nat) (qi : Option Addr) (ci : Nat) (Xi : List Value) (qm : Option Addr) (cm : Nat) (Xm : List Value) (qk : Option Addr) (ck : Nat) (L : List Bk) : Prop :=
  Gw N b H (sR t qv lv cv qi n ci qm n cm qk L.length ck) [⟨7, 1, qi, n, ci, Xi⟩, ⟨8, 1, qm, n, cm, Xm⟩, ⟨9, 8, qk, L.length, ck, L.flatMap rbc⟩]
section
variable {N b w h : Nat} {t : Md} {qv : Option Addr} {lv cv nn : Nat} {qi : Option Addr} {ci : Nat} {Xi : List Value} {qm : Option Addr} {cm : Nat} {Xm : List Value} {qg : Option Addr} {cg : Nat} {gs : List (Int × Int)} {M : List Bk}
theorem rnl6 (k : Nat) (i : Nat) (hgi : gs[i]? = some ((w : Int), (h : Int))) (hwh : w * h ≤ 65536) (hM : M.length ≤ 65536) (hNb : N ≤ b) (y : Nat) (hy : y < h) : ∀ (m n x : Nat), m < n → w = x + m → ∀ (H : Heap) (qk : Option Addr) (ck : Nat), RG N b H t qv lv cv nn qi ci Xi qm cm Xm qk ck (M ++ blkN i w (y * w + x)) → N ≤ H.length → ShB N H qg (gs.flatMap pt) →
    ∃ H' qk' ck', (∀ (R : Type) (KE : Option Addr → Nat → Nat → Option Addr → Int → Int → Heap → Option R), R26_New_l6 k KE n qg gs.length cg (some ⟨b, 0, none⟩) (i : Int) (y : Int) (x : Int) H = KE qg gs.length cg (some ⟨b, 0, none⟩) (i : Int) (y : Int) H') ∧ RG N b H' t qv lv cv nn qi ci Xi qm cm Xm qk' ck' (M ++ blkN i w ((y + 1) * w)) ∧ Old N H H' := by
  intro m
  induction m with
  | zero =>
    intro n x hn hj H qk ck G hN hg
    obtain ⟨n, rfl⟩ : ∃ n', n = n' + 1 := ⟨n - 1, by omega⟩
    obtain ⟨bb, oo, e1, m0, m1⟩ := pt_at hg.s hgi
    have hjj : y * w + x = (y + 1) * w := by rw [Nat.succ_mul]; omega
    rw [hjj] at G
    refine ⟨H, qk, ck, fun R KE => ?_, G, .refl _ _⟩
    unfold R26_New_l6 R26_New_l6_b
    exact (e1 _ _).trans (go_fad (go_i m0 (go_f (decide_eq_false (by omega)) rfl)))
  | succ m ih =>
    intro n x hn hj H qk ck G hN hg
    obtain ⟨n, rfl⟩ : ∃ n', n = n' + 1 := ⟨n - 1, by omega⟩
    obtain ⟨bb, oo, e1, m0, m1⟩ := pt_at hg.s hgi
    have hjl : (M ++ blkN i w (y * w + x)).length = M.length + (y * w + x) := by rw [List.length_append]; simp [blkN]
    have hyx : y * w + x < w * h := by
      have : (y + 1) * w ≤ h * w := Nat.mul_le_mul_right w hy
      rw [Nat.succ_mul, Nat.mul_comm h w] at this
      omega
    have hmod : (y * w + x) % w = x := by rw [Nat.mul_comm, Nat.mul_add_mod]; exact Nat.mod_eq_of_lt (by omega)
    have hdiv : (y * w + x) / w = y := by rw [Nat.mul_comm, Nat.mul_add_div (by omega), Nat.div_eq_of_lt (by omega), Nat.add_zero]
    have m9 : hcell H b 9 = some (.slice qk (M ++ blkN i w (y * w + x)).length ck) := G.o.sees.cell 9
    obtain ⟨H1, H2, H3, hH1, e2, e3, G3, k3, o3, n3⟩ := Gw.grow (A := [⟨7, 1, qi, nn, ci, Xi⟩, ⟨8, 1, qm, nn, cm, Xm⟩]) (B := []) (bytes := 64) (ec := rbc (i, x, y)) G (by simp) (by simp) rfl (by simp only; omega) hN
    have o3 := OldX.old o3 hNb
    have G3' : RG N b H3 t qv lv cv nn qi ci Xi qm cm Xm (some ⟨H.length + 1, 0, none⟩) unk (M ++ blkN i w (y * w + (x + 1))) := by
      have e1 : M ++ blkN i w (y * w + (x + 1)) = M ++ blkN i w (y * w + x) ++ [(i, x, y)] := by rw [← Nat.add_assoc, blkN_succ, hmod, hdiv, List.append_assoc]
      have e2 : (M ++ blkN i w (y * w + (x + 1))).length = (M ++ blkN i w (y * w + x)).length + 1 := by rw [e1, List.length_append]; rfl
      have e3 : (M ++ blkN i w (y * w + (x + 1))).flatMap rbc = (M ++ blkN i w (y * w + x)).flatMap rbc ++ rbc (i, x, y) := by rw [e1, List.flatMap_append]; simp
      unfold RG
      rw [e2, e3]
      exact G3
    obtain ⟨Ha, qk', ck', ea, Ga, oa⟩ := ih n (x + 1) (by omega) (by omega) H3 _ _ G3' (by omega) (hg.old o3)
    refine ⟨Ha, qk', ck', fun R KE => ?_, Ga, o3.trans oa⟩
    unfold R26_New_l6 R26_New_l6_b
    refine (e1 _ _).trans (go_fad (go_i m0 (go_t (decide_eq_true (by simp only; omega)) (go_nil (go_fad (go_l m9 (go_halN (hH1.trans rfl) ((e2 _ _).trans (go_nil (go_fad ((e3 _ _).trans ?_)))))))))))
    rw [w64 (n := (x : Int) + 1) (by omega) (by omega)]
    exact ea R KE
theorem rnl5 (k : Nat) (hk : 100000 < k) (i : Nat) (hgi : gs[i]? = some ((w : Int), (h : Int))) (hwh : w * h ≤ 65536) (hh : h ≤ 4096) (hw : w ≤ 4096) (hM : M.length ≤ 65536) (hNb : N ≤ b) : ∀ (m n y : Nat), m < n → h = y + m → ∀ (H : Heap) (qk : Option Addr) (ck : Nat), RG N b H t qv lv cv nn qi ci Xi qm cm Xm qk ck (M ++ blkN i w (y * w)) → N ≤ H.length → ShB N H qg (gs.flatMap pt) →
    ∃ H' qk' ck', (∀ (R : Type) (KE : Option Addr → Nat → Nat → Option Addr → Int → Heap → Option R), R26_New_l5 k KE n qg gs.length cg (some ⟨b, 0, none⟩) (i : Int) (y : Int) H = KE qg gs.length cg (some ⟨b, 0, none⟩) (i : Int) H') ∧ RG N b H' t qv lv cv nn qi ci Xi qm cm Xm qk' ck' (M ++ blkN i w (w * h)) ∧ Old N H H' := by
  intro m
  induction m with
  | zero =>
    intro n y hn hj H qk ck G hN hg
    obtain ⟨n, rfl⟩ : ∃ n', n = n' + 1 := ⟨n - 1, by omega⟩
    obtain ⟨bb, oo, e1, m0, m1⟩ := pt_at hg.s hgi
    have hjj : y * w = w * h := by rw [Nat.mul_comm, show y = h from by omega]
    rw [hjj] at G
    refine ⟨H, qk, ck, fun R KE => ?_, G, .refl _ _⟩
    unfold R26_New_l5 R26_New_l5_b
    exact (e1 _ _).trans (go_fad (go_i m1 (go_f (decide_eq_false (by simp only; omega)) rfl)))
  | succ m ih =>
    intro n y hn hj H qk ck G hN hg
    obtain ⟨n, rfl⟩ : ∃ n', n = n' + 1 := ⟨n - 1, by omega⟩
    obtain ⟨bb, oo, e1, m0, m1⟩ := pt_at hg.s hgi
    obtain ⟨H1, qk1, ck1, e2, G1, o1⟩ := rnl6 (cg := cg) k i hgi hwh hM hNb y (by omega) w k 0 (by omega) (by omega) H qk ck G hN hg
    obtain ⟨Ha, qk', ck', ea, Ga, oa⟩ := ih n (y + 1) (by omega) (by omega) H1 _ _ G1 (by have := o1.1; omega) (hg.old o1)
    refine ⟨Ha, qk', ck', fun R KE => ?_, Ga, o1.trans oa⟩
    unfold R26_New_l5 R26_New_l5_b
    refine (e1 _ _).trans (go_fad (go_i m1 (go_t (decide_eq_true (by simp only; omega)) ((e2 _ _).trans ?_))))
    rw [w64 (n := (y : Int) + 1) (by omega) (by omega)]
    exact ea R KE
end
theorem rnl4 (k : Nat) (hk : 100000 < k) {N b : Nat} {t : Md} {qv : Option Addr} {lv cv : Nat} {qg : Option Addr} {cg : Nat} {zs : List Gd} (hl : zs.length ≤ 3) (hok : zs.all okZ = true) (hsum : sumZ zs ≤ 65536) (hNb : N ≤ b) : ∀ (m n i : Nat), m < n → zs.length = i + m → ∀ (H : Heap) (qi : Option Addr) (ci : Nat) (Xi : List Value) (qm : Option Addr) (cm : Nat) (Xm : List Value) (qk : Option Addr) (ck : Nat), RG N b H t qv lv cv i qi ci Xi qm cm Xm qk ck (blks 0 ((zs.map Prod.fst).take i)) → N ≤ H.length → ShB N H qg ((zs.map Prod.fst).flatMap pt) →
    ∃ H' qi' ci' Xi' qm' cm' Xm' qk' ck', (∀ (R : Type) (KE : Option Addr → Heap → Option R), R26_New_l4 k KE n qg (zs.map Prod.fst).length cg (some ⟨b, 0, none⟩) (i : Int) H = KE (some ⟨b, 0, none⟩) H') ∧ RG N b H' t qv lv cv zs.length qi' ci' Xi' qm' cm' Xm' qk' ck' (blks 0 (zs.map Prod.fst)) ∧ Old N H H' := by
  intro m
  induction m with
  | zero =>
    intro n i hn hj H qi ci Xi qm cm Xm qk ck G hN hg
    obtain ⟨n, rfl⟩ : ∃ n', n = n' + 1 := ⟨n - 1, by omega⟩
    have hi : i = zs.length := by omega
    rw [hi, List.take_of_length_le (by rw [List.length_map]; omega)] at G
    refine ⟨H, qi, ci, Xi, qm, cm, Xm, qk, ck, fun R KE => ?_, G, .refl _ _⟩
    unfold R26_New_l4 R26_New_l4_b
    exact go_f (decide_eq_false (by rw [List.length_map]; omega)) rfl
  | succ m ih =>
    intro n i hn hj H qi ci Xi qm cm Xm qk ck G hN hg
    obtain ⟨n, rfl⟩ : ∃ n', n = n' + 1 := ⟨n - 1, by omega⟩
    obtain ⟨z, hz⟩ := ex_get (l := zs) (i := i) (by omega)
    have hgz : (zs.map Prod.fst)[i]? = some z.1 := by rw [List.getElem?_map, hz]; rfl
    have hzo : okG z.1 = true := by
      have := (List.all_eq_true.1 hok) z (List.mem_of_getElem? hz)
      unfold okZ at this
      simp only [Bool.and_eq_true] at this
      exact this.1
    have hm := okG_mul hzo
    have hz4 : z.1.1 ≤ 4096 ∧ z.1.2 ≤ 4096 := by
      unfold okG at hzo
      simp only [Bool.or_eq_true, decide_eq_true_eq] at hzo
      omega
    obtain ⟨w, hw⟩ : ∃ w : Nat, z.1.1 = w := ⟨z.1.1.toNat, by omega⟩
    obtain ⟨h, hh⟩ : ∃ h : Nat, z.1.2 = h := ⟨z.1.2.toNat, by omega⟩
    have hlen := blks_len (all_take hok i) 0
    rw [List.map_take] at hlen
    have hst := sumZ_take hok (i + 1)
    have hst0 := sumZ_take hok i
    have htk : zs.take (i + 1) = zs.take i ++ [z] := take_snoc hz
    have hss : sumZ (zs.take (i + 1)) = sumZ (zs.take i) + z.1.1 * z.1.2 := by rw [htk]; simp [sumZ]
    have hwh : w * h ≤ 65536 := by
      have : ((w * h : Nat) : Int) = z.1.1 * z.1.2 := by rw [hw, hh, Int.natCast_mul]
      omega
    have hMl : (blks 0 ((zs.map Prod.fst).take i)).length ≤ 65536 := by omega
    obtain ⟨b1, u1, e1, x1, y1⟩ := pt_at hg.s hgz
    obtain ⟨p1, H1, n1, o1⟩ := rNew_eq (k := k) (by omega) H z.1.1 z.1.2
    have hg1 := hg.old (o1.mono hN)
    obtain ⟨b2, u2, e2, x2, y2⟩ := pt_at hg1.s hgz
    obtain ⟨p2, H2, n2, o2⟩ := rNew_eq (k := k) (by omega) H1 z.1.1 z.1.2
    have l1 := o1.1
    have l2 := o2.1
    have o02 : Old H.length H H2 := o1.trans (o2.mono (by omega))
    have G2 := G.keep o02
    have m7 : hcell H2 b 7 = some (.slice qi i ci) := G2.o.sees.cell 7
    obtain ⟨H3, H4, H5, hH3, e4, e5, G5, k5, o5, n5⟩ := Gw.grow (A := []) (B := [⟨8, 1, qm, i, cm, Xm⟩, ⟨9, 8, qk, (blks 0 ((zs.map Prod.fst).take i)).length, ck, (blks 0 ((zs.map Prod.fst).take i)).flatMap rbc⟩]) (s := ⟨7, 1, qi, i, ci, Xi⟩) (bytes := 8) (ec := [.pointer p1]) G2 (by simp) (by simp) rfl (by simp only; omega) (by omega)
    have o5' := OldX.old o5 hNb
    have m8 : hcell H5 b 8 = some (.slice qm i cm) := G5.o.sees.cell 8
    obtain ⟨H6, H7, H8, hH6, e7, e8, G8, k8, o8, n8⟩ := Gw.grow (A := [⟨7, 1, some ⟨H2.length + 1, 0, none⟩, i + 1, unk, Xi ++ [.pointer p1]⟩]) (B := [⟨9, 8, qk, (blks 0 ((zs.map Prod.fst).take i)).length, ck, (blks 0 ((zs.map Prod.fst).take i)).flatMap rbc⟩]) (s := ⟨8, 1, qm, i, cm, Xm⟩) (bytes := 8) (ec := [.pointer p2]) G5 (by simp) (by simp) rfl (by simp only; omega) (by omega)
    have o8' := OldX.old o8 hNb
    have o08 : Old N H H8 := (o02.mono hN).trans (o5'.trans o8')
    have G8' : RG N b H8 t qv lv cv (i + 1) (some ⟨H2.length + 1, 0, none⟩) unk (Xi ++ [.pointer p1]) (some ⟨H5.length + 1, 0, none⟩) unk (Xm ++ [.pointer p2]) qk ck (blks 0 ((zs.map Prod.fst).take i) ++ blkN i w (0 * w)) := by
      have : blks 0 ((zs.map Prod.fst).take i) ++ blkN i w (0 * w) = blks 0 ((zs.map Prod.fst).take i) := by simp [blkN]
      unfold RG
      rw [this]
      exact G8
    obtain ⟨H9, qk', ck', e9, G9, o9⟩ := rnl5 k hk i (gs := zs.map Prod.fst) (cg := cg) (by rw [hgz, ← hw, ← hh]) hwh (by omega) (by omega) hMl hNb h k 0 (by omega) (by omega) H8 qk ck G8' (by have := o08.1; omega) (hg.old o08)
    have hbk : blks 0 ((zs.map Prod.fst).take i) ++ blkN i w (w * h) = blks 0 ((zs.map Prod.fst).take (i + 1)) := by
      rw [take_snoc hgz, blks_snoc]
      unfold blkG
      rw [hw, hh]
      simp [Nat.min_eq_left (show i ≤ zs.length by omega)]
    rw [hbk] at G9
    have o09 : Old N H H9 := o08.trans o9
    obtain ⟨Ha, qi2, ci2, Xi2, qm2, cm2, Xm2, qk2, ck2, ea, Ga, oa⟩ := ih n (i + 1) (by omega) (by omega) H9 _ _ _ _ _ _ _ _ G9 (by have := o09.1; omega) (hg.old o09)
    refine ⟨Ha, qi2, ci2, Xi2, qm2, cm2, Xm2, qk2, ck2, fun R KE => ?_, Ga, o09.trans oa⟩
    unfold R26_New_l4 R26_New_l4_b
    refine go_t (decide_eq_true (by rw [List.length_map]; omega)) ((e1 _ _).trans (go_fad (go_i x1 ((e1 _ _).trans (go_fad (go_i y1 ((n1 _ _).trans ?_)))))))
    refine (e2 _ _).trans (go_fad (go_i x2 ((e2 _ _).trans (go_fad (go_i y2 ((n2 _ _).trans ?_))))))
    refine go_nil (go_fad (go_l m7 (go_halN hH3 ((e4 _ _).trans (go_nil (go_fad ((e5 _ _).trans ?_)))))))
    refine go_nil (go_fad (go_l m8 (go_halN hH6 ((e7 _ _).trans (go_nil (go_fad ((e8 _ _).trans ((e9 _ _).trans ?_))))))))
    rw [w64 (n := (i : Int) + 1) (by omega) (by omega)]
    exact ea R KE
theorem hapn_copy {H : Heap} {b : Nat} {q : Option Addr} {xs : List Int} (h : Shows H q (ints xs)) (hl : xs.length ≤ 1000000) : ∃ H' q' c', (∀ (R : Type) (K : Option Addr → Nat → Nat → Heap → Option R), hapnS 1 8 H (some ⟨b, 0, none⟩) 0 0 q xs.length K = K q' xs.length c' H') ∧ Shows H' q' (ints xs) ∧ Old H.length H H' := by
  have hc := h.hcells
  rw [ints_len] at hc
  by_cases h0 : xs.length = 0
  · have : xs = [] := List.eq_nil_of_length_eq_zero h0
    subst this
    refine ⟨H, some ⟨b, 0, none⟩, 0, fun R K => ?_, .inl rfl, .refl _ _⟩
    unfold hapnS hapn
    rw [show ([] : List Int).length * 1 = ([] : List Int).length from rfl, hc]
    dsimp only
    rw [if_neg (by unfold unk; omega)]
    rfl
  · refine ⟨H ++ [some (⟨ints xs, false, 1⟩ : Blk)], some ⟨H.length, 0, none⟩, unk, fun R K => ?_, Sees.shows ⟨_, hblk_new _ _, rfl⟩, Old.app _ _⟩
    unfold hapnS hapn
    rw [Nat.mul_one, hc]
    dsimp only
    have hc2 : FW.hcells H (some ⟨b, 0, none⟩) (0 * 1) = some [] := by unfold FW.hcells; rw [if_pos (by omega)]
    rw [if_neg (by unfold unk; omega), if_neg h0, if_neg (by omega), if_pos (by omega), hc2, Nat.zero_add]
    rfl
theorem rN_eq {k : Nat} (hk : 100000 < k) {H : Heap} {qg qp : Option Addr} {gs : List (Int × Int)} {pl : List Int} (cg cp : Nat) (t : Md) (hg : Shows H qg (gs.flatMap pt)) (hp : Shows H qp (ints pl)) :
    ∃ H' p, (∀ (R : Type) (K : Option Addr → Int → Heap → Option R), R26_New k qg gs.length cg qp pl.length cp t.1 t.2.1 t.2.2.1 t.2.2.2.1 t.2.2.2.2 H K = K p (newE gs pl) H') ∧ Old H.length H H' ∧ ((newE gs pl ≠ 0 ∧ p = none) ∨ (newE gs pl = 0 ∧ ∃ b qv cv qi ci Xi qm cm Xm qk ck, p = some ⟨b, 0, none⟩ ∧ H.length ≤ b ∧ RG H.length b H' t qv pl.length cv gs.length qi ci Xi qm cm Xm qk ck (blks 0 gs))) := by
  obtain ⟨H1, hH1⟩ : ∃ H1, H1 = H ++ [some (⟨[.bool t.1, .bool t.2.1, .bool t.2.2.1, .bool t.2.2.2.1, .bool t.2.2.2.2], false, 0⟩ : Blk)] := ⟨_, rfl⟩
  have o1 : Old H.length H H1 := hH1 ▸ Old.app _ _
  have O1 : Owns H1 H.length [.bool t.1, .bool t.2.1, .bool t.2.2.1, .bool t.2.2.2.1, .bool t.2.2.2.2] 0 := by rw [hH1]; exact hblk_new H _
  have l1 : H1.length = H.length + 1 := by rw [hH1]; simp
  by_cases h1 : gs.length = pl.length
  case neg =>
    have he : newE gs pl = 4 := by unfold newE; rw [if_pos (.inl h1)]
    refine ⟨H1, none, fun R K => ?_, o1, .inl ⟨by rw [he]; decide, rfl⟩⟩
    rw [he]
    unfold R26_New R26_New_b R26_New_p0 R26_New_p0_b
    exact go_halN hH1 (go_t (bne_iff_ne.2 (by omega)) rfl)
  by_cases h2 : gs.length > 3
  · have he : newE gs pl = 4 := by unfold newE; rw [if_pos (.inr h2)]
    refine ⟨H1, none, fun R K => ?_, o1, .inl ⟨by rw [he]; decide, rfl⟩⟩
    rw [he]
    unfold R26_New R26_New_b R26_New_p0 R26_New_p0_b
    exact go_halN hH1 (go_f (bne_eq_false_iff_eq.2 (by omega)) (go_t (decide_eq_true (by omega)) rfl))
  have he0 : newE gs pl = if (gs.zip pl).all okZ then (if sumZ (gs.zip pl) > 65536 then 5 else 0) else 2 := by unfold newE; rw [if_neg (by omega)]
  obtain ⟨zs, hzs⟩ : ∃ zs, zs = gs.zip pl := ⟨_, rfl⟩
  have f1 : zs.map Prod.fst = gs := by rw [hzs]; exact List.map_fst_zip (by omega)
  have f2 : zs.map Prod.snd = pl := by rw [hzs]; exact List.map_snd_zip (by omega)
  have f3 : zs.length = gs.length := by rw [← f1, List.length_map]
  rw [← hzs] at he0
  have hg1 := hg.keep o1
  have hp1 := hp.keep o1
  have hp' := hp
  rw [← f1] at hg hg1
  rw [← f2] at hp hp1
  obtain ⟨H2, e2, o2⟩ := rnl1 k (qg := qg) (qp := qp) (cg := cg) (cp := cp) (zs := zs) (by omega) (some ⟨H.length, 0, none⟩) zs.length k 0 0 (by omega) (by omega) (by omega) (by omega) H1 hg1 hp1
  rw [List.drop_zero] at e2
  have o02 : Old H.length H H2 := o1.trans (o2.mono (by omega))
  have l2 := o2.1
  have front : ∀ (R : Type) (K : Option Addr → Int → Heap → Option R), R26_New k qg gs.length cg qp pl.length cp t.1 t.2.1 t.2.2.1 t.2.2.2.1 t.2.2.2.2 H K = bif zs.all okZ then (bif decide (sumZ zs > 65536) then K none 5 H2 else (hal H2 [] fun p49 H50 => hapnS 1 8 H50 p49 0 0 qp pl.length fun q51 l52 c53 H54 => ldB H54 (pad (some ⟨H.length, 0, none⟩) 0) fun t49 => ldB H54 (pad (some ⟨H.length, 0, none⟩) 1) fun t50 => ldB H54 (pad (some ⟨H.length, 0, none⟩) 2) fun t51 => ldB H54 (pad (some ⟨H.length, 0, none⟩) 3) fun t52 => ldB H54 (pad (some ⟨H.length, 0, none⟩) 4) fun t53 => hal H54 [.bool true,.slice q51 l52 c53,.bool t49,.bool t50,.bool t51,.bool t52,.bool t53,.slice none 0 0,.slice none 0 0,.slice none 0 0,.int .i64 0,.bool false,.bool false,.slice none 0 0,.slice none 0 0] fun p54 H55 => R26_New_l4 k (fun p57 H58 => K p57 0 H58) k qg (zs.map Prod.fst).length cg p54 0 H55)) else K none 2 H2 := fun R K => by
    have f4 : pl.length = zs.length := by omega
    rw [f4, ← f3, List.length_map]
    unfold R26_New R26_New_b R26_New_p0 R26_New_p0_b
    refine go_halN hH1 (go_f (bne_eq_false_iff_eq.2 rfl) (go_f (decide_eq_false (by omega)) ((e2 _ _ _).trans ?_)))
    rw [Int.zero_add]
  cases hk1 : zs.all okZ with
  | false =>
    refine ⟨H2, none, fun R K => ?_, o02, .inl ⟨by rw [he0, hk1]; simp, rfl⟩⟩
    rw [front, hk1, he0, hk1]; rfl
  | true =>
    by_cases hs : sumZ zs > 65536
    · refine ⟨H2, none, fun R K => ?_, o02, .inl ⟨by rw [he0, hk1, if_pos rfl, if_pos hs]; decide, rfl⟩⟩
      rw [front, hk1, he0, hk1, if_pos rfl, if_pos hs]
      exact go_t rfl (go_t (decide_eq_true hs) rfl)
    obtain ⟨Hm, hHm⟩ : ∃ Hm, Hm = H2 ++ [some (⟨[], false, 0⟩ : Blk)] := ⟨_, rfl⟩
    have om : Old H2.length H2 Hm := hHm ▸ Old.app _ _
    have lm : Hm.length = H2.length + 1 := by rw [hHm]; simp
    have o0m : Old H.length H Hm := o02.trans (om.mono (by omega))
    obtain ⟨Hn, qv, cv, en, Sn, on⟩ := hapn_copy (b := H2.length) (hp'.keep o0m) (by omega)
    have ln := on.1
    have o0n : Old H.length H Hn := o0m.trans (on.mono (by omega))
    have O2 := ((O1.old o2 (by omega)).old om (by omega)).old on (by omega)
    obtain ⟨H3, hH3⟩ : ∃ H3, H3 = Hn ++ [some (⟨sR t qv pl.length cv none 0 0 none 0 0 none 0 0, false, 0⟩ : Blk)] := ⟨_, rfl⟩
    have o3 : Old Hn.length Hn H3 := hH3 ▸ Old.app _ _
    have O3 : Owns H3 Hn.length (sR t qv pl.length cv none 0 0 none 0 0 none 0 0) 0 := by rw [hH3]; exact hblk_new Hn _
    have o03 : Old H.length H H3 := o0n.trans (o3.mono (by omega))
    have G : RG H.length Hn.length H3 t qv pl.length cv 0 none 0 [] none 0 [] none 0 (blks 0 ((zs.map Prod.fst).take 0)) := by
      refine ⟨O3, fun s hs => ?_, fun s hs => ?_, fun s hs a ha => ?_, ?_⟩
      · simp only [List.mem_cons, List.not_mem_nil, or_false] at hs
        rcases hs with rfl | rfl | rfl <;> rfl
      · simp only [List.mem_cons, List.not_mem_nil, or_false] at hs
        rcases hs with rfl | rfl | rfl
        · exact .nil _ _ _
        · exact .nil _ _ _
        · exact .nil _ _ _
      · simp only [List.mem_cons, List.not_mem_nil, or_false] at hs
        rcases hs with rfl | rfl | rfl <;> cases ha
      · simp
    have below : ∀ {q : Option Addr} {cs : List Value}, Shows H q cs → ShB H.length H3 q cs := fun {q cs} h => ⟨h.keep o03, by
      rcases h with h | ⟨b, o, full, rfl, h1, _⟩
      · exact .inl h
      · exact .inr fun a ha => by cases ha; exact h1.lt⟩
    obtain ⟨H4, qi, ci, Xi, qm, cm, Xm, qk, ck, e4, G4, o4⟩ := rnl4 k hk (cg := cg) (by omega) hk1 (by omega) (by omega) zs.length k 0 (by omega) (by omega) H3 none 0 [] none 0 [] none 0 G (by have := o03.1; omega) (below hg)
    rw [f1, f3] at G4
    have hz : newE gs pl = 0 := by rw [he0, hk1, if_pos rfl, if_neg hs]
    refine ⟨H4, some ⟨Hn.length, 0, none⟩, fun R K => ?_, o03.trans o4, .inr ⟨hz, _, qv, cv, qi, ci, Xi, qm, cm, Xm, qk, ck, rfl, by omega, G4⟩⟩
    rw [front, hk1, hz]
    refine go_t rfl (go_f (decide_eq_false hs) (go_halN hHm ((en _ _).trans ?_)))
    exact go_bp (O2.sees.cell 0) (go_bp (O2.sees.cell 1) (go_bp (O2.sees.cell 2) (go_bp (O2.sees.cell 3) (go_bp (O2.sees.cell 4) (go_halN hH3 (e4 _ _))))))
end Go.Proofs.Ytmanlfonppfhaaa.Sh
