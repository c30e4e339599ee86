/- Scan contains each coefficient once; segments divide the passes: the law's run. -/
import Derived.Test.YtblpaolcgkjcgaaCbPts
import Derived.Test.YtblpaolcgkjcgaaFwN
import Derived.Test.YtblpaolcgkjcgaaSh14
set_option linter.unusedVariables false
set_option linter.unusedSimpArgs false
namespace Go.Proofs.Ytblpaolcgkjcgaa.Sh
open Go.Proofs.Ytblpaolcgkjcgaa.FW
def sn (pts : List (Nat × Nat)) (w i j : Nat) : Value := .bool ((pts.take i).any fun p => p.2 * w + p.1 == j)
theorem orders_l0 (k : Nat) {N : Nat} {q pm : Option Addr} {pts : List (Nat × Nat)} (c : Nat) {bs w h : Nat} (hw : 1 ≤ w ∧ w ≤ 64) (hh : 1 ≤ h ∧ h ≤ 64) (hon : pts.Pairwise (· ≠ ·)) (hin : ∀ p ∈ pts, p.1 < w ∧ p.2 < h) (hlen : pts.length ≤ 4096) (hq : pts.flatMap cells2 = [] ∨ Below N q) (hN : N ≤ bs) (np : Int) : ∀ (m n i : Nat), m < n → pts.length = i + m → ∀ (H : Heap), Shows H q (pts.flatMap cells2) → OwnV H bs (w * h) (sn pts w i) →
    ∃ H', (∀ (R : Type) (KE : Int → Option Addr → Int → Int → Option Addr → Nat → Nat → Heap → Option R) (KR : Bool → Heap → Option R), L_CblkOrders_l0 k KE KR n np pm (w : Int) (h : Int) q pts.length c (some ⟨bs, 0, none⟩) (w * h) (w * h) (i : Int) H = KE np pm w h q pts.length c H') ∧ Old N H H' := by
  intro m
  induction m with
  | zero =>
    intro n i hn hi H hS hO
    obtain ⟨n, rfl⟩ : ∃ n', n = n' + 1 := ⟨n - 1, by omega⟩
    refine ⟨H, fun R KE KR => ?_, .refl _ _⟩
    have ed : decide ((i : Int) < ((pts.length : Nat) : Int)) = false := by simp; omega
    simp only [L_CblkOrders_l0, L_CblkOrders_l0_b, ed, cond_false]
  | succ m ih =>
    intro n i hn hi H hS hO
    obtain ⟨n, rfl⟩ : ∃ n', n = n' + 1 := ⟨n - 1, by omega⟩
    have ho : pts[i]? = some pts[i] := List.getElem?_eq_getElem (by omega)
    generalize hpt : pts[i] = p at ho
    obtain ⟨x, y⟩ := p
    have hxy := hin _ (List.mem_of_getElem? ho)
    simp only at hxy
    obtain ⟨pa, e1, mm, _⟩ := hS.idx (l := pts.length) (size := 2) (by rw [cells2_len]; exact Nat.le_refl _) (i := i) (by omega) (by omega) (by omega)
    have l1 : ∀ (R : Type) (K : Int → Option R), ldI .i64 H (pad pa 0) K = K x := fun R K => ldI_of (mm 0 _ (by rw [Int.toNat_natCast, cells2_get pts i 0 _ ho (by omega)]; rfl) (by omega)) rfl K
    have l2 : ∀ (R : Type) (K : Int → Option R), ldI .i64 H (pad pa 1) K = K y := fun R K => ldI_of (mm 1 _ (by rw [Int.toNat_natCast, cells2_get pts i 1 _ ho (by omega)]; rfl) (by omega)) rfl K
    obtain ⟨H1, H2, e2, e3, B, o2, n2⟩ := hal_st H [.int .i64 0, .int .i64 0] [.int .i64 (x : Int), .int .i64 (y : Int)] rfl rfl
    have O2 := hO.keep o2
    have hb := Owns.lt hO
    have m0 : ∀ (R : Type) (K : Int → Option R), ldI .i64 H2 (some ⟨H.length, 0, none⟩) K = K x := fun R K => ldI_of (by rw [Owns.at B]; rfl) rfl K
    have m1 : ∀ (R : Type) (K : Int → Option R), ldI .i64 H2 (some ⟨H.length, 1, none⟩) K = K y := fun R K => ldI_of (by rw [Owns.at B]; rfl) rfl K
    have hlt : y * w + x < w * h := by
      have := Nat.mul_le_mul_right w (show y + 1 ≤ h by omega)
      rw [Nat.add_mul, Nat.one_mul, Nat.mul_comm h w] at this; omega
    have hwh : w * h ≤ 64 * 64 := Nat.mul_le_mul hw.2 hh.2
    have hyw : y * w ≤ 64 * 64 := Nat.mul_le_mul (by omega) hw.2
    have f1 : IntKind.wrap .i64 ((y : Int) * (w : Int)) = ((y * w : Nat) : Int) := by rw [← Int.natCast_mul]; exact w64 (by omega) (by omega)
    have f2 : IntKind.wrap .i64 (((y * w : Nat) : Int) + (x : Int)) = ((y * w + x : Nat) : Int) := by rw [w64 (by omega) (by omega)]; rfl
    have x1 : ∀ (R : Type) (K : Option Addr → Option R), hidx (some ⟨bs, 0, none⟩) (w * h) ((y * w + x : Nat) : Int) 1 K = K (some ⟨bs, y * w + x, none⟩) := fun R K => by rw [hidx_1 bs _ 0 _ (by omega) (by omega), Int.toNat_natCast, Nat.zero_add]
    have ls : ∀ (R : Type) (K : Bool → Option R), ldB H2 (some ⟨bs, y * w + x, none⟩) K = K false := fun R K => ldB_of (by
      rw [O2.cell hlt]
      unfold sn
      rw [not_before hon (fun p hp => (hin p hp).1) ho]) K
    obtain ⟨H3, e4, O3, b3, n3⟩ := O2.put hlt (.bool true)
    have O3' : OwnV H3 bs (w * h) (sn pts w (i + 1)) := O3.congr fun j hj => by
      unfold sn
      rw [List.take_add_one, ho]
      simp only [Option.toList_some, List.any_append, List.any_cons, List.any_nil, Bool.or_false]
      split
      · rename_i e; subst e; simp
      · rename_i e
        have : (y * w + x == j) = false := by simpa using fun hh : y * w + x = j => e hh.symm
        rw [this, Bool.or_false]
    have oN : Old N H H3 := (o2.mono (by omega)).trans (b3.old hN (by omega))
    obtain ⟨H', i1, i2⟩ := ih n (i + 1) (by omega) (by omega) H3 (hS.old oN hq) O3'
    refine ⟨H', fun R KE KR => ?_, oN.trans i2⟩
    have ed : decide ((i : Int) < ((pts.length : Nat) : Int)) = true := by simp; omega
    have ew : IntKind.wrap .i64 ((i : Int) + 1) = ((i + 1 : Nat) : Int) := by rw [w64 (by omega) (by omega)]; rfl
    have d1 : decide ((x : Int) < 0) = false := decide_eq_false (by omega)
    have d2 : decide ((x : Int) ≥ (w : Int)) = false := decide_eq_false (by omega)
    have d3 : decide ((y : Int) < 0) = false := decide_eq_false (by omega)
    have d4 : decide ((y : Int) ≥ (h : Int)) = false := decide_eq_false (by omega)
    simp only [L_CblkOrders_l0, L_CblkOrders_l0_b, L_CblkOrders_p1, L_CblkOrders_p1_b, ed, cond_true, cond_false, e1, l1, l2, e2, e3, hfad, Nat.zero_add, Nat.add_zero, m0, m1, d1, d2, d3, d4, f1, f2, x1, ls, e4, ew, i1]
section
variable {N : Nat} {bm : Nat} {t1 t2 t3 t4 t5 : Bool}
abbrev Md (H : Heap) (bm : Nat) (t1 t2 t3 t4 t5 : Bool) : Prop := Sees H bm [.bool t1, .bool t2, .bool t3, .bool t4, .bool t5]
theorem md_lds {H : Heap} (h : Md H bm t1 t2 t3 t4 t5) (R : Type) (K : Bool → Option R) : ldB H (some ⟨bm, 0, none⟩) K = K t1 ∧ ldB H (some ⟨bm, 1, none⟩) K = K t2 ∧ ldB H (some ⟨bm, 2, none⟩) K = K t3 ∧ ldB H (some ⟨bm, 3, none⟩) K = K t4 ∧ ldB H (some ⟨bm, 4, none⟩) K = K t5 :=
  ⟨ldB_of (by simp [pcell, h.cell]) K, ldB_of (by simp [pcell, h.cell]) K, ldB_of (by simp [pcell, h.cell]) K, ldB_of (by simp [pcell, h.cell]) K, ldB_of (by simp [pcell, h.cell]) K⟩
theorem orders_l4 (k : Nat) {qs : Option Addr} {ls : Nat} (cs : Nat) {xs : List Int} (q : Option Addr) (l c : Nat) (w h np : Int) (hm : bm < N) (hqb : Below N qs) (hls : ls = xs.length) {j : Nat} {s : Int} (hs : xs[j]? = some s) (hsb : 1 ≤ s ∧ s ≤ 178) {at_ : Int} (hat : 0 ≤ at_ ∧ at_ ≤ 178) : ∀ (m n : Nat) (t : Int), m < n → at_ + s = t + m → at_ ≤ t → rng at_ t t1 m = true → ∀ (H : Heap), Md H bm t1 t2 t3 t4 t5 → Shows H qs (ints xs) → N ≤ H.length →
    ∃ H', (∀ (R : Type) (KE : Option Addr → Int → Int → Option Addr → Nat → Nat → Int → Option Addr → Nat → Nat → Int → Int → Heap → Option R) (KR : Bool → Heap → Option R), L_CblkOrders_l4 k KE KR n (some ⟨bm, 0, none⟩) w h q l c np qs ls cs at_ (j : Int) t H = KE (some ⟨bm, 0, none⟩) w h q l c np qs ls cs at_ j H') ∧ Old N H H' := by
  have hj : j < xs.length := (List.getElem?_eq_some_iff.1 hs).1
  have rd : ∀ (H : Heap), Shows H qs (ints xs) → ∃ p, (∀ (R : Type) (K : Option Addr → Option R), hidx qs ls (j : Int) 1 K = K p) ∧ ∀ (R : Type) (K : Int → Option R), ldI .i64 H p K = K s := fun H hS => by
    obtain ⟨p, e1, _, mm⟩ := hS.idx (l := ls) (size := 1) (by simp [ints, hls]) (i := j) (by omega) (by omega) (by omega)
    exact ⟨p, e1, fun R K => ldI_of (mm _ (by simp [ints, hs])) rfl K⟩
  intro m
  induction m with
  | zero =>
    intro n t hn ht hle hr H hM hS hN
    obtain ⟨n, rfl⟩ : ∃ n', n = n' + 1 := ⟨n - 1, by omega⟩
    obtain ⟨p, e1, l1⟩ := rd H hS
    refine ⟨H, fun R KE KR => ?_, .refl _ _⟩
    have ew : IntKind.wrap .i64 (at_ + s) = at_ + s := w64 (by omega) (by omega)
    have ed : decide (t < at_ + s) = false := by simp; omega
    simp only [L_CblkOrders_l4, L_CblkOrders_l4_b, e1, l1, ew, ed, cond_false]
  | succ m ih =>
    intro n t hn ht hle hr H hM hS hN
    obtain ⟨n, rfl⟩ : ∃ n', n = n' + 1 := ⟨n - 1, by omega⟩
    obtain ⟨p, e1, l1⟩ := rd H hS
    simp only [rng, Bool.and_eq_true, beq_iff_eq] at hr
    obtain ⟨Hx, e2, _⟩ := Raw_eq (k := k) (n := t) (by omega) (by omega) t1 t2 t3 t4 t5 (roH H)
    obtain ⟨H1, e3, o3⟩ := Raw_eq (k := k) (n := at_) (by omega) (by omega) t1 t2 t3 t4 t5 H
    have oN := o3.mono hN
    obtain ⟨H', i1, i2⟩ := ih n (t + 1) (by omega) (by omega) (by omega) hr.2 H1 (hM.old oN hm) (hS.old oN (.inr hqb)) (by have := o3.1; omega)
    refine ⟨H', fun R KE KR => ?_, oN.trans i2⟩
    have ew : IntKind.wrap .i64 (at_ + s) = at_ + s := w64 (by omega) (by omega)
    have ed : decide (t < at_ + s) = true := by simp; omega
    have ew2 : IntKind.wrap .i64 (t + 1) = t + 1 := w64 (by omega) (by omega)
    have hb : (rw' t t1 == rw' at_ t1) = true := by rw [hr.1]; simp
    simp only [L_CblkOrders_l4, L_CblkOrders_l4_b, e1, l1, ew, ed, cond_true, cond_false, pad_some, Nat.zero_add, md_lds hM, e2, e3, hb, Bool.not_true, ew2, i1]
theorem orders_l2 (k : Nat) (hk : 200 < k) {qs : Option Addr} {ls : Nat} (cs : Nat) {xs : List Int} (q : Option Addr) (l c : Nat) (w h : Int) {np : Int} (hnp : np ≤ 178) (hm : bm < N) (hqb : Below N qs) (hls : ls = xs.length) : ∀ (m n j : Nat) (at_ : Int), m < n → ls = j + m → 0 ≤ at_ → walk np t1 at_ (xs.drop j) = true → ls ≤ 1000 → ∀ (H : Heap), Md H bm t1 t2 t3 t4 t5 → Shows H qs (ints xs) → N ≤ H.length →
    ∃ H', (∀ (R : Type) (KE : Option Addr → Int → Int → Option Addr → Nat → Nat → Int → Option Addr → Nat → Nat → Int → Heap → Option R) (KR : Bool → Heap → Option R), L_CblkOrders_l2 k KE KR n (some ⟨bm, 0, none⟩) w h q l c np qs ls cs at_ (j : Int) H = KE (some ⟨bm, 0, none⟩) w h q l c np qs ls cs np H') ∧ Old N H H' := by
  intro m
  induction m with
  | zero =>
    intro n j at_ hn hj h0 hwk hl H hM hS hN
    obtain ⟨n, rfl⟩ : ∃ n', n = n' + 1 := ⟨n - 1, by omega⟩
    rw [List.drop_of_length_le (by omega)] at hwk
    simp only [walk, beq_iff_eq] at hwk
    subst hwk
    refine ⟨H, fun R KE KR => ?_, .refl _ _⟩
    have ed : decide ((j : Int) < ((ls : Nat) : Int)) = false := by simp; omega
    simp only [L_CblkOrders_l2, L_CblkOrders_l2_b, ed, cond_false]
  | succ m ih =>
    intro n j at_ hn hj h0 hwk hl H hM hS hN
    obtain ⟨n, rfl⟩ : ∃ n', n = n' + 1 := ⟨n - 1, by omega⟩
    have hjl : j < xs.length := by omega
    rw [List.drop_eq_getElem_cons hjl] at hwk
    have hs : xs[j]? = some xs[j] := List.getElem?_eq_getElem hjl
    generalize xs[j] = s at hwk hs
    simp only [walk, Bool.and_eq_true, decide_eq_true_eq] at hwk
    obtain ⟨w1, w2, w3, w4⟩ := hwk
    obtain ⟨p, e1, _, mm⟩ := hS.idx (l := ls) (size := 1) (by simp [ints, hls]) (i := j) (by omega) (by omega) (by omega)
    have l1 : ∀ (R : Type) (K : Int → Option R), ldI .i64 H p K = K s := fun R K => ldI_of (mm _ (by simp [ints, hs])) rfl K
    obtain ⟨H1, e2, o2⟩ := orders_l4 k (N := N) cs q l c w h np hm hqb hls hs (by omega) (at_ := at_) (by omega) s.toNat k at_ (by omega) (by omega) (by omega) w3 H hM hS hN
    have hS1 := hS.old o2 (.inr hqb)
    obtain ⟨p1, e3, _, mm1⟩ := hS1.idx (l := ls) (size := 1) (by simp [ints, hls]) (i := j) (by omega) (by omega) (by omega)
    have l3 : ∀ (R : Type) (K : Int → Option R), ldI .i64 H1 p1 K = K s := fun R K => ldI_of (mm1 _ (by simp [ints, hs])) rfl K
    have hpp : p1 = p := by have := (e3 _ some).symm.trans (e1 _ some); cases this; rfl
    subst hpp
    obtain ⟨H', i1, i2⟩ := ih n (j + 1) (at_ + s) (by omega) (by omega) (by omega) w4 hl H1 (hM.old o2 hm) hS1 (by have := o2.1; omega)
    refine ⟨H', fun R KE KR => ?_, o2.trans i2⟩
    have ed : decide ((j : Int) < ((ls : Nat) : Int)) = true := by simp; omega
    have ew : IntKind.wrap .i64 (at_ + s) = at_ + s := w64 (by omega) (by omega)
    have ew2 : IntKind.wrap .i64 ((j : Int) + 1) = ((j + 1 : Nat) : Int) := by rw [w64 (by omega) (by omega)]; rfl
    have d1 : decide (s < 1) = false := by simp; omega
    have d2 : decide (at_ + s > np) = false := by simp; omega
    simp only [L_CblkOrders_l2, L_CblkOrders_l2_b, L_CblkOrders_p3, L_CblkOrders_p3_b, ed, cond_true, e1, l1, d1, cond_false, ew, d2, e2]
    simp only [l3, ew, ew2, i1]
theorem orders_l6 (k : Nat) {H : Heap} {q1 q2 : Option Addr} {a b : Nat} (c1 c2 : Nat) {xs ys : List Int} (np : Int) (h1 : Shows H q1 (ints xs)) (h2 : Shows H q2 (ints ys)) (ha : a = xs.length) (hb : b = ys.length) (R : Type) (KE : Int → Option R) (KR : Bool → Option R) : ∀ (m n j : Nat), m < n → a ≤ j + 1 + m → a ≤ 1000 → j ≤ 1000 → pre (xs.drop j) (ys.drop j) = true →
    L_CblkOrders_l6 k KE KR n np q1 a c1 q2 b c2 (j : Int) H = KE np := by
  intro m
  induction m with
  | zero =>
    intro n j hn hj hl hj2 hp
    obtain ⟨n, rfl⟩ : ∃ n', n = n' + 1 := ⟨n - 1, by omega⟩
    have ew2 : IntKind.wrap .i64 ((j : Int) + 1) = (j : Int) + 1 := w64 (by omega) (by omega)
    have ed : decide ((j : Int) + 1 < ((a : Nat) : Int)) = false := by simp; omega
    simp only [L_CblkOrders_l6, L_CblkOrders_l6_b, ew2, ed, cond_false]
  | succ m ih =>
    intro n j hn hj hl hj2 hp
    obtain ⟨n, rfl⟩ : ∃ n', n = n' + 1 := ⟨n - 1, by omega⟩
    have ew2 : IntKind.wrap .i64 ((j : Int) + 1) = (j : Int) + 1 := w64 (by omega) (by omega)
    by_cases c : j + 1 < a
    · have ed : decide ((j : Int) + 1 < ((a : Nat) : Int)) = true := by simp; omega
      rw [List.drop_eq_getElem_cons (show j < xs.length by omega), List.drop_eq_getElem_cons (show j + 1 < xs.length by omega)] at hp
      have hjb : j < ys.length := by
        rcases Nat.lt_or_ge j ys.length with h | h
        · exact h
        · rw [List.drop_of_length_le h] at hp; simp [pre] at hp
      rw [List.drop_eq_getElem_cons hjb] at hp
      simp only [pre, Bool.and_eq_true, beq_iff_eq] at hp
      obtain ⟨hp1, hp2⟩ := hp
      rw [← List.drop_eq_getElem_cons] at hp2
      obtain ⟨p1, e1, _, mm1⟩ := h1.idx (l := a) (size := 1) (by simp [ints, ha]) (i := j) (by omega) (by omega) (by omega)
      obtain ⟨p2, e2, _, mm2⟩ := h2.idx (l := b) (size := 1) (by simp [ints, hb]) (i := j) (by omega) (by omega) (by omega)
      have l1 : ∀ (K : Int → Option R), ldI .i64 H p1 K = K xs[j] := fun K => ldI_of (mm1 _ (by simp [ints])) rfl K
      have l2 : ∀ (K : Int → Option R), ldI .i64 H p2 K = K ys[j] := fun K => ldI_of (mm2 _ (by simp [ints])) rfl K
      have d1 : decide ((j : Int) ≥ ((b : Nat) : Int)) = false := by simp; omega
      have d2 : (ys[j] != xs[j]) = false := by rw [hp1]; simp
      have hc : ((j : Int) + 1) = ((j + 1 : Nat) : Int) := rfl
      simp only [L_CblkOrders_l6, L_CblkOrders_l6_b, L_CblkOrders_p7, L_CblkOrders_p7_b, ew2, ed, cond_true, d1, cond_false, e1, e2, l1, l2, d2]
      rw [hc]
      exact ih n (j + 1) (by omega) (by omega) hl (by omega) hp2
    · have ed : decide ((j : Int) + 1 < ((a : Nat) : Int)) = false := by simp; omega
      simp only [L_CblkOrders_l6, L_CblkOrders_l6_b, ew2, ed, cond_false]
end
theorem walk_len (n : Int) (t1 : Bool) : ∀ (xs : List Int) (at_ : Int), walk n t1 at_ xs = true → at_ + xs.length ≤ n := by
  intro xs
  induction xs with
  | nil => intro at_ h; simp only [walk, beq_iff_eq] at h; simp; omega
  | cons x xs ih =>
    intro at_ h
    simp only [walk, Bool.and_eq_true, decide_eq_true_eq] at h
    have := ih _ h.2.2.2
    simp only [List.length_cons]; omega
theorem orders_in (H : Heap) (us : List Value) (h : AllLies H [(.pair (.int .u8) (.pair (.int .u8) .nil), true), (.int .u8, false), (.pair .bool (.pair .bool (.pair .bool (.pair .bool (.pair .bool .nil)))), true)] us) : L_CblkOrders_c Bool 10000 us H asB = some true := by
  obtain ⟨cs, _, rfl, hs, hh⟩ := lies_agg h
  obtain ⟨np, _, rfl, wn, hh2⟩ := lies_int hh
  obtain ⟨ms, _, rfl, hm, hh3⟩ := lies_agg hh2
  cases lies_nil hh3
  obtain ⟨x, y, rfl, ⟨a, rfl, ha⟩, x2, y2, rfl, ⟨b, rfl, hb⟩, hn⟩ := hs
  have hn' : y2 = [] := hn
  subst hn'
  obtain ⟨x, y, rfl, ⟨t1, rfl⟩, x2, y2, rfl, ⟨t2, rfl⟩, x3, y3, rfl, ⟨t3, rfl⟩, x4, y4, rfl, ⟨t4, rfl⟩, x5, y5, rfl, ⟨t5, rfl⟩, hn⟩ := hm
  have hn' : y5 = [] := hn
  subst hn'
  have u8 : ∀ n : Int, (Lit.int .u8 n).wf = true → 0 ≤ n ∧ n ≤ 255 := fun n h => by
    simp only [Lit.wf, IntKind.min, IntKind.max, IntKind.signed, IntKind.bits, Bool.and_eq_true, decide_eq_true_eq, Bool.false_eq_true, if_false] at h
    exact ⟨by omega, by omega⟩
  have ra := u8 a ha
  have rb := u8 b hb
  have rn := u8 np wn
  show L_CblkOrders 10000 a b np t1 t2 t3 t4 t5 H (fun t H => asB (.bool t) H) = some true
  obtain ⟨p1, H1, e1, rfl, g1, o1, n1⟩ := hal_of H [.int .u8 a, .int .u8 b]
  obtain ⟨p2, H2, e2, rfl, g2, o2, n2⟩ := hal_of H1 [.bool t1, .bool t2, .bool t3, .bool t4, .bool t5]
  have s1 := (Owns.sees g1).old o2 (by omega)
  have la : ∀ (R : Type) (K : Int → Option R), ldI .u8 H2 (some ⟨H.length, 0, none⟩) K = K a := fun R K => ldI_of (by simp [pcell, s1.cell]) rfl K
  have lb : ∀ (R : Type) (K : Int → Option R), ldI .u8 H2 (some ⟨H.length, 1, none⟩) K = K b := fun R K => ldI_of (by simp [pcell, s1.cell]) rfl K
  have x0 : ∀ (R : Type) (K : Option Addr → Option R), hidx (some ⟨H.length, 0, none⟩) 2 0 1 K = K (some ⟨H.length, 0, none⟩) := fun R K => rfl
  have x1 : ∀ (R : Type) (K : Option Addr → Option R), hidx (some ⟨H.length, 0, none⟩) 2 1 1 K = K (some ⟨H.length, 1, none⟩) := fun R K => rfl
  obtain ⟨w, hw⟩ : ∃ w : Nat, IntKind.wrap .i64 (Int.tmod (IntKind.wrap .i64 a) 64 + 1) = w ∧ 1 ≤ w ∧ w ≤ 64 := by
    rw [w64 (n := a) (by omega) (by omega), Int.tmod_eq_emod_of_nonneg (by omega), w64 (by omega) (by omega)]
    exact ⟨(a % 64 + 1).toNat, by omega, by omega, by omega⟩
  obtain ⟨ht, hht⟩ : ∃ ht : Nat, IntKind.wrap .i64 (Int.tmod (IntKind.wrap .i64 b) 64 + 1) = ht ∧ 1 ≤ ht ∧ ht ≤ 64 := by
    rw [w64 (n := b) (by omega) (by omega), Int.tmod_eq_emod_of_nonneg (by omega), w64 (by omega) (by omega)]
    exact ⟨(b % 64 + 1).toNat, by omega, by omega, by omega⟩
  obtain ⟨n, hnn⟩ : ∃ n : Int, IntKind.wrap .i64 (Int.tmod (IntKind.wrap .i64 np) 178 + 1) = n ∧ 1 ≤ n ∧ n ≤ 178 := by
    rw [w64 (n := np) (by omega) (by omega), Int.tmod_eq_emod_of_nonneg (by omega), w64 (by omega) (by omega)]
    exact ⟨_, rfl, by omega, by omega⟩
  have hsz : isz (w : Int) (ht : Int) = true := by unfold isz; simp; omega
  obtain ⟨q, l, c, H3, e3, hS, hl, hqb, o3, hl4⟩ := Scan_eq (k := 10000) (by omega) (w : Int) (ht : Int) H2
  have hsc : scn 10000 (w : Int) (ht : Int) = (qall 9999 w ht 0).flatMap cells2 := by
    unfold scn
    rw [hsz]
    exact qall_cells _ _ _ _
  rw [hsc] at hS hl
  generalize hpts : qall 9999 w ht 0 = pts at hS hl
  have hlen : pts.length = ht * w := by rw [← hpts, qall_len _ _ _ _ (by omega), Nat.sub_zero]
  have hl' : l = pts.length := by rw [cells2_len] at hl; omega
  subst hl'
  have hwh : w * ht ≤ 64 * 64 := Nat.mul_le_mul hw.2.2 hht.2.2
  have hwh2 := hwh
  rw [Nat.mul_comm] at hwh2
  have ewh : IntKind.wrap .i64 ((w : Int) * (ht : Int)) = ((w * ht : Nat) : Int) := by rw [← Int.natCast_mul]; exact w64 (by omega) (by omega)
  obtain ⟨H4, e4, O4, o4, n4⟩ := OwnV.make (bytes := 1) H3 (.bool false) (n := w * ht) (by omega) (by omega)
  have O4' : OwnV H4 H3.length (w * ht) (sn pts w 0) := O4.congr fun j hj => by unfold sn; simp
  obtain ⟨H5, e5, o5⟩ := orders_l0 10000 (N := H3.length) (pm := some ⟨H1.length, 0, none⟩) c (bs := H3.length) hw.2 hht.2 (by rw [← hpts]; exact qall_once _ _ _ _) (fun p hp => by rw [← hpts] at hp; have := qall_mem hp; omega) (by omega) (.inr hqb) (Nat.le_refl _) np pts.length 10000 0 (by omega) (by omega) H4 (hS.old o4 (.inr hqb)) O4'
  have hM2 : Md H2 H1.length t1 t2 t3 t4 t5 := g2.sees
  have hM5 : Md H5 H1.length t1 t2 t3 t4 t5 := ((hM2.old o3 (by omega)).old o4 (by have := o3.1; omega)).old o5 (by have := o3.1; omega)
  obtain ⟨qs, ls, cs, H6, e6, B6, o6⟩ := Segs_eq (k := 10000) (by omega) n t1 t2 t3 t4 t5 H5
  have hchk := chk_of t1 t2 hnn.2.1 hnn.2.2
  unfold chk at hchk
  rw [Bool.and_eq_true] at hchk
  generalize hx : segs t1 t2 10000 n = xs at hchk B6
  have sB6 := B6.shows
  have hls : ls = xs.length := by have := sB6.2; simpa [ints] using this
  have hbl := B6.below
  have hM6 : Md H6 H1.length t1 t2 t3 t4 t5 := hM5.old o6 (by have := o5.1; have := o4.1; have := o3.1; omega)
  have hll : xs.length ≤ 1000 := by
    have h1 := walk_len n t1 xs 0 hchk.1
    omega
  obtain ⟨H7, e7, o7⟩ := orders_l2 10000 (by omega) (N := H6.length) cs q pts.length c (w : Int) (ht : Int) (np := n) (by omega) (by have := hM6.lt; omega) hbl hls ls 10000 0 0 (by omega) (by omega) (by omega) hchk.1 (by omega) H6 hM6 sB6.1 (Nat.le_refl _)
  have hM7 : Md H7 H1.length t1 t2 t3 t4 t5 := hM6.old o7 hM6.lt
  obtain ⟨qt, lt, ct, H8, e8, B8, o8⟩ := Segs_eq (k := 10000) (by omega) (imn (n + 1) 178) t1 t2 t3 t4 t5 H7
  have sB8 := B8.shows
  have hlt : lt = (segs t1 t2 10000 (imn (n + 1) 178)).length := by have := sB8.2; simpa [ints] using this
  have s8 := (sB6.1.old o7 (.inr hbl)).old o8 (.inr (fun a ha => Nat.lt_of_lt_of_le (hbl a ha) o7.1))
  have e9 := fun KE KR => orders_l6 10000 cs ct n s8 sB8.1 hls hlt Bool KE KR ls 10000 0 (by omega) (by omega) (by omega) (by omega) hchk.2
  have rk : Int.tmod n 60 = n % 60 := Int.tmod_eq_emod_of_nonneg (by omega)
  have wk : IntKind.wrap .i64 (3 * (n % 60)) = 3 * (n % 60) := w64 (by omega) (by omega)
  have wk2 : IntKind.wrap .i64 (3 * (n % 60) + 1) = 3 * (n % 60) + 1 := w64 (by omega) (by omega)
  have wk3 : IntKind.wrap .i64 (n % 60 + 1) = n % 60 + 1 := w64 (by omega) (by omega)
  have wk4 : IntKind.wrap .i64 (n + 1) = n + 1 := w64 (by omega) (by omega)
  have P1 := fun (R : Type) => Pass_eq (R := R) (n := 3 * (n % 60)) (by omega) (by omega)
  have P2 := fun (R : Type) => Pass_eq (R := R) (n := 3 * (n % 60) + 1) (by omega) (by omega)
  have v1 : (pl (3 * (n % 60)) == n % 60) = true := by rw [beq_iff_eq]; unfold pl; split <;> (try split) <;> omega
  have v2 : (kd (3 * (n % 60)) == 2) = true := by rw [beq_iff_eq]; unfold kd; split <;> (try split) <;> omega
  have v3 : (pl (3 * (n % 60) + 1) == n % 60 + 1) = true := by rw [beq_iff_eq]; unfold pl; split <;> (try split) <;> omega
  have v4 : (kd (3 * (n % 60) + 1) == 0) = true := by rw [beq_iff_eq]; unfold kd; split <;> (try split) <;> omega
  have b1 : (((pts.length : Nat) : Int) != ((w * ht : Nat) : Int)) = false := by rw [hlen, Nat.mul_comm]; simp
  simp only [Int.natCast_zero] at e5 e7 e9
  unfold L_CblkOrders L_CblkOrders_b
  simp only [e1, e2, x0, x1, la, lb, hw.1, hht.1, hnn.1, e3, ewh, e4, e5, pad_some, Nat.zero_add, md_lds hM5, e6, e7]
  unfold L_CblkOrders_p5 L_CblkOrders_p5_b
  simp only [bne_self_eq_false, cond_false, ewh, b1, pad_some, Nat.zero_add, md_lds hM7, wk4, e8, e9, rk, wk, wk2, wk3, P1, P2, v1, v2, v3, v4, cond_true]
  rfl
end Go.Proofs.Ytblpaolcgkjcgaa.Sh
