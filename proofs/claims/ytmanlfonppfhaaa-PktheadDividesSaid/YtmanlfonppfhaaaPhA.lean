/- Pkthead: the segments, in plain terms. -/
import Derived.Test.YtmanlfonppfhaaaSh0
import Derived.Test.YtmanlfonppfhaaaSh10
import Derived.Test.YtmanlfonppfhaaaSh8
import Derived.Test.YtmanlfonppfhaaaFwY
import Derived.Test.YtmanlfonppfhaaaFwO
import Derived.Test.YtmanlfonppfhaaaFwM
import Derived.IntWalk
set_option linter.unusedVariables false
set_option linter.unusedSimpArgs false
namespace Go.Proofs.Ytmanlfonppfhaaa.Sh
open Go.Proofs.Ytmanlfonppfhaaa.FW
theorem wf_64 {a : Int} (h : (Lit.int .i64 a).wf = true) : -9223372036854775808 ≤ a ∧ a ≤ 9223372036854775807 := by
  simp only [Lit.wf, IntKind.min, IntKind.max, IntKind.signed, IntKind.bits, Bool.and_eq_true, decide_eq_true_eq, if_true] at h
  exact ⟨by omega, by omega⟩
theorem w64 {n : Int} (h0 : -9223372036854775808 ≤ n) (h1 : n ≤ 9223372036854775807) : IntKind.wrap .i64 n = n := IntWalk.i64_in n ⟨h0, h1⟩
theorem imn_le {a b : Int} (h : a ≤ b) : imn a b = a := by unfold imn; split <;> omega
theorem imn_ge {a b : Int} (h : b ≤ a) : imn a b = b := by unfold imn; split <;> omega
theorem imn_comm (a b : Int) : imn a b = imn b a := by unfold imn; split <;> split <;> omega
def nx (t1 t2 : Bool) (s : Int) : Int := bif t1 && !t2 then (if s = 2 then 1 else 2) else s
def seg (t1 t2 : Bool) : Nat → Int → Int → List Int
  | 0, _, _ => []
  | f + 1, s, left => if left > 0 then imn s left :: seg t1 t2 f (nx t1 t2 s) (left - imn s left) else []
def ints (l : List Int) : List Value := l.map (.int .i64)
theorem Segs_loop (k : Nat) {b N : Nat} {t1 t2 t3 t4 t5 : Bool} (hbN : b < N) : ∀ (n : Nat) (H : Heap) (q : Option Addr) (l c : Nat) (cs : List Int) (s left : Int), Bld N 1 H q l c (ints cs) → Sees H b [.bool t1, .bool t2, .bool t3, .bool t4, .bool t5] → N ≤ H.length →
    1 ≤ s → s ≤ 178 → 0 ≤ left → left < n → left ≤ 178 → l + left ≤ 1000 → ∃ q' l' c' H', (∀ (R : Type) (KE : Option Addr → Nat → Nat → Heap → Option R), cblk_Segments_l3 k KE n (some ⟨b, 0, none⟩) q l c s left H = KE q' l' c' H') ∧ Bld N 1 H' q' l' c' (ints (cs ++ seg t1 t2 n s left)) ∧ Old N H H' := by
  intro n
  induction n with
  | zero => intros; omega
  | succ n ih =>
    intro H q l c cs s left hB hS hN h1 h2 h3 h4 h5 h6
    by_cases c0 : left > 0
    · obtain ⟨p, H1, e1, hp, g1, g2, g3⟩ := hal_of H [.int .i64 (imn s left)]
      subst hp
      have hB1 := hB.old g2 (Nat.le_refl _)
      obtain ⟨q2, H2, e2, g4, g5, g6⟩ := hB1.app (bytes := 8) (n := 1) (by omega) g1.sees.shows rfl (by omega) (by omega)
      have hS2 := (hS.old g2 (by omega)).old g5 hbN
      have hm1 : 1 ≤ imn s left := by unfold imn; split <;> omega
      have hm2 : imn s left ≤ left := by unfold imn; split <;> omega
      have hcell : ∀ (R : Type) (K : Bool → Option R), ldB H2 (some ⟨b, 0, none⟩) K = K t1 ∧ ldB H2 (some ⟨b, 1, none⟩) K = K t2 := fun R K => ⟨ldB_of (by simp [pcell, hS2.cell]) K, ldB_of (by simp [pcell, hS2.cell]) K⟩
      have hnx : 1 ≤ nx t1 t2 s ∧ nx t1 t2 s ≤ 178 := by unfold nx; cases t1 <;> cases t2 <;> simp <;> (try split) <;> omega
      have g4' : Bld N 1 H2 q2 (l + 1) unk (ints (cs ++ [imn s left])) := by simpa [ints] using g4
      obtain ⟨q', l', c', H', i1, i2, i3⟩ := ih H2 q2 (l + 1) unk (cs ++ [imn s left]) (nx t1 t2 s) (left - imn s left) g4' hS2 (by omega) hnx.1 hnx.2 (by omega) (by omega) (by omega) (by omega)
      refine ⟨q', l', c', H', fun R KE => ?_, ?_, (g2.mono hN).trans (g5.trans i3)⟩
      · refine Eq.trans ?_ (i1 R KE)
        have ed : decide (left > 0) = true := by simpa using c0
        show cblk_Segments_l3_b _ _ _ _ _ _ _ _ _ _ _ = _
        unfold cblk_Segments_l3_b cblk_Segments_p4 cblk_Segments_p4_b
        rw [ed, cond_true, e1, e2]
        simp only [hfad, Nat.zero_add, hcell, w64 (n := left - imn s left) (by omega) (by omega)]
        unfold nx
        cases t1 <;> cases t2 <;> simp
        by_cases c2 : s = 2
        · simp [c2]
        · have : (s == 2) = false := by simpa using c2
          rw [this, cond_false]; simp [c2]
      · have : seg t1 t2 (n + 1) s left = imn s left :: seg t1 t2 n (nx t1 t2 s) (left - imn s left) := by
          show (if left > 0 then _ else _) = _
          rw [if_pos c0]
        rw [this]; simpa using i2
    · refine ⟨q, l, c, H, fun R KE => ?_, ?_, .refl _ _⟩
      · have ed : decide (left > 0) = false := by simpa using c0
        show cblk_Segments_l3_b _ _ _ _ _ _ _ _ _ _ _ = _
        unfold cblk_Segments_l3_b
        rw [ed, cond_false]
      · have : seg t1 t2 (n + 1) s left = [] := by
          show (if left > 0 then _ else _) = _
          rw [if_neg c0]
        rw [this]; simpa using hB
/-- What a size is when so many segments stand. -/
def sz (t1 t2 : Bool) (n : Int) (len : Nat) : Int := if t2 then 1 else if t1 then (if len = 0 then 10 else if len % 2 = 1 then 2 else 1) else n
theorem sz_nx (t1 t2 : Bool) (n : Int) (len : Nat) : nx t1 t2 (sz t1 t2 n len) = sz t1 t2 n (len + 1) := by
  unfold nx sz
  cases t1 <;> cases t2 <;> simp
  by_cases h0 : len = 0
  · simp [h0]
  · by_cases h1 : len % 2 = 1
    · have : ¬ ((len + 1) % 2 = 1) := by omega
      simp [h0, h1, this]
    · have : (len + 1) % 2 = 1 := by omega
      simp [h0, h1, this]
theorem SegsR_loop (k : Nat) {b N : Nat} {t1 t2 t3 t4 t5 : Bool} {top : Int} (ht : top ≤ 178) (hbN : b < N) : ∀ (n : Nat) (H : Heap) (q : Option Addr) (l c : Nat) (cs : List Int) (left : Int), Bld N 1 H q l c (ints cs) → Sees H b [.bool t1, .bool t2, .bool t3, .bool t4, .bool t5] → N ≤ H.length →
    0 ≤ left → left < n → left ≤ top → l + left ≤ 1000 → ∃ q' l' c' H', (∀ (R : Type) (KE : Option Addr → Nat → Nat → Heap → Option R), R14_Segments_l1 k KE n (some ⟨b, 0, none⟩) q l c left H = KE q' l' c' H') ∧ Bld N 1 H' q' l' c' (ints (cs ++ seg t1 t2 n (sz t1 t2 top l) left)) ∧ Old N H H' := by
  intro n
  induction n with
  | zero => intros; omega
  | succ n ih =>
    intro H q l c cs left hB hS hN h3 h4 h5 h6
    by_cases c0 : left > 0
    · have hsz : 1 ≤ sz t1 t2 top l := by unfold sz; repeat' split <;> omega
      have hm1 : 1 ≤ imn (sz t1 t2 top l) left := by unfold imn; split <;> omega
      have hm2 : imn (sz t1 t2 top l) left ≤ left := by unfold imn; split <;> omega
      obtain ⟨p, H1, e1, hp, g1, g2, g3⟩ := hal_of H [.int .i64 (imn (sz t1 t2 top l) left)]
      subst hp
      have hB1 := hB.old g2 (Nat.le_refl _)
      obtain ⟨q2, H2, e2, g4, g5, g6⟩ := hB1.app (bytes := 8) (n := 1) (by omega) g1.sees.shows rfl (by omega) (by omega)
      have hS2 := (hS.old g2 (by omega)).old g5 hbN
      have hcell : ∀ (R : Type) (K : Bool → Option R), ldB H (some ⟨b, 0, none⟩) K = K t1 ∧ ldB H (some ⟨b, 1, none⟩) K = K t2 := fun R K => ⟨ldB_of (by simp [pcell, hS.cell]) K, ldB_of (by simp [pcell, hS.cell]) K⟩
      have g4' : Bld N 1 H2 q2 (l + 1) unk (ints (cs ++ [imn (sz t1 t2 top l) left])) := by simpa [ints] using g4
      obtain ⟨q', l', c', H', i1, i2, i3⟩ := ih H2 q2 (l + 1) unk (cs ++ [imn (sz t1 t2 top l) left]) (left - imn (sz t1 t2 top l) left) g4' hS2 (by omega) (by omega) (by omega) (by omega) (by omega)
      refine ⟨q', l', c', H', fun R KE => ?_, ?_, (g2.mono hN).trans (g5.trans i3)⟩
      · refine Eq.trans ?_ (i1 R KE)
        have ed : decide (left > 0) = true := by simpa using c0
        show R14_Segments_l1_b _ _ _ _ _ _ _ _ _ _ = _
        unfold R14_Segments_l1_b
        rw [ed, cond_true]
        have step : ∀ (KN : Option Addr → Option Addr → Nat → Nat → Int → Int → Option R), R14_Segments_p2 k (some ⟨b, 0, none⟩) q l c left left H KN = KN (some ⟨b, 0, none⟩) q l c left (imn (sz t1 t2 top l) left) := by
          intro KN
          unfold R14_Segments_p2 R14_Segments_p2_b R14_Segments_p3 R14_Segments_p3_b
          simp only [hfad, Nat.zero_add, hcell]
          unfold sz
          cases t2
          · cases t1
            · simp [imn_ge (show left ≤ top from h5)]
            · by_cases hl : l = 0
              · subst hl; simp [imn_comm]
              · have e3 : (((l : Nat) : Int) == 0) = false := by simp; omega
                simp only [cond_true, cond_false, e3, Bool.false_eq_true, if_false, if_true, hl]
                have e4 : Int.tmod ((l : Nat) : Int) 2 = ((l % 2 : Nat) : Int) := by rw [Int.tmod_eq_emod_of_nonneg (by omega)]; omega
                rw [e4, w64 (by omega) (by omega), imn_comm]
                have e5 : (1 + ((l % 2 : Nat) : Int)) = if l % 2 = 1 then 2 else 1 := by split <;> omega
                rw [e5]
          · simp [imn_le (show (1 : Int) ≤ left by omega)]
        rw [step, e1, e2, w64 (n := left - imn (sz t1 t2 top l) left) (by omega) (by omega)]
      · have : seg t1 t2 (n + 1) (sz t1 t2 top l) left = imn (sz t1 t2 top l) left :: seg t1 t2 n (sz t1 t2 top (l + 1)) (left - imn (sz t1 t2 top l) left) := by
          show (if left > 0 then _ else _) = _
          rw [if_pos c0, sz_nx]
        rw [this]; simpa using i2
    · refine ⟨q, l, c, H, fun R KE => ?_, ?_, .refl _ _⟩
      · have ed : decide (left > 0) = false := by simpa using c0
        show R14_Segments_l1_b _ _ _ _ _ _ _ _ _ _ = _
        unfold R14_Segments_l1_b
        rw [ed, cond_false]
      · have : seg t1 t2 (n + 1) (sz t1 t2 top l) left = [] := by
          show (if left > 0 then _ else _) = _
          rw [if_neg c0]
        rw [this]; simpa using hB
/-- The segments of so many passes. -/
def segs (t1 t2 : Bool) (k : Nat) (n : Int) : List Int := if n < 1 ∨ n > 178 then [] else seg t1 t2 k (sz t1 t2 n 0) n
theorem Segs_eq {k : Nat} (hk : 178 < k) (n : Int) (t1 t2 t3 t4 t5 : Bool) (H : Heap) : ∃ q l c H', (∀ (R : Type) (K : Option Addr → Nat → Nat → Heap → Option R), cblk_Segments k n t1 t2 t3 t4 t5 H K = K q l c H') ∧ Bld H.length 1 H' q l c (ints (segs t1 t2 k n)) ∧ Old H.length H H' := by
  obtain ⟨p, H1, e1, hp, g1, g2, g3⟩ := hal_of H [.bool t1, .bool t2, .bool t3, .bool t4, .bool t5]
  subst hp
  by_cases c : n < 1 ∨ n > 178
  · refine ⟨none, 0, 0, H1, fun R K => ?_, by unfold segs; rw [if_pos c]; exact .nil _ _ _, g2⟩
    unfold cblk_Segments cblk_Segments_b cblk_Segments_p0 cblk_Segments_p0_b
    rw [e1]
    rcases c with c | c
    · simp [c]
    · have : ¬ n < 1 := by omega
      simp [c, this]
  · have hcell : ∀ (R : Type) (K : Bool → Option R), ldB H1 (some ⟨H.length, 0, none⟩) K = K t1 ∧ ldB H1 (some ⟨H.length, 1, none⟩) K = K t2 := fun R K => ⟨ldB_of (by simp [pcell, g1.sees.cell]) K, ldB_of (by simp [pcell, g1.sees.cell]) K⟩
    have hsz : 1 ≤ sz t1 t2 n 0 ∧ sz t1 t2 n 0 ≤ 178 := by unfold sz; cases t1 <;> cases t2 <;> simp <;> omega
    obtain ⟨q', l', c', H', i1, i2, i3⟩ := Segs_loop (t3 := t3) (t4 := t4) (t5 := t5) k (N := H.length + 1) (b := H.length) (by omega) k H1 none 0 0 [] (sz t1 t2 n 0) n (.nil _ _ _) g1.sees (by omega) hsz.1 hsz.2 (by omega) (by omega) (by omega) (by omega)
    refine ⟨q', l', c', H', fun R K => ?_, ?_, g2.trans (i3.mono (by omega))⟩
    · unfold cblk_Segments cblk_Segments_b cblk_Segments_p0 cblk_Segments_p0_b cblk_Segments_p1 cblk_Segments_p1_b cblk_Segments_p2 cblk_Segments_p2_b
      rw [e1]
      have d1 : decide (n < 1) = false := by simp; omega
      have d2 : decide (n > 178) = false := by simp; omega
      simp only [d1, d2, cond_false, hfad, Nat.zero_add, hcell]
      rw [← i1 R K]
      unfold sz
      cases t1 <;> cases t2 <;> simp
    · unfold segs; rw [if_neg c]
      rcases i2 with h | ⟨b, h1, h2, h3, h4⟩
      · exact .inl (by simpa using h)
      · exact .inr ⟨b, h1, h2, by omega, by simpa using h4⟩
theorem SegsR_eq {k : Nat} (hk : 178 < k) (n : Int) (t1 t2 t3 t4 t5 : Bool) (H : Heap) : ∃ q l c H', (∀ (R : Type) (K : Option Addr → Nat → Nat → Heap → Option R), R14_Segments k n t1 t2 t3 t4 t5 H K = K q l c H') ∧ Bld H.length 1 H' q l c (ints (segs t1 t2 k n)) ∧ Old H.length H H' := by
  obtain ⟨p, H1, e1, hp, g1, g2, g3⟩ := hal_of H [.bool t1, .bool t2, .bool t3, .bool t4, .bool t5]
  subst hp
  by_cases c : n < 1 ∨ n > 178
  · refine ⟨none, 0, 0, H1, fun R K => ?_, by unfold segs; rw [if_pos c]; exact .nil _ _ _, g2⟩
    unfold R14_Segments R14_Segments_b R14_Segments_p0 R14_Segments_p0_b
    rw [e1]
    rcases c with c | c
    · simp [c]
    · have : ¬ n < 1 := by omega
      simp [c, this]
  · obtain ⟨q', l', c', H', i1, i2, i3⟩ := SegsR_loop (t1 := t1) (t2 := t2) (t3 := t3) (t4 := t4) (t5 := t5) (top := n) k (by omega) (N := H.length + 1) (b := H.length) (by omega) k H1 none 0 0 [] n (.nil _ _ _) g1.sees (by omega) (by omega) (by omega) (by omega) (by omega)
    refine ⟨q', l', c', H', fun R K => ?_, ?_, g2.trans (i3.mono (by omega))⟩
    · unfold R14_Segments R14_Segments_b R14_Segments_p0 R14_Segments_p0_b
      rw [e1]
      have d1 : decide (n < 1) = false := by simp; omega
      have d2 : decide (n > 178) = false := by simp; omega
      simp only [d1, d2, cond_false]
      exact i1 R K
    · unfold segs; rw [if_neg c]
      rcases i2 with h | ⟨b, h1, h2, h3, h4⟩
      · exact .inl (by simpa using h)
      · exact .inr ⟨b, h1, h2, by omega, by simpa using h4⟩
theorem SameInts_loop (k : Nat) {H : Heap} {q1 q2 : Option Addr} {l : Nat} (c1 c2 : Nat) {xs : List Int} (h1 : Shows H q1 (ints xs)) (h2 : Shows H q2 (ints xs)) (hl : l = xs.length) (hb : l < 1000000) : ∀ (n i : Nat), i ≤ l → l - i < n → ∀ (R : Type) (KE : Unit → Option R) (KR : Bool → Option R), R02_SameInts_l0 k KE KR n q1 l c1 q2 l c2 i H = KE () := by
  intro n
  induction n with
  | zero => intro i _ h; omega
  | succ n ih =>
    intro i hi hn R KE KR
    show R02_SameInts_l0_b _ _ _ _ _ _ _ _ _ _ _ _ = _
    unfold R02_SameInts_l0_b
    by_cases c : i < l
    · have ed : decide ((i : Int) < ((l : Nat) : Int)) = true := by simp; omega
      obtain ⟨p1, a1, _, b1⟩ := h1.idx (l := l) (size := 1) (by simp [ints, hl]) (i := i) (by omega) (by omega) (by omega)
      obtain ⟨p2, a2, _, b2⟩ := h2.idx (l := l) (size := 1) (by simp [ints, hl]) (i := i) (by omega) (by omega) (by omega)
      have hx : (ints xs)[(i : Int).toNat * 1]? = some (.int .i64 xs[i]) := by simp [ints]
      rw [ed, cond_true, a1, ldI_of (b1 _ hx) rfl, a2, ldI_of (b2 _ hx) rfl]
      have : (xs[i] != xs[i]) = false := by simp
      rw [this, cond_false, w64 (by omega) (by omega)]
      exact ih (i + 1) (by omega) (by omega) R KE KR
    · have ed : decide ((i : Int) < ((l : Nat) : Int)) = false := by simp; omega
      rw [ed, cond_false]
theorem SameInts_eq {k : Nat} {H : Heap} {q1 q2 : Option Addr} {l1 l2 : Nat} (c1 c2 : Nat) {xs : List Int} (h1 : Shows H q1 (ints xs)) (h2 : Shows H q2 (ints xs)) (hl1 : l1 = xs.length) (hl2 : l2 = xs.length) (hb : xs.length < k) (hk : k ≤ 1000000) (R : Type) (K : Bool → Option R) : R02_SameInts k q1 l1 c1 q2 l2 c2 H K = K true := by
  subst hl1 hl2
  unfold R02_SameInts R02_SameInts_b
  have : ((((xs.length : Nat) : Int)) != ((xs.length : Nat) : Int)) = false := by simp
  rw [this, cond_false]
  exact SameInts_loop k c1 c2 h1 h2 rfl (by omega) k 0 (by omega) (by omega) R _ _
end Go.Proofs.Ytmanlfonppfhaaa.Sh
