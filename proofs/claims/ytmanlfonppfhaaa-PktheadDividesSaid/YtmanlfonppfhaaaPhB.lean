/- Pkthead: the parts of new passes. -/
import Derived.Test.YtmanlfonppfhaaaPhA
set_option linter.unusedVariables false
set_option linter.unusedSimpArgs false
namespace Go.Proofs.Ytmanlfonppfhaaa.Sh
open Go.Proofs.Ytmanlfonppfhaaa.FW
/-- The parts, segment by segment. -/
def parts (b p : Int) : Int → List Int → List Int
  | _, [] => []
  | a, n :: l => (if imx a b < imn (a + n) (b + p) then [imn (a + n) (b + p) - imx a b] else []) ++ parts b p (a + n) l
theorem seg_bd (t1 t2 : Bool) : ∀ (f : Nat) (s left : Int), 1 ≤ s → s ≤ 178 → 0 ≤ left → left ≤ 178 → (∀ x ∈ seg t1 t2 f s left, 1 ≤ x ∧ x ≤ 178) ∧ ((seg t1 t2 f s left).length : Int) ≤ left := by
  intro f
  induction f with
  | zero => intro s left _ _ _ _; exact ⟨(fun x hx => by simp [seg] at hx), by simp [seg]; omega⟩
  | succ f ih =>
    intro s left h1 h2 h3 h4
    by_cases c : left > 0
    · have hm1 : 1 ≤ imn s left := by unfold imn; split <;> omega
      have hm2 : imn s left ≤ left := by unfold imn; split <;> omega
      have hnx : 1 ≤ nx t1 t2 s ∧ nx t1 t2 s ≤ 178 := by unfold nx; cases t1 <;> cases t2 <;> simp <;> (try split) <;> omega
      have e : seg t1 t2 (f + 1) s left = imn s left :: seg t1 t2 f (nx t1 t2 s) (left - imn s left) := by
        show (if left > 0 then _ else _) = _
        rw [if_pos c]
      have r := ih (nx t1 t2 s) (left - imn s left) hnx.1 hnx.2 (by omega) (by omega)
      rw [e]
      refine ⟨fun x hx => ?_, by rw [List.length_cons]; have := r.2; omega⟩
      rcases List.mem_cons.1 hx with rfl | hx
      · exact ⟨hm1, by omega⟩
      · exact r.1 x hx
    · have e : seg t1 t2 (f + 1) s left = [] := by
        show (if left > 0 then _ else _) = _
        rw [if_neg c]
      rw [e]; exact ⟨(fun x hx => by cases hx), by simp; omega⟩
theorem segs_bd (t1 t2 : Bool) (k : Nat) (n : Int) : (∀ x ∈ segs t1 t2 k n, 1 ≤ x ∧ x ≤ 178) ∧ (segs t1 t2 k n).length ≤ 178 := by
  unfold segs
  by_cases c : n < 1 ∨ n > 178
  · rw [if_pos c]; exact ⟨(fun x hx => by cases hx), by simp⟩
  · rw [if_neg c]
    have hsz : 1 ≤ sz t1 t2 n 0 ∧ sz t1 t2 n 0 ≤ 178 := by unfold sz; cases t1 <;> cases t2 <;> simp <;> omega
    have := seg_bd t1 t2 k (sz t1 t2 n 0) n hsz.1 hsz.2 (by omega) (by omega)
    exact ⟨this.1, by have := this.2; omega⟩
theorem int_at' {H : Heap} {q : Option Addr} {xs : List Int} (h : Shows H q (ints xs)) {i : Nat} {x : Int} (hi : xs[i]? = some x) :
    ∃ p, (∀ (R : Type) (K : Option Addr → Option R), hidx q xs.length (i : Int) 1 K = K p) ∧ ∀ (R : Type) (K : Int → Option R), ldI .i64 H p K = K x := by
  have hl := (List.getElem?_eq_some_iff.1 hi).1
  obtain ⟨p, e, _, m⟩ := h.idx (l := xs.length) (size := 1) (by simp [ints]) (i := (i : Int)) (by omega) (by omega) (by omega)
  exact ⟨p, e, fun R K => ldI_of (m _ (by rw [Int.toNat_natCast, Nat.mul_one]; simp [ints, hi])) rfl K⟩
theorem take_snoc' {l : List Int} {i : Nat} {x : Int} (h : l[i]? = some x) : l.drop i = x :: l.drop (i + 1) := by
  obtain ⟨h1, h2⟩ := List.getElem?_eq_some_iff.1 h
  rw [List.drop_eq_getElem_cons h1, h2]
theorem imx_bd (a b : Int) : a ≤ imx a b ∧ b ≤ imx a b ∧ (imx a b = a ∨ imx a b = b) := by unfold imx; split <;> omega
theorem imn_bd (a b : Int) : imn a b ≤ a ∧ imn a b ≤ b ∧ (imn a b = a ∨ imn a b = b) := by unfold imn; split <;> omega
theorem parts_l (k : Nat) {b p : Int} (hb : 0 ≤ b) (hb2 : b ≤ 178) (hp : 0 ≤ p) (hp2 : p ≤ 178) (cs' : Nat) {N : Nat} {qs : Option Addr} {sg : List Int} (hx : ∀ x ∈ sg, 1 ≤ x ∧ x ≤ 178) (hsl : sg.length ≤ 178) (hqb : ints sg = [] ∨ Below N qs) : ∀ (m n i : Nat), m < n → sg.length = i + m → ∀ (H : Heap) (q : Option Addr) (l c : Nat) (cs : List Int) (a : Int), Bld N 1 H q l c (ints cs) → Shows H qs (ints sg) → N ≤ H.length → 0 ≤ a → a ≤ i * 178 → l ≤ i →
    ∃ q' l' c' H', (∀ (R : Type) (KE : Option Addr → Nat → Nat → Heap → Option R), pkthead_Parts_l1 k KE n b p q l c a qs sg.length cs' ((sg.length : Nat) : Int) (i : Int) H = KE q' l' c' H') ∧ Bld N 1 H' q' l' c' (ints (cs ++ parts b p a (sg.drop i))) ∧ Old N H H' ∧ l' ≤ sg.length := by
  intro m
  induction m with
  | zero =>
    intro n i hn hi H q l c cs a hB hS hN ha ha2 hl
    obtain ⟨n, rfl⟩ : ∃ n', n = n' + 1 := ⟨n - 1, by omega⟩
    have ed : decide ((i : Int) < ((sg.length : Nat) : Int)) = false := decide_eq_false (by omega)
    refine ⟨q, l, c, H, fun R KE => ?_, by rw [List.drop_of_length_le (by omega)]; simpa [parts] using hB, .refl _ _, by omega⟩
    unfold pkthead_Parts_l1 pkthead_Parts_l1_b
    exact go_f ed rfl
  | succ m ih =>
    intro n i hn hi H q l c cs a hB hS hN ha ha2 hl
    obtain ⟨n, rfl⟩ : ∃ n', n = n' + 1 := ⟨n - 1, by omega⟩
    have ed : decide ((i : Int) < ((sg.length : Nat) : Int)) = true := decide_eq_true (by omega)
    obtain ⟨x, hxi⟩ : ∃ x, sg[i]? = some x := ⟨_, List.getElem?_eq_getElem (by omega)⟩
    have hx1 := hx x (List.mem_of_getElem? hxi)
    obtain ⟨pa, e0, e1⟩ := int_at' hS hxi
    have i178 : (i : Int) * 178 ≤ 178 * 178 := by omega
    have w0 : IntKind.wrap .i64 (a + x) = a + x := w64 (by omega) (by omega)
    have w1 : IntKind.wrap .i64 (b + p) = b + p := w64 (by omega) (by omega)
    have w2 : IntKind.wrap .i64 ((i : Int) + 1) = ((i + 1 : Nat) : Int) := by rw [w64 (by omega) (by omega)]; omega
    have hmx := imx_bd a b
    have hmn := imn_bd (a + x) (b + p)
    have hpd : parts b p a (sg.drop i) = (if imx a b < imn (a + x) (b + p) then [imn (a + x) (b + p) - imx a b] else []) ++ parts b p (a + x) (sg.drop (i + 1)) := by rw [take_snoc' hxi]; rfl
    by_cases hc : imx a b < imn (a + x) (b + p)
    · have d1 := decide_eq_true hc
      rw [if_pos hc] at hpd
      have w3 : IntKind.wrap .i64 (imn (a + x) (b + p) - imx a b) = imn (a + x) (b + p) - imx a b := w64 (by omega) (by omega)
      obtain ⟨pp, H1, f1, hpp, O1, o1, n1⟩ := hal_of H [.int .i64 (imn (a + x) (b + p) - imx a b)]
      subst hpp
      have hB1 := hB.old o1 (Nat.le_refl _)
      obtain ⟨q2, H2, f2, B2, o2, n2⟩ := hB1.app (bytes := 8) (n := 1) (by omega) O1.sees.shows rfl (by omega) (by omega)
      have B2' : Bld N 1 H2 q2 (l + 1) unk (ints (cs ++ [imn (a + x) (b + p) - imx a b])) := by simpa [ints] using B2
      have oo : Old N H H2 := (o1.mono hN).trans o2
      obtain ⟨q', l', c', H', e3, B3, o3, l3⟩ := ih n (i + 1) (by omega) (by omega) H2 q2 (l + 1) unk _ (a + x) B2' (hS.old oo hqb) (by have := oo.1; omega) (by omega) (by omega) (by omega)
      refine ⟨q', l', c', H', fun R KE => ?_, by rw [hpd, ← List.append_assoc]; exact B3, oo.trans o3, l3⟩
      unfold pkthead_Parts_l1 pkthead_Parts_l1_b pkthead_Parts_p2 pkthead_Parts_p2_b
      refine go_t ed ((e0 _ _).trans ((e1 _ _).trans ?_))
      try dsimp only
      rw [w0, w1]
      refine go_t d1 ?_
      rw [w3]
      refine (f1 _ _).trans ((f2 _ _).trans ?_)
      try dsimp only
      rw [w2]
      exact e3 _ _
    · have d1 := decide_eq_false hc
      rw [if_neg hc, List.nil_append] at hpd
      obtain ⟨q', l', c', H', e3, B3, o3, l3⟩ := ih n (i + 1) (by omega) (by omega) H q l c cs (a + x) hB hS hN (by omega) (by omega) (by omega)
      refine ⟨q', l', c', H', fun R KE => ?_, by rw [hpd]; exact B3, o3, l3⟩
      unfold pkthead_Parts_l1 pkthead_Parts_l1_b pkthead_Parts_p2 pkthead_Parts_p2_b
      refine go_t ed ((e0 _ _).trans ((e1 _ _).trans ?_))
      try dsimp only
      rw [w0, w1]
      refine go_f d1 ?_
      try dsimp only
      rw [w2]
      exact e3 _ _
theorem rparts_l (k : Nat) {b p : Int} (hb : 0 ≤ b) (hb2 : b ≤ 178) (hp : 0 ≤ p) (hp2 : p ≤ 178) (cs' : Nat) {N : Nat} {qs : Option Addr} {sg : List Int} (hx : ∀ x ∈ sg, 1 ≤ x ∧ x ≤ 178) (hsl : sg.length ≤ 178) (hqb : ints sg = [] ∨ Below N qs) : ∀ (m n i : Nat), m < n → sg.length = i + m → ∀ (H : Heap) (q : Option Addr) (l c : Nat) (cs : List Int) (a : Int), Bld N 1 H q l c (ints cs) → Shows H qs (ints sg) → N ≤ H.length → 0 ≤ a → a ≤ i * 178 → l ≤ i →
    ∃ q' l' c' H', (∀ (R : Type) (KE : Option Addr → Nat → Nat → Heap → Option R), R26_Parts_l1 k KE n b p q l c a qs sg.length cs' (i : Int) H = KE q' l' c' H') ∧ Bld N 1 H' q' l' c' (ints (cs ++ parts b p a (sg.drop i))) ∧ Old N H H' ∧ l' ≤ sg.length := by
  intro m
  induction m with
  | zero =>
    intro n i hn hi H q l c cs a hB hS hN ha ha2 hl
    obtain ⟨n, rfl⟩ : ∃ n', n = n' + 1 := ⟨n - 1, by omega⟩
    have ed : decide ((i : Int) < ((sg.length : Nat) : Int)) = false := decide_eq_false (by omega)
    refine ⟨q, l, c, H, fun R KE => ?_, by rw [List.drop_of_length_le (by omega)]; simpa [parts] using hB, .refl _ _, by omega⟩
    unfold R26_Parts_l1 R26_Parts_l1_b
    exact go_f ed rfl
  | succ m ih =>
    intro n i hn hi H q l c cs a hB hS hN ha ha2 hl
    obtain ⟨n, rfl⟩ : ∃ n', n = n' + 1 := ⟨n - 1, by omega⟩
    have ed : decide ((i : Int) < ((sg.length : Nat) : Int)) = true := decide_eq_true (by omega)
    obtain ⟨x, hxi⟩ : ∃ x, sg[i]? = some x := ⟨_, List.getElem?_eq_getElem (by omega)⟩
    have hx1 := hx x (List.mem_of_getElem? hxi)
    obtain ⟨pa, e0, e1⟩ := int_at' hS hxi
    have i178 : (i : Int) * 178 ≤ 178 * 178 := by omega
    have w0 : IntKind.wrap .i64 (a + x) = a + x := w64 (by omega) (by omega)
    have w1 : IntKind.wrap .i64 (b + p) = b + p := w64 (by omega) (by omega)
    have w2 : IntKind.wrap .i64 ((i : Int) + 1) = ((i + 1 : Nat) : Int) := by rw [w64 (by omega) (by omega)]; omega
    have hmx := imx_bd a b
    have hmn := imn_bd (a + x) (b + p)
    have w3 : IntKind.wrap .i64 (imn (a + x) (b + p) - imx a b) = imn (a + x) (b + p) - imx a b := w64 (by omega) (by omega)
    have hpd : parts b p a (sg.drop i) = (if imx a b < imn (a + x) (b + p) then [imn (a + x) (b + p) - imx a b] else []) ++ parts b p (a + x) (sg.drop (i + 1)) := by rw [take_snoc' hxi]; rfl
    by_cases hc : imx a b < imn (a + x) (b + p)
    · have d1 : decide (imn (a + x) (b + p) - imx a b > 0) = true := decide_eq_true (by omega)
      rw [if_pos hc] at hpd
      obtain ⟨pp, H1, f1, hpp, O1, o1, n1⟩ := hal_of H [.int .i64 (imn (a + x) (b + p) - imx a b)]
      subst hpp
      have hB1 := hB.old o1 (Nat.le_refl _)
      obtain ⟨q2, H2, f2, B2, o2, n2⟩ := hB1.app (bytes := 8) (n := 1) (by omega) O1.sees.shows rfl (by omega) (by omega)
      have B2' : Bld N 1 H2 q2 (l + 1) unk (ints (cs ++ [imn (a + x) (b + p) - imx a b])) := by simpa [ints] using B2
      have oo : Old N H H2 := (o1.mono hN).trans o2
      obtain ⟨q', l', c', H', e3, B3, o3, l3⟩ := ih n (i + 1) (by omega) (by omega) H2 q2 (l + 1) unk _ (a + x) B2' (hS.old oo hqb) (by have := oo.1; omega) (by omega) (by omega) (by omega)
      refine ⟨q', l', c', H', fun R KE => ?_, by rw [hpd, ← List.append_assoc]; exact B3, oo.trans o3, l3⟩
      unfold R26_Parts_l1 R26_Parts_l1_b R26_Parts_p2 R26_Parts_p2_b
      refine go_t ed ((e0 _ _).trans ((e1 _ _).trans ?_))
      try dsimp only
      rw [w0, w1, w3]
      refine go_t d1 ?_
      refine (f1 _ _).trans ((f2 _ _).trans ?_)
      try dsimp only
      rw [w2]
      exact e3 _ _
    · have d1 : decide (imn (a + x) (b + p) - imx a b > 0) = false := decide_eq_false (by omega)
      rw [if_neg hc, List.nil_append] at hpd
      obtain ⟨q', l', c', H', e3, B3, o3, l3⟩ := ih n (i + 1) (by omega) (by omega) H q l c cs (a + x) hB hS hN (by omega) (by omega) (by omega)
      refine ⟨q', l', c', H', fun R KE => ?_, by rw [hpd]; exact B3, o3, l3⟩
      unfold R26_Parts_l1 R26_Parts_l1_b R26_Parts_p2 R26_Parts_p2_b
      refine go_t ed ((e0 _ _).trans ((e1 _ _).trans ?_))
      try dsimp only
      rw [w0, w1, w3]
      refine go_f d1 ?_
      try dsimp only
      rw [w2]
      exact e3 _ _
/-- The numbers of parts. -/
def pts (t1 t2 : Bool) (k : Nat) (b p : Int) : List Int := if b < 0 ∨ p < 1 ∨ p > 178 ∨ b > 178 - p then [] else parts b p 0 (segs t1 t2 k 178)
theorem Parts_eq {k : Nat} (hk : 200 < k) (b p : Int) (hpb : -9223372036854775808 ≤ p ∧ p ≤ 9223372036854775807) (t1 t2 t3 t4 t5 : Bool) (H : Heap) : ∃ q l c H', (∀ (R : Type) (K : Option Addr → Nat → Nat → Heap → Option R), pkthead_Parts k b p t1 t2 t3 t4 t5 H K = K q l c H') ∧ Bld H.length 1 H' q l c (ints (pts t1 t2 k b p)) ∧ Old H.length H H' ∧ l ≤ 178 := by
  obtain ⟨H1, hH1⟩ : ∃ H1, H1 = H ++ [some (⟨[.bool t1, .bool t2, .bool t3, .bool t4, .bool t5], false, 0⟩ : Blk)] := ⟨_, rfl⟩
  have o1 : Old H.length H H1 := hH1 ▸ Old.app _ _
  have O1 : Owns H1 H.length [.bool t1, .bool t2, .bool t3, .bool t4, .bool t5] 0 := by rw [hH1]; exact hblk_new H _
  have m : ∀ i, hcell H1 H.length i = [Value.bool t1, .bool t2, .bool t3, .bool t4, .bool t5][i]? := fun i => O1.sees.cell i
  by_cases c1 : b < 0
  · have d1 := decide_eq_true c1
    refine ⟨none, 0, 0, H1, fun R K => ?_, by unfold pts; rw [if_pos (.inl c1)]; exact .nil _ _ _, o1, by omega⟩
    unfold pkthead_Parts pkthead_Parts_b pkthead_Parts_p0 pkthead_Parts_p0_b
    exact go_halN hH1 (go_t d1 rfl)
  have d1 := decide_eq_false c1
  by_cases c2 : p < 1
  · have d2 := decide_eq_true c2
    refine ⟨none, 0, 0, H1, fun R K => ?_, by unfold pts; rw [if_pos (.inr (.inl c2))]; exact .nil _ _ _, o1, by omega⟩
    unfold pkthead_Parts pkthead_Parts_b pkthead_Parts_p0 pkthead_Parts_p0_b
    exact go_halN hH1 (go_f d1 (go_t d2 rfl))
  have d2 := decide_eq_false c2
  by_cases c3 : p > 178
  · have d3 := decide_eq_true c3
    refine ⟨none, 0, 0, H1, fun R K => ?_, by unfold pts; rw [if_pos (.inr (.inr (.inl c3)))]; exact .nil _ _ _, o1, by omega⟩
    unfold pkthead_Parts pkthead_Parts_b pkthead_Parts_p0 pkthead_Parts_p0_b
    exact go_halN hH1 (go_f d1 (go_f d2 (go_t d3 rfl)))
  have d3 := decide_eq_false c3
  have w1 : IntKind.wrap .i64 (178 - p) = 178 - p := w64 (by omega) (by omega)
  by_cases c4 : b > 178 - p
  · have d4 : decide (b > IntKind.wrap .i64 (178 - p)) = true := by rw [w1]; exact decide_eq_true c4
    refine ⟨none, 0, 0, H1, fun R K => ?_, by unfold pts; rw [if_pos (.inr (.inr (.inr c4)))]; exact .nil _ _ _, o1, by omega⟩
    unfold pkthead_Parts pkthead_Parts_b pkthead_Parts_p0 pkthead_Parts_p0_b
    exact go_halN hH1 (go_f d1 (go_f d2 (go_f d3 (go_t d4 rfl))))
  have d4 : decide (b > IntKind.wrap .i64 (178 - p)) = false := by rw [w1]; exact decide_eq_false c4
  obtain ⟨qs, ls, cs, H2, e2, B2, o2⟩ := Segs_eq (k := k) (by omega) 178 t1 t2 t3 t4 t5 H1
  have hbd := segs_bd t1 t2 k 178
  have hs2 := B2.shows
  have hll : ls = (segs t1 t2 k 178).length := by have := hs2.2; simpa [ints] using this
  subst hll
  obtain ⟨q', l', c', H3, e3, B3, o3, l3⟩ := parts_l k (b := b) (p := p) (by omega) (by omega) (by omega) (by omega) cs (N := H2.length) hbd.1 hbd.2 (.inr B2.below) (segs t1 t2 k 178).length k 0 (by omega) (by omega) H2 none 0 0 [] 0 (.nil _ _ _) hs2.1 (Nat.le_refl _) (by omega) (by omega) (by omega)
  simp only [Int.natCast_zero] at e3
  have n1 := o1.1
  have n2 := o2.1
  refine ⟨q', l', c', H3, fun R K => ?_, ?_, o1.trans ((o2.mono n1).trans (o3.mono (by omega))), by omega⟩
  · unfold pkthead_Parts pkthead_Parts_b pkthead_Parts_p0 pkthead_Parts_p0_b
    refine go_halN hH1 (go_f d1 (go_f d2 (go_f d3 (go_f d4 ?_))))
    repeat (first | (with_reducible refine (e2 _ _).trans ?_) | ((with_reducible refine go_ip (x := ?_) ?_ ?_); rotate_left 1; (first | ((with_reducible refine (m _).trans ?_); rfl) | rfl)) | ((with_reducible refine go_bp (x := ?_) ?_ ?_); rotate_left 1; (first | ((with_reducible refine (m _).trans ?_); rfl) | rfl)) | ((with_reducible refine go_lp (x := ?_) (l := ?_) (c := ?_) ?_ ?_); rotate_left 3; (first | ((with_reducible refine (m _).trans ?_); rfl) | rfl)) | ((with_reducible refine go_pp (x := ?_) ?_ ?_); rotate_left 1; (first | ((with_reducible refine (m _).trans ?_); rfl) | rfl)) | ((with_reducible refine go_i (x := ?_) ?_ ?_); rotate_left 1; (first | ((with_reducible refine (m _).trans ?_); rfl) | rfl)) | ((with_reducible refine go_b (x := ?_) ?_ ?_); rotate_left 1; (first | ((with_reducible refine (m _).trans ?_); rfl) | rfl)) | ((with_reducible refine go_l (x := ?_) (l := ?_) (c := ?_) ?_ ?_); rotate_left 3; (first | ((with_reducible refine (m _).trans ?_); rfl) | rfl)) | ((with_reducible refine go_p (x := ?_) ?_ ?_); rotate_left 1; (first | ((with_reducible refine (m _).trans ?_); rfl) | rfl)) | ((with_reducible refine go_halst rfl ?_ ?_ ?_); rfl; rfl) | (with_reducible refine go_halN rfl ?_) | ((with_reducible refine go_t ?_ ?_); (show _ = true; rfl)) | ((with_reducible refine go_f ?_ ?_); (show _ = false; rfl)) | (with_reducible refine go_ne ?_) | (with_reducible refine go_eq ?_) | (with_reducible refine go_fad ?_) | (with_reducible refine go_nil ?_))
    exact e3 _ _
  · have : pts t1 t2 k b p = parts b p 0 (segs t1 t2 k 178) := by unfold pts; rw [if_neg (by omega)]
    rw [this]
    rw [List.nil_append, List.drop_zero] at B3
    rcases B3 with h | ⟨x, h1, h2, h3, h4⟩
    · exact .inl h
    · exact .inr ⟨x, h1, h2, by omega, h4⟩
theorem RParts_eq {k : Nat} (hk : 200 < k) (b p : Int) (hbb : -9223372036854775808 ≤ b ∧ b ≤ 9223372036854775807) (t1 t2 t3 t4 t5 : Bool) (H : Heap) : ∃ q l c H', (∀ (R : Type) (K : Option Addr → Nat → Nat → Heap → Option R), R26_Parts k b p t1 t2 t3 t4 t5 H K = K q l c H') ∧ Bld H.length 1 H' q l c (ints (pts t1 t2 k b p)) ∧ Old H.length H H' := by
  obtain ⟨H1, hH1⟩ : ∃ H1, H1 = H ++ [some (⟨[.bool t1, .bool t2, .bool t3, .bool t4, .bool t5], false, 0⟩ : Blk)] := ⟨_, rfl⟩
  have o1 : Old H.length H H1 := hH1 ▸ Old.app _ _
  have O1 : Owns H1 H.length [.bool t1, .bool t2, .bool t3, .bool t4, .bool t5] 0 := by rw [hH1]; exact hblk_new H _
  have m : ∀ i, hcell H1 H.length i = [Value.bool t1, .bool t2, .bool t3, .bool t4, .bool t5][i]? := fun i => O1.sees.cell i
  by_cases c1 : b < 0
  · have d1 := decide_eq_true c1
    refine ⟨none, 0, 0, H1, fun R K => ?_, by unfold pts; rw [if_pos (.inl c1)]; exact .nil _ _ _, o1⟩
    unfold R26_Parts R26_Parts_b R26_Parts_p0 R26_Parts_p0_b
    exact go_halN hH1 (go_t d1 rfl)
  have d1 := decide_eq_false c1
  by_cases c2 : p < 1
  · have d2 := decide_eq_true c2
    refine ⟨none, 0, 0, H1, fun R K => ?_, by unfold pts; rw [if_pos (.inr (.inl c2))]; exact .nil _ _ _, o1⟩
    unfold R26_Parts R26_Parts_b R26_Parts_p0 R26_Parts_p0_b
    exact go_halN hH1 (go_f d1 (go_t d2 rfl))
  have d2 := decide_eq_false c2
  by_cases c3 : b > 178
  · have d3 := decide_eq_true c3
    refine ⟨none, 0, 0, H1, fun R K => ?_, by unfold pts; rw [if_pos (.inr (.inr (.inr (by omega))))]; exact .nil _ _ _, o1⟩
    unfold R26_Parts R26_Parts_b R26_Parts_p0 R26_Parts_p0_b
    exact go_halN hH1 (go_f d1 (go_f d2 (go_t d3 rfl)))
  have d3 := decide_eq_false c3
  have w1 : IntKind.wrap .i64 (178 - b) = 178 - b := w64 (by omega) (by omega)
  by_cases c4 : p > 178 - b
  · have d4 : decide (p > IntKind.wrap .i64 (178 - b)) = true := by rw [w1]; exact decide_eq_true c4
    refine ⟨none, 0, 0, H1, fun R K => ?_, by unfold pts; rw [if_pos (.inr (.inr (.inr (by omega))))]; exact .nil _ _ _, o1⟩
    unfold R26_Parts R26_Parts_b R26_Parts_p0 R26_Parts_p0_b
    exact go_halN hH1 (go_f d1 (go_f d2 (go_f d3 (go_t d4 rfl))))
  have d4 : decide (p > IntKind.wrap .i64 (178 - b)) = false := by rw [w1]; exact decide_eq_false c4
  obtain ⟨qs, ls, cs, H2, e2, B2, o2⟩ := SegsR_eq (k := k) (by omega) 178 t1 t2 t3 t4 t5 H1
  have hbd := segs_bd t1 t2 k 178
  have hs2 := B2.shows
  have hll : ls = (segs t1 t2 k 178).length := by have := hs2.2; simpa [ints] using this
  subst hll
  obtain ⟨q', l', c', H3, e3, B3, o3, l3⟩ := rparts_l k (b := b) (p := p) (by omega) (by omega) (by omega) (by omega) cs (N := H2.length) hbd.1 hbd.2 (.inr B2.below) (segs t1 t2 k 178).length k 0 (by omega) (by omega) H2 none 0 0 [] 0 (.nil _ _ _) hs2.1 (Nat.le_refl _) (by omega) (by omega) (by omega)
  simp only [Int.natCast_zero] at e3
  have n1 := o1.1
  have n2 := o2.1
  refine ⟨q', l', c', H3, fun R K => ?_, ?_, o1.trans ((o2.mono n1).trans (o3.mono (by omega)))⟩
  · unfold R26_Parts R26_Parts_b R26_Parts_p0 R26_Parts_p0_b
    refine go_halN hH1 (go_f d1 (go_f d2 (go_f d3 (go_f d4 ?_))))
    repeat (first | (with_reducible refine (e2 _ _).trans ?_) | ((with_reducible refine go_ip (x := ?_) ?_ ?_); rotate_left 1; (first | ((with_reducible refine (m _).trans ?_); rfl) | rfl)) | ((with_reducible refine go_bp (x := ?_) ?_ ?_); rotate_left 1; (first | ((with_reducible refine (m _).trans ?_); rfl) | rfl)) | ((with_reducible refine go_lp (x := ?_) (l := ?_) (c := ?_) ?_ ?_); rotate_left 3; (first | ((with_reducible refine (m _).trans ?_); rfl) | rfl)) | ((with_reducible refine go_pp (x := ?_) ?_ ?_); rotate_left 1; (first | ((with_reducible refine (m _).trans ?_); rfl) | rfl)) | ((with_reducible refine go_i (x := ?_) ?_ ?_); rotate_left 1; (first | ((with_reducible refine (m _).trans ?_); rfl) | rfl)) | ((with_reducible refine go_b (x := ?_) ?_ ?_); rotate_left 1; (first | ((with_reducible refine (m _).trans ?_); rfl) | rfl)) | ((with_reducible refine go_l (x := ?_) (l := ?_) (c := ?_) ?_ ?_); rotate_left 3; (first | ((with_reducible refine (m _).trans ?_); rfl) | rfl)) | ((with_reducible refine go_p (x := ?_) ?_ ?_); rotate_left 1; (first | ((with_reducible refine (m _).trans ?_); rfl) | rfl)) | ((with_reducible refine go_halst rfl ?_ ?_ ?_); rfl; rfl) | (with_reducible refine go_halN rfl ?_) | ((with_reducible refine go_t ?_ ?_); (show _ = true; rfl)) | ((with_reducible refine go_f ?_ ?_); (show _ = false; rfl)) | (with_reducible refine go_ne ?_) | (with_reducible refine go_eq ?_) | (with_reducible refine go_fad ?_) | (with_reducible refine go_nil ?_))
    exact e3 _ _
  · have : pts t1 t2 k b p = parts b p 0 (segs t1 t2 k 178) := by unfold pts; rw [if_neg (by omega)]
    rw [this]
    rw [List.nil_append, List.drop_zero] at B3
    rcases B3 with h | ⟨x, h1, h2, h3, h4⟩
    · exact .inl h
    · exact .inr ⟨x, h1, h2, by omega, h4⟩
/-- A row that was made apart, laid behind a heap. -/
theorem Bld.lay {H H4 : Heap} {q : Option Addr} {l c sz : Nat} {cs : List Value} (b4 : Bld (roH H).length sz H4 q l c cs) : Bld H.length sz (H ++ H4.drop H.length) q l c cs := by
  rcases b4 with h | ⟨b, z1, z2, z3, z4, z5⟩
  · exact .inl h
  · rw [roH_length] at z3
    refine .inr ⟨b, z1, z2, z3, ?_, z5⟩
    unfold Owns at z4 ⊢
    rw [hblk_get] at z4 ⊢
    rw [List.getElem?_append_right z3, List.getElem?_drop, show H.length + (b - H.length) = b from by omega]
    exact z4
end Go.Proofs.Ytmanlfonppfhaaa.Sh
