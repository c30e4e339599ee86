/- Pkthead: the parts of two contributions, in plain terms. -/
import Derived.Test.YtmanlfonppfhaaaPhB
set_option linter.unusedVariables false
set_option linter.unusedSimpArgs false
namespace Go.Proofs.Ytmanlfonppfhaaa.Sh
open Go.Proofs.Ytmanlfonppfhaaa.FW
theorem seg_sum (t1 t2 : Bool) : ∀ (f : Nat) (s left : Int), 1 ≤ s → 0 ≤ left → left ≤ f → (seg t1 t2 f s left).sum = left := by
  intro f
  induction f with
  | zero => intro s left h1 h2 h3; simp [seg]; omega
  | succ f ih =>
    intro s left h1 h2 h3
    by_cases c : left > 0
    · have hm := imn_bd s left
      have hnx : 1 ≤ nx t1 t2 s := by unfold nx; cases t1 <;> cases t2 <;> simp <;> (try split) <;> omega
      have e : seg t1 t2 (f + 1) s left = imn s left :: seg t1 t2 f (nx t1 t2 s) (left - imn s left) := by
        show (if left > 0 then _ else _) = _
        rw [if_pos c]
      rw [e, List.sum_cons, ih _ _ hnx (by omega) (by omega)]; omega
    · have e : seg t1 t2 (f + 1) s left = [] := by
        show (if left > 0 then _ else _) = _
        rw [if_neg c]
      rw [e]; simp; omega
theorem segs_sum (t1 t2 : Bool) {k : Nat} (hk : 178 ≤ k) : (segs t1 t2 k 178).sum = 178 := by
  unfold segs
  rw [if_neg (by omega)]
  refine seg_sum t1 t2 k _ 178 ?_ (by omega) (by omega)
  unfold sz; cases t1 <;> cases t2 <;> decide
theorem parts_sum (b p : Int) (hp : 0 ≤ p) : ∀ (sg : List Int) (a : Int), (∀ x ∈ sg, 1 ≤ x) → (parts b p a sg).sum = imx 0 (imn (a + sg.sum) (b + p) - imx a b) := by
  intro sg
  induction sg with
  | nil =>
    intro a _
    have h1 := imn_bd a (b + p)
    have h2 := imx_bd a b
    have h3 := imx_bd 0 (imn a (b + p) - imx a b)
    simp only [parts, List.sum_nil, Int.add_zero]; omega
  | cons n sg ih =>
    intro a h
    have hn := h n (List.mem_cons_self ..)
    have hs : 0 ≤ sg.sum := by
      have : ∀ l : List Int, (∀ x ∈ l, 1 ≤ x) → 0 ≤ l.sum := by
        intro l
        induction l with
        | nil => intro _; simp
        | cons y l ih => intro h; have := ih fun x hx => h x (List.mem_cons_of_mem _ hx); have := h y (List.mem_cons_self ..); rw [List.sum_cons]; omega
      exact this sg fun x hx => h x (List.mem_cons_of_mem _ hx)
    have r := ih (a + n) fun x hx => h x (List.mem_cons_of_mem _ hx)
    rw [parts, List.sum_append, r, List.sum_cons]
    have h1 := imx_bd a b
    have h2 := imn_bd (a + n) (b + p)
    have h3 := imn_bd (a + n + sg.sum) (b + p)
    have h4 := imx_bd (a + n) b
    have h5 := imx_bd 0 (imn (a + n + sg.sum) (b + p) - imx (a + n) b)
    have h6 := imn_bd (a + (n + sg.sum)) (b + p)
    have h7 := imx_bd 0 (imn (a + (n + sg.sum)) (b + p) - imx a b)
    split
    · rw [List.sum_cons, List.sum_nil]; omega
    · rw [List.sum_nil]; omega
theorem parts_pos (b p : Int) : ∀ (sg : List Int) (a : Int), ∀ x ∈ parts b p a sg, 1 ≤ x := by
  intro sg
  induction sg with
  | nil => intro a x hx; cases hx
  | cons n sg ih =>
    intro a x hx
    rw [parts] at hx
    rcases List.mem_append.1 hx with h | h
    · split at h
      · rw [List.mem_singleton] at h; omega
      · cases h
    · exact ih _ x h
theorem parts_none (b p : Int) : ∀ (sg : List Int) (a : Int), (∀ x ∈ sg, 1 ≤ x) → b + p ≤ a → parts b p a sg = [] := by
  intro sg
  induction sg with
  | nil => intro a _ _; rfl
  | cons n sg ih =>
    intro a h ha
    have hn := h n (List.mem_cons_self ..)
    have h1 := imx_bd a b
    have h2 := imn_bd (a + n) (b + p)
    rw [parts, if_neg (by omega), ih _ (fun x hx => h x (List.mem_cons_of_mem _ hx)) (by omega)]; rfl
theorem parts_same (b p q : Int) (hp : 0 ≤ p) : ∀ (sg : List Int) (a : Int), (∀ x ∈ sg, 1 ≤ x) → b + p ≤ a → parts (b + p) q a sg = parts b (p + q) a sg := by
  intro sg
  induction sg with
  | nil => intro a _ _; rfl
  | cons n sg ih =>
    intro a h ha
    have hn := h n (List.mem_cons_self ..)
    have e1 : imx a (b + p) = imx a b := by have h1 := imx_bd a b; have h2 := imx_bd a (b + p); omega
    rw [parts, parts, ih _ (fun x hx => h x (List.mem_cons_of_mem _ hx)) (by omega), e1, show b + p + q = b + (p + q) from by omega]
/-- The parts of both together. -/
theorem parts_two (b p q : Int) (hp : 1 ≤ p) (hq : 1 ≤ q) : ∀ (sg : List Int) (a : Int), (∀ x ∈ sg, 1 ≤ x) → parts b (p + q) a sg = parts b p a sg ++ parts (b + p) q a sg ∨ ∃ A x y B, parts b p a sg = A ++ [x] ∧ parts (b + p) q a sg = y :: B ∧ parts b (p + q) a sg = A ++ (x + y) :: B := by
  intro sg
  induction sg with
  | nil => intro a _; left; rfl
  | cons n sg ih =>
    intro a h
    have hn := h n (List.mem_cons_self ..)
    have hsg : ∀ x ∈ sg, 1 ≤ x := fun x hx => h x (List.mem_cons_of_mem _ hx)
    have h1 := imx_bd a b
    have h2 := imn_bd (a + n) (b + p)
    have h3 := imx_bd a (b + p)
    have h4 := imn_bd (a + n) (b + p + q)
    have h5 := imn_bd (a + n) (b + (p + q))
    by_cases c1 : b + p ≤ a
    · left
      rw [parts_none b p (n :: sg) a h c1, parts_same b p q (by omega) (n :: sg) a h c1]; rfl
    by_cases c2 : a + n ≤ b + p
    · have eB : parts (b + p) q a (n :: sg) = parts (b + p) q (a + n) sg := by rw [parts, if_neg (by omega)]; rfl
      have e5 : imn (a + n) (b + (p + q)) = imn (a + n) (b + p) := by omega
      rcases ih (a + n) hsg with r | ⟨A, x, y, B, r1, r2, r3⟩
      · left
        rw [eB, parts, parts, e5, r, List.append_assoc]
      · right
        refine ⟨(if imx a b < imn (a + n) (b + p) then [imn (a + n) (b + p) - imx a b] else []) ++ A, x, y, B, ?_, ?_, ?_⟩
        · rw [parts, r1, List.append_assoc]
        · rw [eB, r2]
        · rw [parts, e5, r3, List.append_assoc]
    · right
      refine ⟨[], b + p - imx a b, imn (a + n) (b + p + q) - (b + p), parts (b + p) q (a + n) sg, ?_, ?_, ?_⟩
      · rw [parts, if_pos (by omega), parts_none b p sg (a + n) hsg (by omega), show imn (a + n) (b + p) = b + p from by omega]; rfl
      · rw [parts, if_pos (by omega), show imx a (b + p) = b + p from by omega]; rfl
      · rw [parts, if_pos (by omega), ← parts_same b p q (by omega) sg (a + n) hsg (by omega), show imn (a + n) (b + (p + q)) = imn (a + n) (b + p + q) from by rw [show b + (p + q) = b + p + q from by omega]]
        rw [show imn (a + n) (b + p + q) - imx a b = b + p - imx a b + (imn (a + n) (b + p + q) - (b + p)) from by omega]; rfl
/-- What the statement asks of the parts. -/
theorem pts_two (t1 t2 : Bool) {k : Nat} (hk : 200 < k) {b p q : Int} (hb : 0 ≤ b) (hp : 1 ≤ p) (hq : 1 ≤ q) (h : b + p + q ≤ 178) :
    (pts t1 t2 k b p).sum = p ∧ (pts t1 t2 k (b + p) q).sum = q ∧ (pts t1 t2 k b (p + q)).sum = p + q ∧ (∀ x ∈ pts t1 t2 k b p, 1 ≤ x) ∧ (∀ x ∈ pts t1 t2 k (b + p) q, 1 ≤ x) ∧
    (pts t1 t2 k b (p + q) = pts t1 t2 k b p ++ pts t1 t2 k (b + p) q ∨ ∃ A x y B, pts t1 t2 k b p = A ++ [x] ∧ pts t1 t2 k (b + p) q = y :: B ∧ pts t1 t2 k b (p + q) = A ++ (x + y) :: B) := by
  have e1 : pts t1 t2 k b p = parts b p 0 (segs t1 t2 k 178) := by unfold pts; rw [if_neg (by omega)]
  have e2 : pts t1 t2 k (b + p) q = parts (b + p) q 0 (segs t1 t2 k 178) := by unfold pts; rw [if_neg (by omega)]
  have e3 : pts t1 t2 k b (p + q) = parts b (p + q) 0 (segs t1 t2 k 178) := by unfold pts; rw [if_neg (by omega)]
  have hs := segs_sum t1 t2 (k := k) (by omega)
  have hx := fun x h => ((segs_bd t1 t2 k 178).1 x h).1
  rw [e1, e2, e3]
  refine ⟨?_, ?_, ?_, parts_pos _ _ _ _, parts_pos _ _ _ _, parts_two b p q hp hq _ 0 hx⟩
  · rw [parts_sum b p (by omega) _ 0 hx, hs]
    have h1 := imx_bd 0 b; have h2 := imn_bd (0 + 178) (b + p); have h3 := imx_bd 0 (imn (0 + 178) (b + p) - imx 0 b); omega
  · rw [parts_sum (b + p) q (by omega) _ 0 hx, hs]
    have h1 := imx_bd 0 (b + p); have h2 := imn_bd (0 + 178) (b + p + q); have h3 := imx_bd 0 (imn (0 + 178) (b + p + q) - imx 0 (b + p)); omega
  · rw [parts_sum b (p + q) (by omega) _ 0 hx, hs]
    have h1 := imx_bd 0 b; have h2 := imn_bd (0 + 178) (b + (p + q)); have h3 := imx_bd 0 (imn (0 + 178) (b + (p + q)) - imx 0 b); omega
end Go.Proofs.Ytmanlfonppfhaaa.Sh
