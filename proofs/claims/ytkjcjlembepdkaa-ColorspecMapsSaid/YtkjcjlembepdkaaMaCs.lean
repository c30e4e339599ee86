/- CsMaps: Cs. -/
import Derived.Test.YtkjcjlembepdkaaSh0
import Derived.Test.YtkjcjlembepdkaaSh1
import Derived.Test.YtkjcjlembepdkaaFwY
import Derived.Test.YtkjcjlembepdkaaFwO
import Derived.IntWalk
import Derived.Test.YtkjcjlembepdkaaSh4
import Derived.Test.YtkjcjlembepdkaaSh2
import Derived.Test.YtkjcjlembepdkaaSh3
import Derived.Test.YtkjcjlembepdkaaSh6
import Derived.Test.YtkjcjlembepdkaaSh14
import Derived.Test.YtkjcjlembepdkaaSh9
import Derived.Test.YtkjcjlembepdkaaSh10
import Derived.Test.YtkjcjlembepdkaaSh12
import Derived.Test.YtkjcjlembepdkaaSh7
import Derived.Test.YtkjcjlembepdkaaSh8
/- Colorspec: numbers within bounds, how many are not 0, the depth of a palette. -/
set_option linter.unusedVariables false
set_option linter.unusedSimpArgs false
namespace Go.Proofs.Ytkjcjlembepdkaa.Sh
open Go.Proofs.Ytkjcjlembepdkaa.FW
theorem wf_64 {a : Int} (h : (Lit.int .i64 a).wf = true) : -9223372036854775808 ≤ a ∧ a ≤ 9223372036854775807 := by
  simp only [Lit.wf, IntKind.min, IntKind.max, IntKind.signed, IntKind.bits, Bool.and_eq_true, decide_eq_true_eq, if_true] at h
  exact ⟨by omega, by omega⟩
theorem w64 {n : Int} (h0 : -9223372036854775808 ≤ n) (h1 : n ≤ 9223372036854775807) : IntKind.wrap .i64 n = n := IntWalk.i64_in n ⟨h0, h1⟩
def ints (l : List Int) : List Value := l.map (.int .i64)
theorem ints_len (l : List Int) : (ints l).length = l.length := by simp [ints]
theorem ints_get {l : List Int} {i : Nat} {x : Int} (h : l[i]? = some x) : (ints l)[i]? = some (.int .i64 x) := by simp [ints, h]
theorem int_at {H : Heap} {q : Option Addr} {xs : List Int} (h : Shows H q (ints xs)) {i : Nat} {x : Int} (hi : xs[i]? = some x) :
    ∃ p, (∀ (R : Type) (K : Option Addr → Option R), hidx q xs.length (i : Int) 1 K = K p) ∧ ∀ (R : Type) (K : Int → Option R), ldI .i64 H p K = K x := by
  have hlt : i < xs.length := (List.getElem?_eq_some_iff.1 hi).1
  obtain ⟨p, e, _, m⟩ := h.idx (l := xs.length) (size := 1) (by rw [ints_len]; omega) (i := (i : Int)) (by omega) (by omega) (by omega)
  exact ⟨p, e, fun R K => ldI_of (m _ (by rw [Int.toNat_natCast, Nat.mul_one]; exact ints_get hi)) rfl K⟩
theorem drop_cons {α : Type} {l : List α} {i : Nat} {x : α} (h : l[i]? = some x) : l.drop i = x :: l.drop (i + 1) := by
  obtain ⟨h1, h2⟩ := List.getElem?_eq_some_iff.1 h
  rw [List.drop_eq_getElem_cons h1, h2]
theorem take_snoc {α : Type} {l : List α} {i : Nat} {x : α} (h : l[i]? = some x) : l.take (i + 1) = l.take i ++ [x] := by rw [List.take_add_one, h]; rfl
theorem ex_get {α : Type} {l : List α} {i : Nat} (h : i < l.length) : ∃ x, l[i]? = some x := ⟨_, List.getElem?_eq_getElem h⟩
def inB (lo hi : Int) (xs : List Int) : Bool := xs.all fun x => decide (lo ≤ x ∧ x ≤ hi)
theorem within_l (k : Nat) (lo hi : Int) {H : Heap} {q : Option Addr} {xs : List Int} (c : Nat) (h : Shows H q (ints xs)) (hl : xs.length < 1000000) : ∀ (m n i : Nat), m < n → xs.length = i + m → ∀ (R : Type) (KE : Unit → Option R) (KR : Bool → Option R),
    colorspec_within_l0 k KE KR n lo hi q xs.length c ((xs.length : Nat) : Int) (i : Int) H = bif inB lo hi (xs.drop i) then KE () else KR false := by
  intro m
  induction m with
  | zero =>
    intro n i hn hj R KE KR
    obtain ⟨n, rfl⟩ : ∃ n', n = n' + 1 := ⟨n - 1, by omega⟩
    unfold colorspec_within_l0 colorspec_within_l0_b
    rw [List.drop_eq_nil_of_le (by omega)]
    exact go_f (decide_eq_false (by omega)) rfl
  | succ m ih =>
    intro n i hn hj R KE KR
    obtain ⟨n, rfl⟩ : ∃ n', n = n' + 1 := ⟨n - 1, by omega⟩
    obtain ⟨x, hx⟩ := ex_get (l := xs) (i := i) (by omega)
    obtain ⟨p, e1, e2⟩ := int_at h hx
    rw [drop_cons hx]
    unfold colorspec_within_l0 colorspec_within_l0_b colorspec_within_p1 colorspec_within_p1_b
    refine go_t (decide_eq_true (by omega)) ((e1 _ _).trans ((e2 _ _).trans ?_))
    show _ = bif (decide (lo ≤ x ∧ x ≤ hi) && inB lo hi (xs.drop (i + 1))) then _ else _
    by_cases h1 : x < lo
    · rw [show decide (lo ≤ x ∧ x ≤ hi) = false from decide_eq_false (by omega)]
      exact go_t (decide_eq_true h1) rfl
    · refine go_f (decide_eq_false h1) ?_
      by_cases h2 : x > hi
      · rw [show decide (lo ≤ x ∧ x ≤ hi) = false from decide_eq_false (by omega)]
        exact go_t (decide_eq_true h2) rfl
      · refine go_f (decide_eq_false h2) ?_
        rw [show decide (lo ≤ x ∧ x ≤ hi) = true from decide_eq_true (by omega), Bool.true_and]
        dsimp only
        rw [w64 (n := (i : Int) + 1) (by omega) (by omega)]
        exact ih n (i + 1) (by omega) (by omega) R KE KR
theorem within_eq {k : Nat} (lo hi : Int) {H : Heap} {q : Option Addr} {xs : List Int} (c : Nat) (h : Shows H q (ints xs)) (hl : xs.length < 1000000) (hk : xs.length < k) (R : Type) (K : Bool → Option R) : colorspec_within k lo hi q xs.length c H K = K (inB lo hi xs) := by
  have := within_l k lo hi c h hl xs.length k 0 hk (by omega) R (fun _ => K true) K
  rw [List.drop_zero] at this
  unfold colorspec_within colorspec_within_b
  refine Eq.trans this ?_
  cases inB lo hi xs <;> rfl
/-- The color spaces. -/
def kn (s : Int) : Bool := decide (1 ≤ s ∧ s ≤ 4)
theorem known_eq (s : Int) (R : Type) (K : Bool → Option R) : colorspec_known s K = K (kn s) := by
  unfold colorspec_known colorspec_known_b kn
  by_cases h : s ≥ 1
  · refine go_t (decide_eq_true h) ?_
    congr 1
    by_cases h2 : s ≤ 4
    · rw [decide_eq_true h2, decide_eq_true ⟨by omega, h2⟩]
    · rw [decide_eq_false h2, decide_eq_false (by omega)]
  · refine go_f (decide_eq_false h) ?_
    rw [decide_eq_false (by omega)]
def chan (s : Int) : Int := if s = 1 then 1 else if s = 2 ∨ s = 3 then 3 else 0
theorem chan_eq (s : Int) (R : Type) (K : Int → Option R) : colorspec_Channels s K = K (chan s) := by
  unfold colorspec_Channels colorspec_Channels_b chan
  by_cases h1 : s = 1
  · subst h1; rfl
  by_cases h2 : s = 2
  · subst h2; rfl
  by_cases h3 : s = 3
  · subst h3; rfl
  rw [if_neg h1, if_neg (by omega)]
  rw [show (s == 1) = false from beq_eq_false_iff_ne.2 h1, show (s == 2) = false from beq_eq_false_iff_ne.2 h2, show (s == 3) = false from beq_eq_false_iff_ne.2 h3]
  rfl
def dep (n : Nat) : Int := if n = 2 then 1 else if n = 4 then 2 else if n = 8 then 3 else if n = 16 then 4 else if n = 32 then 5 else if n = 64 then 6 else if n = 128 then 7 else if n = 256 then 8 else 0
theorem shl1 (d : Nat) (hd : d ≤ 8) (R : Type) (K : Int → Option R) : hbin .shl .i64 1 (IntKind.wrap .u64 (d : Int)) K = K ((2 ^ d : Nat) : Int) := by
  have h : d = 0 ∨ d = 1 ∨ d = 2 ∨ d = 3 ∨ d = 4 ∨ d = 5 ∨ d = 6 ∨ d = 7 ∨ d = 8 := by omega
  rcases h with rfl | rfl | rfl | rfl | rfl | rfl | rfl | rfl | rfl <;> rfl
theorem depth_l (k : Nat) (q : Option Addr) (l c : Nat) : ∀ (m n d : Nat), m < n → 9 = d + m → 1 ≤ d → (∀ d', 1 ≤ d' → d' < d → l ≠ 2 ^ d') → ∀ (R : Type) (KE : Unit → Option R) (KR : Int → Option R), (∀ u, KE u = KR 0) →
    colorspec_depth_l0 k KE KR n q l c (d : Int) = KR (dep l) := by
  intro m
  induction m with
  | zero =>
    intro n d hn hd h1 hno R KE KR hK
    obtain ⟨n, rfl⟩ : ∃ n', n = n' + 1 := ⟨n - 1, by omega⟩
    unfold colorspec_depth_l0 colorspec_depth_l0_b
    refine go_f (decide_eq_false (by omega)) ((hK ()).trans ?_)
    have a1 := hno 1 (by omega) (by omega)
    have a2 := hno 2 (by omega) (by omega)
    have a3 := hno 3 (by omega) (by omega)
    have a4 := hno 4 (by omega) (by omega)
    have a5 := hno 5 (by omega) (by omega)
    have a6 := hno 6 (by omega) (by omega)
    have a7 := hno 7 (by omega) (by omega)
    have a8 := hno 8 (by omega) (by omega)
    unfold dep
    rw [if_neg a1, if_neg a2, if_neg a3, if_neg a4, if_neg a5, if_neg a6, if_neg a7, if_neg a8]
  | succ m ih =>
    intro n d hn hd h1 hno R KE KR hK
    obtain ⟨n, rfl⟩ : ∃ n', n = n' + 1 := ⟨n - 1, by omega⟩
    unfold colorspec_depth_l0 colorspec_depth_l0_b
    refine go_t (decide_eq_true (by omega)) ((shl1 d (by omega) _ _).trans ?_)
    by_cases hl : l = 2 ^ d
    · refine go_t (by rw [hl]; exact beq_self_eq_true _) ?_
      subst hl
      have h : d = 1 ∨ d = 2 ∨ d = 3 ∨ d = 4 ∨ d = 5 ∨ d = 6 ∨ d = 7 ∨ d = 8 := by omega
      rcases h with rfl | rfl | rfl | rfl | rfl | rfl | rfl | rfl <;> rfl
    · refine go_f (by rw [beq_eq_false_iff_ne]; omega) ?_
      rw [w64 (n := (d : Int) + 1) (by omega) (by omega)]
      exact ih n (d + 1) (by omega) (by omega) (by omega) (fun d' h2 h3 => by
        by_cases hd : d' = d
        · subst hd; exact hl
        · exact hno d' h2 (by omega)) R KE KR hK
theorem depth_eq {k : Nat} (hk : 10 < k) (q : Option Addr) (l c : Nat) (R : Type) (K : Int → Option R) : colorspec_depth k q l c K = K (dep l) := by
  unfold colorspec_depth colorspec_depth_b
  exact depth_l k q l c 8 k 1 (by omega) rfl (by omega) (fun d' h1 h2 => by omega) R _ _ (fun _ => rfl)
end Go.Proofs.Ytkjcjlembepdkaa.Sh
/- Colorspec: sorting a few numbers, and whether two of them are alike. -/
set_option linter.unusedVariables false
set_option linter.unusedSimpArgs false
namespace Go.Proofs.Ytkjcjlembepdkaa.Sh
open Go.Proofs.Ytkjcjlembepdkaa.FW
/-- A row of numbers of one's own. -/
def iv (f : Nat → Int) : Nat → Value := fun i => .int .i64 (f i)
def up (f : Nat → Int) (i : Nat) (x : Int) : Nat → Int := fun j => if j = i then x else f j
theorem iv_up (f : Nat → Int) (i : Nat) (x : Int) : (fun j => if j = i then Value.int .i64 x else iv f j) = iv (up f i x) := by
  funext j; unfold iv up; split <;> rfl
def Oi (H : Heap) (b n : Nat) (f : Nat → Int) : Prop := ∃ z, Owns H b (vcells n (iv f)) z
theorem Oi.ld {H : Heap} {b n : Nat} {f : Nat → Int} (h : Oi H b n f) {i : Nat} (hi : i < n) (R : Type) (K : Int → Option R) : ldI .i64 H (some ⟨b, i, none⟩) K = K (f i) := by
  obtain ⟨z, h⟩ := h
  exact ldI_of (show pcell H (some ⟨b, i, none⟩) = some (.int .i64 (f i)) from (h.sees.cell i).trans (vcells_get n _ hi)) rfl K
theorem Oi.put {H : Heap} {b n : Nat} {f : Nat → Int} (h : Oi H b n f) {i : Nat} (hi : i < n) (x : Int) :
    ∃ H', (∀ (R : Type) (K : Heap → Option R), hst1 H (some ⟨b, i, none⟩) (.int .i64 x) K = K H') ∧ Oi H' b n (up f i x) ∧ But b H H' ∧ H'.length = H.length := by
  obtain ⟨z, h⟩ := h
  obtain ⟨H', e, o, l, s⟩ := hst1_own (o := i) h (by rw [vcells_len]; exact hi) (.int .i64 x)
  rw [vcells_set n _ hi, iv_up] at o
  exact ⟨H', e, ⟨z, o⟩, ⟨by omega, fun i _ hne => s i hne⟩, l⟩
theorem Oi.lt {H : Heap} {b n : Nat} {f : Nat → Int} (h : Oi H b n f) : b < H.length := by obtain ⟨z, h⟩ := h; exact h.lt
theorem Oi.of {H : Heap} {b z : Nat} {xs : List Int} (h : Owns H b (ints xs) z) : Oi H b xs.length fun i => xs.getD i 0 := by
  refine ⟨z, ?_⟩
  have : vcells xs.length (iv fun i => xs.getD i 0) = ints xs := by
    apply List.ext_getElem?
    intro i
    by_cases hi : i < xs.length
    · rw [vcells_get _ _ hi]; simp [iv, ints, hi]
    · rw [List.getElem?_eq_none (by rw [vcells_len]; omega), List.getElem?_eq_none (by rw [ints_len]; omega)]
  rw [this]; exact h
theorem hx1 (b l : Nat) {n : Int} {i : Nat} (hn : n = i) (hi : i < l) (R : Type) (K : Option Addr → Option R) : hidx (some ⟨b, 0, none⟩) l n 1 K = K (some ⟨b, i, none⟩) := by
  subst hn
  rw [hidx_1 b l 0 (i : Int) (by omega) (by omega)]
  simp
theorem less_eq (a b : Int) (R : Type) (K : Bool → Option R) : cmp_Less_int_ a b K = K (decide (a < b)) := by
  unfold cmp_Less_int_ cmp_Less_int__b cmp_isNaN_int_ cmp_isNaN_int__b
  exact go_ne rfl
/-- The sort's inner loop. -/
def ins : Nat → (Nat → Int) → (Nat → Int)
  | 0, f => f
  | j + 1, f => if f (j + 1) < f j then ins j (up (up f (j + 1) (f j)) j (f (j + 1))) else f
theorem ins_l (k : Nat) (b l c : Nat) (hl : l ≤ 1000000) (lo hi : Int) (ix : Int) (hlo : lo = 0) : ∀ (j n : Nat), j < n → j < l → ∀ (H : Heap) (f : Nat → Int), Oi H b l f →
    ∃ H', (∀ (R : Type) (KE : Option Addr → Nat → Nat → Int → Int → Int → Heap → Option R), slices_insertionSortOrdered_int__l1 k KE n (some ⟨b, 0, none⟩) l c lo hi ix (j : Int) H = KE (some ⟨b, 0, none⟩) l c lo hi ix H') ∧ Oi H' b l (ins j f) ∧ But b H H' ∧ H'.length = H.length := by
  intro j
  induction j with
  | zero =>
    intro n hn hj H f O
    obtain ⟨n, rfl⟩ : ∃ n', n = n' + 1 := ⟨n - 1, by omega⟩
    refine ⟨H, fun R KE => ?_, O, .refl _ _, rfl⟩
    unfold slices_insertionSortOrdered_int__l1 slices_insertionSortOrdered_int__l1_b slices_insertionSortOrdered_int__p2 slices_insertionSortOrdered_int__p2_b
    exact go_f (decide_eq_false (by omega)) rfl
  | succ j ih =>
    intro n hn hj H f O
    obtain ⟨n, rfl⟩ : ∃ n', n = n' + 1 := ⟨n - 1, by omega⟩
    have e1 : IntKind.wrap .i64 (((j + 1 : Nat) : Int) - 1) = ((j : Nat) : Int) := by rw [w64 (by omega) (by omega)]; omega
    by_cases hlt : f (j + 1) < f j
    · obtain ⟨H1, p1, O1, b1, n1⟩ := O.put (i := j + 1) hj (f j)
      obtain ⟨H2, p2, O2, b2, n2⟩ := O1.put (i := j) (by omega) (f (j + 1))
      obtain ⟨H3, e3, O3, b3, n3⟩ := ih n (by omega) (by omega) H2 _ O2
      have hins : ins (j + 1) f = ins j (up (up f (j + 1) (f j)) j (f (j + 1))) := by rw [ins, if_pos hlt]
      rw [hins]
      refine ⟨H3, fun R KE => ?_, O3, (b1.trans b2).trans b3, by omega⟩
      unfold slices_insertionSortOrdered_int__l1 slices_insertionSortOrdered_int__l1_b slices_insertionSortOrdered_int__p2 slices_insertionSortOrdered_int__p2_b
      refine go_t (decide_eq_true (by omega)) ?_
      rw [e1]
      refine (hx1 b l rfl hj _ _).trans ((O.ld hj _ _).trans ((hx1 b l rfl (by omega) _ _).trans ((O.ld (by omega) _ _).trans ((less_eq _ _ _ _).trans (go_t (decide_eq_true hlt) ?_)))))
      dsimp only
      rw [e1]
      refine (hx1 b l rfl (by omega) _ _).trans ((O.ld (by omega) _ _).trans ((hx1 b l rfl hj _ _).trans ((O.ld hj _ _).trans ((hx1 b l rfl hj _ _).trans ((p1 _ _).trans ((hx1 b l rfl (by omega) _ _).trans ((p2 _ _).trans ?_)))))))
      exact e3 R KE
    · have hins : ins (j + 1) f = f := by rw [ins, if_neg hlt]
      rw [hins]
      refine ⟨H, fun R KE => ?_, O, .refl _ _, rfl⟩
      unfold slices_insertionSortOrdered_int__l1 slices_insertionSortOrdered_int__l1_b slices_insertionSortOrdered_int__p2 slices_insertionSortOrdered_int__p2_b
      refine go_t (decide_eq_true (by omega)) ?_
      rw [e1]
      exact (hx1 b l rfl hj _ _).trans ((O.ld hj _ _).trans ((hx1 b l rfl (by omega) _ _).trans ((O.ld (by omega) _ _).trans ((less_eq _ _ _ _).trans (go_f (decide_eq_false hlt) rfl)))))
/-- The sort. -/
def srt : Nat → Nat → (Nat → Int) → (Nat → Int)
  | 0, _, f => f
  | m + 1, i, f => srt m (i + 1) (ins i f)
theorem srt_l (k : Nat) (b l c : Nat) (hl : l ≤ 1000000) (hk : l < k) : ∀ (m n i : Nat), m < n → l = i + m → ∀ (H : Heap) (f : Nat → Int), Oi H b l f →
    ∃ H', (∀ (R : Type) (KE : Heap → Option R), slices_insertionSortOrdered_int__l0 k KE n (some ⟨b, 0, none⟩) l c 0 (l : Int) (i : Int) H = KE H') ∧ Oi H' b l (srt m i f) ∧ But b H H' ∧ H'.length = H.length := by
  intro m
  induction m with
  | zero =>
    intro n i hn hi H f O
    obtain ⟨n, rfl⟩ : ∃ n', n = n' + 1 := ⟨n - 1, by omega⟩
    refine ⟨H, fun R KE => ?_, O, .refl _ _, rfl⟩
    unfold slices_insertionSortOrdered_int__l0 slices_insertionSortOrdered_int__l0_b
    exact go_f (decide_eq_false (by omega)) rfl
  | succ m ih =>
    intro n i hn hi H f O
    obtain ⟨n, rfl⟩ : ∃ n', n = n' + 1 := ⟨n - 1, by omega⟩
    obtain ⟨H1, e1, O1, b1, n1⟩ := ins_l k b l c hl 0 (l : Int) (i : Int) rfl i k (by omega) (by omega) H f O
    obtain ⟨H2, e2, O2, b2, n2⟩ := ih n (i + 1) (by omega) (by omega) H1 _ O1
    refine ⟨H2, fun R KE => ?_, O2, b1.trans b2, by omega⟩
    unfold slices_insertionSortOrdered_int__l0 slices_insertionSortOrdered_int__l0_b
    refine go_t (decide_eq_true (by omega)) ((e1 _ _).trans ?_)
    try dsimp only
    rw [w64 (n := (i : Int) + 1) (by omega) (by omega)]
    exact e2 R KE
/-- Two alike, below a bound. -/
def Dup (n : Nat) (f : Nat → Int) : Prop := ∃ i j, i < n ∧ j < n ∧ i ≠ j ∧ f i = f j
def tw (j i : Nat) : Nat := if i = j then j + 1 else if i = j + 1 then j else i
theorem tw_lt {n j i : Nat} (hj : j + 1 < n) (hi : i < n) : tw j i < n := by unfold tw; split <;> (try split) <;> omega
theorem tw_ne {j a b : Nat} (h : a ≠ b) : tw j a ≠ tw j b := by
  unfold tw; split <;> (try split) <;> (try split) <;> (try split) <;> omega
theorem tw_tw (j i : Nat) : tw j (tw j i) = i := by
  unfold tw
  by_cases h1 : i = j
  · subst h1; simp
  · by_cases h2 : i = j + 1
    · subst h2; simp
    · rw [if_neg h1, if_neg h2, if_neg h1, if_neg h2]
theorem up_tw (f : Nat → Int) (j i : Nat) : up (up f (j + 1) (f j)) j (f (j + 1)) i = f (tw j i) := by
  unfold up tw
  split
  · rfl
  · split <;> rfl
theorem dup_swap {n j : Nat} {f : Nat → Int} (hj : j + 1 < n) : Dup n (up (up f (j + 1) (f j)) j (f (j + 1))) ↔ Dup n f := by
  constructor
  · rintro ⟨a, b, ha, hb, hab, he⟩
    rw [up_tw, up_tw] at he
    exact ⟨tw j a, tw j b, tw_lt hj ha, tw_lt hj hb, tw_ne hab, he⟩
  · rintro ⟨a, b, ha, hb, hab, he⟩
    refine ⟨tw j a, tw j b, tw_lt hj ha, tw_lt hj hb, tw_ne hab, ?_⟩
    rw [up_tw, up_tw, tw_tw, tw_tw]; exact he
theorem dup_ins {n : Nat} : ∀ (j : Nat) (f : Nat → Int), j < n → (Dup n (ins j f) ↔ Dup n f) := by
  intro j
  induction j with
  | zero => intro f _; exact Iff.rfl
  | succ j ih =>
    intro f hj
    rw [ins]
    split
    · exact (ih _ (by omega)).trans (dup_swap hj)
    · exact Iff.rfl
theorem dup_srt {n : Nat} : ∀ (m i : Nat) (f : Nat → Int), i + m ≤ n → (Dup n (srt m i f) ↔ Dup n f) := by
  intro m
  induction m with
  | zero => intro i f _; exact Iff.rfl
  | succ m ih =>
    intro i f h
    rw [srt]
    exact (ih _ _ (by omega)).trans (dup_ins _ _ (by omega))
/-- Rising, below a bound. -/
def Ris (n : Nat) (f : Nat → Int) : Prop := ∀ a b, a < b → b < n → f a ≤ f b
theorem ins_keep : ∀ (j : Nat) (f : Nat → Int) (i : Nat), j < i → ins j f i = f i := by
  intro j
  induction j with
  | zero => intro f i _; rfl
  | succ j ih =>
    intro f i hi
    rw [ins]
    split
    · rw [ih _ _ (by omega), up_tw]; unfold tw; rw [if_neg (by omega), if_neg (by omega)]
    · rfl
theorem ins_ris : ∀ (j : Nat) (f : Nat → Int), Ris j f → Ris (j + 1) (ins j f) ∧ ∀ x, (∀ a, a ≤ j → f a ≤ x) → ∀ a, a ≤ j → ins j f a ≤ x := by
  intro j
  induction j with
  | zero => intro f _; exact ⟨fun a b h1 h2 => by omega, fun x h a ha => h a ha⟩
  | succ j ih =>
    intro f hf
    rw [ins]
    split
    · rename_i hlt
      have hg : Ris j (up (up f (j + 1) (f j)) j (f (j + 1))) := fun a b h1 h2 => by
        rw [up_tw, up_tw]
        have : tw j a = a := by unfold tw; rw [if_neg (by omega), if_neg (by omega)]
        have h3 : tw j b = b := by unfold tw; rw [if_neg (by omega), if_neg (by omega)]
        rw [this, h3]
        exact hf a b h1 (by omega)
      obtain ⟨g1, g2⟩ := ih _ hg
      have hb : ∀ a, a ≤ j → up (up f (j + 1) (f j)) j (f (j + 1)) a ≤ f j := fun a ha => by
        rw [up_tw]; unfold tw
        split
        · omega
        · rw [if_neg (by omega)]; exact hf a j (by omega) (by omega)
      have htop : ins j (up (up f (j + 1) (f j)) j (f (j + 1))) (j + 1) = f j := by
        rw [ins_keep _ _ _ (by omega), up_tw]; unfold tw; rw [if_neg (by omega), if_pos rfl]
      refine ⟨fun a b h1 h2 => ?_, fun x hx a ha => ?_⟩
      · by_cases hbj : b = j + 1
        · subst hbj; rw [htop]; exact g2 _ hb a (by omega)
        · exact g1 a b h1 (by omega)
      · by_cases haj : a = j + 1
        · subst haj; rw [htop]; exact hx j (by omega)
        · exact Int.le_trans (g2 _ hb a (by omega)) (hx j (by omega))
    · rename_i hlt
      refine ⟨fun a b h1 h2 => ?_, fun x hx a ha => hx a ha⟩
      by_cases hbj : b = j + 1
      · subst hbj
        by_cases haj : a = j
        · subst haj; omega
        · have := hf a j (by omega) (by omega); omega
      · exact hf a b h1 (by omega)
theorem srt_ris : ∀ (m i : Nat) (f : Nat → Int), Ris i f → Ris (i + m) (srt m i f) := by
  intro m
  induction m with
  | zero => intro i f h; exact h
  | succ m ih =>
    intro i f h
    rw [srt, show i + (m + 1) = (i + 1) + m from by omega]
    exact ih _ _ (ins_ris i f h).1
/-- In a rising row two that are alike stand side by side. -/
theorem ris_dup {n : Nat} {f : Nat → Int} (h : Ris n f) : Dup n f ↔ ∃ i, i + 1 < n ∧ f (i + 1) = f i := by
  constructor
  · rintro ⟨a, b, ha, hb, hab, he⟩
    have key : ∀ a b, a < b → b < n → f a = f b → ∃ i, i + 1 < n ∧ f (i + 1) = f i := fun a b h1 h2 he => by
      refine ⟨a, by omega, ?_⟩
      have x1 := h a (a + 1) (by omega) (by omega)
      by_cases hb : b = a + 1
      · subst hb; exact he.symm
      · have x2 := h (a + 1) b (by omega) h2; omega
    rcases Nat.lt_or_gt_of_ne hab with h1 | h1
    · exact key a b h1 hb he
    · exact key b a h1 ha he.symm
  · rintro ⟨i, hi, he⟩
    exact ⟨i, i + 1, by omega, hi, by omega, he.symm⟩
end Go.Proofs.Ytkjcjlembepdkaa.Sh
/- Colorspec: a row is cloned, sorted, made compact. -/
set_option linter.unusedVariables false
set_option linter.unusedSimpArgs false
namespace Go.Proofs.Ytkjcjlembepdkaa.Sh
open Go.Proofs.Ytkjcjlembepdkaa.FW
theorem clone_eq {H : Heap} {q : Option Addr} {xs : List Int} (c : Nat) (h : Shows H q (ints xs)) (h0 : 0 < xs.length) (hl : xs.length ≤ 1000000) :
    ∃ H', (∀ (R : Type) (K : Option Addr → Nat → Nat → Heap → Option R), slices_Clone___int_int_ q xs.length c H K = K (some ⟨H.length + 1, 0, none⟩) xs.length unk H') ∧ Owns H' (H.length + 1) (ints xs) 1 ∧ Old H.length H H' ∧ H'.length = H.length + 2 := by
  have hq : q.isNone = false := by
    rcases h with h | ⟨b, o, full, rfl, _⟩
    · have := congrArg List.length h; rw [ints_len] at this; simp at this; subst this; simp at h0
    · rfl
  obtain ⟨H1, hH1⟩ : ∃ H1, H1 = H ++ [some (⟨[], false, 0⟩ : Blk)] := ⟨_, rfl⟩
  have o1 : Old H.length H H1 := hH1 ▸ Old.app _ _
  have l1 : H1.length = H.length + 1 := by rw [hH1]; simp
  obtain ⟨H2, hH2⟩ : ∃ H2, H2 = H1 ++ [some (⟨ints xs, false, 1⟩ : Blk)] := ⟨_, rfl⟩
  have o2 : Old H1.length H1 H2 := hH2 ▸ Old.app _ _
  refine ⟨H2, fun R K => ?_, ?_, o1.trans (o2.mono (by omega)), by rw [hH2]; simp [l1]⟩
  · unfold slices_Clone___int_int_ slices_Clone___int_int__b
    refine go_f hq (go_halN hH1 ?_)
    have hs := (h.old o1 (by
      rcases h with h | ⟨b, o, full, rfl, h1, _⟩
      · exact .inl h
      · exact .inr fun a ha => by cases ha; exact h1.lt)).hcells
    rw [ints_len] at hs
    unfold happS happ
    rw [Nat.mul_one, hs]
    dsimp only
    have hc : FW.hcells H1 (some ⟨H.length, 0, none⟩) (0 * 1) = some [] := by unfold FW.hcells; rw [if_pos rfl]
    rw [if_neg (by unfold unk; omega), if_neg (by omega), if_pos (by omega), hc, Nat.zero_add]
    show K _ _ _ _ = _
    rw [l1, hH2]; rfl
  · rw [← l1, hH2]; exact hblk_new H1 _
theorem len_ex {l : Nat} (h0 : 0 < l) (h4 : l ≤ 4) (k : Nat) : ∃ n, ∀ (R : Type) (K : Int → Option R), bits_Len k (IntKind.wrap .u64 ((l : Nat) : Int)) K = K n := by
  have h : l = 1 ∨ l = 2 ∨ l = 3 ∨ l = 4 := by omega
  rcases h with rfl | rfl | rfl | rfl
  · exact ⟨1, fun R K => by kernel_rfl⟩
  · exact ⟨2, fun R K => by kernel_rfl⟩
  · exact ⟨2, fun R K => by kernel_rfl⟩
  · exact ⟨3, fun R K => by kernel_rfl⟩
theorem sort_eq {k : Nat} (hk : 100 < k) {H : Heap} {b l : Nat} (c : Nat) {f : Nat → Int} (O : Oi H b l f) (h0 : 0 < l) (h4 : l ≤ 4) :
    ∃ H', (∀ (R : Type) (K : Heap → Option R), slices_Sort___int_int_ k (some ⟨b, 0, none⟩) l c H K = K H') ∧ Oi H' b l (srt (l - 1) 1 f) ∧ But b H H' ∧ H'.length = H.length := by
  obtain ⟨n, en⟩ := len_ex h0 h4 k
  obtain ⟨H1, e1, O1, b1, n1⟩ := srt_l k b l c (by omega) (by omega) (l - 1) k 1 (by omega) (by omega) H f O
  refine ⟨H1, fun R K => ?_, O1, b1, n1⟩
  obtain ⟨k, rfl⟩ : ∃ k', k = k' + 1 := ⟨k - 1, by omega⟩
  unfold slices_Sort___int_int_ slices_Sort___int_int__b
  refine (en _ _).trans ?_
  unfold slices_pdqsortOrdered_int_ slices_pdqsortOrdered_int__b slices_pdqsortOrdered_int__l0 slices_pdqsortOrdered_int__l0_b
  refine go_t (decide_eq_true (by rw [w64 (by omega) (by omega)]; omega)) ?_
  unfold slices_insertionSortOrdered_int_ slices_insertionSortOrdered_int__b
  exact e1 _ _
theorem cmp_l1 (k : Nat) (b l c : Nat) (hl : l ≤ 1000000) (i0 : Nat) (c2 : Nat) (hi0 : i0 < l) : ∀ (m n j : Nat), m < n → l - i0 = j + m → 1 ≤ j → ∀ (H : Heap) (f : Nat → Int) (i : Nat), Oi H b l f → i ≤ i0 + j - 1 → 1 ≤ i →
    ∃ H' f' i', (∀ (R : Type) (KE : Option Addr → Nat → Nat → Int → Heap → Option R), slices_Compact___int_int__l1 k KE n (some ⟨b, 0, none⟩) l c (i : Int) (some ⟨b, i0, none⟩) (l - i0) c2 (j : Int) H = KE (some ⟨b, 0, none⟩) l c ((i' : Nat) : Int) H') ∧ Oi H' b l f' ∧ (i' < l ∧ 1 ≤ i') ∧ But b H H' ∧ H'.length = H.length := by
  intro m
  induction m with
  | zero =>
    intro n j hn hj h1 H f i O hi h1i
    obtain ⟨n, rfl⟩ : ∃ n', n = n' + 1 := ⟨n - 1, by omega⟩
    refine ⟨H, f, i, fun R KE => ?_, O, ⟨by omega, h1i⟩, .refl _ _, rfl⟩
    unfold slices_Compact___int_int__l1 slices_Compact___int_int__l1_b
    exact go_f (decide_eq_false (by omega)) rfl
  | succ m ih =>
    intro n j hn hj h1 H f i O hi h1i
    obtain ⟨n, rfl⟩ : ∃ n', n = n' + 1 := ⟨n - 1, by omega⟩
    have hx : ∀ (t : Nat) (n : Int), n = t → t < l - i0 → ∀ (R : Type) (K : Option Addr → Option R), hidx (some ⟨b, i0, none⟩) (l - i0) n 1 K = K (some ⟨b, i0 + t, none⟩) := by
      intro t n hn ht R K
      subst hn
      rw [hidx_1 b (l - i0) i0 (t : Int) (by omega) (by omega)]
      simp
    have e1 : IntKind.wrap .i64 ((j : Int) - 1) = ((j - 1 : Nat) : Int) := by rw [w64 (by omega) (by omega)]; omega
    by_cases hne : f (i0 + j) = f (i0 + (j - 1))
    · obtain ⟨H3, f3, i3, e3, O3, hi3, b3, n3⟩ := ih n (j + 1) (by omega) (by omega) (by omega) H f i O (by omega) h1i
      refine ⟨H3, f3, i3, fun R KE => ?_, O3, hi3, b3, n3⟩
      unfold slices_Compact___int_int__l1 slices_Compact___int_int__l1_b slices_Compact___int_int__p2 slices_Compact___int_int__p2_b
      refine go_t (decide_eq_true (by omega)) ?_
      rw [e1]
      refine (hx j _ rfl (by omega) _ _).trans ((O.ld (by omega) _ _).trans ((hx (j - 1) _ rfl (by omega) _ _).trans ((O.ld (by omega) _ _).trans (go_f (by rw [hne]; exact bne_self_eq_false' _) ?_))))
      try dsimp only
      rw [w64 (n := (j : Int) + 1) (by omega) (by omega)]
      exact e3 R KE
    · obtain ⟨H1, p1, O1, b1, n1⟩ := O.put (i := i) (by omega) (f (i0 + j))
      obtain ⟨H3, f3, i3, e3, O3, hi3, b3, n3⟩ := ih n (j + 1) (by omega) (by omega) (by omega) H1 _ (i + 1) O1 (by omega) (by omega)
      refine ⟨H3, f3, i3, fun R KE => ?_, O3, hi3, b1.trans b3, by omega⟩
      unfold slices_Compact___int_int__l1 slices_Compact___int_int__l1_b slices_Compact___int_int__p2 slices_Compact___int_int__p2_b
      refine go_t (decide_eq_true (by omega)) ?_
      rw [e1]
      refine (hx j _ rfl (by omega) _ _).trans ((O.ld (by omega) _ _).trans ((hx (j - 1) _ rfl (by omega) _ _).trans ((O.ld (by omega) _ _).trans (go_t (by rw [bne_iff_ne]; exact hne) ?_))))
      refine (hx j _ rfl (by omega) _ _).trans ((O.ld (by omega) _ _).trans ((hx1 b l rfl (by omega) _ _).trans ((p1 _ _).trans ?_)))
      try dsimp only
      rw [w64 (n := (j : Int) + 1) (by omega) (by omega), w64 (n := (i : Int) + 1) (by omega) (by omega)]
      exact e3 R KE
/-- A slice from a place on, of a row whose capacity is not known. -/
theorem slc_lo {b l : Nat} {i : Nat} (hl : l < unk) (h0 : 0 < i) (hi : i < l) (R : Type) (K : Option Addr → Nat → Nat → Option R) : hslc 1 (some ⟨b, 0, none⟩) l unk (some ((i : Nat) : Int)) none none K = K (some ⟨b, i, none⟩) (l - i) unk := by
  unfold hslc
  dsimp only [Option.getD_some, Option.getD_none, Option.isSome_none, Option.isSome_some]
  rw [if_pos ⟨by omega, by omega, by omega, by rw [if_pos rfl]; exact ⟨rfl, .inr ⟨rfl, by omega⟩⟩⟩, if_pos ⟨rfl, rfl⟩, if_neg (by omega), if_pos ⟨by omega, by omega⟩]
  simp
theorem slc_hi {b l : Nat} {i : Nat} (hl : l < unk) (hi : i ≤ l) (R : Type) (K : Option Addr → Nat → Nat → Option R) : hslc 1 (some ⟨b, 0, none⟩) l unk none (some ((i : Nat) : Int)) none K = K (some ⟨b, 0, none⟩) i unk := by
  unfold hslc
  dsimp only [Option.getD_some, Option.getD_none, Option.isSome_none, Option.isSome_some]
  rw [if_pos ⟨by omega, by omega, by omega, by rw [if_pos rfl]; exact ⟨rfl, .inr ⟨rfl, by omega⟩⟩⟩, if_pos ⟨rfl, rfl⟩, if_pos rfl]
  simp
theorem clr_eq {H : Heap} {b l i : Nat} {f : Nat → Int} (O : Oi H b l f) (hi : i ≤ l) : ∃ H', (∀ (R : Type) (K : Heap → Option R), hclr [.int .i64 0] H (some ⟨b, i, none⟩) (l - i) K = K H') ∧ But b H H' ∧ H'.length = H.length := by
  by_cases h0 : l - i = 0
  · exact ⟨H, fun R K => by unfold hclr; rw [if_pos h0], .refl _ _, rfl⟩
  · obtain ⟨z, O⟩ := O
    obtain ⟨H', e, o, n, s⟩ := hst_own (o := i) (vs := mkCells [.int .i64 0] (l - i)) O (by rw [vcells_len, mkCells_v, vcells_len]; omega) (by
      rw [mkCells_v]; exact List.all_eq_true.2 fun v hv => by unfold vcells at hv; obtain ⟨j, _, rfl⟩ := List.mem_map.1 hv; rfl)
    exact ⟨H', fun R K => by unfold hclr; rw [if_neg h0]; exact e R K, ⟨by omega, fun i _ hne => s i hne⟩, n⟩
theorem cmp_l0 (k : Nat) (b l : Nat) (hl : l ≤ 1000000) (hk : l < k) {f : Nat → Int} : ∀ (m n i : Nat), m < n → l = i + m → 1 ≤ i → (∀ i', i' + 1 < i → f (i' + 1) ≠ f i') → ∀ (H : Heap), Oi H b l f →
    ∃ H' l', (∀ (R : Type) (KE KR : Option Addr → Nat → Nat → Heap → Option R), slices_Compact___int_int__l0 k KE KR n (some ⟨b, 0, none⟩) l unk (i : Int) H = if l' = l then KE (some ⟨b, 0, none⟩) l unk H' else KR (some ⟨b, 0, none⟩) l' unk H') ∧ (l' = l ↔ ¬ ∃ i, i + 1 < l ∧ f (i + 1) = f i) ∧ But b H H' ∧ H'.length = H.length := by
  intro m
  induction m with
  | zero =>
    intro n i hn hi h1 hno H O
    obtain ⟨n, rfl⟩ : ∃ n', n = n' + 1 := ⟨n - 1, by omega⟩
    refine ⟨H, l, fun R KE KR => ?_, ⟨fun _ ⟨i', h2, h3⟩ => hno i' (by omega) h3, fun _ => rfl⟩, .refl _ _, rfl⟩
    unfold slices_Compact___int_int__l0 slices_Compact___int_int__l0_b
    rw [if_pos rfl]
    exact go_f (decide_eq_false (by omega)) rfl
  | succ m ih =>
    intro n i hn hi h1 hno H O
    obtain ⟨n, rfl⟩ : ∃ n', n = n' + 1 := ⟨n - 1, by omega⟩
    have e1 : IntKind.wrap .i64 ((i : Int) - 1) = ((i - 1 : Nat) : Int) := by rw [w64 (by omega) (by omega)]; omega
    have start : ∀ (R : Type) (KE KR : Option Addr → Nat → Nat → Heap → Option R) (r : Option R), (bif (f i == f (i - 1)) then (hslc 1 (some ⟨b, 0, none⟩) l unk (some ((i : Nat) : Int)) none none fun q9 l10 c11 => slices_Compact___int_int__l1 k (fun q16 l17 c18 n19 H20 => hslc 1 q16 l17 c18 (some n19) none none fun q21 l22 c23 => hclr [.int .i64 0] H20 q21 l22 fun H24 => hslc 1 q16 l17 c18 none (some n19) none fun q25 l26 c27 => KR q25 l26 c27 H24) k (some ⟨b, 0, none⟩) l unk (i : Int) q9 l10 c11 1 H) else slices_Compact___int_int__l0 k KE KR n (some ⟨b, 0, none⟩) l unk (IntKind.wrap .i64 ((i : Int) + 1)) H) = r → slices_Compact___int_int__l0 k KE KR (n + 1) (some ⟨b, 0, none⟩) l unk (i : Int) H = r := by
      intro R KE KR r h
      unfold slices_Compact___int_int__l0 slices_Compact___int_int__l0_b
      refine go_t (decide_eq_true (by omega)) ((hx1 b l rfl (by omega) _ _).trans ((O.ld (by omega) _ _).trans ?_))
      rw [e1]
      exact (hx1 b l rfl (by omega) _ _).trans ((O.ld (by omega) _ _).trans h)
    by_cases he : f i = f (i - 1)
    · obtain ⟨H1, f1, i1, e2, O1, ⟨hi1, hi1'⟩, b1, n1⟩ := cmp_l1 k b l unk hl i unk (by omega) (l - i - 1) k 1 (by omega) (by omega) (by omega) H f i O (by omega) h1
      obtain ⟨H2, e3, b2, n2⟩ := clr_eq O1 (i := i1) (by omega)
      have hd : ∃ i, i + 1 < l ∧ f (i + 1) = f i := ⟨i - 1, by omega, by rw [show i - 1 + 1 = i from by omega]; exact he⟩
      have hu : l < unk := by unfold unk; omega
      refine ⟨H2, i1, fun R KE KR => start R KE KR _ ?_, ⟨fun h => by omega, fun h => (h hd).elim⟩, b1.trans b2, by omega⟩
      rw [if_neg (by omega)]
      refine go_t (by rw [he]; exact beq_self_eq_true _) ((slc_lo hu (by omega) (by omega) _ _).trans ?_)
      refine (e2 _ _).trans ((slc_lo hu (by omega) hi1 _ _).trans ((e3 _ _).trans ((slc_hi hu (by omega) _ _).trans rfl)))
    · obtain ⟨H1, l1, e2, hl1, b1, n1⟩ := ih n (i + 1) (by omega) (by omega) (by omega) (fun i' h2 h3 => by
        by_cases hc : i' + 1 = i
        · subst hc; exact he h3
        · exact hno i' (by omega) h3) H O
      refine ⟨H1, l1, fun R KE KR => start R KE KR _ ?_, hl1, b1, n1⟩
      refine go_f (by rw [beq_eq_false_iff_ne]; exact he) ?_
      rw [w64 (n := (i : Int) + 1) (by omega) (by omega)]
      exact e2 R KE KR
/-- Compact: as long as the row was, if no two that stand side by side are alike. -/
theorem compact_eq {k : Nat} {b l : Nat} (hl : l ≤ 1000000) (hk : l < k) {f : Nat → Int} {H : Heap} (O : Oi H b l f) :
    ∃ H' l', (∀ (R : Type) (K : Option Addr → Nat → Nat → Heap → Option R), slices_Compact___int_int_ k (some ⟨b, 0, none⟩) l unk H K = K (some ⟨b, 0, none⟩) l' unk H') ∧ (l' = l ↔ ¬ ∃ i, i + 1 < l ∧ f (i + 1) = f i) ∧ But b H H' ∧ H'.length = H.length := by
  by_cases h2 : l < 2
  · refine ⟨H, l, fun R K => ?_, ⟨fun _ ⟨i, hi, _⟩ => by omega, fun _ => rfl⟩, .refl _ _, rfl⟩
    unfold slices_Compact___int_int_ slices_Compact___int_int__b
    exact go_t (decide_eq_true (by omega)) rfl
  · obtain ⟨H1, l1, e, hl1, b1, n1⟩ := cmp_l0 k b l hl hk (f := f) (l - 1) k 1 (by omega) (by omega) (by omega) (fun i' h => by omega) H O
    refine ⟨H1, l1, fun R K => ?_, hl1, b1, n1⟩
    unfold slices_Compact___int_int_ slices_Compact___int_int__b
    refine go_f (decide_eq_false (by omega)) ((e _ _ _).trans ?_)
    split
    · rename_i h; subst h; rfl
    · rfl
end Go.Proofs.Ytkjcjlembepdkaa.Sh
/- Colorspec: what a color specification must be; the program's validate. -/
set_option linter.unusedVariables false
set_option linter.unusedSimpArgs false
namespace Go.Proofs.Ytkjcjlembepdkaa.Sh
open Go.Proofs.Ytkjcjlembepdkaa.FW
def nzc (rs : List Int) : Nat := (rs.filter fun x => x != 0).length
def rolesB (s : Int) (rs : List Int) : Bool := decide (1 ≤ rs.length) && decide (rs.length ≤ 4) && decide (1 ≤ nzc rs) && decide (rs.length ≤ nzc rs + 1) && (decide (s = 4) || decide ((nzc rs : Int) = chan s)) && inB 0 (nzc rs) rs && decide rs.Nodup
/-- A row of a palette: where, its capacity, the numbers. -/
abbrev Rw := Option Addr × Nat × List Int
def rc (r : Rw) : Value := .slice r.1 r.2.2.length r.2.1
structure PalS (H : Heap) (q : Option Addr) (rows : List Rw) : Prop where
  sh : Shows H q (rows.map rc)
  rw : ∀ r ∈ rows, Shows H r.1 (ints r.2.2)
theorem PalS.keep {H H' : Heap} {q : Option Addr} {rows : List Rw} (h : PalS H q rows) (o : Old H.length H H') : PalS H' q rows := ⟨h.sh.keep o, fun r hr => (h.rw r hr).keep o⟩
theorem row_at {H : Heap} {q : Option Addr} {rows : List Rw} (h : PalS H q rows) {i : Nat} {r : Rw} (hi : rows[i]? = some r) :
    ∃ p, (∀ (R : Type) (K : Option Addr → Option R), hidx q rows.length (i : Int) 1 K = K p) ∧ ∀ (R : Type) (K : Option Addr → Nat → Nat → Option R), ldL H p K = K r.1 r.2.2.length r.2.1 := by
  have hlt : i < rows.length := (List.getElem?_eq_some_iff.1 hi).1
  obtain ⟨p, e, _, m⟩ := h.sh.idx (l := rows.length) (size := 1) (by simp) (i := (i : Int)) (by omega) (by omega) (by omega)
  exact ⟨p, e, fun R K => ldL_of (m _ (by rw [Int.toNat_natCast, Nat.mul_one, List.getElem?_map, hi]; rfl)) K⟩
/-- A color specification's cells. -/
def cl (s : Int) (q : Option Addr) (l c : Nat) (q2 : Option Addr) (l2 c2 : Nat) : List Value := [.int .i64 s, .slice q l c, .slice q2 l2 c2]
theorem cnt_l (k : Nat) (p : Option Addr) {H : Heap} {q : Option Addr} {xs : List Int} (c : Nat) (h : Shows H q (ints xs)) (hl : xs.length < 1000000) : ∀ (m n i : Nat), m < n → xs.length = i + m → ∀ (R : Type) (KE : Option Addr → Int → Option R),
    colorspec_roles_l1 k KE n p ((nzc (xs.take i) : Nat) : Int) q xs.length c ((xs.length : Nat) : Int) (i : Int) H = KE p ((nzc xs : Nat) : Int) := by
  intro m
  induction m with
  | zero =>
    intro n i hn hj R KE
    obtain ⟨n, rfl⟩ : ∃ n', n = n' + 1 := ⟨n - 1, by omega⟩
    unfold colorspec_roles_l1 colorspec_roles_l1_b
    rw [List.take_of_length_le (by omega)]
    exact go_f (decide_eq_false (by omega)) rfl
  | succ m ih =>
    intro n i hn hj R KE
    obtain ⟨n, rfl⟩ : ∃ n', n = n' + 1 := ⟨n - 1, by omega⟩
    obtain ⟨x, hx⟩ := ex_get (l := xs) (i := i) (by omega)
    obtain ⟨p', e1, e2⟩ := int_at h hx
    have hle : nzc (xs.take i) ≤ xs.length := by
      unfold nzc
      exact Nat.le_trans (List.length_filter_le _ _) (by rw [List.length_take]; omega)
    have ih' := ih n (i + 1) (by omega) (by omega) R KE
    rw [take_snoc hx] at ih'
    unfold colorspec_roles_l1 colorspec_roles_l1_b colorspec_roles_p2 colorspec_roles_p2_b
    refine go_t (decide_eq_true (by omega)) ((e1 _ _).trans ((e2 _ _).trans ?_))
    by_cases h0 : x = 0
    · have : nzc (xs.take i ++ [x]) = nzc (xs.take i) := by unfold nzc; rw [List.filter_append]; simp [h0]
      rw [this] at ih'
      refine go_f (by rw [h0]; rfl) ?_
      dsimp only
      rw [w64 (n := (i : Int) + 1) (by omega) (by omega)]
      exact ih'
    · have : nzc (xs.take i ++ [x]) = nzc (xs.take i) + 1 := by unfold nzc; rw [List.filter_append]; simp [h0]
      rw [this] at ih'
      refine go_t (by rw [bne_iff_ne]; exact h0) ?_
      dsimp only
      rw [w64 (n := (i : Int) + 1) (by omega) (by omega), w64 (n := ((nzc (xs.take i) : Nat) : Int) + 1) (by omega) (by omega)]
      exact ih'
theorem nodup_dup (xs : List Int) : xs.Nodup ↔ ¬ Dup xs.length fun i => xs.getD i 0 := by
  unfold Dup
  rw [List.nodup_iff_pairwise_ne, List.pairwise_iff_getElem]
  constructor
  · rintro h ⟨i, j, hi, hj, hne, he⟩
    have e1 : xs.getD i 0 = xs[i] := by simp [hi]
    have e2 : xs.getD j 0 = xs[j] := by simp [hj]
    have he : xs[i] = xs[j] := e1.symm.trans (he.trans e2)
    rcases Nat.lt_or_gt_of_ne hne with h1 | h1
    · exact h i j hi hj h1 he
    · exact h j i hj hi h1 he.symm
  · intro h i j hi hj hij he
    refine h ⟨i, j, hi, hj, by omega, ?_⟩
    simp [hi, hj, he]
theorem roles_eq {k : Nat} (hk : 1000 < k) {H : Heap} {q q2 : Option Addr} {rs : List Int} (s : Int) (c l2 c2 : Nat) (h : Shows H q (ints rs)) (hl : rs.length ≤ 1000) :
    ∃ H', (∀ (R : Type) (K : Bool → Heap → Option R), colorspec_roles k s q rs.length c q2 l2 c2 H K = K (rolesB s rs) H') ∧ Old H.length H H' := by
  obtain ⟨H1, hH1⟩ : ∃ H1, H1 = H ++ [some (⟨[.int .i64 s, .slice q rs.length c, .slice q2 l2 c2], false, 0⟩ : Blk)] := ⟨_, rfl⟩
  have o1 : Old H.length H H1 := hH1 ▸ Old.app _ _
  have O1 : Owns H1 H.length [.int .i64 s, .slice q rs.length c, .slice q2 l2 c2] 0 := by rw [hH1]; exact hblk_new H _
  have l1 : H1.length = H.length + 1 := by rw [hH1]; simp
  have m0 : hcell H1 H.length 0 = some (.int .i64 s) := O1.sees.cell 0
  have m1 : hcell H1 H.length 1 = some (.slice q rs.length c) := O1.sees.cell 1
  have h1 := h.keep o1
  have cnt := cnt_l k (some ⟨H.length, 0, none⟩) c h1 (by omega) rs.length k 0 (by omega) (by omega)
  by_cases c1 : rs.length < 1
  · refine ⟨H1, fun R K => ?_, o1⟩
    rw [show rolesB s rs = false from by unfold rolesB; rw [decide_eq_false (by omega)]; rfl]
    unfold colorspec_roles colorspec_roles_b colorspec_roles_p0 colorspec_roles_p0_b
    exact go_halN hH1 (go_fad (go_l m1 (go_t (decide_eq_true (by omega)) rfl)))
  by_cases c2' : rs.length > 4
  · refine ⟨H1, fun R K => ?_, o1⟩
    rw [show rolesB s rs = false from by unfold rolesB; rw [decide_eq_false (p := rs.length ≤ 4) (by omega), Bool.and_false]; rfl]
    unfold colorspec_roles colorspec_roles_b colorspec_roles_p0 colorspec_roles_p0_b
    exact go_halN hH1 (go_fad (go_l m1 (go_f (decide_eq_false (by omega)) (go_fad (go_l m1 (go_t (decide_eq_true (by omega)) rfl))))))
  have start : ∀ (R : Type) (K : Bool → Heap → Option R) (r : Option R), colorspec_roles_p3 k (some ⟨H.length, 0, none⟩) ((nzc rs : Nat) : Int) H1 (fun p23 => hfad 1 p23 fun p24 => ldL H1 p24 fun q25 l26 c27 => slices_Clone___int_int_ q25 l26 c27 H1 fun q28 l29 c30 H31 => slices_Sort___int_int_ k q28 l29 c30 H31 fun H32 => hfrz H32 p23 fun H33 => slices_Compact___int_int_ k q28 l29 c30 H33 fun q34 l35 c36 H37 => hfad 1 p23 fun p38 => bif isRo H33 p38 then (ldL H33 p38 fun q39 l40 c41 => K (((l35 : Nat) : Int) == ((l40 : Nat) : Int)) H37) else none) (fun t42 => K t42 H1) = r → colorspec_roles k s q rs.length c q2 l2 c2 H K = r := by
    intro R K r hr
    unfold colorspec_roles colorspec_roles_b colorspec_roles_p0 colorspec_roles_p0_b
    exact go_halN hH1 (go_fad (go_l m1 (go_f (decide_eq_false (by omega)) (go_fad (go_l m1 (go_f (decide_eq_false (by omega)) (go_fad (go_l m1 ((cnt _ _).trans hr)))))))))
  have hn : nzc rs ≤ rs.length := List.length_filter_le _ _
  have hsub : IntKind.wrap .i64 (((rs.length : Nat) : Int) - ((nzc rs : Nat) : Int)) = ((rs.length : Nat) : Int) - ((nzc rs : Nat) : Int) := w64 (by omega) (by omega)
  have wi := within_eq (k := k) 0 ((nzc rs : Nat) : Int) c h1 (by omega) (by omega)
  -- the end
  obtain ⟨H2, e2, O2, o2, l2'⟩ := clone_eq c h1 (by omega) (by omega)
  obtain ⟨H3, e3, O3, b3, n3⟩ := sort_eq (k := k) (by omega) unk (Oi.of O2) (by omega) (by omega)
  have Ob3 : Owns H3 H.length [.int .i64 s, .slice q rs.length c, .slice q2 l2 c2] 0 := (O1.old o2 (by omega)).but b3 (by omega)
  obtain ⟨H4, e4, c4, r4, b4, n4⟩ := frz_own (o := 0) (s := none) Ob3
  have O4 : Oi H4 (H1.length + 1) rs.length (srt (rs.length - 1) 1 fun i => rs.getD i 0) := by obtain ⟨z, O3⟩ := O3; exact ⟨z, O3.but b4 (by omega)⟩
  obtain ⟨H5, l5, e5, hl5, b5, n5⟩ := compact_eq (k := k) (by omega) (by omega) O4
  have hris : Ris rs.length (srt (rs.length - 1) 1 fun i => rs.getD i 0) := by
    have := srt_ris (rs.length - 1) 1 (fun i => rs.getD i 0) (fun a b h1 h2 => by omega)
    rwa [show 1 + (rs.length - 1) = rs.length from by omega] at this
  have hnd : (l5 = rs.length) ↔ rs.Nodup := by
    rw [hl5, ← ris_dup hris, dup_srt _ _ _ (by omega), nodup_dup]
  have hK : (((l5 : Nat) : Int) == ((rs.length : Nat) : Int)) = decide rs.Nodup := by
    by_cases hd : rs.Nodup
    · rw [decide_eq_true hd, hnd.2 hd]; exact beq_self_eq_true _
    · rw [decide_eq_false hd, beq_eq_false_iff_ne]; intro he; exact hd (hnd.1 (by omega))
  have m4 : hcell H4 H.length 1 = some (.slice q rs.length c) := c4 1
  have oo : Old H.length H H5 := o1.trans ((o2.mono (by omega)).trans ((b3.old (by omega) (by omega)).trans ((b4.old (by omega) (by omega)).trans (b5.old (by omega) (by omega)))))
  have fin : ∀ (R : Type) (K : Bool → Heap → Option R), (hfad 1 (some ⟨H.length, 0, none⟩) fun p24 => ldL H1 p24 fun q25 l26 c27 => slices_Clone___int_int_ q25 l26 c27 H1 fun q28 l29 c30 H31 => slices_Sort___int_int_ k q28 l29 c30 H31 fun H32 => hfrz H32 (some ⟨H.length, 0, none⟩) fun H33 => slices_Compact___int_int_ k q28 l29 c30 H33 fun q34 l35 c36 H37 => hfad 1 (some ⟨H.length, 0, none⟩) fun p38 => bif isRo H33 p38 then (ldL H33 p38 fun q39 l40 c41 => K (((l35 : Nat) : Int) == ((l40 : Nat) : Int)) H37) else none) = K (decide rs.Nodup) H5 := by
    intro R K
    refine go_fad (go_l m1 ((e2 _ _).trans ((e3 _ _).trans ((e4 _ _).trans ((e5 _ _).trans (go_fad (go_t (r4 _ _) (go_l m4 ?_))))))))
    rw [hK]
  have b1 : decide (1 ≤ rs.length) = true := decide_eq_true (by omega)
  have b2 : decide (rs.length ≤ 4) = true := decide_eq_true (by omega)
  by_cases d1 : nzc rs < 1
  · refine ⟨H1, fun R K => start R K _ ?_, o1⟩
    rw [show rolesB s rs = false from by unfold rolesB; rw [b1, b2, decide_eq_false (p := 1 ≤ nzc rs) (by omega)]; rfl]
    unfold colorspec_roles_p3 colorspec_roles_p3_b
    exact go_t (decide_eq_true (by omega)) rfl
  have d1' : decide (1 ≤ nzc rs) = true := decide_eq_true (by omega)
  by_cases d2 : rs.length ≤ nzc rs + 1
  case neg =>
    refine ⟨H1, fun R K => start R K _ ?_, o1⟩
    rw [show rolesB s rs = false from by unfold rolesB; rw [b1, b2, d1', decide_eq_false d2]; rfl]
    unfold colorspec_roles_p3 colorspec_roles_p3_b
    exact go_f (decide_eq_false (by omega)) (go_fad (go_l m1 (go_t (by rw [hsub]; exact decide_eq_true (by omega)) rfl)))
  have d2' : decide (rs.length ≤ nzc rs + 1) = true := decide_eq_true d2
  by_cases d3 : s = 4
  · have d3' : decide (s = 4) = true := decide_eq_true d3
    cases d4 : inB 0 ((nzc rs : Nat) : Int) rs with
    | false =>
      refine ⟨H1, fun R K => start R K _ ?_, o1⟩
      rw [show rolesB s rs = false from by unfold rolesB; rw [b1, b2, d1', d2', d3', d4]; rfl]
      unfold colorspec_roles_p3 colorspec_roles_p3_b
      exact go_f (decide_eq_false (by omega)) (go_fad (go_l m1 (go_f (by rw [hsub]; exact decide_eq_false (by omega)) (go_fad (go_i m0 (go_f (by rw [d3]; rfl) (go_fad (go_l m1 ((wi _ _).trans (go_t (by rw [d4]; rfl) rfl)))))))))) 
    | true =>
      refine ⟨H5, fun R K => start R K _ ?_, oo⟩
      rw [show rolesB s rs = decide rs.Nodup from by unfold rolesB; rw [b1, b2, d1', d2', d3', d4]; simp]
      unfold colorspec_roles_p3 colorspec_roles_p3_b
      exact go_f (decide_eq_false (by omega)) (go_fad (go_l m1 (go_f (by rw [hsub]; exact decide_eq_false (by omega)) (go_fad (go_i m0 (go_f (by rw [d3]; rfl) (go_fad (go_l m1 ((wi _ _).trans (go_f (by rw [d4]; rfl) (fin R K)))))))))))
  · have d3' : decide (s = 4) = false := decide_eq_false d3
    have d3'' : (s != 4) = true := by rw [bne_iff_ne]; exact d3
    by_cases d5 : ((nzc rs : Nat) : Int) = chan s
    case neg =>
      refine ⟨H1, fun R K => start R K _ ?_, o1⟩
      rw [show rolesB s rs = false from by unfold rolesB; rw [b1, b2, d1', d2', d3', decide_eq_false d5]; rfl]
      unfold colorspec_roles_p3 colorspec_roles_p3_b
      exact go_f (decide_eq_false (by omega)) (go_fad (go_l m1 (go_f (by rw [hsub]; exact decide_eq_false (by omega)) (go_fad (go_i m0 (go_t d3'' (go_fad (go_i m0 ((chan_eq _ _ _).trans (go_t (by rw [bne_iff_ne]; exact d5) rfl))))))))))
    have d5' : decide (((nzc rs : Nat) : Int) = chan s) = true := decide_eq_true d5
    have d5'' : (((nzc rs : Nat) : Int) != chan s) = false := by rw [d5]; exact bne_self_eq_false' _
    cases d4 : inB 0 ((nzc rs : Nat) : Int) rs with
    | false =>
      refine ⟨H1, fun R K => start R K _ ?_, o1⟩
      rw [show rolesB s rs = false from by unfold rolesB; rw [b1, b2, d1', d2', d3', d5', d4]; rfl]
      unfold colorspec_roles_p3 colorspec_roles_p3_b
      exact go_f (decide_eq_false (by omega)) (go_fad (go_l m1 (go_f (by rw [hsub]; exact decide_eq_false (by omega)) (go_fad (go_i m0 (go_t d3'' (go_fad (go_i m0 ((chan_eq _ _ _).trans (go_f d5'' (go_fad (go_l m1 ((wi _ _).trans (go_t (by rw [d4]; rfl) rfl))))))))))))))
    | true =>
      refine ⟨H5, fun R K => start R K _ ?_, oo⟩
      rw [show rolesB s rs = decide rs.Nodup from by unfold rolesB; rw [b1, b2, d1', d2', d3', d5', d4]; simp]
      unfold colorspec_roles_p3 colorspec_roles_p3_b
      exact go_f (decide_eq_false (by omega)) (go_fad (go_l m1 (go_f (by rw [hsub]; exact decide_eq_false (by omega)) (go_fad (go_i m0 (go_t d3'' (go_fad (go_i m0 ((chan_eq _ _ _).trans (go_f d5'' (go_fad (go_l m1 ((wi _ _).trans (go_f (by rw [d4]; rfl) (fin R K)))))))))))))))
end Go.Proofs.Ytkjcjlembepdkaa.Sh
/- Colorspec: the program's validate and Check. -/
set_option linter.unusedVariables false
set_option linter.unusedSimpArgs false
namespace Go.Proofs.Ytkjcjlembepdkaa.Sh
open Go.Proofs.Ytkjcjlembepdkaa.FW
def okR (n : Nat) (r : Rw) : Bool := decide (r.2.2.length = n) && inB 0 255 r.2.2
def okP (n : Nat) (rows : List Rw) : Bool := rows.all (okR n)
def depB (n : Nat) : Bool := decide (n = 0) || dep n != 0
def validI (s : Int) (rs : List Int) (rows : List Rw) : Int := if kn s then (if rolesB s rs && depB rows.length && okP rs.length rows then 0 else 21) else 3
/-- What bounds a color specification that came in. -/
structure FewC (rs : List Int) (rows : List Rw) : Prop where
  a : rs.length ≤ 1000
  b : rows.length ≤ 70000
  c : ∀ r ∈ rows, r.2.2.length ≤ 1000
theorem rows_l (k : Nat) (hk : 1000 < k) {b : Nat} {n0 : Nat} {H : Heap} {q : Option Addr} {rows : List Rw} (c : Nat) (h : PalS H q rows) (hl : rows.length ≤ 70000) (hr : ∀ r ∈ rows, r.2.2.length ≤ 1000) {qr : Option Addr} {cr : Nat} (m1 : hcell H b 1 = some (.slice qr n0 cr)) : ∀ (m n i : Nat), m < n → rows.length = i + m → ∀ (R : Type) (KE : Unit → Option R) (KR : Int → Option R),
    colorspec_validate_l1 k KE KR n (some ⟨b, 0, none⟩) q rows.length c ((rows.length : Nat) : Int) (i : Int) H = bif okP n0 (rows.drop i) then KE () else KR 21 := by
  intro m
  induction m with
  | zero =>
    intro n i hn hj R KE KR
    obtain ⟨n, rfl⟩ : ∃ n', n = n' + 1 := ⟨n - 1, by omega⟩
    unfold colorspec_validate_l1 colorspec_validate_l1_b
    rw [List.drop_eq_nil_of_le (by omega)]
    exact go_f (decide_eq_false (by omega)) rfl
  | succ m ih =>
    intro n i hn hj R KE KR
    obtain ⟨n, rfl⟩ : ∃ n', n = n' + 1 := ⟨n - 1, by omega⟩
    obtain ⟨r, hx⟩ := ex_get (l := rows) (i := i) (by omega)
    obtain ⟨p, e1, e2⟩ := row_at h hx
    have hm : r ∈ rows := List.mem_of_getElem? hx
    have hrl := hr r hm
    have wi := within_eq (k := k) 0 255 r.2.1 (h.rw r hm) (by omega) (by omega)
    rw [drop_cons hx]
    unfold colorspec_validate_l1 colorspec_validate_l1_b colorspec_validate_p2 colorspec_validate_p2_b
    refine go_t (decide_eq_true (by omega)) ((e1 _ _).trans ((e2 _ _).trans (go_fad (go_l m1 ?_))))
    show _ = bif ((decide (r.2.2.length = n0) && inB 0 255 r.2.2) && okP n0 (rows.drop (i + 1))) then _ else _
    by_cases h1 : r.2.2.length = n0
    · refine go_f (by rw [h1]; exact bne_self_eq_false' _) ((wi _ _).trans ?_)
      rw [decide_eq_true h1, Bool.true_and]
      cases h2 : inB 0 255 r.2.2 with
      | false => exact go_t rfl rfl
      | true =>
        refine go_f rfl ?_
        rw [Bool.true_and]
        dsimp only
        rw [w64 (n := (i : Int) + 1) (by omega) (by omega)]
        exact ih n (i + 1) (by omega) (by omega) R KE KR
    · rw [decide_eq_false h1]
      exact go_t (by rw [bne_iff_ne]; omega) rfl
theorem validate_eq {k : Nat} (hk : 80000 < k) {H : Heap} {q q2 : Option Addr} {rs : List Int} {rows : List Rw} (s : Int) (c c2 : Nat) (h : Shows H q (ints rs)) (hp : PalS H q2 rows) (F : FewC rs rows) :
    ∃ H', (∀ (R : Type) (K : Int → Heap → Option R), colorspec_validate k s q rs.length c q2 rows.length c2 H K = K (validI s rs rows) H') ∧ Old H.length H H' := by
  have fb := F.b
  obtain ⟨H1, hH1⟩ : ∃ H1, H1 = H ++ [some (⟨[.int .i64 s, .slice q rs.length c, .slice q2 rows.length c2], false, 0⟩ : Blk)] := ⟨_, rfl⟩
  have o1 : Old H.length H H1 := hH1 ▸ Old.app _ _
  have O1 : Owns H1 H.length [.int .i64 s, .slice q rs.length c, .slice q2 rows.length c2] 0 := by rw [hH1]; exact hblk_new H _
  have l1 : H1.length = H.length + 1 := by rw [hH1]; simp
  have m0 : hcell H1 H.length 0 = some (.int .i64 s) := O1.sees.cell 0
  have m1 : hcell H1 H.length 1 = some (.slice q rs.length c) := O1.sees.cell 1
  have m2 : hcell H1 H.length 2 = some (.slice q2 rows.length c2) := O1.sees.cell 2
  cases hkn : kn s with
  | false =>
    refine ⟨H1, fun R K => ?_, o1⟩
    rw [show validI s rs rows = 3 from by unfold validI; rw [hkn]; rfl]
    unfold colorspec_validate colorspec_validate_b
    exact go_halN hH1 (go_fad (go_i m0 ((known_eq _ _ _).trans (by rw [hkn]; exact go_t rfl rfl))))
  | true =>
    have e0 : validI s rs rows = if rolesB s rs && depB rows.length && okP rs.length rows then 0 else 21 := by unfold validI; rw [hkn]; rfl
    rw [e0]
    obtain ⟨H2, e2, o2⟩ := roles_eq (k := k) (by omega) s c rows.length c2 (h.keep o1) (by have := F.a; omega) (q2 := q2)
    have O2 := O1.old o2 (by omega)
    have a1 : hcell H2 H.length 1 = some (.slice q rs.length c) := O2.sees.cell 1
    have a2 : hcell H2 H.length 2 = some (.slice q2 rows.length c2) := O2.sees.cell 2
    have oo : Old H.length H H2 := o1.trans (o2.mono (by omega))
    have rl := rows_l k (by omega) (n0 := rs.length) c2 (hp.keep oo) (by omega) F.c a1 rows.length k 0 (by omega) (by omega)
    rw [List.drop_zero] at rl
    have start : ∀ (R : Type) (K : Int → Heap → Option R) (r : Option R), (bif (!rolesB s rs) then K 21 H2 else hfad 2 (some ⟨H.length, 0, none⟩) fun p11 => ldL H2 p11 fun q12 l13 c14 => bif decide (((l13 : Nat) : Int) > 0) then (hfad 2 (some ⟨H.length, 0, none⟩) fun p15 => ldL H2 p15 fun q16 l17 c18 => colorspec_depth k q16 l17 c18 fun n19 => bif (n19 == 0) then K 21 H2 else (hfad 2 (some ⟨H.length, 0, none⟩) fun p17 => ldL H2 p17 fun q18 l19 c20 => colorspec_validate_l1 k (fun (_ : Unit) => K 0 H2) (fun n22 => K n22 H2) k (some ⟨H.length, 0, none⟩) q18 l19 c20 ((l19 : Nat) : Int) 0 H2)) else (hfad 2 (some ⟨H.length, 0, none⟩) fun p17 => ldL H2 p17 fun q18 l19 c20 => colorspec_validate_l1 k (fun (_ : Unit) => K 0 H2) (fun n22 => K n22 H2) k (some ⟨H.length, 0, none⟩) q18 l19 c20 ((l19 : Nat) : Int) 0 H2)) = r → colorspec_validate k s q rs.length c q2 rows.length c2 H K = r := by
      intro R K r hr
      unfold colorspec_validate colorspec_validate_b colorspec_validate_p0 colorspec_validate_p0_b
      refine go_halN hH1 (go_fad (go_i m0 ((known_eq _ _ _).trans ?_)))
      rw [hkn]
      exact go_f rfl (go_ip m0 (go_lp m1 (go_lp m2 ((e2 _ _).trans hr))))
    have fin : ∀ (R : Type) (K : Int → Heap → Option R), (hfad 2 (some ⟨H.length, 0, none⟩) fun p17 => ldL H2 p17 fun q18 l19 c20 => colorspec_validate_l1 k (fun (_ : Unit) => K 0 H2) (fun n22 => K n22 H2) k (some ⟨H.length, 0, none⟩) q18 l19 c20 ((l19 : Nat) : Int) 0 H2) = K (if okP rs.length rows then 0 else 21) H2 := by
      intro R K
      refine go_fad (go_l a2 ((rl _ _ _).trans ?_))
      cases okP rs.length rows <;> rfl
    refine ⟨H2, fun R K => start R K _ ?_, oo⟩
    cases hro : rolesB s rs with
    | false => exact go_t rfl rfl
    | true =>
      refine go_f rfl (go_fad (go_l a2 ?_))
      rw [Bool.true_and]
      by_cases hz : rows.length = 0
      · refine go_f (decide_eq_false (by omega)) ((fin R K).trans ?_)
        rw [show depB rows.length = true from by unfold depB; rw [decide_eq_true hz]; rfl, Bool.true_and]
      · refine go_t (decide_eq_true (by omega)) (go_fad (go_l a2 ((depth_eq (by omega) _ _ _ _ _).trans ?_)))
        by_cases hd : dep rows.length = 0
        · rw [show depB rows.length = false from by unfold depB; rw [decide_eq_false hz, hd]; rfl]
          exact go_t (by rw [hd]; rfl) rfl
        · rw [show depB rows.length = true from by unfold depB; rw [Bool.or_eq_true]; exact .inr (by rw [bne_iff_ne]; exact hd), Bool.true_and]
          exact go_f (by rw [beq_eq_false_iff_ne]; exact hd) (fin R K)
/-- Components, as cells. -/
abbrev Cm := Int × Bool × Int × Int
def cmc (c : Cm) : List Value := [.int .i64 c.1, .bool c.2.1, .int .i64 c.2.2.1, .int .i64 c.2.2.2]
def checkI (s : Int) (rs : List Int) (rows : List Rw) (cs : List Cm) : Int :=
  if validI s rs rows ≠ 0 then validI s rs rows else if rows.length = 0 then (if cs.length = rs.length then 0 else 21) else match cs with
    | [c] => if c.2.1 = true ∨ c.1 ≠ dep rows.length then 21 else 0
    | _ => 21
/-- A header's cells. -/
def hd6 (n1 n2 n3 n4 n5 n6 : Int) (q : Option Addr) (l c : Nat) : List Value := [.int .i64 n1, .int .i64 n2, .int .i64 n3, .int .i64 n4, .int .i64 n5, .int .i64 n6, .slice q l c]
theorem one_at {H : Heap} {q : Option Addr} {c : Cm} (h : Shows H q ([c].flatMap cmc)) : ∃ b o, (∀ (R : Type) (K : Option Addr → Option R), hidx q 1 0 4 K = K (some ⟨b, o, none⟩)) ∧ hcell H b (o + 0) = some (.int .i64 c.1) ∧ hcell H b (o + 1) = some (.bool c.2.1) ∧ hcell H b (o + 2) = some (.int .i64 c.2.2.1) ∧ hcell H b (o + 3) = some (.int .i64 c.2.2.2) := by
  rcases h with h | ⟨b, o, full, rfl, hs, h1, h2⟩
  · simp [cmc] at h
  · refine ⟨b, o, fun R K => ?_, ?_, ?_, ?_, ?_⟩
    · simp only [hidx]; rw [if_pos ⟨by omega, by omega⟩]; simp
    all_goals
      rw [hs.cell]
      have h3 := fun j (hj : j < 4) => congrArg (fun l => l[j]?) h2
      simp only [List.getElem?_take, List.getElem?_drop] at h3
      first
        | exact (by simpa [cmc] using h3 0 (by omega))
        | exact (by simpa [cmc] using h3 1 (by omega))
        | exact (by simpa [cmc] using h3 2 (by omega))
        | exact (by simpa [cmc] using h3 3 (by omega))
theorem check_eq {k : Nat} (hk : 80000 < k) {H : Heap} {q q2 q3 : Option Addr} {rs : List Int} {rows : List Rw} {cs : List Cm} (s : Int) (c c2 : Nat) (n1 n2 n3 n4 n5 n6 : Int) (c3 : Nat) (h : Shows H q (ints rs)) (hp : PalS H q2 rows) (hc : Shows H q3 (cs.flatMap cmc)) (F : FewC rs rows) :
    ∃ H', (∀ (R : Type) (K : Int → Heap → Option R), colorspec_Check k s q rs.length c q2 rows.length c2 n1 n2 n3 n4 n5 n6 q3 cs.length c3 H K = K (checkI s rs rows cs) H') ∧ Old H.length H H' := by
  have fb := F.b
  obtain ⟨H1, hH1⟩ : ∃ H1, H1 = H ++ [some (⟨[.int .i64 s, .slice q rs.length c, .slice q2 rows.length c2], false, 0⟩ : Blk)] := ⟨_, rfl⟩
  have o1 : Old H.length H H1 := hH1 ▸ Old.app _ _
  have O1 : Owns H1 H.length [.int .i64 s, .slice q rs.length c, .slice q2 rows.length c2] 0 := by rw [hH1]; exact hblk_new H _
  have l1 : H1.length = H.length + 1 := by rw [hH1]; simp
  obtain ⟨H2, hH2⟩ : ∃ H2, H2 = H1 ++ [some (⟨[.int .i64 n1, .int .i64 n2, .int .i64 n3, .int .i64 n4, .int .i64 n5, .int .i64 n6, .slice q3 cs.length c3], false, 0⟩ : Blk)] := ⟨_, rfl⟩
  have o2 : Old H1.length H1 H2 := hH2 ▸ Old.app _ _
  have O2 : Owns H2 H1.length [.int .i64 n1, .int .i64 n2, .int .i64 n3, .int .i64 n4, .int .i64 n5, .int .i64 n6, .slice q3 cs.length c3] 0 := by rw [hH2]; exact hblk_new H1 _
  have l2 : H2.length = H1.length + 1 := by rw [hH2]; simp
  have Oc2 := O1.old o2 (by omega)
  have m0 : hcell H2 H.length 0 = some (.int .i64 s) := Oc2.sees.cell 0
  have m1 : hcell H2 H.length 1 = some (.slice q rs.length c) := Oc2.sees.cell 1
  have m2 : hcell H2 H.length 2 = some (.slice q2 rows.length c2) := Oc2.sees.cell 2
  have o12 := o1.trans (o2.mono (by omega))
  obtain ⟨H3, e3, o3⟩ := validate_eq (k := k) hk s c c2 (h.keep o12) (hp.keep o12) F
  have oo := o12.trans (o3.mono (by omega))
  have Oc3 := Oc2.old o3 (by omega)
  have Oh3 := O2.old o3 (by omega)
  have a1 : hcell H3 H.length 1 = some (.slice q rs.length c) := Oc3.sees.cell 1
  have a2 : hcell H3 H.length 2 = some (.slice q2 rows.length c2) := Oc3.sees.cell 2
  have h6 : hcell H3 H1.length 6 = some (.slice q3 cs.length c3) := Oh3.sees.cell 6
  refine ⟨H3, fun R K => ?_, oo⟩
  unfold colorspec_Check colorspec_Check_b
  refine go_halN hH1 (go_halN hH2 (go_ip m0 (go_lp m1 (go_lp m2 ((e3 _ _).trans ?_)))))
  unfold checkI
  by_cases hv : validI s rs rows = 0
  case neg => rw [if_pos hv]; exact go_t (by rw [bne_iff_ne]; exact hv) rfl
  rw [if_neg (by simp [hv])]
  refine go_f (by rw [hv]; rfl) (go_fad (go_l a2 ?_))
  by_cases hz : rows.length = 0
  · rw [if_pos hz]
    refine go_t (by rw [hz]; rfl) (go_fad (go_l h6 (go_fad (go_l a1 ?_))))
    by_cases hcl : cs.length = rs.length
    · rw [if_pos hcl]; exact go_f (by rw [hcl]; exact bne_self_eq_false' _) rfl
    · rw [if_neg hcl]; exact go_t (by rw [bne_iff_ne]; omega) rfl
  · rw [if_neg hz]
    refine go_f (by rw [beq_eq_false_iff_ne]; omega) (go_fad (go_l h6 ?_))
    match cs, hc, h6 with
    | [], _, _ => exact go_t rfl rfl
    | [x], hc, h6 =>
      obtain ⟨b, o, e4, x0, x1, _, _⟩ := one_at (hc.keep oo)
      show _ = K (if x.2.1 = true ∨ x.1 ≠ dep rows.length then 21 else 0) H3
      refine go_f rfl (go_fad (go_l h6 ((e4 _ _).trans (go_fad (go_b x1 ?_)))))
      by_cases hs : x.2.1 = true
      · rw [if_pos (.inl hs)]; exact go_t hs rfl
      · refine go_f (by simpa using hs) (go_fad (go_l h6 ((e4 _ _).trans (go_fad (go_i x0 (go_fad (go_l a2 ((depth_eq (by omega) _ _ _ _ _).trans ?_))))))))
        by_cases hd : x.1 = dep rows.length
        · rw [if_neg (by simp [hs, hd])]; exact go_f (by rw [hd]; exact bne_self_eq_false' _) rfl
        · rw [if_pos (.inr hd)]; exact go_t (by rw [bne_iff_ne]; exact hd) rfl
    | _ :: _ :: l, _, _ => exact go_t (by rw [bne_iff_ne]; simp; omega) rfl
end Go.Proofs.Ytkjcjlembepdkaa.Sh
/- Colorspec, plain law: the channels are all named, once each. -/
set_option linter.unusedVariables false
set_option linter.unusedSimpArgs false
namespace Go.Proofs.Ytkjcjlembepdkaa.Sh
open Go.Proofs.Ytkjcjlembepdkaa.FW
def covB (k : Nat) (rs : List Int) : Bool := (List.range k).all fun i => decide (((i + 1 : Nat) : Int) ∈ rs)
theorem covB_iff (k : Nat) (rs : List Int) : covB k rs = true ↔ ∀ x : Nat, 1 ≤ x → x ≤ k → (x : Int) ∈ rs := by
  unfold covB
  rw [List.all_eq_true]
  constructor
  · intro h x h1 h2
    have := h (x - 1) (List.mem_range.2 (by omega))
    rw [decide_eq_true_eq, show x - 1 + 1 = x from by omega] at this
    exact this
  · intro h i hi
    rw [decide_eq_true_eq]
    exact h (i + 1) (by omega) (by have := List.mem_range.1 hi; omega)
def nz (a : Int) : Nat := if a = 0 then 0 else 1
theorem nzc_cons (a : Int) (l : List Int) : nzc (a :: l) = nz a + nzc l := by
  unfold nzc nz
  rw [List.filter_cons]
  by_cases h : a = 0
  · subst h; simp
  · simp [h]; omega
theorem nzc_nil : nzc [] = 0 := rfl
theorem nz_or (a : Int) : (a = 0 ∧ nz a = 0) ∨ (a ≠ 0 ∧ nz a = 1) := by
  unfold nz; split
  · exact .inl ⟨‹_›, rfl⟩
  · exact .inr ⟨‹_›, rfl⟩
/-- Whether the two ways to ask agree. -/
def agr (rs : List Int) : Bool := !(decide (rs.length ≤ nzc rs + 1) && decide (1 ≤ nzc rs)) || (covB (nzc rs) rs == (inB 0 (nzc rs) rs && decide rs.Nodup))
def fl (l : List (Fin 5)) : List Int := l.map fun x => ((x.val : Nat) : Int)
set_option maxRecDepth 100000 in
theorem agr1 : ∀ a : Fin 5, agr (fl [a]) = true := by decide
set_option maxRecDepth 100000 in
theorem agr2 : ∀ a b : Fin 5, agr (fl [a, b]) = true := by decide
set_option maxRecDepth 100000 in
theorem agr3 : ∀ a b c : Fin 5, agr (fl [a, b, c]) = true := by decide
set_option maxRecDepth 100000 in
theorem agr4 : ∀ a b c d : Fin 5, agr (fl [a, b, c, d]) = true := by decide +kernel
theorem fin_of {a : Int} (h0 : 0 ≤ a) (h4 : a ≤ 4) : ∃ x : Fin 5, ((x.val : Nat) : Int) = a := ⟨⟨a.toNat, by omega⟩, by simp; omega⟩
theorem inB_bd {k : Nat} {rs : List Int} (h : inB 0 (k : Int) rs = true) {x : Int} (hx : x ∈ rs) : 0 ≤ x ∧ x ≤ k := by
  have := List.all_eq_true.1 h x hx
  exact of_decide_eq_true this
theorem nzc_le (rs : List Int) : nzc rs ≤ rs.length := List.length_filter_le _ _
theorem cov_bd1 {a : Int} (hk : 1 ≤ nzc [a]) (h : covB (nzc [a]) [a] = true) : 0 ≤ a ∧ a ≤ 4 := by
  rw [covB_iff] at h
  have h1 := h 1 (by omega) hk
  simp only [List.mem_cons, List.mem_nil_iff, or_false] at h1
  omega
theorem cov_bd2 {a b : Int} (hz : 2 ≤ nzc [a, b] + 1) (h : covB (nzc [a, b]) [a, b] = true) : (0 ≤ a ∧ a ≤ 4) ∧ 0 ≤ b ∧ b ≤ 4 := by
  rw [covB_iff] at h
  have h1 := h 1 (by omega)
  have h2 := h 2 (by omega)
  simp only [List.mem_cons, List.mem_nil_iff, or_false] at h1 h2
  simp only [nzc_cons, nzc_nil] at hz h1 h2
  have ha := nz_or a
  have hb := nz_or b
  generalize nz a = x at *
  generalize nz b = y at *
  omega
theorem cov_bd3 {a b c : Int} (hz : 3 ≤ nzc [a, b, c] + 1) (h : covB (nzc [a, b, c]) [a, b, c] = true) : (0 ≤ a ∧ a ≤ 4) ∧ (0 ≤ b ∧ b ≤ 4) ∧ 0 ≤ c ∧ c ≤ 4 := by
  rw [covB_iff] at h
  have h1 := h 1 (by omega)
  have h2 := h 2 (by omega)
  have h3 := h 3 (by omega)
  simp only [List.mem_cons, List.mem_nil_iff, or_false] at h1 h2 h3
  simp only [nzc_cons, nzc_nil] at hz h1 h2 h3
  have ha := nz_or a
  have hb := nz_or b
  have hc := nz_or c
  generalize nz a = x at *
  generalize nz b = y at *
  generalize nz c = z at *
  rcases ha with ⟨ha, rfl⟩ | ⟨ha, rfl⟩ <;> rcases hb with ⟨hb, rfl⟩ | ⟨hb, rfl⟩ <;> rcases hc with ⟨hc, rfl⟩ | ⟨hc, rfl⟩ <;> omega
theorem cov_bd4 {a b c d : Int} (hz : 4 ≤ nzc [a, b, c, d] + 1) (h : covB (nzc [a, b, c, d]) [a, b, c, d] = true) : (0 ≤ a ∧ a ≤ 4) ∧ (0 ≤ b ∧ b ≤ 4) ∧ (0 ≤ c ∧ c ≤ 4) ∧ 0 ≤ d ∧ d ≤ 4 := by
  rw [covB_iff] at h
  have h1 := h 1 (by omega) (by omega)
  have h2 := h 2 (by omega) (by omega)
  have h3 := h 3 (by omega) (by omega)
  have h4 := h 4 (by omega)
  simp only [List.mem_cons, List.mem_nil_iff, or_false] at h1 h2 h3 h4
  simp only [nzc_cons, nzc_nil] at hz h4
  have ha := nz_or a
  have hb := nz_or b
  have hc := nz_or c
  have hd := nz_or d
  generalize nz a = x at *
  generalize nz b = y at *
  generalize nz c = z at *
  generalize nz d = w at *
  rcases ha with ⟨ha, rfl⟩ | ⟨ha, rfl⟩ <;> rcases hb with ⟨hb, rfl⟩ | ⟨hb, rfl⟩ <;> rcases hc with ⟨hc, rfl⟩ | ⟨hc, rfl⟩ <;> rcases hd with ⟨hd, rfl⟩ | ⟨hd, rfl⟩ <;> first
    | omega
    | (have h4 := h4 (by omega)
       rcases h1 with h1 | h1 | h1 | h1 <;> rcases h2 with h2 | h2 | h2 | h2 <;> first | omega | (rcases h3 with h3 | h3 | h3 | h3 <;> omega))
    | (rcases h1 with h1 | h1 | h1 | h1 <;> rcases h2 with h2 | h2 | h2 | h2 <;> first | omega | (rcases h3 with h3 | h3 | h3 | h3 <;> omega))
theorem cov_bd {rs : List Int} (h1 : 1 ≤ rs.length) (h4 : rs.length ≤ 4) (hz : rs.length ≤ nzc rs + 1) (hk : 1 ≤ nzc rs) (h : covB (nzc rs) rs = true) : ∀ x ∈ rs, 0 ≤ x ∧ x ≤ 4 := by
  match rs, h1, h4 with
  | [a], _, _ => intro x hx; simp at hx; subst hx; exact cov_bd1 hk h
  | [a, b], _, _ => intro x hx; have := cov_bd2 hz h; simp at hx; rcases hx with rfl | rfl <;> omega
  | [a, b, c], _, _ => intro x hx; have := cov_bd3 hz h; simp at hx; rcases hx with rfl | rfl | rfl <;> omega
  | [a, b, c, d], _, _ => intro x hx; have := cov_bd4 hz h; simp at hx; rcases hx with rfl | rfl | rfl | rfl <;> omega
  | _ :: _ :: _ :: _ :: _ :: l, _, h4 => simp at h4
theorem agr_of {rs : List Int} (h1 : 1 ≤ rs.length) (h4 : rs.length ≤ 4) (hb : ∀ x ∈ rs, 0 ≤ x ∧ x ≤ 4) : agr rs = true := by
  match rs, h1, h4, hb with
  | [a], _, _, hb =>
    obtain ⟨x, rfl⟩ := fin_of (hb a (by simp)).1 (hb a (by simp)).2
    exact agr1 x
  | [a, b], _, _, hb =>
    obtain ⟨x, rfl⟩ := fin_of (hb a (by simp)).1 (hb a (by simp)).2
    obtain ⟨y, rfl⟩ := fin_of (hb b (by simp)).1 (hb b (by simp)).2
    exact agr2 x y
  | [a, b, c], _, _, hb =>
    obtain ⟨x, rfl⟩ := fin_of (hb a (by simp)).1 (hb a (by simp)).2
    obtain ⟨y, rfl⟩ := fin_of (hb b (by simp)).1 (hb b (by simp)).2
    obtain ⟨z, rfl⟩ := fin_of (hb c (by simp)).1 (hb c (by simp)).2
    exact agr3 x y z
  | [a, b, c, d], _, _, hb =>
    obtain ⟨x, rfl⟩ := fin_of (hb a (by simp)).1 (hb a (by simp)).2
    obtain ⟨y, rfl⟩ := fin_of (hb b (by simp)).1 (hb b (by simp)).2
    obtain ⟨z, rfl⟩ := fin_of (hb c (by simp)).1 (hb c (by simp)).2
    obtain ⟨w, rfl⟩ := fin_of (hb d (by simp)).1 (hb d (by simp)).2
    exact agr4 x y z w
  | _ :: _ :: _ :: _ :: _ :: l, _, h4, _ => simp at h4
/-- All channels are named exactly if the roles lie within them and differ. -/
theorem cover_eq {rs : List Int} (h1 : 1 ≤ rs.length) (h4 : rs.length ≤ 4) (hz : rs.length ≤ nzc rs + 1) (hk : 1 ≤ nzc rs) : covB (nzc rs) rs = (inB 0 (nzc rs) rs && decide rs.Nodup) := by
  have key : (∀ x ∈ rs, 0 ≤ x ∧ x ≤ 4) → covB (nzc rs) rs = (inB 0 (nzc rs) rs && decide rs.Nodup) := by
    intro hb
    have := agr_of h1 h4 hb
    unfold agr at this
    rw [decide_eq_true hz, decide_eq_true hk] at this
    simpa using this
  cases hc : covB (nzc rs) rs with
  | true => rw [← key (cov_bd h1 h4 hz hk hc), hc]
  | false =>
    cases hi : inB 0 (nzc rs) rs with
    | false => rfl
    | true =>
      have hl := nzc_le rs
      rw [← hc, ← hi]
      exact key fun x hx => by have := inB_bd hi hx; omega
end Go.Proofs.Ytkjcjlembepdkaa.Sh
/- Colorspec: the reference's Valid and Check. -/
set_option linter.unusedVariables false
set_option linter.unusedSimpArgs false
namespace Go.Proofs.Ytkjcjlembepdkaa.Sh
open Go.Proofs.Ytkjcjlembepdkaa.FW
theorem rchan_eq (s : Int) (R : Type) (K : Int → Option R) : R46_Channels s K = K (chan s) := by
  unfold R46_Channels R46_Channels_b chan
  by_cases h1 : s = 1
  · subst h1; rfl
  by_cases h2 : s = 2
  · subst h2; rfl
  by_cases h3 : s = 3
  · subst h3; rfl
  rw [if_neg h1, if_neg (by omega)]
  rw [show (s == 1) = false from beq_eq_false_iff_ne.2 h1, show (s == 2) = false from beq_eq_false_iff_ne.2 h2, show (s == 3) = false from beq_eq_false_iff_ne.2 h3]
  rfl
theorem shl1' (d : Nat) (hd : d ≤ 8) (R : Type) (K : Int → Option R) : hbin .shl .i64 1 (d : Int) K = K ((2 ^ d : Nat) : Int) := by
  have h : d = 0 ∨ d = 1 ∨ d = 2 ∨ d = 3 ∨ d = 4 ∨ d = 5 ∨ d = 6 ∨ d = 7 ∨ d = 8 := by omega
  rcases h with rfl | rfl | rfl | rfl | rfl | rfl | rfl | rfl | rfl <;> rfl
theorem rdepth_l (k : Nat) (l : Nat) : ∀ (m n d : Nat), m < n → 9 = d + m → 1 ≤ d → (∀ d', 1 ≤ d' → d' < d → l ≠ 2 ^ d') → ∀ (R : Type) (KE : Unit → Option R) (KR : Int → Option R), (∀ u, KE u = KR 0) →
    R46_depth_l0 k KE KR n (l : Int) (d : Int) = KR (dep l) := by
  intro m
  induction m with
  | zero =>
    intro n d hn hd h1 hno R KE KR hK
    obtain ⟨n, rfl⟩ : ∃ n', n = n' + 1 := ⟨n - 1, by omega⟩
    unfold R46_depth_l0 R46_depth_l0_b
    refine go_f (decide_eq_false (by omega)) ((hK ()).trans ?_)
    have a1 := hno 1 (by omega) (by omega)
    have a2 := hno 2 (by omega) (by omega)
    have a3 := hno 3 (by omega) (by omega)
    have a4 := hno 4 (by omega) (by omega)
    have a5 := hno 5 (by omega) (by omega)
    have a6 := hno 6 (by omega) (by omega)
    have a7 := hno 7 (by omega) (by omega)
    have a8 := hno 8 (by omega) (by omega)
    unfold dep
    rw [if_neg a1, if_neg a2, if_neg a3, if_neg a4, if_neg a5, if_neg a6, if_neg a7, if_neg a8]
  | succ m ih =>
    intro n d hn hd h1 hno R KE KR hK
    obtain ⟨n, rfl⟩ : ∃ n', n = n' + 1 := ⟨n - 1, by omega⟩
    unfold R46_depth_l0 R46_depth_l0_b
    refine go_t (decide_eq_true (by omega)) ((shl1' d (by omega) _ _).trans ?_)
    by_cases hl : l = 2 ^ d
    · refine go_t (by rw [hl]; exact beq_self_eq_true _) ?_
      subst hl
      have h : d = 1 ∨ d = 2 ∨ d = 3 ∨ d = 4 ∨ d = 5 ∨ d = 6 ∨ d = 7 ∨ d = 8 := by omega
      rcases h with rfl | rfl | rfl | rfl | rfl | rfl | rfl | rfl <;> rfl
    · refine go_f (by rw [beq_eq_false_iff_ne]; omega) ?_
      rw [w64 (n := (d : Int) + 1) (by omega) (by omega)]
      exact ih n (d + 1) (by omega) (by omega) (by omega) (fun d' h2 h3 => by
        by_cases hd : d' = d
        · subst hd; exact hl
        · exact hno d' h2 (by omega)) R KE KR hK
theorem rdepth_eq {k : Nat} (hk : 10 < k) (l : Nat) (R : Type) (K : Int → Option R) : R46_depth k ((l : Nat) : Int) K = K (dep l) := by
  unfold R46_depth R46_depth_b
  exact rdepth_l k l 8 k 1 (by omega) rfl (by omega) (fun d' h1 h2 => by omega) R _ _ (fun _ => rfl)
/-- A color specification at an address. -/
structure At3 (H : Heap) (b : Nat) (s : Int) (q : Option Addr) (l c : Nat) (q2 : Option Addr) (l2 c2 : Nat) : Prop where
  a : hcell H b 0 = some (.int .i64 s)
  b' : hcell H b 1 = some (.slice q l c)
  c' : hcell H b 2 = some (.slice q2 l2 c2)
theorem at3 {H : Heap} {b z : Nat} {s : Int} {q : Option Addr} {l c : Nat} {q2 : Option Addr} {l2 c2 : Nat} (h : Owns H b [.int .i64 s, .slice q l c, .slice q2 l2 c2] z) : At3 H b s q l c q2 l2 c2 := ⟨h.sees.cell 0, h.sees.cell 1, h.sees.cell 2⟩
theorem At3.old {H H' : Heap} {b N : Nat} {s : Int} {q : Option Addr} {l c : Nat} {q2 : Option Addr} {l2 c2 : Nat} (A : At3 H b s q l c q2 l2 c2) (o : Old N H H') (hb : b < N) : At3 H' b s q l c q2 l2 c2 := by
  have h : ∀ i, hcell H' b i = hcell H b i := fun i => by unfold hcell; rw [o.2 b hb]
  exact ⟨(h 0).trans A.a, (h 1).trans A.b', (h 2).trans A.c'⟩
theorem nzc_zero (xs : List Int) (i : Nat) : nzc (xs.take i) ≤ i := by
  exact Nat.le_trans (nzc_le _) (by rw [List.length_take]; omega)
theorem zer_l (k : Nat) {b : Nat} {s : Int} {H : Heap} {q q2 : Option Addr} {l2 c2 : Nat} {xs : List Int} {c : Nat} (A : At3 H b s q xs.length c q2 l2 c2) (h : Shows H q (ints xs)) (hl : xs.length < 1000000) : ∀ (m n i : Nat), m < n → xs.length = i + m → ∀ (R : Type) (KE : Option Addr → Int → Int → Option R),
    R46_roles_l1 k KE n (some ⟨b, 0, none⟩) ((xs.length : Nat) : Int) ((i - nzc (xs.take i) : Nat) : Int) (i : Int) H = KE (some ⟨b, 0, none⟩) ((xs.length : Nat) : Int) ((xs.length - nzc xs : Nat) : Int) := by
  intro m
  induction m with
  | zero =>
    intro n i hn hj R KE
    obtain ⟨n, rfl⟩ : ∃ n', n = n' + 1 := ⟨n - 1, by omega⟩
    unfold R46_roles_l1 R46_roles_l1_b
    rw [List.take_of_length_le (by omega), show i = xs.length from by omega]
    exact go_f (decide_eq_false (by omega)) rfl
  | succ m ih =>
    intro n i hn hj R KE
    obtain ⟨n, rfl⟩ : ∃ n', n = n' + 1 := ⟨n - 1, by omega⟩
    obtain ⟨x, hx⟩ := ex_get (l := xs) (i := i) (by omega)
    obtain ⟨p', e1, e2⟩ := int_at h hx
    have hle := nzc_zero xs i
    have ih' := ih n (i + 1) (by omega) (by omega) R KE
    rw [take_snoc hx] at ih'
    unfold R46_roles_l1 R46_roles_l1_b R46_roles_p2 R46_roles_p2_b
    refine go_t (decide_eq_true (by omega)) (go_fad (go_l A.b' ((e1 _ _).trans ((e2 _ _).trans ?_))))
    by_cases h0 : x = 0
    · have : nzc (xs.take i ++ [x]) = nzc (xs.take i) := by unfold nzc; rw [List.filter_append]; simp [h0]
      rw [this, show i + 1 - nzc (xs.take i) = i - nzc (xs.take i) + 1 from by omega] at ih'
      refine go_t (by rw [h0]; rfl) ?_
      dsimp only
      rw [w64 (n := (i : Int) + 1) (by omega) (by omega), w64 (n := ((i - nzc (xs.take i) : Nat) : Int) + 1) (by omega) (by omega)]
      exact ih'
    · have : nzc (xs.take i ++ [x]) = nzc (xs.take i) + 1 := by unfold nzc; rw [List.filter_append]; simp [h0]
      rw [this, show i + 1 - (nzc (xs.take i) + 1) = i - nzc (xs.take i) from by omega] at ih'
      refine go_f (by rw [beq_eq_false_iff_ne]; exact h0) ?_
      dsimp only
      rw [w64 (n := (i : Int) + 1) (by omega) (by omega)]
      exact ih'
theorem fnd_l (k : Nat) {b : Nat} {s : Int} {H : Heap} {q q2 : Option Addr} {l2 c2 : Nat} {xs : List Int} {c : Nat} (A : At3 H b s q xs.length c q2 l2 c2) (h : Shows H q (ints xs)) (hl : xs.length < 1000000) (kk ch : Int) : ∀ (m n i : Nat), m < n → xs.length = i + m → ∀ (t : Bool) (R : Type) (KE : Option Addr → Int → Int → Int → Bool → Option R),
    R46_roles_l5 k KE n (some ⟨b, 0, none⟩) ((xs.length : Nat) : Int) kk ch t (i : Int) H = KE (some ⟨b, 0, none⟩) ((xs.length : Nat) : Int) kk ch (t || decide (ch ∈ xs.drop i)) := by
  intro m
  induction m with
  | zero =>
    intro n i hn hj t R KE
    obtain ⟨n, rfl⟩ : ∃ n', n = n' + 1 := ⟨n - 1, by omega⟩
    unfold R46_roles_l5 R46_roles_l5_b
    rw [List.drop_eq_nil_of_le (by omega)]
    refine go_f (decide_eq_false (by omega)) ?_
    simp
  | succ m ih =>
    intro n i hn hj t R KE
    obtain ⟨n, rfl⟩ : ∃ n', n = n' + 1 := ⟨n - 1, by omega⟩
    obtain ⟨x, hx⟩ := ex_get (l := xs) (i := i) (by omega)
    obtain ⟨p', e1, e2⟩ := int_at h hx
    rw [drop_cons hx]
    unfold R46_roles_l5 R46_roles_l5_b R46_roles_p6 R46_roles_p6_b
    refine go_t (decide_eq_true (by omega)) ?_
    cases t with
    | true =>
      refine go_t rfl ?_
      dsimp only
      rw [w64 (n := (i : Int) + 1) (by omega) (by omega), Bool.true_or]
      have := ih n (i + 1) (by omega) (by omega) true R KE
      rwa [Bool.true_or] at this
    | false =>
      refine go_f rfl (go_fad (go_l A.b' ((e1 _ _).trans ((e2 _ _).trans ?_))))
      dsimp only
      rw [w64 (n := (i : Int) + 1) (by omega) (by omega), Bool.false_or]
      refine (ih n (i + 1) (by omega) (by omega) (x == ch) R KE).trans ?_
      congr 1
      by_cases hc : x = ch
      · subst hc; simp
      · rw [show (x == ch) = false from beq_eq_false_iff_ne.2 hc, Bool.false_or]
        simp only [List.mem_cons, show ¬ ch = x from fun h => hc h.symm, false_or]
theorem cov_l (k : Nat) {b : Nat} {s : Int} {H : Heap} {q q2 : Option Addr} {l2 c2 : Nat} {xs : List Int} {c : Nat} (A : At3 H b s q xs.length c q2 l2 c2) (h : Shows H q (ints xs)) (hl : xs.length < 1000) (hk : 1000 < k) (kk : Nat) (hkk : kk ≤ 1000) : ∀ (m n i : Nat), m < n → kk + 1 = i + m → 1 ≤ i → (∀ x : Nat, 1 ≤ x → x < i → (x : Int) ∈ xs) → ∀ (R : Type) (KE : Unit → Option R) (KR : Bool → Option R),
    R46_roles_l4 k KE KR n (some ⟨b, 0, none⟩) ((xs.length : Nat) : Int) (kk : Int) (i : Int) H = bif covB kk xs then KE () else KR false := by
  intro m
  induction m with
  | zero =>
    intro n i hn hj h1 hc R KE KR
    obtain ⟨n, rfl⟩ : ∃ n', n = n' + 1 := ⟨n - 1, by omega⟩
    unfold R46_roles_l4 R46_roles_l4_b
    rw [(covB_iff kk xs).2 fun x h2 h3 => hc x h2 (by omega)]
    exact go_f (decide_eq_false (by omega)) rfl
  | succ m ih =>
    intro n i hn hj h1 hc R KE KR
    obtain ⟨n, rfl⟩ : ∃ n', n = n' + 1 := ⟨n - 1, by omega⟩
    unfold R46_roles_l4 R46_roles_l4_b
    refine go_t (decide_eq_true (by omega)) ((fnd_l k A h (by omega) (kk : Int) (i : Int) xs.length k 0 (by omega) (by omega) false _ _).trans ?_)
    try dsimp only
    rw [List.drop_zero, Bool.false_or]
    by_cases hm : (i : Int) ∈ xs
    · rw [decide_eq_true hm]
      refine go_f rfl ?_
      rw [w64 (n := (i : Int) + 1) (by omega) (by omega)]
      exact ih n (i + 1) (by omega) (by omega) (by omega) (fun x h2 h3 => by
        by_cases hx : x = i
        · subst hx; exact hm
        · exact hc x h2 (by omega)) R KE KR
    · rw [decide_eq_false hm, show covB kk xs = false from by
        cases hcb : covB kk xs with
        | false => rfl
        | true => exact (hm ((covB_iff kk xs).1 hcb i h1 (by omega))).elim]
      exact go_t rfl rfl
theorem rroles_eq {k : Nat} (hk : 1000 < k) {H : Heap} {q q2 : Option Addr} {rs : List Int} (s : Int) (c l2 c2 : Nat) (h : Shows H q (ints rs)) (hl : rs.length ≤ 1000) :
    ∃ H', (∀ (R : Type) (K : Bool → Heap → Option R), R46_roles k s q rs.length c q2 l2 c2 H K = K (rolesB s rs) H') ∧ Old H.length H H' := by
  obtain ⟨H1, hH1⟩ : ∃ H1, H1 = H ++ [some (⟨[.int .i64 s, .slice q rs.length c, .slice q2 l2 c2], false, 0⟩ : Blk)] := ⟨_, rfl⟩
  have o1 : Old H.length H H1 := hH1 ▸ Old.app _ _
  have O1 : Owns H1 H.length [.int .i64 s, .slice q rs.length c, .slice q2 l2 c2] 0 := by rw [hH1]; exact hblk_new H _
  have A := at3 O1
  have h1 := h.keep o1
  refine ⟨H1, fun R K => ?_, o1⟩
  unfold R46_roles R46_roles_b R46_roles_p0 R46_roles_p0_b
  refine go_halN hH1 (go_fad (go_l A.b' ?_))
  by_cases c1 : rs.length < 1
  · rw [show rolesB s rs = false from by unfold rolesB; rw [decide_eq_false (by omega)]; rfl]
    exact go_t (decide_eq_true (by omega)) rfl
  refine go_f (decide_eq_false (by omega)) ?_
  by_cases c2' : rs.length > 4
  · rw [show rolesB s rs = false from by unfold rolesB; rw [decide_eq_false (p := rs.length ≤ 4) (by omega), Bool.and_false]; rfl]
    exact go_t (decide_eq_true (by omega)) rfl
  have hn := nzc_le rs
  have zl := zer_l k A h1 (by omega) rs.length k 0 (by omega) (by omega)
  rw [Nat.zero_sub] at zl
  refine go_f (decide_eq_false (by omega)) ((zl _ _).trans ?_)
  have hsub : IntKind.wrap .i64 (((rs.length : Nat) : Int) - ((rs.length - nzc rs : Nat) : Int)) = ((nzc rs : Nat) : Int) := by rw [w64 (by omega) (by omega)]; omega
  try dsimp only
  rw [hsub]
  unfold R46_roles_p3 R46_roles_p3_b
  have b1 : decide (1 ≤ rs.length) = true := decide_eq_true (by omega)
  have b2 : decide (rs.length ≤ 4) = true := decide_eq_true (by omega)
  by_cases d2 : rs.length ≤ nzc rs + 1
  case neg =>
    rw [show rolesB s rs = false from by unfold rolesB; rw [b1, b2, decide_eq_false d2]; simp]
    exact go_t (decide_eq_true (by omega)) rfl
  have d2' : decide (rs.length ≤ nzc rs + 1) = true := decide_eq_true d2
  refine go_f (decide_eq_false (by omega)) ?_
  by_cases d1 : nzc rs < 1
  · rw [show rolesB s rs = false from by unfold rolesB; rw [b1, b2, decide_eq_false (p := 1 ≤ nzc rs) (by omega)]; rfl]
    exact go_t (decide_eq_true (by omega)) rfl
  have d1' : decide (1 ≤ nzc rs) = true := decide_eq_true (by omega)
  have cv := cov_l k A h1 (by omega) hk (nzc rs) (by omega) (nzc rs) k 1 (by omega) (by omega) (by omega) (fun x h2 h3 => by omega)
  have ce := cover_eq (rs := rs) (by omega) (by omega) d2 (by omega)
  refine go_f (decide_eq_false (by omega)) (go_fad (go_i A.a ?_))
  by_cases d3 : s = 4
  · rw [show rolesB s rs = covB (nzc rs) rs from by unfold rolesB; rw [b1, b2, d1', d2', decide_eq_true d3, ce]; simp]
    refine go_f (by rw [d3]; rfl) ((cv _ _ _).trans ?_)
    cases covB (nzc rs) rs <;> rfl
  · refine go_t (by rw [bne_iff_ne]; exact d3) (go_fad (go_i A.a ((rchan_eq _ _ _).trans ?_)))
    by_cases d5 : ((nzc rs : Nat) : Int) = chan s
    case neg =>
      rw [show rolesB s rs = false from by unfold rolesB; rw [b1, b2, d1', d2', decide_eq_false d3, decide_eq_false d5]; rfl]
      exact go_t (by rw [bne_iff_ne]; exact d5) rfl
    rw [show rolesB s rs = covB (nzc rs) rs from by unfold rolesB; rw [b1, b2, d1', d2', decide_eq_false d3, decide_eq_true d5, ce]; simp]
    refine go_f (by rw [d5]; exact bne_self_eq_false' _) ((cv _ _ _).trans ?_)
    cases covB (nzc rs) rs <;> rfl
end Go.Proofs.Ytkjcjlembepdkaa.Sh
/- Colorspec: the reference's palette, Valid, Check, Few. -/
set_option linter.unusedVariables false
set_option linter.unusedSimpArgs false
namespace Go.Proofs.Ytkjcjlembepdkaa.Sh
open Go.Proofs.Ytkjcjlembepdkaa.FW
theorem col_l (k : Nat) {b : Nat} {s : Int} {H : Heap} {q q2 : Option Addr} {l c c2 : Nat} {rows : List Rw} (A : At3 H b s q l c q2 rows.length c2) (hp : PalS H q2 rows) {ix : Nat} {r : Rw} (hx : rows[ix]? = some r) (hr : r.2.2.length ≤ 1000) : ∀ (m n i : Nat), m < n → r.2.2.length = i + m → ∀ (R : Type) (KE : Option Addr → Int → Option R) (KR : Bool → Option R),
    R46_palette_l2 k KE KR n (some ⟨b, 0, none⟩) (ix : Int) (i : Int) H = bif inB 0 255 (r.2.2.drop i) then KE (some ⟨b, 0, none⟩) (ix : Int) else KR false := by
  obtain ⟨p, e1, e2⟩ := row_at hp hx
  have hS := hp.rw r (List.mem_of_getElem? hx)
  intro m
  induction m with
  | zero =>
    intro n i hn hj R KE KR
    obtain ⟨n, rfl⟩ : ∃ n', n = n' + 1 := ⟨n - 1, by omega⟩
    unfold R46_palette_l2 R46_palette_l2_b
    rw [List.drop_eq_nil_of_le (by omega)]
    exact go_fad (go_l A.c' ((e1 _ _).trans ((e2 _ _).trans (go_f (decide_eq_false (by omega)) rfl))))
  | succ m ih =>
    intro n i hn hj R KE KR
    obtain ⟨n, rfl⟩ : ∃ n', n = n' + 1 := ⟨n - 1, by omega⟩
    obtain ⟨x, hy⟩ := ex_get (l := r.2.2) (i := i) (by omega)
    obtain ⟨p', e3, e4⟩ := int_at hS hy
    rw [drop_cons hy]
    unfold R46_palette_l2 R46_palette_l2_b R46_palette_p3 R46_palette_p3_b
    refine go_fad (go_l A.c' ((e1 _ _).trans ((e2 _ _).trans (go_t (decide_eq_true (by omega)) ?_))))
    refine go_fad (go_l A.c' ((e1 _ _).trans ((e2 _ _).trans ((e3 _ _).trans ((e4 _ _).trans ?_)))))
    show _ = bif (decide (0 ≤ x ∧ x ≤ 255) && inB 0 255 (r.2.2.drop (i + 1))) then _ else _
    by_cases h1 : x < 0
    · rw [show decide (0 ≤ x ∧ x ≤ 255) = false from decide_eq_false (by omega)]
      exact go_t (decide_eq_true h1) rfl
    · refine go_f (decide_eq_false h1) (go_fad (go_l A.c' ((e1 _ _).trans ((e2 _ _).trans ((e3 _ _).trans ((e4 _ _).trans ?_))))))
      by_cases h2 : x > 255
      · rw [show decide (0 ≤ x ∧ x ≤ 255) = false from decide_eq_false (by omega)]
        exact go_t (decide_eq_true h2) rfl
      · rw [show decide (0 ≤ x ∧ x ≤ 255) = true from decide_eq_true (by omega), Bool.true_and]
        refine go_f (decide_eq_false h2) ?_
        dsimp only
        rw [w64 (n := (i : Int) + 1) (by omega) (by omega)]
        exact ih n (i + 1) (by omega) (by omega) R KE KR
theorem rrows_l (k : Nat) (hk : 1000 < k) {b : Nat} {s : Int} {H : Heap} {q q2 : Option Addr} {l c c2 : Nat} {rows : List Rw} (A : At3 H b s q l c q2 rows.length c2) (hp : PalS H q2 rows) (hl : rows.length ≤ 70000) (hr : ∀ r ∈ rows, r.2.2.length ≤ 1000) : ∀ (m n i : Nat), m < n → rows.length = i + m → ∀ (R : Type) (KE : Unit → Option R) (KR : Bool → Option R),
    R46_palette_l1 k KE KR n (some ⟨b, 0, none⟩) (i : Int) H = bif okP l (rows.drop i) then KE () else KR false := by
  intro m
  induction m with
  | zero =>
    intro n i hn hj R KE KR
    obtain ⟨n, rfl⟩ : ∃ n', n = n' + 1 := ⟨n - 1, by omega⟩
    unfold R46_palette_l1 R46_palette_l1_b
    rw [List.drop_eq_nil_of_le (by omega)]
    exact go_fad (go_l A.c' (go_f (decide_eq_false (by omega)) rfl))
  | succ m ih =>
    intro n i hn hj R KE KR
    obtain ⟨n, rfl⟩ : ∃ n', n = n' + 1 := ⟨n - 1, by omega⟩
    obtain ⟨r, hx⟩ := ex_get (l := rows) (i := i) (by omega)
    obtain ⟨p, e1, e2⟩ := row_at hp hx
    have hrl := hr r (List.mem_of_getElem? hx)
    have cl := col_l k A hp hx hrl r.2.2.length k 0 (by omega) (by omega)
    rw [List.drop_zero] at cl
    rw [drop_cons hx]
    unfold R46_palette_l1 R46_palette_l1_b
    refine go_fad (go_l A.c' (go_t (decide_eq_true (by omega)) (go_fad (go_l A.c' ((e1 _ _).trans ((e2 _ _).trans (go_fad (go_l A.b' ?_))))))))
    show _ = bif ((decide (r.2.2.length = l) && inB 0 255 r.2.2) && okP l (rows.drop (i + 1))) then _ else _
    by_cases h1 : r.2.2.length = l
    · refine go_f (by rw [h1]; exact bne_self_eq_false' _) ((cl _ _ _).trans ?_)
      rw [decide_eq_true h1, Bool.true_and]
      cases h2 : inB 0 255 r.2.2 with
      | false => rfl
      | true =>
        rw [Bool.true_and, cond_true]
        try dsimp only
        rw [w64 (n := (i : Int) + 1) (by omega) (by omega)]
        exact ih n (i + 1) (by omega) (by omega) R KE KR
    · rw [decide_eq_false h1]
      exact go_t (by rw [bne_iff_ne]; omega) rfl
theorem palette_eq {k : Nat} (hk : 80000 < k) {H : Heap} {q q2 : Option Addr} {rs : List Int} {rows : List Rw} (s : Int) (c c2 : Nat) (hp : PalS H q2 rows) (F : FewC rs rows) :
    ∃ H', (∀ (R : Type) (K : Bool → Heap → Option R), R46_palette k s q rs.length c q2 rows.length c2 H K = K (depB rows.length && okP rs.length rows) H') ∧ Old H.length H H' := by
  have fb := F.b
  obtain ⟨H1, hH1⟩ : ∃ H1, H1 = H ++ [some (⟨[.int .i64 s, .slice q rs.length c, .slice q2 rows.length c2], false, 0⟩ : Blk)] := ⟨_, rfl⟩
  have o1 : Old H.length H H1 := hH1 ▸ Old.app _ _
  have A := at3 (show Owns H1 H.length [.int .i64 s, .slice q rs.length c, .slice q2 rows.length c2] 0 by rw [hH1]; exact hblk_new H _)
  have rl := rrows_l k (by omega) A (hp.keep o1) F.b F.c rows.length k 0 (by omega) (by omega)
  rw [List.drop_zero] at rl
  refine ⟨H1, fun R K => ?_, o1⟩
  unfold R46_palette R46_palette_b R46_palette_p0 R46_palette_p0_b
  refine go_halN hH1 (go_fad (go_l A.c' ?_))
  by_cases hz : rows.length = 0
  · refine go_f (decide_eq_false (by omega)) ((rl _ _ _).trans ?_)
    rw [show depB rows.length = true from by unfold depB; rw [decide_eq_true hz]; rfl, Bool.true_and]
    cases okP rs.length rows <;> rfl
  · refine go_t (decide_eq_true (by omega)) (go_fad (go_l A.c' ((rdepth_eq (by omega) _ _ _).trans ?_)))
    by_cases hd : dep rows.length = 0
    · rw [show depB rows.length = false from by unfold depB; rw [decide_eq_false hz, hd]; rfl]
      exact go_t (by rw [hd]; rfl) rfl
    · rw [show depB rows.length = true from by unfold depB; rw [Bool.or_eq_true]; exact .inr (by rw [bne_iff_ne]; exact hd), Bool.true_and]
      refine go_f (by rw [beq_eq_false_iff_ne]; exact hd) ((rl _ _ _).trans ?_)
      cases okP rs.length rows <;> rfl
theorem rvalid_eq {k : Nat} (hk : 80000 < k) {H : Heap} {q q2 : Option Addr} {rs : List Int} {rows : List Rw} (s : Int) (c c2 : Nat) (h : Shows H q (ints rs)) (hp : PalS H q2 rows) (F : FewC rs rows) :
    ∃ H', (∀ (R : Type) (K : Int → Heap → Option R), R46_Valid k s q rs.length c q2 rows.length c2 H K = K (validI s rs rows) H') ∧ Old H.length H H' := by
  obtain ⟨H1, hH1⟩ : ∃ H1, H1 = H ++ [some (⟨[.int .i64 s, .slice q rs.length c, .slice q2 rows.length c2], false, 0⟩ : Blk)] := ⟨_, rfl⟩
  have o1 : Old H.length H H1 := hH1 ▸ Old.app _ _
  have O1 : Owns H1 H.length [.int .i64 s, .slice q rs.length c, .slice q2 rows.length c2] 0 := by rw [hH1]; exact hblk_new H _
  have l1 : H1.length = H.length + 1 := by rw [hH1]; simp
  have A := at3 O1
  obtain ⟨H2, e2, o2⟩ := rroles_eq (k := k) (by omega) s c rows.length c2 (h.keep o1) (by have := F.a; omega) (q2 := q2)
  have B := at3 (O1.old o2 (by omega))
  have oo : Old H.length H H2 := o1.trans (o2.mono (by omega))
  obtain ⟨H3, e3, o3⟩ := palette_eq (k := k) hk s c c2 (q := q) (hp.keep oo) F
  have l2 := o2.1
  by_cases h1 : s < 1
  · refine ⟨H1, fun R K => ?_, o1⟩
    rw [show validI s rs rows = 3 from by unfold validI kn; rw [decide_eq_false (by omega)]; rfl]
    unfold R46_Valid R46_Valid_b R46_Valid_p0 R46_Valid_p0_b
    exact go_halN hH1 (go_fad (go_i A.a (go_t (decide_eq_true h1) rfl)))
  by_cases h4 : s > 4
  · refine ⟨H1, fun R K => ?_, o1⟩
    rw [show validI s rs rows = 3 from by unfold validI kn; rw [decide_eq_false (by omega)]; rfl]
    unfold R46_Valid R46_Valid_b R46_Valid_p0 R46_Valid_p0_b
    exact go_halN hH1 (go_fad (go_i A.a (go_f (decide_eq_false h1) (go_fad (go_i A.a (go_t (decide_eq_true h4) rfl))))))
  have e0 : validI s rs rows = if rolesB s rs && depB rows.length && okP rs.length rows then 0 else 21 := by unfold validI kn; rw [decide_eq_true (by omega)]; rfl
  rw [e0]
  have start : ∀ (R : Type) (K : Int → Heap → Option R) (r : Option R), (bif (!rolesB s rs) then K 21 H2 else ldI .i64 H2 (pad (some ⟨H.length, 0, none⟩) 0) fun n22 => ldL H2 (pad (some ⟨H.length, 0, none⟩) 1) fun q23 l24 c25 => ldL H2 (pad (some ⟨H.length, 0, none⟩) 2) fun q26 l27 c28 => R46_palette k n22 q23 l24 c25 q26 l27 c28 H2 fun t29 H30 => bif (!t29) then K 21 H30 else K 0 H30) = r → R46_Valid k s q rs.length c q2 rows.length c2 H K = r := by
    intro R K r hr
    unfold R46_Valid R46_Valid_b R46_Valid_p0 R46_Valid_p0_b
    exact go_halN hH1 (go_fad (go_i A.a (go_f (decide_eq_false h1) (go_fad (go_i A.a (go_f (decide_eq_false h4) (go_ip A.a (go_lp A.b' (go_lp A.c' ((e2 _ _).trans hr))))))))))
  cases hro : rolesB s rs with
  | false => exact ⟨H2, fun R K => start R K _ (by rw [hro]; exact go_t rfl rfl), oo⟩
  | true =>
    refine ⟨H3, fun R K => start R K _ ?_, oo.trans (o3.mono (by omega))⟩
    rw [hro]
    refine go_f rfl (go_ip B.a (go_lp B.b' (go_lp B.c' ((e3 _ _).trans ?_))))
    rw [Bool.true_and]
    cases depB rows.length && okP rs.length rows <;> rfl
def fewB (rs : List Int) (rows : List Rw) : Bool := decide (rs.length ≤ 20) && decide (rows.length ≤ 300) && rows.all fun r => decide (r.2.2.length ≤ 20)
theorem few_of {rs : List Int} {rows : List Rw} (h : fewB rs rows = true) : FewC rs rows := by
  unfold fewB at h
  simp only [Bool.and_eq_true, decide_eq_true_eq, List.all_eq_true] at h
  exact ⟨by omega, by omega, fun r hr => by have := h.2 r hr; omega⟩
theorem few_l (k : Nat) {b : Nat} {s : Int} {H : Heap} {q q2 : Option Addr} {l c c2 : Nat} {rows : List Rw} (A : At3 H b s q l c q2 rows.length c2) (hp : PalS H q2 rows) (hl : rows.length ≤ 300) : ∀ (m n i : Nat), m < n → rows.length = i + m → ∀ (R : Type) (KE : Unit → Option R) (KR : Bool → Option R),
    R46_Few_l1 k KE KR n (some ⟨b, 0, none⟩) (i : Int) H = bif (rows.drop i).all (fun r => decide (r.2.2.length ≤ 20)) then KE () else KR false := by
  intro m
  induction m with
  | zero =>
    intro n i hn hj R KE KR
    obtain ⟨n, rfl⟩ : ∃ n', n = n' + 1 := ⟨n - 1, by omega⟩
    unfold R46_Few_l1 R46_Few_l1_b
    rw [List.drop_eq_nil_of_le (by omega)]
    exact go_fad (go_l A.c' (go_f (decide_eq_false (by omega)) rfl))
  | succ m ih =>
    intro n i hn hj R KE KR
    obtain ⟨n, rfl⟩ : ∃ n', n = n' + 1 := ⟨n - 1, by omega⟩
    obtain ⟨r, hx⟩ := ex_get (l := rows) (i := i) (by omega)
    obtain ⟨p, e1, e2⟩ := row_at hp hx
    rw [drop_cons hx, List.all_cons]
    unfold R46_Few_l1 R46_Few_l1_b
    refine go_fad (go_l A.c' (go_t (decide_eq_true (by omega)) (go_fad (go_l A.c' ((e1 _ _).trans ((e2 _ _).trans ?_))))))
    by_cases h1 : r.2.2.length ≤ 20
    · rw [decide_eq_true h1, Bool.true_and]
      refine go_f (decide_eq_false (by omega)) ?_
      rw [w64 (n := (i : Int) + 1) (by omega) (by omega)]
      exact ih n (i + 1) (by omega) (by omega) R KE KR
    · rw [decide_eq_false h1]
      exact go_t (decide_eq_true (by omega)) rfl
theorem Few_eq {k : Nat} (hk : 80000 < k) {H : Heap} {q q2 : Option Addr} {rs : List Int} {rows : List Rw} (s : Int) (c c2 : Nat) (hp : PalS H q2 rows) :
    ∃ H', (∀ (R : Type) (K : Bool → Heap → Option R), R46_Few k s q rs.length c q2 rows.length c2 H K = K (fewB rs rows) H') ∧ Old H.length H H' := by
  obtain ⟨H1, hH1⟩ : ∃ H1, H1 = H ++ [some (⟨[.int .i64 s, .slice q rs.length c, .slice q2 rows.length c2], false, 0⟩ : Blk)] := ⟨_, rfl⟩
  have o1 : Old H.length H H1 := hH1 ▸ Old.app _ _
  have A := at3 (show Owns H1 H.length [.int .i64 s, .slice q rs.length c, .slice q2 rows.length c2] 0 by rw [hH1]; exact hblk_new H _)
  refine ⟨H1, fun R K => ?_, o1⟩
  unfold R46_Few R46_Few_b R46_Few_p0 R46_Few_p0_b
  refine go_halN hH1 (go_fad (go_l A.b' ?_))
  unfold fewB
  by_cases h1 : rs.length ≤ 20
  case neg => rw [decide_eq_false h1]; exact go_t (decide_eq_true (by omega)) rfl
  rw [decide_eq_true h1]
  refine go_f (decide_eq_false (by omega)) (go_fad (go_l A.c' ?_))
  by_cases h2 : rows.length ≤ 300
  case neg => rw [decide_eq_false h2]; exact go_t (decide_eq_true (by omega)) rfl
  rw [decide_eq_true h2]
  have fl := few_l k A (hp.keep o1) h2 rows.length k 0 (by omega) (by omega)
  rw [List.drop_zero] at fl
  refine go_f (decide_eq_false (by omega)) ((fl _ _ _).trans ?_)
  cases rows.all fun r => decide (r.2.2.length ≤ 20) <;> rfl
theorem rcheck_eq {k : Nat} (hk : 80000 < k) {H : Heap} {q q2 q3 : Option Addr} {rs : List Int} {rows : List Rw} {cs : List Cm} (s : Int) (c c2 : Nat) (n1 n2 n3 n4 n5 n6 : Int) (c3 : Nat) (h : Shows H q (ints rs)) (hp : PalS H q2 rows) (hc : Shows H q3 (cs.flatMap cmc)) (F : FewC rs rows) :
    ∃ H', (∀ (R : Type) (K : Int → Heap → Option R), R46_Check k s q rs.length c q2 rows.length c2 n1 n2 n3 n4 n5 n6 q3 cs.length c3 H K = K (checkI s rs rows cs) H') ∧ Old H.length H H' := by
  have fb := F.b
  obtain ⟨H1, hH1⟩ : ∃ H1, H1 = H ++ [some (⟨[.int .i64 s, .slice q rs.length c, .slice q2 rows.length c2], false, 0⟩ : Blk)] := ⟨_, rfl⟩
  have o1 : Old H.length H H1 := hH1 ▸ Old.app _ _
  have O1 : Owns H1 H.length [.int .i64 s, .slice q rs.length c, .slice q2 rows.length c2] 0 := by rw [hH1]; exact hblk_new H _
  have l1 : H1.length = H.length + 1 := by rw [hH1]; simp
  obtain ⟨H2, hH2⟩ : ∃ H2, H2 = H1 ++ [some (⟨[.int .i64 n1, .int .i64 n2, .int .i64 n3, .int .i64 n4, .int .i64 n5, .int .i64 n6, .slice q3 cs.length c3], false, 0⟩ : Blk)] := ⟨_, rfl⟩
  have o2 : Old H1.length H1 H2 := hH2 ▸ Old.app _ _
  have O2 : Owns H2 H1.length [.int .i64 n1, .int .i64 n2, .int .i64 n3, .int .i64 n4, .int .i64 n5, .int .i64 n6, .slice q3 cs.length c3] 0 := by rw [hH2]; exact hblk_new H1 _
  have l2 : H2.length = H1.length + 1 := by rw [hH2]; simp
  have Oc2 := O1.old o2 (by omega)
  have m0 : hcell H2 H.length 0 = some (.int .i64 s) := Oc2.sees.cell 0
  have m1 : hcell H2 H.length 1 = some (.slice q rs.length c) := Oc2.sees.cell 1
  have m2 : hcell H2 H.length 2 = some (.slice q2 rows.length c2) := Oc2.sees.cell 2
  have o12 := o1.trans (o2.mono (by omega))
  obtain ⟨H3, e3, o3⟩ := rvalid_eq (k := k) hk s c c2 (h.keep o12) (hp.keep o12) F
  have oo := o12.trans (o3.mono (by omega))
  have Oc3 := Oc2.old o3 (by omega)
  have Oh3 := O2.old o3 (by omega)
  have a1 : hcell H3 H.length 1 = some (.slice q rs.length c) := Oc3.sees.cell 1
  have a2 : hcell H3 H.length 2 = some (.slice q2 rows.length c2) := Oc3.sees.cell 2
  have h6 : hcell H3 H1.length 6 = some (.slice q3 cs.length c3) := Oh3.sees.cell 6
  refine ⟨H3, fun R K => ?_, oo⟩
  unfold R46_Check R46_Check_b
  refine go_halN hH1 (go_halN hH2 (go_ip m0 (go_lp m1 (go_lp m2 ((e3 _ _).trans ?_)))))
  unfold checkI
  by_cases hv : validI s rs rows = 0
  case neg => rw [if_pos hv]; exact go_t (by rw [bne_iff_ne]; exact hv) rfl
  rw [if_neg (by simp [hv])]
  refine go_f (by rw [hv]; rfl) (go_fad (go_l a2 ?_))
  by_cases hz : rows.length = 0
  · rw [if_pos hz]
    refine go_t (by rw [hz]; rfl) (go_fad (go_l h6 (go_fad (go_l a1 ?_))))
    by_cases hcl : cs.length = rs.length
    · rw [if_pos hcl]; exact go_f (by rw [hcl]; exact bne_self_eq_false' _) rfl
    · rw [if_neg hcl]; exact go_t (by rw [bne_iff_ne]; omega) rfl
  · rw [if_neg hz]
    refine go_f (by rw [beq_eq_false_iff_ne]; omega) (go_fad (go_l h6 ?_))
    match cs, hc, h6 with
    | [], _, _ => exact go_t rfl rfl
    | [x], hc, h6 =>
      obtain ⟨b, o, e4, x0, x1, _, _⟩ := one_at (hc.keep oo)
      show _ = K (if x.2.1 = true ∨ x.1 ≠ dep rows.length then 21 else 0) H3
      refine go_f rfl (go_fad (go_l h6 ((e4 _ _).trans (go_fad (go_b x1 ?_)))))
      by_cases hs : x.2.1 = true
      · rw [if_pos (.inl hs)]; exact go_t hs rfl
      · refine go_f (by simpa using hs) (go_fad (go_l h6 ((e4 _ _).trans (go_fad (go_i x0 (go_fad (go_l a2 ((rdepth_eq (by omega) _ _ _).trans ?_))))))))
        by_cases hd : x.1 = dep rows.length
        · rw [if_neg (by simp [hs, hd])]; exact go_f (by rw [hd]; exact bne_self_eq_false' _) rfl
        · rw [if_pos (.inr hd)]; exact go_t (by rw [bne_iff_ne]; exact hd) rfl
    | _ :: _ :: l, _, _ => exact go_t (by rw [bne_iff_ne]; simp; omega) rfl
end Go.Proofs.Ytkjcjlembepdkaa.Sh
/- Colorspec: color specifications and headers that came in. -/
set_option linter.unusedVariables false
set_option linter.unusedSimpArgs false
namespace Go.Proofs.Ytkjcjlembepdkaa.Sh
open Go.Proofs.Ytkjcjlembepdkaa.FW
abbrev dColor : D := .pair (.int .i64) (.pair (.slc (.int .i64)) (.pair (.slc (.slc (.int .i64))) .nil))
abbrev dRect : D := .pair (.int .i64) (.pair (.int .i64) (.pair (.int .i64) (.pair (.int .i64) .nil)))
abbrev dComp : D := .pair (.int .i64) (.pair .bool (.pair (.int .i64) (.pair (.int .i64) .nil)))
abbrev dHeader : D := .pair dRect (.pair (.int .i64) (.pair (.int .i64) (.pair (.slc dComp) .nil)))
def i64s (xs : List Int) : Prop := ∀ v ∈ xs, -9223372036854775808 ≤ v ∧ v ≤ 9223372036854775807
theorem ints_of {H : Heap} : ∀ (es : List (List Value)), (∀ e ∈ es, Shp (.int .i64) H e) → ∃ xs : List Int, xs.length = es.length ∧ es.flatten = ints xs ∧ i64s xs := by
  intro es
  induction es with
  | nil => intro _; exact ⟨[], rfl, rfl, fun v h => by cases h⟩
  | cons e es ih =>
    intro h
    obtain ⟨xs, h1, h2, h3⟩ := ih fun x hx => h x (List.mem_cons_of_mem _ hx)
    obtain ⟨a, rfl, ha⟩ := h e (by simp)
    refine ⟨a :: xs, by simp [h1], by rw [List.flatten_cons, h2]; rfl, fun v hv => ?_⟩
    rcases List.mem_cons.1 hv with rfl | hv
    · exact wf_64 ha
    · exact h3 v hv
theorem rows_of {H : Heap} : ∀ (es : List (List Value)), (∀ e ∈ es, Shp (.slc (.int .i64)) H e) → ∃ rows : List Rw, rows.length = es.length ∧ es.flatten = rows.map rc ∧ ∀ r ∈ rows, Shows H r.1 (ints r.2.2) ∧ i64s r.2.2 := by
  intro es
  induction es with
  | nil => intro _; exact ⟨[], rfl, rfl, fun v h => by cases h⟩
  | cons e es ih =>
    intro h
    obtain ⟨rows, h1, h2, h3⟩ := ih fun x hx => h x (List.mem_cons_of_mem _ hx)
    obtain ⟨q, c, es', rfl, _, _, he, hs⟩ := h e (by simp)
    obtain ⟨xs, g1, g2, g3⟩ := ints_of es' he
    rw [g2] at hs
    refine ⟨(q, c, xs) :: rows, by simp [h1], by rw [List.flatten_cons, h2, ← g1]; rfl, fun v hv => ?_⟩
    rcases List.mem_cons.1 hv with rfl | hv
    · exact ⟨hs, g3⟩
    · exact h3 v hv
theorem comps_of {H : Heap} : ∀ (es : List (List Value)), (∀ e ∈ es, Shp dComp H e) → ∃ cs : List Cm, cs.length = es.length ∧ es.flatten = cs.flatMap cmc := by
  intro es
  induction es with
  | nil => intro _; exact ⟨[], rfl, rfl⟩
  | cons e es ih =>
    intro h
    obtain ⟨cs, h1, h2⟩ := ih fun x hx => h x (List.mem_cons_of_mem _ hx)
    obtain ⟨_, _, rfl, ⟨a, rfl, _⟩, _, _, rfl, ⟨b, rfl⟩, _, _, rfl, ⟨c, rfl, _⟩, _, y4, rfl, ⟨d, rfl, _⟩, hn⟩ := h e (by simp)
    have hn' : y4 = [] := hn
    subst hn'
    exact ⟨(a, b, c, d) :: cs, by simp [h1], by rw [List.flatten_cons, h2]; rfl⟩
theorem color_of {H : Heap} {vs : List Value} (h : Shp dColor H vs) : ∃ (s : Int) (q : Option Addr) (rs : List Int) (c : Nat) (q2 : Option Addr) (rows : List Rw) (c2 : Nat), vs = [.int .i64 s, .slice q rs.length c, .slice q2 rows.length c2] ∧ Shows H q (ints rs) ∧ PalS H q2 rows ∧ i64s rs ∧ (∀ r ∈ rows, i64s r.2.2) ∧ i64s [s] := by
  obtain ⟨_, _, rfl, ⟨s, rfl, hw⟩, _, _, rfl, ⟨q, c, es, rfl, _, _, he, hs⟩, _, y, rfl, ⟨q2, c2, es2, rfl, _, _, he2, hs2⟩, hn⟩ := h
  have hn' : y = [] := hn
  subst hn'
  obtain ⟨rs, g1, g2, g3⟩ := ints_of es he
  obtain ⟨rows, f1, f2, f3⟩ := rows_of es2 he2
  rw [g2] at hs
  rw [f2] at hs2
  exact ⟨s, q, rs, c, q2, rows, c2, by rw [g1, f1]; rfl, hs, ⟨hs2, fun r hr => (f3 r hr).1⟩, g3, fun r hr => (f3 r hr).2, fun v hv => by simp at hv; subst hv; exact wf_64 hw⟩
theorem header_of {H : Heap} {vs : List Value} (h : Shp dHeader H vs) : ∃ (n1 n2 n3 n4 n5 n6 : Int) (q : Option Addr) (cs : List Cm) (c : Nat), vs = [.int .i64 n1, .int .i64 n2, .int .i64 n3, .int .i64 n4, .int .i64 n5, .int .i64 n6, .slice q cs.length c] ∧ Shows H q (cs.flatMap cmc) := by
  obtain ⟨r, _, rfl, ⟨_, _, rfl, ⟨a, rfl, _⟩, _, _, rfl, ⟨b, rfl, _⟩, _, _, rfl, ⟨c, rfl, _⟩, _, y4, rfl, ⟨d, rfl, _⟩, hn⟩, _, _, rfl, ⟨e, rfl, _⟩, _, _, rfl, ⟨f, rfl, _⟩, _, y, rfl, ⟨q, cc, es, rfl, _, _, he, hs⟩, hn2⟩ := h
  have hn' : y4 = [] := hn
  have hn2' : y = [] := hn2
  subst hn' hn2'
  obtain ⟨cs, g1, g2⟩ := comps_of es he
  rw [g2] at hs
  exact ⟨a, b, c, d, e, f, q, cs, cc, by rw [g1]; rfl, hs⟩
end Go.Proofs.Ytkjcjlembepdkaa.Sh
/- Colorspec: bytes; the program's and the reference's Encode. -/
set_option linter.unusedVariables false
set_option linter.unusedSimpArgs false
namespace Go.Proofs.Ytkjcjlembepdkaa.Sh
open Go.Proofs.Ytkjcjlembepdkaa.FW
def byt (l : List Int) : List Value := l.map (.int .u8)
theorem byt_len (l : List Int) : (byt l).length = l.length := by simp [byt]
theorem byt_app (a b : List Int) : byt (a ++ b) = byt a ++ byt b := by simp [byt]
theorem nums_byt (l : List Int) : nums (byt l) = some l := by
  induction l with
  | nil => rfl
  | cons x l ih => show (match nums (byt l) with | some xs => some (x :: xs) | none => none) = _; rw [ih]
theorem b2s_eq {H : Heap} {q : Option Addr} {l : List Int} (h : Shows H q (byt l)) (R : Type) (K : ByteArray → Option R) : hb2s H q l.length K = K (strOfNums l) := by
  unfold hb2s
  have := h.hcells
  rw [byt_len] at this
  rw [this]
  simp only [nums_byt]
theorem ba_beq (s : ByteArray) : (s == s) = true := by
  show (s.data == s.data) = true
  exact beq_self_eq_true _
def w8 (n : Int) : Int := IntKind.wrap .u8 n
theorem w8_in {n : Int} (h0 : 0 ≤ n) (h1 : n ≤ 255) : w8 n = n := IntWalk.u8_in n ⟨h0, h1⟩
/-- A row that has grown, or is full. -/
def Grw (N size : Nat) (H : Heap) (q : Option Addr) (l c : Nat) (cs : List Value) : Prop := Bld N size H q l c cs ∨ (l = c ∧ c < unk ∧ Shows H q cs ∧ l * size = cs.length)
theorem Grw.shows {N size : Nat} {H : Heap} {q : Option Addr} {l c : Nat} {cs : List Value} (h : Grw N size H q l c cs) : Shows H q cs ∧ l * size = cs.length := by
  rcases h with h | ⟨_, _, h, e⟩
  · exact h.shows
  · exact ⟨h, e⟩
theorem Grw.keep {N size : Nat} {H H' : Heap} {q : Option Addr} {l c : Nat} {cs : List Value} (h : Grw N size H q l c cs) (o : Old H.length H H') : Grw N size H' q l c cs := by
  rcases h with h | ⟨e1, e2, h, e⟩
  · exact .inl (h.old o (Nat.le_refl _))
  · exact .inr ⟨e1, e2, h.keep o, e⟩
theorem Grw.app {N size bytes : Nat} {H : Heap} {q p : Option Addr} {l c n : Nat} {cs xs : List Value} (h : Grw N size H q l c cs) (hN : N ≤ H.length) (hp : Shows H p xs) (hx : xs.length = n * size) (hb : (l + n) * bytes ≤ 35184372088832) (hn : 0 < n) :
    ∃ q' H', (∀ (R : Type) (K : Option Addr → Nat → Nat → Heap → Option R), happS size bytes H q l c p n K = K q' (l + n) unk H') ∧ Grw N size H' q' (l + n) unk (cs ++ xs) ∧ Old N H H' ∧ H'.length = H.length + 1 := by
  rcases h with h | ⟨rfl, e2, h, e⟩
  · obtain ⟨q', H', e1, B, o, l'⟩ := h.app hN hp hx hb hn
    exact ⟨q', H', e1, .inl B, o, l'⟩
  · have hc := hp.hcells
    rw [hx] at hc
    have ho := h.hcells
    rw [← e] at ho
    refine ⟨some ⟨H.length, 0, none⟩, H ++ [some ⟨cs ++ xs, false, size⟩], fun R K => ?_, .inl (.inr ⟨H.length, rfl, rfl, hN, (show hblk _ _ = _ from app_new H (some ⟨cs ++ xs, false, size⟩) []), by rw [Nat.add_mul, List.length_append, e, hx]⟩), (Old.app _ _).mono hN, by simp⟩
    unfold happS happ
    rw [hc]
    dsimp only
    rw [if_neg (by omega), if_neg (by omega), if_pos hb, ho]
/-- A byte appended. -/
theorem Grw.one {N : Nat} {H : Heap} {q : Option Addr} {c : Nat} {xs : List Int} (h : Grw N 1 H q xs.length c (byt xs)) (hN : N ≤ H.length) (hl : xs.length ≤ 100000000) (x : Int) :
    ∃ H1 q' H', H1 = H ++ [some (⟨[.int .u8 x], false, 0⟩ : Blk)] ∧ (∀ (R : Type) (K : Option Addr → Nat → Nat → Heap → Option R), happS 1 1 H1 q xs.length c (some ⟨H.length, 0, none⟩) 1 K = K q' (xs.length + 1) unk H') ∧ Grw N 1 H' q' (xs ++ [x]).length unk (byt (xs ++ [x])) ∧ Old N H H' ∧ H.length ≤ H'.length := by
  obtain ⟨H1, hH1⟩ : ∃ H1, H1 = H ++ [some (⟨[.int .u8 x], false, 0⟩ : Blk)] := ⟨_, rfl⟩
  have o1 : Old H.length H H1 := hH1 ▸ Old.app _ _
  have O1 : Owns H1 H.length (byt [x]) 0 := by rw [hH1]; exact hblk_new H _
  have l1 : H1.length = H.length + 1 := by rw [hH1]; simp
  obtain ⟨q', H', e, G, o, l'⟩ := (h.keep o1).app (bytes := 1) (n := 1) (by omega) O1.sees.shows rfl (by omega) (by omega)
  refine ⟨H1, q', H', hH1, e, ?_, (o1.mono hN).trans o, by omega⟩
  rw [List.length_append, byt_app]
  exact G
theorem enc0_l (k : Nat) (p : Option Addr) {N : Nat} {q : Option Addr} {rs : List Int} (c : Nat) (hl : rs.length ≤ 1000) : ∀ (m n i : Nat), m < n → rs.length = i + m → ∀ (H : Heap) (q1 : Option Addr) (c1 : Nat) (bs : List Int), Grw N 1 H q1 bs.length c1 (byt bs) → N ≤ H.length → (∀ a, q = some a → a.block < N) → Shows H q (ints rs) → bs.length + m ≤ 10000000 →
    ∃ H' q' c', (∀ (R : Type) (KE : Option Addr → Option Addr → Nat → Nat → Heap → Option R), colorspec_Encode_l0 k KE n p q1 bs.length c1 q rs.length c ((rs.length : Nat) : Int) (i : Int) H = KE p q' (bs ++ (rs.drop i).map w8).length c' H') ∧ Grw N 1 H' q' (bs ++ (rs.drop i).map w8).length c' (byt (bs ++ (rs.drop i).map w8)) ∧ Old N H H' := by
  intro m
  induction m with
  | zero =>
    intro n i hn hj H q1 c1 bs G hN hq hS hbl
    obtain ⟨n, rfl⟩ : ∃ n', n = n' + 1 := ⟨n - 1, by omega⟩
    have : bs ++ (rs.drop i).map w8 = bs := by rw [List.drop_eq_nil_of_le (by omega)]; simp
    rw [this]
    refine ⟨H, q1, c1, fun R KE => ?_, G, .refl _ _⟩
    unfold colorspec_Encode_l0 colorspec_Encode_l0_b
    exact go_f (decide_eq_false (by omega)) rfl
  | succ m ih =>
    intro n i hn hj H q1 c1 bs G hN hq hS hbl
    obtain ⟨n, rfl⟩ : ∃ n', n = n' + 1 := ⟨n - 1, by omega⟩
    obtain ⟨x, hx⟩ := ex_get (l := rs) (i := i) (by omega)
    obtain ⟨p', e1, e2⟩ := int_at hS hx
    obtain ⟨H1, q2, H2, hH1, e3, G2, o2, l2⟩ := G.one hN (by omega) (w8 x)
    have hS2 := hS.old o2 (.inr hq)
    obtain ⟨H3, q3, c3, e4, G3, o3⟩ := ih n (i + 1) (by omega) (by omega) H2 q2 unk _ G2 (by omega) hq hS2 (by rw [List.length_append, List.length_singleton]; omega)
    have he : bs ++ (rs.drop i).map w8 = bs ++ [w8 x] ++ (rs.drop (i + 1)).map w8 := by rw [drop_cons hx]; simp
    rw [he]
    refine ⟨H3, q3, c3, fun R KE => ?_, G3, o2.trans o3⟩
    unfold colorspec_Encode_l0 colorspec_Encode_l0_b
    refine go_t (decide_eq_true (by omega)) ((e1 _ _).trans ((e2 _ _).trans (go_halN hH1 ((e3 _ _).trans ?_))))
    rw [w64 (n := (i : Int) + 1) (by omega) (by omega)]
    have := e4 R KE
    rw [List.length_append] at this
    exact this
theorem enc2_l (k : Nat) {N : Nat} {q : Option Addr} {rs : List Int} (c : Nat) (hl : rs.length ≤ 1000) (qp : Option Addr) (lp cp : Nat) (np ip : Int) : ∀ (m n i : Nat), m < n → rs.length = i + m → ∀ (H : Heap) (q1 : Option Addr) (c1 : Nat) (bs : List Int), Grw N 1 H q1 bs.length c1 (byt bs) → N ≤ H.length → (∀ a, q = some a → a.block < N) → Shows H q (ints rs) → bs.length + m ≤ 80000000 →
    ∃ H' q' c', (∀ (R : Type) (KE : Option Addr → Nat → Nat → Option Addr → Nat → Nat → Int → Int → Heap → Option R), colorspec_Encode_l2 k KE n q1 bs.length c1 qp lp cp np ip q rs.length c ((rs.length : Nat) : Int) (i : Int) H = KE q' (bs ++ (rs.drop i).map w8).length c' qp lp cp np ip H') ∧ Grw N 1 H' q' (bs ++ (rs.drop i).map w8).length c' (byt (bs ++ (rs.drop i).map w8)) ∧ Old N H H' := by
  intro m
  induction m with
  | zero =>
    intro n i hn hj H q1 c1 bs G hN hq hS hbl
    obtain ⟨n, rfl⟩ : ∃ n', n = n' + 1 := ⟨n - 1, by omega⟩
    have : bs ++ (rs.drop i).map w8 = bs := by rw [List.drop_eq_nil_of_le (by omega)]; simp
    rw [this]
    refine ⟨H, q1, c1, fun R KE => ?_, G, .refl _ _⟩
    unfold colorspec_Encode_l2 colorspec_Encode_l2_b
    exact go_f (decide_eq_false (by omega)) rfl
  | succ m ih =>
    intro n i hn hj H q1 c1 bs G hN hq hS hbl
    obtain ⟨n, rfl⟩ : ∃ n', n = n' + 1 := ⟨n - 1, by omega⟩
    obtain ⟨x, hx⟩ := ex_get (l := rs) (i := i) (by omega)
    obtain ⟨p', e1, e2⟩ := int_at hS hx
    obtain ⟨H1, q2, H2, hH1, e3, G2, o2, l2⟩ := G.one hN (by omega) (w8 x)
    have hS2 := hS.old o2 (.inr hq)
    obtain ⟨H3, q3, c3, e4, G3, o3⟩ := ih n (i + 1) (by omega) (by omega) H2 q2 unk _ G2 (by omega) hq hS2 (by rw [List.length_append, List.length_singleton]; omega)
    have he : bs ++ (rs.drop i).map w8 = bs ++ [w8 x] ++ (rs.drop (i + 1)).map w8 := by rw [drop_cons hx]; simp
    rw [he]
    refine ⟨H3, q3, c3, fun R KE => ?_, G3, o2.trans o3⟩
    unfold colorspec_Encode_l2 colorspec_Encode_l2_b
    refine go_t (decide_eq_true (by omega)) ((e1 _ _).trans ((e2 _ _).trans (go_halN hH1 ((e3 _ _).trans ?_))))
    rw [w64 (n := (i : Int) + 1) (by omega) (by omega)]
    have := e4 R KE
    rw [List.length_append] at this
    exact this
theorem ints_below {H : Heap} {q : Option Addr} {xs : List Int} (h : Shows H q (ints xs)) : xs = [] ∨ Below H.length q := by
  rcases h with h | ⟨b, o, full, rfl, h1, _⟩
  · left; have := congrArg List.length h; rw [ints_len] at this; exact List.eq_nil_of_length_eq_zero (by simpa using this)
  · exact .inr fun a ha => by cases ha; exact h1.lt
def rcon (r : Rw) : List Int := r.2.2.map w8
/-- A palette that lies below a bound. -/
structure PalB (N : Nat) (H : Heap) (q : Option Addr) (rows : List Rw) : Prop where
  p : PalS H q rows
  a : rows = [] ∨ Below N q
  b : ∀ r ∈ rows, r.2.2 = [] ∨ Below N r.1
theorem PalS.below {H : Heap} {q : Option Addr} {rows : List Rw} (h : PalS H q rows) : PalB H.length H q rows := by
  refine ⟨h, ?_, fun r hr => ints_below (h.rw r hr)⟩
  rcases h.sh with h | ⟨b, o, full, rfl, h1, _⟩
  · left; have := congrArg List.length h; exact List.eq_nil_of_length_eq_zero (by simpa using this)
  · exact .inr fun a ha => by cases ha; exact h1.lt
theorem PalB.old {N : Nat} {H H' : Heap} {q : Option Addr} {rows : List Rw} (h : PalB N H q rows) (o : Old N H H') : PalB N H' q rows := by
  refine ⟨⟨h.p.sh.old o ?_, fun r hr => (h.p.rw r hr).old o ?_⟩, h.a, h.b⟩
  · rcases h.a with h | h
    · left; rw [h]; rfl
    · exact .inr h
  · rcases h.b r hr with h | h
    · left; rw [h]; rfl
    · exact .inr h
theorem enc1_l (k : Nat) (hk : 80000 < k) {N : Nat} {q : Option Addr} {rows : List Rw} (c : Nat) (hl : rows.length ≤ 70000) (hr : ∀ r ∈ rows, r.2.2.length ≤ 1000) : ∀ (m n i : Nat), m < n → rows.length = i + m → ∀ (H : Heap) (q1 : Option Addr) (c1 : Nat) (bs : List Int), Grw N 1 H q1 bs.length c1 (byt bs) → N ≤ H.length → PalB N H q rows → bs.length + m * 1000 ≤ 79000000 →
    ∃ H' q' c', (∀ (R : Type) (KE : Option Addr → Nat → Nat → Heap → Option R), colorspec_Encode_l1 k KE n q1 bs.length c1 q rows.length c ((rows.length : Nat) : Int) (i : Int) H = KE q' (bs ++ (rows.drop i).flatMap rcon).length c' H') ∧ Grw N 1 H' q' (bs ++ (rows.drop i).flatMap rcon).length c' (byt (bs ++ (rows.drop i).flatMap rcon)) ∧ Old N H H' := by
  intro m
  induction m with
  | zero =>
    intro n i hn hj H q1 c1 bs G hN hP hbl
    obtain ⟨n, rfl⟩ : ∃ n', n = n' + 1 := ⟨n - 1, by omega⟩
    have : bs ++ (rows.drop i).flatMap rcon = bs := by rw [List.drop_eq_nil_of_le (by omega)]; simp
    rw [this]
    refine ⟨H, q1, c1, fun R KE => ?_, G, .refl _ _⟩
    unfold colorspec_Encode_l1 colorspec_Encode_l1_b
    exact go_f (decide_eq_false (by omega)) rfl
  | succ m ih =>
    intro n i hn hj H q1 c1 bs G hN hP hbl
    obtain ⟨n, rfl⟩ : ∃ n', n = n' + 1 := ⟨n - 1, by omega⟩
    obtain ⟨r, hx⟩ := ex_get (l := rows) (i := i) (by omega)
    obtain ⟨p', e1, e2⟩ := row_at hP.p hx
    have hm := List.mem_of_getElem? hx
    have hrl := hr r hm
    have he : bs ++ (rows.drop i).flatMap rcon = bs ++ r.2.2.map w8 ++ (rows.drop (i + 1)).flatMap rcon := by rw [drop_cons hx]; simp [rcon]
    obtain ⟨H2, q2, c2, e3, G2, o2⟩ : ∃ H' q' c', (∀ (R : Type) (KE : Option Addr → Nat → Nat → Option Addr → Nat → Nat → Int → Int → Heap → Option R), colorspec_Encode_l2 k KE k q1 bs.length c1 q rows.length c ((rows.length : Nat) : Int) (i : Int) r.1 r.2.2.length r.2.1 ((r.2.2.length : Nat) : Int) 0 H = KE q' (bs ++ r.2.2.map w8).length c' q rows.length c ((rows.length : Nat) : Int) (i : Int) H') ∧ Grw N 1 H' q' (bs ++ r.2.2.map w8).length c' (byt (bs ++ r.2.2.map w8)) ∧ Old N H H' := by
      rcases hP.b r hm with hz | hz
      · obtain ⟨k', rfl⟩ : ∃ k', k = k' + 1 := ⟨k - 1, by omega⟩
        rw [hz]
        refine ⟨H, q1, c1, fun R KE => ?_, by simpa using G, .refl _ _⟩
        unfold colorspec_Encode_l2 colorspec_Encode_l2_b
        exact (go_f (decide_eq_false (by simp)) rfl).trans (by simp)
      · have := enc2_l k (q := r.1) (rs := r.2.2) r.2.1 hrl q rows.length c ((rows.length : Nat) : Int) (i : Int) r.2.2.length k 0 (by omega) (by omega) H q1 c1 bs G hN hz (hP.p.rw r hm) (by omega)
        rw [List.drop_zero] at this
        exact this
    obtain ⟨H3, q3, c3, e4, G3, o3⟩ := ih n (i + 1) (by omega) (by omega) H2 q2 c2 _ G2 (by have := o2.1; omega) (hP.old o2) (by rw [List.length_append, List.length_map]; omega)
    rw [he]
    refine ⟨H3, q3, c3, fun R KE => ?_, G3, o2.trans o3⟩
    unfold colorspec_Encode_l1 colorspec_Encode_l1_b
    refine go_t (decide_eq_true (by omega)) ((e1 _ _).trans ((e2 _ _).trans ((e3 _ _).trans ?_)))
    try dsimp only
    rw [w64 (n := (i : Int) + 1) (by omega) (by omega)]
    exact e4 R KE
/-- The bytes of a color specification. -/
def encB (s : Int) (rs : List Int) (rows : List Rw) : List Int := [w8 s, w8 ((rs.length : Nat) : Int)] ++ rs.map w8 ++ [w8 (Int.fdiv ((rows.length : Nat) : Int) 256), w8 ((rows.length : Nat) : Int)] ++ rows.flatMap rcon
def encR (s : Int) (rs : List Int) (rows : List Rw) : List Int := if validI s rs rows = 0 then encB s rs rows else []
theorem valid_few {s : Int} {rs : List Int} {rows : List Rw} (h : validI s rs rows = 0) : 1 ≤ rs.length ∧ rs.length ≤ 4 := by
  unfold validI at h
  split at h
  · split at h
    · rename_i h2
      simp only [Bool.and_eq_true, rolesB, decide_eq_true_eq] at h2
      omega
    · cases h
  · cases h
--BEGIN
theorem encode_eq {k : Nat} (hk : 80000 < k) {H : Heap} {q q2 : Option Addr} {rs : List Int} {rows : List Rw} (s : Int) (c c2 : Nat) (h : Shows H q (ints rs)) (hp : PalS H q2 rows) (F : FewC rs rows) :
    ∃ H' q' c', (∀ (R : Type) (K : Option Addr → Nat → Nat → Int → Heap → Option R), colorspec_Encode k s q rs.length c q2 rows.length c2 H K = K q' (encR s rs rows).length c' (validI s rs rows) H') ∧ Old H.length H H' ∧ Shows H' q' (byt (encR s rs rows)) ∧ (c' = unk ∨ (encR s rs rows).length ≤ c' ∧ c' < unk) := by
  have fb := F.b
  have fa := F.a
  obtain ⟨H1, hH1⟩ : ∃ H1, H1 = H ++ [some (⟨[.int .i64 s, .slice q rs.length c, .slice q2 rows.length c2], false, 0⟩ : Blk)] := ⟨_, rfl⟩
  have o1 : Old H.length H H1 := hH1 ▸ Old.app _ _
  have O1 : Owns H1 H.length [.int .i64 s, .slice q rs.length c, .slice q2 rows.length c2] 0 := by rw [hH1]; exact hblk_new H _
  have l1 : H1.length = H.length + 1 := by rw [hH1]; simp
  have A := at3 O1
  obtain ⟨H2, e2, o2⟩ := validate_eq (k := k) hk s c c2 (h.keep o1) (hp.keep o1) F
  have oo : Old H.length H H2 := o1.trans (o2.mono (by omega))
  have l2 := o2.1
  by_cases hv : validI s rs rows = 0
  case neg =>
    have he : encR s rs rows = [] := by unfold encR; rw [if_neg hv]
    rw [he]
    refine ⟨H2, none, 0, fun R K => ?_, oo, .inl rfl, .inr ⟨Nat.le_refl _, by unfold unk; omega⟩⟩
    unfold colorspec_Encode colorspec_Encode_b
    exact go_halN hH1 (go_ip A.a (go_lp A.b' (go_lp A.c' ((e2 _ _).trans (go_t (by rw [bne_iff_ne]; exact hv) rfl)))))
  have he : encR s rs rows = encB s rs rows := by unfold encR; rw [if_pos hv]
  rw [he, hv]
  have B := at3 (O1.old o2 (by omega))
  obtain ⟨H3, hH3⟩ : ∃ H3, H3 = H2 ++ [some (⟨[.int .u8 (w8 s), .int .u8 (w8 ((rs.length : Nat) : Int))], false, 0⟩ : Blk)] := ⟨_, rfl⟩
  have o3 : Old H2.length H2 H3 := hH3 ▸ Old.app _ _
  have O3 : Owns H3 H2.length (byt [w8 s, w8 ((rs.length : Nat) : Int)]) 0 := by rw [hH3]; exact hblk_new H2 _
  have l3 : H3.length = H2.length + 1 := by rw [hH3]; simp
  have C3 := at3 ((O1.old o2 (by omega)).old o3 (by omega))
  have o03 := oo.trans (o3.mono (by omega))
  have G3 : Grw H2.length 1 H3 (some ⟨H2.length, 0, none⟩) [w8 s, w8 ((rs.length : Nat) : Int)].length 2 (byt [w8 s, w8 ((rs.length : Nat) : Int)]) := .inr ⟨rfl, by unfold unk; omega, O3.sees.shows, rfl⟩
  have hne := valid_few hv
  have hq2 : ∀ a, q = some a → a.block < H2.length := by
    intro a ha
    rcases ints_below h with h | h
    · rw [h] at hne; simp at hne
    · have := h a ha; omega
  --E0
  obtain ⟨H4, q4, c4, e4, G4, o4⟩ := enc0_l k (some ⟨H.length, 0, none⟩) c fa rs.length k 0 (by omega) (by omega) H3 _ 2 _ G3 (by omega) hq2 (h.keep o03) (by simp; omega)
  --E0end
  rw [List.drop_zero] at e4 G4
  have l4 := o4.1
  have o04 : Old H.length H H4 := o03.trans (o4.mono (by omega))
  have O4 : Owns H4 H.length [.int .i64 s, .slice q rs.length c, .slice q2 rows.length c2] 0 := by
    have := (O1.old o2 (by omega)).old o3 (by omega)
    exact this.old o4 (by omega)
  have D4 := at3 O4
  obtain ⟨H5, hH5⟩ : ∃ H5, H5 = H4 ++ [some (⟨[.int .u8 (w8 (Int.fdiv ((rows.length : Nat) : Int) 256)), .int .u8 (w8 ((rows.length : Nat) : Int))], false, 0⟩ : Blk)] := ⟨_, rfl⟩
  have o5 : Old H4.length H4 H5 := hH5 ▸ Old.app _ _
  have O5 : Owns H5 H4.length (byt [w8 (Int.fdiv ((rows.length : Nat) : Int) 256), w8 ((rows.length : Nat) : Int)]) 0 := by rw [hH5]; exact hblk_new H4 _
  have l5 : H5.length = H4.length + 1 := by rw [hH5]; simp
  obtain ⟨q6, H6, e6, G6, o6, l6⟩ := (G4.keep o5).app (bytes := 1) (n := 2) (by omega) O5.sees.shows rfl (by simp; omega) (by omega)
  have o56 : Old H2.length H4 H6 := (o5.mono (by omega)).trans o6
  have o06 : Old H.length H H6 := o04.trans (o56.mono (by omega))
  have E6 := at3 (O4.old o56 (by omega))
  have G6' : Grw H2.length 1 H6 q6 ([w8 s, w8 ((rs.length : Nat) : Int)] ++ rs.map w8 ++ [w8 (Int.fdiv ((rows.length : Nat) : Int) 256), w8 ((rows.length : Nat) : Int)]).length unk (byt ([w8 s, w8 ((rs.length : Nat) : Int)] ++ rs.map w8 ++ [w8 (Int.fdiv ((rows.length : Nat) : Int) 256), w8 ((rows.length : Nat) : Int)])) := by
    rw [List.length_append, byt_app]
    exact G6
  have P6 : PalB H2.length H6 q2 rows := by
    have := (hp.keep oo).below
    exact this.old ((o3.mono (by omega)).trans (o4.trans o56))
  --E1
  obtain ⟨H7, q7, c7, e7, G7, o7⟩ := enc1_l k hk c2 fb F.c rows.length k 0 (by omega) (by omega) H6 q6 unk _ G6' (by omega) P6 (by simp; omega)
  --E1end
  rw [List.drop_zero] at e7 G7
  refine ⟨H7, q7, c7, fun R K => ?_, o06.trans (o7.mono (by omega)), G7.shows.1, ?cap⟩
  case cap =>
    rcases G7 with (⟨_, h2, h3, _⟩ | ⟨b, _, h2, _⟩) | ⟨h1, h2, _⟩
    · exact .inr ⟨by rw [h3]; exact Nat.le_of_eq h2, by rw [h3]; unfold unk; omega⟩
    · exact .inl h2
    · exact .inr ⟨Nat.le_of_eq h1, h2⟩
  have e5 : colorspec_Encode k s q rs.length c q2 rows.length c2 H K = happS 1 1 H5 q4 ([w8 s, w8 ((rs.length : Nat) : Int)] ++ rs.map w8).length c4 (some ⟨H4.length, 0, none⟩) 2 fun q50 l51 c52 H53 => hfad 2 (some ⟨H.length, 0, none⟩) fun p54 => ldL H53 p54 fun q55 l56 c57 => colorspec_Encode_l1 k (fun q61 l62 c63 H64 => K q61 l62 c63 0 H64) k q50 l51 c52 q55 l56 c57 ((l56 : Nat) : Int) 0 H53 := by
    unfold colorspec_Encode colorspec_Encode_b
    refine go_halN hH1 (go_ip A.a (go_lp A.b' (go_lp A.c' ((e2 _ _).trans (go_f (by rw [hv]; rfl) (go_fad (go_i B.a (go_fad (go_l B.b' (go_halN hH3 (go_fad (go_l C3.b' ((e4 _ _).trans ?_)))))))))))))
    exact go_fad (go_l D4.c' (go_fad (go_l D4.c' (go_halN hH5 rfl))))
  rw [e5]
  refine (e6 _ _).trans (go_fad (go_l E6.c' ?_))
  have := e7 R (fun q61 l62 c63 H64 => K q61 l62 c63 0 H64)
  rw [List.length_append (bs := [_, _])] at this
  exact this
--END
end Go.Proofs.Ytkjcjlembepdkaa.Sh
/- Colorspec: bytes that are read as numbers. -/
set_option linter.unusedVariables false
set_option linter.unusedSimpArgs false
namespace Go.Proofs.Ytkjcjlembepdkaa.Sh
open Go.Proofs.Ytkjcjlembepdkaa.FW
theorem Shows.same' {H H' : Heap} {q : Option Addr} {cs : List Value} (h : Shows H q cs) (e : ∀ a, q = some a → hblk H' a.block = hblk H a.block) : Shows H' q cs := by
  rcases h with h | ⟨b, o, full, rfl, ⟨B, g1, g2⟩, h2, h3⟩
  · exact .inl h
  · exact .inr ⟨b, o, full, rfl, ⟨B, by rw [e _ rfl]; exact g1, g2⟩, h2, h3⟩
theorem byt_at {H : Heap} {q : Option Addr} {xs : List Int} (h : Shows H q (byt xs)) {i : Nat} {x : Int} (hi : xs[i]? = some x) :
    ∃ p, (∀ (R : Type) (K : Option Addr → Option R), hidx q xs.length (i : Int) 1 K = K p) ∧ ∀ (R : Type) (K : Int → Option R), ldI .u8 H p K = K x := by
  have hlt : i < xs.length := (List.getElem?_eq_some_iff.1 hi).1
  obtain ⟨p, e, _, m⟩ := h.idx (l := xs.length) (size := 1) (by rw [byt_len]; omega) (i := (i : Int)) (by omega) (by omega) (by omega)
  exact ⟨p, e, fun R K => ldI_of (m _ (by rw [Int.toNat_natCast, Nat.mul_one]; simp [byt, hi])) rfl K⟩
/-- A row of one's own, one appended: what is left alone. -/
theorem Bld.app2 {N size bytes : Nat} {H : Heap} {q p : Option Addr} {l c n : Nat} {cs xs : List Value} (h : Bld N size H q l c cs) (hp : Shows H p xs) (hx : xs.length = n * size) (hb : (l + n) * bytes ≤ 35184372088832) (hn : 0 < n) :
    ∃ H', (∀ (R : Type) (K : Option Addr → Nat → Nat → Heap → Option R), happS size bytes H q l c p n K = K (some ⟨H.length, 0, none⟩) (l + n) unk H') ∧ Owns H' H.length (cs ++ xs) size ∧ (∀ i, i < H.length → (∀ a, q = some a → a.block ≠ i) → hblk H' i = hblk H i) ∧ H'.length = H.length + 1 ∧ (l + n) * size = (cs ++ xs).length := by
  have hc := hp.hcells
  rw [hx] at hc
  rcases h with ⟨rfl, rfl, rfl, rfl⟩ | ⟨b, rfl, rfl, h3, h4, h5⟩
  · refine ⟨H ++ [some ⟨xs, false, size⟩], fun R K => ?_, (show hblk _ _ = _ from app_new H (some ⟨xs, false, size⟩) []), fun i hi _ => app_old hi, by simp, by simp [hx]⟩
    unfold happS happ
    rw [hc]
    simp only
    rw [if_neg (by unfold unk; omega), if_neg (by omega), if_pos hb]
    simp [FW.hcells]
  · have hblt := h4.sees.lt
    have h4' : hblk H b = some ⟨cs, false, size⟩ := h4
    refine ⟨hset H b none ++ [some ⟨cs ++ xs, false, size⟩], fun R K => ?_, ?_, fun i hi hne => ?_, by simp [hset_length], by rw [Nat.add_mul, h5, List.length_append, hx]⟩
    · unfold happS happ
      rw [hc]
      simp only [if_true, h4', cond_false, h5, hb, true_and, and_self]
    · have := app_new (hset H b none) (some ⟨cs ++ xs, false, size⟩) []
      rwa [hset_length] at this
    · rw [app_old (by rw [hset_length]; omega), hset_get, if_neg (fun hh => hne _ rfl hh.1.symm)]
theorem Bld.lay {H H4 : Heap} {q : Option Addr} {l c sz : Nat} {cs : List Value} (b4 : Bld (roH H).length sz H4 q l c cs) : Bld H.length sz (H ++ H4.drop H.length) q l c cs := by
  rcases b4 with h | ⟨b, z1, z2, z3, z4, z5⟩
  · exact .inl h
  · rw [roH_length] at z3
    refine .inr ⟨b, z1, z2, z3, ?_, z5⟩
    unfold Owns at z4 ⊢
    rw [hblk_get] at z4 ⊢
    rw [List.getElem?_append_right z3, List.getElem?_drop, show H.length + (b - H.length) = b from by omega]
    exact z4
theorem numb_l (k : Nat) {N : Nat} {q : Option Addr} {bs : List Int} (c : Nat) (hl : bs.length ≤ 100000) (hbs : ∀ x ∈ bs, 0 ≤ x ∧ x ≤ 255) : ∀ (m n i : Nat), m < n → bs.length = i + m → ∀ (H : Heap) (q1 : Option Addr) (c1 : Nat), Bld N 1 H q1 i c1 (ints (bs.take i)) → N ≤ H.length → (bs = [] ∨ Below N q) → Shows H q (byt bs) →
    ∃ H' q' c', (∀ (R : Type) (KE : Option Addr → Nat → Nat → Heap → Option R), colorspec_numbers_l0 k KE n q1 i c1 q bs.length c ((bs.length : Nat) : Int) (i : Int) H = KE q' bs.length c' H') ∧ Bld N 1 H' q' bs.length c' (ints bs) ∧ Old N H H' := by
  intro m
  induction m with
  | zero =>
    intro n i hn hj H q1 c1 B hN hq hS
    obtain ⟨n, rfl⟩ : ∃ n', n = n' + 1 := ⟨n - 1, by omega⟩
    have hi : i = bs.length := by omega
    subst hi
    rw [List.take_of_length_le (Nat.le_refl _)] at B
    refine ⟨H, q1, c1, fun R KE => ?_, B, .refl _ _⟩
    unfold colorspec_numbers_l0 colorspec_numbers_l0_b
    exact go_f (decide_eq_false (by omega)) rfl
  | succ m ih =>
    intro n i hn hj H q1 c1 B hN hq hS
    obtain ⟨n, rfl⟩ : ∃ n', n = n' + 1 := ⟨n - 1, by omega⟩
    obtain ⟨x, hx⟩ := ex_get (l := bs) (i := i) (by omega)
    obtain ⟨p', e1, e2⟩ := byt_at hS hx
    have hxb := hbs x (List.mem_of_getElem? hx)
    obtain ⟨H1, hH1⟩ : ∃ H1, H1 = H ++ [some (⟨[.int .i64 (IntKind.wrap .i64 x)], false, 0⟩ : Blk)] := ⟨_, rfl⟩
    have o1 : Old H.length H H1 := hH1 ▸ Old.app _ _
    have O1 : Owns H1 H.length (ints [x]) 0 := by rw [hH1, w64 (n := x) (by omega) (by omega)]; exact hblk_new H _
    have l1 : H1.length = H.length + 1 := by rw [hH1]; simp
    obtain ⟨q2, H2, e3, B2, o2, l2⟩ := (B.old o1 (Nat.le_refl _)).app (bytes := 8) (n := 1) (by omega) O1.sees.shows rfl (by omega) (by omega)
    have o02 : Old N H H2 := (o1.mono hN).trans o2
    have B2' : Bld N 1 H2 q2 (i + 1) unk (ints (bs.take (i + 1))) := by rw [take_snoc hx]; simpa [ints] using B2
    obtain ⟨H3, q3, c3, e4, B3, o3⟩ := ih n (i + 1) (by omega) (by omega) H2 q2 unk B2' (by omega) hq (hS.old o02 (by
      rcases hq with h | h
      · left; rw [h]; rfl
      · exact .inr h))
    refine ⟨H3, q3, c3, fun R KE => ?_, B3, o02.trans o3⟩
    unfold colorspec_numbers_l0 colorspec_numbers_l0_b
    refine go_t (decide_eq_true (by omega)) ((e1 _ _).trans ((e2 _ _).trans (go_halN hH1 ((e3 _ _).trans ?_))))
    rw [w64 (n := (i : Int) + 1) (by omega) (by omega)]
    exact e4 R KE
theorem byt_below {H : Heap} {q : Option Addr} {xs : List Int} (h : Shows H q (byt xs)) : xs = [] ∨ Below H.length q := by
  rcases h with h | ⟨b, o, full, rfl, h1, _⟩
  · left; have := congrArg List.length h; rw [byt_len] at this; exact List.eq_nil_of_length_eq_zero (by simpa using this)
  · exact .inr fun a ha => by cases ha; exact h1.lt
/-- Numbers read apart, laid behind a heap. -/
theorem numbers_eq {k : Nat} (hk : 100000 < k) {H : Heap} {q : Option Addr} {bs : List Int} (c : Nat) (h : Shows H q (byt bs)) (hl : bs.length ≤ 100000) (hbs : ∀ x ∈ bs, 0 ≤ x ∧ x ≤ 255) :
    ∃ H1 G q' c', (∀ (R : Type) (K : Option Addr → Nat → Nat → Heap → Option R), colorspec_numbers k q bs.length c (roH H) K = K q' bs.length c' H1) ∧ G = H ++ H1.drop H.length ∧ Bld H.length 1 G q' bs.length c' (ints bs) ∧ Old H.length H G := by
  have hb := byt_below h.ro
  obtain ⟨H1, q1, c1, e, B, o⟩ := numb_l k (N := (roH H).length) c hl hbs bs.length k 0 (by omega) (by omega) (roH H) none 0 (.nil _ _ _) (Nat.le_refl _) hb h.ro
  refine ⟨H1, _, q1, c1, fun R K => ?_, rfl, Bld.lay B, Old.app _ _⟩
  unfold colorspec_numbers colorspec_numbers_b
  exact e _ _
/-- A part of the bytes. -/
theorem part_eq {H : Heap} {q : Option Addr} {bs : List Int} {c : Nat} (h : Shows H q (byt bs)) (hc : c = unk ∨ bs.length ≤ c ∧ c < unk) (hu : bs.length < unk) {lo hi : Nat} (h1 : 0 < lo) (h2 : lo ≤ hi) (h3 : hi ≤ bs.length) (h4 : lo < bs.length) :
    ∃ q' c', (∀ (R : Type) (K : Option Addr → Nat → Nat → Option R), hslc 1 q bs.length c (some (lo : Int)) (some (hi : Int)) none K = K q' ((bs.drop lo).take (hi - lo)).length c') ∧ Shows H q' (byt ((bs.drop lo).take (hi - lo))) := by
  rw [show ((bs.drop lo).take (hi - lo)).length = hi - lo from by simp; omega]
  rcases h with h | ⟨b, o, full, rfl, hs, g1, g2⟩
  · have := congrArg List.length h; rw [byt_len] at this; simp at this; subst this; simp at h4
  have hsub : Shows H (some ⟨b, o + lo, none⟩) (byt ((bs.drop lo).take (hi - lo))) := by
    refine .inr ⟨b, o + lo, full, rfl, hs, ?_, ?_⟩
    · rw [byt_len] at g1 ⊢; simp; omega
    · rw [byt_len, List.length_take, List.length_drop]
      have : byt ((bs.drop lo).take (hi - lo)) = ((byt bs).drop lo).take (hi - lo) := by simp [byt, List.map_take, List.map_drop]
      rw [this, ← g2, List.drop_take, List.drop_drop, List.take_take, byt_len]
      try (congr 1; omega)
  rcases hc with rfl | ⟨hc1, hc2⟩
  · refine ⟨_, unk, fun R K => ?_, hsub⟩
    unfold hslc
    dsimp only [Option.getD_some, Option.getD_none, Option.isSome_none, Option.isSome_some]
    rw [if_pos ⟨by omega, by omega, by omega, by rw [if_pos rfl]; exact ⟨rfl, .inr ⟨rfl, by omega⟩⟩⟩, if_pos ⟨rfl, rfl⟩, if_neg (by omega), if_pos ⟨by omega, by omega⟩]
    simp
  · by_cases hm : c = lo
    · omega
    · refine ⟨_, c - lo, fun R K => ?_, hsub⟩
      unfold hslc
      dsimp only [Option.getD_some, Option.getD_none, Option.isSome_none, Option.isSome_some]
      rw [if_pos ⟨by omega, by omega, by omega, by rw [if_neg (by omega)]; exact ⟨by omega, hc2⟩⟩, if_neg (fun hh => by omega), if_neg (by omega), if_neg (by omega)]
      simp
end Go.Proofs.Ytkjcjlembepdkaa.Sh
/- Colorspec: images; rows that grow within a struct; copies. -/
set_option linter.unusedVariables false
set_option linter.unusedSimpArgs false
namespace Go.Proofs.Ytkjcjlembepdkaa.Sh
open Go.Proofs.Ytkjcjlembepdkaa.FW
/-- What lies below N is as it was, but for one block. -/
def OldX (N b : Nat) (H H' : Heap) : Prop := H.length ≤ H'.length ∧ ∀ i, i < N → i ≠ b → hblk H' i = hblk H i
theorem OldX.old {N b : Nat} {H H' : Heap} (h : OldX N b H H') (hb : N ≤ b) : Old N H H' := ⟨h.1, fun i hi => h.2 i hi (by omega)⟩
theorem OldX.low {N b : Nat} {H H' : Heap} (h : OldX N b H H') (hb : b ≤ N) : Old b H H' := ⟨h.1, fun i hi => h.2 i (by omega) (by omega)⟩
theorem Old.x {N : Nat} {H H' : Heap} (b : Nat) (h : Old N H H') : OldX N b H H' := ⟨h.1, fun i hi _ => h.2 i hi⟩
theorem OldX.trans {N b : Nat} {H1 H2 H3 : Heap} (h : OldX N b H1 H2) (g : OldX N b H2 H3) : OldX N b H1 H3 := ⟨Nat.le_trans h.1 g.1, fun i hi hn => (g.2 i hi hn).trans (h.2 i hi hn)⟩
/-- A slice that a struct of one's own holds grows by one element. -/
theorem grow1 {N b sz bytes o : Nat} {H : Heap} {X : List Value} {qp : Option Addr} {l cp : Nat} {cells ec : List Value} (O : Owns H b X 0) (hX : o < X.length) (B : Bld N sz H qp l cp cells) (hpa : ∀ a, qp = some a → a.block ≠ b) (hsz : ec.length = sz) (hl : (l + 1) * bytes ≤ 35184372088832) (hN : N ≤ H.length) :
    ∃ H1 H2 H3, H1 = H ++ [some (⟨ec, false, 0⟩ : Blk)] ∧ (∀ (R : Type) (K : Option Addr → Nat → Nat → Heap → Option R), happS sz bytes H1 qp l cp (some ⟨H.length, 0, none⟩) 1 K = K (some ⟨H.length + 1, 0, none⟩) (l + 1) unk H2) ∧ (∀ (R : Type) (K : Heap → Option R), hst1 H2 (some ⟨b, o, none⟩) (.slice (some ⟨H.length + 1, 0, none⟩) (l + 1) unk) K = K H3) ∧ Owns H3 b (X.set o (.slice (some ⟨H.length + 1, 0, none⟩) (l + 1) unk)) 0 ∧ Bld N sz H3 (some ⟨H.length + 1, 0, none⟩) (l + 1) unk (cells ++ ec) ∧ (∀ i, i < H.length → (∀ a, qp = some a → a.block ≠ i) → i ≠ b → hblk H3 i = hblk H i) ∧ OldX N b H H3 ∧ H3.length = H.length + 2 := by
  obtain ⟨H1, hH1⟩ : ∃ H1, H1 = H ++ [some (⟨ec, false, 0⟩ : Blk)] := ⟨_, rfl⟩
  have o1 : Old H.length H H1 := hH1 ▸ Old.app _ _
  have O1 : Owns H1 H.length ec 0 := by rw [hH1]; exact hblk_new H _
  have l1 : H1.length = H.length + 1 := by rw [hH1]; simp
  have hbl := O.lt
  have B1 := B.old o1 (Nat.le_refl _)
  obtain ⟨H2, e2, O2, f2, l2, x2⟩ := Bld.app2 B1 (bytes := bytes) (n := 1) O1.sees.shows (by rw [hsz, Nat.one_mul]) hl (by omega)
  rw [l1] at e2 O2
  have Ob2 : Owns H2 b X 0 := by
    show hblk H2 b = _
    rw [f2 b (by omega) hpa]; exact O.old o1 hbl
  obtain ⟨H3, e3, O3, b3, n3⟩ := Ob2.st1 (o := o) hX (.slice (some ⟨H.length + 1, 0, none⟩) (l + 1) unk)
  have key : ∀ i, i < H.length → (∀ a, qp = some a → a.block ≠ i) → i ≠ b → hblk H3 i = hblk H i := fun i hi h1 h2 => by
    rw [b3.2 i (by omega) h2, f2 i (by omega) h1, o1.2 i hi]
  refine ⟨H1, H2, H3, hH1, e2, e3, O3, .inr ⟨_, rfl, rfl, by omega, O2.but b3 (by omega), x2⟩, key, ⟨by omega, fun i hi hn => key i (by omega) (fun a ha => ?_) hn⟩, by omega⟩
  rcases B with ⟨h, _⟩ | ⟨b', h, _, h3, _⟩
  · rw [h] at ha; cases ha
  · rw [h] at ha; cases ha; exact fun (h : b' = i) => by omega
/-- A copy: fresh, or nothing. -/
structure Cpy (n : Nat) (H : Heap) (q : Option Addr) (cs : List Value) : Prop where
  s : Shows H q cs
  a : ∀ a, q = some a → n ≤ a.block ∧ a.block < H.length
theorem Cpy.keep {n : Nat} {H H' : Heap} {q : Option Addr} {cs : List Value} (h : Cpy n H q cs) (o : Old H.length H H') : Cpy n H' q cs := ⟨h.s.keep o, fun a ha => ⟨(h.a a ha).1, by have := (h.a a ha).2; have := o.1; omega⟩⟩
theorem happ0 {sz bytes : Nat} {H : Heap} {b : Nat} {q : Option Addr} {n : Nat} {xs : List Value} (h : Shows H q xs) (hx : xs.length = n * sz) (hsz : 0 < sz) (hb : n * bytes ≤ 35184372088832) (hbl : b < H.length) :
    ∃ H' q' c', (∀ (R : Type) (K : Option Addr → Nat → Nat → Heap → Option R), happS sz bytes H (some ⟨b, 0, none⟩) 0 0 q n K = K q' n c' H') ∧ Cpy b H' q' xs ∧ Old H.length H H' := by
  have hc := h.hcells
  rw [hx] at hc
  by_cases h0 : n = 0
  · subst h0
    have : xs = [] := List.eq_nil_of_length_eq_zero (by rw [hx]; simp)
    subst this
    refine ⟨H, some ⟨b, 0, none⟩, 0, fun R K => ?_, ⟨.inl rfl, fun a ha => by cases ha; exact ⟨Nat.le_refl _, hbl⟩⟩, .refl _ _⟩
    unfold happS happ
    rw [hc]
    dsimp only
    rw [if_neg (by unfold unk; omega), if_pos (by omega), if_pos rfl]
  · refine ⟨H ++ [some ⟨xs, false, sz⟩], some ⟨H.length, 0, none⟩, unk, fun R K => ?_, ⟨(show Owns _ _ xs sz from hblk_new H _).sees.shows, fun a ha => by cases ha; simp; omega⟩, Old.app _ _⟩
    unfold happS happ
    rw [hc]
    dsimp only
    have hc2 : FW.hcells H (some ⟨b, 0, none⟩) (0 * sz) = some [] := by unfold FW.hcells; rw [if_pos (by omega)]
    rw [if_neg (by unfold unk; omega), if_neg (by omega), if_pos (by rw [Nat.zero_add]; exact hb), hc2, Nat.zero_add]
    rfl
theorem clone4_eq {H : Heap} {q : Option Addr} {cs : List Cm} (c : Nat) (h : Shows H q (cs.flatMap cmc)) (hl : cs.length ≤ 1000) :
    ∃ H' q' c', (∀ (R : Type) (K : Option Addr → Nat → Nat → Heap → Option R), api_Component_ q cs.length c H K = K q' cs.length c' H') ∧ Cpy H.length H' q' (cs.flatMap cmc) ∧ Old H.length H H' := by
  have hfl : (cs.flatMap cmc).length = cs.length * 4 := by
    clear h
    induction cs with
    | nil => rfl
    | cons x cs ih => rw [List.flatMap_cons, List.length_append, ih (by simp at hl; omega), List.length_cons]; show 4 + _ = _; omega
  cases q with
  | none =>
    have : cs = [] := by
      rcases h with h | ⟨b, o, full, hq, _⟩
      · rw [h] at hfl; exact List.eq_nil_of_length_eq_zero (by simp at hfl; omega)
      · cases hq
    subst this
    exact ⟨H, none, 0, fun R K => rfl, ⟨.inl rfl, fun a ha => by cases ha⟩, .refl _ _⟩
  | some a =>
    obtain ⟨H1, hH1⟩ : ∃ H1, H1 = H ++ [some (⟨[], false, 0⟩ : Blk)] := ⟨_, rfl⟩
    have o1 : Old H.length H H1 := hH1 ▸ Old.app _ _
    have l1 : H1.length = H.length + 1 := by rw [hH1]; simp
    obtain ⟨H2, q', c', e, C, o2⟩ := happ0 (sz := 4) (bytes := 32) (b := H.length) (h.keep o1) hfl (by omega) (by omega) (by omega)
    refine ⟨H2, q', c', fun R K => ?_, C, o1.trans (o2.mono (by omega))⟩
    unfold api_Component_ api_Component__b
    exact go_f rfl (go_halN hH1 (e _ _))
theorem clone1_eq {H : Heap} {q : Option Addr} {xs : List Int} (c : Nat) (h : Shows H q (ints xs)) (hl : xs.length ≤ 1000000) :
    ∃ H' q' c', (∀ (R : Type) (K : Option Addr → Nat → Nat → Heap → Option R), slices_Clone___int_int_ q xs.length c H K = K q' xs.length c' H') ∧ Cpy H.length H' q' (ints xs) ∧ Old H.length H H' := by
  cases q with
  | none =>
    have : xs = [] := by
      rcases h with h | ⟨b, o, full, hq, _⟩
      · have := congrArg List.length h; rw [ints_len] at this; exact List.eq_nil_of_length_eq_zero (by simpa using this)
      · cases hq
    subst this
    exact ⟨H, none, 0, fun R K => rfl, ⟨.inl rfl, fun a ha => by cases ha⟩, .refl _ _⟩
  | some a =>
    obtain ⟨H1, hH1⟩ : ∃ H1, H1 = H ++ [some (⟨[], false, 0⟩ : Blk)] := ⟨_, rfl⟩
    have o1 : Old H.length H H1 := hH1 ▸ Old.app _ _
    have l1 : H1.length = H.length + 1 := by rw [hH1]; simp
    obtain ⟨H2, q', c', e, C, o2⟩ := happ0 (sz := 1) (bytes := 8) (b := H.length) (h.keep o1) (by rw [ints_len, Nat.mul_one]) (by omega) (by omega) (by omega)
    refine ⟨H2, q', c', fun R K => ?_, C, o1.trans (o2.mono (by omega))⟩
    unfold slices_Clone___int_int_ slices_Clone___int_int__b
    exact go_f rfl (go_halN hH1 (e _ _))
/-- A copy that was made apart, laid behind a heap. -/
theorem Cpy.lay {H H4 : Heap} {q : Option Addr} {cs : List Value} (h : Cpy (roH H).length H4 q cs) : Cpy H.length (H ++ H4.drop H.length) q cs := by
  refine ⟨?_, fun a ha => ?_⟩
  · refine Shows.same' h.s fun a ha => ?_
    have := (h.a a ha).1
    rw [roH_length] at this
    rw [hblk_get, hblk_get, List.getElem?_append_right this, List.getElem?_drop, show H.length + (a.block - H.length) = a.block from by omega]
  · have := h.a a ha
    rw [roH_length] at this
    exact ⟨this.1, by rw [List.length_append, List.length_drop]; omega⟩
/-- A plane: its rectangle, where its data lie, the data. -/
abbrev Pn := (Int × Int × Int × Int) × Option Addr × Nat × List Int
def pnc (p : Pn) : List Value := [.int .i64 p.1.1, .int .i64 p.1.2.1, .int .i64 p.1.2.2.1, .int .i64 p.1.2.2.2, .slice p.2.1 p.2.2.2.length p.2.2.1]
structure PlnS (H : Heap) (q : Option Addr) (ps : List Pn) : Prop where
  sh : Shows H q (ps.flatMap pnc)
  w : ∀ p ∈ ps, Shows H p.2.1 (ints p.2.2.2)
theorem PlnS.keep {H H' : Heap} {q : Option Addr} {ps : List Pn} (h : PlnS H q ps) (o : Old H.length H H') : PlnS H' q ps := ⟨h.sh.keep o, fun r hr => (h.w r hr).keep o⟩
theorem pnc_len (ps : List Pn) : (ps.flatMap pnc).length = ps.length * 5 := by
  induction ps with
  | nil => rfl
  | cons x ps ih => rw [List.flatMap_cons, List.length_append, ih, List.length_cons]; show 5 + _ = _; omega
theorem cmc_len (ps : List Cm) : (ps.flatMap cmc).length = ps.length * 4 := by
  induction ps with
  | nil => rfl
  | cons x ps ih => rw [List.flatMap_cons, List.length_append, ih, List.length_cons]; show 4 + _ = _; omega
theorem fm_get {α : Type} (f : α → List Value) (sz : Nat) (hf : ∀ a, (f a).length = sz) : ∀ (l : List α) (i : Nat) (x : α), l[i]? = some x → ∀ j, j < sz → (l.flatMap f)[i * sz + j]? = (f x)[j]? := by
  intro l
  induction l with
  | nil => intro i x h; simp at h
  | cons y l ih =>
    intro i x h j hj
    rw [List.flatMap_cons]
    cases i with
    | zero => simp at h; subst h; rw [Nat.zero_mul, Nat.zero_add, List.getElem?_append_left (by rw [hf]; exact hj)]
    | succ i =>
      simp only [List.getElem?_cons_succ] at h
      rw [List.getElem?_append_right (by rw [hf, Nat.succ_mul]; omega), hf, show (i + 1) * sz + j - sz = i * sz + j from by rw [Nat.succ_mul]; omega]
      exact ih i x h j hj
/-- An element of more than one cell. -/
theorem el_at {α : Type} {f : α → List Value} {sz : Nat} (hf : ∀ a, (f a).length = sz) (h0 : 0 < sz) {H : Heap} {q : Option Addr} {l : List α} (h : Shows H q (l.flatMap f)) (hlen : (l.flatMap f).length = l.length * sz) {i : Nat} {x : α} (hi : l[i]? = some x) :
    ∃ b o, (∀ (R : Type) (K : Option Addr → Option R), hidx q l.length (i : Int) sz K = K (some ⟨b, o, none⟩)) ∧ ∀ j, j < sz → hcell H b (o + j) = (f x)[j]? := by
  have hlt : i < l.length := (List.getElem?_eq_some_iff.1 hi).1
  have hmul : i * sz + sz ≤ l.length * sz := by
    have := Nat.mul_le_mul_right sz (show i + 1 ≤ l.length from hlt)
    rwa [Nat.add_mul, Nat.one_mul] at this
  rcases h with h | ⟨b, o, full, rfl, hs, h1, h2⟩
  · rw [h] at hlen; simp at hlen; omega
  · refine ⟨b, o + i * sz, fun R K => ?_, fun j hj => ?_⟩
    · simp only [hidx]; rw [if_pos ⟨by omega, by omega⟩, Int.toNat_natCast]
    · rw [hs.cell, ← fm_get f sz hf l i x hi j hj, ← h2, List.getElem?_take, if_pos (by omega), List.getElem?_drop, Nat.add_assoc]
theorem pl_at {H : Heap} {q : Option Addr} {ps : List Pn} (h : PlnS H q ps) {i : Nat} {p : Pn} (hi : ps[i]? = some p) :
    ∃ b o, (∀ (R : Type) (K : Option Addr → Option R), hidx q ps.length (i : Int) 5 K = K (some ⟨b, o, none⟩)) ∧ hcell H b (o + 0) = some (.int .i64 p.1.1) ∧ hcell H b (o + 1) = some (.int .i64 p.1.2.1) ∧ hcell H b (o + 2) = some (.int .i64 p.1.2.2.1) ∧ hcell H b (o + 3) = some (.int .i64 p.1.2.2.2) ∧ hcell H b (o + 4) = some (.slice p.2.1 p.2.2.2.length p.2.2.1) := by
  obtain ⟨b, o, e, g⟩ := el_at (f := pnc) (sz := 5) (fun _ => rfl) (by omega) h.sh (pnc_len ps) hi
  exact ⟨b, o, e, g 0 (by omega), g 1 (by omega), g 2 (by omega), g 3 (by omega), g 4 (by omega)⟩
theorem cm_at {H : Heap} {q : Option Addr} {cs : List Cm} (h : Shows H q (cs.flatMap cmc)) {i : Nat} {c : Cm} (hi : cs[i]? = some c) :
    ∃ b o, (∀ (R : Type) (K : Option Addr → Option R), hidx q cs.length (i : Int) 4 K = K (some ⟨b, o, none⟩)) ∧ hcell H b (o + 0) = some (.int .i64 c.1) ∧ hcell H b (o + 1) = some (.bool c.2.1) ∧ hcell H b (o + 2) = some (.int .i64 c.2.2.1) ∧ hcell H b (o + 3) = some (.int .i64 c.2.2.2) := by
  obtain ⟨b, o, e, g⟩ := el_at (f := cmc) (sz := 4) (fun _ => rfl) (by omega) h (cmc_len cs) hi
  exact ⟨b, o, e, g 0 (by omega), g 1 (by omega), g 2 (by omega), g 3 (by omega)⟩
end Go.Proofs.Ytkjcjlembepdkaa.Sh
/- Colorspec: images that grow; the program's cloneImage. -/
set_option linter.unusedVariables false
set_option linter.unusedSimpArgs false
namespace Go.Proofs.Ytkjcjlembepdkaa.Sh
open Go.Proofs.Ytkjcjlembepdkaa.FW
/-- A header's numbers. -/
abbrev H6 := Int × Int × Int × Int × Int × Int
def h6c (h : H6) : List Value := [.int .i64 h.1, .int .i64 h.2.1, .int .i64 h.2.2.1, .int .i64 h.2.2.2.1, .int .i64 h.2.2.2.2.1, .int .i64 h.2.2.2.2.2]
def img8 (h : H6) (q : Option Addr) (l c : Nat) (q2 : Option Addr) (l2 c2 : Nat) : List Value := [.int .i64 h.1, .int .i64 h.2.1, .int .i64 h.2.2.1, .int .i64 h.2.2.2.1, .int .i64 h.2.2.2.2.1, .int .i64 h.2.2.2.2.2, .slice q l c, .slice q2 l2 c2]
/-- An image at an address. -/
structure At8 (H : Heap) (b : Nat) (h : H6) (q : Option Addr) (l c : Nat) (q2 : Option Addr) (l2 c2 : Nat) : Prop where
  m0 : hcell H b 0 = some (.int .i64 h.1)
  m1 : hcell H b 1 = some (.int .i64 h.2.1)
  m2 : hcell H b 2 = some (.int .i64 h.2.2.1)
  m3 : hcell H b 3 = some (.int .i64 h.2.2.2.1)
  m4 : hcell H b 4 = some (.int .i64 h.2.2.2.2.1)
  m5 : hcell H b 5 = some (.int .i64 h.2.2.2.2.2)
  m6 : hcell H b 6 = some (.slice q l c)
  m7 : hcell H b 7 = some (.slice q2 l2 c2)
theorem at8 {H : Heap} {b z : Nat} {h : H6} {q : Option Addr} {l c : Nat} {q2 : Option Addr} {l2 c2 : Nat} (O : Owns H b (img8 h q l c q2 l2 c2) z) : At8 H b h q l c q2 l2 c2 := ⟨O.sees.cell 0, O.sees.cell 1, O.sees.cell 2, O.sees.cell 3, O.sees.cell 4, O.sees.cell 5, O.sees.cell 6, O.sees.cell 7⟩
theorem At8.old {H H' : Heap} {b N : Nat} {h : H6} {q : Option Addr} {l c : Nat} {q2 : Option Addr} {l2 c2 : Nat} (A : At8 H b h q l c q2 l2 c2) (o : Old N H H') (hb : b < N) : At8 H' b h q l c q2 l2 c2 := by
  have e : ∀ i, hcell H' b i = hcell H b i := fun i => by unfold hcell; rw [o.2 b hb]
  exact ⟨(e 0).trans A.m0, (e 1).trans A.m1, (e 2).trans A.m2, (e 3).trans A.m3, (e 4).trans A.m4, (e 5).trans A.m5, (e 6).trans A.m6, (e 7).trans A.m7⟩
theorem put8 {H : Heap} {b : Nat} {X : List Value} (O : Owns H b X 0) (hX : X.length = 8) (h : H6) (q : Option Addr) (l c : Nat) (q2 : Option Addr) (l2 c2 : Nat) :
    ∃ H', (∀ (R : Type) (K : Heap → Option R), hst H (some ⟨b, 0, none⟩) (img8 h q l c q2 l2 c2) K = K H') ∧ At8 H' b h q l c q2 l2 c2 ∧ But b H H' ∧ H'.length = H.length := by
  obtain ⟨H', e, O', bt, n⟩ := O.st (vs := img8 h q l c q2 l2 c2) (by rw [hX]; rfl) rfl
  exact ⟨H', e, at8 O', bt, n⟩
theorem At8.go {H : Heap} {b : Nat} {h : H6} {q : Option Addr} {l c : Nat} {q2 : Option Addr} {l2 c2 : Nat} (A : At8 H b h q l c q2 l2 c2) {R : Type} {K : Int → Int → Int → Int → Int → Int → Option Addr → Nat → Nat → Option Addr → Nat → Nat → Option R} {r : Option R} (g : K h.1 h.2.1 h.2.2.1 h.2.2.2.1 h.2.2.2.2.1 h.2.2.2.2.2 q l c q2 l2 c2 = r) :
    (ldI .i64 H (pad (some ⟨b, 0, none⟩) 0) fun n1 => ldI .i64 H (pad (some ⟨b, 0, none⟩) 1) fun n2 => ldI .i64 H (pad (some ⟨b, 0, none⟩) 2) fun n3 => ldI .i64 H (pad (some ⟨b, 0, none⟩) 3) fun n4 => ldI .i64 H (pad (some ⟨b, 0, none⟩) 4) fun n5 => ldI .i64 H (pad (some ⟨b, 0, none⟩) 5) fun n6 => ldL H (pad (some ⟨b, 0, none⟩) 6) fun q l c => ldL H (pad (some ⟨b, 0, none⟩) 7) fun q2 l2 c2 => K n1 n2 n3 n4 n5 n6 q l c q2 l2 c2) = r :=
  go_ip A.m0 (go_ip A.m1 (go_ip A.m2 (go_ip A.m3 (go_ip A.m4 (go_ip A.m5 (go_lp A.m6 (go_lp A.m7 g)))))))
/-- Where parts of an image lie: fresh, and apart. -/
def Ap (N b : Nat) (H : Heap) (qp q : Option Addr) : Prop := ∀ a, q = some a → N ≤ a.block ∧ a.block < H.length ∧ a.block ≠ b ∧ ∀ a', qp = some a' → a'.block ≠ a.block
/-- An image that grows. -/
structure ImgC (g : Bool) (N b : Nat) (H : Heap) (h : H6) (qc : Option Addr) (lc cc : Nat) (Xc : List Value) (qp : Option Addr) (cp : Nat) (ps : List Pn) : Prop where
  o : Owns H b (img8 h qc lc cc qp ps.length cp) 0
  c : Shows H qc Xc
  ca : Ap N b H qp qc
  bc : g = true → Bld N 4 H qc lc cc Xc
  p : Bld N 5 H qp ps.length cp (ps.flatMap pnc)
  pa : ∀ a, qp = some a → a.block ≠ b
  w : ∀ p ∈ ps, Shows H p.2.1 (ints p.2.2.2)
  wa : ∀ p ∈ ps, Ap N b H qp p.2.1 ∧ (g = true → ∀ a a', p.2.1 = some a → qc = some a' → a'.block ≠ a.block)
theorem Ap.keep {N b : Nat} {H H' : Heap} {qp q : Option Addr} (h : Ap N b H qp q) (o : H.length ≤ H'.length) : Ap N b H' qp q := fun a ha => ⟨(h a ha).1, by have := (h a ha).2.1; omega, (h a ha).2.2⟩
theorem ImgC.keep {g : Bool} {N b : Nat} {H H' : Heap} {h : H6} {qc : Option Addr} {lc cc : Nat} {Xc : List Value} {qp : Option Addr} {cp : Nat} {ps : List Pn} (I : ImgC g N b H h qc lc cc Xc qp cp ps) (o : Old H.length H H') : ImgC g N b H' h qc lc cc Xc qp cp ps :=
  ⟨I.o.old o I.o.lt, I.c.keep o, I.ca.keep o.1, fun hg => (I.bc hg).old o (Nat.le_refl _), I.p.old o (Nat.le_refl _), I.pa, fun p hp => (I.w p hp).keep o, fun p hp => ⟨(I.wa p hp).1.keep o.1, (I.wa p hp).2⟩⟩
/-- One plane more. -/
theorem ImgC.more {g : Bool} {N b : Nat} {H : Heap} {h : H6} {qc : Option Addr} {lc cc : Nat} {Xc : List Value} {qp : Option Addr} {cp : Nat} {ps : List Pn} (I : ImgC g N b H h qc lc cc Xc qp cp ps) (hN : N ≤ H.length) (hl : ps.length ≤ 100000) (p : Pn) (hp : Shows H p.2.1 (ints p.2.2.2)) (hpa : Ap N b H qp p.2.1) (hpc : g = true → ∀ a a', p.2.1 = some a → qc = some a' → a'.block ≠ a.block) :
    ∃ H1 H2 H3 qn, H1 = H ++ [some (⟨pnc p, false, 0⟩ : Blk)] ∧ (∀ (R : Type) (K : Option Addr → Nat → Nat → Heap → Option R), happS 5 56 H1 qp ps.length cp (some ⟨H.length, 0, none⟩) 1 K = K qn (ps.length + 1) unk H2) ∧ (∀ (R : Type) (K : Heap → Option R), hst1 H2 (some ⟨b, 7, none⟩) (.slice qn (ps.length + 1) unk) K = K H3) ∧ ImgC g N b H3 h qc lc cc Xc qn unk (ps ++ [p]) ∧ OldX N b H H3 := by
  obtain ⟨H1, H2, H3, hH1, e2, e3, O3, B3, key, o3, n3⟩ := grow1 (sz := 5) (bytes := 56) (o := 7) (ec := pnc p) I.o (show 7 < 8 by omega) I.p I.pa rfl (by omega) hN
  have kp : ∀ {q : Option Addr} {cs : List Value}, Shows H q cs → Ap N b H qp q → Shows H3 q cs := fun hs ha => Shows.same' hs fun a h => by have := ha a h; exact key _ this.2.1 this.2.2.2 this.2.2.1
  have ka : ∀ {q : Option Addr}, Ap N b H qp q → Ap N b H3 (some ⟨H.length + 1, 0, none⟩) q := fun ha a h => by
    have := ha a h
    exact ⟨this.1, by omega, this.2.2.1, fun a' h' => by cases h'; simp only; omega⟩
  refine ⟨H1, H2, H3, _, hH1, e2, e3, ⟨?_, kp I.c I.ca, ka I.ca, fun hg => ?_, ?_, fun a ha => ?_, fun p' hp' => ?_, fun p' hp' => ?_⟩, o3⟩
  · have : (img8 h qc lc cc qp ps.length cp).set 7 (.slice (some ⟨H.length + 1, 0, none⟩) (ps.length + 1) unk) = img8 h qc lc cc (some ⟨H.length + 1, 0, none⟩) (ps ++ [p]).length unk := by simp [img8]
    rw [← this]; exact O3
  · rcases I.bc hg with h | ⟨b', h1, h2, h3, h4, h5⟩
    · exact .inl h
    · refine .inr ⟨b', h1, h2, h3, ?_, h5⟩
      have := I.ca _ h1
      show hblk H3 b' = _
      rw [key b' this.2.1 this.2.2.2 this.2.2.1]; exact h4
  · rw [List.flatMap_append, List.length_append]
    simpa using B3
  · cases ha; have := I.o.lt; simp only; omega
  · rcases List.mem_append.1 hp' with hm | hm
    · exact kp (I.w p' hm) (I.wa p' hm).1
    · rw [List.mem_singleton] at hm; subst hm; exact kp hp hpa
  · rcases List.mem_append.1 hp' with hm | hm
    · exact ⟨ka (I.wa p' hm).1, (I.wa p' hm).2⟩
    · rw [List.mem_singleton] at hm; subst hm; exact ⟨ka hpa, hpc⟩
/-- An image that came out. -/
structure ImgR (N : Nat) (H : Heap) (qc : Option Addr) (Xc : List Value) (qp : Option Addr) (ps : List Pn) : Prop where
  c : Cpy N H qc Xc
  p : Cpy N H qp (ps.flatMap pnc)
  w : ∀ p ∈ ps, Cpy N H p.2.1 (ints p.2.2.2)
theorem ImgR.nil (N : Nat) (H : Heap) : ImgR N H none [] none [] := ⟨⟨.inl rfl, fun a ha => by cases ha⟩, ⟨.inl rfl, fun a ha => by cases ha⟩, fun p hp => by cases hp⟩
theorem Cpy.but {N b : Nat} {H H' : Heap} {q : Option Addr} {cs : List Value} (h : Cpy N H q cs) (o : But b H H') (hb : b < N) : Cpy N H' q cs :=
  ⟨Shows.same' h.s fun a ha => by have := h.a a ha; exact o.2 _ this.2 (by omega), fun a ha => by have := h.a a ha; have := o.1; omega⟩
theorem ImgR.but {N b : Nat} {H H' : Heap} {qc : Option Addr} {Xc : List Value} {qp : Option Addr} {ps : List Pn} (I : ImgR N H qc Xc qp ps) (o : But b H H') (hb : b < N) : ImgR N H' qc Xc qp ps := ⟨I.c.but o hb, I.p.but o hb, fun p hp => (I.w p hp).but o hb⟩
theorem ImgR.keep {N : Nat} {H H' : Heap} {qc : Option Addr} {Xc : List Value} {qp : Option Addr} {ps : List Pn} (I : ImgR N H qc Xc qp ps) (o : Old H.length H H') : ImgR N H' qc Xc qp ps := ⟨I.c.keep o, I.p.keep o, fun p hp => (I.w p hp).keep o⟩
theorem Cpy.mono {N M : Nat} {H : Heap} {q : Option Addr} {cs : List Value} (h : Cpy N H q cs) (hM : M ≤ N) : Cpy M H q cs := ⟨h.s, fun a ha => by have := h.a a ha; omega⟩
theorem ImgR.mono {N M : Nat} {H : Heap} {qc : Option Addr} {Xc : List Value} {qp : Option Addr} {ps : List Pn} (I : ImgR N H qc Xc qp ps) (hM : M ≤ N) : ImgR M H qc Xc qp ps := ⟨I.c.mono hM, I.p.mono hM, fun p hp => (I.w p hp).mono hM⟩
theorem ImgC.out {g : Bool} {N b : Nat} {H : Heap} {h : H6} {qc : Option Addr} {lc cc : Nat} {Xc : List Value} {qp : Option Addr} {cp : Nat} {ps : List Pn} (I : ImgC g N b H h qc lc cc Xc qp cp ps) : ImgR N H qc Xc qp ps := by
  refine ⟨⟨I.c, fun a ha => ⟨(I.ca a ha).1, (I.ca a ha).2.1⟩⟩, ⟨I.p.shows.1, fun a ha => ?_⟩, fun p hp => ⟨I.w p hp, fun a ha => ⟨((I.wa p hp).1 a ha).1, ((I.wa p hp).1 a ha).2.1⟩⟩⟩
  rcases I.p with ⟨h, _⟩ | ⟨b', h, _, h3, h4, _⟩
  · rw [h] at ha; cases ha
  · rw [h] at ha; cases ha; exact ⟨h3, h4.lt⟩
/-- What a plane holds. -/
def pcon (p : Pn) : (Int × Int × Int × Int) × List Int := (p.1, p.2.2.2)
theorem cln_l (k : Nat) {N b b15 : Nat} {h : H6} {qc : Option Addr} {lc cc : Nat} {Xc : List Value} {q : Option Addr} {ps : List Pn} (c : Nat) (hl : ps.length ≤ 1000) (hd : ∀ p ∈ ps, p.2.2.2.length ≤ 100000) (hb : N ≤ b) : ∀ (m n i : Nat), m < n → ps.length = i + m → ∀ (H : Heap) (qp : Option Addr) (cp : Nat) (rs : List Pn), ImgC false N b H h qc lc cc Xc qp cp rs → rs.length = i → rs.map pcon = (ps.take i).map pcon → N ≤ H.length → PlnS H q ps → (ps = [] ∨ Below N q) → (∀ p ∈ ps, p.2.2.2 = [] ∨ Below N p.2.1) →
    ∃ H' qp' cp' rs', (∀ (R : Type) (KE : Option Addr → Option Addr → Heap → Option R), colorspec_cloneImage_l0 k KE n (some ⟨b15, 0, none⟩) (some ⟨b, 0, none⟩) q ps.length c ((ps.length : Nat) : Int) (i : Int) H = KE (some ⟨b15, 0, none⟩) (some ⟨b, 0, none⟩) H') ∧ ImgC false N b H' h qc lc cc Xc qp' cp' rs' ∧ rs'.map pcon = ps.map pcon ∧ Old N H H' := by
  intro m
  induction m with
  | zero =>
    intro n i hn hj H qp cp rs I hrl hrc hN hP hq hpq
    obtain ⟨n, rfl⟩ : ∃ n', n = n' + 1 := ⟨n - 1, by omega⟩
    refine ⟨H, qp, cp, rs, fun R KE => ?_, I, by rw [hrc, List.take_of_length_le (by omega)], .refl _ _⟩
    unfold colorspec_cloneImage_l0 colorspec_cloneImage_l0_b
    exact go_f (decide_eq_false (by omega)) rfl
  | succ m ih =>
    intro n i hn hj H qp cp rs I hrl hrc hN hP hq hpq
    obtain ⟨n, rfl⟩ : ∃ n', n = n' + 1 := ⟨n - 1, by omega⟩
    obtain ⟨p, hx⟩ := ex_get (l := ps) (i := i) (by omega)
    have hm := List.mem_of_getElem? hx
    obtain ⟨bb, oo, e1, m0, m1, m2, m3, m4⟩ := pl_at hP hx
    obtain ⟨H1, hH1⟩ : ∃ H1, H1 = H ++ [some (⟨pnc p, false, 0⟩ : Blk)] := ⟨_, rfl⟩
    have o1 : Old H.length H H1 := hH1 ▸ Old.app _ _
    have O1 : Owns H1 H.length (pnc p) 0 := by rw [hH1]; exact hblk_new H _
    have l1 : H1.length = H.length + 1 := by rw [hH1]; simp
    have n0 : hcell H1 H.length 0 = some (.int .i64 p.1.1) := O1.sees.cell 0
    have n1 : hcell H1 H.length 1 = some (.int .i64 p.1.2.1) := O1.sees.cell 1
    have n2 : hcell H1 H.length 2 = some (.int .i64 p.1.2.2.1) := O1.sees.cell 2
    have n3 : hcell H1 H.length 3 = some (.int .i64 p.1.2.2.2) := O1.sees.cell 3
    have n4 : hcell H1 H.length 4 = some (.slice p.2.1 p.2.2.2.length p.2.2.1) := O1.sees.cell 4
    have I1 := I.keep o1
    have x7 : hcell H1 b 7 = some (.slice qp rs.length cp) := (at8 I1.o).m7
    obtain ⟨H2, q2, c2, e2, C2, o2⟩ := clone1_eq p.2.2.1 ((hP.w p hm).keep o1).ro (by have := hd p hm; omega)
    have C2' := Cpy.lay C2
    obtain ⟨G, hG⟩ : ∃ G, G = H1 ++ H2.drop H1.length := ⟨_, rfl⟩
    rw [← hG] at C2'
    have oG : Old H1.length H1 G := hG ▸ Old.app _ _
    have lG := oG.1
    have hIl : ∀ a, qp = some a → a.block < H.length := fun a ha => I.p.below a ha
    obtain ⟨H3, H4, H5, qn, hH3, e4, e5, I5, o5⟩ := (I1.keep oG).more (by omega) (by omega) (p.1, q2, c2, p.2.2.2) C2'.s (fun a ha => by
      have := C2'.a a ha
      have hbl := I.o.lt
      exact ⟨by omega, this.2, by omega, fun a' ha' => by have := hIl a' ha'; omega⟩) (fun h => by cases h)
    have o5 := OldX.old o5 hb
    have o05 : Old N H H5 := (o1.mono hN).trans ((oG.mono (by omega)).trans o5)
    obtain ⟨Ha, qp', cp', rs', ea, Ia, ca, oa⟩ := ih n (i + 1) (by omega) (by omega) H5 qn unk _ I5 (by simp [hrl]) (by rw [take_snoc hx, List.map_append, List.map_append, hrc]; rfl) (by have := o05.1; omega) ⟨hP.sh.old o05 (by
        rcases hq with h | h
        · left; rw [h]; rfl
        · exact .inr h), fun p hp => (hP.w p hp).old o05 (by
        rcases hpq p hp with h | h
        · left; rw [h]; rfl
        · exact .inr h)⟩ hq hpq
    refine ⟨Ha, qp', cp', rs', fun R KE => ?_, Ia, ca, o05.trans oa⟩
    unfold colorspec_cloneImage_l0 colorspec_cloneImage_l0_b
    refine go_t (decide_eq_true (by omega)) ((e1 _ _).trans (go_ip m0 (go_ip m1 (go_ip m2 (go_ip m3 (go_lp m4 (go_halst (hH1.trans rfl) rfl rfl ?_)))))))
    refine go_fad (go_l x7 (go_fad (go_ip n0 (go_ip n1 (go_ip n2 (go_ip n3 (go_fad (go_l n4 ((e2 _ _).trans ?_)))))))))
    rw [← hG]
    refine go_halN hH3 ((e4 _ _).trans (go_fad ((e5 _ _).trans ?_)))
    rw [w64 (n := (i : Int) + 1) (by omega) (by omega)]
    exact ea R KE
end Go.Proofs.Ytkjcjlembepdkaa.Sh
/- Colorspec: cloneImage whole; the range of samples; a plane through a palette. -/
set_option linter.unusedVariables false
set_option linter.unusedSimpArgs false
namespace Go.Proofs.Ytkjcjlembepdkaa.Sh
open Go.Proofs.Ytkjcjlembepdkaa.FW
theorem PlnS.below {H : Heap} {q : Option Addr} {ps : List Pn} (h : PlnS H q ps) : (ps = [] ∨ Below H.length q) ∧ ∀ p ∈ ps, p.2.2.2 = [] ∨ Below H.length p.2.1 := by
  refine ⟨?_, fun p hp => ints_below (h.w p hp)⟩
  rcases h.sh with h | ⟨b, o, full, rfl, h1, _⟩
  · left; have := congrArg List.length h; rw [pnc_len] at this; exact List.eq_nil_of_length_eq_zero (by simp at this; omega)
  · exact .inr fun a ha => by cases ha; exact h1.lt
theorem Below.mono {N M : Nat} {q : Option Addr} (h : Below N q) (hM : N ≤ M) : Below M q := fun a ha => Nat.lt_of_lt_of_le (h a ha) hM
theorem cloneImage_eq {k : Nat} (hk : 100000 < k) {H : Heap} {h : H6} {q q2 : Option Addr} {cs : List Cm} {ps : List Pn} (c c2 : Nat) (hc : Shows H q (cs.flatMap cmc)) (hp : PlnS H q2 ps) (hcl : cs.length ≤ 1000) (hl : ps.length ≤ 1000) (hd : ∀ p ∈ ps, p.2.2.2.length ≤ 100000) :
    ∃ H' q' c' q2' c2' ps', (∀ (R : Type) (K : Int → Int → Int → Int → Int → Int → Option Addr → Nat → Nat → Option Addr → Nat → Nat → Heap → Option R), colorspec_cloneImage k h.1 h.2.1 h.2.2.1 h.2.2.2.1 h.2.2.2.2.1 h.2.2.2.2.2 q cs.length c q2 ps.length c2 H K = K h.1 h.2.1 h.2.2.1 h.2.2.2.1 h.2.2.2.2.1 h.2.2.2.2.2 q' cs.length c' q2' ps'.length c2' H') ∧ ImgR H.length H' q' (cs.flatMap cmc) q2' ps' ∧ ps'.map pcon = ps.map pcon ∧ Old H.length H H' := by
  obtain ⟨H1, hH1⟩ : ∃ H1, H1 = H ++ [some (⟨img8 h q cs.length c q2 ps.length c2, false, 0⟩ : Blk)] := ⟨_, rfl⟩
  have o1 : Old H.length H H1 := hH1 ▸ Old.app _ _
  have O1 : Owns H1 H.length (img8 h q cs.length c q2 ps.length c2) 0 := by rw [hH1]; exact hblk_new H _
  have l1 : H1.length = H.length + 1 := by rw [hH1]; simp
  obtain ⟨H2, hH2⟩ : ∃ H2, H2 = H1 ++ [some (⟨img8 (0, 0, 0, 0, 0, 0) none 0 0 none 0 0, false, 0⟩ : Blk)] := ⟨_, rfl⟩
  have o2 : Old H1.length H1 H2 := hH2 ▸ Old.app _ _
  have O2 : Owns H2 H1.length (img8 (0, 0, 0, 0, 0, 0) none 0 0 none 0 0) 0 := by rw [hH2]; exact hblk_new H1 _
  have l2 : H2.length = H1.length + 1 := by rw [hH2]; simp
  have A2 := at8 (O1.old o2 (by omega))
  obtain ⟨H3, hH3⟩ : ∃ H3, H3 = H2 ++ [some (⟨img8 h q cs.length c q2 ps.length c2, false, 0⟩ : Blk)] := ⟨_, rfl⟩
  have o3 : Old H2.length H2 H3 := hH3 ▸ Old.app _ _
  have O3 : Owns H3 H2.length (img8 h q cs.length c q2 ps.length c2) 0 := by rw [hH3]; exact hblk_new H2 _
  have l3 : H3.length = H2.length + 1 := by rw [hH3]; simp
  have o03 : Old H.length H H3 := o1.trans ((o2.mono (by omega)).trans (o3.mono (by omega)))
  have A3 := A2.old o3 (by omega)
  obtain ⟨H4, q4, c4, e4, C4, o4⟩ := clone4_eq c (hc.keep o03) hcl
  have l4 := o4.1
  have O4 := O3.old o4 (by omega)
  obtain ⟨H5, e5, O5, b5, n5⟩ := O4.st1 (o := 6) (show 6 < 8 by omega) (.slice q4 cs.length c4)
  obtain ⟨H6', e6, O6, b6, n6⟩ := O5.st1 (o := 7) (show 7 < 8 by omega) (.slice none 0 0)
  have A6 : At8 H6' H.length h q cs.length c q2 ps.length c2 := (((A3.old o4 (by omega)).old (b5.old (N := H2.length) (Nat.le_refl _) (by omega)) (by omega)).old (b6.old (N := H2.length) (Nat.le_refl _) (by omega)) (by omega))
  have o06 : Old H2.length H2 H6' := o3.trans ((o4.mono (by omega)).trans ((b5.old (Nat.le_refl _) (by omega)).trans (b6.old (Nat.le_refl _) (by omega))))
  have oall : Old H.length H H6' := o1.trans ((o2.mono (by omega)).trans (o06.mono (by omega)))
  have C6 : Cpy H3.length H6' q4 (cs.flatMap cmc) := (C4.but b5 (by omega)).but b6 (by omega)
  have I6 : ImgC false H2.length H2.length H6' h q4 cs.length c4 (cs.flatMap cmc) none 0 [] := by
    refine ⟨O6, C6.s, fun a ha => ?_, (fun hg => by cases hg), .nil _ _ _, (fun a ha => by cases ha), (fun p hp => by cases hp), (fun p hp => by cases hp)⟩
    have := C6.a a ha
    exact ⟨by omega, this.2, by omega, fun a' ha' => by cases ha'⟩
  have hb := hp.below
  obtain ⟨H7, qp, cp, rs, e7, I7, r7, o7⟩ := cln_l k (b15 := H1.length) c2 hl hd (Nat.le_refl _) ps.length k 0 (by omega) (by omega) H6' none 0 [] I6 rfl rfl (by omega) (hp.keep oall) (by
    rcases hb.1 with h | h
    · exact .inl h
    · exact .inr (Below.mono h (by omega))) (fun p hm => by
    rcases hb.2 p hm with h | h
    · exact .inl h
    · exact .inr (Below.mono h (by omega)))
  simp only [Int.natCast_zero] at e7
  have A7 := at8 I7.o
  have Ob7 : Owns H7 H1.length (img8 (0, 0, 0, 0, 0, 0) none 0 0 none 0 0) 0 := (O2.old o06 (by omega)).old o7 (by omega)
  obtain ⟨H8, e8, A8, b8, n8⟩ := put8 Ob7 rfl h q4 cs.length c4 qp rs.length cp
  refine ⟨H8, q4, c4, qp, cp, rs, fun R K => ?_, (I7.out.but b8 (by omega)).mono (by omega), r7, oall.trans ((o7.mono (by omega)).trans (b8.old (by omega) (by have := o7.1; omega)))⟩
  unfold colorspec_cloneImage colorspec_cloneImage_b
  refine go_halN hH1 (go_halN hH2 (A2.go (go_halst hH3 rfl rfl (go_fad (go_fad (go_l A3.m6 ((e4 _ _).trans (go_fad (go_fad ((e5 _ _).trans (go_fad ((e6 _ _).trans (go_fad (go_l A6.m7 ((e7 _ _).trans ?_)))))))))))))))
  exact A7.go ((e8 _ _).trans (A8.go rfl))
/-- The range of samples of a component. -/
def rng (c : Cm) : Int × Int := if 1 ≤ c.1 ∧ c.1 ≤ 16 then (if c.2.1 then (-(2 ^ (c.1 - 1).toNat : Nat), ((2 ^ (c.1 - 1).toNat : Nat) : Int) - 1) else (0, ((2 ^ c.1.toNat : Nat) : Int) - 1)) else (0, 0)
theorem Range_eq (c : Cm) (hs : c.2.1 = false) (H : Heap) : ∃ H', (∀ (R : Type) (K : Int → Int → Heap → Option R), color_Range c.1 c.2.1 c.2.2.1 c.2.2.2 H K = K (rng c).1 (rng c).2 H') ∧ Old H.length H H' := by
  obtain ⟨H1, hH1⟩ : ∃ H1, H1 = H ++ [some (⟨cmc c, false, 0⟩ : Blk)] := ⟨_, rfl⟩
  have o1 : Old H.length H H1 := hH1 ▸ Old.app _ _
  have O1 : Owns H1 H.length (cmc c) 0 := by rw [hH1]; exact hblk_new H _
  have m0 : hcell H1 H.length 0 = some (.int .i64 c.1) := O1.sees.cell 0
  have m1 : hcell H1 H.length 1 = some (.bool c.2.1) := O1.sees.cell 1
  refine ⟨H1, fun R K => ?_, o1⟩
  unfold color_Range color_Range_b color_deep color_deep_b rng
  refine go_halN hH1 (go_fad (go_i m0 ?_))
  by_cases h1 : c.1 ≥ 1
  · refine go_t (decide_eq_true h1) ?_
    by_cases h2 : c.1 ≤ 16
    · rw [if_pos ⟨h1, h2⟩, hs]
      refine go_f (by rw [decide_eq_true h2]; rfl) (go_fad (go_b m1 (go_f hs (go_fad (go_i m0 ?_)))))
      obtain ⟨d, hd⟩ : ∃ d : Nat, c.1 = (d : Int) := ⟨c.1.toNat, by omega⟩
      rw [hd]
      have hdd : d = 1 ∨ d = 2 ∨ d = 3 ∨ d = 4 ∨ d = 5 ∨ d = 6 ∨ d = 7 ∨ d = 8 ∨ d = 9 ∨ d = 10 ∨ d = 11 ∨ d = 12 ∨ d = 13 ∨ d = 14 ∨ d = 15 ∨ d = 16 := by omega
      rcases hdd with rfl | rfl | rfl | rfl | rfl | rfl | rfl | rfl | rfl | rfl | rfl | rfl | rfl | rfl | rfl | rfl <;> rfl
    · rw [if_neg (by omega)]
      exact go_t (by rw [decide_eq_false h2]; rfl) rfl
  · rw [if_neg (by omega)]
    exact go_f (decide_eq_false h1) rfl
end Go.Proofs.Ytkjcjlembepdkaa.Sh
/- Colorspec: the loops of the program's Expand. -/
set_option linter.unusedVariables false
set_option linter.unusedSimpArgs false
namespace Go.Proofs.Ytkjcjlembepdkaa.Sh
open Go.Proofs.Ytkjcjlembepdkaa.FW
/-- What lies below a bound. -/
structure ShB (N : Nat) (H : Heap) (q : Option Addr) (cs : List Value) : Prop where
  s : Shows H q cs
  b : cs = [] ∨ Below N q
theorem ShB.old {N : Nat} {H H' : Heap} {q : Option Addr} {cs : List Value} (h : ShB N H q cs) (o : Old N H H') : ShB N H' q cs := ⟨h.s.old o h.b, h.b⟩
theorem ShB.mono {N M : Nat} {H : Heap} {q : Option Addr} {cs : List Value} (h : ShB N H q cs) (hM : N ≤ M) : ShB M H q cs := ⟨h.s, h.b.imp id fun h => Below.mono h hM⟩
theorem PalB.mono {N M : Nat} {H : Heap} {q : Option Addr} {rows : List Rw} (h : PalB N H q rows) (hM : N ≤ M) : PalB M H q rows := ⟨h.p, h.a.imp id fun h => Below.mono h hM, fun r hr => (h.b r hr).imp id fun h => Below.mono h hM⟩
structure PlnB (N : Nat) (H : Heap) (q : Option Addr) (ps : List Pn) : Prop where
  p : PlnS H q ps
  a : ps = [] ∨ Below N q
  b : ∀ p ∈ ps, p.2.2.2 = [] ∨ Below N p.2.1
theorem PlnS.pb {H : Heap} {q : Option Addr} {ps : List Pn} (h : PlnS H q ps) : PlnB H.length H q ps := ⟨h, h.below.1, h.below.2⟩
theorem PlnB.old {N : Nat} {H H' : Heap} {q : Option Addr} {ps : List Pn} (h : PlnB N H q ps) (o : Old N H H') : PlnB N H' q ps := by
  refine ⟨⟨h.p.sh.old o ?_, fun r hr => (h.p.w r hr).old o ?_⟩, h.a, h.b⟩
  · rcases h.a with h | h
    · left; rw [h]; rfl
    · exact .inr h
  · rcases h.b r hr with h | h
    · left; rw [h]; rfl
    · exact .inr h
theorem PlnB.mono {N M : Nat} {H : Heap} {q : Option Addr} {ps : List Pn} (h : PlnB N H q ps) (hM : N ≤ M) : PlnB M H q ps := ⟨h.p, h.a.imp id fun h => Below.mono h hM, fun r hr => (h.b r hr).imp id fun h => Below.mono h hM⟩
theorem PlnB.dat {N : Nat} {H : Heap} {q : Option Addr} {ps : List Pn} (h : PlnB N H q ps) {p : Pn} (hp : p ∈ ps) : ShB N H p.2.1 (ints p.2.2.2) := ⟨h.p.w p hp, (h.b p hp).imp (fun h => by rw [h]; rfl) id⟩
/-- A component more. -/
theorem ImgC.moreC {N b : Nat} {H : Heap} {h : H6} {qc : Option Addr} {cc : Nat} {cs : List Cm} {qp : Option Addr} {cp : Nat} {ps : List Pn} (I : ImgC true N b H h qc cs.length cc (cs.flatMap cmc) qp cp ps) (hN : N ≤ H.length) (hl : cs.length ≤ 100000) (ec : Cm) :
    ∃ H1 H2 H3 qn, H1 = H ++ [some (⟨cmc ec, false, 0⟩ : Blk)] ∧ (∀ (R : Type) (K : Option Addr → Nat → Nat → Heap → Option R), happS 4 32 H1 qc cs.length cc (some ⟨H.length, 0, none⟩) 1 K = K qn (cs.length + 1) unk H2) ∧ (∀ (R : Type) (K : Heap → Option R), hst1 H2 (some ⟨b, 6, none⟩) (.slice qn (cs.length + 1) unk) K = K H3) ∧ ImgC true N b H3 h qn (cs ++ [ec]).length unk ((cs ++ [ec]).flatMap cmc) qp cp ps ∧ OldX N b H H3 := by
  obtain ⟨H1, H2, H3, hH1, e2, e3, O3, B3, key, o3, n3⟩ := grow1 (sz := 4) (bytes := 32) (o := 6) (ec := cmc ec) I.o (show 6 < 8 by omega) (I.bc rfl) (fun a ha => (I.ca a ha).2.2.1) rfl (by omega) hN
  have hbl := I.o.lt
  have efl : (cs ++ [ec]).flatMap cmc = cs.flatMap cmc ++ cmc ec := by simp
  have hqp : ∀ a, qp = some a → N ≤ a.block ∧ a.block < H.length := fun a ha => by
    rcases I.p with ⟨h, _⟩ | ⟨b', h, _, h3, h4, _⟩
    · rw [h] at ha; cases ha
    · rw [h] at ha; cases ha; exact ⟨h3, h4.lt⟩
  refine ⟨H1, H2, H3, _, hH1, e2, e3, ⟨?_, ?_, fun a ha => ?_, fun _ => ?_, ?_, I.pa, fun p hp => ?_, fun p hp => ⟨fun a ha => ?_, fun _ a a' ha ha' => ?_⟩⟩, o3⟩
  · have : (img8 h qc cs.length cc qp ps.length cp).set 6 (.slice (some ⟨H.length + 1, 0, none⟩) (cs.length + 1) unk) = img8 h (some ⟨H.length + 1, 0, none⟩) (cs ++ [ec]).length unk qp ps.length cp := by simp [img8]
    rw [← this]; exact O3
  · rw [efl]; exact B3.shows.1
  · cases ha
    exact ⟨by simp only; omega, by simp only; omega, by simp only; omega, fun a' ha' => by have := (hqp a' ha').2; simp only; omega⟩
  · rw [efl, List.length_append]; exact B3
  · rcases I.p with h | ⟨b', h1, h2, h3, h4, h5⟩
    · exact .inl h
    · refine .inr ⟨b', h1, h2, h3, ?_, h5⟩
      show hblk H3 b' = _
      rw [key b' h4.lt (fun a ha => by have := (I.ca a ha).2.2.2 _ h1; exact fun hh => this (by simp only; omega)) (fun hh => I.pa _ h1 hh)]; exact h4
  · refine Shows.same' (I.w p hp) fun a ha => ?_
    have := (I.wa p hp).1 a ha
    exact key _ this.2.1 (fun a' ha' => (I.wa p hp).2 rfl a a' ha ha') this.2.2.1
  · have := (I.wa p hp).1 a ha
    exact ⟨this.1, by omega, this.2.2⟩
  · have := (I.wa p hp).1 a ha
    cases ha'; simp only; omega
/-- The sample that a palette gives. -/
def pick (rows : List Rw) (i : Nat) (v : Int) : Int := match rows[v.toNat]? with
  | some r => r.2.2.getD i 0
  | none => 0
theorem pick_at {rows : List Rw} {i : Nat} {v : Int} {r : Rw} {x : Int} (h : rows[v.toNat]? = some r) (hx : r.2.2[i]? = some x) : pick rows i v = x := by
  unfold pick; rw [h]; simp [hx]
theorem ints_snoc (l : List Int) (x : Int) : ints (l ++ [x]) = ints l ++ [.int .i64 x] := by simp [ints]
theorem ex_l1 (k : Nat) {N b2 : Nat} {q2 : Option Addr} {c2 : Nat} {rows : List Rw} {q : Option Addr} {data : List Int} (c : Nat) (i : Nat) {r1 r2 r3 r4 : Int} (hl : data.length ≤ 100000) (hin : ∀ v ∈ data, 0 ≤ v ∧ v.toNat < rows.length) (hrow : ∀ r ∈ rows, i < r.2.2.length) (hb2 : b2 < N) (p1 p3 p4 p5 : Option Addr) (n8 n9 : Int) : ∀ (m n j : Nat), m < n → data.length = j + m → ∀ (H : Heap) (qd : Option Addr) (cd : Nat), Owns H N [.int .i64 r1, .int .i64 r2, .int .i64 r3, .int .i64 r4, .slice qd j cd] 0 → Bld N 1 H qd j cd (ints ((data.take j).map (pick rows i))) → (∀ a, qd = some a → a.block ≠ N) → hcell H b2 2 = some (.slice q2 rows.length c2) → PalB N H q2 rows → ShB N H q (ints data) →
    ∃ H' qd' cd', (∀ (R : Type) (KE : Option Addr → Option Addr → Option Addr → Option Addr → Option Addr → Option Addr → Int → Int → Heap → Option R), colorspec_Expand_l1 k KE n p1 (some ⟨b2, 0, none⟩) p3 p4 p5 (i : Int) (some ⟨N, 0, none⟩) n8 n9 q data.length c ((data.length : Nat) : Int) (j : Int) H = KE p1 (some ⟨b2, 0, none⟩) p3 p4 p5 (some ⟨N, 0, none⟩) n8 n9 H') ∧ Owns H' N [.int .i64 r1, .int .i64 r2, .int .i64 r3, .int .i64 r4, .slice qd' data.length cd'] 0 ∧ Bld N 1 H' qd' data.length cd' (ints (data.map (pick rows i))) ∧ (∀ a, qd' = some a → a.block ≠ N) ∧ Old N H H' := by
  intro m
  induction m with
  | zero =>
    intro n j hn hj H qd cd O B ha h2 P S
    obtain ⟨n, rfl⟩ : ∃ n', n = n' + 1 := ⟨n - 1, by omega⟩
    have hjl : j = data.length := by omega
    subst hjl
    rw [List.take_of_length_le (Nat.le_refl _)] at B
    refine ⟨H, qd, cd, fun R KE => ?_, O, B, ha, .refl _ _⟩
    unfold colorspec_Expand_l1 colorspec_Expand_l1_b
    exact go_f (decide_eq_false (by omega)) rfl
  | succ m ih =>
    intro n j hn hj H qd cd O B ha h2 P S
    obtain ⟨n, rfl⟩ : ∃ n', n = n' + 1 := ⟨n - 1, by omega⟩
    obtain ⟨v, hv⟩ := ex_get (l := data) (i := j) (by omega)
    have hvm := hin v (List.mem_of_getElem? hv)
    obtain ⟨r, hr⟩ := ex_get (l := rows) (i := v.toNat) hvm.2
    have hrm := List.mem_of_getElem? hr
    obtain ⟨x, hx⟩ := ex_get (l := r.2.2) (i := i) (hrow r hrm)
    obtain ⟨pv, ev, lv⟩ := int_at S.s hv
    obtain ⟨pr, er, lr⟩ := row_at P.p hr
    rw [show ((v.toNat : Nat) : Int) = v from by omega] at er
    obtain ⟨px, exx, lx⟩ := int_at (P.p.rw r hrm) hx
    have n4 : hcell H N 4 = some (.slice qd j cd) := O.sees.cell 4
    have hNl := O.lt
    obtain ⟨H1, H2, H3, hH1, e2, e3, O3, B3, key, o3, l3⟩ := grow1 (sz := 1) (bytes := 8) (o := 4) (ec := [.int .i64 x]) O (show 4 < 5 by omega) B ha rfl (by omega) (by omega)
    have o3 := OldX.old o3 (Nat.le_refl _)
    have o1 : Old H.length H H1 := hH1 ▸ Old.app _ _
    have f2 : hcell H3 b2 2 = some (.slice q2 rows.length c2) := by unfold hcell; rw [o3.2 b2 hb2]; exact h2
    have n4' : hcell H1 N 4 = some (.slice qd j cd) := by unfold hcell; rw [o1.2 N hNl]; exact n4
    obtain ⟨Ha, qd', cd', ea, Oa, Ba, aa, oa⟩ := ih n (j + 1) (by omega) (by omega) H3 (some ⟨H.length + 1, 0, none⟩) unk O3 (by
      rw [take_snoc hv, List.map_append, List.map_cons, List.map_nil, ints_snoc, pick_at hr hx]
      exact B3) (fun a h => by cases h; simp only; omega) f2 (P.old o3) (S.old o3)
    refine ⟨Ha, qd', cd', fun R KE => ?_, Oa, Ba, aa, o3.trans oa⟩
    unfold colorspec_Expand_l1 colorspec_Expand_l1_b
    refine go_t (decide_eq_true (by omega)) ((ev _ _).trans ((lv _ _).trans (go_fad (go_l n4 (go_fad (go_l h2 ((er _ _).trans ((lr _ _).trans ((exx _ _).trans ((lx _ _).trans (go_halN hH1 ((e2 _ _).trans (go_fad ((e3 _ _).trans ?_))))))))))))))
    rw [w64 (n := (j : Int) + 1) (by omega) (by omega)]
    exact ea R KE
/-- What the loop over the roles finds. -/
structure ExE (N : Nat) (H : Heap) (b1 b2 b4 : Nat) (q10 : Option Addr) (c10 : Nat) (ps : List Pn) (q2 : Option Addr) (c2 : Nat) (rows : List Rw) (dx dy : Int) : Prop where
  m1 : hcell H b1 7 = some (.slice q10 ps.length c10)
  P : PlnB N H q10 ps
  m2 : hcell H b2 2 = some (.slice q2 rows.length c2)
  R : PalB N H q2 rows
  x : hcell H b4 2 = some (.int .i64 dx)
  y : hcell H b4 3 = some (.int .i64 dy)
  l : b1 < N ∧ b2 < N ∧ b4 < N
theorem ExE.old {N : Nat} {H H' : Heap} {b1 b2 b4 : Nat} {q10 : Option Addr} {c10 : Nat} {ps : List Pn} {q2 : Option Addr} {c2 : Nat} {rows : List Rw} {dx dy : Int} (E : ExE N H b1 b2 b4 q10 c10 ps q2 c2 rows dx dy) (o : Old N H H') : ExE N H' b1 b2 b4 q10 c10 ps q2 c2 rows dx dy := by
  have e : ∀ b, b < N → ∀ i, hcell H' b i = hcell H b i := fun b hb i => by unfold hcell; rw [o.2 b hb]
  exact ⟨(e _ E.l.1 _).trans E.m1, E.P.old o, (e _ E.l.2.1 _).trans E.m2, E.R.old o, (e _ E.l.2.2 _).trans E.x, (e _ E.l.2.2 _).trans E.y, E.l⟩
def outC (n : Nat) (dx dy : Int) : List Cm := List.replicate n (8, false, dx, dy)
def outP (rows : List Rw) (rc : Int × Int × Int × Int) (data : List Int) (n : Nat) : List ((Int × Int × Int × Int) × List Int) := (List.range n).map fun i => (rc, data.map (pick rows i))
theorem outC_succ (n : Nat) (dx dy : Int) : outC (n + 1) dx dy = outC n dx dy ++ [(8, false, dx, dy)] := by unfold outC; rw [List.replicate_succ']
theorem outC_len (n : Nat) (dx dy : Int) : (outC n dx dy).length = n := List.length_replicate
theorem outP_succ (rows : List Rw) (rc : Int × Int × Int × Int) (data : List Int) (n : Nat) : outP rows rc data (n + 1) = outP rows rc data n ++ [(rc, data.map (pick rows n))] := by unfold outP; rw [List.range_succ, List.map_append]; rfl
theorem outP_len (rows : List Rw) (rc : Int × Int × Int × Int) (data : List Int) (n : Nat) : (outP rows rc data n).length = n := by simp [outP]
theorem ex_l0 (k : Nat) {N b b1 b2 b4 : Nat} {h : H6} {q10 : Option Addr} {c10 : Nat} {p : Pn} {ps : List Pn} {q2 : Option Addr} {c2 : Nat} {rows : List Rw} {dx dy : Int} {nr : Nat} (hnr : nr ≤ 1000) (hl : p.2.2.2.length ≤ 100000) (hk : 100000 < k) (hin : ∀ v ∈ p.2.2.2, 0 ≤ v ∧ v.toNat < rows.length) (hrow : ∀ r ∈ rows, r.2.2.length = nr) (hb : N ≤ b) (p3 : Option Addr) : ∀ (m n i : Nat), m < n → nr = i + m → ∀ (H : Heap) (qc : Option Addr) (cc : Nat) (qp : Option Addr) (cp : Nat) (rs : List Pn), ImgC true N b H h qc (outC i dx dy).length cc ((outC i dx dy).flatMap cmc) qp cp rs → rs.map pcon = outP rows p.1 p.2.2.2 i → N ≤ H.length → ExE N H b1 b2 b4 q10 c10 (p :: ps) q2 c2 rows dx dy →
    ∃ H' qc' cc' qp' cp' rs', (∀ (R : Type) (KE : Option Addr → Option Addr → Heap → Option R), colorspec_Expand_l0 k KE n (some ⟨b1, 0, none⟩) (some ⟨b2, 0, none⟩) p3 (some ⟨b4, 0, none⟩) (some ⟨b, 0, none⟩) (nr : Int) (i : Int) H = KE p3 (some ⟨b, 0, none⟩) H') ∧ ImgC true N b H' h qc' (outC nr dx dy).length cc' ((outC nr dx dy).flatMap cmc) qp' cp' rs' ∧ rs'.map pcon = outP rows p.1 p.2.2.2 nr ∧ Old N H H' := by
  intro m
  induction m with
  | zero =>
    intro n i hn hj H qc cc qp cp rs I hrs hN E
    obtain ⟨n, rfl⟩ : ∃ n', n = n' + 1 := ⟨n - 1, by omega⟩
    have hjl : i = nr := by omega
    subst hjl
    refine ⟨H, qc, cc, qp, cp, rs, fun R KE => ?_, I, hrs, .refl _ _⟩
    unfold colorspec_Expand_l0 colorspec_Expand_l0_b
    exact go_f (decide_eq_false (by omega)) rfl
  | succ m ih =>
    intro n i hn hj H qc cc qp cp rs I hrs hN E
    obtain ⟨n, rfl⟩ : ∃ n', n = n' + 1 := ⟨n - 1, by omega⟩
    have hrl : rs.length = i := by have := congrArg List.length hrs; rwa [List.length_map, outP_len] at this
    have A := at8 I.o
    have hbl := I.o.lt
    obtain ⟨H1, H2, H3, qn, hH1, e2, e3, I3, o3⟩ := I.moreC hN (by rw [outC_len]; omega) (8, false, dx, dy)
    have o3 := OldX.old o3 hb
    have o1 : Old H.length H H1 := hH1 ▸ Old.app _ _
    have E3 := E.old o3
    have l3 := o3.1
    obtain ⟨pb, po, pe, pm0, pm1, pm2, pm3, pm4⟩ := pl_at E3.P.p (i := 0) (p := p) rfl
    obtain ⟨H4, hH4⟩ : ∃ H4, H4 = H3 ++ [some (⟨[.int .i64 p.1.1, .int .i64 p.1.2.1, .int .i64 p.1.2.2.1, .int .i64 p.1.2.2.2, .slice none 0 0], false, 0⟩ : Blk)] := ⟨_, rfl⟩
    have o4 : Old H3.length H3 H4 := hH4 ▸ Old.app _ _
    have O4 : Owns H4 H3.length [.int .i64 p.1.1, .int .i64 p.1.2.1, .int .i64 p.1.2.2.1, .int .i64 p.1.2.2.2, .slice none 0 0] 0 := by rw [hH4]; exact hblk_new H3 _
    have l4 : H4.length = H3.length + 1 := by rw [hH4]; simp
    have E4 := E3.old (o4.mono (by omega))
    have I4 := I3.keep o4
    obtain ⟨pb', po', pe', _, _, _, _, pm4'⟩ := pl_at E4.P.p (i := 0) (p := p) rfl
    obtain ⟨H5, qd, cd, e5, O5, B5, a5, o5⟩ := ex_l1 k p.2.2.1 i hl hin (fun r hr => by rw [hrow r hr]; omega) (N := H3.length) (by have := E.l.2.1; omega) (some ⟨b1, 0, none⟩) p3 (some ⟨b4, 0, none⟩) (some ⟨b, 0, none⟩) (nr : Int) (i : Int) p.2.2.2.length k 0 (by omega) (by omega) H4 none 0 O4 (.nil _ _ _) (fun a ha => by cases ha) E4.m2 (E4.R.mono (by omega)) ((E4.P.dat (List.mem_cons_self ..)).mono (by omega))
    have l5 := o5.1
    have o35 : Old H3.length H3 H5 := o4.trans o5
    have I5 := I3.keep o35
    have A5 := at8 I5.o
    have q0 : hcell H5 H3.length 0 = some (.int .i64 p.1.1) := O5.sees.cell 0
    have q1 : hcell H5 H3.length 1 = some (.int .i64 p.1.2.1) := O5.sees.cell 1
    have q2' : hcell H5 H3.length 2 = some (.int .i64 p.1.2.2.1) := O5.sees.cell 2
    have q3 : hcell H5 H3.length 3 = some (.int .i64 p.1.2.2.2) := O5.sees.cell 3
    have q4 : hcell H5 H3.length 4 = some (.slice qd p.2.2.2.length cd) := O5.sees.cell 4
    have hqd : ∀ a, qd = some a → H3.length ≤ a.block ∧ a.block < H5.length := fun a ha => by
      rcases B5 with ⟨h, _⟩ | ⟨b', h, _, h3, h4, _⟩
      · rw [h] at ha; cases ha
      · rw [h] at ha; cases ha; exact ⟨h3, h4.lt⟩
    have hbl3 := I3.o.lt
    obtain ⟨H6, H7, H8, qn2, hH6, e7, e8, I8, o8⟩ := I5.more (by omega) (by omega) (p.1, qd, cd, p.2.2.2.map (pick rows i)) B5.shows.1 (fun a ha => by
      have := hqd a ha
      exact ⟨by omega, this.2, by omega, fun a' ha' => by have := I3.p.below a' ha'; omega⟩) (fun _ a a' ha ha' => by
      have := hqd a ha
      have := (I3.ca a' ha').2.1
      omega)
    have o8 := OldX.old o8 hb
    have o18 : Old N H H8 := o3.trans ((o35.mono (by omega)).trans o8)
    rw [← outC_succ] at I8
    obtain ⟨Ha, qc', cc', qp', cp', rs', ea, Ia, ca, oa⟩ := ih n (i + 1) (by omega) (by omega) H8 qn unk qn2 unk _ I8 (by rw [List.map_append, hrs, outP_succ]; rfl) (by have := o18.1; omega) (E.old o18)
    refine ⟨Ha, qc', cc', qp', cp', rs', fun R KE => ?_, Ia, ca, o18.trans oa⟩
    unfold colorspec_Expand_l0 colorspec_Expand_l0_b
    refine go_t (decide_eq_true (by omega)) (go_fad (go_fad (go_l A.m6 (go_fad (go_i E.x (go_fad (go_i E.y (go_halN (hH1.trans rfl) ((e2 _ _).trans (go_fad (go_fad ((e3 _ _).trans ?_))))))))))))
    refine go_fad (go_l E3.m1 ((pe _ _).trans (go_fad (go_ip pm0 (go_ip pm1 (go_ip pm2 (go_ip pm3 (go_halst hH4 rfl rfl ?_))))))))
    refine go_fad (go_l E4.m1 ((pe' _ _).trans (go_fad (go_l pm4' ((e5 _ _).trans ?_)))))
    refine go_fad (go_l A5.m7 (go_ip q0 (go_ip q1 (go_ip q2' (go_ip q3 (go_lp q4 ?_))))))
    have hH6' := hH6
    unfold pnc at hH6'
    simp only [List.length_map] at hH6'
    refine go_halN hH6' ((e7 _ _).trans (go_fad ((e8 _ _).trans ?_)))
    rw [w64 (n := (i : Int) + 1) (by omega) (by omega)]
    exact ea R KE
end Go.Proofs.Ytkjcjlembepdkaa.Sh
/- Colorspec: the program's Expand whole. -/
set_option linter.unusedVariables false
set_option linter.unusedSimpArgs false
namespace Go.Proofs.Ytkjcjlembepdkaa.Sh
open Go.Proofs.Ytkjcjlembepdkaa.FW
abbrev z6 : H6 := (0, 0, 0, 0, 0, 0)
abbrev Pc := (Int × Int × Int × Int) × List Int
/-- What Expand returns: the error, the header's numbers, the components, the planes. -/
def expO (h : H6) (s : Int) (rs : List Int) (rows : List Rw) (cs : List Cm) (pl : List Pc) : Int × H6 × List Cm × List Pc :=
  if checkI s rs rows cs ≠ 0 then (checkI s rs rows cs, z6, [], []) else if pl.length ≠ cs.length then (1, z6, [], []) else if rows.length = 0 then (0, h, cs, pl) else
    match cs, pl with
    | c :: _, p :: _ => if inB (rng c).1 (rng c).2 p.2 then (0, h, outC rs.length c.2.2.1 c.2.2.2, outP rows p.1 p.2 rs.length) else (2, z6, [], [])
    | _, _ => (0, h, cs, pl)
theorem dep_pow {n : Nat} (h : dep n ≠ 0) : 1 ≤ dep n ∧ dep n ≤ 16 ∧ 2 ^ (dep n).toNat = n := by
  unfold dep at *
  split at h
  · rename_i e; subst e; decide
  split at h
  · rename_i e; subst e; decide
  split at h
  · rename_i e; subst e; decide
  split at h
  · rename_i e; subst e; decide
  split at h
  · rename_i e; subst e; decide
  split at h
  · rename_i e; subst e; decide
  split at h
  · rename_i e; subst e; decide
  split at h
  · rename_i e; subst e; decide
  · exact absurd rfl h
/-- A palette that the check let pass. -/
theorem chk_pal {s : Int} {rs : List Int} {rows : List Rw} {cs : List Cm} (h : checkI s rs rows cs = 0) (hr : rows.length ≠ 0) : ∃ c : Cm, cs = [c] ∧ c.2.1 = false ∧ rng c = (0, (rows.length : Int) - 1) ∧ (∀ r ∈ rows, r.2.2.length = rs.length ∧ inB 0 255 r.2.2 = true) := by
  unfold checkI at h
  have hv : validI s rs rows = 0 := by
    by_cases hv : validI s rs rows = 0
    · exact hv
    · rw [if_pos hv] at h; exact h
  rw [if_neg (by omega), if_neg hr] at h
  have hok : depB rows.length = true ∧ okP rs.length rows = true := by
    unfold validI at hv
    split at hv
    · split at hv
      · rename_i h2; simp only [Bool.and_eq_true] at h2; exact ⟨h2.1.2, h2.2⟩
      · cases hv
    · cases hv
  match cs, h with
  | [c], h =>
    simp only at h
    by_cases hc : c.2.1 = true ∨ c.1 ≠ dep rows.length
    · rw [if_pos hc] at h; cases h
    have h1 : c.2.1 = false := by
      cases hh : c.2.1 with
      | true => exact absurd (.inl hh) hc
      | false => rfl
    have h2 : c.1 = dep rows.length := Classical.byContradiction fun hh => hc (.inr hh)
    have h3 : dep rows.length ≠ 0 := by
      have := hok.1
      unfold depB at this
      simp only [Bool.or_eq_true, decide_eq_true_eq, bne_iff_ne] at this
      exact this.resolve_left hr
    have hp := dep_pow h3
    refine ⟨c, rfl, h1, ?_, fun r hrm => ?_⟩
    · unfold rng
      rw [if_pos ⟨by omega, by omega⟩, h1, h2, hp.2.2]
      rfl
    · have := (List.all_eq_true.1 hok.2) r hrm
      unfold okR at this
      simp only [Bool.and_eq_true, decide_eq_true_eq] at this
      exact this
  | [], h => cases h
  | _ :: _ :: _, h => cases h
theorem Expand_eq {k : Nat} (hk : 100000 < k) {H : Heap} {q q2 q3 q4 : Option Addr} {rs : List Int} {rows : List Rw} {cs : List Cm} {ps : List Pn} (h : H6) (s : Int) (c c2 c3 c4 : Nat) (hS : Shows H q (ints rs)) (hP : PalS H q2 rows) (hC : Shows H q3 (cs.flatMap cmc)) (hL : PlnS H q4 ps) (F : FewC rs rows) (hcl : cs.length ≤ 1000) (hl : ps.length ≤ 1000) (hd : ∀ p ∈ ps, p.2.2.2.length ≤ 100000) :
    ∃ H' h' q' c' cs' q2' c2' ps' e, (∀ (R : Type) (K : Int → Int → Int → Int → Int → Int → Option Addr → Nat → Nat → Option Addr → Nat → Nat → Int → Heap → Option R), colorspec_Expand k h.1 h.2.1 h.2.2.1 h.2.2.2.1 h.2.2.2.2.1 h.2.2.2.2.2 q3 cs.length c3 q4 ps.length c4 s q rs.length c q2 rows.length c2 H K = K h'.1 h'.2.1 h'.2.2.1 h'.2.2.2.1 h'.2.2.2.2.1 h'.2.2.2.2.2 q' cs'.length c' q2' ps'.length c2' e H') ∧ ImgR H.length H' q' (cs'.flatMap cmc) q2' ps' ∧ expO h s rs rows cs (ps.map pcon) = (e, h', cs', ps'.map pcon) ∧ Old H.length H H' := by
  obtain ⟨H1, hH1⟩ : ∃ H1, H1 = H ++ [some (⟨img8 h q3 cs.length c3 q4 ps.length c4, false, 0⟩ : Blk)] := ⟨_, rfl⟩
  have o1 : Old H.length H H1 := hH1 ▸ Old.app _ _
  have O1 : Owns H1 H.length (img8 h q3 cs.length c3 q4 ps.length c4) 0 := by rw [hH1]; exact hblk_new H _
  have l1 : H1.length = H.length + 1 := by rw [hH1]; simp
  obtain ⟨H2, hH2⟩ : ∃ H2, H2 = H1 ++ [some (⟨cl s q rs.length c q2 rows.length c2, false, 0⟩ : Blk)] := ⟨_, rfl⟩
  have o2 : Old H1.length H1 H2 := hH2 ▸ Old.app _ _
  have O2 : Owns H2 H1.length (cl s q rs.length c q2 rows.length c2) 0 := by rw [hH2]; exact hblk_new H1 _
  have l2 : H2.length = H1.length + 1 := by rw [hH2]; simp
  obtain ⟨H3, hH3⟩ : ∃ H3, H3 = H2 ++ [some (⟨img8 z6 none 0 0 none 0 0, false, 0⟩ : Blk)] := ⟨_, rfl⟩
  have o3 : Old H2.length H2 H3 := hH3 ▸ Old.app _ _
  have O3 : Owns H3 H2.length (img8 z6 none 0 0 none 0 0) 0 := by rw [hH3]; exact hblk_new H2 _
  have l3 : H3.length = H2.length + 1 := by rw [hH3]; simp
  have o03 : Old H.length H H3 := o1.trans ((o2.mono (by omega)).trans (o3.mono (by omega)))
  have A3 := at8 ((O1.old o2 (by omega)).old o3 (by omega))
  have C3 := at3 (O2.old o3 (by omega))
  obtain ⟨H4, e4, o4⟩ := check_eq (k := k) (by omega) s c c2 h.1 h.2.1 h.2.2.1 h.2.2.2.1 h.2.2.2.2.1 h.2.2.2.2.2 c3 (hS.keep o03) (hP.keep o03) (hC.keep o03) F
  have l4 := o4.1
  have A4 := A3.old o4 (by omega)
  have C4 := C3.old o4 (by omega)
  have O4 := O3.old o4 (by omega)
  have o04 : Old H.length H H4 := o03.trans (o4.mono (by omega))
  obtain ⟨Hz, ez, Az, bz, nz⟩ := put8 O4 rfl z6 none 0 0 none 0 0
  have oz : Old H.length H Hz := o04.trans (bz.old (by omega) (by omega))
  by_cases h1 : checkI s rs rows cs = 0
  case neg =>
    refine ⟨Hz, z6, none, 0, [], none, 0, [], checkI s rs rows cs, fun R K => ?_, .nil _ _, by unfold expO; rw [if_pos h1]; rfl, oz⟩
    unfold colorspec_Expand colorspec_Expand_b
    refine go_halN hH1 (go_halN hH2 (go_halN hH3 (go_ip C3.a (go_lp C3.b' (go_lp C3.c' (go_fad (go_ip A3.m0 (go_ip A3.m1 (go_ip A3.m2 (go_ip A3.m3 (go_ip A3.m4 (go_ip A3.m5 (go_lp A3.m6 ((e4 _ _).trans ?_))))))))))))))
    exact go_t (bne_iff_ne.2 h1) ((ez _ _).trans (Az.go rfl))
  by_cases h2 : ps.length = cs.length
  case neg =>
    refine ⟨Hz, z6, none, 0, [], none, 0, [], 1, fun R K => ?_, .nil _ _, by unfold expO; rw [if_neg (fun hh => hh h1), if_pos (by rw [List.length_map]; exact h2)]; rfl, oz⟩
    unfold colorspec_Expand colorspec_Expand_b
    refine go_halN hH1 (go_halN hH2 (go_halN hH3 (go_ip C3.a (go_lp C3.b' (go_lp C3.c' (go_fad (go_ip A3.m0 (go_ip A3.m1 (go_ip A3.m2 (go_ip A3.m3 (go_ip A3.m4 (go_ip A3.m5 (go_lp A3.m6 ((e4 _ _).trans ?_))))))))))))))
    rw [h1]
    exact go_ne (go_fad (go_l A4.m7 (go_fad (go_fad (go_l A4.m6 (go_t (bne_iff_ne.2 (by omega)) ((ez _ _).trans (Az.go rfl))))))))
  by_cases h3 : rows.length = 0
  · obtain ⟨H5, q', c', q2', c2', ps', e5, I5, r5, o5⟩ := cloneImage_eq hk (h := h) c3 c4 (hC.keep o04) (hL.keep o04) hcl hl hd
    obtain ⟨H6', e6, A6, b6, n6⟩ := put8 (O4.old o5 (by omega)) rfl h q' cs.length c' q2' ps'.length c2'
    have l5 := o5.1
    refine ⟨H6', h, q', c', cs, q2', c2', ps', 0, fun R K => ?_, (I5.but b6 (by omega)).mono (by omega), by unfold expO; rw [if_neg (fun hh => hh h1), if_neg (fun hh => hh (by rw [List.length_map]; exact h2)), if_pos h3, r5], o04.trans ((o5.mono (by omega)).trans (b6.old (by omega) (by omega)))⟩
    unfold colorspec_Expand colorspec_Expand_b
    refine go_halN hH1 (go_halN hH2 (go_halN hH3 (go_ip C3.a (go_lp C3.b' (go_lp C3.c' (go_fad (go_ip A3.m0 (go_ip A3.m1 (go_ip A3.m2 (go_ip A3.m3 (go_ip A3.m4 (go_ip A3.m5 (go_lp A3.m6 ((e4 _ _).trans ?_))))))))))))))
    rw [h1]
    refine go_ne (go_fad (go_l A4.m7 (go_fad (go_fad (go_l A4.m6 (go_f (bne_eq_false_iff_eq.2 (by omega)) (go_fad (go_l C4.c' (go_t (beq_iff_eq.2 (by omega)) ?_)))))))))
    exact A4.go ((e5 _ _).trans ((e6 _ _).trans (A6.go rfl)))
  obtain ⟨cm, rfl, hu, hrg, hrows⟩ := chk_pal h1 h3
  obtain ⟨p, rfl⟩ : ∃ p, ps = [p] := by
    match ps, h2 with
    | [p], _ => exact ⟨p, rfl⟩
  obtain ⟨bb, oo, ec, x0, x1, x2, x3⟩ := cm_at (hC.keep o04) (i := 0) (c := cm) rfl
  obtain ⟨H5, hH5⟩ : ∃ H5, H5 = H4 ++ [some (⟨cmc cm, false, 0⟩ : Blk)] := ⟨_, rfl⟩
  have o5 : Old H4.length H4 H5 := hH5 ▸ Old.app _ _
  have O5 : Owns H5 H4.length (cmc cm) 0 := by rw [hH5]; exact hblk_new H4 _
  have l5 : H5.length = H4.length + 1 := by rw [hH5]; simp
  have y0 : hcell H5 H4.length 0 = some (.int .i64 cm.1) := O5.sees.cell 0
  have y1 : hcell H5 H4.length 1 = some (.bool cm.2.1) := O5.sees.cell 1
  have y2 : hcell H5 H4.length 2 = some (.int .i64 cm.2.2.1) := O5.sees.cell 2
  have y3 : hcell H5 H4.length 3 = some (.int .i64 cm.2.2.2) := O5.sees.cell 3
  obtain ⟨H6', e6, o6⟩ := Range_eq cm hu H5
  have l6 := o6.1
  have o46 : Old H4.length H4 H6' := o5.trans (o6.mono (by omega))
  have A6 := A4.old o46 (by omega)
  have C6 := C4.old o46 (by omega)
  have o06 : Old H.length H H6' := o04.trans (o46.mono (by omega))
  have hL6 := hL.keep o06
  obtain ⟨pb, po, pe, pm0, pm1, pm2, pm3, pm4⟩ := pl_at hL6 (i := 0) (p := p) rfl
  have hpl := hd p (List.mem_singleton.2 rfl)
  have ew := within_eq (k := k) (rng cm).1 (rng cm).2 p.2.2.1 (hL6.w p (List.mem_singleton.2 rfl)) (by omega) (by omega)
  cases hin : inB (rng cm).1 (rng cm).2 p.2.2.2 with
  | false =>
    obtain ⟨Hy, ey, Ay, bY, ny⟩ := put8 (O4.old o46 (by omega)) rfl z6 none 0 0 none 0 0
    refine ⟨Hy, z6, none, 0, [], none, 0, [], 2, fun R K => ?_, .nil _ _, ?_, o06.trans (bY.old (by omega) (by omega))⟩
    · unfold colorspec_Expand colorspec_Expand_b
      refine go_halN hH1 (go_halN hH2 (go_halN hH3 (go_ip C3.a (go_lp C3.b' (go_lp C3.c' (go_fad (go_ip A3.m0 (go_ip A3.m1 (go_ip A3.m2 (go_ip A3.m3 (go_ip A3.m4 (go_ip A3.m5 (go_lp A3.m6 ((e4 _ _).trans ?_))))))))))))))
      rw [h1]
      refine go_ne (go_fad (go_l A4.m7 (go_fad (go_fad (go_l A4.m6 (go_f rfl (go_fad (go_l C4.c' (go_f (beq_eq_false_iff_ne.2 (by omega)) ?_)))))))))
      refine go_fad (go_fad (go_l A4.m6 ((ec _ _).trans (go_ip x0 (go_bp x1 (go_ip x2 (go_ip x3 (go_halst hH5 rfl rfl ?_))))))))
      refine go_ip y0 (go_bp y1 (go_ip y2 (go_ip y3 ((e6 _ _).trans (go_fad (go_l A6.m7 ((pe _ _).trans (go_fad (go_l pm4 ((ew _ _).trans ?_))))))))))
      exact go_t (by rw [hin]; rfl) ((ey _ _).trans (Ay.go rfl))
    · unfold expO
      rw [if_neg (fun hh => hh h1), if_neg (fun hh => hh (by rw [List.length_map]; exact h2)), if_neg h3]
      simp only [List.map_cons, pcon, hin]
      rfl
  | true =>
    obtain ⟨H7, hH7⟩ : ∃ H7, H7 = H6' ++ [some (⟨img8 h q3 [cm].length c3 none 0 0, false, 0⟩ : Blk)] := ⟨_, rfl⟩
    have o7 : Old H6'.length H6' H7 := hH7 ▸ Old.app _ _
    have O7 : Owns H7 H6'.length (img8 h q3 [cm].length c3 none 0 0) 0 := by rw [hH7]; exact hblk_new H6' _
    have l7 : H7.length = H6'.length + 1 := by rw [hH7]; simp
    obtain ⟨H8, e8, O8, b8, n8⟩ := O7.st1 (o := 6) (show 6 < 8 by omega) (.slice none 0 0)
    have o68 : Old H6'.length H6' H8 := o7.trans (b8.old (Nat.le_refl _) (by omega))
    have o08 : Old H.length H H8 := o06.trans (o68.mono (by omega))
    have A8 := A6.old o68 (by omega)
    have C8 := C6.old o68 (by omega)
    have o58 : Old H5.length H5 H8 := o6.trans (o68.mono (by omega))
    have z2 : hcell H8 H4.length 2 = some (.int .i64 cm.2.2.1) := by unfold hcell; rw [o58.2 _ (by omega)]; exact y2
    have z3 : hcell H8 H4.length 3 = some (.int .i64 cm.2.2.2) := by unfold hcell; rw [o58.2 _ (by omega)]; exact y3
    have E : ExE H6'.length H8 H.length H1.length H4.length q4 c4 [p] q2 c2 rows cm.2.2.1 cm.2.2.2 := ⟨A8.m7, (hL6.pb).old o68, C8.c', ((hP.keep o06).below).old o68, z2, z3, by omega, by omega, by omega⟩
    have I8 : ImgC true H6'.length H6'.length H8 h none 0 0 [] none 0 [] := ⟨O8, .inl rfl, (fun a ha => by cases ha), (fun _ => .nil _ _ _), .nil _ _ _, (fun a ha => by cases ha), (fun p hp => by cases hp), (fun p hp => by cases hp)⟩
    rw [hrg] at hin
    have hin' : ∀ v ∈ p.2.2.2, 0 ≤ v ∧ v.toNat < rows.length := fun v hv => by
      have := (List.all_eq_true.1 hin) v hv
      simp only [decide_eq_true_eq] at this
      omega
    obtain ⟨H9, qc, cc, qp, cp, rs', e9, I9, r9, o9⟩ := ex_l0 k (nr := rs.length) (by have := F.a; omega) hpl hk hin' (fun r hr => (hrows r hr).1) (Nat.le_refl _) (some ⟨H2.length, 0, none⟩) rs.length k 0 (by have := F.a; omega) (by omega) H8 none 0 none 0 [] I8 rfl (by omega) E
    have l9 := o9.1
    have A9 := at8 I9.o
    obtain ⟨Ha, ea, Aa, ba, na⟩ := put8 (((O4.old o46 (by omega)).old o68 (by omega)).old o9 (by omega)) rfl h qc (outC rs.length cm.2.2.1 cm.2.2.2).length cc qp rs'.length cp
    refine ⟨Ha, h, qc, cc, _, qp, cp, rs', 0, fun R K => ?_, (I9.out.but ba (by omega)).mono (by omega), ?_, o08.trans ((o9.mono (by omega)).trans (ba.old (by omega) (by omega)))⟩
    · unfold colorspec_Expand colorspec_Expand_b
      refine go_halN hH1 (go_halN hH2 (go_halN hH3 (go_ip C3.a (go_lp C3.b' (go_lp C3.c' (go_fad (go_ip A3.m0 (go_ip A3.m1 (go_ip A3.m2 (go_ip A3.m3 (go_ip A3.m4 (go_ip A3.m5 (go_lp A3.m6 ((e4 _ _).trans ?_))))))))))))))
      rw [h1]
      refine go_ne (go_fad (go_l A4.m7 (go_fad (go_fad (go_l A4.m6 (go_f rfl (go_fad (go_l C4.c' (go_f (beq_eq_false_iff_ne.2 (by omega)) ?_)))))))))
      refine go_fad (go_fad (go_l A4.m6 ((ec _ _).trans (go_ip x0 (go_bp x1 (go_ip x2 (go_ip x3 (go_halst hH5 rfl rfl ?_))))))))
      refine go_ip y0 (go_bp y1 (go_ip y2 (go_ip y3 ((e6 _ _).trans (go_fad (go_l A6.m7 ((pe _ _).trans (go_fad (go_l pm4 ((ew _ _).trans ?_))))))))))
      refine go_f (by rw [hrg, hin]; rfl) ?_
      refine go_fad (go_ip A6.m0 (go_ip A6.m1 (go_ip A6.m2 (go_ip A6.m3 (go_ip A6.m4 (go_ip A6.m5 (go_lp A6.m6 (go_halst hH7 rfl rfl ?_))))))))
      refine go_fad (go_fad ((e8 _ _).trans (go_fad (go_l C8.b' ((e9 _ _).trans ?_)))))
      exact A9.go ((ea _ _).trans (Aa.go rfl))
    · unfold expO
      rw [if_neg (fun hh => hh h1), if_neg (fun hh => hh (by rw [List.length_map]; exact h2)), if_neg h3]
      simp only [List.map_cons, pcon, hrg, hin]
      rw [r9]; rfl
end Go.Proofs.Ytkjcjlembepdkaa.Sh
/- Colorspec: the loops of the reference's Expand. -/
set_option linter.unusedVariables false
set_option linter.unusedSimpArgs false
namespace Go.Proofs.Ytkjcjlembepdkaa.Sh
open Go.Proofs.Ytkjcjlembepdkaa.FW
theorem copied_eq {H : Heap} {q : Option Addr} {xs : List Int} (r1 r2 r3 r4 : Int) (c : Nat) (h : Shows H q (ints xs)) (hl : xs.length ≤ 100000) :
    ∃ H' b' c' sz, (∀ (R : Type) (K : Int → Int → Int → Int → Option Addr → Nat → Nat → Heap → Option R), R46_copied r1 r2 r3 r4 q xs.length c H K = K r1 r2 r3 r4 (some ⟨b', 0, none⟩) xs.length c' H') ∧ H.length ≤ b' ∧ Owns H' b' (ints xs) sz ∧ Old H.length H H' := by
  obtain ⟨H1, hH1⟩ : ∃ H1, H1 = H ++ [some (⟨[.int .i64 r1, .int .i64 r2, .int .i64 r3, .int .i64 r4, .slice q xs.length c], false, 0⟩ : Blk)] := ⟨_, rfl⟩
  have o1 : Old H.length H H1 := hH1 ▸ Old.app _ _
  have O1 : Owns H1 H.length [.int .i64 r1, .int .i64 r2, .int .i64 r3, .int .i64 r4, .slice q xs.length c] 0 := by rw [hH1]; exact hblk_new H _
  have l1 : H1.length = H.length + 1 := by rw [hH1]; simp
  obtain ⟨H2, hH2⟩ : ∃ H2, H2 = H1 ++ [some (⟨[.int .i64 0, .int .i64 0, .int .i64 0, .int .i64 0, .slice none 0 0], false, 0⟩ : Blk)] := ⟨_, rfl⟩
  have o2 : Old H1.length H1 H2 := hH2 ▸ Old.app _ _
  have O2 : Owns H2 H1.length [.int .i64 0, .int .i64 0, .int .i64 0, .int .i64 0, .slice none 0 0] 0 := by rw [hH2]; exact hblk_new H1 _
  have l2 : H2.length = H1.length + 1 := by rw [hH2]; simp
  obtain ⟨H3, hH3⟩ : ∃ H3, H3 = H2 ++ [some (⟨[], false, 0⟩ : Blk)] := ⟨_, rfl⟩
  have o3 : Old H2.length H2 H3 := hH3 ▸ Old.app _ _
  have O3 : Owns H3 H2.length [] 0 := by rw [hH3]; exact hblk_new H2 _
  have l3 : H3.length = H2.length + 1 := by rw [hH3]; simp
  have P2 := (O1.old o2 (by omega)).sees
  have m0 : hcell H2 H.length 0 = some (.int .i64 r1) := P2.cell 0
  have m1 : hcell H2 H.length 1 = some (.int .i64 r2) := P2.cell 1
  have m2 : hcell H2 H.length 2 = some (.int .i64 r3) := P2.cell 2
  have m3 : hcell H2 H.length 3 = some (.int .i64 r4) := P2.cell 3
  have m4 : hcell H3 H.length 4 = some (.slice q xs.length c) := ((O1.old o2 (by omega)).old o3 (by omega)).sees.cell 4
  have o03 : Old H.length H H3 := o1.trans ((o2.mono (by omega)).trans (o3.mono (by omega)))
  have hc := ((h.keep o03).hcells)
  rw [ints_len] at hc
  have happ : ∃ H4 b' c' sz, (∀ (R : Type) (K : Option Addr → Nat → Nat → Heap → Option R), hapnS 1 8 H3 (some ⟨H2.length, 0, none⟩) 0 0 q xs.length K = K (some ⟨b', 0, none⟩) xs.length c' H4) ∧ H2.length ≤ b' ∧ Owns H4 b' (ints xs) sz ∧ Old H3.length H3 H4 := by
    by_cases h0 : xs.length = 0
    · have : xs = [] := List.eq_nil_of_length_eq_zero h0
      subst this
      refine ⟨H3, H2.length, 0, 0, fun R K => ?_, Nat.le_refl _, O3, .refl _ _⟩
      unfold hapnS hapn
      rw [show ([] : List Int).length * 1 = ([] : List Int).length from rfl, hc]
      dsimp only
      rw [if_neg (by unfold unk; omega)]
      rfl
    · refine ⟨H3 ++ [some (⟨ints xs, false, 1⟩ : Blk)], H3.length, unk, 1, fun R K => ?_, by omega, (show hblk (H3 ++ [some ⟨ints xs, false, 1⟩]) H3.length = some ⟨ints xs, false, 1⟩ from hblk_new _ _), Old.app _ _⟩
      unfold hapnS hapn
      rw [Nat.mul_one, hc]
      dsimp only
      have hc2 : FW.hcells H3 (some ⟨H2.length, 0, none⟩) (0 * 1) = some [] := by unfold FW.hcells; rw [if_pos (by omega)]
      rw [if_neg (by unfold unk; omega), if_neg h0, if_neg (by omega), if_pos (by omega), hc2, Nat.zero_add]
      rfl
  obtain ⟨H4, b', c', sz, e4, hb', O4, o4⟩ := happ
  have l4 := o4.1
  obtain ⟨H5, e5, O5, b5, n5⟩ := ((O2.old o3 (by omega)).old o4 (by omega)).st (vs := [.int .i64 r1, .int .i64 r2, .int .i64 r3, .int .i64 r4, .slice (some ⟨b', 0, none⟩) xs.length c']) rfl rfl
  have n0 : hcell H5 H1.length 0 = some (.int .i64 r1) := O5.sees.cell 0
  have n1 : hcell H5 H1.length 1 = some (.int .i64 r2) := O5.sees.cell 1
  have n2 : hcell H5 H1.length 2 = some (.int .i64 r3) := O5.sees.cell 2
  have n3 : hcell H5 H1.length 3 = some (.int .i64 r4) := O5.sees.cell 3
  have n4 : hcell H5 H1.length 4 = some (.slice (some ⟨b', 0, none⟩) xs.length c') := O5.sees.cell 4
  refine ⟨H5, b', c', sz, fun R K => ?_, by omega, O4.but b5 (by omega), o03.trans ((o4.mono (by omega)).trans (b5.old (by omega) (by omega)))⟩
  unfold R46_copied R46_copied_b
  refine go_halN hH1 (go_halN hH2 (go_fad (go_ip m0 (go_ip m1 (go_ip m2 (go_ip m3 (go_halN hH3 (go_fad (go_l m4 ((e4 _ _).trans ((e5 _ _).trans ?_)))))))))))
  exact go_ip n0 (go_ip n1 (go_ip n2 (go_ip n3 (go_lp n4 rfl))))
theorem power_l (k : Nat) {d : Nat} (hd : d ≤ 15) : ∀ (m n i : Nat), m < n → d = i + m → ∀ (R : Type) (KE : Int → Option R), R07_power_l0 k KE n (d : Int) ((2 ^ i : Nat) : Int) (i : Int) = KE ((2 ^ d : Nat) : Int) := by
  intro m
  induction m with
  | zero =>
    intro n i hn hj R KE
    obtain ⟨n, rfl⟩ : ∃ n', n = n' + 1 := ⟨n - 1, by omega⟩
    obtain rfl : d = i := by omega
    unfold R07_power_l0 R07_power_l0_b
    exact go_f (decide_eq_false (by omega)) rfl
  | succ m ih =>
    intro n i hn hj R KE
    obtain ⟨n, rfl⟩ : ∃ n', n = n' + 1 := ⟨n - 1, by omega⟩
    have h1 : (2 : Nat) ^ (i + 1) ≤ 2 ^ 15 := Nat.pow_le_pow_right (by omega) (by omega)
    have h2 : (2 : Nat) ^ (i + 1) = 2 * 2 ^ i := by rw [Nat.pow_succ]; omega
    unfold R07_power_l0 R07_power_l0_b
    refine go_t (decide_eq_true (by omega)) ?_
    have h3 : (2 : Int) * ((2 ^ i : Nat) : Int) = ((2 ^ (i + 1) : Nat) : Int) := by rw [h2]; rw [Int.natCast_mul]; rfl
    try dsimp only
    rw [h3, w64 (n := ((2 ^ (i + 1) : Nat) : Int)) (by omega) (by omega), w64 (n := (i : Int) + 1) (by omega) (by omega)]
    exact ih n (i + 1) (by omega) (by omega) R KE
theorem rRange_eq {k : Nat} (hk : 100 < k) (c : Cm) (hs : c.2.1 = false) (H : Heap) : ∃ H', (∀ (R : Type) (K : Int → Int → Heap → Option R), R07_Range k c.1 c.2.1 c.2.2.1 c.2.2.2 H K = K (rng c).1 (rng c).2 H') ∧ Old H.length H H' := by
  obtain ⟨H1, hH1⟩ : ∃ H1, H1 = H ++ [some (⟨cmc c, false, 0⟩ : Blk)] := ⟨_, rfl⟩
  have o1 : Old H.length H H1 := hH1 ▸ Old.app _ _
  have O1 : Owns H1 H.length (cmc c) 0 := by rw [hH1]; exact hblk_new H _
  have m0 : hcell H1 H.length 0 = some (.int .i64 c.1) := O1.sees.cell 0
  have m1 : hcell H1 H.length 1 = some (.bool c.2.1) := O1.sees.cell 1
  refine ⟨H1, fun R K => ?_, o1⟩
  unfold R07_Range R07_Range_b R07_Range_p0 R07_Range_p0_b rng
  refine go_halN hH1 (go_fad (go_i m0 ?_))
  by_cases h1 : c.1 ≥ 1
  · refine go_f (decide_eq_false (by omega)) (go_fad (go_i m0 ?_))
    by_cases h2 : c.1 ≤ 16
    · rw [if_pos ⟨h1, h2⟩, hs]
      refine go_f (decide_eq_false (by omega)) (go_fad (go_i m0 ?_))
      obtain ⟨d, hd⟩ : ∃ d : Nat, c.1 = ((d + 1 : Nat) : Int) := ⟨c.1.toNat - 1, by omega⟩
      rw [hd]
      have hd2 : d ≤ 15 := by omega
      have e : IntKind.wrap .i64 (((d + 1 : Nat) : Int) - 1) = (d : Int) := by rw [w64 (by omega) (by omega)]; omega
      try dsimp only
      rw [e]
      unfold R07_power R07_power_b
      refine (power_l k hd2 d k 0 (by omega) (by omega) _ _).trans (go_fad (go_b m1 (go_f hs ?_)))
      have hp : (2 : Nat) ^ d ≤ 2 ^ 15 := Nat.pow_le_pow_right (by omega) hd2
      have hp2 : (2 : Nat) ^ (d + 1) = 2 * 2 ^ d := by rw [Nat.pow_succ]; omega
      have e2 : (2 : Int) * ((2 ^ d : Nat) : Int) = ((2 ^ (d + 1) : Nat) : Int) := by rw [hp2, Int.natCast_mul]; rfl
      rw [e2, w64 (n := ((2 ^ (d + 1) : Nat) : Int)) (by omega) (by omega), w64 (by omega) (by omega), Int.toNat_natCast]
      rfl
    · rw [if_neg (by omega)]
      exact go_t (decide_eq_true (by omega)) rfl
  · rw [if_neg (by omega)]
    exact go_t (decide_eq_true (by omega)) rfl
theorem rcl_l (k : Nat) {N b b1 : Nat} {h : H6} {qc : Option Addr} {lc cc : Nat} {Xc : List Value} {q : Option Addr} {c : Nat} {ps : List Pn} (hl : ps.length ≤ 1000) (hd : ∀ p ∈ ps, p.2.2.2.length ≤ 100000) (hb : N ≤ b) (hb1 : b1 < N) (p2 : Option Addr) : ∀ (m n i : Nat), m < n → ps.length = i + m → ∀ (H : Heap) (qp : Option Addr) (cp : Nat) (rs : List Pn), ImgC false N b H h qc lc cc Xc qp cp rs → rs.length = i → rs.map pcon = (ps.take i).map pcon → N ≤ H.length → hcell H b1 7 = some (.slice q ps.length c) → PlnB N H q ps →
    ∃ H' qp' cp' rs', (∀ (R : Type) (KE : Option Addr → Option Addr → Heap → Option R), R46_Expand_l0 k KE n (some ⟨b1, 0, none⟩) p2 (some ⟨b, 0, none⟩) (i : Int) H = KE p2 (some ⟨b, 0, none⟩) H') ∧ ImgC false N b H' h qc lc cc Xc qp' cp' rs' ∧ rs'.map pcon = ps.map pcon ∧ Old N H H' := by
  intro m
  induction m with
  | zero =>
    intro n i hn hj H qp cp rs I hrl hrc hN m7 hP
    obtain ⟨n, rfl⟩ : ∃ n', n = n' + 1 := ⟨n - 1, by omega⟩
    refine ⟨H, qp, cp, rs, fun R KE => ?_, I, by rw [hrc, List.take_of_length_le (by omega)], .refl _ _⟩
    unfold R46_Expand_l0 R46_Expand_l0_b
    exact go_fad (go_l m7 (go_f (decide_eq_false (by omega)) rfl))
  | succ m ih =>
    intro n i hn hj H qp cp rs I hrl hrc hN m7 hP
    obtain ⟨n, rfl⟩ : ∃ n', n = n' + 1 := ⟨n - 1, by omega⟩
    obtain ⟨p, hx⟩ := ex_get (l := ps) (i := i) (by omega)
    have hm := List.mem_of_getElem? hx
    obtain ⟨bb, oo, e1, m0, m1, m2, m3, m4⟩ := pl_at hP.p hx
    have x7 : hcell H b 7 = some (.slice qp rs.length cp) := (at8 I.o).m7
    obtain ⟨H2, q2, c2, sz, e2, g2, O2, o2⟩ := copied_eq p.1.1 p.1.2.1 p.1.2.2.1 p.1.2.2.2 p.2.2.1 (hP.p.w p hm).ro (hd p hm)
    have C2 : Cpy (roH H).length H2 (some ⟨q2, 0, none⟩) (ints p.2.2.2) := ⟨O2.sees.shows, fun a ha => by cases ha; exact ⟨g2, O2.lt⟩⟩
    have C2' := Cpy.lay C2
    obtain ⟨G, hG⟩ : ∃ G, G = H ++ H2.drop H.length := ⟨_, rfl⟩
    rw [← hG] at C2'
    have oG : Old H.length H G := hG ▸ Old.app _ _
    have lG := oG.1
    have hIl : ∀ a, qp = some a → a.block < H.length := fun a ha => I.p.below a ha
    have hbl := I.o.lt
    obtain ⟨H3, H4, H5, qn, hH3, e4, e5, I5, o5⟩ := (I.keep oG).more (by omega) (by omega) (p.1, some ⟨q2, 0, none⟩, c2, p.2.2.2) C2'.s (fun a ha => by
      have := C2'.a a ha
      exact ⟨by omega, this.2, by omega, fun a' ha' => by have := hIl a' ha'; omega⟩) (fun h => by cases h)
    have o5 := OldX.old o5 hb
    have o05 : Old N H H5 := (oG.mono (by omega)).trans o5
    have f7 : hcell H5 b1 7 = some (.slice q ps.length c) := by unfold hcell; rw [o05.2 b1 hb1]; exact m7
    obtain ⟨Ha, qp', cp', rs', ea, Ia, ca, oa⟩ := ih n (i + 1) (by omega) (by omega) H5 qn unk _ I5 (by simp [hrl]) (by rw [take_snoc hx, List.map_append, List.map_append, hrc]; rfl) (by have := o05.1; omega) f7 (hP.old o05)
    refine ⟨Ha, qp', cp', rs', fun R KE => ?_, Ia, ca, o05.trans oa⟩
    unfold R46_Expand_l0 R46_Expand_l0_b
    refine go_fad (go_l m7 (go_t (decide_eq_true (by omega)) (go_fad (go_l x7 (go_fad (go_l m7 ((e1 _ _).trans (go_ip m0 (go_ip m1 (go_ip m2 (go_ip m3 (go_lp m4 ((e2 _ _).trans ?_)))))))))))))
    rw [← hG]
    refine go_halN hH3 ((e4 _ _).trans (go_fad ((e5 _ _).trans ?_)))
    rw [w64 (n := (i : Int) + 1) (by omega) (by omega)]
    exact ea R KE
theorem rrg_l (k : Nat) {b3 bp : Nat} (lo hi : Int) {q : Option Addr} {c : Nat} {data : List Int} (hl : data.length ≤ 100000) {H Hz : Heap} (S : Shows H q (ints data)) (m4 : hcell H bp 4 = some (.slice q data.length c)) (ez : ∀ (R : Type) (K : Heap → Option R), hst H (some ⟨b3, 0, none⟩) (img8 z6 none 0 0 none 0 0) K = K Hz) (p1 p3 p4 : Option Addr) : ∀ (m n i : Nat), m < n → data.length = i + m → ∀ (R : Type) (KE : Option Addr → Option Addr → Option Addr → Option Addr → Option Addr → Heap → Option R) (KR : Option Addr → Int → Heap → Option R),
    R46_Expand_l1 k KE KR n p1 (some ⟨b3, 0, none⟩) p3 p4 (some ⟨bp, 0, none⟩) lo hi (i : Int) H = bif inB lo hi (data.drop i) then KE p1 (some ⟨b3, 0, none⟩) p3 p4 (some ⟨bp, 0, none⟩) H else KR (some ⟨b3, 0, none⟩) 2 Hz := by
  intro m
  induction m with
  | zero =>
    intro n i hn hj R KE KR
    obtain ⟨n, rfl⟩ : ∃ n', n = n' + 1 := ⟨n - 1, by omega⟩
    unfold R46_Expand_l1 R46_Expand_l1_b
    rw [List.drop_eq_nil_of_le (by omega)]
    exact go_fad (go_l m4 (go_f (decide_eq_false (by omega)) rfl))
  | succ m ih =>
    intro n i hn hj R KE KR
    obtain ⟨n, rfl⟩ : ∃ n', n = n' + 1 := ⟨n - 1, by omega⟩
    obtain ⟨x, hx⟩ := ex_get (l := data) (i := i) (by omega)
    obtain ⟨px, ex, lx⟩ := int_at S hx
    unfold R46_Expand_l1 R46_Expand_l1_b R46_Expand_p2 R46_Expand_p2_b
    rw [drop_cons hx]
    have e : inB lo hi (x :: data.drop (i + 1)) = (decide (lo ≤ x ∧ x ≤ hi) && inB lo hi (data.drop (i + 1))) := rfl
    rw [e]
    refine go_fad (go_l m4 (go_t (decide_eq_true (by omega)) (go_fad (go_l m4 ((ex _ _).trans ((lx _ _).trans ?_))))))
    by_cases h1 : x < lo
    · rw [show decide (lo ≤ x ∧ x ≤ hi) = false from decide_eq_false (by omega)]
      exact go_t (decide_eq_true h1) (go_t rfl (ez _ _))
    refine go_f (decide_eq_false h1) (go_fad (go_l m4 ((ex _ _).trans ((lx _ _).trans ?_))))
    by_cases h2 : x > hi
    · rw [show decide (lo ≤ x ∧ x ≤ hi) = false from decide_eq_false (by omega)]
      exact go_t (decide_eq_true h2) (ez _ _)
    · rw [show decide (lo ≤ x ∧ x ≤ hi) = true from decide_eq_true (by omega), Bool.true_and]
      refine go_f (decide_eq_false h2) ?_
      rw [w64 (n := (i : Int) + 1) (by omega) (by omega)]
      exact ih n (i + 1) (by omega) (by omega) R KE KR
theorem ow_set (f : Int → Int) {data : List Int} {j : Nat} {v : Int} (hv : data[j]? = some v) : (ints ((data.take j).map f ++ data.drop j)).set (0 + j * 1) (.int .i64 (f v)) = ints ((data.take (j + 1)).map f ++ data.drop (j + 1)) := by
  have hlt : j < data.length := (List.getElem?_eq_some_iff.1 hv).1
  have hA : ((data.take j).map f).length = j := by simp; omega
  rw [take_snoc hv, drop_cons hv, Nat.zero_add, Nat.mul_one]
  unfold ints
  rw [List.map_append, List.map_cons, List.set_append_right _ _ (by rw [List.length_map, hA]; omega)]
  simp [hA, Nat.min_eq_left (Nat.le_of_lt hlt)]
theorem rex_l4 (k : Nat) {N b2 bp bq bd sz cd : Nat} {q2 : Option Addr} {c2 : Nat} {rows : List Rw} {q : Option Addr} {data : List Int} {c : Nat} (i : Nat) (hl : data.length ≤ 100000) (hin : ∀ v ∈ data, 0 ≤ v ∧ v.toNat < rows.length) (hrow : ∀ r ∈ rows, i < r.2.2.length) (hN : N ≤ bd) (hb2 : b2 < N) (hbp : bp ≠ bd) (hbq : bq ≠ bd) (p2 p3 p5 : Option Addr) : ∀ (m n j : Nat), m < n → data.length = j + m → ∀ (H : Heap), Owns H bd (ints ((data.take j).map (pick rows i) ++ data.drop j)) sz → hcell H bq 4 = some (.slice (some ⟨bd, 0, none⟩) data.length cd) → hcell H b2 2 = some (.slice q2 rows.length c2) → hcell H bp 4 = some (.slice q data.length c) → PalB N H q2 rows → ShB N H q (ints data) →
    ∃ H', (∀ (R : Type) (KE : Option Addr → Option Addr → Option Addr → Option Addr → Option Addr → Int → Option Addr → Heap → Option R), R46_Expand_l4 k KE n (some ⟨b2, 0, none⟩) p2 p3 (some ⟨bp, 0, none⟩) p5 (i : Int) (some ⟨bq, 0, none⟩) (j : Int) H = KE (some ⟨b2, 0, none⟩) p2 p3 (some ⟨bp, 0, none⟩) p5 (i : Int) (some ⟨bq, 0, none⟩) H') ∧ Owns H' bd (ints (data.map (pick rows i))) sz ∧ But bd H H' ∧ hcell H' bq 4 = some (.slice (some ⟨bd, 0, none⟩) data.length cd) := by
  intro m
  induction m with
  | zero =>
    intro n j hn hj H O mq m2 mp P S
    obtain ⟨n, rfl⟩ : ∃ n', n = n' + 1 := ⟨n - 1, by omega⟩
    rw [List.take_of_length_le (by omega), List.drop_eq_nil_of_le (by omega), List.append_nil] at O
    refine ⟨H, fun R KE => ?_, O, .refl _ _, mq⟩
    unfold R46_Expand_l4 R46_Expand_l4_b
    exact go_fad (go_l mq (go_f (decide_eq_false (by omega)) rfl))
  | succ m ih =>
    intro n j hn hj H O mq m2 mp P S
    obtain ⟨n, rfl⟩ : ∃ n', n = n' + 1 := ⟨n - 1, by omega⟩
    obtain ⟨v, hv⟩ := ex_get (l := data) (i := j) (by omega)
    have hvm := hin v (List.mem_of_getElem? hv)
    obtain ⟨r, hr⟩ := ex_get (l := rows) (i := v.toNat) hvm.2
    have hrm := List.mem_of_getElem? hr
    obtain ⟨x, hx⟩ := ex_get (l := r.2.2) (i := i) (hrow r hrm)
    obtain ⟨pv, ev, lv⟩ := int_at S.s hv
    obtain ⟨pr, er, lr⟩ := row_at P.p hr
    rw [show ((v.toNat : Nat) : Int) = v from by omega] at er
    obtain ⟨px, exx, lx⟩ := int_at (P.p.rw r hrm) hx
    have hol := O.lt
    obtain ⟨H1, e1, O1, b1, n1⟩ := O.st1 (o := 0 + j * 1) (by rw [ints_len, List.length_append, List.length_map, List.length_take, List.length_drop]; omega) (.int .i64 x)
    rw [← pick_at hr hx, ow_set (pick rows i) hv] at O1
    have hkeep : ∀ b, b ≠ bd → ∀ o v, hcell H b o = some v → hcell H1 b o = some v := fun b hb o v hm => by
      have hlt : b < H.length := by
        unfold hcell at hm
        cases hq : hblk H b with
        | none => rw [hq] at hm; cases hm
        | some B => exact hblk_lt hq
      unfold hcell; rw [b1.2 b hlt hb]; exact hm
    have oN : Old N H H1 := b1.old hN (by omega)
    obtain ⟨Ha, ea, Oa, ba, mqa⟩ := ih n (j + 1) (by omega) (by omega) H1 O1 (hkeep _ hbq _ _ mq) (hkeep _ (by omega) _ _ m2) (hkeep _ hbp _ _ mp) (P.old oN) (S.old oN)
    refine ⟨Ha, fun R KE => ?_, Oa, b1.trans ba, mqa⟩
    unfold R46_Expand_l4 R46_Expand_l4_b
    refine go_fad (go_l mq (go_t (decide_eq_true (by omega)) (go_fad (go_l mq (go_fad (go_l m2 (go_fad (go_l mp ((ev _ _).trans ((lv _ _).trans ((er _ _).trans ((lr _ _).trans ((exx _ _).trans ((lx _ _).trans ?_))))))))))))))
    rw [hidx_x bd 0 data.length none (j : Int) 1 _ ⟨by omega, by omega⟩, Int.toNat_natCast]
    refine (e1 _ _).trans ?_
    rw [w64 (n := (j : Int) + 1) (by omega) (by omega)]
    exact ea R KE
end Go.Proofs.Ytkjcjlembepdkaa.Sh
/- Colorspec: the reference's Expand whole. -/
set_option linter.unusedVariables false
set_option linter.unusedSimpArgs false
namespace Go.Proofs.Ytkjcjlembepdkaa.Sh
open Go.Proofs.Ytkjcjlembepdkaa.FW
/-- What the reference's loop over the roles finds. -/
structure ExR (N b : Nat) (H : Heap) (b2 b4 bp : Nat) (q : Option Addr) (c nr : Nat) (p : Pn) (q2 : Option Addr) (c2 : Nat) (rows : List Rw) (dx dy : Int) : Prop where
  m1 : hcell H b2 1 = some (.slice q nr c)
  m2 : hcell H b2 2 = some (.slice q2 rows.length c2)
  R : PalB b H q2 rows
  x : hcell H b4 2 = some (.int .i64 dx)
  y : hcell H b4 3 = some (.int .i64 dy)
  p0 : hcell H bp 0 = some (.int .i64 p.1.1)
  p1 : hcell H bp 1 = some (.int .i64 p.1.2.1)
  p2 : hcell H bp 2 = some (.int .i64 p.1.2.2.1)
  p3 : hcell H bp 3 = some (.int .i64 p.1.2.2.2)
  p4 : hcell H bp 4 = some (.slice p.2.1 p.2.2.2.length p.2.2.1)
  D : ShB b H p.2.1 (ints p.2.2.2)
  l : b2 < b ∧ b < b4 ∧ b4 < N ∧ b < bp ∧ bp < N
theorem ExR.old {N b : Nat} {H H' : Heap} {b2 b4 bp : Nat} {q : Option Addr} {c nr : Nat} {p : Pn} {q2 : Option Addr} {c2 : Nat} {rows : List Rw} {dx dy : Int} (E : ExR N b H b2 b4 bp q c nr p q2 c2 rows dx dy) (o : OldX N b H H') : ExR N b H' b2 b4 bp q c nr p q2 c2 rows dx dy := by
  have e : ∀ i, i < N → i ≠ b → ∀ j, hcell H' i j = hcell H i j := fun i hi hb j => by unfold hcell; rw [o.2 i hi hb]
  obtain ⟨h1, h2, h3, h4, h5⟩ := E.l
  have ob := o.low (by omega)
  exact ⟨(e _ (by omega) (by omega) _).trans E.m1, (e _ (by omega) (by omega) _).trans E.m2, E.R.old ob, (e _ (by omega) (by omega) _).trans E.x, (e _ (by omega) (by omega) _).trans E.y, (e _ (by omega) (by omega) _).trans E.p0, (e _ (by omega) (by omega) _).trans E.p1, (e _ (by omega) (by omega) _).trans E.p2, (e _ (by omega) (by omega) _).trans E.p3, (e _ (by omega) (by omega) _).trans E.p4, E.D.old ob, E.l⟩
theorem rex_l3 (k : Nat) {N b b2 b4 bp : Nat} {h : H6} {q : Option Addr} {c nr : Nat} {p : Pn} {q2 : Option Addr} {c2 : Nat} {rows : List Rw} {dx dy : Int} (hnr : nr ≤ 1000) (hl : p.2.2.2.length ≤ 100000) (hk : 100000 < k) (hin : ∀ v ∈ p.2.2.2, 0 ≤ v ∧ v.toNat < rows.length) (hrow : ∀ r ∈ rows, r.2.2.length = nr) (pr : Option Addr) : ∀ (m n i : Nat), m < n → nr = i + m → ∀ (H : Heap) (qc : Option Addr) (cc : Nat) (qp : Option Addr) (cp : Nat) (rs : List Pn), ImgC true N b H h qc (outC i dx dy).length cc ((outC i dx dy).flatMap cmc) qp cp rs → rs.map pcon = outP rows p.1 p.2.2.2 i → N ≤ H.length → ExR N b H b2 b4 bp q c nr p q2 c2 rows dx dy →
    ∃ H' qc' cc' qp' cp' rs', (∀ (R : Type) (KE : Option Addr → Option Addr → Heap → Option R), R46_Expand_l3 k KE n (some ⟨b2, 0, none⟩) pr (some ⟨b, 0, none⟩) (some ⟨bp, 0, none⟩) (some ⟨b4, 0, none⟩) (i : Int) H = KE pr (some ⟨b, 0, none⟩) H') ∧ ImgC true N b H' h qc' (outC nr dx dy).length cc' ((outC nr dx dy).flatMap cmc) qp' cp' rs' ∧ rs'.map pcon = outP rows p.1 p.2.2.2 nr ∧ OldX N b H H' := by
  intro m
  induction m with
  | zero =>
    intro n i hn hj H qc cc qp cp rs I hrs hN E
    obtain ⟨n, rfl⟩ : ∃ n', n = n' + 1 := ⟨n - 1, by omega⟩
    have hjl : i = nr := by omega
    subst hjl
    refine ⟨H, qc, cc, qp, cp, rs, fun R KE => ?_, I, hrs, Old.x _ (Old.refl _ _)⟩
    unfold R46_Expand_l3 R46_Expand_l3_b
    exact go_fad (go_l E.m1 (go_f (decide_eq_false (by omega)) rfl))
  | succ m ih =>
    intro n i hn hj H qc cc qp cp rs I hrs hN E
    obtain ⟨n, rfl⟩ : ∃ n', n = n' + 1 := ⟨n - 1, by omega⟩
    have hrl : rs.length = i := by have := congrArg List.length hrs; rwa [List.length_map, outP_len] at this
    obtain ⟨g1, g2, g3, g4, g5⟩ := E.l
    have A := at8 I.o
    have hbl := I.o.lt
    obtain ⟨H1, H2, H3, qn, hH1, e2, e3, I3, o3⟩ := I.moreC hN (by rw [outC_len]; omega) (8, false, dx, dy)
    have E3 := E.old o3
    have l3 := o3.1
    have hbl3 := I3.o.lt
    obtain ⟨H4, bd, cd, sz, e4, hbd, O4, o4⟩ := copied_eq p.1.1 p.1.2.1 p.1.2.2.1 p.1.2.2.2 p.2.2.1 E3.D.s hl
    have l4 := o4.1
    have hbd4 := O4.lt
    obtain ⟨H5, hH5⟩ : ∃ H5, H5 = H4 ++ [some (⟨[.int .i64 p.1.1, .int .i64 p.1.2.1, .int .i64 p.1.2.2.1, .int .i64 p.1.2.2.2, .slice (some ⟨bd, 0, none⟩) p.2.2.2.length cd], false, 0⟩ : Blk)] := ⟨_, rfl⟩
    have o5 : Old H4.length H4 H5 := hH5 ▸ Old.app _ _
    have O5 : Owns H5 H4.length [.int .i64 p.1.1, .int .i64 p.1.2.1, .int .i64 p.1.2.2.1, .int .i64 p.1.2.2.2, .slice (some ⟨bd, 0, none⟩) p.2.2.2.length cd] 0 := by rw [hH5]; exact hblk_new H4 _
    have l5 : H5.length = H4.length + 1 := by rw [hH5]; simp
    have o35 : Old H3.length H3 H5 := o4.trans (o5.mono (by omega))
    have E5 := E3.old (Old.x b (o35.mono (by omega)))
    obtain ⟨H6', e6, O6, b6, m6⟩ := rex_l4 k i hl hin (fun r hr => by rw [hrow r hr]; omega) (N := b) (b2 := b2) (bp := bp) (bq := H4.length) (bd := bd) (sz := sz) (cd := cd) (by omega) g1 (by omega) (by omega) pr (some ⟨b, 0, none⟩) (some ⟨b4, 0, none⟩) p.2.2.2.length k 0 (by omega) (by omega) H5 (by rw [List.take_zero, List.drop_zero]; exact O4.old o5 (by omega)) (O5.sees.cell 4) E5.m2 E5.p4 E5.R E5.D
    have l6 := b6.1
    have o36 : Old H3.length H3 H6' := o35.trans (b6.old (by omega) (by omega))
    have I6 := I3.keep o36
    have A6 := at8 I6.o
    have Q6 := O5.but b6 (by omega)
    have q0 : hcell H6' H4.length 0 = some (.int .i64 p.1.1) := Q6.sees.cell 0
    have q1 : hcell H6' H4.length 1 = some (.int .i64 p.1.2.1) := Q6.sees.cell 1
    have q2' : hcell H6' H4.length 2 = some (.int .i64 p.1.2.2.1) := Q6.sees.cell 2
    have q3 : hcell H6' H4.length 3 = some (.int .i64 p.1.2.2.2) := Q6.sees.cell 3
    have q4 : hcell H6' H4.length 4 = some (.slice (some ⟨bd, 0, none⟩) p.2.2.2.length cd) := Q6.sees.cell 4
    obtain ⟨H7, H8, H9, qn2, hH7, e8, e9, I9, o9⟩ := I6.more (by omega) (by omega) (p.1, some ⟨bd, 0, none⟩, cd, p.2.2.2.map (pick rows i)) O6.sees.shows (fun a ha => by
      cases ha
      exact ⟨by simp only; omega, by simp only; omega, by simp only; omega, fun a' ha' => by have := I3.p.below a' ha'; simp only; omega⟩) (fun _ a a' ha ha' => by
      have := (I3.ca a' ha').2.1
      cases ha; simp only; omega)
    have o19 : OldX N b H H9 := o3.trans ((Old.x b (o36.mono (by omega))).trans o9)
    rw [← outC_succ] at I9
    obtain ⟨Ha, qc', cc', qp', cp', rs', ea, Ia, ca, oa⟩ := ih n (i + 1) (by omega) (by omega) H9 qn unk qn2 unk _ I9 (by rw [List.map_append, hrs, outP_succ]; rfl) (by have := o19.1; omega) (E.old o19)
    refine ⟨Ha, qc', cc', qp', cp', rs', fun R KE => ?_, Ia, ca, o19.trans oa⟩
    unfold R46_Expand_l3 R46_Expand_l3_b
    refine go_fad (go_l E.m1 (go_t (decide_eq_true (by omega)) (go_fad (go_fad (go_l A.m6 (go_fad (go_i E.x (go_fad (go_i E.y (go_halN (hH1.trans rfl) ((e2 _ _).trans (go_fad (go_fad ((e3 _ _).trans ?_))))))))))))))
    refine go_ip E3.p0 (go_ip E3.p1 (go_ip E3.p2 (go_ip E3.p3 (go_lp E3.p4 ((e4 _ _).trans (go_halst hH5 rfl rfl ((e6 _ _).trans ?_)))))))
    refine go_fad (go_l A6.m7 (go_ip q0 (go_ip q1 (go_ip q2' (go_ip q3 (go_lp q4 ?_))))))
    have hH7' := hH7
    unfold pnc at hH7'
    simp only [List.length_map] at hH7'
    refine go_halN hH7' ((e8 _ _).trans (go_fad ((e9 _ _).trans ?_)))
    rw [w64 (n := (i : Int) + 1) (by omega) (by omega)]
    exact ea R KE
theorem hd7_of (h : H6) (q : Option Addr) (l c : Nat) : hd6 h.1 h.2.1 h.2.2.1 h.2.2.2.1 h.2.2.2.2.1 h.2.2.2.2.2 q l c = [.int .i64 h.1, .int .i64 h.2.1, .int .i64 h.2.2.1, .int .i64 h.2.2.2.1, .int .i64 h.2.2.2.2.1, .int .i64 h.2.2.2.2.2, .slice q l c] := rfl
theorem rExpand_eq {k : Nat} (hk : 100000 < k) {H : Heap} {q q2 q3 q4 : Option Addr} {rs : List Int} {rows : List Rw} {cs : List Cm} {ps : List Pn} (h : H6) (s : Int) (c c2 c3 c4 : Nat) (hS : Shows H q (ints rs)) (hP : PalS H q2 rows) (hC : Shows H q3 (cs.flatMap cmc)) (hL : PlnS H q4 ps) (F : FewC rs rows) (hcl : cs.length ≤ 1000) (hl : ps.length ≤ 1000) (hd : ∀ p ∈ ps, p.2.2.2.length ≤ 100000) :
    ∃ H' h' q' c' cs' q2' c2' ps' e, (∀ (R : Type) (K : Int → Int → Int → Int → Int → Int → Option Addr → Nat → Nat → Option Addr → Nat → Nat → Int → Heap → Option R), R46_Expand k h.1 h.2.1 h.2.2.1 h.2.2.2.1 h.2.2.2.2.1 h.2.2.2.2.2 q3 cs.length c3 q4 ps.length c4 s q rs.length c q2 rows.length c2 H K = K h'.1 h'.2.1 h'.2.2.1 h'.2.2.2.1 h'.2.2.2.2.1 h'.2.2.2.2.2 q' cs'.length c' q2' ps'.length c2' e H') ∧ ImgR H.length H' q' (cs'.flatMap cmc) q2' ps' ∧ expO h s rs rows cs (ps.map pcon) = (e, h', cs', ps'.map pcon) ∧ Old H.length H H' := by
  obtain ⟨H1, hH1⟩ : ∃ H1, H1 = H ++ [some (⟨img8 h q3 cs.length c3 q4 ps.length c4, false, 0⟩ : Blk)] := ⟨_, rfl⟩
  have o1 : Old H.length H H1 := hH1 ▸ Old.app _ _
  have O1 : Owns H1 H.length (img8 h q3 cs.length c3 q4 ps.length c4) 0 := by rw [hH1]; exact hblk_new H _
  have l1 : H1.length = H.length + 1 := by rw [hH1]; simp
  obtain ⟨H2, hH2⟩ : ∃ H2, H2 = H1 ++ [some (⟨cl s q rs.length c q2 rows.length c2, false, 0⟩ : Blk)] := ⟨_, rfl⟩
  have o2 : Old H1.length H1 H2 := hH2 ▸ Old.app _ _
  have O2 : Owns H2 H1.length (cl s q rs.length c q2 rows.length c2) 0 := by rw [hH2]; exact hblk_new H1 _
  have l2 : H2.length = H1.length + 1 := by rw [hH2]; simp
  obtain ⟨H3, hH3⟩ : ∃ H3, H3 = H2 ++ [some (⟨img8 z6 none 0 0 none 0 0, false, 0⟩ : Blk)] := ⟨_, rfl⟩
  have o3 : Old H2.length H2 H3 := hH3 ▸ Old.app _ _
  have O3 : Owns H3 H2.length (img8 z6 none 0 0 none 0 0) 0 := by rw [hH3]; exact hblk_new H2 _
  have l3 : H3.length = H2.length + 1 := by rw [hH3]; simp
  have o03 : Old H.length H H3 := o1.trans ((o2.mono (by omega)).trans (o3.mono (by omega)))
  have A3 := at8 ((O1.old o2 (by omega)).old o3 (by omega))
  have C3 := at3 (O2.old o3 (by omega))
  obtain ⟨H4, e4, o4⟩ := rcheck_eq (k := k) (by omega) s c c2 h.1 h.2.1 h.2.2.1 h.2.2.2.1 h.2.2.2.2.1 h.2.2.2.2.2 c3 (hS.keep o03) (hP.keep o03) (hC.keep o03) F
  have l4 := o4.1
  have A4 := A3.old o4 (by omega)
  have C4 := C3.old o4 (by omega)
  have O4 := O3.old o4 (by omega)
  have o04 : Old H.length H H4 := o03.trans (o4.mono (by omega))
  obtain ⟨Hz, ez, Az, bz, nz⟩ := put8 O4 rfl z6 none 0 0 none 0 0
  have oz : Old H.length H Hz := o04.trans (bz.old (by omega) (by omega))
  by_cases h1 : checkI s rs rows cs = 0
  case neg =>
    refine ⟨Hz, z6, none, 0, [], none, 0, [], checkI s rs rows cs, fun R K => ?_, .nil _ _, by unfold expO; rw [if_pos h1]; rfl, oz⟩
    unfold R46_Expand R46_Expand_b
    refine go_halN hH1 (go_halN hH2 (go_halN hH3 (go_ip C3.a (go_lp C3.b' (go_lp C3.c' (go_fad (go_ip A3.m0 (go_ip A3.m1 (go_ip A3.m2 (go_ip A3.m3 (go_ip A3.m4 (go_ip A3.m5 (go_lp A3.m6 ((e4 _ _).trans ?_))))))))))))))
    exact go_t (bne_iff_ne.2 h1) ((ez _ _).trans (Az.go rfl))
  by_cases h2 : ps.length = cs.length
  case neg =>
    refine ⟨Hz, z6, none, 0, [], none, 0, [], 1, fun R K => ?_, .nil _ _, by unfold expO; rw [if_neg (fun hh => hh h1), if_pos (by rw [List.length_map]; exact h2)]; rfl, oz⟩
    unfold R46_Expand R46_Expand_b
    refine go_halN hH1 (go_halN hH2 (go_halN hH3 (go_ip C3.a (go_lp C3.b' (go_lp C3.c' (go_fad (go_ip A3.m0 (go_ip A3.m1 (go_ip A3.m2 (go_ip A3.m3 (go_ip A3.m4 (go_ip A3.m5 (go_lp A3.m6 ((e4 _ _).trans ?_))))))))))))))
    rw [h1]
    exact go_ne (go_fad (go_l A4.m7 (go_fad (go_fad (go_l A4.m6 (go_t (bne_iff_ne.2 (by omega)) ((ez _ _).trans (Az.go rfl))))))))
  -- the header's copy
  obtain ⟨H5, hH5⟩ : ∃ H5, H5 = H4 ++ [some (⟨hd6 h.1 h.2.1 h.2.2.1 h.2.2.2.1 h.2.2.2.2.1 h.2.2.2.2.2 q3 cs.length c3, false, 0⟩ : Blk)] := ⟨_, rfl⟩
  have o5 : Old H4.length H4 H5 := hH5 ▸ Old.app _ _
  have O5 : Owns H5 H4.length (hd6 h.1 h.2.1 h.2.2.1 h.2.2.2.1 h.2.2.2.2.1 h.2.2.2.2.2 q3 cs.length c3) 0 := by rw [hH5]; exact hblk_new H4 _
  have l5 : H5.length = H4.length + 1 := by rw [hH5]; simp
  obtain ⟨H6', hH6⟩ : ∃ H6', H6' = H5 ++ [some (⟨[], false, 0⟩ : Blk)] := ⟨_, rfl⟩
  have o6 : Old H5.length H5 H6' := hH6 ▸ Old.app _ _
  have l6 : H6'.length = H5.length + 1 := by rw [hH6]; simp
  have o46 : Old H4.length H4 H6' := o5.trans (o6.mono (by omega))
  have o06 : Old H.length H H6' := o04.trans (o46.mono (by omega))
  obtain ⟨H7, qh, ch, e7, C7, o7⟩ := happ0 (sz := 4) (bytes := 32) (b := H5.length) (hC.keep o06) (cmc_len cs) (by omega) (by omega) (by omega)
  have l7 := o7.1
  have A6 := A4.old o46 (by omega)
  obtain ⟨H8, e8, O8, b8, n8⟩ := ((O5.old o6 (by omega)).old o7 (by omega)).st1 (o := 6) (show 6 < 7 by omega) (.slice qh cs.length ch)
  have o68 : Old H4.length H6' H8 := (o7.mono (by omega)).trans (b8.old (by omega) (by omega))
  have o48 : Old H4.length H4 H8 := o46.trans o68
  have C8 : Cpy H5.length H8 qh (cs.flatMap cmc) := C7.but b8 (by omega)
  have x0 : hcell H8 H4.length 0 = some (.int .i64 h.1) := O8.sees.cell 0
  have x1 : hcell H8 H4.length 1 = some (.int .i64 h.2.1) := O8.sees.cell 1
  have x2 : hcell H8 H4.length 2 = some (.int .i64 h.2.2.1) := O8.sees.cell 2
  have x3 : hcell H8 H4.length 3 = some (.int .i64 h.2.2.2.1) := O8.sees.cell 3
  have x4 : hcell H8 H4.length 4 = some (.int .i64 h.2.2.2.2.1) := O8.sees.cell 4
  have x5 : hcell H8 H4.length 5 = some (.int .i64 h.2.2.2.2.2) := O8.sees.cell 5
  have x6 : hcell H8 H4.length 6 = some (.slice qh cs.length ch) := O8.sees.cell 6
  obtain ⟨H9, hH9⟩ : ∃ H9, H9 = H8 ++ [some (⟨img8 h qh cs.length ch none 0 0, false, 0⟩ : Blk)] := ⟨_, rfl⟩
  have o9 : Old H8.length H8 H9 := hH9 ▸ Old.app _ _
  have O9 : Owns H9 H8.length (img8 h qh cs.length ch none 0 0) 0 := by rw [hH9]; exact hblk_new H8 _
  have l9 : H9.length = H8.length + 1 := by rw [hH9]; simp
  have o49 : Old H4.length H4 H9 := o48.trans (o9.mono (by omega))
  have o09 : Old H.length H H9 := o04.trans (o49.mono (by omega))
  have A9 := A4.old o49 (by omega)
  have C9 := C4.old o49 (by omega)
  have Cp9 : Cpy H5.length H9 qh (cs.flatMap cmc) := C8.keep o9
  by_cases h3 : rows.length = 0
  · have I9 : ImgC false H4.length H8.length H9 h qh cs.length ch (cs.flatMap cmc) none 0 [] := by
      refine ⟨O9, Cp9.s, fun a ha => ?_, (fun hg => by cases hg), .nil _ _ _, (fun a ha => by cases ha), (fun p hp => by cases hp), (fun p hp => by cases hp)⟩
      have h7 := C8.a a ha
      exact ⟨by omega, by omega, by omega, fun a' ha' => by cases ha'⟩
    obtain ⟨Ha, qp, cp, ps', ea, Ia, ra, oa⟩ := rcl_l k (N := H4.length) (b := H8.length) (b1 := H.length) (q := q4) (c := c4) hl hd (by omega) (by omega) (some ⟨H2.length, 0, none⟩) ps.length k 0 (by omega) (by omega) H9 none 0 [] I9 rfl rfl (by omega) A9.m7 (((hL.keep o04).pb).old o49)
    have Aa := at8 Ia.o
    have la := oa.1
    obtain ⟨Hb, eb, Ab, bb, nb⟩ := put8 ((O4.old o49 (by omega)).old oa (by omega)) rfl h qh cs.length ch qp ps'.length cp
    refine ⟨Hb, h, qh, ch, cs, qp, cp, ps', 0, fun R K => ?_, (Ia.out.but bb (by omega)).mono (by omega), by unfold expO; rw [if_neg (fun hh => hh h1), if_neg (fun hh => hh (by rw [List.length_map]; exact h2)), if_pos h3, ra], o09.trans ((oa.mono (by omega)).trans (bb.old (by omega) (by omega)))⟩
    unfold R46_Expand R46_Expand_b
    refine go_halN hH1 (go_halN hH2 (go_halN hH3 (go_ip C3.a (go_lp C3.b' (go_lp C3.c' (go_fad (go_ip A3.m0 (go_ip A3.m1 (go_ip A3.m2 (go_ip A3.m3 (go_ip A3.m4 (go_ip A3.m5 (go_lp A3.m6 ((e4 _ _).trans ?_))))))))))))))
    rw [h1]
    refine go_ne (go_fad (go_l A4.m7 (go_fad (go_fad (go_l A4.m6 (go_f (bne_eq_false_iff_eq.2 (by omega)) ?_))))))
    refine go_fad (go_ip A4.m0 (go_ip A4.m1 (go_ip A4.m2 (go_ip A4.m3 (go_ip A4.m4 (go_ip A4.m5 (go_lp A4.m6 (go_halst hH5 rfl rfl ?_))))))))
    refine go_halN hH6 (go_fad (go_fad (go_l A6.m6 ((e7 _ _).trans (go_fad ((e8 _ _).trans ?_))))))
    refine go_ip x0 (go_ip x1 (go_ip x2 (go_ip x3 (go_ip x4 (go_ip x5 (go_lp x6 (go_halst hH9 rfl rfl ?_)))))))
    refine go_fad (go_l C9.c' (go_t (beq_iff_eq.2 (by omega)) ((ea _ _).trans ?_)))
    exact Aa.go ((eb _ _).trans (Ab.go rfl))
  obtain ⟨cm, rfl, hu, hrg, hrows⟩ := chk_pal h1 h3
  obtain ⟨p, rfl⟩ : ∃ p, ps = [p] := by
    match ps, h2 with
    | [p], _ => exact ⟨p, rfl⟩
  have hpl := hd p (List.mem_singleton.2 rfl)
  obtain ⟨pb, po, pe, pm0, pm1, pm2, pm3, pm4⟩ := pl_at (hL.keep o09) (i := 0) (p := p) rfl
  obtain ⟨H10, hH10⟩ : ∃ H10, H10 = H9 ++ [some (⟨pnc p, false, 0⟩ : Blk)] := ⟨_, rfl⟩
  have o10 : Old H9.length H9 H10 := hH10 ▸ Old.app _ _
  have O10 : Owns H10 H9.length (pnc p) 0 := by rw [hH10]; exact hblk_new H9 _
  have l10 : H10.length = H9.length + 1 := by rw [hH10]; simp
  have Cp10 : Cpy H5.length H10 qh ([cm].flatMap cmc) := Cp9.keep o10
  obtain ⟨cb, co, ec, y0, y1, y2, y3⟩ := cm_at Cp10.s (i := 0) (c := cm) rfl
  have O8' := (O8.old o9 (by omega)).old o10 (by omega)
  have x6' : hcell H10 H4.length 6 = some (.slice qh [cm].length ch) := O8'.sees.cell 6
  obtain ⟨H11, e11, o11⟩ := rRange_eq (k := k) (by omega) cm hu H10
  have l11 := o11.1
  have o411 : Old H4.length H4 H11 := o49.trans ((o10.mono (by omega)).trans (o11.mono (by omega)))
  have o011 : Old H.length H H11 := o04.trans (o411.mono (by omega))
  have Cp11 : Cpy H5.length H11 qh ([cm].flatMap cmc) := Cp10.keep o11
  obtain ⟨cb', co', ec', y0', y1', y2', y3'⟩ := cm_at Cp11.s (i := 0) (c := cm) rfl
  have x6'' : hcell H11 H4.length 6 = some (.slice qh [cm].length ch) := (O8'.old o11 (by omega)).sees.cell 6
  have O10' := O10.old o11 (by omega)
  have mp4 : hcell H11 H9.length 4 = some (.slice p.2.1 p.2.2.2.length p.2.2.1) := O10'.sees.cell 4
  obtain ⟨Hy, ey, Ay, bY, ny⟩ := put8 (O4.old o411 (by omega)) rfl z6 none 0 0 none 0 0
  have el1 := rrg_l k (rng cm).1 (rng cm).2 hpl ((hL.keep o011).w p (List.mem_singleton.2 rfl)) mp4 ey (some ⟨H1.length, 0, none⟩) (some ⟨H4.length, 0, none⟩) (some ⟨H8.length, 0, none⟩) p.2.2.2.length k 0 (by omega) (by omega)
  rw [List.drop_zero] at el1
  cases hin : inB (rng cm).1 (rng cm).2 p.2.2.2 with
  | false =>
    refine ⟨Hy, z6, none, 0, [], none, 0, [], 2, fun R K => ?_, .nil _ _, ?_, o011.trans (bY.old (by omega) (by omega))⟩
    · unfold R46_Expand R46_Expand_b
      refine go_halN hH1 (go_halN hH2 (go_halN hH3 (go_ip C3.a (go_lp C3.b' (go_lp C3.c' (go_fad (go_ip A3.m0 (go_ip A3.m1 (go_ip A3.m2 (go_ip A3.m3 (go_ip A3.m4 (go_ip A3.m5 (go_lp A3.m6 ((e4 _ _).trans ?_))))))))))))))
      rw [h1]
      refine go_ne (go_fad (go_l A4.m7 (go_fad (go_fad (go_l A4.m6 (go_f (bne_eq_false_iff_eq.2 (by omega)) ?_))))))
      refine go_fad (go_ip A4.m0 (go_ip A4.m1 (go_ip A4.m2 (go_ip A4.m3 (go_ip A4.m4 (go_ip A4.m5 (go_lp A4.m6 (go_halst hH5 rfl rfl ?_))))))))
      refine go_halN hH6 (go_fad (go_fad (go_l A6.m6 ((e7 _ _).trans (go_fad ((e8 _ _).trans ?_))))))
      refine go_ip x0 (go_ip x1 (go_ip x2 (go_ip x3 (go_ip x4 (go_ip x5 (go_lp x6 (go_halst hH9 rfl rfl ?_)))))))
      refine go_fad (go_l C9.c' (go_f (beq_eq_false_iff_ne.2 (by omega)) ?_))
      refine go_fad (go_l A9.m7 ((pe _ _).trans (go_ip pm0 (go_ip pm1 (go_ip pm2 (go_ip pm3 (go_lp pm4 (go_halst hH10 rfl rfl ?_))))))))
      refine go_fad (go_l x6' ((ec _ _).trans (go_ip y0 (go_bp y1 (go_ip y2 (go_ip y3 ((e11 _ _).trans ((el1 _ _ _).trans ?_))))))))
      rw [hin]
      exact Ay.go rfl
    · unfold expO
      rw [if_neg (fun hh => hh h1), if_neg (fun hh => hh (by rw [List.length_map]; exact h2)), if_neg h3]
      simp only [List.map_cons, pcon, hin]
      rfl
  | true =>
    obtain ⟨H12, hH12⟩ : ∃ H12, H12 = H11 ++ [some (⟨cmc cm, false, 0⟩ : Blk)] := ⟨_, rfl⟩
    have o12 : Old H11.length H11 H12 := hH12 ▸ Old.app _ _
    have O12 : Owns H12 H11.length (cmc cm) 0 := by rw [hH12]; exact hblk_new H11 _
    have l12 : H12.length = H11.length + 1 := by rw [hH12]; simp
    obtain ⟨H13, e13, O13, b13, n13⟩ := (((O9.old o10 (by omega)).old o11 (by omega)).old o12 (by omega)).st1 (o := 6) (show 6 < 8 by omega) (.slice none 0 0)
    have o813 : Old H8.length H9 H13 := (o10.mono (by omega)).trans ((o11.mono (by omega)).trans ((o12.mono (by omega)).trans (b13.old (by omega) (by omega))))
    have o413 : Old H4.length H4 H13 := o49.trans (o813.mono (by omega))
    have o013 : Old H.length H H13 := o04.trans (o413.mono (by omega))
    have C13 := C4.old o413 (by omega)
    have P13 := (O10'.old o12 (by omega)).but b13 (by omega)
    have M13 := O12.but b13 (by omega)
    have E : ExR H13.length H8.length H13 H1.length H11.length H9.length q c rs.length p q2 c2 rows cm.2.2.1 cm.2.2.2 := ⟨C13.b', C13.c', (hP.below.old o013).mono (by omega), M13.sees.cell 2, M13.sees.cell 3, P13.sees.cell 0, P13.sees.cell 1, P13.sees.cell 2, P13.sees.cell 3, P13.sees.cell 4, ⟨(hL.keep o013).w p (List.mem_singleton.2 rfl), (ints_below (hL.w p (List.mem_singleton.2 rfl))).imp (fun hh => by rw [hh]; rfl) (fun hh => Below.mono hh (by omega))⟩, by omega, by omega, by omega, by omega, by omega⟩
    have I13 : ImgC true H13.length H8.length H13 h none 0 0 [] none 0 [] := ⟨O13, .inl rfl, (fun a ha => by cases ha), (fun _ => .nil _ _ _), .nil _ _ _, (fun a ha => by cases ha), (fun p hp => by cases hp), (fun p hp => by cases hp)⟩
    rw [hrg] at hin
    have hin' : ∀ v ∈ p.2.2.2, 0 ≤ v ∧ v.toNat < rows.length := fun v hv => by
      have := (List.all_eq_true.1 hin) v hv
      simp only [decide_eq_true_eq] at this
      omega
    obtain ⟨Ha, qc, cc, qp, cp, rs', ea, Ia, ra, oa⟩ := rex_l3 k (nr := rs.length) (by have := F.a; omega) hpl hk hin' (fun r hr => (hrows r hr).1) (some ⟨H2.length, 0, none⟩) rs.length k 0 (by have := F.a; omega) (by omega) H13 none 0 none 0 [] I13 rfl (Nat.le_refl _) E
    have la := oa.1
    have Aa := at8 Ia.o
    have oa' := oa.low (by omega)
    obtain ⟨Hb, eb, Ab, bb, nb⟩ := put8 ((O4.old o413 (by omega)).old oa' (by omega)) rfl h qc (outC rs.length cm.2.2.1 cm.2.2.2).length cc qp rs'.length cp
    refine ⟨Hb, h, qc, cc, _, qp, cp, rs', 0, fun R K => ?_, (Ia.out.but bb (by omega)).mono (by omega), ?_, o013.trans ((oa'.mono (by omega)).trans (bb.old (by omega) (by omega)))⟩
    · unfold R46_Expand R46_Expand_b
      refine go_halN hH1 (go_halN hH2 (go_halN hH3 (go_ip C3.a (go_lp C3.b' (go_lp C3.c' (go_fad (go_ip A3.m0 (go_ip A3.m1 (go_ip A3.m2 (go_ip A3.m3 (go_ip A3.m4 (go_ip A3.m5 (go_lp A3.m6 ((e4 _ _).trans ?_))))))))))))))
      rw [h1]
      refine go_ne (go_fad (go_l A4.m7 (go_fad (go_fad (go_l A4.m6 (go_f (bne_eq_false_iff_eq.2 (by omega)) ?_))))))
      refine go_fad (go_ip A4.m0 (go_ip A4.m1 (go_ip A4.m2 (go_ip A4.m3 (go_ip A4.m4 (go_ip A4.m5 (go_lp A4.m6 (go_halst hH5 rfl rfl ?_))))))))
      refine go_halN hH6 (go_fad (go_fad (go_l A6.m6 ((e7 _ _).trans (go_fad ((e8 _ _).trans ?_))))))
      refine go_ip x0 (go_ip x1 (go_ip x2 (go_ip x3 (go_ip x4 (go_ip x5 (go_lp x6 (go_halst hH9 rfl rfl ?_)))))))
      refine go_fad (go_l C9.c' (go_f (beq_eq_false_iff_ne.2 (by omega)) ?_))
      refine go_fad (go_l A9.m7 ((pe _ _).trans (go_ip pm0 (go_ip pm1 (go_ip pm2 (go_ip pm3 (go_lp pm4 (go_halst hH10 rfl rfl ?_))))))))
      refine go_fad (go_l x6' ((ec _ _).trans (go_ip y0 (go_bp y1 (go_ip y2 (go_ip y3 ((e11 _ _).trans ((el1 _ _ _).trans ?_))))))))
      rw [hrg, hin]
      refine go_t rfl (go_fad (go_l x6'' ((ec' _ _).trans (go_ip y0' (go_bp y1' (go_ip y2' (go_ip y3' (go_halst hH12 rfl rfl (go_fad (go_fad ((e13 _ _).trans ((ea _ _).trans ?_))))))))))))
      exact Aa.go ((eb _ _).trans (Ab.go rfl))
    · unfold expO
      rw [if_neg (fun hh => hh h1), if_neg (fun hh => hh (by rw [List.length_map]; exact h2)), if_neg h3]
      simp only [List.map_cons, pcon, hrg, hin]
      rw [ra]; rfl
end Go.Proofs.Ytkjcjlembepdkaa.Sh
/- Colorspec: images that came in; few; sameImage of equal images. -/
set_option linter.unusedVariables false
set_option linter.unusedSimpArgs false
namespace Go.Proofs.Ytkjcjlembepdkaa.Sh
open Go.Proofs.Ytkjcjlembepdkaa.FW
abbrev dPlane : D := .pair dRect (.pair (.slc (.int .i64)) .nil)
abbrev dImage : D := .pair dHeader (.pair (.slc dPlane) .nil)
theorem planes_of {H : Heap} : ∀ (es : List (List Value)), (∀ e ∈ es, Shp dPlane H e) → ∃ ps : List Pn, ps.length = es.length ∧ es.flatten = ps.flatMap pnc ∧ ∀ p ∈ ps, Shows H p.2.1 (ints p.2.2.2) ∧ i64s p.2.2.2 := by
  intro es
  induction es with
  | nil => intro _; exact ⟨[], rfl, rfl, fun v h => by cases h⟩
  | cons e es ih =>
    intro h
    obtain ⟨ps, h1, h2, h3⟩ := ih fun x hx => h x (List.mem_cons_of_mem _ hx)
    obtain ⟨_, _, rfl, ⟨_, _, rfl, ⟨a, rfl, _⟩, _, _, rfl, ⟨b, rfl, _⟩, _, _, rfl, ⟨c, rfl, _⟩, _, y4, rfl, ⟨d, rfl, _⟩, hn⟩, _, y, rfl, ⟨q, cc, es', rfl, _, _, he, hs⟩, hn2⟩ := h e (by simp)
    have hn' : y4 = [] := hn
    have hn2' : y = [] := hn2
    subst hn' hn2'
    obtain ⟨xs, g1, g2, g3⟩ := ints_of es' he
    rw [g2] at hs
    refine ⟨((a, b, c, d), q, cc, xs) :: ps, by simp [h1], by rw [List.flatten_cons, h2, ← g1]; rfl, fun v hv => ?_⟩
    rcases List.mem_cons.1 hv with rfl | hv
    · exact ⟨hs, g3⟩
    · exact h3 v hv
theorem image_of {H : Heap} {vs : List Value} (h : Shp dImage H vs) : ∃ (h6 : H6) (q : Option Addr) (cs : List Cm) (c : Nat) (q2 : Option Addr) (ps : List Pn) (c2 : Nat), vs = img8 h6 q cs.length c q2 ps.length c2 ∧ Shows H q (cs.flatMap cmc) ∧ PlnS H q2 ps ∧ ∀ p ∈ ps, i64s p.2.2.2 := by
  obtain ⟨_, _, rfl, hh, _, y, rfl, ⟨q2, c2, es, rfl, _, _, he, hs⟩, hn⟩ := h
  have hn' : y = [] := hn
  subst hn'
  obtain ⟨n1, n2, n3, n4, n5, n6, q, cs, c, rfl, hC⟩ := header_of hh
  obtain ⟨ps, g1, g2, g3⟩ := planes_of es he
  rw [g2] at hs
  exact ⟨(n1, n2, n3, n4, n5, n6), q, cs, c, q2, ps, c2, by rw [g1]; rfl, hC, ⟨hs, fun p hp => (g3 p hp).1⟩, fun p hp => (g3 p hp).2⟩
def fewI (cs : List Cm) (ps : List Pn) : Bool := decide (cs.length ≤ 10) && (decide (ps.length ≤ 10) && ps.all fun p => decide (p.2.2.2.length ≤ 2000))
theorem fewI_of {cs : List Cm} {ps : List Pn} (h : fewI cs ps = true) : cs.length ≤ 10 ∧ ps.length ≤ 10 ∧ ∀ p ∈ ps, p.2.2.2.length ≤ 2000 := by
  unfold fewI at h
  simp only [Bool.and_eq_true, decide_eq_true_eq, List.all_eq_true] at h
  exact ⟨h.1, h.2.1, fun p hp => h.2.2 p hp⟩
theorem fewI_l (k : Nat) {H : Heap} {b : Nat} {q : Option Addr} {c : Nat} {ps : List Pn} (hl : ps.length ≤ 10) (m7 : hcell H b 7 = some (.slice q ps.length c)) (P : PlnS H q ps) : ∀ (m n i : Nat), m < n → ps.length = i + m → ∀ (R : Type) (KE : Unit → Option R) (KR : Bool → Option R),
    L_few_l1 k KE KR n (some ⟨b, 0, none⟩) ((ps.length : Nat) : Int) (i : Int) H = bif (ps.drop i).all (fun p => decide (p.2.2.2.length ≤ 2000)) then KE () else KR false := by
  intro m
  induction m with
  | zero =>
    intro n i hn hj R KE KR
    obtain ⟨n, rfl⟩ : ∃ n', n = n' + 1 := ⟨n - 1, by omega⟩
    unfold L_few_l1 L_few_l1_b
    rw [List.drop_eq_nil_of_le (by omega)]
    exact go_f (decide_eq_false (by omega)) rfl
  | succ m ih =>
    intro n i hn hj R KE KR
    obtain ⟨n, rfl⟩ : ∃ n', n = n' + 1 := ⟨n - 1, by omega⟩
    obtain ⟨p, hx⟩ := ex_get (l := ps) (i := i) (by omega)
    obtain ⟨bb, oo, e1, m0, m1, m2, m3, m4⟩ := pl_at P hx
    unfold L_few_l1 L_few_l1_b
    rw [drop_cons hx, List.all_cons]
    refine go_t (decide_eq_true (by omega)) (go_fad (go_l m7 ((e1 _ _).trans (go_fad (go_l m4 ?_)))))
    by_cases h : p.2.2.2.length ≤ 2000
    · rw [show decide (p.2.2.2.length ≤ 2000) = true from decide_eq_true h, Bool.true_and]
      refine go_f (decide_eq_false (by omega)) ?_
      rw [w64 (n := (i : Int) + 1) (by omega) (by omega)]
      exact ih n (i + 1) (by omega) (by omega) R KE KR
    · rw [show decide (p.2.2.2.length ≤ 2000) = false from decide_eq_false h]
      exact go_t (decide_eq_true (by omega)) rfl
theorem fewI_eq {k : Nat} (hk : 100 < k) {H : Heap} {q q2 : Option Addr} {cs : List Cm} {ps : List Pn} (h : H6) (c c2 : Nat) (P : PlnS H q2 ps) :
    ∃ H', (∀ (R : Type) (K : Bool → Heap → Option R), L_few k h.1 h.2.1 h.2.2.1 h.2.2.2.1 h.2.2.2.2.1 h.2.2.2.2.2 q cs.length c q2 ps.length c2 H K = K (fewI cs ps) H') ∧ Old H.length H H' := by
  obtain ⟨H1, hH1⟩ : ∃ H1, H1 = H ++ [some (⟨img8 h q cs.length c q2 ps.length c2, false, 0⟩ : Blk)] := ⟨_, rfl⟩
  have o1 : Old H.length H H1 := hH1 ▸ Old.app _ _
  have O1 : Owns H1 H.length (img8 h q cs.length c q2 ps.length c2) 0 := by rw [hH1]; exact hblk_new H _
  have A := at8 O1
  refine ⟨H1, fun R K => ?_, o1⟩
  unfold L_few L_few_b L_few_p0 L_few_p0_b fewI
  refine go_halN hH1 (go_fad (go_fad (go_l A.m6 ?_)))
  by_cases h1 : cs.length ≤ 10
  · rw [show decide (cs.length ≤ 10) = true from decide_eq_true h1, Bool.true_and]
    refine go_f (decide_eq_false (by omega)) (go_fad (go_l A.m7 ?_))
    by_cases h2 : ps.length ≤ 10
    · rw [show decide (ps.length ≤ 10) = true from decide_eq_true h2, Bool.true_and]
      refine go_f (decide_eq_false (by omega)) (go_fad (go_l A.m7 ((fewI_l k h2 A.m7 (P.keep o1) ps.length k 0 (by omega) (by omega) _ _ _).trans ?_)))
      rw [List.drop_zero]
      cases ps.all (fun p => decide (p.2.2.2.length ≤ 2000)) <;> rfl
    · rw [show decide (ps.length ≤ 10) = false from decide_eq_false h2, Bool.false_and]
      exact go_t (decide_eq_true (by omega)) rfl
  · rw [show decide (cs.length ≤ 10) = false from decide_eq_false h1, Bool.false_and]
    exact go_t (decide_eq_true (by omega)) rfl
theorem same_l (k : Nat) {H : Heap} {q q' : Option Addr} {xs : List Int} (c c' : Nat) (h : Shows H q (ints xs)) (h' : Shows H q' (ints xs)) (hl : xs.length ≤ 1000000) : ∀ (m n i : Nat), m < n → xs.length = i + m → ∀ (R : Type) (KE : Unit → Option R) (KR : Bool → Option R),
    L_same_l0 k KE KR n q xs.length c q' xs.length c' ((xs.length : Nat) : Int) (i : Int) H = KE () := by
  intro m
  induction m with
  | zero =>
    intro n i hn hj R KE KR
    obtain ⟨n, rfl⟩ : ∃ n', n = n' + 1 := ⟨n - 1, by omega⟩
    unfold L_same_l0 L_same_l0_b
    exact go_f (decide_eq_false (by omega)) rfl
  | succ m ih =>
    intro n i hn hj R KE KR
    obtain ⟨n, rfl⟩ : ∃ n', n = n' + 1 := ⟨n - 1, by omega⟩
    obtain ⟨x, hx⟩ := ex_get (l := xs) (i := i) (by omega)
    obtain ⟨p1, e1, g1⟩ := int_at h hx
    obtain ⟨p2, e2, g2⟩ := int_at h' hx
    unfold L_same_l0 L_same_l0_b
    refine go_t (decide_eq_true (by omega)) ((e1 _ _).trans ((g1 _ _).trans ((e2 _ _).trans ((g2 _ _).trans (go_ne ?_)))))
    rw [w64 (n := (i : Int) + 1) (by omega) (by omega)]
    exact ih n (i + 1) (by omega) (by omega) R KE KR
theorem same_true {k : Nat} {H : Heap} {q q' : Option Addr} {xs : List Int} (c c' : Nat) (h : Shows H q (ints xs)) (h' : Shows H q' (ints xs)) (hl : xs.length ≤ 1000000) (hk : xs.length < k) (R : Type) (K : Bool → Option R) : L_same k q xs.length c q' xs.length c' H K = K true := by
  unfold L_same L_same_b
  exact go_ne (same_l k c c' h h' hl xs.length k 0 hk (by omega) _ _ _)
theorem shd_l (k : Nat) {H : Heap} {b b' : Nat} {q q' : Option Addr} {c c' : Nat} {cs : List Cm} (hl : cs.length ≤ 1000) (m6 : hcell H b 6 = some (.slice q cs.length c)) (m6' : hcell H b' 6 = some (.slice q' cs.length c')) (P : Shows H q (cs.flatMap cmc)) (P' : Shows H q' (cs.flatMap cmc)) : ∀ (m n i : Nat), m < n → cs.length = i + m → ∀ (R : Type) (KE : Unit → Option R) (KR : Bool → Option R),
    R23_SameHeader_l1 k KE KR n (some ⟨b, 0, none⟩) (some ⟨b', 0, none⟩) (i : Int) H = KE () := by
  intro m
  induction m with
  | zero =>
    intro n i hn hj R KE KR
    obtain ⟨n, rfl⟩ : ∃ n', n = n' + 1 := ⟨n - 1, by omega⟩
    unfold R23_SameHeader_l1 R23_SameHeader_l1_b
    exact go_fad (go_l m6 (go_f (decide_eq_false (by omega)) rfl))
  | succ m ih =>
    intro n i hn hj R KE KR
    obtain ⟨n, rfl⟩ : ∃ n', n = n' + 1 := ⟨n - 1, by omega⟩
    obtain ⟨p, hx⟩ := ex_get (l := cs) (i := i) (by omega)
    obtain ⟨bb, oo, e1, m0, m1, m2, m3⟩ := cm_at P hx
    obtain ⟨bb', oo', e1', m0', m1', m2', m3'⟩ := cm_at P' hx
    unfold R23_SameHeader_l1 R23_SameHeader_l1_b
    refine go_fad (go_l m6 (go_t (decide_eq_true (by omega)) (go_fad (go_l m6 ((e1 _ _).trans (go_ip m0 (go_bp m1 (go_ip m2 (go_ip m3 ?_)))))))))
    refine go_fad (go_l m6' ((e1' _ _).trans (go_ip m0' (go_bp m1' (go_ip m2' (go_ip m3' (go_f (by simp) ?_)))))))
    rw [w64 (n := (i : Int) + 1) (by omega) (by omega)]
    exact ih n (i + 1) (by omega) (by omega) R KE KR
structure At7 (H : Heap) (b : Nat) (h : H6) (q : Option Addr) (l c : Nat) : Prop where
  m0 : hcell H b 0 = some (.int .i64 h.1)
  m1 : hcell H b 1 = some (.int .i64 h.2.1)
  m2 : hcell H b 2 = some (.int .i64 h.2.2.1)
  m3 : hcell H b 3 = some (.int .i64 h.2.2.2.1)
  m4 : hcell H b 4 = some (.int .i64 h.2.2.2.2.1)
  m5 : hcell H b 5 = some (.int .i64 h.2.2.2.2.2)
  m6 : hcell H b 6 = some (.slice q l c)
theorem at7 {H : Heap} {b z : Nat} {h : H6} {q : Option Addr} {l c : Nat} (O : Owns H b (hd6 h.1 h.2.1 h.2.2.1 h.2.2.2.1 h.2.2.2.2.1 h.2.2.2.2.2 q l c) z) : At7 H b h q l c := ⟨O.sees.cell 0, O.sees.cell 1, O.sees.cell 2, O.sees.cell 3, O.sees.cell 4, O.sees.cell 5, O.sees.cell 6⟩
theorem shd_true {k : Nat} (hk : 2000 < k) {H : Heap} {q q' : Option Addr} {cs : List Cm} (h : H6) (c c' : Nat) (P : Shows H q (cs.flatMap cmc)) (P' : Shows H q' (cs.flatMap cmc)) (hl : cs.length ≤ 1000) :
    ∃ H', (∀ (R : Type) (K : Bool → Heap → Option R), R23_SameHeader k h.1 h.2.1 h.2.2.1 h.2.2.2.1 h.2.2.2.2.1 h.2.2.2.2.2 q cs.length c h.1 h.2.1 h.2.2.1 h.2.2.2.1 h.2.2.2.2.1 h.2.2.2.2.2 q' cs.length c' H K = K true H') ∧ Old H.length H H' := by
  obtain ⟨H1, hH1⟩ : ∃ H1, H1 = H ++ [some (⟨hd6 h.1 h.2.1 h.2.2.1 h.2.2.2.1 h.2.2.2.2.1 h.2.2.2.2.2 q cs.length c, false, 0⟩ : Blk)] := ⟨_, rfl⟩
  have o1 : Old H.length H H1 := hH1 ▸ Old.app _ _
  have O1 : Owns H1 H.length (hd6 h.1 h.2.1 h.2.2.1 h.2.2.2.1 h.2.2.2.2.1 h.2.2.2.2.2 q cs.length c) 0 := by rw [hH1]; exact hblk_new H _
  have l1 : H1.length = H.length + 1 := by rw [hH1]; simp
  obtain ⟨H2, hH2⟩ : ∃ H2, H2 = H1 ++ [some (⟨hd6 h.1 h.2.1 h.2.2.1 h.2.2.2.1 h.2.2.2.2.1 h.2.2.2.2.2 q' cs.length c', false, 0⟩ : Blk)] := ⟨_, rfl⟩
  have o2 : Old H1.length H1 H2 := hH2 ▸ Old.app _ _
  have O2 : Owns H2 H1.length (hd6 h.1 h.2.1 h.2.2.1 h.2.2.2.1 h.2.2.2.2.1 h.2.2.2.2.2 q' cs.length c') 0 := by rw [hH2]; exact hblk_new H1 _
  have A := at7 (O1.old o2 (by omega))
  have B := at7 O2
  have o02 : Old H.length H H2 := o1.trans (o2.mono (by omega))
  refine ⟨H2, fun R K => ?_, o02⟩
  unfold R23_SameHeader R23_SameHeader_b R23_SameHeader_p0 R23_SameHeader_p0_b
  refine go_halN hH1 (go_halN hH2 (go_fad (go_ip A.m0 (go_ip A.m1 (go_ip A.m2 (go_ip A.m3 (go_fad (go_ip B.m0 (go_ip B.m1 (go_ip B.m2 (go_ip B.m3 (go_f (by simp) ?_))))))))))))
  refine go_fad (go_i A.m4 (go_fad (go_i B.m4 (go_ne (go_fad (go_i A.m5 (go_fad (go_i B.m5 (go_ne (go_fad (go_l A.m6 (go_fad (go_l B.m6 (go_ne ?_))))))))))))))
  exact shd_l k hl A.m6 B.m6 (P.keep o02) (P'.keep o02) cs.length k 0 (by omega) (by omega) _ _ _
theorem sim_l (k : Nat) (hk : 100000 < k) {H : Heap} {b b' : Nat} {q q' : Option Addr} {c c' : Nat} {ps ps' : List Pn} (hl : ps.length ≤ 1000) (hd : ∀ p ∈ ps, p.2.2.2.length ≤ 100000) (m7 : hcell H b 7 = some (.slice q ps.length c)) (m7' : hcell H b' 7 = some (.slice q' ps'.length c')) (P : PlnS H q ps) (P' : PlnS H q' ps') (he : ps.map pcon = ps'.map pcon) : ∀ (m n i : Nat), m < n → ps.length = i + m → ∀ (R : Type) (KE : Unit → Option R) (KR : Bool → Option R),
    L_sameImage_l1 k KE KR n (some ⟨b, 0, none⟩) (some ⟨b', 0, none⟩) ((ps.length : Nat) : Int) (i : Int) H = KE () := by
  intro m
  induction m with
  | zero =>
    intro n i hn hj R KE KR
    obtain ⟨n, rfl⟩ : ∃ n', n = n' + 1 := ⟨n - 1, by omega⟩
    unfold L_sameImage_l1 L_sameImage_l1_b
    exact go_f (decide_eq_false (by omega)) rfl
  | succ m ih =>
    intro n i hn hj R KE KR
    obtain ⟨n, rfl⟩ : ∃ n', n = n' + 1 := ⟨n - 1, by omega⟩
    have hll : ps.length = ps'.length := by have := congrArg List.length he; simpa using this
    obtain ⟨p, hx⟩ := ex_get (l := ps) (i := i) (by omega)
    obtain ⟨p', hx'⟩ := ex_get (l := ps') (i := i) (by omega)
    have hpp : pcon p = pcon p' := by
      have := congrArg (fun l => l[i]?) he
      simp only [List.getElem?_map, hx, hx', Option.map_some, Option.some.injEq] at this
      exact this
    have hr : p'.1 = p.1 := (Prod.mk.inj hpp).1.symm
    have hdd : p'.2.2.2 = p.2.2.2 := (Prod.mk.inj hpp).2.symm
    obtain ⟨bb, oo, e1, m0, m1, m2, m3, m4⟩ := pl_at P hx
    obtain ⟨bb', oo', e1', m0', m1', m2', m3', m4'⟩ := pl_at P' hx'
    rw [hr] at m0' m1' m2' m3'
    rw [hdd] at m4'
    have hm := List.mem_of_getElem? hx
    have w' := P'.w p' (List.mem_of_getElem? hx')
    rw [hdd] at w'
    unfold L_sameImage_l1 L_sameImage_l1_b L_sameImage_p2 L_sameImage_p2_b
    refine go_t (decide_eq_true (by omega)) (go_fad (go_l m7 ((e1 _ _).trans (go_fad (go_ip m0 (go_ip m1 (go_ip m2 (go_ip m3 ?_))))))))
    refine go_fad (go_l m7' ((e1' _ _).trans (go_fad (go_ip m0' (go_ip m1' (go_ip m2' (go_ip m3' (go_f (by simp) ?_))))))))
    refine go_fad (go_l m7 ((e1 _ _).trans (go_fad (go_l m4 (go_fad (go_l m7' ((e1' _ _).trans (go_fad (go_l m4' ((same_true _ _ (P.w p hm) w' (by have := hd p hm; omega) (by have := hd p hm; omega) _ _).trans (go_f rfl ?_)))))))))))
    try dsimp only
    rw [w64 (n := (i : Int) + 1) (by omega) (by omega)]
    exact ih n (i + 1) (by omega) (by omega) R KE KR
theorem sameImage_true {k : Nat} (hk : 100000 < k) {H : Heap} {q q2 q' q2' : Option Addr} {cs : List Cm} {ps ps' : List Pn} (h : H6) (c c2 c' c2' : Nat) (hC : Shows H q (cs.flatMap cmc)) (hC' : Shows H q' (cs.flatMap cmc)) (P : PlnS H q2 ps) (P' : PlnS H q2' ps') (he : ps.map pcon = ps'.map pcon) (hcl : cs.length ≤ 1000) (hl : ps.length ≤ 1000) (hd : ∀ p ∈ ps, p.2.2.2.length ≤ 100000) :
    ∃ H', (∀ (R : Type) (K : Bool → Heap → Option R), L_sameImage k h.1 h.2.1 h.2.2.1 h.2.2.2.1 h.2.2.2.2.1 h.2.2.2.2.2 q cs.length c q2 ps.length c2 h.1 h.2.1 h.2.2.1 h.2.2.2.1 h.2.2.2.2.1 h.2.2.2.2.2 q' cs.length c' q2' ps'.length c2' H K = K true H') ∧ Old H.length H H' := by
  have hll : ps.length = ps'.length := by have := congrArg List.length he; simpa using this
  obtain ⟨H1, hH1⟩ : ∃ H1, H1 = H ++ [some (⟨img8 h q cs.length c q2 ps.length c2, false, 0⟩ : Blk)] := ⟨_, rfl⟩
  have o1 : Old H.length H H1 := hH1 ▸ Old.app _ _
  have O1 : Owns H1 H.length (img8 h q cs.length c q2 ps.length c2) 0 := by rw [hH1]; exact hblk_new H _
  have l1 : H1.length = H.length + 1 := by rw [hH1]; simp
  obtain ⟨H2, hH2⟩ : ∃ H2, H2 = H1 ++ [some (⟨img8 h q' cs.length c' q2' ps'.length c2', false, 0⟩ : Blk)] := ⟨_, rfl⟩
  have o2 : Old H1.length H1 H2 := hH2 ▸ Old.app _ _
  have O2 : Owns H2 H1.length (img8 h q' cs.length c' q2' ps'.length c2') 0 := by rw [hH2]; exact hblk_new H1 _
  have l2 : H2.length = H1.length + 1 := by rw [hH2]; simp
  have o02 : Old H.length H H2 := o1.trans (o2.mono (by omega))
  have A := at8 (O1.old o2 (by omega))
  have B := at8 O2
  obtain ⟨H3, e3, o3⟩ := shd_true (k := k) (by omega) h c c' (hC.keep o02) (hC'.keep o02) hcl
  have A3 := A.old o3 (by omega)
  have B3 := B.old o3 (by omega)
  have o03 : Old H.length H H3 := o02.trans (o3.mono (by omega))
  refine ⟨H3, fun R K => ?_, o03⟩
  unfold L_sameImage L_sameImage_b L_sameImage_p0 L_sameImage_p0_b
  refine go_halN hH1 (go_halN hH2 (go_fad (go_ip A.m0 (go_ip A.m1 (go_ip A.m2 (go_ip A.m3 (go_ip A.m4 (go_ip A.m5 (go_lp A.m6 ?_)))))))))
  refine go_fad (go_ip B.m0 (go_ip B.m1 (go_ip B.m2 (go_ip B.m3 (go_ip B.m4 (go_ip B.m5 (go_lp B.m6 ((e3 _ _).trans (go_f rfl ?_)))))))))
  refine go_fad (go_l A3.m7 (go_fad (go_l B3.m7 (go_f (bne_eq_false_iff_eq.2 (by omega)) (go_fad (go_l A3.m7 ?_))))))
  exact sim_l k hk hl hd A3.m7 B3.m7 (P.keep o03) (P'.keep o03) he ps.length k 0 (by omega) (by omega) _ _ _
theorem expO_small {h : H6} {s : Int} {rs : List Int} {rows : List Rw} {cs : List Cm} {ps : List Pn} (hr : rs.length ≤ 1000) (hcl : cs.length ≤ 1000) (hl : ps.length ≤ 1000) (hd : ∀ p ∈ ps, p.2.2.2.length ≤ 100000) {e : Int} {h' : H6} {cs' : List Cm} {ps' : List Pn} (hr5 : expO h s rs rows cs (ps.map pcon) = (e, h', cs', ps'.map pcon)) : cs'.length ≤ 1000 ∧ ps'.length ≤ 1000 ∧ ∀ p ∈ ps', p.2.2.2.length ≤ 100000 := by
  have key : ∀ (cs' : List Cm) (pl : List Pc), (∃ e h', expO h s rs rows cs (ps.map pcon) = (e, h', cs', pl)) → cs'.length ≤ 1000 ∧ pl.length ≤ 1000 ∧ ∀ p ∈ pl, p.2.length ≤ 100000 := by
    intro cs' pl ⟨e, h', hx⟩
    have n : ∀ {e1 : Int}, (e1, z6, ([] : List Cm), ([] : List Pc)) = (e, h', cs', pl) → cs'.length ≤ 1000 ∧ pl.length ≤ 1000 ∧ ∀ p ∈ pl, p.2.length ≤ 100000 := fun hx => by
      simp only [Prod.mk.injEq] at hx
      obtain ⟨_, _, rfl, rfl⟩ := hx
      exact ⟨by simp, by simp, fun p hp => by cases hp⟩
    have i : ((0 : Int), h, cs, ps.map pcon) = (e, h', cs', pl) → cs'.length ≤ 1000 ∧ pl.length ≤ 1000 ∧ ∀ p ∈ pl, p.2.length ≤ 100000 := fun hx => by
      simp only [Prod.mk.injEq] at hx
      obtain ⟨_, _, rfl, rfl⟩ := hx
      refine ⟨hcl, by rw [List.length_map]; exact hl, fun p hp => ?_⟩
      obtain ⟨p', hp', rfl⟩ := List.mem_map.1 hp
      exact hd p' hp'
    unfold expO at hx
    split at hx
    · exact n hx
    split at hx
    · exact n hx
    split at hx
    · exact i hx
    split at hx
    · rename_i p _ hps _ _
      split at hx
      · simp only [Prod.mk.injEq] at hx
        obtain ⟨_, _, rfl, rfl⟩ := hx
        refine ⟨by rw [outC_len]; exact hr, by rw [outP_len]; exact hr, fun p1 hp1 => ?_⟩
        unfold outP at hp1
        obtain ⟨j, _, rfl⟩ := List.mem_map.1 hp1
        rw [List.length_map]
        have hm : p ∈ ps.map pcon := by rw [hps]; exact List.mem_cons_self ..
        obtain ⟨p', hp', rfl⟩ := List.mem_map.1 hm
        exact hd p' hp'
      · exact n hx
    · exact i hx
  obtain ⟨h1, h2, h3⟩ := key _ _ ⟨_, _, hr5⟩
  exact ⟨h1, by rwa [List.length_map] at h2, fun p hp => h3 _ (List.mem_map.2 ⟨p, hp, rfl⟩)⟩
end Go.Proofs.Ytkjcjlembepdkaa.Sh
