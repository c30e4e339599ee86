/- CsRestores: Cs. -/
import Derived.Test.YtkjcjlembepdkaaSh0
import Derived.Test.YtkjcjlembepdkaaSh1
import Derived.Test.YtkjcjlembepdkaaFwY
import Derived.Test.YtkjcjlembepdkaaFwO
import Derived.IntWalk
import Derived.Test.YtkjcjlembepdkaaSh4
import Derived.Test.YtkjcjlembepdkaaSh2
import Derived.Test.YtkjcjlembepdkaaSh3
import Derived.Test.YtkjcjlembepdkaaSh6
import Derived.Test.YtkjcjlembepdkaaSh5
import Derived.Test.YtkjcjlembepdkaaSh9
import Derived.Test.YtkjcjlembepdkaaSh14
import Derived.Test.YtkjcjlembepdkaaSh10
import Derived.Test.YtkjcjlembepdkaaSh15
/- Colorspec: numbers within bounds, how many are not 0, the depth of a palette. -/
set_option linter.unusedVariables false
set_option linter.unusedSimpArgs false
namespace Go.Proofs.Ytkjcjlembepdkaa.Sh
open Go.Proofs.Ytkjcjlembepdkaa.FW
theorem wf_64 {a : Int} (h : (Lit.int .i64 a).wf = true) : -9223372036854775808 ≤ a ∧ a ≤ 9223372036854775807 := by
  simp only [Lit.wf, IntKind.min, IntKind.max, IntKind.signed, IntKind.bits, Bool.and_eq_true, decide_eq_true_eq, if_true] at h
  exact ⟨by omega, by omega⟩
theorem w64 {n : Int} (h0 : -9223372036854775808 ≤ n) (h1 : n ≤ 9223372036854775807) : IntKind.wrap .i64 n = n := IntWalk.i64_in n ⟨h0, h1⟩
def ints (l : List Int) : List Value := l.map (.int .i64)
theorem ints_len (l : List Int) : (ints l).length = l.length := by simp [ints]
theorem ints_get {l : List Int} {i : Nat} {x : Int} (h : l[i]? = some x) : (ints l)[i]? = some (.int .i64 x) := by simp [ints, h]
theorem int_at {H : Heap} {q : Option Addr} {xs : List Int} (h : Shows H q (ints xs)) {i : Nat} {x : Int} (hi : xs[i]? = some x) :
    ∃ p, (∀ (R : Type) (K : Option Addr → Option R), hidx q xs.length (i : Int) 1 K = K p) ∧ ∀ (R : Type) (K : Int → Option R), ldI .i64 H p K = K x := by
  have hlt : i < xs.length := (List.getElem?_eq_some_iff.1 hi).1
  obtain ⟨p, e, _, m⟩ := h.idx (l := xs.length) (size := 1) (by rw [ints_len]; omega) (i := (i : Int)) (by omega) (by omega) (by omega)
  exact ⟨p, e, fun R K => ldI_of (m _ (by rw [Int.toNat_natCast, Nat.mul_one]; exact ints_get hi)) rfl K⟩
theorem drop_cons {α : Type} {l : List α} {i : Nat} {x : α} (h : l[i]? = some x) : l.drop i = x :: l.drop (i + 1) := by
  obtain ⟨h1, h2⟩ := List.getElem?_eq_some_iff.1 h
  rw [List.drop_eq_getElem_cons h1, h2]
theorem take_snoc {α : Type} {l : List α} {i : Nat} {x : α} (h : l[i]? = some x) : l.take (i + 1) = l.take i ++ [x] := by rw [List.take_add_one, h]; rfl
theorem ex_get {α : Type} {l : List α} {i : Nat} (h : i < l.length) : ∃ x, l[i]? = some x := ⟨_, List.getElem?_eq_getElem h⟩
def inB (lo hi : Int) (xs : List Int) : Bool := xs.all fun x => decide (lo ≤ x ∧ x ≤ hi)
theorem within_l (k : Nat) (lo hi : Int) {H : Heap} {q : Option Addr} {xs : List Int} (c : Nat) (h : Shows H q (ints xs)) (hl : xs.length < 1000000) : ∀ (m n i : Nat), m < n → xs.length = i + m → ∀ (R : Type) (KE : Unit → Option R) (KR : Bool → Option R),
    colorspec_within_l0 k KE KR n lo hi q xs.length c ((xs.length : Nat) : Int) (i : Int) H = bif inB lo hi (xs.drop i) then KE () else KR false := by
  intro m
  induction m with
  | zero =>
    intro n i hn hj R KE KR
    obtain ⟨n, rfl⟩ : ∃ n', n = n' + 1 := ⟨n - 1, by omega⟩
    unfold colorspec_within_l0 colorspec_within_l0_b
    rw [List.drop_eq_nil_of_le (by omega)]
    exact go_f (decide_eq_false (by omega)) rfl
  | succ m ih =>
    intro n i hn hj R KE KR
    obtain ⟨n, rfl⟩ : ∃ n', n = n' + 1 := ⟨n - 1, by omega⟩
    obtain ⟨x, hx⟩ := ex_get (l := xs) (i := i) (by omega)
    obtain ⟨p, e1, e2⟩ := int_at h hx
    rw [drop_cons hx]
    unfold colorspec_within_l0 colorspec_within_l0_b colorspec_within_p1 colorspec_within_p1_b
    refine go_t (decide_eq_true (by omega)) ((e1 _ _).trans ((e2 _ _).trans ?_))
    show _ = bif (decide (lo ≤ x ∧ x ≤ hi) && inB lo hi (xs.drop (i + 1))) then _ else _
    by_cases h1 : x < lo
    · rw [show decide (lo ≤ x ∧ x ≤ hi) = false from decide_eq_false (by omega)]
      exact go_t (decide_eq_true h1) rfl
    · refine go_f (decide_eq_false h1) ?_
      by_cases h2 : x > hi
      · rw [show decide (lo ≤ x ∧ x ≤ hi) = false from decide_eq_false (by omega)]
        exact go_t (decide_eq_true h2) rfl
      · refine go_f (decide_eq_false h2) ?_
        rw [show decide (lo ≤ x ∧ x ≤ hi) = true from decide_eq_true (by omega), Bool.true_and]
        dsimp only
        rw [w64 (n := (i : Int) + 1) (by omega) (by omega)]
        exact ih n (i + 1) (by omega) (by omega) R KE KR
theorem within_eq {k : Nat} (lo hi : Int) {H : Heap} {q : Option Addr} {xs : List Int} (c : Nat) (h : Shows H q (ints xs)) (hl : xs.length < 1000000) (hk : xs.length < k) (R : Type) (K : Bool → Option R) : colorspec_within k lo hi q xs.length c H K = K (inB lo hi xs) := by
  have := within_l k lo hi c h hl xs.length k 0 hk (by omega) R (fun _ => K true) K
  rw [List.drop_zero] at this
  unfold colorspec_within colorspec_within_b
  refine Eq.trans this ?_
  cases inB lo hi xs <;> rfl
/-- The color spaces. -/
def kn (s : Int) : Bool := decide (1 ≤ s ∧ s ≤ 4)
theorem known_eq (s : Int) (R : Type) (K : Bool → Option R) : colorspec_known s K = K (kn s) := by
  unfold colorspec_known colorspec_known_b kn
  by_cases h : s ≥ 1
  · refine go_t (decide_eq_true h) ?_
    congr 1
    by_cases h2 : s ≤ 4
    · rw [decide_eq_true h2, decide_eq_true ⟨by omega, h2⟩]
    · rw [decide_eq_false h2, decide_eq_false (by omega)]
  · refine go_f (decide_eq_false h) ?_
    rw [decide_eq_false (by omega)]
def chan (s : Int) : Int := if s = 1 then 1 else if s = 2 ∨ s = 3 then 3 else 0
theorem chan_eq (s : Int) (R : Type) (K : Int → Option R) : colorspec_Channels s K = K (chan s) := by
  unfold colorspec_Channels colorspec_Channels_b chan
  by_cases h1 : s = 1
  · subst h1; rfl
  by_cases h2 : s = 2
  · subst h2; rfl
  by_cases h3 : s = 3
  · subst h3; rfl
  rw [if_neg h1, if_neg (by omega)]
  rw [show (s == 1) = false from beq_eq_false_iff_ne.2 h1, show (s == 2) = false from beq_eq_false_iff_ne.2 h2, show (s == 3) = false from beq_eq_false_iff_ne.2 h3]
  rfl
def dep (n : Nat) : Int := if n = 2 then 1 else if n = 4 then 2 else if n = 8 then 3 else if n = 16 then 4 else if n = 32 then 5 else if n = 64 then 6 else if n = 128 then 7 else if n = 256 then 8 else 0
theorem shl1 (d : Nat) (hd : d ≤ 8) (R : Type) (K : Int → Option R) : hbin .shl .i64 1 (IntKind.wrap .u64 (d : Int)) K = K ((2 ^ d : Nat) : Int) := by
  have h : d = 0 ∨ d = 1 ∨ d = 2 ∨ d = 3 ∨ d = 4 ∨ d = 5 ∨ d = 6 ∨ d = 7 ∨ d = 8 := by omega
  rcases h with rfl | rfl | rfl | rfl | rfl | rfl | rfl | rfl | rfl <;> rfl
theorem depth_l (k : Nat) (q : Option Addr) (l c : Nat) : ∀ (m n d : Nat), m < n → 9 = d + m → 1 ≤ d → (∀ d', 1 ≤ d' → d' < d → l ≠ 2 ^ d') → ∀ (R : Type) (KE : Unit → Option R) (KR : Int → Option R), (∀ u, KE u = KR 0) →
    colorspec_depth_l0 k KE KR n q l c (d : Int) = KR (dep l) := by
  intro m
  induction m with
  | zero =>
    intro n d hn hd h1 hno R KE KR hK
    obtain ⟨n, rfl⟩ : ∃ n', n = n' + 1 := ⟨n - 1, by omega⟩
    unfold colorspec_depth_l0 colorspec_depth_l0_b
    refine go_f (decide_eq_false (by omega)) ((hK ()).trans ?_)
    have a1 := hno 1 (by omega) (by omega)
    have a2 := hno 2 (by omega) (by omega)
    have a3 := hno 3 (by omega) (by omega)
    have a4 := hno 4 (by omega) (by omega)
    have a5 := hno 5 (by omega) (by omega)
    have a6 := hno 6 (by omega) (by omega)
    have a7 := hno 7 (by omega) (by omega)
    have a8 := hno 8 (by omega) (by omega)
    unfold dep
    rw [if_neg a1, if_neg a2, if_neg a3, if_neg a4, if_neg a5, if_neg a6, if_neg a7, if_neg a8]
  | succ m ih =>
    intro n d hn hd h1 hno R KE KR hK
    obtain ⟨n, rfl⟩ : ∃ n', n = n' + 1 := ⟨n - 1, by omega⟩
    unfold colorspec_depth_l0 colorspec_depth_l0_b
    refine go_t (decide_eq_true (by omega)) ((shl1 d (by omega) _ _).trans ?_)
    by_cases hl : l = 2 ^ d
    · refine go_t (by rw [hl]; exact beq_self_eq_true _) ?_
      subst hl
      have h : d = 1 ∨ d = 2 ∨ d = 3 ∨ d = 4 ∨ d = 5 ∨ d = 6 ∨ d = 7 ∨ d = 8 := by omega
      rcases h with rfl | rfl | rfl | rfl | rfl | rfl | rfl | rfl <;> rfl
    · refine go_f (by rw [beq_eq_false_iff_ne]; omega) ?_
      rw [w64 (n := (d : Int) + 1) (by omega) (by omega)]
      exact ih n (d + 1) (by omega) (by omega) (by omega) (fun d' h2 h3 => by
        by_cases hd : d' = d
        · subst hd; exact hl
        · exact hno d' h2 (by omega)) R KE KR hK
theorem depth_eq {k : Nat} (hk : 10 < k) (q : Option Addr) (l c : Nat) (R : Type) (K : Int → Option R) : colorspec_depth k q l c K = K (dep l) := by
  unfold colorspec_depth colorspec_depth_b
  exact depth_l k q l c 8 k 1 (by omega) rfl (by omega) (fun d' h1 h2 => by omega) R _ _ (fun _ => rfl)
end Go.Proofs.Ytkjcjlembepdkaa.Sh
/- Colorspec: sorting a few numbers, and whether two of them are alike. -/
set_option linter.unusedVariables false
set_option linter.unusedSimpArgs false
namespace Go.Proofs.Ytkjcjlembepdkaa.Sh
open Go.Proofs.Ytkjcjlembepdkaa.FW
/-- A row of numbers of one's own. -/
def iv (f : Nat → Int) : Nat → Value := fun i => .int .i64 (f i)
def up (f : Nat → Int) (i : Nat) (x : Int) : Nat → Int := fun j => if j = i then x else f j
theorem iv_up (f : Nat → Int) (i : Nat) (x : Int) : (fun j => if j = i then Value.int .i64 x else iv f j) = iv (up f i x) := by
  funext j; unfold iv up; split <;> rfl
def Oi (H : Heap) (b n : Nat) (f : Nat → Int) : Prop := ∃ z, Owns H b (vcells n (iv f)) z
theorem Oi.ld {H : Heap} {b n : Nat} {f : Nat → Int} (h : Oi H b n f) {i : Nat} (hi : i < n) (R : Type) (K : Int → Option R) : ldI .i64 H (some ⟨b, i, none⟩) K = K (f i) := by
  obtain ⟨z, h⟩ := h
  exact ldI_of (show pcell H (some ⟨b, i, none⟩) = some (.int .i64 (f i)) from (h.sees.cell i).trans (vcells_get n _ hi)) rfl K
theorem Oi.put {H : Heap} {b n : Nat} {f : Nat → Int} (h : Oi H b n f) {i : Nat} (hi : i < n) (x : Int) :
    ∃ H', (∀ (R : Type) (K : Heap → Option R), hst1 H (some ⟨b, i, none⟩) (.int .i64 x) K = K H') ∧ Oi H' b n (up f i x) ∧ But b H H' ∧ H'.length = H.length := by
  obtain ⟨z, h⟩ := h
  obtain ⟨H', e, o, l, s⟩ := hst1_own (o := i) h (by rw [vcells_len]; exact hi) (.int .i64 x)
  rw [vcells_set n _ hi, iv_up] at o
  exact ⟨H', e, ⟨z, o⟩, ⟨by omega, fun i _ hne => s i hne⟩, l⟩
theorem Oi.lt {H : Heap} {b n : Nat} {f : Nat → Int} (h : Oi H b n f) : b < H.length := by obtain ⟨z, h⟩ := h; exact h.lt
theorem Oi.of {H : Heap} {b z : Nat} {xs : List Int} (h : Owns H b (ints xs) z) : Oi H b xs.length fun i => xs.getD i 0 := by
  refine ⟨z, ?_⟩
  have : vcells xs.length (iv fun i => xs.getD i 0) = ints xs := by
    apply List.ext_getElem?
    intro i
    by_cases hi : i < xs.length
    · rw [vcells_get _ _ hi]; simp [iv, ints, hi]
    · rw [List.getElem?_eq_none (by rw [vcells_len]; omega), List.getElem?_eq_none (by rw [ints_len]; omega)]
  rw [this]; exact h
theorem hx1 (b l : Nat) {n : Int} {i : Nat} (hn : n = i) (hi : i < l) (R : Type) (K : Option Addr → Option R) : hidx (some ⟨b, 0, none⟩) l n 1 K = K (some ⟨b, i, none⟩) := by
  subst hn
  rw [hidx_1 b l 0 (i : Int) (by omega) (by omega)]
  simp
theorem less_eq (a b : Int) (R : Type) (K : Bool → Option R) : cmp_Less_int_ a b K = K (decide (a < b)) := by
  unfold cmp_Less_int_ cmp_Less_int__b cmp_isNaN_int_ cmp_isNaN_int__b
  exact go_ne rfl
/-- The sort's inner loop. -/
def ins : Nat → (Nat → Int) → (Nat → Int)
  | 0, f => f
  | j + 1, f => if f (j + 1) < f j then ins j (up (up f (j + 1) (f j)) j (f (j + 1))) else f
theorem ins_l (k : Nat) (b l c : Nat) (hl : l ≤ 1000000) (lo hi : Int) (ix : Int) (hlo : lo = 0) : ∀ (j n : Nat), j < n → j < l → ∀ (H : Heap) (f : Nat → Int), Oi H b l f →
    ∃ H', (∀ (R : Type) (KE : Option Addr → Nat → Nat → Int → Int → Int → Heap → Option R), slices_insertionSortOrdered_int__l1 k KE n (some ⟨b, 0, none⟩) l c lo hi ix (j : Int) H = KE (some ⟨b, 0, none⟩) l c lo hi ix H') ∧ Oi H' b l (ins j f) ∧ But b H H' ∧ H'.length = H.length := by
  intro j
  induction j with
  | zero =>
    intro n hn hj H f O
    obtain ⟨n, rfl⟩ : ∃ n', n = n' + 1 := ⟨n - 1, by omega⟩
    refine ⟨H, fun R KE => ?_, O, .refl _ _, rfl⟩
    unfold slices_insertionSortOrdered_int__l1 slices_insertionSortOrdered_int__l1_b slices_insertionSortOrdered_int__p2 slices_insertionSortOrdered_int__p2_b
    exact go_f (decide_eq_false (by omega)) rfl
  | succ j ih =>
    intro n hn hj H f O
    obtain ⟨n, rfl⟩ : ∃ n', n = n' + 1 := ⟨n - 1, by omega⟩
    have e1 : IntKind.wrap .i64 (((j + 1 : Nat) : Int) - 1) = ((j : Nat) : Int) := by rw [w64 (by omega) (by omega)]; omega
    by_cases hlt : f (j + 1) < f j
    · obtain ⟨H1, p1, O1, b1, n1⟩ := O.put (i := j + 1) hj (f j)
      obtain ⟨H2, p2, O2, b2, n2⟩ := O1.put (i := j) (by omega) (f (j + 1))
      obtain ⟨H3, e3, O3, b3, n3⟩ := ih n (by omega) (by omega) H2 _ O2
      have hins : ins (j + 1) f = ins j (up (up f (j + 1) (f j)) j (f (j + 1))) := by rw [ins, if_pos hlt]
      rw [hins]
      refine ⟨H3, fun R KE => ?_, O3, (b1.trans b2).trans b3, by omega⟩
      unfold slices_insertionSortOrdered_int__l1 slices_insertionSortOrdered_int__l1_b slices_insertionSortOrdered_int__p2 slices_insertionSortOrdered_int__p2_b
      refine go_t (decide_eq_true (by omega)) ?_
      rw [e1]
      refine (hx1 b l rfl hj _ _).trans ((O.ld hj _ _).trans ((hx1 b l rfl (by omega) _ _).trans ((O.ld (by omega) _ _).trans ((less_eq _ _ _ _).trans (go_t (decide_eq_true hlt) ?_)))))
      dsimp only
      rw [e1]
      refine (hx1 b l rfl (by omega) _ _).trans ((O.ld (by omega) _ _).trans ((hx1 b l rfl hj _ _).trans ((O.ld hj _ _).trans ((hx1 b l rfl hj _ _).trans ((p1 _ _).trans ((hx1 b l rfl (by omega) _ _).trans ((p2 _ _).trans ?_)))))))
      exact e3 R KE
    · have hins : ins (j + 1) f = f := by rw [ins, if_neg hlt]
      rw [hins]
      refine ⟨H, fun R KE => ?_, O, .refl _ _, rfl⟩
      unfold slices_insertionSortOrdered_int__l1 slices_insertionSortOrdered_int__l1_b slices_insertionSortOrdered_int__p2 slices_insertionSortOrdered_int__p2_b
      refine go_t (decide_eq_true (by omega)) ?_
      rw [e1]
      exact (hx1 b l rfl hj _ _).trans ((O.ld hj _ _).trans ((hx1 b l rfl (by omega) _ _).trans ((O.ld (by omega) _ _).trans ((less_eq _ _ _ _).trans (go_f (decide_eq_false hlt) rfl)))))
/-- The sort. -/
def srt : Nat → Nat → (Nat → Int) → (Nat → Int)
  | 0, _, f => f
  | m + 1, i, f => srt m (i + 1) (ins i f)
theorem srt_l (k : Nat) (b l c : Nat) (hl : l ≤ 1000000) (hk : l < k) : ∀ (m n i : Nat), m < n → l = i + m → ∀ (H : Heap) (f : Nat → Int), Oi H b l f →
    ∃ H', (∀ (R : Type) (KE : Heap → Option R), slices_insertionSortOrdered_int__l0 k KE n (some ⟨b, 0, none⟩) l c 0 (l : Int) (i : Int) H = KE H') ∧ Oi H' b l (srt m i f) ∧ But b H H' ∧ H'.length = H.length := by
  intro m
  induction m with
  | zero =>
    intro n i hn hi H f O
    obtain ⟨n, rfl⟩ : ∃ n', n = n' + 1 := ⟨n - 1, by omega⟩
    refine ⟨H, fun R KE => ?_, O, .refl _ _, rfl⟩
    unfold slices_insertionSortOrdered_int__l0 slices_insertionSortOrdered_int__l0_b
    exact go_f (decide_eq_false (by omega)) rfl
  | succ m ih =>
    intro n i hn hi H f O
    obtain ⟨n, rfl⟩ : ∃ n', n = n' + 1 := ⟨n - 1, by omega⟩
    obtain ⟨H1, e1, O1, b1, n1⟩ := ins_l k b l c hl 0 (l : Int) (i : Int) rfl i k (by omega) (by omega) H f O
    obtain ⟨H2, e2, O2, b2, n2⟩ := ih n (i + 1) (by omega) (by omega) H1 _ O1
    refine ⟨H2, fun R KE => ?_, O2, b1.trans b2, by omega⟩
    unfold slices_insertionSortOrdered_int__l0 slices_insertionSortOrdered_int__l0_b
    refine go_t (decide_eq_true (by omega)) ((e1 _ _).trans ?_)
    try dsimp only
    rw [w64 (n := (i : Int) + 1) (by omega) (by omega)]
    exact e2 R KE
/-- Two alike, below a bound. -/
def Dup (n : Nat) (f : Nat → Int) : Prop := ∃ i j, i < n ∧ j < n ∧ i ≠ j ∧ f i = f j
def tw (j i : Nat) : Nat := if i = j then j + 1 else if i = j + 1 then j else i
theorem tw_lt {n j i : Nat} (hj : j + 1 < n) (hi : i < n) : tw j i < n := by unfold tw; split <;> (try split) <;> omega
theorem tw_ne {j a b : Nat} (h : a ≠ b) : tw j a ≠ tw j b := by
  unfold tw; split <;> (try split) <;> (try split) <;> (try split) <;> omega
theorem tw_tw (j i : Nat) : tw j (tw j i) = i := by
  unfold tw
  by_cases h1 : i = j
  · subst h1; simp
  · by_cases h2 : i = j + 1
    · subst h2; simp
    · rw [if_neg h1, if_neg h2, if_neg h1, if_neg h2]
theorem up_tw (f : Nat → Int) (j i : Nat) : up (up f (j + 1) (f j)) j (f (j + 1)) i = f (tw j i) := by
  unfold up tw
  split
  · rfl
  · split <;> rfl
theorem dup_swap {n j : Nat} {f : Nat → Int} (hj : j + 1 < n) : Dup n (up (up f (j + 1) (f j)) j (f (j + 1))) ↔ Dup n f := by
  constructor
  · rintro ⟨a, b, ha, hb, hab, he⟩
    rw [up_tw, up_tw] at he
    exact ⟨tw j a, tw j b, tw_lt hj ha, tw_lt hj hb, tw_ne hab, he⟩
  · rintro ⟨a, b, ha, hb, hab, he⟩
    refine ⟨tw j a, tw j b, tw_lt hj ha, tw_lt hj hb, tw_ne hab, ?_⟩
    rw [up_tw, up_tw, tw_tw, tw_tw]; exact he
theorem dup_ins {n : Nat} : ∀ (j : Nat) (f : Nat → Int), j < n → (Dup n (ins j f) ↔ Dup n f) := by
  intro j
  induction j with
  | zero => intro f _; exact Iff.rfl
  | succ j ih =>
    intro f hj
    rw [ins]
    split
    · exact (ih _ (by omega)).trans (dup_swap hj)
    · exact Iff.rfl
theorem dup_srt {n : Nat} : ∀ (m i : Nat) (f : Nat → Int), i + m ≤ n → (Dup n (srt m i f) ↔ Dup n f) := by
  intro m
  induction m with
  | zero => intro i f _; exact Iff.rfl
  | succ m ih =>
    intro i f h
    rw [srt]
    exact (ih _ _ (by omega)).trans (dup_ins _ _ (by omega))
/-- Rising, below a bound. -/
def Ris (n : Nat) (f : Nat → Int) : Prop := ∀ a b, a < b → b < n → f a ≤ f b
theorem ins_keep : ∀ (j : Nat) (f : Nat → Int) (i : Nat), j < i → ins j f i = f i := by
  intro j
  induction j with
  | zero => intro f i _; rfl
  | succ j ih =>
    intro f i hi
    rw [ins]
    split
    · rw [ih _ _ (by omega), up_tw]; unfold tw; rw [if_neg (by omega), if_neg (by omega)]
    · rfl
theorem ins_ris : ∀ (j : Nat) (f : Nat → Int), Ris j f → Ris (j + 1) (ins j f) ∧ ∀ x, (∀ a, a ≤ j → f a ≤ x) → ∀ a, a ≤ j → ins j f a ≤ x := by
  intro j
  induction j with
  | zero => intro f _; exact ⟨fun a b h1 h2 => by omega, fun x h a ha => h a ha⟩
  | succ j ih =>
    intro f hf
    rw [ins]
    split
    · rename_i hlt
      have hg : Ris j (up (up f (j + 1) (f j)) j (f (j + 1))) := fun a b h1 h2 => by
        rw [up_tw, up_tw]
        have : tw j a = a := by unfold tw; rw [if_neg (by omega), if_neg (by omega)]
        have h3 : tw j b = b := by unfold tw; rw [if_neg (by omega), if_neg (by omega)]
        rw [this, h3]
        exact hf a b h1 (by omega)
      obtain ⟨g1, g2⟩ := ih _ hg
      have hb : ∀ a, a ≤ j → up (up f (j + 1) (f j)) j (f (j + 1)) a ≤ f j := fun a ha => by
        rw [up_tw]; unfold tw
        split
        · omega
        · rw [if_neg (by omega)]; exact hf a j (by omega) (by omega)
      have htop : ins j (up (up f (j + 1) (f j)) j (f (j + 1))) (j + 1) = f j := by
        rw [ins_keep _ _ _ (by omega), up_tw]; unfold tw; rw [if_neg (by omega), if_pos rfl]
      refine ⟨fun a b h1 h2 => ?_, fun x hx a ha => ?_⟩
      · by_cases hbj : b = j + 1
        · subst hbj; rw [htop]; exact g2 _ hb a (by omega)
        · exact g1 a b h1 (by omega)
      · by_cases haj : a = j + 1
        · subst haj; rw [htop]; exact hx j (by omega)
        · exact Int.le_trans (g2 _ hb a (by omega)) (hx j (by omega))
    · rename_i hlt
      refine ⟨fun a b h1 h2 => ?_, fun x hx a ha => hx a ha⟩
      by_cases hbj : b = j + 1
      · subst hbj
        by_cases haj : a = j
        · subst haj; omega
        · have := hf a j (by omega) (by omega); omega
      · exact hf a b h1 (by omega)
theorem srt_ris : ∀ (m i : Nat) (f : Nat → Int), Ris i f → Ris (i + m) (srt m i f) := by
  intro m
  induction m with
  | zero => intro i f h; exact h
  | succ m ih =>
    intro i f h
    rw [srt, show i + (m + 1) = (i + 1) + m from by omega]
    exact ih _ _ (ins_ris i f h).1
/-- In a rising row two that are alike stand side by side. -/
theorem ris_dup {n : Nat} {f : Nat → Int} (h : Ris n f) : Dup n f ↔ ∃ i, i + 1 < n ∧ f (i + 1) = f i := by
  constructor
  · rintro ⟨a, b, ha, hb, hab, he⟩
    have key : ∀ a b, a < b → b < n → f a = f b → ∃ i, i + 1 < n ∧ f (i + 1) = f i := fun a b h1 h2 he => by
      refine ⟨a, by omega, ?_⟩
      have x1 := h a (a + 1) (by omega) (by omega)
      by_cases hb : b = a + 1
      · subst hb; exact he.symm
      · have x2 := h (a + 1) b (by omega) h2; omega
    rcases Nat.lt_or_gt_of_ne hab with h1 | h1
    · exact key a b h1 hb he
    · exact key b a h1 ha he.symm
  · rintro ⟨i, hi, he⟩
    exact ⟨i, i + 1, by omega, hi, by omega, he.symm⟩
end Go.Proofs.Ytkjcjlembepdkaa.Sh
/- Colorspec: a row is cloned, sorted, made compact. -/
set_option linter.unusedVariables false
set_option linter.unusedSimpArgs false
namespace Go.Proofs.Ytkjcjlembepdkaa.Sh
open Go.Proofs.Ytkjcjlembepdkaa.FW
theorem clone_eq {H : Heap} {q : Option Addr} {xs : List Int} (c : Nat) (h : Shows H q (ints xs)) (h0 : 0 < xs.length) (hl : xs.length ≤ 1000000) :
    ∃ H', (∀ (R : Type) (K : Option Addr → Nat → Nat → Heap → Option R), slices_Clone___int_int_ q xs.length c H K = K (some ⟨H.length + 1, 0, none⟩) xs.length unk H') ∧ Owns H' (H.length + 1) (ints xs) 1 ∧ Old H.length H H' ∧ H'.length = H.length + 2 := by
  have hq : q.isNone = false := by
    rcases h with h | ⟨b, o, full, rfl, _⟩
    · have := congrArg List.length h; rw [ints_len] at this; simp at this; subst this; simp at h0
    · rfl
  obtain ⟨H1, hH1⟩ : ∃ H1, H1 = H ++ [some (⟨[], false, 0⟩ : Blk)] := ⟨_, rfl⟩
  have o1 : Old H.length H H1 := hH1 ▸ Old.app _ _
  have l1 : H1.length = H.length + 1 := by rw [hH1]; simp
  obtain ⟨H2, hH2⟩ : ∃ H2, H2 = H1 ++ [some (⟨ints xs, false, 1⟩ : Blk)] := ⟨_, rfl⟩
  have o2 : Old H1.length H1 H2 := hH2 ▸ Old.app _ _
  refine ⟨H2, fun R K => ?_, ?_, o1.trans (o2.mono (by omega)), by rw [hH2]; simp [l1]⟩
  · unfold slices_Clone___int_int_ slices_Clone___int_int__b
    refine go_f hq (go_halN hH1 ?_)
    have hs := (h.old o1 (by
      rcases h with h | ⟨b, o, full, rfl, h1, _⟩
      · exact .inl h
      · exact .inr fun a ha => by cases ha; exact h1.lt)).hcells
    rw [ints_len] at hs
    unfold happS happ
    rw [Nat.mul_one, hs]
    dsimp only
    have hc : FW.hcells H1 (some ⟨H.length, 0, none⟩) (0 * 1) = some [] := by unfold FW.hcells; rw [if_pos rfl]
    rw [if_neg (by unfold unk; omega), if_neg (by omega), if_pos (by omega), hc, Nat.zero_add]
    show K _ _ _ _ = _
    rw [l1, hH2]; rfl
  · rw [← l1, hH2]; exact hblk_new H1 _
theorem len_ex {l : Nat} (h0 : 0 < l) (h4 : l ≤ 4) (k : Nat) : ∃ n, ∀ (R : Type) (K : Int → Option R), bits_Len k (IntKind.wrap .u64 ((l : Nat) : Int)) K = K n := by
  have h : l = 1 ∨ l = 2 ∨ l = 3 ∨ l = 4 := by omega
  rcases h with rfl | rfl | rfl | rfl
  · exact ⟨1, fun R K => by kernel_rfl⟩
  · exact ⟨2, fun R K => by kernel_rfl⟩
  · exact ⟨2, fun R K => by kernel_rfl⟩
  · exact ⟨3, fun R K => by kernel_rfl⟩
theorem sort_eq {k : Nat} (hk : 100 < k) {H : Heap} {b l : Nat} (c : Nat) {f : Nat → Int} (O : Oi H b l f) (h0 : 0 < l) (h4 : l ≤ 4) :
    ∃ H', (∀ (R : Type) (K : Heap → Option R), slices_Sort___int_int_ k (some ⟨b, 0, none⟩) l c H K = K H') ∧ Oi H' b l (srt (l - 1) 1 f) ∧ But b H H' ∧ H'.length = H.length := by
  obtain ⟨n, en⟩ := len_ex h0 h4 k
  obtain ⟨H1, e1, O1, b1, n1⟩ := srt_l k b l c (by omega) (by omega) (l - 1) k 1 (by omega) (by omega) H f O
  refine ⟨H1, fun R K => ?_, O1, b1, n1⟩
  obtain ⟨k, rfl⟩ : ∃ k', k = k' + 1 := ⟨k - 1, by omega⟩
  unfold slices_Sort___int_int_ slices_Sort___int_int__b
  refine (en _ _).trans ?_
  unfold slices_pdqsortOrdered_int_ slices_pdqsortOrdered_int__b slices_pdqsortOrdered_int__l0 slices_pdqsortOrdered_int__l0_b
  refine go_t (decide_eq_true (by rw [w64 (by omega) (by omega)]; omega)) ?_
  unfold slices_insertionSortOrdered_int_ slices_insertionSortOrdered_int__b
  exact e1 _ _
theorem cmp_l1 (k : Nat) (b l c : Nat) (hl : l ≤ 1000000) (i0 : Nat) (c2 : Nat) (hi0 : i0 < l) : ∀ (m n j : Nat), m < n → l - i0 = j + m → 1 ≤ j → ∀ (H : Heap) (f : Nat → Int) (i : Nat), Oi H b l f → i ≤ i0 + j - 1 → 1 ≤ i →
    ∃ H' f' i', (∀ (R : Type) (KE : Option Addr → Nat → Nat → Int → Heap → Option R), slices_Compact___int_int__l1 k KE n (some ⟨b, 0, none⟩) l c (i : Int) (some ⟨b, i0, none⟩) (l - i0) c2 (j : Int) H = KE (some ⟨b, 0, none⟩) l c ((i' : Nat) : Int) H') ∧ Oi H' b l f' ∧ (i' < l ∧ 1 ≤ i') ∧ But b H H' ∧ H'.length = H.length := by
  intro m
  induction m with
  | zero =>
    intro n j hn hj h1 H f i O hi h1i
    obtain ⟨n, rfl⟩ : ∃ n', n = n' + 1 := ⟨n - 1, by omega⟩
    refine ⟨H, f, i, fun R KE => ?_, O, ⟨by omega, h1i⟩, .refl _ _, rfl⟩
    unfold slices_Compact___int_int__l1 slices_Compact___int_int__l1_b
    exact go_f (decide_eq_false (by omega)) rfl
  | succ m ih =>
    intro n j hn hj h1 H f i O hi h1i
    obtain ⟨n, rfl⟩ : ∃ n', n = n' + 1 := ⟨n - 1, by omega⟩
    have hx : ∀ (t : Nat) (n : Int), n = t → t < l - i0 → ∀ (R : Type) (K : Option Addr → Option R), hidx (some ⟨b, i0, none⟩) (l - i0) n 1 K = K (some ⟨b, i0 + t, none⟩) := by
      intro t n hn ht R K
      subst hn
      rw [hidx_1 b (l - i0) i0 (t : Int) (by omega) (by omega)]
      simp
    have e1 : IntKind.wrap .i64 ((j : Int) - 1) = ((j - 1 : Nat) : Int) := by rw [w64 (by omega) (by omega)]; omega
    by_cases hne : f (i0 + j) = f (i0 + (j - 1))
    · obtain ⟨H3, f3, i3, e3, O3, hi3, b3, n3⟩ := ih n (j + 1) (by omega) (by omega) (by omega) H f i O (by omega) h1i
      refine ⟨H3, f3, i3, fun R KE => ?_, O3, hi3, b3, n3⟩
      unfold slices_Compact___int_int__l1 slices_Compact___int_int__l1_b slices_Compact___int_int__p2 slices_Compact___int_int__p2_b
      refine go_t (decide_eq_true (by omega)) ?_
      rw [e1]
      refine (hx j _ rfl (by omega) _ _).trans ((O.ld (by omega) _ _).trans ((hx (j - 1) _ rfl (by omega) _ _).trans ((O.ld (by omega) _ _).trans (go_f (by rw [hne]; exact bne_self_eq_false' _) ?_))))
      try dsimp only
      rw [w64 (n := (j : Int) + 1) (by omega) (by omega)]
      exact e3 R KE
    · obtain ⟨H1, p1, O1, b1, n1⟩ := O.put (i := i) (by omega) (f (i0 + j))
      obtain ⟨H3, f3, i3, e3, O3, hi3, b3, n3⟩ := ih n (j + 1) (by omega) (by omega) (by omega) H1 _ (i + 1) O1 (by omega) (by omega)
      refine ⟨H3, f3, i3, fun R KE => ?_, O3, hi3, b1.trans b3, by omega⟩
      unfold slices_Compact___int_int__l1 slices_Compact___int_int__l1_b slices_Compact___int_int__p2 slices_Compact___int_int__p2_b
      refine go_t (decide_eq_true (by omega)) ?_
      rw [e1]
      refine (hx j _ rfl (by omega) _ _).trans ((O.ld (by omega) _ _).trans ((hx (j - 1) _ rfl (by omega) _ _).trans ((O.ld (by omega) _ _).trans (go_t (by rw [bne_iff_ne]; exact hne) ?_))))
      refine (hx j _ rfl (by omega) _ _).trans ((O.ld (by omega) _ _).trans ((hx1 b l rfl (by omega) _ _).trans ((p1 _ _).trans ?_)))
      try dsimp only
      rw [w64 (n := (j : Int) + 1) (by omega) (by omega), w64 (n := (i : Int) + 1) (by omega) (by omega)]
      exact e3 R KE
/-- A slice from a place on, of a row whose capacity is not known. -/
theorem slc_lo {b l : Nat} {i : Nat} (hl : l < unk) (h0 : 0 < i) (hi : i < l) (R : Type) (K : Option Addr → Nat → Nat → Option R) : hslc 1 (some ⟨b, 0, none⟩) l unk (some ((i : Nat) : Int)) none none K = K (some ⟨b, i, none⟩) (l - i) unk := by
  unfold hslc
  dsimp only [Option.getD_some, Option.getD_none, Option.isSome_none, Option.isSome_some]
  rw [if_pos ⟨by omega, by omega, by omega, by rw [if_pos rfl]; exact ⟨rfl, .inr ⟨rfl, by omega⟩⟩⟩, if_pos ⟨rfl, rfl⟩, if_neg (by omega), if_pos ⟨by omega, by omega⟩]
  simp
theorem slc_hi {b l : Nat} {i : Nat} (hl : l < unk) (hi : i ≤ l) (R : Type) (K : Option Addr → Nat → Nat → Option R) : hslc 1 (some ⟨b, 0, none⟩) l unk none (some ((i : Nat) : Int)) none K = K (some ⟨b, 0, none⟩) i unk := by
  unfold hslc
  dsimp only [Option.getD_some, Option.getD_none, Option.isSome_none, Option.isSome_some]
  rw [if_pos ⟨by omega, by omega, by omega, by rw [if_pos rfl]; exact ⟨rfl, .inr ⟨rfl, by omega⟩⟩⟩, if_pos ⟨rfl, rfl⟩, if_pos rfl]
  simp
theorem clr_eq {H : Heap} {b l i : Nat} {f : Nat → Int} (O : Oi H b l f) (hi : i ≤ l) : ∃ H', (∀ (R : Type) (K : Heap → Option R), hclr [.int .i64 0] H (some ⟨b, i, none⟩) (l - i) K = K H') ∧ But b H H' ∧ H'.length = H.length := by
  by_cases h0 : l - i = 0
  · exact ⟨H, fun R K => by unfold hclr; rw [if_pos h0], .refl _ _, rfl⟩
  · obtain ⟨z, O⟩ := O
    obtain ⟨H', e, o, n, s⟩ := hst_own (o := i) (vs := mkCells [.int .i64 0] (l - i)) O (by rw [vcells_len, mkCells_v, vcells_len]; omega) (by
      rw [mkCells_v]; exact List.all_eq_true.2 fun v hv => by unfold vcells at hv; obtain ⟨j, _, rfl⟩ := List.mem_map.1 hv; rfl)
    exact ⟨H', fun R K => by unfold hclr; rw [if_neg h0]; exact e R K, ⟨by omega, fun i _ hne => s i hne⟩, n⟩
theorem cmp_l0 (k : Nat) (b l : Nat) (hl : l ≤ 1000000) (hk : l < k) {f : Nat → Int} : ∀ (m n i : Nat), m < n → l = i + m → 1 ≤ i → (∀ i', i' + 1 < i → f (i' + 1) ≠ f i') → ∀ (H : Heap), Oi H b l f →
    ∃ H' l', (∀ (R : Type) (KE KR : Option Addr → Nat → Nat → Heap → Option R), slices_Compact___int_int__l0 k KE KR n (some ⟨b, 0, none⟩) l unk (i : Int) H = if l' = l then KE (some ⟨b, 0, none⟩) l unk H' else KR (some ⟨b, 0, none⟩) l' unk H') ∧ (l' = l ↔ ¬ ∃ i, i + 1 < l ∧ f (i + 1) = f i) ∧ But b H H' ∧ H'.length = H.length := by
  intro m
  induction m with
  | zero =>
    intro n i hn hi h1 hno H O
    obtain ⟨n, rfl⟩ : ∃ n', n = n' + 1 := ⟨n - 1, by omega⟩
    refine ⟨H, l, fun R KE KR => ?_, ⟨fun _ ⟨i', h2, h3⟩ => hno i' (by omega) h3, fun _ => rfl⟩, .refl _ _, rfl⟩
    unfold slices_Compact___int_int__l0 slices_Compact___int_int__l0_b
    rw [if_pos rfl]
    exact go_f (decide_eq_false (by omega)) rfl
  | succ m ih =>
    intro n i hn hi h1 hno H O
    obtain ⟨n, rfl⟩ : ∃ n', n = n' + 1 := ⟨n - 1, by omega⟩
    have e1 : IntKind.wrap .i64 ((i : Int) - 1) = ((i - 1 : Nat) : Int) := by rw [w64 (by omega) (by omega)]; omega
    have start : ∀ (R : Type) (KE KR : Option Addr → Nat → Nat → Heap → Option R) (r : Option R), (bif (f i == f (i - 1)) then (hslc 1 (some ⟨b, 0, none⟩) l unk (some ((i : Nat) : Int)) none none fun q9 l10 c11 => slices_Compact___int_int__l1 k (fun q16 l17 c18 n19 H20 => hslc 1 q16 l17 c18 (some n19) none none fun q21 l22 c23 => hclr [.int .i64 0] H20 q21 l22 fun H24 => hslc 1 q16 l17 c18 none (some n19) none fun q25 l26 c27 => KR q25 l26 c27 H24) k (some ⟨b, 0, none⟩) l unk (i : Int) q9 l10 c11 1 H) else slices_Compact___int_int__l0 k KE KR n (some ⟨b, 0, none⟩) l unk (IntKind.wrap .i64 ((i : Int) + 1)) H) = r → slices_Compact___int_int__l0 k KE KR (n + 1) (some ⟨b, 0, none⟩) l unk (i : Int) H = r := by
      intro R KE KR r h
      unfold slices_Compact___int_int__l0 slices_Compact___int_int__l0_b
      refine go_t (decide_eq_true (by omega)) ((hx1 b l rfl (by omega) _ _).trans ((O.ld (by omega) _ _).trans ?_))
      rw [e1]
      exact (hx1 b l rfl (by omega) _ _).trans ((O.ld (by omega) _ _).trans h)
    by_cases he : f i = f (i - 1)
    · obtain ⟨H1, f1, i1, e2, O1, ⟨hi1, hi1'⟩, b1, n1⟩ := cmp_l1 k b l unk hl i unk (by omega) (l - i - 1) k 1 (by omega) (by omega) (by omega) H f i O (by omega) h1
      obtain ⟨H2, e3, b2, n2⟩ := clr_eq O1 (i := i1) (by omega)
      have hd : ∃ i, i + 1 < l ∧ f (i + 1) = f i := ⟨i - 1, by omega, by rw [show i - 1 + 1 = i from by omega]; exact he⟩
      have hu : l < unk := by unfold unk; omega
      refine ⟨H2, i1, fun R KE KR => start R KE KR _ ?_, ⟨fun h => by omega, fun h => (h hd).elim⟩, b1.trans b2, by omega⟩
      rw [if_neg (by omega)]
      refine go_t (by rw [he]; exact beq_self_eq_true _) ((slc_lo hu (by omega) (by omega) _ _).trans ?_)
      refine (e2 _ _).trans ((slc_lo hu (by omega) hi1 _ _).trans ((e3 _ _).trans ((slc_hi hu (by omega) _ _).trans rfl)))
    · obtain ⟨H1, l1, e2, hl1, b1, n1⟩ := ih n (i + 1) (by omega) (by omega) (by omega) (fun i' h2 h3 => by
        by_cases hc : i' + 1 = i
        · subst hc; exact he h3
        · exact hno i' (by omega) h3) H O
      refine ⟨H1, l1, fun R KE KR => start R KE KR _ ?_, hl1, b1, n1⟩
      refine go_f (by rw [beq_eq_false_iff_ne]; exact he) ?_
      rw [w64 (n := (i : Int) + 1) (by omega) (by omega)]
      exact e2 R KE KR
/-- Compact: as long as the row was, if no two that stand side by side are alike. -/
theorem compact_eq {k : Nat} {b l : Nat} (hl : l ≤ 1000000) (hk : l < k) {f : Nat → Int} {H : Heap} (O : Oi H b l f) :
    ∃ H' l', (∀ (R : Type) (K : Option Addr → Nat → Nat → Heap → Option R), slices_Compact___int_int_ k (some ⟨b, 0, none⟩) l unk H K = K (some ⟨b, 0, none⟩) l' unk H') ∧ (l' = l ↔ ¬ ∃ i, i + 1 < l ∧ f (i + 1) = f i) ∧ But b H H' ∧ H'.length = H.length := by
  by_cases h2 : l < 2
  · refine ⟨H, l, fun R K => ?_, ⟨fun _ ⟨i, hi, _⟩ => by omega, fun _ => rfl⟩, .refl _ _, rfl⟩
    unfold slices_Compact___int_int_ slices_Compact___int_int__b
    exact go_t (decide_eq_true (by omega)) rfl
  · obtain ⟨H1, l1, e, hl1, b1, n1⟩ := cmp_l0 k b l hl hk (f := f) (l - 1) k 1 (by omega) (by omega) (by omega) (fun i' h => by omega) H O
    refine ⟨H1, l1, fun R K => ?_, hl1, b1, n1⟩
    unfold slices_Compact___int_int_ slices_Compact___int_int__b
    refine go_f (decide_eq_false (by omega)) ((e _ _ _).trans ?_)
    split
    · rename_i h; subst h; rfl
    · rfl
end Go.Proofs.Ytkjcjlembepdkaa.Sh
/- Colorspec: what a color specification must be; the program's validate. -/
set_option linter.unusedVariables false
set_option linter.unusedSimpArgs false
namespace Go.Proofs.Ytkjcjlembepdkaa.Sh
open Go.Proofs.Ytkjcjlembepdkaa.FW
def nzc (rs : List Int) : Nat := (rs.filter fun x => x != 0).length
def rolesB (s : Int) (rs : List Int) : Bool := decide (1 ≤ rs.length) && decide (rs.length ≤ 4) && decide (1 ≤ nzc rs) && decide (rs.length ≤ nzc rs + 1) && (decide (s = 4) || decide ((nzc rs : Int) = chan s)) && inB 0 (nzc rs) rs && decide rs.Nodup
/-- A row of a palette: where, its capacity, the numbers. -/
abbrev Rw := Option Addr × Nat × List Int
def rc (r : Rw) : Value := .slice r.1 r.2.2.length r.2.1
structure PalS (H : Heap) (q : Option Addr) (rows : List Rw) : Prop where
  sh : Shows H q (rows.map rc)
  rw : ∀ r ∈ rows, Shows H r.1 (ints r.2.2)
theorem PalS.keep {H H' : Heap} {q : Option Addr} {rows : List Rw} (h : PalS H q rows) (o : Old H.length H H') : PalS H' q rows := ⟨h.sh.keep o, fun r hr => (h.rw r hr).keep o⟩
theorem row_at {H : Heap} {q : Option Addr} {rows : List Rw} (h : PalS H q rows) {i : Nat} {r : Rw} (hi : rows[i]? = some r) :
    ∃ p, (∀ (R : Type) (K : Option Addr → Option R), hidx q rows.length (i : Int) 1 K = K p) ∧ ∀ (R : Type) (K : Option Addr → Nat → Nat → Option R), ldL H p K = K r.1 r.2.2.length r.2.1 := by
  have hlt : i < rows.length := (List.getElem?_eq_some_iff.1 hi).1
  obtain ⟨p, e, _, m⟩ := h.sh.idx (l := rows.length) (size := 1) (by simp) (i := (i : Int)) (by omega) (by omega) (by omega)
  exact ⟨p, e, fun R K => ldL_of (m _ (by rw [Int.toNat_natCast, Nat.mul_one, List.getElem?_map, hi]; rfl)) K⟩
/-- A color specification's cells. -/
def cl (s : Int) (q : Option Addr) (l c : Nat) (q2 : Option Addr) (l2 c2 : Nat) : List Value := [.int .i64 s, .slice q l c, .slice q2 l2 c2]
theorem cnt_l (k : Nat) (p : Option Addr) {H : Heap} {q : Option Addr} {xs : List Int} (c : Nat) (h : Shows H q (ints xs)) (hl : xs.length < 1000000) : ∀ (m n i : Nat), m < n → xs.length = i + m → ∀ (R : Type) (KE : Option Addr → Int → Option R),
    colorspec_roles_l1 k KE n p ((nzc (xs.take i) : Nat) : Int) q xs.length c ((xs.length : Nat) : Int) (i : Int) H = KE p ((nzc xs : Nat) : Int) := by
  intro m
  induction m with
  | zero =>
    intro n i hn hj R KE
    obtain ⟨n, rfl⟩ : ∃ n', n = n' + 1 := ⟨n - 1, by omega⟩
    unfold colorspec_roles_l1 colorspec_roles_l1_b
    rw [List.take_of_length_le (by omega)]
    exact go_f (decide_eq_false (by omega)) rfl
  | succ m ih =>
    intro n i hn hj R KE
    obtain ⟨n, rfl⟩ : ∃ n', n = n' + 1 := ⟨n - 1, by omega⟩
    obtain ⟨x, hx⟩ := ex_get (l := xs) (i := i) (by omega)
    obtain ⟨p', e1, e2⟩ := int_at h hx
    have hle : nzc (xs.take i) ≤ xs.length := by
      unfold nzc
      exact Nat.le_trans (List.length_filter_le _ _) (by rw [List.length_take]; omega)
    have ih' := ih n (i + 1) (by omega) (by omega) R KE
    rw [take_snoc hx] at ih'
    unfold colorspec_roles_l1 colorspec_roles_l1_b colorspec_roles_p2 colorspec_roles_p2_b
    refine go_t (decide_eq_true (by omega)) ((e1 _ _).trans ((e2 _ _).trans ?_))
    by_cases h0 : x = 0
    · have : nzc (xs.take i ++ [x]) = nzc (xs.take i) := by unfold nzc; rw [List.filter_append]; simp [h0]
      rw [this] at ih'
      refine go_f (by rw [h0]; rfl) ?_
      dsimp only
      rw [w64 (n := (i : Int) + 1) (by omega) (by omega)]
      exact ih'
    · have : nzc (xs.take i ++ [x]) = nzc (xs.take i) + 1 := by unfold nzc; rw [List.filter_append]; simp [h0]
      rw [this] at ih'
      refine go_t (by rw [bne_iff_ne]; exact h0) ?_
      dsimp only
      rw [w64 (n := (i : Int) + 1) (by omega) (by omega), w64 (n := ((nzc (xs.take i) : Nat) : Int) + 1) (by omega) (by omega)]
      exact ih'
theorem nodup_dup (xs : List Int) : xs.Nodup ↔ ¬ Dup xs.length fun i => xs.getD i 0 := by
  unfold Dup
  rw [List.nodup_iff_pairwise_ne, List.pairwise_iff_getElem]
  constructor
  · rintro h ⟨i, j, hi, hj, hne, he⟩
    have e1 : xs.getD i 0 = xs[i] := by simp [hi]
    have e2 : xs.getD j 0 = xs[j] := by simp [hj]
    have he : xs[i] = xs[j] := e1.symm.trans (he.trans e2)
    rcases Nat.lt_or_gt_of_ne hne with h1 | h1
    · exact h i j hi hj h1 he
    · exact h j i hj hi h1 he.symm
  · intro h i j hi hj hij he
    refine h ⟨i, j, hi, hj, by omega, ?_⟩
    simp [hi, hj, he]
theorem roles_eq {k : Nat} (hk : 1000 < k) {H : Heap} {q q2 : Option Addr} {rs : List Int} (s : Int) (c l2 c2 : Nat) (h : Shows H q (ints rs)) (hl : rs.length ≤ 1000) :
    ∃ H', (∀ (R : Type) (K : Bool → Heap → Option R), colorspec_roles k s q rs.length c q2 l2 c2 H K = K (rolesB s rs) H') ∧ Old H.length H H' := by
  obtain ⟨H1, hH1⟩ : ∃ H1, H1 = H ++ [some (⟨[.int .i64 s, .slice q rs.length c, .slice q2 l2 c2], false, 0⟩ : Blk)] := ⟨_, rfl⟩
  have o1 : Old H.length H H1 := hH1 ▸ Old.app _ _
  have O1 : Owns H1 H.length [.int .i64 s, .slice q rs.length c, .slice q2 l2 c2] 0 := by rw [hH1]; exact hblk_new H _
  have l1 : H1.length = H.length + 1 := by rw [hH1]; simp
  have m0 : hcell H1 H.length 0 = some (.int .i64 s) := O1.sees.cell 0
  have m1 : hcell H1 H.length 1 = some (.slice q rs.length c) := O1.sees.cell 1
  have h1 := h.keep o1
  have cnt := cnt_l k (some ⟨H.length, 0, none⟩) c h1 (by omega) rs.length k 0 (by omega) (by omega)
  by_cases c1 : rs.length < 1
  · refine ⟨H1, fun R K => ?_, o1⟩
    rw [show rolesB s rs = false from by unfold rolesB; rw [decide_eq_false (by omega)]; rfl]
    unfold colorspec_roles colorspec_roles_b colorspec_roles_p0 colorspec_roles_p0_b
    exact go_halN hH1 (go_fad (go_l m1 (go_t (decide_eq_true (by omega)) rfl)))
  by_cases c2' : rs.length > 4
  · refine ⟨H1, fun R K => ?_, o1⟩
    rw [show rolesB s rs = false from by unfold rolesB; rw [decide_eq_false (p := rs.length ≤ 4) (by omega), Bool.and_false]; rfl]
    unfold colorspec_roles colorspec_roles_b colorspec_roles_p0 colorspec_roles_p0_b
    exact go_halN hH1 (go_fad (go_l m1 (go_f (decide_eq_false (by omega)) (go_fad (go_l m1 (go_t (decide_eq_true (by omega)) rfl))))))
  have start : ∀ (R : Type) (K : Bool → Heap → Option R) (r : Option R), colorspec_roles_p3 k (some ⟨H.length, 0, none⟩) ((nzc rs : Nat) : Int) H1 (fun p23 => hfad 1 p23 fun p24 => ldL H1 p24 fun q25 l26 c27 => slices_Clone___int_int_ q25 l26 c27 H1 fun q28 l29 c30 H31 => slices_Sort___int_int_ k q28 l29 c30 H31 fun H32 => hfrz H32 p23 fun H33 => slices_Compact___int_int_ k q28 l29 c30 H33 fun q34 l35 c36 H37 => hfad 1 p23 fun p38 => bif isRo H33 p38 then (ldL H33 p38 fun q39 l40 c41 => K (((l35 : Nat) : Int) == ((l40 : Nat) : Int)) H37) else none) (fun t42 => K t42 H1) = r → colorspec_roles k s q rs.length c q2 l2 c2 H K = r := by
    intro R K r hr
    unfold colorspec_roles colorspec_roles_b colorspec_roles_p0 colorspec_roles_p0_b
    exact go_halN hH1 (go_fad (go_l m1 (go_f (decide_eq_false (by omega)) (go_fad (go_l m1 (go_f (decide_eq_false (by omega)) (go_fad (go_l m1 ((cnt _ _).trans hr)))))))))
  have hn : nzc rs ≤ rs.length := List.length_filter_le _ _
  have hsub : IntKind.wrap .i64 (((rs.length : Nat) : Int) - ((nzc rs : Nat) : Int)) = ((rs.length : Nat) : Int) - ((nzc rs : Nat) : Int) := w64 (by omega) (by omega)
  have wi := within_eq (k := k) 0 ((nzc rs : Nat) : Int) c h1 (by omega) (by omega)
  -- the end
  obtain ⟨H2, e2, O2, o2, l2'⟩ := clone_eq c h1 (by omega) (by omega)
  obtain ⟨H3, e3, O3, b3, n3⟩ := sort_eq (k := k) (by omega) unk (Oi.of O2) (by omega) (by omega)
  have Ob3 : Owns H3 H.length [.int .i64 s, .slice q rs.length c, .slice q2 l2 c2] 0 := (O1.old o2 (by omega)).but b3 (by omega)
  obtain ⟨H4, e4, c4, r4, b4, n4⟩ := frz_own (o := 0) (s := none) Ob3
  have O4 : Oi H4 (H1.length + 1) rs.length (srt (rs.length - 1) 1 fun i => rs.getD i 0) := by obtain ⟨z, O3⟩ := O3; exact ⟨z, O3.but b4 (by omega)⟩
  obtain ⟨H5, l5, e5, hl5, b5, n5⟩ := compact_eq (k := k) (by omega) (by omega) O4
  have hris : Ris rs.length (srt (rs.length - 1) 1 fun i => rs.getD i 0) := by
    have := srt_ris (rs.length - 1) 1 (fun i => rs.getD i 0) (fun a b h1 h2 => by omega)
    rwa [show 1 + (rs.length - 1) = rs.length from by omega] at this
  have hnd : (l5 = rs.length) ↔ rs.Nodup := by
    rw [hl5, ← ris_dup hris, dup_srt _ _ _ (by omega), nodup_dup]
  have hK : (((l5 : Nat) : Int) == ((rs.length : Nat) : Int)) = decide rs.Nodup := by
    by_cases hd : rs.Nodup
    · rw [decide_eq_true hd, hnd.2 hd]; exact beq_self_eq_true _
    · rw [decide_eq_false hd, beq_eq_false_iff_ne]; intro he; exact hd (hnd.1 (by omega))
  have m4 : hcell H4 H.length 1 = some (.slice q rs.length c) := c4 1
  have oo : Old H.length H H5 := o1.trans ((o2.mono (by omega)).trans ((b3.old (by omega) (by omega)).trans ((b4.old (by omega) (by omega)).trans (b5.old (by omega) (by omega)))))
  have fin : ∀ (R : Type) (K : Bool → Heap → Option R), (hfad 1 (some ⟨H.length, 0, none⟩) fun p24 => ldL H1 p24 fun q25 l26 c27 => slices_Clone___int_int_ q25 l26 c27 H1 fun q28 l29 c30 H31 => slices_Sort___int_int_ k q28 l29 c30 H31 fun H32 => hfrz H32 (some ⟨H.length, 0, none⟩) fun H33 => slices_Compact___int_int_ k q28 l29 c30 H33 fun q34 l35 c36 H37 => hfad 1 (some ⟨H.length, 0, none⟩) fun p38 => bif isRo H33 p38 then (ldL H33 p38 fun q39 l40 c41 => K (((l35 : Nat) : Int) == ((l40 : Nat) : Int)) H37) else none) = K (decide rs.Nodup) H5 := by
    intro R K
    refine go_fad (go_l m1 ((e2 _ _).trans ((e3 _ _).trans ((e4 _ _).trans ((e5 _ _).trans (go_fad (go_t (r4 _ _) (go_l m4 ?_))))))))
    rw [hK]
  have b1 : decide (1 ≤ rs.length) = true := decide_eq_true (by omega)
  have b2 : decide (rs.length ≤ 4) = true := decide_eq_true (by omega)
  by_cases d1 : nzc rs < 1
  · refine ⟨H1, fun R K => start R K _ ?_, o1⟩
    rw [show rolesB s rs = false from by unfold rolesB; rw [b1, b2, decide_eq_false (p := 1 ≤ nzc rs) (by omega)]; rfl]
    unfold colorspec_roles_p3 colorspec_roles_p3_b
    exact go_t (decide_eq_true (by omega)) rfl
  have d1' : decide (1 ≤ nzc rs) = true := decide_eq_true (by omega)
  by_cases d2 : rs.length ≤ nzc rs + 1
  case neg =>
    refine ⟨H1, fun R K => start R K _ ?_, o1⟩
    rw [show rolesB s rs = false from by unfold rolesB; rw [b1, b2, d1', decide_eq_false d2]; rfl]
    unfold colorspec_roles_p3 colorspec_roles_p3_b
    exact go_f (decide_eq_false (by omega)) (go_fad (go_l m1 (go_t (by rw [hsub]; exact decide_eq_true (by omega)) rfl)))
  have d2' : decide (rs.length ≤ nzc rs + 1) = true := decide_eq_true d2
  by_cases d3 : s = 4
  · have d3' : decide (s = 4) = true := decide_eq_true d3
    cases d4 : inB 0 ((nzc rs : Nat) : Int) rs with
    | false =>
      refine ⟨H1, fun R K => start R K _ ?_, o1⟩
      rw [show rolesB s rs = false from by unfold rolesB; rw [b1, b2, d1', d2', d3', d4]; rfl]
      unfold colorspec_roles_p3 colorspec_roles_p3_b
      exact go_f (decide_eq_false (by omega)) (go_fad (go_l m1 (go_f (by rw [hsub]; exact decide_eq_false (by omega)) (go_fad (go_i m0 (go_f (by rw [d3]; rfl) (go_fad (go_l m1 ((wi _ _).trans (go_t (by rw [d4]; rfl) rfl)))))))))) 
    | true =>
      refine ⟨H5, fun R K => start R K _ ?_, oo⟩
      rw [show rolesB s rs = decide rs.Nodup from by unfold rolesB; rw [b1, b2, d1', d2', d3', d4]; simp]
      unfold colorspec_roles_p3 colorspec_roles_p3_b
      exact go_f (decide_eq_false (by omega)) (go_fad (go_l m1 (go_f (by rw [hsub]; exact decide_eq_false (by omega)) (go_fad (go_i m0 (go_f (by rw [d3]; rfl) (go_fad (go_l m1 ((wi _ _).trans (go_f (by rw [d4]; rfl) (fin R K)))))))))))
  · have d3' : decide (s = 4) = false := decide_eq_false d3
    have d3'' : (s != 4) = true := by rw [bne_iff_ne]; exact d3
    by_cases d5 : ((nzc rs : Nat) : Int) = chan s
    case neg =>
      refine ⟨H1, fun R K => start R K _ ?_, o1⟩
      rw [show rolesB s rs = false from by unfold rolesB; rw [b1, b2, d1', d2', d3', decide_eq_false d5]; rfl]
      unfold colorspec_roles_p3 colorspec_roles_p3_b
      exact go_f (decide_eq_false (by omega)) (go_fad (go_l m1 (go_f (by rw [hsub]; exact decide_eq_false (by omega)) (go_fad (go_i m0 (go_t d3'' (go_fad (go_i m0 ((chan_eq _ _ _).trans (go_t (by rw [bne_iff_ne]; exact d5) rfl))))))))))
    have d5' : decide (((nzc rs : Nat) : Int) = chan s) = true := decide_eq_true d5
    have d5'' : (((nzc rs : Nat) : Int) != chan s) = false := by rw [d5]; exact bne_self_eq_false' _
    cases d4 : inB 0 ((nzc rs : Nat) : Int) rs with
    | false =>
      refine ⟨H1, fun R K => start R K _ ?_, o1⟩
      rw [show rolesB s rs = false from by unfold rolesB; rw [b1, b2, d1', d2', d3', d5', d4]; rfl]
      unfold colorspec_roles_p3 colorspec_roles_p3_b
      exact go_f (decide_eq_false (by omega)) (go_fad (go_l m1 (go_f (by rw [hsub]; exact decide_eq_false (by omega)) (go_fad (go_i m0 (go_t d3'' (go_fad (go_i m0 ((chan_eq _ _ _).trans (go_f d5'' (go_fad (go_l m1 ((wi _ _).trans (go_t (by rw [d4]; rfl) rfl))))))))))))))
    | true =>
      refine ⟨H5, fun R K => start R K _ ?_, oo⟩
      rw [show rolesB s rs = decide rs.Nodup from by unfold rolesB; rw [b1, b2, d1', d2', d3', d5', d4]; simp]
      unfold colorspec_roles_p3 colorspec_roles_p3_b
      exact go_f (decide_eq_false (by omega)) (go_fad (go_l m1 (go_f (by rw [hsub]; exact decide_eq_false (by omega)) (go_fad (go_i m0 (go_t d3'' (go_fad (go_i m0 ((chan_eq _ _ _).trans (go_f d5'' (go_fad (go_l m1 ((wi _ _).trans (go_f (by rw [d4]; rfl) (fin R K)))))))))))))))
end Go.Proofs.Ytkjcjlembepdkaa.Sh
/- Colorspec: the program's validate and Check. -/
set_option linter.unusedVariables false
set_option linter.unusedSimpArgs false
namespace Go.Proofs.Ytkjcjlembepdkaa.Sh
open Go.Proofs.Ytkjcjlembepdkaa.FW
def okR (n : Nat) (r : Rw) : Bool := decide (r.2.2.length = n) && inB 0 255 r.2.2
def okP (n : Nat) (rows : List Rw) : Bool := rows.all (okR n)
def depB (n : Nat) : Bool := decide (n = 0) || dep n != 0
def validI (s : Int) (rs : List Int) (rows : List Rw) : Int := if kn s then (if rolesB s rs && depB rows.length && okP rs.length rows then 0 else 21) else 3
/-- What bounds a color specification that came in. -/
structure FewC (rs : List Int) (rows : List Rw) : Prop where
  a : rs.length ≤ 1000
  b : rows.length ≤ 70000
  c : ∀ r ∈ rows, r.2.2.length ≤ 1000
theorem rows_l (k : Nat) (hk : 1000 < k) {b : Nat} {n0 : Nat} {H : Heap} {q : Option Addr} {rows : List Rw} (c : Nat) (h : PalS H q rows) (hl : rows.length ≤ 70000) (hr : ∀ r ∈ rows, r.2.2.length ≤ 1000) {qr : Option Addr} {cr : Nat} (m1 : hcell H b 1 = some (.slice qr n0 cr)) : ∀ (m n i : Nat), m < n → rows.length = i + m → ∀ (R : Type) (KE : Unit → Option R) (KR : Int → Option R),
    colorspec_validate_l1 k KE KR n (some ⟨b, 0, none⟩) q rows.length c ((rows.length : Nat) : Int) (i : Int) H = bif okP n0 (rows.drop i) then KE () else KR 21 := by
  intro m
  induction m with
  | zero =>
    intro n i hn hj R KE KR
    obtain ⟨n, rfl⟩ : ∃ n', n = n' + 1 := ⟨n - 1, by omega⟩
    unfold colorspec_validate_l1 colorspec_validate_l1_b
    rw [List.drop_eq_nil_of_le (by omega)]
    exact go_f (decide_eq_false (by omega)) rfl
  | succ m ih =>
    intro n i hn hj R KE KR
    obtain ⟨n, rfl⟩ : ∃ n', n = n' + 1 := ⟨n - 1, by omega⟩
    obtain ⟨r, hx⟩ := ex_get (l := rows) (i := i) (by omega)
    obtain ⟨p, e1, e2⟩ := row_at h hx
    have hm : r ∈ rows := List.mem_of_getElem? hx
    have hrl := hr r hm
    have wi := within_eq (k := k) 0 255 r.2.1 (h.rw r hm) (by omega) (by omega)
    rw [drop_cons hx]
    unfold colorspec_validate_l1 colorspec_validate_l1_b colorspec_validate_p2 colorspec_validate_p2_b
    refine go_t (decide_eq_true (by omega)) ((e1 _ _).trans ((e2 _ _).trans (go_fad (go_l m1 ?_))))
    show _ = bif ((decide (r.2.2.length = n0) && inB 0 255 r.2.2) && okP n0 (rows.drop (i + 1))) then _ else _
    by_cases h1 : r.2.2.length = n0
    · refine go_f (by rw [h1]; exact bne_self_eq_false' _) ((wi _ _).trans ?_)
      rw [decide_eq_true h1, Bool.true_and]
      cases h2 : inB 0 255 r.2.2 with
      | false => exact go_t rfl rfl
      | true =>
        refine go_f rfl ?_
        rw [Bool.true_and]
        dsimp only
        rw [w64 (n := (i : Int) + 1) (by omega) (by omega)]
        exact ih n (i + 1) (by omega) (by omega) R KE KR
    · rw [decide_eq_false h1]
      exact go_t (by rw [bne_iff_ne]; omega) rfl
theorem validate_eq {k : Nat} (hk : 80000 < k) {H : Heap} {q q2 : Option Addr} {rs : List Int} {rows : List Rw} (s : Int) (c c2 : Nat) (h : Shows H q (ints rs)) (hp : PalS H q2 rows) (F : FewC rs rows) :
    ∃ H', (∀ (R : Type) (K : Int → Heap → Option R), colorspec_validate k s q rs.length c q2 rows.length c2 H K = K (validI s rs rows) H') ∧ Old H.length H H' := by
  have fb := F.b
  obtain ⟨H1, hH1⟩ : ∃ H1, H1 = H ++ [some (⟨[.int .i64 s, .slice q rs.length c, .slice q2 rows.length c2], false, 0⟩ : Blk)] := ⟨_, rfl⟩
  have o1 : Old H.length H H1 := hH1 ▸ Old.app _ _
  have O1 : Owns H1 H.length [.int .i64 s, .slice q rs.length c, .slice q2 rows.length c2] 0 := by rw [hH1]; exact hblk_new H _
  have l1 : H1.length = H.length + 1 := by rw [hH1]; simp
  have m0 : hcell H1 H.length 0 = some (.int .i64 s) := O1.sees.cell 0
  have m1 : hcell H1 H.length 1 = some (.slice q rs.length c) := O1.sees.cell 1
  have m2 : hcell H1 H.length 2 = some (.slice q2 rows.length c2) := O1.sees.cell 2
  cases hkn : kn s with
  | false =>
    refine ⟨H1, fun R K => ?_, o1⟩
    rw [show validI s rs rows = 3 from by unfold validI; rw [hkn]; rfl]
    unfold colorspec_validate colorspec_validate_b
    exact go_halN hH1 (go_fad (go_i m0 ((known_eq _ _ _).trans (by rw [hkn]; exact go_t rfl rfl))))
  | true =>
    have e0 : validI s rs rows = if rolesB s rs && depB rows.length && okP rs.length rows then 0 else 21 := by unfold validI; rw [hkn]; rfl
    rw [e0]
    obtain ⟨H2, e2, o2⟩ := roles_eq (k := k) (by omega) s c rows.length c2 (h.keep o1) (by have := F.a; omega) (q2 := q2)
    have O2 := O1.old o2 (by omega)
    have a1 : hcell H2 H.length 1 = some (.slice q rs.length c) := O2.sees.cell 1
    have a2 : hcell H2 H.length 2 = some (.slice q2 rows.length c2) := O2.sees.cell 2
    have oo : Old H.length H H2 := o1.trans (o2.mono (by omega))
    have rl := rows_l k (by omega) (n0 := rs.length) c2 (hp.keep oo) (by omega) F.c a1 rows.length k 0 (by omega) (by omega)
    rw [List.drop_zero] at rl
    have start : ∀ (R : Type) (K : Int → Heap → Option R) (r : Option R), (bif (!rolesB s rs) then K 21 H2 else hfad 2 (some ⟨H.length, 0, none⟩) fun p11 => ldL H2 p11 fun q12 l13 c14 => bif decide (((l13 : Nat) : Int) > 0) then (hfad 2 (some ⟨H.length, 0, none⟩) fun p15 => ldL H2 p15 fun q16 l17 c18 => colorspec_depth k q16 l17 c18 fun n19 => bif (n19 == 0) then K 21 H2 else (hfad 2 (some ⟨H.length, 0, none⟩) fun p17 => ldL H2 p17 fun q18 l19 c20 => colorspec_validate_l1 k (fun (_ : Unit) => K 0 H2) (fun n22 => K n22 H2) k (some ⟨H.length, 0, none⟩) q18 l19 c20 ((l19 : Nat) : Int) 0 H2)) else (hfad 2 (some ⟨H.length, 0, none⟩) fun p17 => ldL H2 p17 fun q18 l19 c20 => colorspec_validate_l1 k (fun (_ : Unit) => K 0 H2) (fun n22 => K n22 H2) k (some ⟨H.length, 0, none⟩) q18 l19 c20 ((l19 : Nat) : Int) 0 H2)) = r → colorspec_validate k s q rs.length c q2 rows.length c2 H K = r := by
      intro R K r hr
      unfold colorspec_validate colorspec_validate_b colorspec_validate_p0 colorspec_validate_p0_b
      refine go_halN hH1 (go_fad (go_i m0 ((known_eq _ _ _).trans ?_)))
      rw [hkn]
      exact go_f rfl (go_ip m0 (go_lp m1 (go_lp m2 ((e2 _ _).trans hr))))
    have fin : ∀ (R : Type) (K : Int → Heap → Option R), (hfad 2 (some ⟨H.length, 0, none⟩) fun p17 => ldL H2 p17 fun q18 l19 c20 => colorspec_validate_l1 k (fun (_ : Unit) => K 0 H2) (fun n22 => K n22 H2) k (some ⟨H.length, 0, none⟩) q18 l19 c20 ((l19 : Nat) : Int) 0 H2) = K (if okP rs.length rows then 0 else 21) H2 := by
      intro R K
      refine go_fad (go_l a2 ((rl _ _ _).trans ?_))
      cases okP rs.length rows <;> rfl
    refine ⟨H2, fun R K => start R K _ ?_, oo⟩
    cases hro : rolesB s rs with
    | false => exact go_t rfl rfl
    | true =>
      refine go_f rfl (go_fad (go_l a2 ?_))
      rw [Bool.true_and]
      by_cases hz : rows.length = 0
      · refine go_f (decide_eq_false (by omega)) ((fin R K).trans ?_)
        rw [show depB rows.length = true from by unfold depB; rw [decide_eq_true hz]; rfl, Bool.true_and]
      · refine go_t (decide_eq_true (by omega)) (go_fad (go_l a2 ((depth_eq (by omega) _ _ _ _ _).trans ?_)))
        by_cases hd : dep rows.length = 0
        · rw [show depB rows.length = false from by unfold depB; rw [decide_eq_false hz, hd]; rfl]
          exact go_t (by rw [hd]; rfl) rfl
        · rw [show depB rows.length = true from by unfold depB; rw [Bool.or_eq_true]; exact .inr (by rw [bne_iff_ne]; exact hd), Bool.true_and]
          exact go_f (by rw [beq_eq_false_iff_ne]; exact hd) (fin R K)
/-- Components, as cells. -/
abbrev Cm := Int × Bool × Int × Int
def cmc (c : Cm) : List Value := [.int .i64 c.1, .bool c.2.1, .int .i64 c.2.2.1, .int .i64 c.2.2.2]
def checkI (s : Int) (rs : List Int) (rows : List Rw) (cs : List Cm) : Int :=
  if validI s rs rows ≠ 0 then validI s rs rows else if rows.length = 0 then (if cs.length = rs.length then 0 else 21) else match cs with
    | [c] => if c.2.1 = true ∨ c.1 ≠ dep rows.length then 21 else 0
    | _ => 21
/-- A header's cells. -/
def hd6 (n1 n2 n3 n4 n5 n6 : Int) (q : Option Addr) (l c : Nat) : List Value := [.int .i64 n1, .int .i64 n2, .int .i64 n3, .int .i64 n4, .int .i64 n5, .int .i64 n6, .slice q l c]
theorem one_at {H : Heap} {q : Option Addr} {c : Cm} (h : Shows H q ([c].flatMap cmc)) : ∃ b o, (∀ (R : Type) (K : Option Addr → Option R), hidx q 1 0 4 K = K (some ⟨b, o, none⟩)) ∧ hcell H b (o + 0) = some (.int .i64 c.1) ∧ hcell H b (o + 1) = some (.bool c.2.1) ∧ hcell H b (o + 2) = some (.int .i64 c.2.2.1) ∧ hcell H b (o + 3) = some (.int .i64 c.2.2.2) := by
  rcases h with h | ⟨b, o, full, rfl, hs, h1, h2⟩
  · simp [cmc] at h
  · refine ⟨b, o, fun R K => ?_, ?_, ?_, ?_, ?_⟩
    · simp only [hidx]; rw [if_pos ⟨by omega, by omega⟩]; simp
    all_goals
      rw [hs.cell]
      have h3 := fun j (hj : j < 4) => congrArg (fun l => l[j]?) h2
      simp only [List.getElem?_take, List.getElem?_drop] at h3
      first
        | exact (by simpa [cmc] using h3 0 (by omega))
        | exact (by simpa [cmc] using h3 1 (by omega))
        | exact (by simpa [cmc] using h3 2 (by omega))
        | exact (by simpa [cmc] using h3 3 (by omega))
theorem check_eq {k : Nat} (hk : 80000 < k) {H : Heap} {q q2 q3 : Option Addr} {rs : List Int} {rows : List Rw} {cs : List Cm} (s : Int) (c c2 : Nat) (n1 n2 n3 n4 n5 n6 : Int) (c3 : Nat) (h : Shows H q (ints rs)) (hp : PalS H q2 rows) (hc : Shows H q3 (cs.flatMap cmc)) (F : FewC rs rows) :
    ∃ H', (∀ (R : Type) (K : Int → Heap → Option R), colorspec_Check k s q rs.length c q2 rows.length c2 n1 n2 n3 n4 n5 n6 q3 cs.length c3 H K = K (checkI s rs rows cs) H') ∧ Old H.length H H' := by
  have fb := F.b
  obtain ⟨H1, hH1⟩ : ∃ H1, H1 = H ++ [some (⟨[.int .i64 s, .slice q rs.length c, .slice q2 rows.length c2], false, 0⟩ : Blk)] := ⟨_, rfl⟩
  have o1 : Old H.length H H1 := hH1 ▸ Old.app _ _
  have O1 : Owns H1 H.length [.int .i64 s, .slice q rs.length c, .slice q2 rows.length c2] 0 := by rw [hH1]; exact hblk_new H _
  have l1 : H1.length = H.length + 1 := by rw [hH1]; simp
  obtain ⟨H2, hH2⟩ : ∃ H2, H2 = H1 ++ [some (⟨[.int .i64 n1, .int .i64 n2, .int .i64 n3, .int .i64 n4, .int .i64 n5, .int .i64 n6, .slice q3 cs.length c3], false, 0⟩ : Blk)] := ⟨_, rfl⟩
  have o2 : Old H1.length H1 H2 := hH2 ▸ Old.app _ _
  have O2 : Owns H2 H1.length [.int .i64 n1, .int .i64 n2, .int .i64 n3, .int .i64 n4, .int .i64 n5, .int .i64 n6, .slice q3 cs.length c3] 0 := by rw [hH2]; exact hblk_new H1 _
  have l2 : H2.length = H1.length + 1 := by rw [hH2]; simp
  have Oc2 := O1.old o2 (by omega)
  have m0 : hcell H2 H.length 0 = some (.int .i64 s) := Oc2.sees.cell 0
  have m1 : hcell H2 H.length 1 = some (.slice q rs.length c) := Oc2.sees.cell 1
  have m2 : hcell H2 H.length 2 = some (.slice q2 rows.length c2) := Oc2.sees.cell 2
  have o12 := o1.trans (o2.mono (by omega))
  obtain ⟨H3, e3, o3⟩ := validate_eq (k := k) hk s c c2 (h.keep o12) (hp.keep o12) F
  have oo := o12.trans (o3.mono (by omega))
  have Oc3 := Oc2.old o3 (by omega)
  have Oh3 := O2.old o3 (by omega)
  have a1 : hcell H3 H.length 1 = some (.slice q rs.length c) := Oc3.sees.cell 1
  have a2 : hcell H3 H.length 2 = some (.slice q2 rows.length c2) := Oc3.sees.cell 2
  have h6 : hcell H3 H1.length 6 = some (.slice q3 cs.length c3) := Oh3.sees.cell 6
  refine ⟨H3, fun R K => ?_, oo⟩
  unfold colorspec_Check colorspec_Check_b
  refine go_halN hH1 (go_halN hH2 (go_ip m0 (go_lp m1 (go_lp m2 ((e3 _ _).trans ?_)))))
  unfold checkI
  by_cases hv : validI s rs rows = 0
  case neg => rw [if_pos hv]; exact go_t (by rw [bne_iff_ne]; exact hv) rfl
  rw [if_neg (by simp [hv])]
  refine go_f (by rw [hv]; rfl) (go_fad (go_l a2 ?_))
  by_cases hz : rows.length = 0
  · rw [if_pos hz]
    refine go_t (by rw [hz]; rfl) (go_fad (go_l h6 (go_fad (go_l a1 ?_))))
    by_cases hcl : cs.length = rs.length
    · rw [if_pos hcl]; exact go_f (by rw [hcl]; exact bne_self_eq_false' _) rfl
    · rw [if_neg hcl]; exact go_t (by rw [bne_iff_ne]; omega) rfl
  · rw [if_neg hz]
    refine go_f (by rw [beq_eq_false_iff_ne]; omega) (go_fad (go_l h6 ?_))
    match cs, hc, h6 with
    | [], _, _ => exact go_t rfl rfl
    | [x], hc, h6 =>
      obtain ⟨b, o, e4, x0, x1, _, _⟩ := one_at (hc.keep oo)
      show _ = K (if x.2.1 = true ∨ x.1 ≠ dep rows.length then 21 else 0) H3
      refine go_f rfl (go_fad (go_l h6 ((e4 _ _).trans (go_fad (go_b x1 ?_)))))
      by_cases hs : x.2.1 = true
      · rw [if_pos (.inl hs)]; exact go_t hs rfl
      · refine go_f (by simpa using hs) (go_fad (go_l h6 ((e4 _ _).trans (go_fad (go_i x0 (go_fad (go_l a2 ((depth_eq (by omega) _ _ _ _ _).trans ?_))))))))
        by_cases hd : x.1 = dep rows.length
        · rw [if_neg (by simp [hs, hd])]; exact go_f (by rw [hd]; exact bne_self_eq_false' _) rfl
        · rw [if_pos (.inr hd)]; exact go_t (by rw [bne_iff_ne]; exact hd) rfl
    | _ :: _ :: l, _, _ => exact go_t (by rw [bne_iff_ne]; simp; omega) rfl
end Go.Proofs.Ytkjcjlembepdkaa.Sh
/- Colorspec, plain law: the channels are all named, once each. -/
set_option linter.unusedVariables false
set_option linter.unusedSimpArgs false
namespace Go.Proofs.Ytkjcjlembepdkaa.Sh
open Go.Proofs.Ytkjcjlembepdkaa.FW
def covB (k : Nat) (rs : List Int) : Bool := (List.range k).all fun i => decide (((i + 1 : Nat) : Int) ∈ rs)
theorem covB_iff (k : Nat) (rs : List Int) : covB k rs = true ↔ ∀ x : Nat, 1 ≤ x → x ≤ k → (x : Int) ∈ rs := by
  unfold covB
  rw [List.all_eq_true]
  constructor
  · intro h x h1 h2
    have := h (x - 1) (List.mem_range.2 (by omega))
    rw [decide_eq_true_eq, show x - 1 + 1 = x from by omega] at this
    exact this
  · intro h i hi
    rw [decide_eq_true_eq]
    exact h (i + 1) (by omega) (by have := List.mem_range.1 hi; omega)
def nz (a : Int) : Nat := if a = 0 then 0 else 1
theorem nzc_cons (a : Int) (l : List Int) : nzc (a :: l) = nz a + nzc l := by
  unfold nzc nz
  rw [List.filter_cons]
  by_cases h : a = 0
  · subst h; simp
  · simp [h]; omega
theorem nzc_nil : nzc [] = 0 := rfl
theorem nz_or (a : Int) : (a = 0 ∧ nz a = 0) ∨ (a ≠ 0 ∧ nz a = 1) := by
  unfold nz; split
  · exact .inl ⟨‹_›, rfl⟩
  · exact .inr ⟨‹_›, rfl⟩
/-- Whether the two ways to ask agree. -/
def agr (rs : List Int) : Bool := !(decide (rs.length ≤ nzc rs + 1) && decide (1 ≤ nzc rs)) || (covB (nzc rs) rs == (inB 0 (nzc rs) rs && decide rs.Nodup))
def fl (l : List (Fin 5)) : List Int := l.map fun x => ((x.val : Nat) : Int)
set_option maxRecDepth 100000 in
theorem agr1 : ∀ a : Fin 5, agr (fl [a]) = true := by decide
set_option maxRecDepth 100000 in
theorem agr2 : ∀ a b : Fin 5, agr (fl [a, b]) = true := by decide
set_option maxRecDepth 100000 in
theorem agr3 : ∀ a b c : Fin 5, agr (fl [a, b, c]) = true := by decide
set_option maxRecDepth 100000 in
theorem agr4 : ∀ a b c d : Fin 5, agr (fl [a, b, c, d]) = true := by decide +kernel
theorem fin_of {a : Int} (h0 : 0 ≤ a) (h4 : a ≤ 4) : ∃ x : Fin 5, ((x.val : Nat) : Int) = a := ⟨⟨a.toNat, by omega⟩, by simp; omega⟩
theorem inB_bd {k : Nat} {rs : List Int} (h : inB 0 (k : Int) rs = true) {x : Int} (hx : x ∈ rs) : 0 ≤ x ∧ x ≤ k := by
  have := List.all_eq_true.1 h x hx
  exact of_decide_eq_true this
theorem nzc_le (rs : List Int) : nzc rs ≤ rs.length := List.length_filter_le _ _
theorem cov_bd1 {a : Int} (hk : 1 ≤ nzc [a]) (h : covB (nzc [a]) [a] = true) : 0 ≤ a ∧ a ≤ 4 := by
  rw [covB_iff] at h
  have h1 := h 1 (by omega) hk
  simp only [List.mem_cons, List.mem_nil_iff, or_false] at h1
  omega
theorem cov_bd2 {a b : Int} (hz : 2 ≤ nzc [a, b] + 1) (h : covB (nzc [a, b]) [a, b] = true) : (0 ≤ a ∧ a ≤ 4) ∧ 0 ≤ b ∧ b ≤ 4 := by
  rw [covB_iff] at h
  have h1 := h 1 (by omega)
  have h2 := h 2 (by omega)
  simp only [List.mem_cons, List.mem_nil_iff, or_false] at h1 h2
  simp only [nzc_cons, nzc_nil] at hz h1 h2
  have ha := nz_or a
  have hb := nz_or b
  generalize nz a = x at *
  generalize nz b = y at *
  omega
theorem cov_bd3 {a b c : Int} (hz : 3 ≤ nzc [a, b, c] + 1) (h : covB (nzc [a, b, c]) [a, b, c] = true) : (0 ≤ a ∧ a ≤ 4) ∧ (0 ≤ b ∧ b ≤ 4) ∧ 0 ≤ c ∧ c ≤ 4 := by
  rw [covB_iff] at h
  have h1 := h 1 (by omega)
  have h2 := h 2 (by omega)
  have h3 := h 3 (by omega)
  simp only [List.mem_cons, List.mem_nil_iff, or_false] at h1 h2 h3
  simp only [nzc_cons, nzc_nil] at hz h1 h2 h3
  have ha := nz_or a
  have hb := nz_or b
  have hc := nz_or c
  generalize nz a = x at *
  generalize nz b = y at *
  generalize nz c = z at *
  rcases ha with ⟨ha, rfl⟩ | ⟨ha, rfl⟩ <;> rcases hb with ⟨hb, rfl⟩ | ⟨hb, rfl⟩ <;> rcases hc with ⟨hc, rfl⟩ | ⟨hc, rfl⟩ <;> omega
theorem cov_bd4 {a b c d : Int} (hz : 4 ≤ nzc [a, b, c, d] + 1) (h : covB (nzc [a, b, c, d]) [a, b, c, d] = true) : (0 ≤ a ∧ a ≤ 4) ∧ (0 ≤ b ∧ b ≤ 4) ∧ (0 ≤ c ∧ c ≤ 4) ∧ 0 ≤ d ∧ d ≤ 4 := by
  rw [covB_iff] at h
  have h1 := h 1 (by omega) (by omega)
  have h2 := h 2 (by omega) (by omega)
  have h3 := h 3 (by omega) (by omega)
  have h4 := h 4 (by omega)
  simp only [List.mem_cons, List.mem_nil_iff, or_false] at h1 h2 h3 h4
  simp only [nzc_cons, nzc_nil] at hz h4
  have ha := nz_or a
  have hb := nz_or b
  have hc := nz_or c
  have hd := nz_or d
  generalize nz a = x at *
  generalize nz b = y at *
  generalize nz c = z at *
  generalize nz d = w at *
  rcases ha with ⟨ha, rfl⟩ | ⟨ha, rfl⟩ <;> rcases hb with ⟨hb, rfl⟩ | ⟨hb, rfl⟩ <;> rcases hc with ⟨hc, rfl⟩ | ⟨hc, rfl⟩ <;> rcases hd with ⟨hd, rfl⟩ | ⟨hd, rfl⟩ <;> first
    | omega
    | (have h4 := h4 (by omega)
       rcases h1 with h1 | h1 | h1 | h1 <;> rcases h2 with h2 | h2 | h2 | h2 <;> first | omega | (rcases h3 with h3 | h3 | h3 | h3 <;> omega))
    | (rcases h1 with h1 | h1 | h1 | h1 <;> rcases h2 with h2 | h2 | h2 | h2 <;> first | omega | (rcases h3 with h3 | h3 | h3 | h3 <;> omega))
theorem cov_bd {rs : List Int} (h1 : 1 ≤ rs.length) (h4 : rs.length ≤ 4) (hz : rs.length ≤ nzc rs + 1) (hk : 1 ≤ nzc rs) (h : covB (nzc rs) rs = true) : ∀ x ∈ rs, 0 ≤ x ∧ x ≤ 4 := by
  match rs, h1, h4 with
  | [a], _, _ => intro x hx; simp at hx; subst hx; exact cov_bd1 hk h
  | [a, b], _, _ => intro x hx; have := cov_bd2 hz h; simp at hx; rcases hx with rfl | rfl <;> omega
  | [a, b, c], _, _ => intro x hx; have := cov_bd3 hz h; simp at hx; rcases hx with rfl | rfl | rfl <;> omega
  | [a, b, c, d], _, _ => intro x hx; have := cov_bd4 hz h; simp at hx; rcases hx with rfl | rfl | rfl | rfl <;> omega
  | _ :: _ :: _ :: _ :: _ :: l, _, h4 => simp at h4
theorem agr_of {rs : List Int} (h1 : 1 ≤ rs.length) (h4 : rs.length ≤ 4) (hb : ∀ x ∈ rs, 0 ≤ x ∧ x ≤ 4) : agr rs = true := by
  match rs, h1, h4, hb with
  | [a], _, _, hb =>
    obtain ⟨x, rfl⟩ := fin_of (hb a (by simp)).1 (hb a (by simp)).2
    exact agr1 x
  | [a, b], _, _, hb =>
    obtain ⟨x, rfl⟩ := fin_of (hb a (by simp)).1 (hb a (by simp)).2
    obtain ⟨y, rfl⟩ := fin_of (hb b (by simp)).1 (hb b (by simp)).2
    exact agr2 x y
  | [a, b, c], _, _, hb =>
    obtain ⟨x, rfl⟩ := fin_of (hb a (by simp)).1 (hb a (by simp)).2
    obtain ⟨y, rfl⟩ := fin_of (hb b (by simp)).1 (hb b (by simp)).2
    obtain ⟨z, rfl⟩ := fin_of (hb c (by simp)).1 (hb c (by simp)).2
    exact agr3 x y z
  | [a, b, c, d], _, _, hb =>
    obtain ⟨x, rfl⟩ := fin_of (hb a (by simp)).1 (hb a (by simp)).2
    obtain ⟨y, rfl⟩ := fin_of (hb b (by simp)).1 (hb b (by simp)).2
    obtain ⟨z, rfl⟩ := fin_of (hb c (by simp)).1 (hb c (by simp)).2
    obtain ⟨w, rfl⟩ := fin_of (hb d (by simp)).1 (hb d (by simp)).2
    exact agr4 x y z w
  | _ :: _ :: _ :: _ :: _ :: l, _, h4, _ => simp at h4
/-- All channels are named exactly if the roles lie within them and differ. -/
theorem cover_eq {rs : List Int} (h1 : 1 ≤ rs.length) (h4 : rs.length ≤ 4) (hz : rs.length ≤ nzc rs + 1) (hk : 1 ≤ nzc rs) : covB (nzc rs) rs = (inB 0 (nzc rs) rs && decide rs.Nodup) := by
  have key : (∀ x ∈ rs, 0 ≤ x ∧ x ≤ 4) → covB (nzc rs) rs = (inB 0 (nzc rs) rs && decide rs.Nodup) := by
    intro hb
    have := agr_of h1 h4 hb
    unfold agr at this
    rw [decide_eq_true hz, decide_eq_true hk] at this
    simpa using this
  cases hc : covB (nzc rs) rs with
  | true => rw [← key (cov_bd h1 h4 hz hk hc), hc]
  | false =>
    cases hi : inB 0 (nzc rs) rs with
    | false => rfl
    | true =>
      have hl := nzc_le rs
      rw [← hc, ← hi]
      exact key fun x hx => by have := inB_bd hi hx; omega
end Go.Proofs.Ytkjcjlembepdkaa.Sh
/- Colorspec: the reference's Valid and Check. -/
set_option linter.unusedVariables false
set_option linter.unusedSimpArgs false
namespace Go.Proofs.Ytkjcjlembepdkaa.Sh
open Go.Proofs.Ytkjcjlembepdkaa.FW
theorem rchan_eq (s : Int) (R : Type) (K : Int → Option R) : R46_Channels s K = K (chan s) := by
  unfold R46_Channels R46_Channels_b chan
  by_cases h1 : s = 1
  · subst h1; rfl
  by_cases h2 : s = 2
  · subst h2; rfl
  by_cases h3 : s = 3
  · subst h3; rfl
  rw [if_neg h1, if_neg (by omega)]
  rw [show (s == 1) = false from beq_eq_false_iff_ne.2 h1, show (s == 2) = false from beq_eq_false_iff_ne.2 h2, show (s == 3) = false from beq_eq_false_iff_ne.2 h3]
  rfl
theorem shl1' (d : Nat) (hd : d ≤ 8) (R : Type) (K : Int → Option R) : hbin .shl .i64 1 (d : Int) K = K ((2 ^ d : Nat) : Int) := by
  have h : d = 0 ∨ d = 1 ∨ d = 2 ∨ d = 3 ∨ d = 4 ∨ d = 5 ∨ d = 6 ∨ d = 7 ∨ d = 8 := by omega
  rcases h with rfl | rfl | rfl | rfl | rfl | rfl | rfl | rfl | rfl <;> rfl
theorem rdepth_l (k : Nat) (l : Nat) : ∀ (m n d : Nat), m < n → 9 = d + m → 1 ≤ d → (∀ d', 1 ≤ d' → d' < d → l ≠ 2 ^ d') → ∀ (R : Type) (KE : Unit → Option R) (KR : Int → Option R), (∀ u, KE u = KR 0) →
    R46_depth_l0 k KE KR n (l : Int) (d : Int) = KR (dep l) := by
  intro m
  induction m with
  | zero =>
    intro n d hn hd h1 hno R KE KR hK
    obtain ⟨n, rfl⟩ : ∃ n', n = n' + 1 := ⟨n - 1, by omega⟩
    unfold R46_depth_l0 R46_depth_l0_b
    refine go_f (decide_eq_false (by omega)) ((hK ()).trans ?_)
    have a1 := hno 1 (by omega) (by omega)
    have a2 := hno 2 (by omega) (by omega)
    have a3 := hno 3 (by omega) (by omega)
    have a4 := hno 4 (by omega) (by omega)
    have a5 := hno 5 (by omega) (by omega)
    have a6 := hno 6 (by omega) (by omega)
    have a7 := hno 7 (by omega) (by omega)
    have a8 := hno 8 (by omega) (by omega)
    unfold dep
    rw [if_neg a1, if_neg a2, if_neg a3, if_neg a4, if_neg a5, if_neg a6, if_neg a7, if_neg a8]
  | succ m ih =>
    intro n d hn hd h1 hno R KE KR hK
    obtain ⟨n, rfl⟩ : ∃ n', n = n' + 1 := ⟨n - 1, by omega⟩
    unfold R46_depth_l0 R46_depth_l0_b
    refine go_t (decide_eq_true (by omega)) ((shl1' d (by omega) _ _).trans ?_)
    by_cases hl : l = 2 ^ d
    · refine go_t (by rw [hl]; exact beq_self_eq_true _) ?_
      subst hl
      have h : d = 1 ∨ d = 2 ∨ d = 3 ∨ d = 4 ∨ d = 5 ∨ d = 6 ∨ d = 7 ∨ d = 8 := by omega
      rcases h with rfl | rfl | rfl | rfl | rfl | rfl | rfl | rfl <;> rfl
    · refine go_f (by rw [beq_eq_false_iff_ne]; omega) ?_
      rw [w64 (n := (d : Int) + 1) (by omega) (by omega)]
      exact ih n (d + 1) (by omega) (by omega) (by omega) (fun d' h2 h3 => by
        by_cases hd : d' = d
        · subst hd; exact hl
        · exact hno d' h2 (by omega)) R KE KR hK
theorem rdepth_eq {k : Nat} (hk : 10 < k) (l : Nat) (R : Type) (K : Int → Option R) : R46_depth k ((l : Nat) : Int) K = K (dep l) := by
  unfold R46_depth R46_depth_b
  exact rdepth_l k l 8 k 1 (by omega) rfl (by omega) (fun d' h1 h2 => by omega) R _ _ (fun _ => rfl)
/-- A color specification at an address. -/
structure At3 (H : Heap) (b : Nat) (s : Int) (q : Option Addr) (l c : Nat) (q2 : Option Addr) (l2 c2 : Nat) : Prop where
  a : hcell H b 0 = some (.int .i64 s)
  b' : hcell H b 1 = some (.slice q l c)
  c' : hcell H b 2 = some (.slice q2 l2 c2)
theorem at3 {H : Heap} {b z : Nat} {s : Int} {q : Option Addr} {l c : Nat} {q2 : Option Addr} {l2 c2 : Nat} (h : Owns H b [.int .i64 s, .slice q l c, .slice q2 l2 c2] z) : At3 H b s q l c q2 l2 c2 := ⟨h.sees.cell 0, h.sees.cell 1, h.sees.cell 2⟩
theorem At3.old {H H' : Heap} {b N : Nat} {s : Int} {q : Option Addr} {l c : Nat} {q2 : Option Addr} {l2 c2 : Nat} (A : At3 H b s q l c q2 l2 c2) (o : Old N H H') (hb : b < N) : At3 H' b s q l c q2 l2 c2 := by
  have h : ∀ i, hcell H' b i = hcell H b i := fun i => by unfold hcell; rw [o.2 b hb]
  exact ⟨(h 0).trans A.a, (h 1).trans A.b', (h 2).trans A.c'⟩
theorem nzc_zero (xs : List Int) (i : Nat) : nzc (xs.take i) ≤ i := by
  exact Nat.le_trans (nzc_le _) (by rw [List.length_take]; omega)
theorem zer_l (k : Nat) {b : Nat} {s : Int} {H : Heap} {q q2 : Option Addr} {l2 c2 : Nat} {xs : List Int} {c : Nat} (A : At3 H b s q xs.length c q2 l2 c2) (h : Shows H q (ints xs)) (hl : xs.length < 1000000) : ∀ (m n i : Nat), m < n → xs.length = i + m → ∀ (R : Type) (KE : Option Addr → Int → Int → Option R),
    R46_roles_l1 k KE n (some ⟨b, 0, none⟩) ((xs.length : Nat) : Int) ((i - nzc (xs.take i) : Nat) : Int) (i : Int) H = KE (some ⟨b, 0, none⟩) ((xs.length : Nat) : Int) ((xs.length - nzc xs : Nat) : Int) := by
  intro m
  induction m with
  | zero =>
    intro n i hn hj R KE
    obtain ⟨n, rfl⟩ : ∃ n', n = n' + 1 := ⟨n - 1, by omega⟩
    unfold R46_roles_l1 R46_roles_l1_b
    rw [List.take_of_length_le (by omega), show i = xs.length from by omega]
    exact go_f (decide_eq_false (by omega)) rfl
  | succ m ih =>
    intro n i hn hj R KE
    obtain ⟨n, rfl⟩ : ∃ n', n = n' + 1 := ⟨n - 1, by omega⟩
    obtain ⟨x, hx⟩ := ex_get (l := xs) (i := i) (by omega)
    obtain ⟨p', e1, e2⟩ := int_at h hx
    have hle := nzc_zero xs i
    have ih' := ih n (i + 1) (by omega) (by omega) R KE
    rw [take_snoc hx] at ih'
    unfold R46_roles_l1 R46_roles_l1_b R46_roles_p2 R46_roles_p2_b
    refine go_t (decide_eq_true (by omega)) (go_fad (go_l A.b' ((e1 _ _).trans ((e2 _ _).trans ?_))))
    by_cases h0 : x = 0
    · have : nzc (xs.take i ++ [x]) = nzc (xs.take i) := by unfold nzc; rw [List.filter_append]; simp [h0]
      rw [this, show i + 1 - nzc (xs.take i) = i - nzc (xs.take i) + 1 from by omega] at ih'
      refine go_t (by rw [h0]; rfl) ?_
      dsimp only
      rw [w64 (n := (i : Int) + 1) (by omega) (by omega), w64 (n := ((i - nzc (xs.take i) : Nat) : Int) + 1) (by omega) (by omega)]
      exact ih'
    · have : nzc (xs.take i ++ [x]) = nzc (xs.take i) + 1 := by unfold nzc; rw [List.filter_append]; simp [h0]
      rw [this, show i + 1 - (nzc (xs.take i) + 1) = i - nzc (xs.take i) from by omega] at ih'
      refine go_f (by rw [beq_eq_false_iff_ne]; exact h0) ?_
      dsimp only
      rw [w64 (n := (i : Int) + 1) (by omega) (by omega)]
      exact ih'
theorem fnd_l (k : Nat) {b : Nat} {s : Int} {H : Heap} {q q2 : Option Addr} {l2 c2 : Nat} {xs : List Int} {c : Nat} (A : At3 H b s q xs.length c q2 l2 c2) (h : Shows H q (ints xs)) (hl : xs.length < 1000000) (kk ch : Int) : ∀ (m n i : Nat), m < n → xs.length = i + m → ∀ (t : Bool) (R : Type) (KE : Option Addr → Int → Int → Int → Bool → Option R),
    R46_roles_l5 k KE n (some ⟨b, 0, none⟩) ((xs.length : Nat) : Int) kk ch t (i : Int) H = KE (some ⟨b, 0, none⟩) ((xs.length : Nat) : Int) kk ch (t || decide (ch ∈ xs.drop i)) := by
  intro m
  induction m with
  | zero =>
    intro n i hn hj t R KE
    obtain ⟨n, rfl⟩ : ∃ n', n = n' + 1 := ⟨n - 1, by omega⟩
    unfold R46_roles_l5 R46_roles_l5_b
    rw [List.drop_eq_nil_of_le (by omega)]
    refine go_f (decide_eq_false (by omega)) ?_
    simp
  | succ m ih =>
    intro n i hn hj t R KE
    obtain ⟨n, rfl⟩ : ∃ n', n = n' + 1 := ⟨n - 1, by omega⟩
    obtain ⟨x, hx⟩ := ex_get (l := xs) (i := i) (by omega)
    obtain ⟨p', e1, e2⟩ := int_at h hx
    rw [drop_cons hx]
    unfold R46_roles_l5 R46_roles_l5_b R46_roles_p6 R46_roles_p6_b
    refine go_t (decide_eq_true (by omega)) ?_
    cases t with
    | true =>
      refine go_t rfl ?_
      dsimp only
      rw [w64 (n := (i : Int) + 1) (by omega) (by omega), Bool.true_or]
      have := ih n (i + 1) (by omega) (by omega) true R KE
      rwa [Bool.true_or] at this
    | false =>
      refine go_f rfl (go_fad (go_l A.b' ((e1 _ _).trans ((e2 _ _).trans ?_))))
      dsimp only
      rw [w64 (n := (i : Int) + 1) (by omega) (by omega), Bool.false_or]
      refine (ih n (i + 1) (by omega) (by omega) (x == ch) R KE).trans ?_
      congr 1
      by_cases hc : x = ch
      · subst hc; simp
      · rw [show (x == ch) = false from beq_eq_false_iff_ne.2 hc, Bool.false_or]
        simp only [List.mem_cons, show ¬ ch = x from fun h => hc h.symm, false_or]
theorem cov_l (k : Nat) {b : Nat} {s : Int} {H : Heap} {q q2 : Option Addr} {l2 c2 : Nat} {xs : List Int} {c : Nat} (A : At3 H b s q xs.length c q2 l2 c2) (h : Shows H q (ints xs)) (hl : xs.length < 1000) (hk : 1000 < k) (kk : Nat) (hkk : kk ≤ 1000) : ∀ (m n i : Nat), m < n → kk + 1 = i + m → 1 ≤ i → (∀ x : Nat, 1 ≤ x → x < i → (x : Int) ∈ xs) → ∀ (R : Type) (KE : Unit → Option R) (KR : Bool → Option R),
    R46_roles_l4 k KE KR n (some ⟨b, 0, none⟩) ((xs.length : Nat) : Int) (kk : Int) (i : Int) H = bif covB kk xs then KE () else KR false := by
  intro m
  induction m with
  | zero =>
    intro n i hn hj h1 hc R KE KR
    obtain ⟨n, rfl⟩ : ∃ n', n = n' + 1 := ⟨n - 1, by omega⟩
    unfold R46_roles_l4 R46_roles_l4_b
    rw [(covB_iff kk xs).2 fun x h2 h3 => hc x h2 (by omega)]
    exact go_f (decide_eq_false (by omega)) rfl
  | succ m ih =>
    intro n i hn hj h1 hc R KE KR
    obtain ⟨n, rfl⟩ : ∃ n', n = n' + 1 := ⟨n - 1, by omega⟩
    unfold R46_roles_l4 R46_roles_l4_b
    refine go_t (decide_eq_true (by omega)) ((fnd_l k A h (by omega) (kk : Int) (i : Int) xs.length k 0 (by omega) (by omega) false _ _).trans ?_)
    try dsimp only
    rw [List.drop_zero, Bool.false_or]
    by_cases hm : (i : Int) ∈ xs
    · rw [decide_eq_true hm]
      refine go_f rfl ?_
      rw [w64 (n := (i : Int) + 1) (by omega) (by omega)]
      exact ih n (i + 1) (by omega) (by omega) (by omega) (fun x h2 h3 => by
        by_cases hx : x = i
        · subst hx; exact hm
        · exact hc x h2 (by omega)) R KE KR
    · rw [decide_eq_false hm, show covB kk xs = false from by
        cases hcb : covB kk xs with
        | false => rfl
        | true => exact (hm ((covB_iff kk xs).1 hcb i h1 (by omega))).elim]
      exact go_t rfl rfl
theorem rroles_eq {k : Nat} (hk : 1000 < k) {H : Heap} {q q2 : Option Addr} {rs : List Int} (s : Int) (c l2 c2 : Nat) (h : Shows H q (ints rs)) (hl : rs.length ≤ 1000) :
    ∃ H', (∀ (R : Type) (K : Bool → Heap → Option R), R46_roles k s q rs.length c q2 l2 c2 H K = K (rolesB s rs) H') ∧ Old H.length H H' := by
  obtain ⟨H1, hH1⟩ : ∃ H1, H1 = H ++ [some (⟨[.int .i64 s, .slice q rs.length c, .slice q2 l2 c2], false, 0⟩ : Blk)] := ⟨_, rfl⟩
  have o1 : Old H.length H H1 := hH1 ▸ Old.app _ _
  have O1 : Owns H1 H.length [.int .i64 s, .slice q rs.length c, .slice q2 l2 c2] 0 := by rw [hH1]; exact hblk_new H _
  have A := at3 O1
  have h1 := h.keep o1
  refine ⟨H1, fun R K => ?_, o1⟩
  unfold R46_roles R46_roles_b R46_roles_p0 R46_roles_p0_b
  refine go_halN hH1 (go_fad (go_l A.b' ?_))
  by_cases c1 : rs.length < 1
  · rw [show rolesB s rs = false from by unfold rolesB; rw [decide_eq_false (by omega)]; rfl]
    exact go_t (decide_eq_true (by omega)) rfl
  refine go_f (decide_eq_false (by omega)) ?_
  by_cases c2' : rs.length > 4
  · rw [show rolesB s rs = false from by unfold rolesB; rw [decide_eq_false (p := rs.length ≤ 4) (by omega), Bool.and_false]; rfl]
    exact go_t (decide_eq_true (by omega)) rfl
  have hn := nzc_le rs
  have zl := zer_l k A h1 (by omega) rs.length k 0 (by omega) (by omega)
  rw [Nat.zero_sub] at zl
  refine go_f (decide_eq_false (by omega)) ((zl _ _).trans ?_)
  have hsub : IntKind.wrap .i64 (((rs.length : Nat) : Int) - ((rs.length - nzc rs : Nat) : Int)) = ((nzc rs : Nat) : Int) := by rw [w64 (by omega) (by omega)]; omega
  try dsimp only
  rw [hsub]
  unfold R46_roles_p3 R46_roles_p3_b
  have b1 : decide (1 ≤ rs.length) = true := decide_eq_true (by omega)
  have b2 : decide (rs.length ≤ 4) = true := decide_eq_true (by omega)
  by_cases d2 : rs.length ≤ nzc rs + 1
  case neg =>
    rw [show rolesB s rs = false from by unfold rolesB; rw [b1, b2, decide_eq_false d2]; simp]
    exact go_t (decide_eq_true (by omega)) rfl
  have d2' : decide (rs.length ≤ nzc rs + 1) = true := decide_eq_true d2
  refine go_f (decide_eq_false (by omega)) ?_
  by_cases d1 : nzc rs < 1
  · rw [show rolesB s rs = false from by unfold rolesB; rw [b1, b2, decide_eq_false (p := 1 ≤ nzc rs) (by omega)]; rfl]
    exact go_t (decide_eq_true (by omega)) rfl
  have d1' : decide (1 ≤ nzc rs) = true := decide_eq_true (by omega)
  have cv := cov_l k A h1 (by omega) hk (nzc rs) (by omega) (nzc rs) k 1 (by omega) (by omega) (by omega) (fun x h2 h3 => by omega)
  have ce := cover_eq (rs := rs) (by omega) (by omega) d2 (by omega)
  refine go_f (decide_eq_false (by omega)) (go_fad (go_i A.a ?_))
  by_cases d3 : s = 4
  · rw [show rolesB s rs = covB (nzc rs) rs from by unfold rolesB; rw [b1, b2, d1', d2', decide_eq_true d3, ce]; simp]
    refine go_f (by rw [d3]; rfl) ((cv _ _ _).trans ?_)
    cases covB (nzc rs) rs <;> rfl
  · refine go_t (by rw [bne_iff_ne]; exact d3) (go_fad (go_i A.a ((rchan_eq _ _ _).trans ?_)))
    by_cases d5 : ((nzc rs : Nat) : Int) = chan s
    case neg =>
      rw [show rolesB s rs = false from by unfold rolesB; rw [b1, b2, d1', d2', decide_eq_false d3, decide_eq_false d5]; rfl]
      exact go_t (by rw [bne_iff_ne]; exact d5) rfl
    rw [show rolesB s rs = covB (nzc rs) rs from by unfold rolesB; rw [b1, b2, d1', d2', decide_eq_false d3, decide_eq_true d5, ce]; simp]
    refine go_f (by rw [d5]; exact bne_self_eq_false' _) ((cv _ _ _).trans ?_)
    cases covB (nzc rs) rs <;> rfl
end Go.Proofs.Ytkjcjlembepdkaa.Sh
/- Colorspec: color specifications that are the same. -/
set_option linter.unusedVariables false
set_option linter.unusedSimpArgs false
namespace Go.Proofs.Ytkjcjlembepdkaa.Sh
open Go.Proofs.Ytkjcjlembepdkaa.FW
theorem equal_l (k : Nat) {H : Heap} {q q' : Option Addr} {xs ys : List Int} (c c' : Nat) (h : Shows H q (ints xs)) (h' : Shows H q' (ints ys)) (hl : xs.length ≤ 100000) (he : xs.length = ys.length) : ∀ (m n i : Nat), m < n → xs.length = i + m → ∀ (R : Type) (KE : Unit → Option R) (KR : Bool → Option R),
    slices_Equal___int_int__l0 k KE KR n q xs.length c q' ys.length c' ((xs.length : Nat) : Int) (i : Int) H = bif decide (xs.drop i = ys.drop i) then KE () else KR false := by
  intro m
  induction m with
  | zero =>
    intro n i hn hj R KE KR
    obtain ⟨n, rfl⟩ : ∃ n', n = n' + 1 := ⟨n - 1, by omega⟩
    unfold slices_Equal___int_int__l0 slices_Equal___int_int__l0_b
    rw [List.drop_eq_nil_of_le (by omega), List.drop_eq_nil_of_le (by omega)]
    exact go_f (decide_eq_false (by omega)) rfl
  | succ m ih =>
    intro n i hn hj R KE KR
    obtain ⟨n, rfl⟩ : ∃ n', n = n' + 1 := ⟨n - 1, by omega⟩
    obtain ⟨x, hx⟩ := ex_get (l := xs) (i := i) (by omega)
    obtain ⟨y, hy⟩ := ex_get (l := ys) (i := i) (by omega)
    obtain ⟨p1, e1, e2⟩ := int_at h hx
    obtain ⟨p2, e3, e4⟩ := int_at h' hy
    rw [drop_cons hx, drop_cons hy]
    unfold slices_Equal___int_int__l0 slices_Equal___int_int__l0_b
    refine go_t (decide_eq_true (by omega)) ((e1 _ _).trans ((e2 _ _).trans ((e3 _ _).trans ((e4 _ _).trans ?_))))
    by_cases hxy : x = y
    · subst hxy
      refine go_ne ?_
      rw [w64 (n := (i : Int) + 1) (by omega) (by omega)]
      refine (ih n (i + 1) (by omega) (by omega) R KE KR).trans ?_
      simp
    · rw [decide_eq_false (by simp [hxy])]
      exact go_t (by rw [bne_iff_ne]; exact hxy) rfl
theorem equal_eq {k : Nat} (hk : 100000 < k) {H : Heap} {q q' : Option Addr} {xs ys : List Int} (c c' : Nat) (h : Shows H q (ints xs)) (h' : Shows H q' (ints ys)) (hl : xs.length ≤ 100000) (R : Type) (K : Bool → Option R) : slices_Equal___int_int_ k q xs.length c q' ys.length c' H K = K (decide (xs = ys)) := by
  unfold slices_Equal___int_int_ slices_Equal___int_int__b
  by_cases he : xs.length = ys.length
  · refine go_f (by rw [he]; exact bne_self_eq_false' _) ((equal_l k c c' h h' hl he xs.length k 0 (by omega) (by omega) R _ _).trans ?_)
    rw [List.drop_zero, List.drop_zero]
    cases decide (xs = ys) <;> rfl
  · rw [decide_eq_false (fun hh => he (congrArg List.length hh))]
    exact go_t (by rw [bne_iff_ne]; omega) rfl
theorem sameInts_l (k : Nat) {H : Heap} {q q' : Option Addr} {xs ys : List Int} (c c' : Nat) (h : Shows H q (ints xs)) (h' : Shows H q' (ints ys)) (hl : xs.length ≤ 100000) (he : xs.length = ys.length) : ∀ (m n i : Nat), m < n → xs.length = i + m → ∀ (R : Type) (KE : Unit → Option R) (KR : Bool → Option R),
    R46_sameInts_l0 k KE KR n q xs.length c q' ys.length c' (i : Int) H = bif decide (xs.drop i = ys.drop i) then KE () else KR false := by
  intro m
  induction m with
  | zero =>
    intro n i hn hj R KE KR
    obtain ⟨n, rfl⟩ : ∃ n', n = n' + 1 := ⟨n - 1, by omega⟩
    unfold R46_sameInts_l0 R46_sameInts_l0_b
    rw [List.drop_eq_nil_of_le (by omega), List.drop_eq_nil_of_le (by omega)]
    exact go_f (decide_eq_false (by omega)) rfl
  | succ m ih =>
    intro n i hn hj R KE KR
    obtain ⟨n, rfl⟩ : ∃ n', n = n' + 1 := ⟨n - 1, by omega⟩
    obtain ⟨x, hx⟩ := ex_get (l := xs) (i := i) (by omega)
    obtain ⟨y, hy⟩ := ex_get (l := ys) (i := i) (by omega)
    obtain ⟨p1, e1, e2⟩ := int_at h hx
    obtain ⟨p2, e3, e4⟩ := int_at h' hy
    rw [drop_cons hx, drop_cons hy]
    unfold R46_sameInts_l0 R46_sameInts_l0_b
    refine go_t (decide_eq_true (by omega)) ((e1 _ _).trans ((e2 _ _).trans ((e3 _ _).trans ((e4 _ _).trans ?_))))
    by_cases hxy : x = y
    · subst hxy
      refine go_ne ?_
      rw [w64 (n := (i : Int) + 1) (by omega) (by omega)]
      refine (ih n (i + 1) (by omega) (by omega) R KE KR).trans ?_
      simp
    · rw [decide_eq_false (by simp [hxy])]
      exact go_t (by rw [bne_iff_ne]; exact hxy) rfl
theorem sameInts_eq {k : Nat} (hk : 100000 < k) {H : Heap} {q q' : Option Addr} {xs ys : List Int} (c c' : Nat) (h : Shows H q (ints xs)) (h' : Shows H q' (ints ys)) (hl : xs.length ≤ 100000) (R : Type) (K : Bool → Option R) : R46_sameInts k q xs.length c q' ys.length c' H K = K (decide (xs = ys)) := by
  unfold R46_sameInts R46_sameInts_b
  by_cases he : xs.length = ys.length
  · refine go_f (by rw [he]; exact bne_self_eq_false' _) ((sameInts_l k c c' h h' hl he xs.length k 0 (by omega) (by omega) R _ _).trans ?_)
    rw [List.drop_zero, List.drop_zero]
    cases decide (xs = ys) <;> rfl
  · rw [decide_eq_false (fun hh => he (congrArg List.length hh))]
    exact go_t (by rw [bne_iff_ne]; omega) rfl
def cons (rows : List Rw) : List (List Int) := rows.map fun r => r.2.2
theorem cons_len (rows : List Rw) : (cons rows).length = rows.length := by simp [cons]
theorem eqf_l (k : Nat) (hk : 100000 < k) {H : Heap} {q q' : Option Addr} {rows rows' : List Rw} (c c' : Nat) (h : PalS H q rows) (h' : PalS H q' rows') (hl : rows.length ≤ 70000) (hr : ∀ r ∈ rows, r.2.2.length ≤ 1000) (he : rows.length = rows'.length) : ∀ (m n i : Nat), m < n → rows.length = i + m → ∀ (R : Type) (KE : Unit → Option R) (KR : Bool → Option R),
    slices_EqualFunc_____int_____int___int___int__v38_l0 k KE KR n q' rows'.length c' q rows.length c ((rows.length : Nat) : Int) (i : Int) H = bif decide (cons (rows.drop i) = cons (rows'.drop i)) then KE () else KR false := by
  intro m
  induction m with
  | zero =>
    intro n i hn hj R KE KR
    obtain ⟨n, rfl⟩ : ∃ n', n = n' + 1 := ⟨n - 1, by omega⟩
    unfold slices_EqualFunc_____int_____int___int___int__v38_l0 slices_EqualFunc_____int_____int___int___int__v38_l0_b
    rw [List.drop_eq_nil_of_le (by omega), List.drop_eq_nil_of_le (by omega)]
    exact go_f (decide_eq_false (by omega)) rfl
  | succ m ih =>
    intro n i hn hj R KE KR
    obtain ⟨n, rfl⟩ : ∃ n', n = n' + 1 := ⟨n - 1, by omega⟩
    obtain ⟨x, hx⟩ := ex_get (l := rows) (i := i) (by omega)
    obtain ⟨y, hy⟩ := ex_get (l := rows') (i := i) (by omega)
    obtain ⟨p1, e1, e2⟩ := row_at h hx
    obtain ⟨p2, e3, e4⟩ := row_at h' hy
    have hxm := List.mem_of_getElem? hx
    have e5 := equal_eq (k := k) hk x.2.1 y.2.1 (h.rw x hxm) (h'.rw y (List.mem_of_getElem? hy)) (by have := hr x hxm; omega)
    rw [drop_cons hx, drop_cons hy]
    unfold slices_EqualFunc_____int_____int___int___int__v38_l0 slices_EqualFunc_____int_____int___int___int__v38_l0_b colorspec_Same_1 colorspec_Same_1_b
    refine go_t (decide_eq_true (by omega)) ((e1 _ _).trans ((e2 _ _).trans ((e3 _ _).trans ((e4 _ _).trans ((e5 _ _).trans ?_)))))
    by_cases hxy : x.2.2 = y.2.2
    · rw [decide_eq_true hxy]
      refine go_f rfl ?_
      rw [w64 (n := (i : Int) + 1) (by omega) (by omega)]
      refine (ih n (i + 1) (by omega) (by omega) R KE KR).trans ?_
      simp [cons, hxy]
    · rw [decide_eq_false hxy, decide_eq_false (by simp [cons, hxy])]
      exact go_t rfl rfl
def sameB (s : Int) (rs : List Int) (rows : List Rw) (s' : Int) (rs' : List Int) (rows' : List Rw) : Bool := decide (s = s') && decide (rs = rs') && decide (cons rows = cons rows')
theorem same_eq {k : Nat} (hk : 100000 < k) {H : Heap} {q q2 q' q2' : Option Addr} {rs rs' : List Int} {rows rows' : List Rw} (s s' : Int) (c c2 c' c2' : Nat) (h : Shows H q (ints rs)) (hp : PalS H q2 rows) (F : FewC rs rows) (h' : Shows H q' (ints rs')) (hp' : PalS H q2' rows') :
    ∃ H', (∀ (R : Type) (K : Bool → Heap → Option R), colorspec_Same k s q rs.length c q2 rows.length c2 s' q' rs'.length c' q2' rows'.length c2' H K = K (sameB s rs rows s' rs' rows') H') ∧ Old H.length H H' := by
  obtain ⟨H1, hH1⟩ : ∃ H1, H1 = H ++ [some (⟨[.int .i64 s, .slice q rs.length c, .slice q2 rows.length c2], false, 0⟩ : Blk)] := ⟨_, rfl⟩
  have o1 : Old H.length H H1 := hH1 ▸ Old.app _ _
  have O1 : Owns H1 H.length [.int .i64 s, .slice q rs.length c, .slice q2 rows.length c2] 0 := by rw [hH1]; exact hblk_new H _
  have l1 : H1.length = H.length + 1 := by rw [hH1]; simp
  obtain ⟨H2, hH2⟩ : ∃ H2, H2 = H1 ++ [some (⟨[.int .i64 s', .slice q' rs'.length c', .slice q2' rows'.length c2'], false, 0⟩ : Blk)] := ⟨_, rfl⟩
  have o2 : Old H1.length H1 H2 := hH2 ▸ Old.app _ _
  have B := at3 (show Owns H2 H1.length [.int .i64 s', .slice q' rs'.length c', .slice q2' rows'.length c2'] 0 by rw [hH2]; exact hblk_new H1 _)
  have A := at3 (O1.old o2 (by omega))
  have oo : Old H.length H H2 := o1.trans (o2.mono (by omega))
  refine ⟨H2, fun R K => ?_, oo⟩
  unfold colorspec_Same colorspec_Same_b sameB
  refine go_halN hH1 (go_halN hH2 (go_fad (go_i A.a (go_fad (go_i B.a ?_)))))
  by_cases hs : s = s'
  case neg => rw [decide_eq_false hs]; exact go_f (by rw [beq_eq_false_iff_ne]; exact hs) rfl
  rw [decide_eq_true hs]
  refine go_t (by rw [hs]; exact beq_self_eq_true _) (go_fad (go_l A.b' (go_fad (go_l B.b' ((equal_eq hk c c' (h.keep oo) (h'.keep oo) (by have := F.a; omega) _ _).trans ?_)))))
  by_cases hr : rs = rs'
  case neg => rw [decide_eq_false hr]; exact go_f rfl rfl
  rw [decide_eq_true hr]
  refine go_t rfl (go_fad (go_l A.c' (go_fad (go_l B.c' ?_))))
  unfold slices_EqualFunc_____int_____int___int___int__v38 slices_EqualFunc_____int_____int___int___int__v38_b
  by_cases hl : rows.length = rows'.length
  · refine go_f (by rw [hl]; exact bne_self_eq_false' _) ((eqf_l k hk c2 c2' (hp.keep oo) (hp'.keep oo) F.b F.c hl rows.length k 0 (by have := F.b; omega) (by omega) R _ _).trans ?_)
    rw [List.drop_zero, List.drop_zero]
    cases decide (cons rows = cons rows') <;> rfl
  · rw [decide_eq_false (p := cons rows = cons rows') (fun hh => hl (by rw [← cons_len, hh, cons_len]))]
    exact go_t (by rw [bne_iff_ne]; omega) rfl
theorem rsame_l (k : Nat) (hk : 100000 < k) {H : Heap} {b b' : Nat} {s s' : Int} {qr qr' q q' : Option Addr} {lr cr lr' cr' c c' : Nat} {rows rows' : List Rw} (A : At3 H b s qr lr cr q rows.length c) (B : At3 H b' s' qr' lr' cr' q' rows'.length c') (h : PalS H q rows) (h' : PalS H q' rows') (hl : rows.length ≤ 70000) (hr : ∀ r ∈ rows, r.2.2.length ≤ 1000) (he : rows.length = rows'.length) : ∀ (m n i : Nat), m < n → rows.length = i + m → ∀ (R : Type) (KE : Unit → Option R) (KR : Bool → Option R),
    R46_Same_l1 k KE KR n (some ⟨b, 0, none⟩) (some ⟨b', 0, none⟩) (i : Int) H = bif decide (cons (rows.drop i) = cons (rows'.drop i)) then KE () else KR false := by
  intro m
  induction m with
  | zero =>
    intro n i hn hj R KE KR
    obtain ⟨n, rfl⟩ : ∃ n', n = n' + 1 := ⟨n - 1, by omega⟩
    unfold R46_Same_l1 R46_Same_l1_b
    rw [List.drop_eq_nil_of_le (by omega), List.drop_eq_nil_of_le (by omega)]
    exact go_fad (go_l A.c' (go_f (decide_eq_false (by omega)) rfl))
  | succ m ih =>
    intro n i hn hj R KE KR
    obtain ⟨n, rfl⟩ : ∃ n', n = n' + 1 := ⟨n - 1, by omega⟩
    obtain ⟨x, hx⟩ := ex_get (l := rows) (i := i) (by omega)
    obtain ⟨y, hy⟩ := ex_get (l := rows') (i := i) (by omega)
    obtain ⟨p1, e1, e2⟩ := row_at h hx
    obtain ⟨p2, e3, e4⟩ := row_at h' hy
    have hxm := List.mem_of_getElem? hx
    have e5 := sameInts_eq (k := k) hk x.2.1 y.2.1 (h.rw x hxm) (h'.rw y (List.mem_of_getElem? hy)) (by have := hr x hxm; omega)
    rw [drop_cons hx, drop_cons hy]
    unfold R46_Same_l1 R46_Same_l1_b
    refine go_fad (go_l A.c' (go_t (decide_eq_true (by omega)) (go_fad (go_l A.c' ((e1 _ _).trans ((e2 _ _).trans (go_fad (go_l B.c' ((e3 _ _).trans ((e4 _ _).trans ((e5 _ _).trans ?_)))))))))))
    by_cases hxy : x.2.2 = y.2.2
    · rw [decide_eq_true hxy]
      refine go_f rfl ?_
      rw [w64 (n := (i : Int) + 1) (by omega) (by omega)]
      refine (ih n (i + 1) (by omega) (by omega) R KE KR).trans ?_
      simp [cons, hxy]
    · rw [decide_eq_false hxy, decide_eq_false (by simp [cons, hxy])]
      exact go_t rfl rfl
theorem rsame_eq {k : Nat} (hk : 100000 < k) {H : Heap} {q q2 q' q2' : Option Addr} {rs rs' : List Int} {rows rows' : List Rw} (s s' : Int) (c c2 c' c2' : Nat) (h : Shows H q (ints rs)) (hp : PalS H q2 rows) (F : FewC rs rows) (h' : Shows H q' (ints rs')) (hp' : PalS H q2' rows') :
    ∃ H', (∀ (R : Type) (K : Bool → Heap → Option R), R46_Same k s q rs.length c q2 rows.length c2 s' q' rs'.length c' q2' rows'.length c2' H K = K (sameB s rs rows s' rs' rows') H') ∧ Old H.length H H' := by
  obtain ⟨H1, hH1⟩ : ∃ H1, H1 = H ++ [some (⟨[.int .i64 s, .slice q rs.length c, .slice q2 rows.length c2], false, 0⟩ : Blk)] := ⟨_, rfl⟩
  have o1 : Old H.length H H1 := hH1 ▸ Old.app _ _
  have O1 : Owns H1 H.length [.int .i64 s, .slice q rs.length c, .slice q2 rows.length c2] 0 := by rw [hH1]; exact hblk_new H _
  have l1 : H1.length = H.length + 1 := by rw [hH1]; simp
  obtain ⟨H2, hH2⟩ : ∃ H2, H2 = H1 ++ [some (⟨[.int .i64 s', .slice q' rs'.length c', .slice q2' rows'.length c2'], false, 0⟩ : Blk)] := ⟨_, rfl⟩
  have o2 : Old H1.length H1 H2 := hH2 ▸ Old.app _ _
  have B := at3 (show Owns H2 H1.length [.int .i64 s', .slice q' rs'.length c', .slice q2' rows'.length c2'] 0 by rw [hH2]; exact hblk_new H1 _)
  have A := at3 (O1.old o2 (by omega))
  have oo : Old H.length H H2 := o1.trans (o2.mono (by omega))
  refine ⟨H2, fun R K => ?_, oo⟩
  unfold R46_Same R46_Same_b R46_Same_p0 R46_Same_p0_b sameB
  refine go_halN hH1 (go_halN hH2 (go_fad (go_i A.a (go_fad (go_i B.a ?_)))))
  by_cases hs : s = s'
  case neg => rw [decide_eq_false hs]; exact go_t (by rw [bne_iff_ne]; exact hs) rfl
  rw [decide_eq_true hs]
  refine go_f (by rw [hs]; exact bne_self_eq_false' _) (go_fad (go_l A.b' (go_fad (go_l B.b' ((sameInts_eq hk c c' (h.keep oo) (h'.keep oo) (by have := F.a; omega) _ _).trans ?_)))))
  by_cases hr : rs = rs'
  case neg => rw [decide_eq_false hr]; exact go_t rfl rfl
  rw [decide_eq_true hr]
  refine go_f rfl (go_fad (go_l A.c' (go_fad (go_l B.c' ?_))))
  by_cases hl : rows.length = rows'.length
  · refine go_f (by rw [hl]; exact bne_self_eq_false' _) ((rsame_l k hk A B (hp.keep oo) (hp'.keep oo) F.b F.c hl rows.length k 0 (by have := F.b; omega) (by omega) R _ _).trans ?_)
    rw [List.drop_zero, List.drop_zero]
    cases decide (cons rows = cons rows') <;> rfl
  · rw [decide_eq_false (p := cons rows = cons rows') (fun hh => hl (by rw [← cons_len, hh, cons_len]))]
    exact go_t (by rw [bne_iff_ne]; omega) rfl
end Go.Proofs.Ytkjcjlembepdkaa.Sh
/- Colorspec: the reference's palette, Valid, Check, Few. -/
set_option linter.unusedVariables false
set_option linter.unusedSimpArgs false
namespace Go.Proofs.Ytkjcjlembepdkaa.Sh
open Go.Proofs.Ytkjcjlembepdkaa.FW
theorem col_l (k : Nat) {b : Nat} {s : Int} {H : Heap} {q q2 : Option Addr} {l c c2 : Nat} {rows : List Rw} (A : At3 H b s q l c q2 rows.length c2) (hp : PalS H q2 rows) {ix : Nat} {r : Rw} (hx : rows[ix]? = some r) (hr : r.2.2.length ≤ 1000) : ∀ (m n i : Nat), m < n → r.2.2.length = i + m → ∀ (R : Type) (KE : Option Addr → Int → Option R) (KR : Bool → Option R),
    R46_palette_l2 k KE KR n (some ⟨b, 0, none⟩) (ix : Int) (i : Int) H = bif inB 0 255 (r.2.2.drop i) then KE (some ⟨b, 0, none⟩) (ix : Int) else KR false := by
  obtain ⟨p, e1, e2⟩ := row_at hp hx
  have hS := hp.rw r (List.mem_of_getElem? hx)
  intro m
  induction m with
  | zero =>
    intro n i hn hj R KE KR
    obtain ⟨n, rfl⟩ : ∃ n', n = n' + 1 := ⟨n - 1, by omega⟩
    unfold R46_palette_l2 R46_palette_l2_b
    rw [List.drop_eq_nil_of_le (by omega)]
    exact go_fad (go_l A.c' ((e1 _ _).trans ((e2 _ _).trans (go_f (decide_eq_false (by omega)) rfl))))
  | succ m ih =>
    intro n i hn hj R KE KR
    obtain ⟨n, rfl⟩ : ∃ n', n = n' + 1 := ⟨n - 1, by omega⟩
    obtain ⟨x, hy⟩ := ex_get (l := r.2.2) (i := i) (by omega)
    obtain ⟨p', e3, e4⟩ := int_at hS hy
    rw [drop_cons hy]
    unfold R46_palette_l2 R46_palette_l2_b R46_palette_p3 R46_palette_p3_b
    refine go_fad (go_l A.c' ((e1 _ _).trans ((e2 _ _).trans (go_t (decide_eq_true (by omega)) ?_))))
    refine go_fad (go_l A.c' ((e1 _ _).trans ((e2 _ _).trans ((e3 _ _).trans ((e4 _ _).trans ?_)))))
    show _ = bif (decide (0 ≤ x ∧ x ≤ 255) && inB 0 255 (r.2.2.drop (i + 1))) then _ else _
    by_cases h1 : x < 0
    · rw [show decide (0 ≤ x ∧ x ≤ 255) = false from decide_eq_false (by omega)]
      exact go_t (decide_eq_true h1) rfl
    · refine go_f (decide_eq_false h1) (go_fad (go_l A.c' ((e1 _ _).trans ((e2 _ _).trans ((e3 _ _).trans ((e4 _ _).trans ?_))))))
      by_cases h2 : x > 255
      · rw [show decide (0 ≤ x ∧ x ≤ 255) = false from decide_eq_false (by omega)]
        exact go_t (decide_eq_true h2) rfl
      · rw [show decide (0 ≤ x ∧ x ≤ 255) = true from decide_eq_true (by omega), Bool.true_and]
        refine go_f (decide_eq_false h2) ?_
        dsimp only
        rw [w64 (n := (i : Int) + 1) (by omega) (by omega)]
        exact ih n (i + 1) (by omega) (by omega) R KE KR
theorem rrows_l (k : Nat) (hk : 1000 < k) {b : Nat} {s : Int} {H : Heap} {q q2 : Option Addr} {l c c2 : Nat} {rows : List Rw} (A : At3 H b s q l c q2 rows.length c2) (hp : PalS H q2 rows) (hl : rows.length ≤ 70000) (hr : ∀ r ∈ rows, r.2.2.length ≤ 1000) : ∀ (m n i : Nat), m < n → rows.length = i + m → ∀ (R : Type) (KE : Unit → Option R) (KR : Bool → Option R),
    R46_palette_l1 k KE KR n (some ⟨b, 0, none⟩) (i : Int) H = bif okP l (rows.drop i) then KE () else KR false := by
  intro m
  induction m with
  | zero =>
    intro n i hn hj R KE KR
    obtain ⟨n, rfl⟩ : ∃ n', n = n' + 1 := ⟨n - 1, by omega⟩
    unfold R46_palette_l1 R46_palette_l1_b
    rw [List.drop_eq_nil_of_le (by omega)]
    exact go_fad (go_l A.c' (go_f (decide_eq_false (by omega)) rfl))
  | succ m ih =>
    intro n i hn hj R KE KR
    obtain ⟨n, rfl⟩ : ∃ n', n = n' + 1 := ⟨n - 1, by omega⟩
    obtain ⟨r, hx⟩ := ex_get (l := rows) (i := i) (by omega)
    obtain ⟨p, e1, e2⟩ := row_at hp hx
    have hrl := hr r (List.mem_of_getElem? hx)
    have cl := col_l k A hp hx hrl r.2.2.length k 0 (by omega) (by omega)
    rw [List.drop_zero] at cl
    rw [drop_cons hx]
    unfold R46_palette_l1 R46_palette_l1_b
    refine go_fad (go_l A.c' (go_t (decide_eq_true (by omega)) (go_fad (go_l A.c' ((e1 _ _).trans ((e2 _ _).trans (go_fad (go_l A.b' ?_))))))))
    show _ = bif ((decide (r.2.2.length = l) && inB 0 255 r.2.2) && okP l (rows.drop (i + 1))) then _ else _
    by_cases h1 : r.2.2.length = l
    · refine go_f (by rw [h1]; exact bne_self_eq_false' _) ((cl _ _ _).trans ?_)
      rw [decide_eq_true h1, Bool.true_and]
      cases h2 : inB 0 255 r.2.2 with
      | false => rfl
      | true =>
        rw [Bool.true_and, cond_true]
        try dsimp only
        rw [w64 (n := (i : Int) + 1) (by omega) (by omega)]
        exact ih n (i + 1) (by omega) (by omega) R KE KR
    · rw [decide_eq_false h1]
      exact go_t (by rw [bne_iff_ne]; omega) rfl
theorem palette_eq {k : Nat} (hk : 80000 < k) {H : Heap} {q q2 : Option Addr} {rs : List Int} {rows : List Rw} (s : Int) (c c2 : Nat) (hp : PalS H q2 rows) (F : FewC rs rows) :
    ∃ H', (∀ (R : Type) (K : Bool → Heap → Option R), R46_palette k s q rs.length c q2 rows.length c2 H K = K (depB rows.length && okP rs.length rows) H') ∧ Old H.length H H' := by
  have fb := F.b
  obtain ⟨H1, hH1⟩ : ∃ H1, H1 = H ++ [some (⟨[.int .i64 s, .slice q rs.length c, .slice q2 rows.length c2], false, 0⟩ : Blk)] := ⟨_, rfl⟩
  have o1 : Old H.length H H1 := hH1 ▸ Old.app _ _
  have A := at3 (show Owns H1 H.length [.int .i64 s, .slice q rs.length c, .slice q2 rows.length c2] 0 by rw [hH1]; exact hblk_new H _)
  have rl := rrows_l k (by omega) A (hp.keep o1) F.b F.c rows.length k 0 (by omega) (by omega)
  rw [List.drop_zero] at rl
  refine ⟨H1, fun R K => ?_, o1⟩
  unfold R46_palette R46_palette_b R46_palette_p0 R46_palette_p0_b
  refine go_halN hH1 (go_fad (go_l A.c' ?_))
  by_cases hz : rows.length = 0
  · refine go_f (decide_eq_false (by omega)) ((rl _ _ _).trans ?_)
    rw [show depB rows.length = true from by unfold depB; rw [decide_eq_true hz]; rfl, Bool.true_and]
    cases okP rs.length rows <;> rfl
  · refine go_t (decide_eq_true (by omega)) (go_fad (go_l A.c' ((rdepth_eq (by omega) _ _ _).trans ?_)))
    by_cases hd : dep rows.length = 0
    · rw [show depB rows.length = false from by unfold depB; rw [decide_eq_false hz, hd]; rfl]
      exact go_t (by rw [hd]; rfl) rfl
    · rw [show depB rows.length = true from by unfold depB; rw [Bool.or_eq_true]; exact .inr (by rw [bne_iff_ne]; exact hd), Bool.true_and]
      refine go_f (by rw [beq_eq_false_iff_ne]; exact hd) ((rl _ _ _).trans ?_)
      cases okP rs.length rows <;> rfl
theorem rvalid_eq {k : Nat} (hk : 80000 < k) {H : Heap} {q q2 : Option Addr} {rs : List Int} {rows : List Rw} (s : Int) (c c2 : Nat) (h : Shows H q (ints rs)) (hp : PalS H q2 rows) (F : FewC rs rows) :
    ∃ H', (∀ (R : Type) (K : Int → Heap → Option R), R46_Valid k s q rs.length c q2 rows.length c2 H K = K (validI s rs rows) H') ∧ Old H.length H H' := by
  obtain ⟨H1, hH1⟩ : ∃ H1, H1 = H ++ [some (⟨[.int .i64 s, .slice q rs.length c, .slice q2 rows.length c2], false, 0⟩ : Blk)] := ⟨_, rfl⟩
  have o1 : Old H.length H H1 := hH1 ▸ Old.app _ _
  have O1 : Owns H1 H.length [.int .i64 s, .slice q rs.length c, .slice q2 rows.length c2] 0 := by rw [hH1]; exact hblk_new H _
  have l1 : H1.length = H.length + 1 := by rw [hH1]; simp
  have A := at3 O1
  obtain ⟨H2, e2, o2⟩ := rroles_eq (k := k) (by omega) s c rows.length c2 (h.keep o1) (by have := F.a; omega) (q2 := q2)
  have B := at3 (O1.old o2 (by omega))
  have oo : Old H.length H H2 := o1.trans (o2.mono (by omega))
  obtain ⟨H3, e3, o3⟩ := palette_eq (k := k) hk s c c2 (q := q) (hp.keep oo) F
  have l2 := o2.1
  by_cases h1 : s < 1
  · refine ⟨H1, fun R K => ?_, o1⟩
    rw [show validI s rs rows = 3 from by unfold validI kn; rw [decide_eq_false (by omega)]; rfl]
    unfold R46_Valid R46_Valid_b R46_Valid_p0 R46_Valid_p0_b
    exact go_halN hH1 (go_fad (go_i A.a (go_t (decide_eq_true h1) rfl)))
  by_cases h4 : s > 4
  · refine ⟨H1, fun R K => ?_, o1⟩
    rw [show validI s rs rows = 3 from by unfold validI kn; rw [decide_eq_false (by omega)]; rfl]
    unfold R46_Valid R46_Valid_b R46_Valid_p0 R46_Valid_p0_b
    exact go_halN hH1 (go_fad (go_i A.a (go_f (decide_eq_false h1) (go_fad (go_i A.a (go_t (decide_eq_true h4) rfl))))))
  have e0 : validI s rs rows = if rolesB s rs && depB rows.length && okP rs.length rows then 0 else 21 := by unfold validI kn; rw [decide_eq_true (by omega)]; rfl
  rw [e0]
  have start : ∀ (R : Type) (K : Int → Heap → Option R) (r : Option R), (bif (!rolesB s rs) then K 21 H2 else ldI .i64 H2 (pad (some ⟨H.length, 0, none⟩) 0) fun n22 => ldL H2 (pad (some ⟨H.length, 0, none⟩) 1) fun q23 l24 c25 => ldL H2 (pad (some ⟨H.length, 0, none⟩) 2) fun q26 l27 c28 => R46_palette k n22 q23 l24 c25 q26 l27 c28 H2 fun t29 H30 => bif (!t29) then K 21 H30 else K 0 H30) = r → R46_Valid k s q rs.length c q2 rows.length c2 H K = r := by
    intro R K r hr
    unfold R46_Valid R46_Valid_b R46_Valid_p0 R46_Valid_p0_b
    exact go_halN hH1 (go_fad (go_i A.a (go_f (decide_eq_false h1) (go_fad (go_i A.a (go_f (decide_eq_false h4) (go_ip A.a (go_lp A.b' (go_lp A.c' ((e2 _ _).trans hr))))))))))
  cases hro : rolesB s rs with
  | false => exact ⟨H2, fun R K => start R K _ (by rw [hro]; exact go_t rfl rfl), oo⟩
  | true =>
    refine ⟨H3, fun R K => start R K _ ?_, oo.trans (o3.mono (by omega))⟩
    rw [hro]
    refine go_f rfl (go_ip B.a (go_lp B.b' (go_lp B.c' ((e3 _ _).trans ?_))))
    rw [Bool.true_and]
    cases depB rows.length && okP rs.length rows <;> rfl
def fewB (rs : List Int) (rows : List Rw) : Bool := decide (rs.length ≤ 20) && decide (rows.length ≤ 300) && rows.all fun r => decide (r.2.2.length ≤ 20)
theorem few_of {rs : List Int} {rows : List Rw} (h : fewB rs rows = true) : FewC rs rows := by
  unfold fewB at h
  simp only [Bool.and_eq_true, decide_eq_true_eq, List.all_eq_true] at h
  exact ⟨by omega, by omega, fun r hr => by have := h.2 r hr; omega⟩
theorem few_l (k : Nat) {b : Nat} {s : Int} {H : Heap} {q q2 : Option Addr} {l c c2 : Nat} {rows : List Rw} (A : At3 H b s q l c q2 rows.length c2) (hp : PalS H q2 rows) (hl : rows.length ≤ 300) : ∀ (m n i : Nat), m < n → rows.length = i + m → ∀ (R : Type) (KE : Unit → Option R) (KR : Bool → Option R),
    R46_Few_l1 k KE KR n (some ⟨b, 0, none⟩) (i : Int) H = bif (rows.drop i).all (fun r => decide (r.2.2.length ≤ 20)) then KE () else KR false := by
  intro m
  induction m with
  | zero =>
    intro n i hn hj R KE KR
    obtain ⟨n, rfl⟩ : ∃ n', n = n' + 1 := ⟨n - 1, by omega⟩
    unfold R46_Few_l1 R46_Few_l1_b
    rw [List.drop_eq_nil_of_le (by omega)]
    exact go_fad (go_l A.c' (go_f (decide_eq_false (by omega)) rfl))
  | succ m ih =>
    intro n i hn hj R KE KR
    obtain ⟨n, rfl⟩ : ∃ n', n = n' + 1 := ⟨n - 1, by omega⟩
    obtain ⟨r, hx⟩ := ex_get (l := rows) (i := i) (by omega)
    obtain ⟨p, e1, e2⟩ := row_at hp hx
    rw [drop_cons hx, List.all_cons]
    unfold R46_Few_l1 R46_Few_l1_b
    refine go_fad (go_l A.c' (go_t (decide_eq_true (by omega)) (go_fad (go_l A.c' ((e1 _ _).trans ((e2 _ _).trans ?_))))))
    by_cases h1 : r.2.2.length ≤ 20
    · rw [decide_eq_true h1, Bool.true_and]
      refine go_f (decide_eq_false (by omega)) ?_
      rw [w64 (n := (i : Int) + 1) (by omega) (by omega)]
      exact ih n (i + 1) (by omega) (by omega) R KE KR
    · rw [decide_eq_false h1]
      exact go_t (decide_eq_true (by omega)) rfl
theorem Few_eq {k : Nat} (hk : 80000 < k) {H : Heap} {q q2 : Option Addr} {rs : List Int} {rows : List Rw} (s : Int) (c c2 : Nat) (hp : PalS H q2 rows) :
    ∃ H', (∀ (R : Type) (K : Bool → Heap → Option R), R46_Few k s q rs.length c q2 rows.length c2 H K = K (fewB rs rows) H') ∧ Old H.length H H' := by
  obtain ⟨H1, hH1⟩ : ∃ H1, H1 = H ++ [some (⟨[.int .i64 s, .slice q rs.length c, .slice q2 rows.length c2], false, 0⟩ : Blk)] := ⟨_, rfl⟩
  have o1 : Old H.length H H1 := hH1 ▸ Old.app _ _
  have A := at3 (show Owns H1 H.length [.int .i64 s, .slice q rs.length c, .slice q2 rows.length c2] 0 by rw [hH1]; exact hblk_new H _)
  refine ⟨H1, fun R K => ?_, o1⟩
  unfold R46_Few R46_Few_b R46_Few_p0 R46_Few_p0_b
  refine go_halN hH1 (go_fad (go_l A.b' ?_))
  unfold fewB
  by_cases h1 : rs.length ≤ 20
  case neg => rw [decide_eq_false h1]; exact go_t (decide_eq_true (by omega)) rfl
  rw [decide_eq_true h1]
  refine go_f (decide_eq_false (by omega)) (go_fad (go_l A.c' ?_))
  by_cases h2 : rows.length ≤ 300
  case neg => rw [decide_eq_false h2]; exact go_t (decide_eq_true (by omega)) rfl
  rw [decide_eq_true h2]
  have fl := few_l k A (hp.keep o1) h2 rows.length k 0 (by omega) (by omega)
  rw [List.drop_zero] at fl
  refine go_f (decide_eq_false (by omega)) ((fl _ _ _).trans ?_)
  cases rows.all fun r => decide (r.2.2.length ≤ 20) <;> rfl
theorem rcheck_eq {k : Nat} (hk : 80000 < k) {H : Heap} {q q2 q3 : Option Addr} {rs : List Int} {rows : List Rw} {cs : List Cm} (s : Int) (c c2 : Nat) (n1 n2 n3 n4 n5 n6 : Int) (c3 : Nat) (h : Shows H q (ints rs)) (hp : PalS H q2 rows) (hc : Shows H q3 (cs.flatMap cmc)) (F : FewC rs rows) :
    ∃ H', (∀ (R : Type) (K : Int → Heap → Option R), R46_Check k s q rs.length c q2 rows.length c2 n1 n2 n3 n4 n5 n6 q3 cs.length c3 H K = K (checkI s rs rows cs) H') ∧ Old H.length H H' := by
  have fb := F.b
  obtain ⟨H1, hH1⟩ : ∃ H1, H1 = H ++ [some (⟨[.int .i64 s, .slice q rs.length c, .slice q2 rows.length c2], false, 0⟩ : Blk)] := ⟨_, rfl⟩
  have o1 : Old H.length H H1 := hH1 ▸ Old.app _ _
  have O1 : Owns H1 H.length [.int .i64 s, .slice q rs.length c, .slice q2 rows.length c2] 0 := by rw [hH1]; exact hblk_new H _
  have l1 : H1.length = H.length + 1 := by rw [hH1]; simp
  obtain ⟨H2, hH2⟩ : ∃ H2, H2 = H1 ++ [some (⟨[.int .i64 n1, .int .i64 n2, .int .i64 n3, .int .i64 n4, .int .i64 n5, .int .i64 n6, .slice q3 cs.length c3], false, 0⟩ : Blk)] := ⟨_, rfl⟩
  have o2 : Old H1.length H1 H2 := hH2 ▸ Old.app _ _
  have O2 : Owns H2 H1.length [.int .i64 n1, .int .i64 n2, .int .i64 n3, .int .i64 n4, .int .i64 n5, .int .i64 n6, .slice q3 cs.length c3] 0 := by rw [hH2]; exact hblk_new H1 _
  have l2 : H2.length = H1.length + 1 := by rw [hH2]; simp
  have Oc2 := O1.old o2 (by omega)
  have m0 : hcell H2 H.length 0 = some (.int .i64 s) := Oc2.sees.cell 0
  have m1 : hcell H2 H.length 1 = some (.slice q rs.length c) := Oc2.sees.cell 1
  have m2 : hcell H2 H.length 2 = some (.slice q2 rows.length c2) := Oc2.sees.cell 2
  have o12 := o1.trans (o2.mono (by omega))
  obtain ⟨H3, e3, o3⟩ := rvalid_eq (k := k) hk s c c2 (h.keep o12) (hp.keep o12) F
  have oo := o12.trans (o3.mono (by omega))
  have Oc3 := Oc2.old o3 (by omega)
  have Oh3 := O2.old o3 (by omega)
  have a1 : hcell H3 H.length 1 = some (.slice q rs.length c) := Oc3.sees.cell 1
  have a2 : hcell H3 H.length 2 = some (.slice q2 rows.length c2) := Oc3.sees.cell 2
  have h6 : hcell H3 H1.length 6 = some (.slice q3 cs.length c3) := Oh3.sees.cell 6
  refine ⟨H3, fun R K => ?_, oo⟩
  unfold R46_Check R46_Check_b
  refine go_halN hH1 (go_halN hH2 (go_ip m0 (go_lp m1 (go_lp m2 ((e3 _ _).trans ?_)))))
  unfold checkI
  by_cases hv : validI s rs rows = 0
  case neg => rw [if_pos hv]; exact go_t (by rw [bne_iff_ne]; exact hv) rfl
  rw [if_neg (by simp [hv])]
  refine go_f (by rw [hv]; rfl) (go_fad (go_l a2 ?_))
  by_cases hz : rows.length = 0
  · rw [if_pos hz]
    refine go_t (by rw [hz]; rfl) (go_fad (go_l h6 (go_fad (go_l a1 ?_))))
    by_cases hcl : cs.length = rs.length
    · rw [if_pos hcl]; exact go_f (by rw [hcl]; exact bne_self_eq_false' _) rfl
    · rw [if_neg hcl]; exact go_t (by rw [bne_iff_ne]; omega) rfl
  · rw [if_neg hz]
    refine go_f (by rw [beq_eq_false_iff_ne]; omega) (go_fad (go_l h6 ?_))
    match cs, hc, h6 with
    | [], _, _ => exact go_t rfl rfl
    | [x], hc, h6 =>
      obtain ⟨b, o, e4, x0, x1, _, _⟩ := one_at (hc.keep oo)
      show _ = K (if x.2.1 = true ∨ x.1 ≠ dep rows.length then 21 else 0) H3
      refine go_f rfl (go_fad (go_l h6 ((e4 _ _).trans (go_fad (go_b x1 ?_)))))
      by_cases hs : x.2.1 = true
      · rw [if_pos (.inl hs)]; exact go_t hs rfl
      · refine go_f (by simpa using hs) (go_fad (go_l h6 ((e4 _ _).trans (go_fad (go_i x0 (go_fad (go_l a2 ((rdepth_eq (by omega) _ _ _).trans ?_))))))))
        by_cases hd : x.1 = dep rows.length
        · rw [if_neg (by simp [hs, hd])]; exact go_f (by rw [hd]; exact bne_self_eq_false' _) rfl
        · rw [if_pos (.inr hd)]; exact go_t (by rw [bne_iff_ne]; exact hd) rfl
    | _ :: _ :: l, _, _ => exact go_t (by rw [bne_iff_ne]; simp; omega) rfl
end Go.Proofs.Ytkjcjlembepdkaa.Sh
/- Colorspec: color specifications and headers that came in. -/
set_option linter.unusedVariables false
set_option linter.unusedSimpArgs false
namespace Go.Proofs.Ytkjcjlembepdkaa.Sh
open Go.Proofs.Ytkjcjlembepdkaa.FW
abbrev dColor : D := .pair (.int .i64) (.pair (.slc (.int .i64)) (.pair (.slc (.slc (.int .i64))) .nil))
abbrev dRect : D := .pair (.int .i64) (.pair (.int .i64) (.pair (.int .i64) (.pair (.int .i64) .nil)))
abbrev dComp : D := .pair (.int .i64) (.pair .bool (.pair (.int .i64) (.pair (.int .i64) .nil)))
abbrev dHeader : D := .pair dRect (.pair (.int .i64) (.pair (.int .i64) (.pair (.slc dComp) .nil)))
def i64s (xs : List Int) : Prop := ∀ v ∈ xs, -9223372036854775808 ≤ v ∧ v ≤ 9223372036854775807
theorem ints_of {H : Heap} : ∀ (es : List (List Value)), (∀ e ∈ es, Shp (.int .i64) H e) → ∃ xs : List Int, xs.length = es.length ∧ es.flatten = ints xs ∧ i64s xs := by
  intro es
  induction es with
  | nil => intro _; exact ⟨[], rfl, rfl, fun v h => by cases h⟩
  | cons e es ih =>
    intro h
    obtain ⟨xs, h1, h2, h3⟩ := ih fun x hx => h x (List.mem_cons_of_mem _ hx)
    obtain ⟨a, rfl, ha⟩ := h e (by simp)
    refine ⟨a :: xs, by simp [h1], by rw [List.flatten_cons, h2]; rfl, fun v hv => ?_⟩
    rcases List.mem_cons.1 hv with rfl | hv
    · exact wf_64 ha
    · exact h3 v hv
theorem rows_of {H : Heap} : ∀ (es : List (List Value)), (∀ e ∈ es, Shp (.slc (.int .i64)) H e) → ∃ rows : List Rw, rows.length = es.length ∧ es.flatten = rows.map rc ∧ ∀ r ∈ rows, Shows H r.1 (ints r.2.2) ∧ i64s r.2.2 := by
  intro es
  induction es with
  | nil => intro _; exact ⟨[], rfl, rfl, fun v h => by cases h⟩
  | cons e es ih =>
    intro h
    obtain ⟨rows, h1, h2, h3⟩ := ih fun x hx => h x (List.mem_cons_of_mem _ hx)
    obtain ⟨q, c, es', rfl, _, _, he, hs⟩ := h e (by simp)
    obtain ⟨xs, g1, g2, g3⟩ := ints_of es' he
    rw [g2] at hs
    refine ⟨(q, c, xs) :: rows, by simp [h1], by rw [List.flatten_cons, h2, ← g1]; rfl, fun v hv => ?_⟩
    rcases List.mem_cons.1 hv with rfl | hv
    · exact ⟨hs, g3⟩
    · exact h3 v hv
theorem comps_of {H : Heap} : ∀ (es : List (List Value)), (∀ e ∈ es, Shp dComp H e) → ∃ cs : List Cm, cs.length = es.length ∧ es.flatten = cs.flatMap cmc := by
  intro es
  induction es with
  | nil => intro _; exact ⟨[], rfl, rfl⟩
  | cons e es ih =>
    intro h
    obtain ⟨cs, h1, h2⟩ := ih fun x hx => h x (List.mem_cons_of_mem _ hx)
    obtain ⟨_, _, rfl, ⟨a, rfl, _⟩, _, _, rfl, ⟨b, rfl⟩, _, _, rfl, ⟨c, rfl, _⟩, _, y4, rfl, ⟨d, rfl, _⟩, hn⟩ := h e (by simp)
    have hn' : y4 = [] := hn
    subst hn'
    exact ⟨(a, b, c, d) :: cs, by simp [h1], by rw [List.flatten_cons, h2]; rfl⟩
theorem color_of {H : Heap} {vs : List Value} (h : Shp dColor H vs) : ∃ (s : Int) (q : Option Addr) (rs : List Int) (c : Nat) (q2 : Option Addr) (rows : List Rw) (c2 : Nat), vs = [.int .i64 s, .slice q rs.length c, .slice q2 rows.length c2] ∧ Shows H q (ints rs) ∧ PalS H q2 rows ∧ i64s rs ∧ (∀ r ∈ rows, i64s r.2.2) ∧ i64s [s] := by
  obtain ⟨_, _, rfl, ⟨s, rfl, hw⟩, _, _, rfl, ⟨q, c, es, rfl, _, _, he, hs⟩, _, y, rfl, ⟨q2, c2, es2, rfl, _, _, he2, hs2⟩, hn⟩ := h
  have hn' : y = [] := hn
  subst hn'
  obtain ⟨rs, g1, g2, g3⟩ := ints_of es he
  obtain ⟨rows, f1, f2, f3⟩ := rows_of es2 he2
  rw [g2] at hs
  rw [f2] at hs2
  exact ⟨s, q, rs, c, q2, rows, c2, by rw [g1, f1]; rfl, hs, ⟨hs2, fun r hr => (f3 r hr).1⟩, g3, fun r hr => (f3 r hr).2, fun v hv => by simp at hv; subst hv; exact wf_64 hw⟩
theorem header_of {H : Heap} {vs : List Value} (h : Shp dHeader H vs) : ∃ (n1 n2 n3 n4 n5 n6 : Int) (q : Option Addr) (cs : List Cm) (c : Nat), vs = [.int .i64 n1, .int .i64 n2, .int .i64 n3, .int .i64 n4, .int .i64 n5, .int .i64 n6, .slice q cs.length c] ∧ Shows H q (cs.flatMap cmc) := by
  obtain ⟨r, _, rfl, ⟨_, _, rfl, ⟨a, rfl, _⟩, _, _, rfl, ⟨b, rfl, _⟩, _, _, rfl, ⟨c, rfl, _⟩, _, y4, rfl, ⟨d, rfl, _⟩, hn⟩, _, _, rfl, ⟨e, rfl, _⟩, _, _, rfl, ⟨f, rfl, _⟩, _, y, rfl, ⟨q, cc, es, rfl, _, _, he, hs⟩, hn2⟩ := h
  have hn' : y4 = [] := hn
  have hn2' : y = [] := hn2
  subst hn' hn2'
  obtain ⟨cs, g1, g2⟩ := comps_of es he
  rw [g2] at hs
  exact ⟨a, b, c, d, e, f, q, cs, cc, by rw [g1]; rfl, hs⟩
end Go.Proofs.Ytkjcjlembepdkaa.Sh
/- Colorspec: bytes; the program's and the reference's Encode. -/
set_option linter.unusedVariables false
set_option linter.unusedSimpArgs false
namespace Go.Proofs.Ytkjcjlembepdkaa.Sh
open Go.Proofs.Ytkjcjlembepdkaa.FW
def byt (l : List Int) : List Value := l.map (.int .u8)
theorem byt_len (l : List Int) : (byt l).length = l.length := by simp [byt]
theorem byt_app (a b : List Int) : byt (a ++ b) = byt a ++ byt b := by simp [byt]
theorem nums_byt (l : List Int) : nums (byt l) = some l := by
  induction l with
  | nil => rfl
  | cons x l ih => show (match nums (byt l) with | some xs => some (x :: xs) | none => none) = _; rw [ih]
theorem b2s_eq {H : Heap} {q : Option Addr} {l : List Int} (h : Shows H q (byt l)) (R : Type) (K : ByteArray → Option R) : hb2s H q l.length K = K (strOfNums l) := by
  unfold hb2s
  have := h.hcells
  rw [byt_len] at this
  rw [this]
  simp only [nums_byt]
theorem ba_beq (s : ByteArray) : (s == s) = true := by
  show (s.data == s.data) = true
  exact beq_self_eq_true _
def w8 (n : Int) : Int := IntKind.wrap .u8 n
theorem w8_in {n : Int} (h0 : 0 ≤ n) (h1 : n ≤ 255) : w8 n = n := IntWalk.u8_in n ⟨h0, h1⟩
/-- A row that has grown, or is full. -/
def Grw (N size : Nat) (H : Heap) (q : Option Addr) (l c : Nat) (cs : List Value) : Prop := Bld N size H q l c cs ∨ (l = c ∧ c < unk ∧ Shows H q cs ∧ l * size = cs.length)
theorem Grw.shows {N size : Nat} {H : Heap} {q : Option Addr} {l c : Nat} {cs : List Value} (h : Grw N size H q l c cs) : Shows H q cs ∧ l * size = cs.length := by
  rcases h with h | ⟨_, _, h, e⟩
  · exact h.shows
  · exact ⟨h, e⟩
theorem Grw.keep {N size : Nat} {H H' : Heap} {q : Option Addr} {l c : Nat} {cs : List Value} (h : Grw N size H q l c cs) (o : Old H.length H H') : Grw N size H' q l c cs := by
  rcases h with h | ⟨e1, e2, h, e⟩
  · exact .inl (h.old o (Nat.le_refl _))
  · exact .inr ⟨e1, e2, h.keep o, e⟩
theorem Grw.app {N size bytes : Nat} {H : Heap} {q p : Option Addr} {l c n : Nat} {cs xs : List Value} (h : Grw N size H q l c cs) (hN : N ≤ H.length) (hp : Shows H p xs) (hx : xs.length = n * size) (hb : (l + n) * bytes ≤ 35184372088832) (hn : 0 < n) :
    ∃ q' H', (∀ (R : Type) (K : Option Addr → Nat → Nat → Heap → Option R), happS size bytes H q l c p n K = K q' (l + n) unk H') ∧ Grw N size H' q' (l + n) unk (cs ++ xs) ∧ Old N H H' ∧ H'.length = H.length + 1 := by
  rcases h with h | ⟨rfl, e2, h, e⟩
  · obtain ⟨q', H', e1, B, o, l'⟩ := h.app hN hp hx hb hn
    exact ⟨q', H', e1, .inl B, o, l'⟩
  · have hc := hp.hcells
    rw [hx] at hc
    have ho := h.hcells
    rw [← e] at ho
    refine ⟨some ⟨H.length, 0, none⟩, H ++ [some ⟨cs ++ xs, false, size⟩], fun R K => ?_, .inl (.inr ⟨H.length, rfl, rfl, hN, (show hblk _ _ = _ from app_new H (some ⟨cs ++ xs, false, size⟩) []), by rw [Nat.add_mul, List.length_append, e, hx]⟩), (Old.app _ _).mono hN, by simp⟩
    unfold happS happ
    rw [hc]
    dsimp only
    rw [if_neg (by omega), if_neg (by omega), if_pos hb, ho]
/-- A byte appended. -/
theorem Grw.one {N : Nat} {H : Heap} {q : Option Addr} {c : Nat} {xs : List Int} (h : Grw N 1 H q xs.length c (byt xs)) (hN : N ≤ H.length) (hl : xs.length ≤ 100000000) (x : Int) :
    ∃ H1 q' H', H1 = H ++ [some (⟨[.int .u8 x], false, 0⟩ : Blk)] ∧ (∀ (R : Type) (K : Option Addr → Nat → Nat → Heap → Option R), happS 1 1 H1 q xs.length c (some ⟨H.length, 0, none⟩) 1 K = K q' (xs.length + 1) unk H') ∧ Grw N 1 H' q' (xs ++ [x]).length unk (byt (xs ++ [x])) ∧ Old N H H' ∧ H.length ≤ H'.length := by
  obtain ⟨H1, hH1⟩ : ∃ H1, H1 = H ++ [some (⟨[.int .u8 x], false, 0⟩ : Blk)] := ⟨_, rfl⟩
  have o1 : Old H.length H H1 := hH1 ▸ Old.app _ _
  have O1 : Owns H1 H.length (byt [x]) 0 := by rw [hH1]; exact hblk_new H _
  have l1 : H1.length = H.length + 1 := by rw [hH1]; simp
  obtain ⟨q', H', e, G, o, l'⟩ := (h.keep o1).app (bytes := 1) (n := 1) (by omega) O1.sees.shows rfl (by omega) (by omega)
  refine ⟨H1, q', H', hH1, e, ?_, (o1.mono hN).trans o, by omega⟩
  rw [List.length_append, byt_app]
  exact G
theorem enc0_l (k : Nat) (p : Option Addr) {N : Nat} {q : Option Addr} {rs : List Int} (c : Nat) (hl : rs.length ≤ 1000) : ∀ (m n i : Nat), m < n → rs.length = i + m → ∀ (H : Heap) (q1 : Option Addr) (c1 : Nat) (bs : List Int), Grw N 1 H q1 bs.length c1 (byt bs) → N ≤ H.length → (∀ a, q = some a → a.block < N) → Shows H q (ints rs) → bs.length + m ≤ 10000000 →
    ∃ H' q' c', (∀ (R : Type) (KE : Option Addr → Option Addr → Nat → Nat → Heap → Option R), colorspec_Encode_l0 k KE n p q1 bs.length c1 q rs.length c ((rs.length : Nat) : Int) (i : Int) H = KE p q' (bs ++ (rs.drop i).map w8).length c' H') ∧ Grw N 1 H' q' (bs ++ (rs.drop i).map w8).length c' (byt (bs ++ (rs.drop i).map w8)) ∧ Old N H H' := by
  intro m
  induction m with
  | zero =>
    intro n i hn hj H q1 c1 bs G hN hq hS hbl
    obtain ⟨n, rfl⟩ : ∃ n', n = n' + 1 := ⟨n - 1, by omega⟩
    have : bs ++ (rs.drop i).map w8 = bs := by rw [List.drop_eq_nil_of_le (by omega)]; simp
    rw [this]
    refine ⟨H, q1, c1, fun R KE => ?_, G, .refl _ _⟩
    unfold colorspec_Encode_l0 colorspec_Encode_l0_b
    exact go_f (decide_eq_false (by omega)) rfl
  | succ m ih =>
    intro n i hn hj H q1 c1 bs G hN hq hS hbl
    obtain ⟨n, rfl⟩ : ∃ n', n = n' + 1 := ⟨n - 1, by omega⟩
    obtain ⟨x, hx⟩ := ex_get (l := rs) (i := i) (by omega)
    obtain ⟨p', e1, e2⟩ := int_at hS hx
    obtain ⟨H1, q2, H2, hH1, e3, G2, o2, l2⟩ := G.one hN (by omega) (w8 x)
    have hS2 := hS.old o2 (.inr hq)
    obtain ⟨H3, q3, c3, e4, G3, o3⟩ := ih n (i + 1) (by omega) (by omega) H2 q2 unk _ G2 (by omega) hq hS2 (by rw [List.length_append, List.length_singleton]; omega)
    have he : bs ++ (rs.drop i).map w8 = bs ++ [w8 x] ++ (rs.drop (i + 1)).map w8 := by rw [drop_cons hx]; simp
    rw [he]
    refine ⟨H3, q3, c3, fun R KE => ?_, G3, o2.trans o3⟩
    unfold colorspec_Encode_l0 colorspec_Encode_l0_b
    refine go_t (decide_eq_true (by omega)) ((e1 _ _).trans ((e2 _ _).trans (go_halN hH1 ((e3 _ _).trans ?_))))
    rw [w64 (n := (i : Int) + 1) (by omega) (by omega)]
    have := e4 R KE
    rw [List.length_append] at this
    exact this
theorem enc2_l (k : Nat) {N : Nat} {q : Option Addr} {rs : List Int} (c : Nat) (hl : rs.length ≤ 1000) (qp : Option Addr) (lp cp : Nat) (np ip : Int) : ∀ (m n i : Nat), m < n → rs.length = i + m → ∀ (H : Heap) (q1 : Option Addr) (c1 : Nat) (bs : List Int), Grw N 1 H q1 bs.length c1 (byt bs) → N ≤ H.length → (∀ a, q = some a → a.block < N) → Shows H q (ints rs) → bs.length + m ≤ 80000000 →
    ∃ H' q' c', (∀ (R : Type) (KE : Option Addr → Nat → Nat → Option Addr → Nat → Nat → Int → Int → Heap → Option R), colorspec_Encode_l2 k KE n q1 bs.length c1 qp lp cp np ip q rs.length c ((rs.length : Nat) : Int) (i : Int) H = KE q' (bs ++ (rs.drop i).map w8).length c' qp lp cp np ip H') ∧ Grw N 1 H' q' (bs ++ (rs.drop i).map w8).length c' (byt (bs ++ (rs.drop i).map w8)) ∧ Old N H H' := by
  intro m
  induction m with
  | zero =>
    intro n i hn hj H q1 c1 bs G hN hq hS hbl
    obtain ⟨n, rfl⟩ : ∃ n', n = n' + 1 := ⟨n - 1, by omega⟩
    have : bs ++ (rs.drop i).map w8 = bs := by rw [List.drop_eq_nil_of_le (by omega)]; simp
    rw [this]
    refine ⟨H, q1, c1, fun R KE => ?_, G, .refl _ _⟩
    unfold colorspec_Encode_l2 colorspec_Encode_l2_b
    exact go_f (decide_eq_false (by omega)) rfl
  | succ m ih =>
    intro n i hn hj H q1 c1 bs G hN hq hS hbl
    obtain ⟨n, rfl⟩ : ∃ n', n = n' + 1 := ⟨n - 1, by omega⟩
    obtain ⟨x, hx⟩ := ex_get (l := rs) (i := i) (by omega)
    obtain ⟨p', e1, e2⟩ := int_at hS hx
    obtain ⟨H1, q2, H2, hH1, e3, G2, o2, l2⟩ := G.one hN (by omega) (w8 x)
    have hS2 := hS.old o2 (.inr hq)
    obtain ⟨H3, q3, c3, e4, G3, o3⟩ := ih n (i + 1) (by omega) (by omega) H2 q2 unk _ G2 (by omega) hq hS2 (by rw [List.length_append, List.length_singleton]; omega)
    have he : bs ++ (rs.drop i).map w8 = bs ++ [w8 x] ++ (rs.drop (i + 1)).map w8 := by rw [drop_cons hx]; simp
    rw [he]
    refine ⟨H3, q3, c3, fun R KE => ?_, G3, o2.trans o3⟩
    unfold colorspec_Encode_l2 colorspec_Encode_l2_b
    refine go_t (decide_eq_true (by omega)) ((e1 _ _).trans ((e2 _ _).trans (go_halN hH1 ((e3 _ _).trans ?_))))
    rw [w64 (n := (i : Int) + 1) (by omega) (by omega)]
    have := e4 R KE
    rw [List.length_append] at this
    exact this
theorem ints_below {H : Heap} {q : Option Addr} {xs : List Int} (h : Shows H q (ints xs)) : xs = [] ∨ Below H.length q := by
  rcases h with h | ⟨b, o, full, rfl, h1, _⟩
  · left; have := congrArg List.length h; rw [ints_len] at this; exact List.eq_nil_of_length_eq_zero (by simpa using this)
  · exact .inr fun a ha => by cases ha; exact h1.lt
def rcon (r : Rw) : List Int := r.2.2.map w8
/-- A palette that lies below a bound. -/
structure PalB (N : Nat) (H : Heap) (q : Option Addr) (rows : List Rw) : Prop where
  p : PalS H q rows
  a : rows = [] ∨ Below N q
  b : ∀ r ∈ rows, r.2.2 = [] ∨ Below N r.1
theorem PalS.below {H : Heap} {q : Option Addr} {rows : List Rw} (h : PalS H q rows) : PalB H.length H q rows := by
  refine ⟨h, ?_, fun r hr => ints_below (h.rw r hr)⟩
  rcases h.sh with h | ⟨b, o, full, rfl, h1, _⟩
  · left; have := congrArg List.length h; exact List.eq_nil_of_length_eq_zero (by simpa using this)
  · exact .inr fun a ha => by cases ha; exact h1.lt
theorem PalB.old {N : Nat} {H H' : Heap} {q : Option Addr} {rows : List Rw} (h : PalB N H q rows) (o : Old N H H') : PalB N H' q rows := by
  refine ⟨⟨h.p.sh.old o ?_, fun r hr => (h.p.rw r hr).old o ?_⟩, h.a, h.b⟩
  · rcases h.a with h | h
    · left; rw [h]; rfl
    · exact .inr h
  · rcases h.b r hr with h | h
    · left; rw [h]; rfl
    · exact .inr h
theorem enc1_l (k : Nat) (hk : 80000 < k) {N : Nat} {q : Option Addr} {rows : List Rw} (c : Nat) (hl : rows.length ≤ 70000) (hr : ∀ r ∈ rows, r.2.2.length ≤ 1000) : ∀ (m n i : Nat), m < n → rows.length = i + m → ∀ (H : Heap) (q1 : Option Addr) (c1 : Nat) (bs : List Int), Grw N 1 H q1 bs.length c1 (byt bs) → N ≤ H.length → PalB N H q rows → bs.length + m * 1000 ≤ 79000000 →
    ∃ H' q' c', (∀ (R : Type) (KE : Option Addr → Nat → Nat → Heap → Option R), colorspec_Encode_l1 k KE n q1 bs.length c1 q rows.length c ((rows.length : Nat) : Int) (i : Int) H = KE q' (bs ++ (rows.drop i).flatMap rcon).length c' H') ∧ Grw N 1 H' q' (bs ++ (rows.drop i).flatMap rcon).length c' (byt (bs ++ (rows.drop i).flatMap rcon)) ∧ Old N H H' := by
  intro m
  induction m with
  | zero =>
    intro n i hn hj H q1 c1 bs G hN hP hbl
    obtain ⟨n, rfl⟩ : ∃ n', n = n' + 1 := ⟨n - 1, by omega⟩
    have : bs ++ (rows.drop i).flatMap rcon = bs := by rw [List.drop_eq_nil_of_le (by omega)]; simp
    rw [this]
    refine ⟨H, q1, c1, fun R KE => ?_, G, .refl _ _⟩
    unfold colorspec_Encode_l1 colorspec_Encode_l1_b
    exact go_f (decide_eq_false (by omega)) rfl
  | succ m ih =>
    intro n i hn hj H q1 c1 bs G hN hP hbl
    obtain ⟨n, rfl⟩ : ∃ n', n = n' + 1 := ⟨n - 1, by omega⟩
    obtain ⟨r, hx⟩ := ex_get (l := rows) (i := i) (by omega)
    obtain ⟨p', e1, e2⟩ := row_at hP.p hx
    have hm := List.mem_of_getElem? hx
    have hrl := hr r hm
    have he : bs ++ (rows.drop i).flatMap rcon = bs ++ r.2.2.map w8 ++ (rows.drop (i + 1)).flatMap rcon := by rw [drop_cons hx]; simp [rcon]
    obtain ⟨H2, q2, c2, e3, G2, o2⟩ : ∃ H' q' c', (∀ (R : Type) (KE : Option Addr → Nat → Nat → Option Addr → Nat → Nat → Int → Int → Heap → Option R), colorspec_Encode_l2 k KE k q1 bs.length c1 q rows.length c ((rows.length : Nat) : Int) (i : Int) r.1 r.2.2.length r.2.1 ((r.2.2.length : Nat) : Int) 0 H = KE q' (bs ++ r.2.2.map w8).length c' q rows.length c ((rows.length : Nat) : Int) (i : Int) H') ∧ Grw N 1 H' q' (bs ++ r.2.2.map w8).length c' (byt (bs ++ r.2.2.map w8)) ∧ Old N H H' := by
      rcases hP.b r hm with hz | hz
      · obtain ⟨k', rfl⟩ : ∃ k', k = k' + 1 := ⟨k - 1, by omega⟩
        rw [hz]
        refine ⟨H, q1, c1, fun R KE => ?_, by simpa using G, .refl _ _⟩
        unfold colorspec_Encode_l2 colorspec_Encode_l2_b
        exact (go_f (decide_eq_false (by simp)) rfl).trans (by simp)
      · have := enc2_l k (q := r.1) (rs := r.2.2) r.2.1 hrl q rows.length c ((rows.length : Nat) : Int) (i : Int) r.2.2.length k 0 (by omega) (by omega) H q1 c1 bs G hN hz (hP.p.rw r hm) (by omega)
        rw [List.drop_zero] at this
        exact this
    obtain ⟨H3, q3, c3, e4, G3, o3⟩ := ih n (i + 1) (by omega) (by omega) H2 q2 c2 _ G2 (by have := o2.1; omega) (hP.old o2) (by rw [List.length_append, List.length_map]; omega)
    rw [he]
    refine ⟨H3, q3, c3, fun R KE => ?_, G3, o2.trans o3⟩
    unfold colorspec_Encode_l1 colorspec_Encode_l1_b
    refine go_t (decide_eq_true (by omega)) ((e1 _ _).trans ((e2 _ _).trans ((e3 _ _).trans ?_)))
    try dsimp only
    rw [w64 (n := (i : Int) + 1) (by omega) (by omega)]
    exact e4 R KE
/-- The bytes of a color specification. -/
def encB (s : Int) (rs : List Int) (rows : List Rw) : List Int := [w8 s, w8 ((rs.length : Nat) : Int)] ++ rs.map w8 ++ [w8 (Int.fdiv ((rows.length : Nat) : Int) 256), w8 ((rows.length : Nat) : Int)] ++ rows.flatMap rcon
def encR (s : Int) (rs : List Int) (rows : List Rw) : List Int := if validI s rs rows = 0 then encB s rs rows else []
theorem valid_few {s : Int} {rs : List Int} {rows : List Rw} (h : validI s rs rows = 0) : 1 ≤ rs.length ∧ rs.length ≤ 4 := by
  unfold validI at h
  split at h
  · split at h
    · rename_i h2
      simp only [Bool.and_eq_true, rolesB, decide_eq_true_eq] at h2
      omega
    · cases h
  · cases h
--BEGIN
theorem encode_eq {k : Nat} (hk : 80000 < k) {H : Heap} {q q2 : Option Addr} {rs : List Int} {rows : List Rw} (s : Int) (c c2 : Nat) (h : Shows H q (ints rs)) (hp : PalS H q2 rows) (F : FewC rs rows) :
    ∃ H' q' c', (∀ (R : Type) (K : Option Addr → Nat → Nat → Int → Heap → Option R), colorspec_Encode k s q rs.length c q2 rows.length c2 H K = K q' (encR s rs rows).length c' (validI s rs rows) H') ∧ Old H.length H H' ∧ Shows H' q' (byt (encR s rs rows)) ∧ (c' = unk ∨ (encR s rs rows).length ≤ c' ∧ c' < unk) := by
  have fb := F.b
  have fa := F.a
  obtain ⟨H1, hH1⟩ : ∃ H1, H1 = H ++ [some (⟨[.int .i64 s, .slice q rs.length c, .slice q2 rows.length c2], false, 0⟩ : Blk)] := ⟨_, rfl⟩
  have o1 : Old H.length H H1 := hH1 ▸ Old.app _ _
  have O1 : Owns H1 H.length [.int .i64 s, .slice q rs.length c, .slice q2 rows.length c2] 0 := by rw [hH1]; exact hblk_new H _
  have l1 : H1.length = H.length + 1 := by rw [hH1]; simp
  have A := at3 O1
  obtain ⟨H2, e2, o2⟩ := validate_eq (k := k) hk s c c2 (h.keep o1) (hp.keep o1) F
  have oo : Old H.length H H2 := o1.trans (o2.mono (by omega))
  have l2 := o2.1
  by_cases hv : validI s rs rows = 0
  case neg =>
    have he : encR s rs rows = [] := by unfold encR; rw [if_neg hv]
    rw [he]
    refine ⟨H2, none, 0, fun R K => ?_, oo, .inl rfl, .inr ⟨Nat.le_refl _, by unfold unk; omega⟩⟩
    unfold colorspec_Encode colorspec_Encode_b
    exact go_halN hH1 (go_ip A.a (go_lp A.b' (go_lp A.c' ((e2 _ _).trans (go_t (by rw [bne_iff_ne]; exact hv) rfl)))))
  have he : encR s rs rows = encB s rs rows := by unfold encR; rw [if_pos hv]
  rw [he, hv]
  have B := at3 (O1.old o2 (by omega))
  obtain ⟨H3, hH3⟩ : ∃ H3, H3 = H2 ++ [some (⟨[.int .u8 (w8 s), .int .u8 (w8 ((rs.length : Nat) : Int))], false, 0⟩ : Blk)] := ⟨_, rfl⟩
  have o3 : Old H2.length H2 H3 := hH3 ▸ Old.app _ _
  have O3 : Owns H3 H2.length (byt [w8 s, w8 ((rs.length : Nat) : Int)]) 0 := by rw [hH3]; exact hblk_new H2 _
  have l3 : H3.length = H2.length + 1 := by rw [hH3]; simp
  have C3 := at3 ((O1.old o2 (by omega)).old o3 (by omega))
  have o03 := oo.trans (o3.mono (by omega))
  have G3 : Grw H2.length 1 H3 (some ⟨H2.length, 0, none⟩) [w8 s, w8 ((rs.length : Nat) : Int)].length 2 (byt [w8 s, w8 ((rs.length : Nat) : Int)]) := .inr ⟨rfl, by unfold unk; omega, O3.sees.shows, rfl⟩
  have hne := valid_few hv
  have hq2 : ∀ a, q = some a → a.block < H2.length := by
    intro a ha
    rcases ints_below h with h | h
    · rw [h] at hne; simp at hne
    · have := h a ha; omega
  --E0
  obtain ⟨H4, q4, c4, e4, G4, o4⟩ := enc0_l k (some ⟨H.length, 0, none⟩) c fa rs.length k 0 (by omega) (by omega) H3 _ 2 _ G3 (by omega) hq2 (h.keep o03) (by simp; omega)
  --E0end
  rw [List.drop_zero] at e4 G4
  have l4 := o4.1
  have o04 : Old H.length H H4 := o03.trans (o4.mono (by omega))
  have O4 : Owns H4 H.length [.int .i64 s, .slice q rs.length c, .slice q2 rows.length c2] 0 := by
    have := (O1.old o2 (by omega)).old o3 (by omega)
    exact this.old o4 (by omega)
  have D4 := at3 O4
  obtain ⟨H5, hH5⟩ : ∃ H5, H5 = H4 ++ [some (⟨[.int .u8 (w8 (Int.fdiv ((rows.length : Nat) : Int) 256)), .int .u8 (w8 ((rows.length : Nat) : Int))], false, 0⟩ : Blk)] := ⟨_, rfl⟩
  have o5 : Old H4.length H4 H5 := hH5 ▸ Old.app _ _
  have O5 : Owns H5 H4.length (byt [w8 (Int.fdiv ((rows.length : Nat) : Int) 256), w8 ((rows.length : Nat) : Int)]) 0 := by rw [hH5]; exact hblk_new H4 _
  have l5 : H5.length = H4.length + 1 := by rw [hH5]; simp
  obtain ⟨q6, H6, e6, G6, o6, l6⟩ := (G4.keep o5).app (bytes := 1) (n := 2) (by omega) O5.sees.shows rfl (by simp; omega) (by omega)
  have o56 : Old H2.length H4 H6 := (o5.mono (by omega)).trans o6
  have o06 : Old H.length H H6 := o04.trans (o56.mono (by omega))
  have E6 := at3 (O4.old o56 (by omega))
  have G6' : Grw H2.length 1 H6 q6 ([w8 s, w8 ((rs.length : Nat) : Int)] ++ rs.map w8 ++ [w8 (Int.fdiv ((rows.length : Nat) : Int) 256), w8 ((rows.length : Nat) : Int)]).length unk (byt ([w8 s, w8 ((rs.length : Nat) : Int)] ++ rs.map w8 ++ [w8 (Int.fdiv ((rows.length : Nat) : Int) 256), w8 ((rows.length : Nat) : Int)])) := by
    rw [List.length_append, byt_app]
    exact G6
  have P6 : PalB H2.length H6 q2 rows := by
    have := (hp.keep oo).below
    exact this.old ((o3.mono (by omega)).trans (o4.trans o56))
  --E1
  obtain ⟨H7, q7, c7, e7, G7, o7⟩ := enc1_l k hk c2 fb F.c rows.length k 0 (by omega) (by omega) H6 q6 unk _ G6' (by omega) P6 (by simp; omega)
  --E1end
  rw [List.drop_zero] at e7 G7
  refine ⟨H7, q7, c7, fun R K => ?_, o06.trans (o7.mono (by omega)), G7.shows.1, ?cap⟩
  case cap =>
    rcases G7 with (⟨_, h2, h3, _⟩ | ⟨b, _, h2, _⟩) | ⟨h1, h2, _⟩
    · exact .inr ⟨by rw [h3]; exact Nat.le_of_eq h2, by rw [h3]; unfold unk; omega⟩
    · exact .inl h2
    · exact .inr ⟨Nat.le_of_eq h1, h2⟩
  have e5 : colorspec_Encode k s q rs.length c q2 rows.length c2 H K = happS 1 1 H5 q4 ([w8 s, w8 ((rs.length : Nat) : Int)] ++ rs.map w8).length c4 (some ⟨H4.length, 0, none⟩) 2 fun q50 l51 c52 H53 => hfad 2 (some ⟨H.length, 0, none⟩) fun p54 => ldL H53 p54 fun q55 l56 c57 => colorspec_Encode_l1 k (fun q61 l62 c63 H64 => K q61 l62 c63 0 H64) k q50 l51 c52 q55 l56 c57 ((l56 : Nat) : Int) 0 H53 := by
    unfold colorspec_Encode colorspec_Encode_b
    refine go_halN hH1 (go_ip A.a (go_lp A.b' (go_lp A.c' ((e2 _ _).trans (go_f (by rw [hv]; rfl) (go_fad (go_i B.a (go_fad (go_l B.b' (go_halN hH3 (go_fad (go_l C3.b' ((e4 _ _).trans ?_)))))))))))))
    exact go_fad (go_l D4.c' (go_fad (go_l D4.c' (go_halN hH5 rfl))))
  rw [e5]
  refine (e6 _ _).trans (go_fad (go_l E6.c' ?_))
  have := e7 R (fun q61 l62 c63 H64 => K q61 l62 c63 0 H64)
  rw [List.length_append (bs := [_, _])] at this
  exact this
--END
end Go.Proofs.Ytkjcjlembepdkaa.Sh
/- Colorspec: bytes that are read as numbers. -/
set_option linter.unusedVariables false
set_option linter.unusedSimpArgs false
namespace Go.Proofs.Ytkjcjlembepdkaa.Sh
open Go.Proofs.Ytkjcjlembepdkaa.FW
theorem byt_at {H : Heap} {q : Option Addr} {xs : List Int} (h : Shows H q (byt xs)) {i : Nat} {x : Int} (hi : xs[i]? = some x) :
    ∃ p, (∀ (R : Type) (K : Option Addr → Option R), hidx q xs.length (i : Int) 1 K = K p) ∧ ∀ (R : Type) (K : Int → Option R), ldI .u8 H p K = K x := by
  have hlt : i < xs.length := (List.getElem?_eq_some_iff.1 hi).1
  obtain ⟨p, e, _, m⟩ := h.idx (l := xs.length) (size := 1) (by rw [byt_len]; omega) (i := (i : Int)) (by omega) (by omega) (by omega)
  exact ⟨p, e, fun R K => ldI_of (m _ (by rw [Int.toNat_natCast, Nat.mul_one]; simp [byt, hi])) rfl K⟩
/-- A row of one's own, one appended: what is left alone. -/
theorem Bld.app2 {N size bytes : Nat} {H : Heap} {q p : Option Addr} {l c n : Nat} {cs xs : List Value} (h : Bld N size H q l c cs) (hp : Shows H p xs) (hx : xs.length = n * size) (hb : (l + n) * bytes ≤ 35184372088832) (hn : 0 < n) :
    ∃ H', (∀ (R : Type) (K : Option Addr → Nat → Nat → Heap → Option R), happS size bytes H q l c p n K = K (some ⟨H.length, 0, none⟩) (l + n) unk H') ∧ Owns H' H.length (cs ++ xs) size ∧ (∀ i, i < H.length → (∀ a, q = some a → a.block ≠ i) → hblk H' i = hblk H i) ∧ H'.length = H.length + 1 ∧ (l + n) * size = (cs ++ xs).length := by
  have hc := hp.hcells
  rw [hx] at hc
  rcases h with ⟨rfl, rfl, rfl, rfl⟩ | ⟨b, rfl, rfl, h3, h4, h5⟩
  · refine ⟨H ++ [some ⟨xs, false, size⟩], fun R K => ?_, (show hblk _ _ = _ from app_new H (some ⟨xs, false, size⟩) []), fun i hi _ => app_old hi, by simp, by simp [hx]⟩
    unfold happS happ
    rw [hc]
    simp only
    rw [if_neg (by unfold unk; omega), if_neg (by omega), if_pos hb]
    simp [FW.hcells]
  · have hblt := h4.sees.lt
    have h4' : hblk H b = some ⟨cs, false, size⟩ := h4
    refine ⟨hset H b none ++ [some ⟨cs ++ xs, false, size⟩], fun R K => ?_, ?_, fun i hi hne => ?_, by simp [hset_length], by rw [Nat.add_mul, h5, List.length_append, hx]⟩
    · unfold happS happ
      rw [hc]
      simp only [if_true, h4', cond_false, h5, hb, true_and, and_self]
    · have := app_new (hset H b none) (some ⟨cs ++ xs, false, size⟩) []
      rwa [hset_length] at this
    · rw [app_old (by rw [hset_length]; omega), hset_get, if_neg (fun hh => hne _ rfl hh.1.symm)]
theorem Bld.lay {H H4 : Heap} {q : Option Addr} {l c sz : Nat} {cs : List Value} (b4 : Bld (roH H).length sz H4 q l c cs) : Bld H.length sz (H ++ H4.drop H.length) q l c cs := by
  rcases b4 with h | ⟨b, z1, z2, z3, z4, z5⟩
  · exact .inl h
  · rw [roH_length] at z3
    refine .inr ⟨b, z1, z2, z3, ?_, z5⟩
    unfold Owns at z4 ⊢
    rw [hblk_get] at z4 ⊢
    rw [List.getElem?_append_right z3, List.getElem?_drop, show H.length + (b - H.length) = b from by omega]
    exact z4
theorem numb_l (k : Nat) {N : Nat} {q : Option Addr} {bs : List Int} (c : Nat) (hl : bs.length ≤ 100000) (hbs : ∀ x ∈ bs, 0 ≤ x ∧ x ≤ 255) : ∀ (m n i : Nat), m < n → bs.length = i + m → ∀ (H : Heap) (q1 : Option Addr) (c1 : Nat), Bld N 1 H q1 i c1 (ints (bs.take i)) → N ≤ H.length → (bs = [] ∨ Below N q) → Shows H q (byt bs) →
    ∃ H' q' c', (∀ (R : Type) (KE : Option Addr → Nat → Nat → Heap → Option R), colorspec_numbers_l0 k KE n q1 i c1 q bs.length c ((bs.length : Nat) : Int) (i : Int) H = KE q' bs.length c' H') ∧ Bld N 1 H' q' bs.length c' (ints bs) ∧ Old N H H' := by
  intro m
  induction m with
  | zero =>
    intro n i hn hj H q1 c1 B hN hq hS
    obtain ⟨n, rfl⟩ : ∃ n', n = n' + 1 := ⟨n - 1, by omega⟩
    have hi : i = bs.length := by omega
    subst hi
    rw [List.take_of_length_le (Nat.le_refl _)] at B
    refine ⟨H, q1, c1, fun R KE => ?_, B, .refl _ _⟩
    unfold colorspec_numbers_l0 colorspec_numbers_l0_b
    exact go_f (decide_eq_false (by omega)) rfl
  | succ m ih =>
    intro n i hn hj H q1 c1 B hN hq hS
    obtain ⟨n, rfl⟩ : ∃ n', n = n' + 1 := ⟨n - 1, by omega⟩
    obtain ⟨x, hx⟩ := ex_get (l := bs) (i := i) (by omega)
    obtain ⟨p', e1, e2⟩ := byt_at hS hx
    have hxb := hbs x (List.mem_of_getElem? hx)
    obtain ⟨H1, hH1⟩ : ∃ H1, H1 = H ++ [some (⟨[.int .i64 (IntKind.wrap .i64 x)], false, 0⟩ : Blk)] := ⟨_, rfl⟩
    have o1 : Old H.length H H1 := hH1 ▸ Old.app _ _
    have O1 : Owns H1 H.length (ints [x]) 0 := by rw [hH1, w64 (n := x) (by omega) (by omega)]; exact hblk_new H _
    have l1 : H1.length = H.length + 1 := by rw [hH1]; simp
    obtain ⟨q2, H2, e3, B2, o2, l2⟩ := (B.old o1 (Nat.le_refl _)).app (bytes := 8) (n := 1) (by omega) O1.sees.shows rfl (by omega) (by omega)
    have o02 : Old N H H2 := (o1.mono hN).trans o2
    have B2' : Bld N 1 H2 q2 (i + 1) unk (ints (bs.take (i + 1))) := by rw [take_snoc hx]; simpa [ints] using B2
    obtain ⟨H3, q3, c3, e4, B3, o3⟩ := ih n (i + 1) (by omega) (by omega) H2 q2 unk B2' (by omega) hq (hS.old o02 (by
      rcases hq with h | h
      · left; rw [h]; rfl
      · exact .inr h))
    refine ⟨H3, q3, c3, fun R KE => ?_, B3, o02.trans o3⟩
    unfold colorspec_numbers_l0 colorspec_numbers_l0_b
    refine go_t (decide_eq_true (by omega)) ((e1 _ _).trans ((e2 _ _).trans (go_halN hH1 ((e3 _ _).trans ?_))))
    rw [w64 (n := (i : Int) + 1) (by omega) (by omega)]
    exact e4 R KE
theorem byt_below {H : Heap} {q : Option Addr} {xs : List Int} (h : Shows H q (byt xs)) : xs = [] ∨ Below H.length q := by
  rcases h with h | ⟨b, o, full, rfl, h1, _⟩
  · left; have := congrArg List.length h; rw [byt_len] at this; exact List.eq_nil_of_length_eq_zero (by simpa using this)
  · exact .inr fun a ha => by cases ha; exact h1.lt
/-- Numbers read apart, laid behind a heap. -/
theorem numbers_eq {k : Nat} (hk : 100000 < k) {H : Heap} {q : Option Addr} {bs : List Int} (c : Nat) (h : Shows H q (byt bs)) (hl : bs.length ≤ 100000) (hbs : ∀ x ∈ bs, 0 ≤ x ∧ x ≤ 255) :
    ∃ H1 G q' c', (∀ (R : Type) (K : Option Addr → Nat → Nat → Heap → Option R), colorspec_numbers k q bs.length c (roH H) K = K q' bs.length c' H1) ∧ G = H ++ H1.drop H.length ∧ Bld H.length 1 G q' bs.length c' (ints bs) ∧ Old H.length H G := by
  have hb := byt_below h.ro
  obtain ⟨H1, q1, c1, e, B, o⟩ := numb_l k (N := (roH H).length) c hl hbs bs.length k 0 (by omega) (by omega) (roH H) none 0 (.nil _ _ _) (Nat.le_refl _) hb h.ro
  refine ⟨H1, _, q1, c1, fun R K => ?_, rfl, Bld.lay B, Old.app _ _⟩
  unfold colorspec_numbers colorspec_numbers_b
  exact e _ _
/-- A part of the bytes. -/
theorem part_eq {H : Heap} {q : Option Addr} {bs : List Int} {c : Nat} (h : Shows H q (byt bs)) (hc : c = unk ∨ bs.length ≤ c ∧ c < unk) (hu : bs.length < unk) {lo hi : Nat} (h1 : 0 < lo) (h2 : lo ≤ hi) (h3 : hi ≤ bs.length) (h4 : lo < bs.length) :
    ∃ q' c', (∀ (R : Type) (K : Option Addr → Nat → Nat → Option R), hslc 1 q bs.length c (some (lo : Int)) (some (hi : Int)) none K = K q' ((bs.drop lo).take (hi - lo)).length c') ∧ Shows H q' (byt ((bs.drop lo).take (hi - lo))) := by
  rw [show ((bs.drop lo).take (hi - lo)).length = hi - lo from by simp; omega]
  rcases h with h | ⟨b, o, full, rfl, hs, g1, g2⟩
  · have := congrArg List.length h; rw [byt_len] at this; simp at this; subst this; simp at h4
  have hsub : Shows H (some ⟨b, o + lo, none⟩) (byt ((bs.drop lo).take (hi - lo))) := by
    refine .inr ⟨b, o + lo, full, rfl, hs, ?_, ?_⟩
    · rw [byt_len] at g1 ⊢; simp; omega
    · rw [byt_len, List.length_take, List.length_drop]
      have : byt ((bs.drop lo).take (hi - lo)) = ((byt bs).drop lo).take (hi - lo) := by simp [byt, List.map_take, List.map_drop]
      rw [this, ← g2, List.drop_take, List.drop_drop, List.take_take, byt_len]
      try (congr 1; omega)
  rcases hc with rfl | ⟨hc1, hc2⟩
  · refine ⟨_, unk, fun R K => ?_, hsub⟩
    unfold hslc
    dsimp only [Option.getD_some, Option.getD_none, Option.isSome_none, Option.isSome_some]
    rw [if_pos ⟨by omega, by omega, by omega, by rw [if_pos rfl]; exact ⟨rfl, .inr ⟨rfl, by omega⟩⟩⟩, if_pos ⟨rfl, rfl⟩, if_neg (by omega), if_pos ⟨by omega, by omega⟩]
    simp
  · by_cases hm : c = lo
    · omega
    · refine ⟨_, c - lo, fun R K => ?_, hsub⟩
      unfold hslc
      dsimp only [Option.getD_some, Option.getD_none, Option.isSome_none, Option.isSome_some]
      rw [if_pos ⟨by omega, by omega, by omega, by rw [if_neg (by omega)]; exact ⟨by omega, hc2⟩⟩, if_neg (fun hh => by omega), if_neg (by omega), if_neg (by omega)]
      simp
end Go.Proofs.Ytkjcjlembepdkaa.Sh
/- Colorspec: the program's Decode. -/
set_option linter.unusedVariables false
set_option linter.unusedSimpArgs false
namespace Go.Proofs.Ytkjcjlembepdkaa.Sh
open Go.Proofs.Ytkjcjlembepdkaa.FW
def chunks (n : Nat) : Nat → List Int → List (List Int)
  | 0, _ => []
  | m + 1, l => l.take n :: chunks n m (l.drop n)
def okC (n : Nat) (xs : List Int) : Bool := decide (xs.length = n) && inB 0 255 xs
def vC (s : Int) (rs : List Int) (cs : List (List Int)) : Int := if kn s then (if rolesB s rs && depB cs.length && cs.all (okC rs.length) then 0 else 21) else 3
theorem valid_con (s : Int) (rs : List Int) (rows : List Rw) : validI s rs rows = vC s rs (cons rows) := by
  unfold validI vC
  have : okP rs.length rows = (cons rows).all (okC rs.length) := by
    unfold okP cons
    rw [List.all_map]; rfl
  rw [this, cons_len]
def dec2 (s : Int) (rs : List Int) (cs : List (List Int)) : Int × List Int × List (List Int) × Int := if vC s rs cs = 0 then (s, rs, cs, 0) else (0, [], [], vC s rs cs)
def dn (bs : List Int) : Nat := (bs.getD 1 0).toNat
def dm (bs : List Int) : Nat := (bs.getD (dn bs + 2) 0 * 256 + bs.getD (dn bs + 3) 0).toNat
def decR (bs : List Int) : Int × List Int × List (List Int) × Int :=
  if bs.length < 2 then (0, [], [], 7) else if bs.length < dn bs + 4 then (0, [], [], 7) else if bs.length < dn bs + 4 + dn bs * dm bs then (0, [], [], 7) else if bs.length > dn bs + 4 + dn bs * dm bs then (0, [], [], 9) else
  dec2 (bs.getD 0 0) ((bs.drop 2).take (dn bs)) (chunks (dn bs) (dm bs) (bs.drop (dn bs + 4)))
/-- A struct of three cells, stored and read. -/
theorem put3 {H : Heap} {b : Nat} {X : List Value} (O : Owns H b X 0) (hX : X.length = 3) (s : Int) (q : Option Addr) (l c : Nat) (q2 : Option Addr) (l2 c2 : Nat) :
    ∃ H', (∀ (R : Type) (K : Int → Option Addr → Nat → Nat → Option Addr → Nat → Nat → Heap → Option R), (hst H (some ⟨b, 0, none⟩) [.int .i64 s, .slice q l c, .slice q2 l2 c2] fun H6 => ldI .i64 H6 (pad (some ⟨b, 0, none⟩) 0) fun n7 => ldL H6 (pad (some ⟨b, 0, none⟩) 1) fun q8 l9 c10 => ldL H6 (pad (some ⟨b, 0, none⟩) 2) fun q11 l12 c13 => K n7 q8 l9 c10 q11 l12 c13 H6) = K s q l c q2 l2 c2 H') ∧ But b H H' ∧ H'.length = H.length := by
  obtain ⟨H', e, O', bt, n⟩ := O.st (vs := [.int .i64 s, .slice q l c, .slice q2 l2 c2]) (by rw [hX]; rfl) rfl
  have m0 : hcell H' b 0 = some (.int .i64 s) := O'.sees.cell 0
  have m1 : hcell H' b 1 = some (.slice q l c) := O'.sees.cell 1
  have m2 : hcell H' b 2 = some (.slice q2 l2 c2) := O'.sees.cell 2
  exact ⟨H', fun R K => (e _ _).trans (go_ip m0 (go_lp m1 (go_lp m2 rfl))), bt, n⟩
/-- A color specification that grows. -/
structure DecS (N b : Nat) (H : Heap) (s : Int) (rs : List Int) (rows : List Rw) (qr : Option Addr) (cr : Nat) (qp : Option Addr) (cp : Nat) : Prop where
  o : Owns H b [.int .i64 s, .slice qr rs.length cr, .slice qp rows.length cp] 0
  r : Shows H qr (ints rs)
  ra : ∀ a, qr = some a → a.block ≠ b ∧ a.block < H.length ∧ (∀ a', qp = some a' → a'.block ≠ a.block) ∧ N ≤ a.block
  p : Bld N 1 H qp rows.length cp (rows.map rc)
  pa : ∀ a, qp = some a → a.block ≠ b
  w : ∀ r ∈ rows, Shows H r.1 (ints r.2.2)
  wa : ∀ r ∈ rows, ∀ a, r.1 = some a → a.block ≠ b ∧ a.block < H.length ∧ (∀ a', qp = some a' → a'.block ≠ a.block) ∧ N ≤ a.block
theorem DecS.keep {N b : Nat} {H H' : Heap} {s : Int} {rs : List Int} {rows : List Rw} {qr : Option Addr} {cr : Nat} {qp : Option Addr} {cp : Nat} (D : DecS N b H s rs rows qr cr qp cp) (o : Old H.length H H') : DecS N b H' s rs rows qr cr qp cp := by
  have := o.1
  exact ⟨D.o.old o D.o.lt, D.r.keep o, fun a ha => ⟨(D.ra a ha).1, by have := (D.ra a ha).2.1; omega, (D.ra a ha).2.2⟩, D.p.old o (Nat.le_refl _), D.pa, fun r hr => (D.w r hr).keep o, fun r hr a ha => ⟨(D.wa r hr a ha).1, by have := (D.wa r hr a ha).2.1; omega, (D.wa r hr a ha).2.2⟩⟩
theorem Shows.same' {H H' : Heap} {q : Option Addr} {cs : List Value} (h : Shows H q cs) (e : ∀ a, q = some a → hblk H' a.block = hblk H a.block) : Shows H' q cs := by
  rcases h with h | ⟨b, o, full, rfl, ⟨B, g1, g2⟩, h2, h3⟩
  · exact .inl h
  · exact .inr ⟨b, o, full, rfl, ⟨B, by rw [e _ rfl]; exact g1, g2⟩, h2, h3⟩
/-- One row more. -/
theorem DecS.more {N b : Nat} {H : Heap} {s : Int} {rs : List Int} {rows : List Rw} {qr : Option Addr} {cr : Nat} {qp : Option Addr} {cp : Nat} (D : DecS N b H s rs rows qr cr qp cp) (hN : N ≤ H.length) (hb : N ≤ b) (hl : rows.length ≤ 100000) (r : Rw) (hr : Shows H r.1 (ints r.2.2)) (hra : ∀ a, r.1 = some a → a.block ≠ b ∧ a.block < H.length ∧ (∀ a', qp = some a' → a'.block ≠ a.block) ∧ N ≤ a.block) :
    ∃ H1 H2 H3 qn, H1 = H ++ [some (⟨[rc r], false, 0⟩ : Blk)] ∧ (∀ (R : Type) (K : Option Addr → Nat → Nat → Heap → Option R), happS 1 24 H1 qp rows.length cp (some ⟨H.length, 0, none⟩) 1 K = K qn (rows.length + 1) unk H2) ∧ (∀ (R : Type) (K : Heap → Option R), hst1 H2 (some ⟨b, 2, none⟩) (.slice qn (rows.length + 1) unk) K = K H3) ∧ DecS N b H3 s rs (rows ++ [r]) qr cr qn unk ∧ Old N H H3 := by
  obtain ⟨H1, hH1⟩ : ∃ H1, H1 = H ++ [some (⟨[rc r], false, 0⟩ : Blk)] := ⟨_, rfl⟩
  have o1 : Old H.length H H1 := hH1 ▸ Old.app _ _
  have O1 : Owns H1 H.length [rc r] 0 := by rw [hH1]; exact hblk_new H _
  have l1 : H1.length = H.length + 1 := by rw [hH1]; simp
  have D1 := D.keep o1
  have hbl := D.o.lt
  obtain ⟨H2, e2, O2, f2, l2, x2⟩ := Bld.app2 D1.p (bytes := 24) (n := 1) O1.sees.shows rfl (by omega) (by omega)
  have hpl : ∀ a, qp = some a → a.block < H.length := fun a ha => D.p.below a ha
  have Ob2 : Owns H2 b [.int .i64 s, .slice qr rs.length cr, .slice qp rows.length cp] 0 := by
    show hblk H2 b = _
    rw [f2 b (by omega) fun a ha => D.pa a ha]; exact D1.o
  obtain ⟨H3, e3, O3, b3, n3⟩ := Ob2.st1 (o := 2) (by simp) (.slice (some ⟨H1.length, 0, none⟩) (rows.length + 1) unk)
  have key : ∀ i, i < H.length → (∀ a, qp = some a → a.block ≠ i) → i ≠ b → hblk H3 i = hblk H i := fun i hi h1 h2 => by
    rw [b3.2 i (by omega) h2, f2 i (by omega) h1, o1.2 i hi]
  have hr1 : Shows H3 r.1 (ints r.2.2) := Shows.same' hr fun a ha => by have := hra a ha; exact key _ this.2.1 this.2.2.1 this.1
  refine ⟨H1, H2, H3, _, hH1, e2, e3, ⟨?_, Shows.same' D.r fun a ha => by have := D.ra a ha; exact key _ this.2.1 this.2.2.1 this.1, fun a ha => ?_, ?_, fun a ha => ?_, fun r' hr' => ?_, fun r' hr' a ha => ?_⟩, ⟨by omega, fun i hi => key i (by omega) (fun a ha => by
      rcases D.p with ⟨h, _⟩ | ⟨b', h, _, h3, _⟩
      · rw [h] at ha; cases ha
      · rw [h] at ha; cases ha; exact fun (h : b' = i) => by omega) (by omega)⟩⟩
  · have : [Value.int .i64 s, .slice qr rs.length cr, .slice qp rows.length cp].set 2 (.slice (some ⟨H1.length, 0, none⟩) (rows.length + 1) unk) = [.int .i64 s, .slice qr rs.length cr, .slice (some ⟨H1.length, 0, none⟩) (rows ++ [r]).length unk] := by simp
    rw [← this]; exact O3
  · have := D.ra a ha
    exact ⟨this.1, by omega, fun a' ha' => by cases ha'; simp only; omega, this.2.2.2⟩
  · refine .inr ⟨H1.length, rfl, rfl, by omega, ?_, by simp⟩
    have := O2.but b3 (by omega)
    simpa using this
  · cases ha; simp only; omega
  · rcases List.mem_append.1 hr' with h | h
    · exact Shows.same' (D.w r' h) fun a ha => by have := D.wa r' h a ha; exact key _ this.2.1 this.2.2.1 this.1
    · rw [List.mem_singleton] at h; subst h; exact hr1
  · rcases List.mem_append.1 hr' with h | h
    · have := D.wa r' h a ha
      exact ⟨this.1, by omega, fun a' ha' => by cases ha'; simp only; omega, this.2.2.2⟩
    · rw [List.mem_singleton] at h; subst h
      have := hra a ha
      exact ⟨this.1, by omega, fun a' ha' => by cases ha'; simp only; omega, this.2.2.2⟩
theorem cons_app (a b : List Rw) : cons (a ++ b) = cons a ++ cons b := by simp [cons]
theorem DecS.pal {N b : Nat} {H : Heap} {s : Int} {rs : List Int} {rows : List Rw} {qr : Option Addr} {cr : Nat} {qp : Option Addr} {cp : Nat} (D : DecS N b H s rs rows qr cr qp cp) : PalS H qp rows := ⟨D.p.shows.1, D.w⟩
theorem drow_l (k : Nat) (hk : 100000 < k) {N b : Nat} {s : Int} {rs : List Int} {qr : Option Addr} {cr : Nat} {q : Option Addr} {bs : List Int} {c : Nat} (p4 : Option Addr) (hb : N ≤ b) (hc : c = unk ∨ bs.length ≤ c ∧ c < unk) (hl : bs.length ≤ 100000) (hbs : ∀ x ∈ bs, 0 ≤ x ∧ x ≤ 255) (hq : bs = [] ∨ Below N q) {n : Nat} (hn1 : 1 ≤ n) : ∀ (m f a0 : Nat), m < f → bs.length = a0 + n * m → 4 ≤ a0 → ∀ (H : Heap) (rows : List Rw) (qp : Option Addr) (cp : Nat), DecS N b H s rs rows qr cr qp cp → N ≤ H.length → Shows H q (byt bs) → rows.length + m ≤ 100000 →
    ∃ H' rows' qp' cp', (∀ (R : Type) (KE : Option Addr → Option Addr → Heap → Option R), colorspec_Decode_l1 k KE f q bs.length c p4 (n : Int) (some ⟨b, 0, none⟩) (a0 : Int) H = KE p4 (some ⟨b, 0, none⟩) H') ∧ DecS N b H' s rs rows' qr cr qp' cp' ∧ cons rows' = cons rows ++ chunks n m (bs.drop a0) ∧ Old N H H' := by
  intro m
  induction m with
  | zero =>
    intro f a0 hf ha h4 H rows qp cp D hN hS hrl
    obtain ⟨f, rfl⟩ : ∃ n', f = n' + 1 := ⟨f - 1, by omega⟩
    refine ⟨H, rows, qp, cp, fun R KE => ?_, D, by simp [chunks], .refl _ _⟩
    unfold colorspec_Decode_l1 colorspec_Decode_l1_b
    exact go_f (decide_eq_false (by omega)) rfl
  | succ m ih =>
    intro f a0 hf ha h4 H rows qp cp D hN hS hrl
    obtain ⟨f, rfl⟩ : ∃ n', f = n' + 1 := ⟨f - 1, by omega⟩
    have hnm : n * (m + 1) = n * m + n := Nat.mul_succ n m
    obtain ⟨q5, c5, e5, S5⟩ := part_eq hS hc (by unfold unk; omega) (lo := a0) (hi := a0 + n) (by omega) (by omega) (by omega) (by omega)
    obtain ⟨xs, hxs⟩ : ∃ xs, xs = (bs.drop a0).take (a0 + n - a0) := ⟨_, rfl⟩
    rw [← hxs] at e5 S5
    have hxl : xs.length ≤ 100000 := by rw [hxs]; simp; omega
    have hxb : ∀ x ∈ xs, 0 ≤ x ∧ x ≤ 255 := fun x hx => hbs x (List.mem_of_mem_drop (List.mem_of_mem_take (hxs ▸ hx)))
    obtain ⟨H6, G, q6, c6, e6, hG, B6, o6⟩ := numbers_eq hk c5 S5 hxl hxb
    have D6 := D.keep o6
    have hG1 := o6.1
    obtain ⟨H7, H8, H9, qn, hH7, e8, e9, D9, o9⟩ := D6.more (by omega) hb (by omega) (q6, c6, xs) B6.shows.1 (fun a ha => by
      simp only at ha
      rcases B6 with ⟨h, _⟩ | ⟨b6, h, _, h6, h7, _⟩
      · rw [h] at ha; cases ha
      · rw [h] at ha; cases ha
        simp only
        have := D.o.lt
        exact ⟨by omega, h7.lt, fun a' ha' => by have := D.p.below a' ha'; omega, by omega⟩)
    have o09 : Old N H H9 := (o6.mono hN).trans o9
    obtain ⟨Ha, rows', qp', cp', ea, Da, ca, oa⟩ := ih f (a0 + n) (by omega) (by omega) (by omega) H9 _ qn unk D9 (by have := o09.1; omega) (hS.old o09 (by
      rcases hq with h | h
      · left; rw [h]; rfl
      · exact .inr h)) (by rw [List.length_append, List.length_singleton]; omega)
    refine ⟨Ha, rows', qp', cp', fun R KE => ?_, Da, ?_, o09.trans oa⟩
    · unfold colorspec_Decode_l1 colorspec_Decode_l1_b
      have m2 : hcell H b 2 = some (.slice qp rows.length cp) := D.o.sees.cell 2
      have hw : IntKind.wrap .i64 ((a0 : Int) + (n : Int)) = ((a0 + n : Nat) : Int) := by rw [w64 (by omega) (by omega)]; omega
      refine go_t (decide_eq_true (by omega)) (go_fad (go_l m2 ?_))
      rw [hw]
      refine (e5 _ _).trans ((e6 _ _).trans ?_)
      rw [← hG]
      refine go_halN hH7 ((e8 _ _).trans (go_fad ((e9 _ _).trans ?_)))
      exact ea R KE
    · rw [ca, cons_app, List.append_assoc]
      congr 1
      show [xs] ++ _ = (bs.drop a0).take n :: chunks n m ((bs.drop a0).drop n)
      rw [hxs, List.drop_drop, show a0 + n - a0 = n from by omega]
      rfl
end Go.Proofs.Ytkjcjlembepdkaa.Sh
/- Colorspec: the program's Decode, whole. -/
set_option linter.unusedVariables false
set_option linter.unusedSimpArgs false
namespace Go.Proofs.Ytkjcjlembepdkaa.Sh
open Go.Proofs.Ytkjcjlembepdkaa.FW
theorem or64 {a b : Nat} (ha : a < 256) (hb : b < 256) (R : Type) (K : Int → Option R) : hbin .or .i64 (((a * 256 : Nat) : Int)) (b : Int) K = K ((a * 256 + b : Nat) : Int) := by
  simp only [hbin]
  have h1 : BitVec.ofInt IntKind.i64.bits ((a * 256 : Nat) : Int) = BitVec.ofNat 64 (a * 256) := BitVec.ofInt_natCast 64 (a * 256)
  have h2 : BitVec.ofInt IntKind.i64.bits ((b : Nat) : Int) = BitVec.ofNat 64 b := BitVec.ofInt_natCast 64 b
  have h3 : (BitVec.ofInt IntKind.i64.bits ((a * 256 : Nat) : Int) ||| BitVec.ofInt IntKind.i64.bits ((b : Nat) : Int)).toNat = a * 256 + b := by
    rw [BitVec.toNat_or, h1, h2]
    have e1 : (BitVec.ofNat 64 (a * 256)).toNat = a * 256 := by rw [BitVec.toNat_ofNat]; omega
    have e2 : (BitVec.ofNat 64 b).toNat = b := by rw [BitVec.toNat_ofNat]; omega
    have e3 := Nat.two_pow_add_eq_or_of_lt (i := 8) (b := b) (by omega) a
    have : 2 ^ 8 * a = a * 256 := by omega
    rw [this] at e3
    rw [e3]
    congr 1
  rw [h3, w64 (by omega) (by omega)]
theorem byte_of {bs : List Int} (hbs : ∀ x ∈ bs, 0 ≤ x ∧ x ≤ 255) {i : Nat} (hi : i < bs.length) : bs[i]? = some (bs.getD i 0) ∧ 0 ≤ bs.getD i 0 ∧ bs.getD i 0 ≤ 255 := by
  have h : bs[i]? = some (bs.getD i 0) := by simp [hi]
  exact ⟨h, hbs _ (List.mem_of_getElem? h)⟩
theorem chunks_len (n : Nat) : ∀ (m : Nat) (l : List Int), (chunks n m l).length = m := by
  intro m
  induction m with
  | zero => intro l; rfl
  | succ m ih => intro l; rw [chunks, List.length_cons, ih]
theorem decode_eq {k : Nat} (hk : 100000 < k) {H : Heap} {q : Option Addr} {bs : List Int} {c : Nat} (h : Shows H q (byt bs)) (hc : c = unk ∨ bs.length ≤ c ∧ c < unk) (hl : bs.length ≤ 100000) (hbs : ∀ x ∈ bs, 0 ≤ x ∧ x ≤ 255) :
    ∃ (H' : Heap) (s' : Int) (q' : Option Addr) (c' : Nat) (q2' : Option Addr) (c2' : Nat) (rs' : List Int) (rows' : List Rw) (e : Int), (∀ (R : Type) (K : Int → Option Addr → Nat → Nat → Option Addr → Nat → Nat → Int → Heap → Option R), colorspec_Decode k q bs.length c H K = K s' q' rs'.length c' q2' rows'.length c2' e H') ∧ Old H.length H H' ∧ Shows H' q' (ints rs') ∧ PalS H' q2' rows' ∧ (s', rs', cons rows', e) = decR bs := by
  obtain ⟨H1, hH1⟩ : ∃ H1, H1 = H ++ [some (⟨[.int .i64 0, .slice none 0 0, .slice none 0 0], false, 0⟩ : Blk)] := ⟨_, rfl⟩
  have o1 : Old H.length H H1 := hH1 ▸ Old.app _ _
  have O1 : Owns H1 H.length [.int .i64 0, .slice none 0 0, .slice none 0 0] 0 := by rw [hH1]; exact hblk_new H _
  have l1 : H1.length = H.length + 1 := by rw [hH1]; simp
  have h1 := h.keep o1
  obtain ⟨Hz, ez, bz, nz'⟩ := put3 O1 rfl 0 none 0 0 none 0 0
  have oz : Old H.length H Hz := o1.trans (bz.old (Nat.le_refl _) (by omega))
  have fail : ∀ (e : Int), decR bs = (0, [], [], e) → (∀ (R : Type) (K : Int → Option Addr → Nat → Nat → Option Addr → Nat → Nat → Int → Heap → Option R), colorspec_Decode k q bs.length c H K = K 0 none 0 0 none 0 0 e Hz) → ∃ (H' : Heap) (s' : Int) (q' : Option Addr) (c' : Nat) (q2' : Option Addr) (c2' : Nat) (rs' : List Int) (rows' : List Rw) (e : Int), (∀ (R : Type) (K : Int → Option Addr → Nat → Nat → Option Addr → Nat → Nat → Int → Heap → Option R), colorspec_Decode k q bs.length c H K = K s' q' rs'.length c' q2' rows'.length c2' e H') ∧ Old H.length H H' ∧ Shows H' q' (ints rs') ∧ PalS H' q2' rows' ∧ (s', rs', cons rows', e) = decR bs := fun e h1 h2 => ⟨Hz, 0, none, 0, none, 0, [], [], e, h2, oz, .inl rfl, ⟨.inl rfl, fun r hr => by cases hr⟩, h1.symm⟩
  by_cases c1 : bs.length < 2
  · refine fail 7 (by unfold decR; rw [if_pos c1]) fun R K => ?_
    unfold colorspec_Decode colorspec_Decode_b
    exact go_halN hH1 (go_t (decide_eq_true (by omega)) (ez R fun a b c d e f g h => K a b c d e f g 7 h))
  obtain ⟨g1, b1, b1'⟩ := byte_of hbs (i := 1) (by omega)
  obtain ⟨n, hn⟩ : ∃ n, n = dn bs := ⟨_, rfl⟩
  have hn' : bs.getD 1 0 = (n : Int) := by rw [hn]; unfold dn; omega
  rw [hn'] at g1 b1'
  obtain ⟨p1, e1, e1'⟩ := byt_at h1 g1
  have wn : IntKind.wrap .i64 (n : Int) = (n : Int) := w64 (by omega) (by omega)
  have wn4 : IntKind.wrap .i64 ((n : Int) + 4) = ((n + 4 : Nat) : Int) := by rw [w64 (by omega) (by omega)]; omega
  by_cases c2 : bs.length < n + 4
  · refine fail 7 (by unfold decR; rw [if_neg c1, ← hn, if_pos c2]) fun R K => ?_
    unfold colorspec_Decode colorspec_Decode_b
    refine go_halN hH1 (go_f (decide_eq_false (by omega)) ((e1 _ _).trans ((e1' _ _).trans ?_)))
    rw [wn, wn4]
    exact go_t (decide_eq_true (by omega)) (ez R fun a b c d e f g h => K a b c d e f g 7 h)
  obtain ⟨g2, b2, b2'⟩ := byte_of hbs (i := n + 2) (by omega)
  obtain ⟨g3, b3, b3'⟩ := byte_of hbs (i := n + 3) (by omega)
  obtain ⟨x, hx⟩ : ∃ x : Nat, bs.getD (n + 2) 0 = (x : Int) := ⟨(bs.getD (n + 2) 0).toNat, by omega⟩
  obtain ⟨y, hy⟩ : ∃ y : Nat, bs.getD (n + 3) 0 = (y : Int) := ⟨(bs.getD (n + 3) 0).toNat, by omega⟩
  rw [hx] at g2 b2'
  rw [hy] at g3 b3'
  obtain ⟨p2, e2, e2'⟩ := byt_at h1 g2
  obtain ⟨p3, e3, e3'⟩ := byt_at h1 g3
  obtain ⟨m, hm⟩ : ∃ m, m = x * 256 + y := ⟨_, rfl⟩
  have hdm : dm bs = m := by unfold dm; rw [← hn, hx, hy, hm]; omega
  have hmb : m ≤ 65535 := by omega
  have hnm : n * m ≤ 255 * 65535 := Nat.mul_le_mul (by omega) hmb
  have wx : IntKind.wrap .i64 (x : Int) = (x : Int) := w64 (by omega) (by omega)
  have wy : IntKind.wrap .i64 (y : Int) = (y : Int) := w64 (by omega) (by omega)
  have wx2 : IntKind.wrap .i64 ((x : Int) * 256) = ((x * 256 : Nat) : Int) := by rw [w64 (by omega) (by omega)]; omega
  have wnm : IntKind.wrap .i64 (((n + 4 : Nat) : Int) + IntKind.wrap .i64 ((n : Int) * (m : Int))) = ((n + 4 + n * m : Nat) : Int) := by
    rw [← Int.natCast_mul, w64 (n := ((n * m : Nat) : Int)) (by omega) (by omega), w64 (by omega) (by omega)]; omega
  have wn2 : IntKind.wrap .i64 ((n : Int) + 2) = ((n + 2 : Nat) : Int) := by rw [w64 (by omega) (by omega)]; omega
  have wn3 : IntKind.wrap .i64 ((n : Int) + 3) = ((n + 3 : Nat) : Int) := by rw [w64 (by omega) (by omega)]; omega
  have hdec : decR bs = if bs.length < n + 4 + n * m then (0, [], [], 7) else if bs.length > n + 4 + n * m then (0, [], [], 9) else dec2 (bs.getD 0 0) ((bs.drop 2).take n) (chunks n m (bs.drop (n + 4))) := by
    unfold decR; rw [if_neg c1, ← hn, if_neg c2, hdm]
  by_cases c3 : bs.length < n + 4 + n * m
  · refine fail 7 (by rw [hdec, if_pos c3]) fun R K => ?_
    unfold colorspec_Decode colorspec_Decode_b
    refine go_halN hH1 (go_f (decide_eq_false (by omega)) ((e1 _ _).trans ((e1' _ _).trans ?_)))
    rw [wn, wn4, wn2, wn3]
    refine go_f (decide_eq_false (by omega)) ((e2 _ _).trans ((e2' _ _).trans ((e3 _ _).trans ((e3' _ _).trans ?_))))
    rw [wx, wy, wx2]
    refine (or64 (by omega) (by omega) _ _).trans ?_
    rw [← hm, wnm]
    exact go_t (decide_eq_true (by omega)) (ez R fun a b c d e f g h => K a b c d e f g 7 h)
  by_cases c4 : bs.length > n + 4 + n * m
  · refine fail 9 (by rw [hdec, if_neg c3, if_pos c4]) fun R K => ?_
    unfold colorspec_Decode colorspec_Decode_b
    refine go_halN hH1 (go_f (decide_eq_false (by omega)) ((e1 _ _).trans ((e1' _ _).trans ?_)))
    rw [wn, wn4, wn2, wn3]
    refine go_f (decide_eq_false (by omega)) ((e2 _ _).trans ((e2' _ _).trans ((e3 _ _).trans ((e3' _ _).trans ?_))))
    rw [wx, wy, wx2]
    refine (or64 (by omega) (by omega) _ _).trans ?_
    rw [← hm, wnm]
    exact go_f (decide_eq_false (by omega)) (go_t (decide_eq_true (by omega)) (ez R fun a b c d e f g h => K a b c d e f g 9 h))
  rw [if_neg c3, if_neg c4] at hdec
  obtain ⟨g0, b0, b0'⟩ := byte_of hbs (i := 0) (by omega)
  obtain ⟨s, hs⟩ : ∃ s, s = bs.getD 0 0 := ⟨_, rfl⟩
  rw [← hs] at g0 b0 b0' hdec
  obtain ⟨p0, e0, e0'⟩ := byt_at h1 g0
  have ws : IntKind.wrap .i64 s = s := w64 (by omega) (by omega)
  obtain ⟨q5, c5, e5, S5⟩ := part_eq h1 hc (by unfold unk; omega) (lo := 2) (hi := n + 2) (by omega) (by omega) (by omega) (by omega)
  obtain ⟨rs, hrs⟩ : ∃ rs, rs = (bs.drop 2).take (n + 2 - 2) := ⟨_, rfl⟩
  rw [← hrs] at e5 S5
  have hrs' : rs = (bs.drop 2).take n := by rw [hrs, show n + 2 - 2 = n from by omega]
  rw [← hrs'] at hdec
  have hrl : rs.length = n := by rw [hrs']; simp; omega
  have hrb : ∀ x ∈ rs, 0 ≤ x ∧ x ≤ 255 := fun x hx => hbs x (List.mem_of_mem_drop (List.mem_of_mem_take (hrs' ▸ hx)))
  obtain ⟨H6, G, q6, c6, e6, hG, B6, o6⟩ := numbers_eq hk c5 S5 (by omega) hrb
  have lG := o6.1
  obtain ⟨H7, hH7⟩ : ∃ H7, H7 = G ++ [some (⟨[.int .i64 s, .slice q6 rs.length c6, .slice none 0 0], false, 0⟩ : Blk)] := ⟨_, rfl⟩
  have o7 : Old G.length G H7 := hH7 ▸ Old.app _ _
  have O7 : Owns H7 G.length [.int .i64 s, .slice q6 rs.length c6, .slice none 0 0] 0 := by rw [hH7]; exact hblk_new G _
  have l7 : H7.length = G.length + 1 := by rw [hH7]; simp
  have D7 : DecS H1.length G.length H7 s rs [] q6 c6 none 0 := by
    refine ⟨O7, B6.shows.1.keep o7, fun a ha => ?_, .nil _ _ _, (fun a ha => by cases ha), (fun r hr => by cases hr), (fun r hr => by cases hr)⟩
    rcases B6 with ⟨h, _⟩ | ⟨b6, h, _, h6, h8, _⟩
    · rw [h] at ha; cases ha
    · rw [h] at ha; cases ha
      have := h8.lt
      exact ⟨by simp only; omega, by simp only; omega, (fun a' ha' => by cases ha'), h6⟩
  have o17 : Old H1.length H1 H7 := o6.trans (o7.mono lG)
  have o07 : Old H.length H H7 := o1.trans (o17.mono (by omega))
  have O17 : Owns H7 H.length [.int .i64 0, .slice none 0 0, .slice none 0 0] 0 := O1.old o17 (by omega)
  have a0 : hcell H7 G.length 0 = some (.int .i64 s) := O7.sees.cell 0
  by_cases hfl : n = 0 ∧ m > 0
  · obtain ⟨hn0, hm0⟩ := hfl
    have hr0 : rs = [] := List.eq_nil_of_length_eq_zero (by omega)
    have hv : vC s rs (chunks n m (bs.drop (n + 4))) = if kn s then 21 else 3 := by
      unfold vC
      rw [hr0, show rolesB s [] = false from rfl]
      simp
    obtain ⟨H8, e8, b8, n8⟩ := put3 O17 rfl 0 none 0 0 none 0 0
    refine ⟨H8, 0, none, 0, none, 0, [], [], if kn s then 21 else 3, fun R K => ?_, o07.trans (b8.old (Nat.le_refl _) (by omega)), .inl rfl, ⟨.inl rfl, fun r hr => by cases hr⟩, ?_⟩
    · unfold colorspec_Decode colorspec_Decode_b
      refine go_halN hH1 (go_f (decide_eq_false (by omega)) ((e1 _ _).trans ((e1' _ _).trans ?_)))
      rw [wn, wn4, wn2, wn3]
      refine go_f (decide_eq_false (by omega)) ((e2 _ _).trans ((e2' _ _).trans ((e3 _ _).trans ((e3' _ _).trans ?_))))
      rw [wx, wy, wx2]
      refine (or64 (by omega) (by omega) _ _).trans ?_
      rw [← hm, wnm]
      refine go_f (decide_eq_false (by omega)) (go_f (decide_eq_false (by omega)) ((e0 _ _).trans ((e0' _ _).trans ((e5 _ _).trans ((e6 _ _).trans ?_)))))
      rw [← hG, ws]
      refine go_halst hH7 rfl rfl ?_
      unfold colorspec_Decode_p0 colorspec_Decode_p0_b
      refine go_t (by rw [hn0]; rfl) (go_t (decide_eq_true (by omega)) (go_fad (go_i a0 ((known_eq _ _ _).trans ?_))))
      cases hkn : kn s with
      | false => exact go_t rfl (e8 R fun a b c d e f g h => K a b c d e f g 3 h)
      | true => exact go_f rfl (e8 R fun a b c d e f g h => K a b c d e f g 21 h)
    · rw [hdec]
      unfold dec2
      rw [if_neg (show ¬ vC s rs (chunks n m (bs.drop (n + 4))) = 0 by rw [hv]; split <;> omega), hv]
      rfl
  have hflag : ∀ (R : Type) (KN : Option Addr → Nat → Nat → Option Addr → Int → Option Addr → Bool → Option R), colorspec_Decode_p0 k q bs.length c (some ⟨H.length, 0, none⟩) (n : Int) (m : Int) (some ⟨G.length, 0, none⟩) KN = KN q bs.length c (some ⟨H.length, 0, none⟩) (n : Int) (some ⟨G.length, 0, none⟩) false := by
    intro R KN
    unfold colorspec_Decode_p0 colorspec_Decode_p0_b
    by_cases hn0 : n = 0
    · refine go_t (by rw [hn0]; rfl) ?_
      rw [decide_eq_false (by omega)]
    · exact go_f (by rw [beq_eq_false_iff_ne]; omega) rfl
  obtain ⟨H8, rows, qp, cp, e8, D8, hrows, o8⟩ : ∃ H' rows' qp' cp', (∀ (R : Type) (KE : Option Addr → Option Addr → Heap → Option R), colorspec_Decode_l1 k KE k q bs.length c (some ⟨H.length, 0, none⟩) (n : Int) (some ⟨G.length, 0, none⟩) ((n + 4 : Nat) : Int) H7 = KE (some ⟨H.length, 0, none⟩) (some ⟨G.length, 0, none⟩) H') ∧ DecS H1.length G.length H' s rs rows' q6 c6 qp' cp' ∧ cons rows' = chunks n m (bs.drop (n + 4)) ∧ Old H1.length H7 H' := by
    by_cases hn0 : n = 0
    · have hm0 : m = 0 := by omega
      obtain ⟨k', rfl⟩ : ∃ k', k = k' + 1 := ⟨k - 1, by omega⟩
      refine ⟨H7, [], none, 0, fun R KE => ?_, D7, by rw [hm0]; rfl, .refl _ _⟩
      unfold colorspec_Decode_l1 colorspec_Decode_l1_b
      have hz : n * m = 0 := by rw [hn0]; simp
      exact go_f (decide_eq_false (by omega)) rfl
    · have := drow_l k hk (some ⟨H.length, 0, none⟩) lG hc hl hbs (byt_below h1) (n := n) (by omega) m k (n + 4) (by omega) (by omega) (by omega) H7 [] none 0 D7 (by omega) (h1.keep o17) (by simp; omega)
      obtain ⟨H', rows', qp', cp', e1, e2, e3, e4⟩ := this
      exact ⟨H', rows', qp', cp', e1, e2, by rw [e3]; rfl, e4⟩
  have o08 : Old H.length H H8 := o07.trans (o8.mono (by omega))
  have l8 := o8.1
  have x0 : hcell H8 G.length 0 = some (.int .i64 s) := D8.o.sees.cell 0
  have x1 : hcell H8 G.length 1 = some (.slice q6 rs.length c6) := D8.o.sees.cell 1
  have x2 : hcell H8 G.length 2 = some (.slice qp rows.length cp) := D8.o.sees.cell 2
  have hrwl : rows.length = m := by rw [← cons_len, hrows, chunks_len]
  have F8 : FewC rs rows := ⟨by omega, by omega, fun r hr => by
    have : r.2.2 ∈ chunks n m (bs.drop (n + 4)) := by rw [← hrows]; exact List.mem_map.2 ⟨r, hr, rfl⟩
    have hch : ∀ (m : Nat) (l : List Int), ∀ x ∈ chunks n m l, x.length ≤ n := by
      intro m
      induction m with
      | zero => intro l x hx; cases hx
      | succ m ih =>
        intro l x hx
        rcases List.mem_cons.1 hx with rfl | hx
        · rw [List.length_take]; omega
        · exact ih _ x hx
    have := hch m _ _ this; omega⟩
  obtain ⟨H9, e9, o9⟩ := validate_eq (k := k) (by omega) s c6 cp D8.r D8.pal F8
  have l9 := o9.1
  have D9 := D8.keep o9
  have o09 : Old H.length H H9 := o08.trans (o9.mono (by omega))
  have Oz9 : Owns H9 H.length [.int .i64 0, .slice none 0 0, .slice none 0 0] 0 := (O17.old o8 (by omega)).old o9 (by omega)
  have hvc : validI s rs rows = vC s rs (chunks n m (bs.drop (n + 4))) := by rw [valid_con, hrows]
  have y0 : hcell H9 G.length 0 = some (.int .i64 s) := D9.o.sees.cell 0
  have y1 : hcell H9 G.length 1 = some (.slice q6 rs.length c6) := D9.o.sees.cell 1
  have y2 : hcell H9 G.length 2 = some (.slice qp rows.length cp) := D9.o.sees.cell 2
  by_cases hv : validI s rs rows = 0
  · obtain ⟨Ha, ea, ba, na⟩ := put3 Oz9 rfl s q6 rs.length c6 qp rows.length cp
    have kp : ∀ {q : Option Addr} {cs : List Value}, Shows H9 q cs → (∀ a, q = some a → H1.length ≤ a.block ∧ a.block < H9.length) → Shows Ha q cs := fun h hh => Shows.same' h fun a ha => by have := hh a ha; exact ba.2 _ this.2 (by omega)
    refine ⟨Ha, s, q6, c6, qp, cp, rs, rows, 0, fun R K => ?_, o09.trans (ba.old (Nat.le_refl _) (by omega)), kp D9.r (fun a ha => ⟨(D9.ra a ha).2.2.2, (D9.ra a ha).2.1⟩), ⟨kp D9.p.shows.1 (fun a ha => ⟨by
      rcases D9.p with ⟨h, _⟩ | ⟨b', h, _, h3, _⟩
      · rw [h] at ha; cases ha
      · rw [h] at ha; cases ha; exact h3, D9.p.below a ha⟩), fun r hr => kp (D9.w r hr) (fun a ha => ⟨(D9.wa r hr a ha).2.2.2, (D9.wa r hr a ha).2.1⟩)⟩, ?_⟩
    · unfold colorspec_Decode colorspec_Decode_b
      refine go_halN hH1 (go_f (decide_eq_false (by omega)) ((e1 _ _).trans ((e1' _ _).trans ?_)))
      rw [wn, wn4, wn2, wn3]
      refine go_f (decide_eq_false (by omega)) ((e2 _ _).trans ((e2' _ _).trans ((e3 _ _).trans ((e3' _ _).trans ?_))))
      rw [wx, wy, wx2]
      refine (or64 (by omega) (by omega) _ _).trans ?_
      rw [← hm, wnm]
      refine go_f (decide_eq_false (by omega)) (go_f (decide_eq_false (by omega)) ((e0 _ _).trans ((e0' _ _).trans ((e5 _ _).trans ((e6 _ _).trans ?_)))))
      rw [← hG, ws]
      refine go_halst hH7 rfl rfl ((hflag _ _).trans (go_f rfl ?_))
      try dsimp only
      rw [wn4]
      refine (e8 _ _).trans (go_ip x0 (go_lp x1 (go_lp x2 ((e9 _ _).trans (go_f (by rw [hv]; rfl) (go_ip y0 (go_lp y1 (go_lp y2 ?_))))))))
      exact ea R fun a b c d e f g h => K a b c d e f g 0 h
    · rw [hdec, hrows]
      unfold dec2
      rw [if_pos (by rw [← hvc]; exact hv)]
  · obtain ⟨Ha, ea, ba, na⟩ := put3 Oz9 rfl 0 none 0 0 none 0 0
    refine ⟨Ha, 0, none, 0, none, 0, [], [], validI s rs rows, fun R K => ?_, o09.trans (ba.old (Nat.le_refl _) (by omega)), .inl rfl, ⟨.inl rfl, fun r hr => by cases hr⟩, ?_⟩
    · unfold colorspec_Decode colorspec_Decode_b
      refine go_halN hH1 (go_f (decide_eq_false (by omega)) ((e1 _ _).trans ((e1' _ _).trans ?_)))
      rw [wn, wn4, wn2, wn3]
      refine go_f (decide_eq_false (by omega)) ((e2 _ _).trans ((e2' _ _).trans ((e3 _ _).trans ((e3' _ _).trans ?_))))
      rw [wx, wy, wx2]
      refine (or64 (by omega) (by omega) _ _).trans ?_
      rw [← hm, wnm]
      refine go_f (decide_eq_false (by omega)) (go_f (decide_eq_false (by omega)) ((e0 _ _).trans ((e0' _ _).trans ((e5 _ _).trans ((e6 _ _).trans ?_)))))
      rw [← hG, ws]
      refine go_halst hH7 rfl rfl ((hflag _ _).trans (go_f rfl ?_))
      try dsimp only
      rw [wn4]
      refine (e8 _ _).trans (go_ip x0 (go_lp x1 (go_lp x2 ((e9 _ _).trans (go_t (by rw [bne_iff_ne]; exact hv) ?_)))))
      exact ea R fun a b c d e f g h => K a b c d e f g (validI s rs rows) h
    · rw [hdec]
      unfold dec2
      rw [if_neg (by rw [← hvc]; exact hv), hvc]
      rfl
end Go.Proofs.Ytkjcjlembepdkaa.Sh
/- Colorspec: the reference's Decode. -/
set_option linter.unusedVariables false
set_option linter.unusedSimpArgs false
namespace Go.Proofs.Ytkjcjlembepdkaa.Sh
open Go.Proofs.Ytkjcjlembepdkaa.FW
theorem chunks_snoc (n : Nat) : ∀ (m : Nat) (l : List Int), chunks n (m + 1) l = chunks n m l ++ [(l.drop (m * n)).take n] := by
  intro m
  induction m with
  | zero => intro l; simp [chunks]
  | succ m ih =>
    intro l
    rw [chunks, ih, chunks, List.cons_append, List.drop_drop, show n + m * n = (m + 1) * n from by rw [Nat.add_mul]; omega]
/-- A number appended to a row of one's own. -/
theorem Grw.num {N : Nat} {H : Heap} {q : Option Addr} {l c : Nat} {xs : List Int} (h : Grw N 1 H q l c (ints xs)) (hN : N ≤ H.length) (hl : l ≤ 100000000) (x : Int) :
    ∃ H1 b' H', H1 = H ++ [some (⟨[.int .i64 x], false, 0⟩ : Blk)] ∧ (∀ (R : Type) (K : Option Addr → Nat → Nat → Heap → Option R), happS 1 8 H1 q l c (some ⟨H.length, 0, none⟩) 1 K = K (some ⟨b', 0, none⟩) (l + 1) unk H') ∧ Bld N 1 H' (some ⟨b', 0, none⟩) (l + 1) unk (ints (xs ++ [x])) ∧ N ≤ b' ∧ b' < H'.length ∧ Old N H H' := by
  obtain ⟨H1, hH1⟩ : ∃ H1, H1 = H ++ [some (⟨[.int .i64 x], false, 0⟩ : Blk)] := ⟨_, rfl⟩
  have o1 : Old H.length H H1 := hH1 ▸ Old.app _ _
  have O1 : Owns H1 H.length (ints [x]) 0 := by rw [hH1]; exact hblk_new H _
  have l1 : H1.length = H.length + 1 := by rw [hH1]; simp
  obtain ⟨q', H', e, G, o, l'⟩ := (h.keep o1).app (bytes := 8) (n := 1) (by omega) O1.sees.shows rfl (by omega) (by omega)
  have G' : Grw N 1 H' q' (l + 1) unk (ints (xs ++ [x])) := by simpa [ints] using G
  rcases G' with (⟨_, h2, _⟩ | ⟨b', rfl, h2, h3, h4, h5⟩) | ⟨h1, h2, _⟩
  · omega
  · exact ⟨H1, b', H', hH1, e, .inr ⟨b', rfl, h2, h3, h4, h5⟩, h3, h4.lt, (o1.mono hN).trans o⟩
  · omega
theorem rol_l (k : Nat) {N b : Nat} {s : Int} {q : Option Addr} {bs : List Int} {c : Nat} (p4 : Option Addr) (hb : N ≤ b) (hl : bs.length ≤ 100000) (hbs : ∀ x ∈ bs, 0 ≤ x ∧ x ≤ 255) (hq : bs = [] ∨ Below N q) {n : Nat} (hn : n + 2 ≤ bs.length) (hn2 : n ≤ 255) (mm : Int) : ∀ (m f i : Nat), m < f → n = i + m → ∀ (H : Heap) (qr : Option Addr) (cr : Nat), Owns H b [.int .i64 s, .slice qr i cr, .slice none 0 0] 0 → Bld (b + 1) 1 H qr i cr (ints ((bs.drop 2).take i)) → Shows H q (byt bs) →
    ∃ H' qr' cr', (∀ (R : Type) (KE : Option Addr → Nat → Nat → Option Addr → Int → Int → Option Addr → Heap → Option R), R46_Decode_l0 k KE f q bs.length c p4 (n : Int) mm (some ⟨b, 0, none⟩) (i : Int) H = KE q bs.length c p4 (n : Int) mm (some ⟨b, 0, none⟩) H') ∧ Owns H' b [.int .i64 s, .slice qr' n cr', .slice none 0 0] 0 ∧ Bld (b + 1) 1 H' qr' n cr' (ints ((bs.drop 2).take n)) ∧ Old N H H' := by
  intro m
  induction m with
  | zero =>
    intro f i hf hi H qr cr O B hS
    obtain ⟨f, rfl⟩ : ∃ n', f = n' + 1 := ⟨f - 1, by omega⟩
    obtain rfl : n = i := by omega
    refine ⟨H, qr, cr, fun R KE => ?_, O, B, .refl _ _⟩
    unfold R46_Decode_l0 R46_Decode_l0_b
    exact go_f (decide_eq_false (by omega)) rfl
  | succ m ih =>
    intro f i hf hi H qr cr O B hS
    obtain ⟨f, rfl⟩ : ∃ n', f = n' + 1 := ⟨f - 1, by omega⟩
    obtain ⟨g, b0, b1⟩ := byte_of hbs (i := 2 + i) (by omega)
    obtain ⟨p', e1, e2⟩ := byt_at hS g
    have hbl := O.lt
    obtain ⟨H1, b', H2, hH1, e3, B2, hb1, hb2, o2⟩ := Grw.num (.inl B) (by omega) (by omega) (bs.getD (2 + i) 0)
    have Ob2 : Owns H2 b [.int .i64 s, .slice qr i cr, .slice none 0 0] 0 := O.old o2 (by omega)
    obtain ⟨H3, e4, O3, b3, n3⟩ := Ob2.st1 (o := 1) (by simp) (.slice (some ⟨b', 0, none⟩) (i + 1) unk)
    have hsn : (bs.drop 2).take (i + 1) = (bs.drop 2).take i ++ [bs.getD (2 + i) 0] := take_snoc (by rw [List.getElem?_drop]; exact g)
    have B3 : Bld (b + 1) 1 H3 (some ⟨b', 0, none⟩) (i + 1) unk (ints ((bs.drop 2).take (i + 1))) := by
      rw [hsn]
      rcases B2 with ⟨h, _⟩ | ⟨b5, h, h1, h2, h3, h4⟩
      · cases h
      · cases h; exact .inr ⟨_, rfl, h1, h2, h3.but b3 (by omega), h4⟩
    have o03 : Old N H H3 := (o2.mono (by omega)).trans (b3.old hb (by omega))
    obtain ⟨H4, qr', cr', e5, O4, B4, o4⟩ := ih f (i + 1) (by omega) (by omega) H3 _ unk O3 B3 (hS.old o03 (by
      rcases hq with h | h
      · left; rw [h]; rfl
      · exact .inr h))
    refine ⟨H4, qr', cr', fun R KE => ?_, O4, B4, o03.trans o4⟩
    have m1 : hcell H b 1 = some (.slice qr i cr) := O.sees.cell 1
    unfold R46_Decode_l0 R46_Decode_l0_b
    refine go_t (decide_eq_true (by omega)) (go_fad (go_l m1 ?_))
    rw [show IntKind.wrap .i64 (2 + (i : Int)) = ((2 + i : Nat) : Int) from by rw [w64 (by omega) (by omega)]; omega]
    refine (e1 _ _).trans ((e2 _ _).trans ?_)
    rw [w64 (n := bs.getD (2 + i) 0) (by omega) (by omega)]
    refine go_halN hH1 ((e3 _ _).trans (go_fad ((e4 _ _).trans ?_)))
    rw [w64 (n := (i : Int) + 1) (by omega) (by omega)]
    exact e5 R KE
theorem rcol_l (k : Nat) {N : Nat} {q : Option Addr} {bs : List Int} {c : Nat} (p4 p7 : Option Addr) (hl : bs.length ≤ 100000) (hbs : ∀ x ∈ bs, 0 ≤ x ∧ x ≤ 255) (hq : bs = [] ∨ Below N q) {n ix a0 : Nat} (ha : a0 = n + 4 + ix * n) (ha2 : a0 + n ≤ bs.length) (mm : Int) : ∀ (m f j : Nat), m < f → n = j + m → ∀ (H : Heap) (b1 : Nat) (c1 : Nat), Grw N 1 H (some ⟨b1, 0, none⟩) j c1 (ints ((bs.drop a0).take j)) → N ≤ b1 → b1 < H.length → Shows H q (byt bs) →
    ∃ H' b' c', (∀ (R : Type) (KE : Option Addr → Nat → Nat → Option Addr → Int → Int → Option Addr → Int → Option Addr → Nat → Nat → Heap → Option R), R46_Decode_l2 k KE f q bs.length c p4 (n : Int) mm p7 (ix : Int) (some ⟨b1, 0, none⟩) j c1 (j : Int) H = KE q bs.length c p4 (n : Int) mm p7 (ix : Int) (some ⟨b', 0, none⟩) n c' H') ∧ Shows H' (some ⟨b', 0, none⟩) (ints ((bs.drop a0).take n)) ∧ N ≤ b' ∧ b' < H'.length ∧ Old N H H' := by
  intro m
  induction m with
  | zero =>
    intro f j hf hj H b1 c1 G hb1 hb2 hS
    obtain ⟨f, rfl⟩ : ∃ n', f = n' + 1 := ⟨f - 1, by omega⟩
    obtain rfl : n = j := by omega
    refine ⟨H, b1, c1, fun R KE => ?_, G.shows.1, hb1, hb2, .refl _ _⟩
    unfold R46_Decode_l2 R46_Decode_l2_b
    exact go_f (decide_eq_false (by omega)) rfl
  | succ m ih =>
    intro f j hf hj H b1 c1 G hb1 hb2 hS
    obtain ⟨f, rfl⟩ : ∃ n', f = n' + 1 := ⟨f - 1, by omega⟩
    obtain ⟨g, g0, g1⟩ := byte_of hbs (i := a0 + j) (by omega)
    obtain ⟨p', e1, e2⟩ := byt_at hS g
    obtain ⟨H1, b', H2, hH1, e3, B2, hb3, hb4, o2⟩ := Grw.num G (by omega) (by omega) (bs.getD (a0 + j) 0)
    have hsn : (bs.drop a0).take (j + 1) = (bs.drop a0).take j ++ [bs.getD (a0 + j) 0] := take_snoc (by rw [List.getElem?_drop]; exact g)
    rw [← hsn] at B2
    obtain ⟨H4, b5, c5, e5, S5, hb5, hb6, o5⟩ := ih f (j + 1) (by omega) (by omega) H2 b' unk (.inl B2) hb3 hb4 (hS.old o2 (by
      rcases hq with h | h
      · left; rw [h]; rfl
      · exact .inr h))
    refine ⟨H4, b5, c5, fun R KE => ?_, S5, hb5, hb6, o2.trans o5⟩
    unfold R46_Decode_l2 R46_Decode_l2_b
    refine go_t (decide_eq_true (by omega)) ?_
    have hw : IntKind.wrap .i64 (IntKind.wrap .i64 (IntKind.wrap .i64 (4 + (n : Int)) + IntKind.wrap .i64 ((ix : Int) * (n : Int))) + (j : Int)) = ((a0 + j : Nat) : Int) := by
      rw [← Int.natCast_mul]
      generalize ix * n = z at ha ⊢
      rw [w64 (n := 4 + (n : Int)) (by omega) (by omega), w64 (n := (z : Int)) (by omega) (by omega), w64 (n := 4 + (n : Int) + (z : Int)) (by omega) (by omega), w64 (by omega) (by omega)]
      omega
    rw [hw]
    refine (e1 _ _).trans ((e2 _ _).trans ?_)
    rw [w64 (n := bs.getD (a0 + j) 0) (by omega) (by omega)]
    refine go_halN hH1 ((e3 _ _).trans ?_)
    rw [w64 (n := (j : Int) + 1) (by omega) (by omega)]
    exact e5 R KE
theorem rdrow_l (k : Nat) (hk : 100000 < k) {N b : Nat} {s : Int} {rs : List Int} {qr : Option Addr} {cr : Nat} {q : Option Addr} {bs : List Int} {c : Nat} (p4 : Option Addr) (hb : N ≤ b) (hl : bs.length ≤ 100000) (hbs : ∀ x ∈ bs, 0 ≤ x ∧ x ≤ 255) (hq : bs = [] ∨ Below N q) {n m : Nat} (hlen : bs.length = n + 4 + n * m) (hn2 : n ≤ 255) (hm2 : m ≤ 65535) : ∀ (mm f ix : Nat), mm < f → m = ix + mm → ∀ (H : Heap) (rows : List Rw) (qp : Option Addr) (cp : Nat), DecS N b H s rs rows qr cr qp cp → cons rows = chunks n ix (bs.drop (n + 4)) → N ≤ H.length → Shows H q (byt bs) →
    ∃ H' rows' qp' cp', (∀ (R : Type) (KE : Option Addr → Option Addr → Heap → Option R), R46_Decode_l1 k KE f q bs.length c p4 (n : Int) (m : Int) (some ⟨b, 0, none⟩) (ix : Int) H = KE p4 (some ⟨b, 0, none⟩) H') ∧ DecS N b H' s rs rows' qr cr qp' cp' ∧ cons rows' = chunks n m (bs.drop (n + 4)) ∧ Old N H H' := by
  intro mm
  induction mm with
  | zero =>
    intro f ix hf hi H rows qp cp D hrw hN hS
    obtain ⟨f, rfl⟩ : ∃ n', f = n' + 1 := ⟨f - 1, by omega⟩
    obtain rfl : m = ix := by omega
    refine ⟨H, rows, qp, cp, fun R KE => ?_, D, hrw, .refl _ _⟩
    unfold R46_Decode_l1 R46_Decode_l1_b
    exact go_f (decide_eq_false (by omega)) rfl
  | succ mm ih =>
    intro f ix hf hi H rows qp cp D hrw hN hS
    obtain ⟨f, rfl⟩ : ∃ n', f = n' + 1 := ⟨f - 1, by omega⟩
    have hrl : rows.length = ix := by rw [← cons_len, hrw, chunks_len]
    have hmul : ix * n + n ≤ n * m := by
      have := Nat.mul_le_mul_right n (show ix + 1 ≤ m by omega)
      rw [Nat.add_mul, Nat.one_mul] at this
      rw [Nat.mul_comm n m]; exact this
    obtain ⟨H1, hH1⟩ : ∃ H1, H1 = H ++ [some (⟨[], false, 0⟩ : Blk)] := ⟨_, rfl⟩
    have o1 : Old H.length H H1 := hH1 ▸ Old.app _ _
    have l1 : H1.length = H.length + 1 := by rw [hH1]; simp
    have hq' : bs = [] ∨ Below H.length q := by
      rcases hq with h | h
      · exact .inl h
      · exact .inr fun a ha => by have := h a ha; omega
    obtain ⟨H2, b2, c2, e2, S2, hb2, hb2', o2⟩ := rcol_l k (N := H.length) (c := c) p4 (some ⟨b, 0, none⟩) hl hbs hq' (n := n) (ix := ix) (a0 := n + 4 + ix * n) rfl (by omega) (m : Int) n k 0 (by omega) (by omega) H1 H.length 0 (.inr ⟨rfl, by unfold unk; omega, .inl (by simp [ints]), by simp [ints]⟩) (Nat.le_refl _) (by omega) (hS.keep o1)
    have oH2 : Old H.length H H2 := o1.trans o2
    have l2 := oH2.1
    have D2 := D.keep oH2
    obtain ⟨xs, hxs⟩ : ∃ xs, xs = (bs.drop (n + 4 + ix * n)).take n := ⟨_, rfl⟩
    have hxl : xs.length = n := by rw [hxs]; simp; omega
    rw [← hxs] at S2
    have hbl := D.o.lt
    obtain ⟨H3, H4, H5, qn, hH3, e4, e5, D5, o5⟩ := D2.more (by omega) hb (by omega) (some ⟨b2, 0, none⟩, c2, xs) S2 (fun a ha => by
      simp only at ha
      cases ha
      simp only
      exact ⟨by omega, hb2', fun a' ha' => by have := D.p.below a' ha'; omega, by omega⟩)
    have o05 : Old N H H5 := (oH2.mono hN).trans o5
    have hrw' : cons (rows ++ [(some ⟨b2, 0, none⟩, c2, xs)]) = chunks n (ix + 1) (bs.drop (n + 4)) := by
      rw [cons_app, hrw, chunks_snoc, List.drop_drop, hxs]; rfl
    obtain ⟨Ha, rows', qp', cp', ea, Da, ca, oa⟩ := ih f (ix + 1) (by omega) (by omega) H5 _ qn unk D5 hrw' (by have := o05.1; omega) (hS.old o05 (by
      rcases hq with h | h
      · left; rw [h]; rfl
      · exact .inr h))
    refine ⟨Ha, rows', qp', cp', fun R KE => ?_, Da, ca, o05.trans oa⟩
    have m2 : hcell H2 b 2 = some (.slice qp rows.length cp) := D2.o.sees.cell 2
    have hrc : rc (some ⟨b2, 0, none⟩, c2, xs) = .slice (some ⟨b2, 0, none⟩) n c2 := by unfold rc; rw [hxl]
    rw [hrc] at hH3
    unfold R46_Decode_l1 R46_Decode_l1_b
    refine go_t (decide_eq_true (by omega)) (go_halN hH1 ((e2 _ _).trans (go_fad (go_l m2 (go_halN hH3 ((e4 _ _).trans (go_fad ((e5 _ _).trans ?_))))))))
    rw [w64 (n := (ix : Int) + 1) (by omega) (by omega)]
    exact ea R KE
theorem rdecode_eq {k : Nat} (hk : 100000 < k) {H : Heap} {q : Option Addr} {bs : List Int} {c : Nat} (h : Shows H q (byt bs)) (hc : c = unk ∨ bs.length ≤ c ∧ c < unk) (hl : bs.length ≤ 100000) (hbs : ∀ x ∈ bs, 0 ≤ x ∧ x ≤ 255) :
    ∃ (H' : Heap) (s' : Int) (q' : Option Addr) (c' : Nat) (q2' : Option Addr) (c2' : Nat) (rs' : List Int) (rows' : List Rw) (e : Int), (∀ (R : Type) (K : Int → Option Addr → Nat → Nat → Option Addr → Nat → Nat → Int → Heap → Option R), R46_Decode k q bs.length c H K = K s' q' rs'.length c' q2' rows'.length c2' e H') ∧ Old H.length H H' ∧ Shows H' q' (ints rs') ∧ PalS H' q2' rows' ∧ (s', rs', cons rows', e) = decR bs := by
  obtain ⟨H1, hH1⟩ : ∃ H1, H1 = H ++ [some (⟨[.int .i64 0, .slice none 0 0, .slice none 0 0], false, 0⟩ : Blk)] := ⟨_, rfl⟩
  have o1 : Old H.length H H1 := hH1 ▸ Old.app _ _
  have O1 : Owns H1 H.length [.int .i64 0, .slice none 0 0, .slice none 0 0] 0 := by rw [hH1]; exact hblk_new H _
  have l1 : H1.length = H.length + 1 := by rw [hH1]; simp
  have h1 := h.keep o1
  obtain ⟨Hz, ez, bz, nz'⟩ := put3 O1 rfl 0 none 0 0 none 0 0
  have oz : Old H.length H Hz := o1.trans (bz.old (Nat.le_refl _) (by omega))
  have fail : ∀ (e : Int), decR bs = (0, [], [], e) → (∀ (R : Type) (K : Int → Option Addr → Nat → Nat → Option Addr → Nat → Nat → Int → Heap → Option R), R46_Decode k q bs.length c H K = K 0 none 0 0 none 0 0 e Hz) → ∃ (H' : Heap) (s' : Int) (q' : Option Addr) (c' : Nat) (q2' : Option Addr) (c2' : Nat) (rs' : List Int) (rows' : List Rw) (e : Int), (∀ (R : Type) (K : Int → Option Addr → Nat → Nat → Option Addr → Nat → Nat → Int → Heap → Option R), R46_Decode k q bs.length c H K = K s' q' rs'.length c' q2' rows'.length c2' e H') ∧ Old H.length H H' ∧ Shows H' q' (ints rs') ∧ PalS H' q2' rows' ∧ (s', rs', cons rows', e) = decR bs := fun e h1 h2 => ⟨Hz, 0, none, 0, none, 0, [], [], e, h2, oz, .inl rfl, ⟨.inl rfl, fun r hr => by cases hr⟩, h1.symm⟩
  by_cases c1 : bs.length < 2
  · refine fail 7 (by unfold decR; rw [if_pos c1]) fun R K => ?_
    unfold R46_Decode R46_Decode_b
    exact go_halN hH1 (go_t (decide_eq_true (by omega)) (ez R fun a b c d e f g h => K a b c d e f g 7 h))
  obtain ⟨g1, b1, b1'⟩ := byte_of hbs (i := 1) (by omega)
  obtain ⟨n, hn⟩ : ∃ n, n = dn bs := ⟨_, rfl⟩
  have hn' : bs.getD 1 0 = (n : Int) := by rw [hn]; unfold dn; omega
  rw [hn'] at g1 b1'
  obtain ⟨p1, e1, e1'⟩ := byt_at h1 g1
  have wn : IntKind.wrap .i64 (n : Int) = (n : Int) := w64 (by omega) (by omega)
  have wn4 : IntKind.wrap .i64 (4 + (n : Int)) = ((n + 4 : Nat) : Int) := by rw [w64 (by omega) (by omega)]; omega
  by_cases c2 : bs.length < n + 4
  · refine fail 7 (by unfold decR; rw [if_neg c1, ← hn, if_pos c2]) fun R K => ?_
    unfold R46_Decode R46_Decode_b
    refine go_halN hH1 (go_f (decide_eq_false (by omega)) ((e1 _ _).trans ((e1' _ _).trans ?_)))
    rw [wn, wn4]
    exact go_t (decide_eq_true (by omega)) (ez R fun a b c d e f g h => K a b c d e f g 7 h)
  obtain ⟨g2, b2, b2'⟩ := byte_of hbs (i := n + 2) (by omega)
  obtain ⟨g3, b3, b3'⟩ := byte_of hbs (i := n + 3) (by omega)
  obtain ⟨x, hx⟩ : ∃ x : Nat, bs.getD (n + 2) 0 = (x : Int) := ⟨(bs.getD (n + 2) 0).toNat, by omega⟩
  obtain ⟨y, hy⟩ : ∃ y : Nat, bs.getD (n + 3) 0 = (y : Int) := ⟨(bs.getD (n + 3) 0).toNat, by omega⟩
  rw [hx] at g2 b2'
  rw [hy] at g3 b3'
  obtain ⟨p2, e2, e2'⟩ := byt_at h1 g2
  obtain ⟨p3, e3, e3'⟩ := byt_at h1 g3
  obtain ⟨m, hm⟩ : ∃ m, m = x * 256 + y := ⟨_, rfl⟩
  have hdm : dm bs = m := by unfold dm; rw [← hn, hx, hy, hm]; omega
  have hmb : m ≤ 65535 := by omega
  have hnm : n * m ≤ 255 * 65535 := Nat.mul_le_mul (by omega) hmb
  have wx : IntKind.wrap .i64 (x : Int) = (x : Int) := w64 (by omega) (by omega)
  have wy : IntKind.wrap .i64 (y : Int) = (y : Int) := w64 (by omega) (by omega)
  have wx2 : IntKind.wrap .i64 ((x : Int) * 256) = ((x * 256 : Nat) : Int) := by rw [w64 (by omega) (by omega)]; omega
  have wxy : IntKind.wrap .i64 (((x * 256 : Nat) : Int) + (y : Int)) = (m : Int) := by rw [w64 (by omega) (by omega)]; omega
  have wnm : IntKind.wrap .i64 (((n + 4 : Nat) : Int) + IntKind.wrap .i64 ((m : Int) * (n : Int))) = ((n + 4 + n * m : Nat) : Int) := by
    rw [Int.mul_comm, ← Int.natCast_mul, w64 (n := ((n * m : Nat) : Int)) (by omega) (by omega), w64 (by omega) (by omega)]; omega
  have wn2 : IntKind.wrap .i64 (2 + (n : Int)) = ((n + 2 : Nat) : Int) := by rw [w64 (by omega) (by omega)]; omega
  have wn3 : IntKind.wrap .i64 (3 + (n : Int)) = ((n + 3 : Nat) : Int) := by rw [w64 (by omega) (by omega)]; omega
  have hdec : decR bs = if bs.length < n + 4 + n * m then (0, [], [], 7) else if bs.length > n + 4 + n * m then (0, [], [], 9) else dec2 (bs.getD 0 0) ((bs.drop 2).take n) (chunks n m (bs.drop (n + 4))) := by
    unfold decR; rw [if_neg c1, ← hn, if_neg c2, hdm]
  by_cases c3 : bs.length < n + 4 + n * m
  · refine fail 7 (by rw [hdec, if_pos c3]) fun R K => ?_
    unfold R46_Decode R46_Decode_b
    refine go_halN hH1 (go_f (decide_eq_false (by omega)) ((e1 _ _).trans ((e1' _ _).trans ?_)))
    rw [wn, wn4, wn2, wn3]
    refine go_f (decide_eq_false (by omega)) ((e2 _ _).trans ((e2' _ _).trans ((e3 _ _).trans ((e3' _ _).trans ?_))))
    rw [wx, wy, wx2]
    rw [wxy, wnm]
    exact go_t (decide_eq_true (by omega)) (ez R fun a b c d e f g h => K a b c d e f g 7 h)
  by_cases c4 : bs.length > n + 4 + n * m
  · refine fail 9 (by rw [hdec, if_neg c3, if_pos c4]) fun R K => ?_
    unfold R46_Decode R46_Decode_b
    refine go_halN hH1 (go_f (decide_eq_false (by omega)) ((e1 _ _).trans ((e1' _ _).trans ?_)))
    rw [wn, wn4, wn2, wn3]
    refine go_f (decide_eq_false (by omega)) ((e2 _ _).trans ((e2' _ _).trans ((e3 _ _).trans ((e3' _ _).trans ?_))))
    rw [wx, wy, wx2]
    rw [wxy, wnm]
    exact go_f (decide_eq_false (by omega)) (go_t (decide_eq_true (by omega)) (ez R fun a b c d e f g h => K a b c d e f g 9 h))
  rw [if_neg c3, if_neg c4] at hdec
  obtain ⟨g0, b0, b0'⟩ := byte_of hbs (i := 0) (by omega)
  obtain ⟨s, hs⟩ : ∃ s, s = bs.getD 0 0 := ⟨_, rfl⟩
  rw [← hs] at g0 b0 b0' hdec
  obtain ⟨p0, e0, e0'⟩ := byt_at h1 g0
  have ws : IntKind.wrap .i64 s = s := w64 (by omega) (by omega)
  obtain ⟨rs, hrs'⟩ : ∃ rs, rs = (bs.drop 2).take n := ⟨_, rfl⟩
  rw [← hrs'] at hdec
  have hrl : rs.length = n := by rw [hrs']; simp; omega
  obtain ⟨H7, hH7⟩ : ∃ H7, H7 = H1 ++ [some (⟨[.int .i64 s, .slice none 0 0, .slice none 0 0], false, 0⟩ : Blk)] := ⟨_, rfl⟩
  have o7 : Old H1.length H1 H7 := hH7 ▸ Old.app _ _
  have O7 : Owns H7 H1.length [.int .i64 s, .slice none 0 0, .slice none 0 0] 0 := by rw [hH7]; exact hblk_new H1 _
  have l7 : H7.length = H1.length + 1 := by rw [hH7]; simp
  obtain ⟨H6, q6, c6, e6, O6, B6, o6⟩ := rol_l k (N := H1.length) (c := c) (some ⟨H.length, 0, none⟩) (Nat.le_refl _) hl hbs (byt_below h1) (n := n) (by omega) (by omega) (m : Int) n k 0 (by omega) (by omega) H7 none 0 O7 (.nil _ _ _) (h1.keep o7)
  rw [← hrs'] at B6
  have o16 : Old H1.length H1 H6 := o7.trans o6
  have o06 : Old H.length H H6 := o1.trans (o16.mono (by omega))
  have D6 : DecS H1.length H1.length H6 s rs [] q6 c6 none 0 := by
    refine ⟨by rw [hrl]; exact O6, B6.shows.1, fun a ha => ?_, .nil _ _ _, (fun a ha => by cases ha), (fun r hr => by cases hr), (fun r hr => by cases hr)⟩
    rcases B6 with ⟨h, _⟩ | ⟨b6, h, _, h6, h8, _⟩
    · rw [h] at ha; cases ha
    · rw [h] at ha; cases ha
      have := h8.lt
      exact ⟨by simp only; omega, by simp only; omega, (fun a' ha' => by cases ha'), by simp only; omega⟩
  obtain ⟨H8, rows, qp, cp, e8, D8, hrows, o8⟩ := rdrow_l k hk (N := H1.length) (c := c) (some ⟨H.length, 0, none⟩) (Nat.le_refl _) hl hbs (byt_below h1) (n := n) (m := m) (by omega) (by omega) hmb m k 0 (by omega) (by omega) H6 [] none 0 D6 rfl o16.1 (h1.keep o16)
  have o08 : Old H.length H H8 := o06.trans (o8.mono (by omega))
  have l8 := o8.1
  have l6 := o16.1
  have x0 : hcell H8 H1.length 0 = some (.int .i64 s) := D8.o.sees.cell 0
  have x1 : hcell H8 H1.length 1 = some (.slice q6 rs.length c6) := D8.o.sees.cell 1
  have x2 : hcell H8 H1.length 2 = some (.slice qp rows.length cp) := D8.o.sees.cell 2
  have hrwl : rows.length = m := by rw [← cons_len, hrows, chunks_len]
  have F8 : FewC rs rows := ⟨by omega, by omega, fun r hr => by
    have : r.2.2 ∈ chunks n m (bs.drop (n + 4)) := by rw [← hrows]; exact List.mem_map.2 ⟨r, hr, rfl⟩
    have hch : ∀ (m : Nat) (l : List Int), ∀ x ∈ chunks n m l, x.length ≤ n := by
      intro m
      induction m with
      | zero => intro l x hx; cases hx
      | succ m ih =>
        intro l x hx
        rcases List.mem_cons.1 hx with rfl | hx
        · rw [List.length_take]; omega
        · exact ih _ x hx
    have := hch m _ _ this; omega⟩
  obtain ⟨H9, e9, o9⟩ := rvalid_eq (k := k) (by omega) s c6 cp D8.r D8.pal F8
  have l9 := o9.1
  have D9 := D8.keep o9
  have o09 : Old H.length H H9 := o08.trans (o9.mono (by omega))
  have Oz9 : Owns H9 H.length [.int .i64 0, .slice none 0 0, .slice none 0 0] 0 := (O1.old (o16.trans o8) (by omega)).old o9 (by omega)
  have hvc : validI s rs rows = vC s rs (chunks n m (bs.drop (n + 4))) := by rw [valid_con, hrows]
  have y0 : hcell H9 H1.length 0 = some (.int .i64 s) := D9.o.sees.cell 0
  have y1 : hcell H9 H1.length 1 = some (.slice q6 rs.length c6) := D9.o.sees.cell 1
  have y2 : hcell H9 H1.length 2 = some (.slice qp rows.length cp) := D9.o.sees.cell 2
  by_cases hv : validI s rs rows = 0
  · obtain ⟨Ha, ea, ba, na⟩ := put3 Oz9 rfl s q6 rs.length c6 qp rows.length cp
    have kp : ∀ {q : Option Addr} {cs : List Value}, Shows H9 q cs → (∀ a, q = some a → H1.length ≤ a.block ∧ a.block < H9.length) → Shows Ha q cs := fun h hh => Shows.same' h fun a ha => by have := hh a ha; exact ba.2 _ this.2 (by omega)
    refine ⟨Ha, s, q6, c6, qp, cp, rs, rows, 0, fun R K => ?_, o09.trans (ba.old (Nat.le_refl _) (by omega)), kp D9.r (fun a ha => ⟨(D9.ra a ha).2.2.2, (D9.ra a ha).2.1⟩), ⟨kp D9.p.shows.1 (fun a ha => ⟨by
      rcases D9.p with ⟨h, _⟩ | ⟨b', h, _, h3, _⟩
      · rw [h] at ha; cases ha
      · rw [h] at ha; cases ha; exact h3, D9.p.below a ha⟩), fun r hr => kp (D9.w r hr) (fun a ha => ⟨(D9.wa r hr a ha).2.2.2, (D9.wa r hr a ha).2.1⟩)⟩, ?_⟩
    · unfold R46_Decode R46_Decode_b
      refine go_halN hH1 (go_f (decide_eq_false (by omega)) ((e1 _ _).trans ((e1' _ _).trans ?_)))
      rw [wn, wn4, wn2, wn3]
      refine go_f (decide_eq_false (by omega)) ((e2 _ _).trans ((e2' _ _).trans ((e3 _ _).trans ((e3' _ _).trans ?_))))
      rw [wx, wy, wx2]
      rw [wxy, wnm]
      refine go_f (decide_eq_false (by omega)) (go_f (decide_eq_false (by omega)) ((e0 _ _).trans ((e0' _ _).trans ?_)))
      rw [ws]
      refine go_halst hH7 rfl rfl ((e6 _ _).trans ((e8 _ _).trans (go_ip x0 (go_lp x1 (go_lp x2 ((e9 _ _).trans ?_))))))
      refine go_f (by rw [hv]; rfl) (go_ip y0 (go_lp y1 (go_lp y2 ?_)))
      exact ea R fun a b c d e f g h => K a b c d e f g 0 h
    · rw [hdec, hrows]
      unfold dec2
      rw [if_pos (by rw [← hvc]; exact hv)]
  · obtain ⟨Ha, ea, ba, na⟩ := put3 Oz9 rfl 0 none 0 0 none 0 0
    refine ⟨Ha, 0, none, 0, none, 0, [], [], validI s rs rows, fun R K => ?_, o09.trans (ba.old (Nat.le_refl _) (by omega)), .inl rfl, ⟨.inl rfl, fun r hr => by cases hr⟩, ?_⟩
    · unfold R46_Decode R46_Decode_b
      refine go_halN hH1 (go_f (decide_eq_false (by omega)) ((e1 _ _).trans ((e1' _ _).trans ?_)))
      rw [wn, wn4, wn2, wn3]
      refine go_f (decide_eq_false (by omega)) ((e2 _ _).trans ((e2' _ _).trans ((e3 _ _).trans ((e3' _ _).trans ?_))))
      rw [wx, wy, wx2]
      rw [wxy, wnm]
      refine go_f (decide_eq_false (by omega)) (go_f (decide_eq_false (by omega)) ((e0 _ _).trans ((e0' _ _).trans ?_)))
      rw [ws]
      refine go_halst hH7 rfl rfl ((e6 _ _).trans ((e8 _ _).trans (go_ip x0 (go_lp x1 (go_lp x2 ((e9 _ _).trans ?_))))))
      refine go_t (by rw [bne_iff_ne]; exact hv) ?_
      exact ea R fun a b c d e f g h => K a b c d e f g (validI s rs rows) h
    · rw [hdec]
      unfold dec2
      rw [if_neg (by rw [← hvc]; exact hv), hvc]
      rfl
end Go.Proofs.Ytkjcjlembepdkaa.Sh
/- Colorspec: L_ColorspecDecodes answers true. -/
set_option linter.unusedVariables false
set_option linter.unusedSimpArgs false
namespace Go.Proofs.Ytkjcjlembepdkaa.Sh
open Go.Proofs.Ytkjcjlembepdkaa.FW
theorem wf_8 {a : Int} (h : (Lit.int .u8 a).wf = true) : 0 ≤ a ∧ a ≤ 255 := by
  simp only [Lit.wf, IntKind.min, IntKind.max, IntKind.signed, IntKind.bits, Bool.and_eq_true, decide_eq_true_eq, if_true, Bool.false_eq_true, if_false] at h
  exact ⟨by omega, by omega⟩
theorem bytes_of {H : Heap} : ∀ (es : List (List Value)), (∀ e ∈ es, Shp (.int .u8) H e) → ∃ xs : List Int, xs.length = es.length ∧ es.flatten = byt xs ∧ ∀ v ∈ xs, 0 ≤ v ∧ v ≤ 255 := by
  intro es
  induction es with
  | nil => intro _; exact ⟨[], rfl, rfl, fun v h => by cases h⟩
  | cons e es ih =>
    intro h
    obtain ⟨xs, h1, h2, h3⟩ := ih fun x hx => h x (List.mem_cons_of_mem _ hx)
    obtain ⟨a, rfl, ha⟩ := h e (by simp)
    refine ⟨a :: xs, by simp [h1], by rw [List.flatten_cons, h2]; rfl, fun v hv => ?_⟩
    rcases List.mem_cons.1 hv with rfl | hv
    · exact wf_8 ha
    · exact h3 v hv
theorem chunks_le (n : Nat) : ∀ (m : Nat) (l : List Int), ∀ x ∈ chunks n m l, x.length ≤ n := by
  intro m
  induction m with
  | zero => intro l x hx; cases hx
  | succ m ih =>
    intro l x hx
    rcases List.mem_cons.1 hx with rfl | hx
    · rw [List.length_take]; omega
    · exact ih _ x hx
theorem getD_byte {bs : List Int} (hbs : ∀ x ∈ bs, 0 ≤ x ∧ x ≤ 255) (i : Nat) : 0 ≤ bs.getD i 0 ∧ bs.getD i 0 ≤ 255 := by
  by_cases hi : i < bs.length
  · exact (byte_of hbs hi).2
  · have : bs.getD i 0 = 0 := by rw [List.getD_eq_getElem?_getD, List.getElem?_eq_none (by omega)]; rfl
    omega
theorem decR_few {bs : List Int} (hbs : ∀ x ∈ bs, 0 ≤ x ∧ x ≤ 255) {s : Int} {rs : List Int} {rows : List Rw} {e : Int} (h : (s, rs, cons rows, e) = decR bs) : FewC rs rows := by
  have key : ∀ cs : List (List Int), (s, rs, cs, e) = decR bs → rs.length ≤ 255 ∧ cs.length ≤ 65535 ∧ ∀ x ∈ cs, x.length ≤ 255 := by
    intro cs h
    have hn := getD_byte hbs 1
    have ha := getD_byte hbs (dn bs + 2)
    have hb := getD_byte hbs (dn bs + 3)
    have hn' : dn bs ≤ 255 := by unfold dn; omega
    have hm' : dm bs ≤ 65535 := by unfold dm; omega
    have triv : ∀ {z : Int}, (s, rs, cs, e) = ((0 : Int), ([] : List Int), ([] : List (List Int)), z) → rs.length ≤ 255 ∧ cs.length ≤ 65535 ∧ ∀ x ∈ cs, x.length ≤ 255 := fun h => by
      simp only [Prod.mk.injEq] at h
      obtain ⟨_, rfl, rfl, _⟩ := h
      exact ⟨by simp, by simp, fun x hx => by cases hx⟩
    unfold decR at h
    split at h
    · exact triv h
    split at h
    · exact triv h
    split at h
    · exact triv h
    split at h
    · exact triv h
    unfold dec2 at h
    split at h
    · simp only [Prod.mk.injEq] at h
      obtain ⟨_, rfl, rfl, _⟩ := h
      exact ⟨by rw [List.length_take]; omega, by rw [chunks_len]; exact hm', fun x hx => Nat.le_trans (chunks_le _ _ _ x hx) hn'⟩
    · exact triv h
  obtain ⟨h1, h2, h3⟩ := key _ h
  rw [cons_len] at h2
  exact ⟨by omega, by omega, fun r hr => by have := h3 r.2.2 (List.mem_map.2 ⟨r, hr, rfl⟩); omega⟩
theorem decodes_in (H : Heap) (us : List Value) (h : AllLies H [(.slc (.int .u8), false)] us) : L_ColorspecDecodes_c Bool 1000000 us H asB = some true := by
  obtain ⟨k, hk⟩ : ∃ k, k = 1000000 := ⟨_, rfl⟩
  rw [← hk]
  have hk0 : 100000 < k := by omega
  clear hk
  obtain ⟨q, c, es, vs, rfl, hc1, hc2, hsh, hS, h⟩ := lies_slc h
  obtain rfl := lies_nil h
  obtain ⟨bs, hbl, hbf, hbs⟩ := bytes_of es hsh
  rw [hbf] at hS
  rw [← hbl] at hc1 ⊢
  show L_ColorspecDecodes k q bs.length c H (fun t H => asB (.bool t) H) = some true
  have hcu : c = unk ∨ bs.length ≤ c ∧ c < unk := .inr ⟨hc1, by unfold unk; unfold maxLen at hc2; omega⟩
  unfold L_ColorspecDecodes L_ColorspecDecodes_b
  by_cases h5 : bs.length > 5000
  · exact go_t (decide_eq_true (by omega)) rfl
  refine go_f (decide_eq_false (by omega)) ?_
  obtain ⟨H1, s1, q1, c1, p1, d1, rs1, rows1, e1, x1, o1, S1, P1, r1⟩ := decode_eq (k := k) hk0 hS hcu (by omega) hbs
  have F1 := decR_few hbs r1
  obtain ⟨H2, hH2⟩ : ∃ H2, H2 = H1 ++ [some (⟨[.int .i64 s1, .slice q1 rs1.length c1, .slice p1 rows1.length d1], false, 0⟩ : Blk)] := ⟨_, rfl⟩
  have o2 : Old H1.length H1 H2 := hH2 ▸ Old.app _ _
  have O2 : Owns H2 H1.length [.int .i64 s1, .slice q1 rs1.length c1, .slice p1 rows1.length d1] 0 := by rw [hH2]; exact hblk_new H1 _
  have l2 : H2.length = H1.length + 1 := by rw [hH2]; simp
  have o02 : Old H.length H H2 := o1.trans (o2.mono o1.1)
  obtain ⟨H3, s3, q3, c3, p3, d3, rs3, rows3, e3, x3, o3, S3, P3, r3⟩ := rdecode_eq (k := k) hk0 (hS.keep o02) hcu (by omega) hbs
  obtain ⟨H4, hH4⟩ : ∃ H4, H4 = H3 ++ [some (⟨[.int .i64 s3, .slice q3 rs3.length c3, .slice p3 rows3.length d3], false, 0⟩ : Blk)] := ⟨_, rfl⟩
  have o4 : Old H3.length H3 H4 := hH4 ▸ Old.app _ _
  have O4 : Owns H4 H3.length [.int .i64 s3, .slice q3 rs3.length c3, .slice p3 rows3.length d3] 0 := by rw [hH4]; exact hblk_new H3 _
  have l3 := o3.1
  have o24 : Old H2.length H2 H4 := o3.trans (o4.mono l3)
  have A := at3 (O2.old o24 (by omega))
  have B := at3 O4
  have o14 : Old H1.length H1 H4 := o2.trans (o24.mono (by omega))
  have he := r1.trans r3.symm
  simp only [Prod.mk.injEq] at he
  obtain ⟨hs, hr, hcn, hee⟩ := he
  obtain ⟨H5, e5, o5⟩ := rsame_eq (k := k) hk0 s1 s3 c1 d1 c3 d3 (S1.keep o14) (P1.keep o14) F1 (S3.keep o4) (P3.keep o4)
  have hsame : sameB s1 rs1 rows1 s3 rs3 rows3 = true := by unfold sameB; rw [decide_eq_true hs, decide_eq_true hr, decide_eq_true hcn]; rfl
  rw [hsame] at e5
  refine (x1 _ _).trans (go_halst hH2 rfl rfl ((x3 _ _).trans (go_halst hH4 rfl rfl (go_ip A.a (go_lp A.b' (go_lp A.c' (go_ip B.a (go_lp B.b' (go_lp B.c' ((e5 _ _).trans (go_t rfl (go_t (by rw [hee]; exact beq_self_eq_true _) rfl))))))))))))
end Go.Proofs.Ytkjcjlembepdkaa.Sh
/- Colorspec, plain law: bytes and color specifications undo each other. -/
set_option linter.unusedVariables false
set_option linter.unusedSimpArgs false
namespace Go.Proofs.Ytkjcjlembepdkaa.Sh
open Go.Proofs.Ytkjcjlembepdkaa.FW
theorem w8_mod (n : Int) : w8 n = n % 256 := by
  unfold w8 IntKind.wrap
  simp [IntKind.bits, IntKind.signed]
theorem fd256 (m : Nat) : Int.fdiv ((m : Nat) : Int) 256 = ((m / 256 : Nat) : Int) := by
  rw [Int.fdiv_eq_ediv_of_nonneg _ (by omega)]; rfl
theorem map_w8 {xs : List Int} (h : ∀ x ∈ xs, 0 ≤ x ∧ x ≤ 255) : xs.map w8 = xs := by
  exact (List.map_congr_left (g := id) fun x hx => w8_in (h x hx).1 (h x hx).2).trans (List.map_id _)
theorem dep_le {m : Nat} (h : depB m = true) : m ≤ 256 := by
  unfold depB dep at h
  by_cases h0 : m = 0
  · omega
  rw [decide_eq_false h0] at h
  simp only [Bool.false_or, bne_iff_ne] at h
  split at h
  · omega
  repeat (split at h; omega)
  exact (h rfl).elim
structure VOk (s : Int) (rs : List Int) (cs : List (List Int)) : Prop where
  s1 : 1 ≤ s ∧ s ≤ 4
  n1 : 1 ≤ rs.length ∧ rs.length ≤ 4
  r : ∀ x ∈ rs, 0 ≤ x ∧ x ≤ 255
  m : cs.length ≤ 256
  c : ∀ x ∈ cs, x.length = rs.length ∧ ∀ y ∈ x, 0 ≤ y ∧ y ≤ 255
theorem vok {s : Int} {rs : List Int} {cs : List (List Int)} (h : vC s rs cs = 0) : VOk s rs cs := by
  unfold vC at h
  split at h
  · rename_i hk
    split at h
    · rename_i h2
      simp only [Bool.and_eq_true] at h2
      obtain ⟨⟨h3, h4⟩, h5⟩ := h2
      have hs := of_decide_eq_true hk
      simp only [rolesB, Bool.and_eq_true, decide_eq_true_eq] at h3
      obtain ⟨⟨⟨⟨⟨⟨r1, r2⟩, r3⟩, r4⟩, r5⟩, r6⟩, r7⟩ := h3
      have hn := nzc_le rs
      refine ⟨hs, ⟨r1, r2⟩, fun x hx => by have := inB_bd r6 hx; omega, dep_le h4, fun x hx => ?_⟩
      have := List.all_eq_true.1 h5 x hx
      unfold okC at this
      rw [Bool.and_eq_true, decide_eq_true_eq] at this
      refine ⟨this.1, fun y hy => of_decide_eq_true (List.all_eq_true.1 this.2 y hy)⟩
    · cases h
  · cases h
theorem join_chunks (n : Nat) : ∀ (m : Nat) (l : List Int), l.length = n * m → (chunks n m l).flatten = l := by
  intro m
  induction m with
  | zero => intro l h; simp at h; subst h; rfl
  | succ m ih =>
    intro l h
    rw [chunks, List.flatten_cons, ih _ (by rw [List.length_drop, h, Nat.mul_succ]; omega), List.take_append_drop]
theorem chunks_join (n : Nat) : ∀ (cs : List (List Int)), (∀ x ∈ cs, x.length = n) → chunks n cs.length cs.flatten = cs ∧ cs.flatten.length = n * cs.length := by
  intro cs
  induction cs with
  | nil => intro _; exact ⟨rfl, rfl⟩
  | cons x cs ih =>
    intro h
    obtain ⟨h1, h2⟩ := ih fun y hy => h y (List.mem_cons_of_mem _ hy)
    have hx := h x (List.mem_cons_self ..)
    refine ⟨?_, by rw [List.flatten_cons, List.length_append, h2, hx, List.length_cons, Nat.mul_succ]; omega⟩
    rw [List.length_cons, List.flatten_cons, chunks, List.take_left' hx, List.drop_left' hx, h1]
theorem flat_rcon {rows : List Rw} (h : ∀ x ∈ cons rows, ∀ y ∈ x, 0 ≤ y ∧ y ≤ 255) : rows.flatMap rcon = (cons rows).flatten := by
  induction rows with
  | nil => rfl
  | cons r rows ih =>
    rw [List.flatMap_cons, ih fun x hx => h x (List.mem_cons_of_mem _ hx)]
    show rcon r ++ _ = r.2.2 ++ (cons rows).flatten
    unfold rcon
    rw [map_w8 (h r.2.2 (List.mem_cons_self ..))]
/-- What was encoded is decoded. -/
theorem dec_enc {s : Int} {rs : List Int} {rows : List Rw} (h : validI s rs rows = 0) : decR (encB s rs rows) = (s, rs, cons rows, 0) := by
  rw [valid_con] at h
  have V := vok h
  obtain ⟨x, hx⟩ : ∃ x, x = w8 (Int.fdiv ((rows.length : Nat) : Int) 256) := ⟨_, rfl⟩
  obtain ⟨y, hy⟩ : ∃ y, y = w8 ((rows.length : Nat) : Int) := ⟨_, rfl⟩
  have hml := V.m
  rw [cons_len] at hml
  obtain ⟨c1, c2⟩ := chunks_join rs.length (cons rows) (fun x hx => (V.c x hx).1)
  rw [cons_len] at c1 c2
  have he : encB s rs rows = s :: ((rs.length : Nat) : Int) :: (rs ++ (x :: y :: (cons rows).flatten)) := by
    unfold encB
    rw [← hx, ← hy, map_w8 V.r, flat_rcon fun x hx => (V.c x hx).2, w8_in (n := s) (by have := V.s1; omega) (by have := V.s1; omega), w8_in (n := ((rs.length : Nat) : Int)) (by omega) (by have := V.n1; omega)]
    simp
  obtain ⟨n, hn⟩ : ∃ n, n = rs.length := ⟨_, rfl⟩
  obtain ⟨F, hF⟩ : ∃ F, F = (cons rows).flatten := ⟨_, rfl⟩
  rw [← hF] at he c1 c2
  rw [← hn] at he c1 c2
  rw [he]
  obtain ⟨bs, hbs⟩ : ∃ bs, bs = s :: ((n : Nat) : Int) :: (rs ++ (x :: y :: F)) := ⟨_, rfl⟩
  rw [← hbs]
  have hdn : dn bs = n := by rw [hbs]; rfl
  have hlen : bs.length = n + 4 + n * rows.length := by rw [hbs]; simp [c2]; omega
  have g2 : bs.getD (n + 2) 0 = x := by
    rw [hbs, List.getD_eq_getElem?_getD, List.getElem?_cons_succ, List.getElem?_cons_succ, List.getElem?_append_right (by omega)]
    simp [hn]
  have g3 : bs.getD (n + 3) 0 = y := by
    rw [hbs, List.getD_eq_getElem?_getD, List.getElem?_cons_succ, List.getElem?_cons_succ, List.getElem?_append_right (by omega)]
    simp [hn]
  have hdm : dm bs = rows.length := by
    unfold dm
    rw [hdn, g2, g3, hx, hy, fd256, w8_mod, w8_mod]
    omega
  have hd2 : (bs.drop 2).take n = rs := by rw [hbs]; simp [hn]
  have hd4 : bs.drop (n + 4) = F := by
    rw [hbs, List.drop_succ_cons, List.drop_succ_cons, List.drop_append]
    simp [hn]
  unfold decR
  rw [hdn, hdm, if_neg (by omega), if_neg (by omega), if_neg (by omega), if_neg (by omega), hd2, hd4, c1]
  have hs0 : bs.getD 0 0 = s := by rw [hbs]; rfl
  rw [hs0]
  unfold dec2
  rw [if_pos h]
/-- What was decoded is encoded. -/
theorem enc_dec {bs : List Int} (hbs : ∀ x ∈ bs, 0 ≤ x ∧ x ≤ 255) {s : Int} {rs : List Int} {rows : List Rw} (h : (s, rs, cons rows, 0) = decR bs) : validI s rs rows = 0 ∧ encB s rs rows = bs := by
  unfold decR at h
  split at h
  · simp at h
  rename_i c1
  split at h
  · simp at h
  rename_i c2
  split at h
  · simp at h
  rename_i c3
  split at h
  · simp at h
  rename_i c4
  unfold dec2 at h
  split at h
  case isFalse hne => simp only [Prod.mk.injEq] at h; exact (hne h.2.2.2.symm).elim
  rename_i hv
  simp only [Prod.mk.injEq] at h
  obtain ⟨h1, h2, h3, _⟩ := h
  obtain ⟨n, hn⟩ : ∃ n, n = dn bs := ⟨_, rfl⟩
  obtain ⟨m, hm⟩ : ∃ m, m = dm bs := ⟨_, rfl⟩
  rw [← hn] at c2 c3 c4 h2 h3 hv
  rw [← hm] at c3 c4 h3 hv
  rw [← h1, ← h2, ← h3] at hv
  refine ⟨by rw [valid_con]; exact hv, ?_⟩
  have V := vok hv
  have hrl : rs.length = n := by rw [h2]; simp; omega
  have hml : rows.length = m := by rw [← cons_len, h3, chunks_len]
  have b1 := getD_byte hbs 1
  have b2 := getD_byte hbs (n + 2)
  have b3 := getD_byte hbs (n + 3)
  have hn' : bs.getD 1 0 = (n : Int) := by rw [hn]; unfold dn; omega
  have hm' : (m : Int) = bs.getD (n + 2) 0 * 256 + bs.getD (n + 3) 0 := by rw [hm]; unfold dm; rw [← hn]; omega
  have hfl : (cons rows).flatten = bs.drop (n + 4) := by rw [h3]; exact join_chunks n m _ (by rw [List.length_drop]; omega)
  unfold encB
  rw [map_w8 V.r, flat_rcon fun x hx => (V.c x hx).2, hfl, w8_in (n := s) (by have := V.s1; omega) (by have := V.s1; omega), w8_in (n := ((rs.length : Nat) : Int)) (by omega) (by have := V.n1; omega), hrl, hml, fd256, w8_mod, w8_mod]
  have e1 : (((m / 256 : Nat) : Int)) % 256 = bs.getD (n + 2) 0 := by omega
  have e2 : ((m : Nat) : Int) % 256 = bs.getD (n + 3) 0 := by omega
  rw [e1, e2, h1, ← hn', h2]
  apply List.ext_getElem?
  intro i
  have hg : ∀ j, j < bs.length → bs[j]? = some (bs.getD j 0) := fun j hj => by simp [hj]
  by_cases hi : i < bs.length
  · by_cases i0 : i = 0
    · subst i0; rw [hg 0 hi]; rfl
    by_cases i1 : i = 1
    · subst i1; rw [hg 1 hi]; rfl
    obtain ⟨j, rfl⟩ : ∃ j, i = j + 2 := ⟨i - 2, by omega⟩
    have hl2 : ((bs.drop 2).take n).length = n := by simp; omega
    rw [show [bs.getD 0 0, bs.getD 1 0] ++ (bs.drop 2).take n ++ [bs.getD (n + 2) 0, bs.getD (n + 3) 0] ++ bs.drop (n + 4) = bs.getD 0 0 :: bs.getD 1 0 :: ((bs.drop 2).take n ++ (bs.getD (n + 2) 0 :: bs.getD (n + 3) 0 :: bs.drop (n + 4))) from by simp]
    rw [List.getElem?_cons_succ, List.getElem?_cons_succ]
    by_cases j0 : j < n
    · rw [List.getElem?_append_left (by omega), List.getElem?_take, if_pos j0, List.getElem?_drop, show 2 + j = j + 2 from by omega]
    · rw [List.getElem?_append_right (by omega), hl2]
      by_cases j1 : j = n
      · subst j1; rw [Nat.sub_self, List.getElem?_cons_zero, hg _ hi]
      by_cases j2 : j = n + 1
      · subst j2; rw [show n + 1 - n = 1 from by omega, List.getElem?_cons_succ, List.getElem?_cons_zero, hg _ hi]
      obtain ⟨z, hz⟩ : ∃ z, j = n + 2 + z := ⟨j - n - 2, by omega⟩
      subst hz
      rw [show n + 2 + z - n = z + 1 + 1 from by omega, List.getElem?_cons_succ, List.getElem?_cons_succ, List.getElem?_drop, show n + 4 + z = n + 2 + z + 2 from by omega]
  · rw [List.getElem?_eq_none (show bs.length ≤ i by omega), List.getElem?_eq_none (by simp; omega)]
end Go.Proofs.Ytkjcjlembepdkaa.Sh
