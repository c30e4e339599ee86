/- Colorspec: numbers within bounds, how many are not 0, the depth of a palette. -/
import Derived.Test.YtkjcjlembepdkaaSh0
import Derived.Test.YtkjcjlembepdkaaSh1
import Derived.Test.YtkjcjlembepdkaaFwY
import Derived.Test.YtkjcjlembepdkaaFwO
import Derived.IntWalk
set_option linter.unusedVariables false
set_option linter.unusedSimpArgs false
namespace Go.Proofs.Ytkjcjlembepdkaa.Sh
open Go.Proofs.Ytkjcjlembepdkaa.FW
theorem wf_64 {a : Int} (h : (Lit.int .i64 a).wf = true) : -9223372036854775808 ≤ a ∧ a ≤ 9223372036854775807 := by
  simp only [Lit.wf, IntKind.min, IntKind.max, IntKind.signed, IntKind.bits, Bool.and_eq_true, decide_eq_true_eq, if_true] at h
  exact ⟨by omega, by omega⟩
theorem w64 {n : Int} (h0 : -9223372036854775808 ≤ n) (h1 : n ≤ 9223372036854775807) : IntKind.wrap .i64 n = n := IntWalk.i64_in n ⟨h0, h1⟩
def ints (l : List Int) : List Value := l.map (.int .i64)
theorem ints_len (l : List Int) : (ints l).length = l.length := by simp [ints]
theorem ints_get {l : List Int} {i : Nat} {x : Int} (h : l[i]? = some x) : (ints l)[i]? = some (.int .i64 x) := by simp [ints, h]
theorem int_at {H : Heap} {q : Option Addr} {xs : List Int} (h : Shows H q (ints xs)) {i : Nat} {x : Int} (hi : xs[i]? = some x) :
    ∃ p, (∀ (R : Type) (K : Option Addr → Option R), hidx q xs.length (i : Int) 1 K = K p) ∧ ∀ (R : Type) (K : Int → Option R), ldI .i64 H p K = K x := by
  have hlt : i < xs.length := (List.getElem?_eq_some_iff.1 hi).1
  obtain ⟨p, e, _, m⟩ := h.idx (l := xs.length) (size := 1) (by rw [ints_len]; omega) (i := (i : Int)) (by omega) (by omega) (by omega)
  exact ⟨p, e, fun R K => ldI_of (m _ (by rw [Int.toNat_natCast, Nat.mul_one]; exact ints_get hi)) rfl K⟩
theorem drop_cons {α : Type} {l : List α} {i : Nat} {x : α} (h : l[i]? = some x) : l.drop i = x :: l.drop (i + 1) := by
  obtain ⟨h1, h2⟩ := List.getElem?_eq_some_iff.1 h
  rw [List.drop_eq_getElem_cons h1, h2]
theorem take_snoc {α : Type} {l : List α} {i : Nat} {x : α} (h : l[i]? = some x) : l.take (i + 1) = l.take i ++ [x] := by rw [List.take_add_one, h]; rfl
theorem ex_get {α : Type} {l : List α} {i : Nat} (h : i < l.length) : ∃ x, l[i]? = some x := ⟨_, List.getElem?_eq_getElem h⟩
def inB (lo hi : Int) (xs : List Int) : Bool := xs.all fun x => decide (lo ≤ x ∧ x ≤ hi)
theorem within_l (k : Nat) (lo hi : Int) {H : Heap} {q : Option Addr} {xs : List Int} (c : Nat) (h : Shows H q (ints xs)) (hl : xs.length < 1000000) : ∀ (m n i : Nat), m < n → xs.length = i + m → ∀ (R : Type) (KE : Unit → Option R) (KR : Bool → Option R),
    colorspec_within_l0 k KE KR n lo hi q xs.length c ((xs.length : Nat) : Int) (i : Int) H = bif inB lo hi (xs.drop i) then KE () else KR false := by
  intro m
  induction m with
  | zero =>
    intro n i hn hj R KE KR
    obtain ⟨n, rfl⟩ : ∃ n', n = n' + 1 := ⟨n - 1, by omega⟩
    unfold colorspec_within_l0 colorspec_within_l0_b
    rw [List.drop_eq_nil_of_le (by omega)]
    exact go_f (decide_eq_false (by omega)) rfl
  | succ m ih =>
    intro n i hn hj R KE KR
    obtain ⟨n, rfl⟩ : ∃ n', n = n' + 1 := ⟨n - 1, by omega⟩
    obtain ⟨x, hx⟩ := ex_get (l := xs) (i := i) (by omega)
    obtain ⟨p, e1, e2⟩ := int_at h hx
    rw [drop_cons hx]
    unfold colorspec_within_l0 colorspec_within_l0_b colorspec_within_p1 colorspec_within_p1_b
    refine go_t (decide_eq_true (by omega)) ((e1 _ _).trans ((e2 _ _).trans ?_))
    show _ = bif (decide (lo ≤ x ∧ x ≤ hi) && inB lo hi (xs.drop (i + 1))) then _ else _
    by_cases h1 : x < lo
    · rw [show decide (lo ≤ x ∧ x ≤ hi) = false from decide_eq_false (by omega)]
      exact go_t (decide_eq_true h1) rfl
    · refine go_f (decide_eq_false h1) ?_
      by_cases h2 : x > hi
      · rw [show decide (lo ≤ x ∧ x ≤ hi) = false from decide_eq_false (by omega)]
        exact go_t (decide_eq_true h2) rfl
      · refine go_f (decide_eq_false h2) ?_
        rw [show decide (lo ≤ x ∧ x ≤ hi) = true from decide_eq_true (by omega), Bool.true_and]
        dsimp only
        rw [w64 (n := (i : Int) + 1) (by omega) (by omega)]
        exact ih n (i + 1) (by omega) (by omega) R KE KR
theorem within_eq {k : Nat} (lo hi : Int) {H : Heap} {q : Option Addr} {xs : List Int} (c : Nat) (h : Shows H q (ints xs)) (hl : xs.length < 1000000) (hk : xs.length < k) (R : Type) (K : Bool → Option R) : colorspec_within k lo hi q xs.length c H K = K (inB lo hi xs) := by
  have := within_l k lo hi c h hl xs.length k 0 hk (by omega) R (fun _ => K true) K
  rw [List.drop_zero] at this
  unfold colorspec_within colorspec_within_b
  refine Eq.trans this ?_
  cases inB lo hi xs <;> rfl
/-- The color spaces. -/
def kn (s : Int) : Bool := decide (1 ≤ s ∧ s ≤ 4)
theorem known_eq (s : Int) (R : Type) (K : Bool → Option R) : colorspec_known s K = K (kn s) := by
  unfold colorspec_known colorspec_known_b kn
  by_cases h : s ≥ 1
  · refine go_t (decide_eq_true h) ?_
    congr 1
    by_cases h2 : s ≤ 4
    · rw [decide_eq_true h2, decide_eq_true ⟨by omega, h2⟩]
    · rw [decide_eq_false h2, decide_eq_false (by omega)]
  · refine go_f (decide_eq_false h) ?_
    rw [decide_eq_false (by omega)]
def chan (s : Int) : Int := if s = 1 then 1 else if s = 2 ∨ s = 3 then 3 else 0
theorem chan_eq (s : Int) (R : Type) (K : Int → Option R) : colorspec_Channels s K = K (chan s) := by
  unfold colorspec_Channels colorspec_Channels_b chan
  by_cases h1 : s = 1
  · subst h1; rfl
  by_cases h2 : s = 2
  · subst h2; rfl
  by_cases h3 : s = 3
  · subst h3; rfl
  rw [if_neg h1, if_neg (by omega)]
  rw [show (s == 1) = false from beq_eq_false_iff_ne.2 h1, show (s == 2) = false from beq_eq_false_iff_ne.2 h2, show (s == 3) = false from beq_eq_false_iff_ne.2 h3]
  rfl
def dep (n : Nat) : Int := if n = 2 then 1 else if n = 4 then 2 else if n = 8 then 3 else if n = 16 then 4 else if n = 32 then 5 else if n = 64 then 6 else if n = 128 then 7 else if n = 256 then 8 else 0
theorem shl1 (d : Nat) (hd : d ≤ 8) (R : Type) (K : Int → Option R) : hbin .shl .i64 1 (IntKind.wrap .u64 (d : Int)) K = K ((2 ^ d : Nat) : Int) := by
  have h : d = 0 ∨ d = 1 ∨ d = 2 ∨ d = 3 ∨ d = 4 ∨ d = 5 ∨ d = 6 ∨ d = 7 ∨ d = 8 := by omega
  rcases h with rfl | rfl | rfl | rfl | rfl | rfl | rfl | rfl | rfl <;> rfl
theorem depth_l (k : Nat) (q : Option Addr) (l c : Nat) : ∀ (m n d : Nat), m < n → 9 = d + m → 1 ≤ d → (∀ d', 1 ≤ d' → d' < d → l ≠ 2 ^ d') → ∀ (R : Type) (KE : Unit → Option R) (KR : Int → Option R), (∀ u, KE u = KR 0) →
    colorspec_depth_l0 k KE KR n q l c (d : Int) = KR (dep l) := by
  intro m
  induction m with
  | zero =>
    intro n d hn hd h1 hno R KE KR hK
    obtain ⟨n, rfl⟩ : ∃ n', n = n' + 1 := ⟨n - 1, by omega⟩
    unfold colorspec_depth_l0 colorspec_depth_l0_b
    refine go_f (decide_eq_false (by omega)) ((hK ()).trans ?_)
    have a1 := hno 1 (by omega) (by omega)
    have a2 := hno 2 (by omega) (by omega)
    have a3 := hno 3 (by omega) (by omega)
    have a4 := hno 4 (by omega) (by omega)
    have a5 := hno 5 (by omega) (by omega)
    have a6 := hno 6 (by omega) (by omega)
    have a7 := hno 7 (by omega) (by omega)
    have a8 := hno 8 (by omega) (by omega)
    unfold dep
    rw [if_neg a1, if_neg a2, if_neg a3, if_neg a4, if_neg a5, if_neg a6, if_neg a7, if_neg a8]
  | succ m ih =>
    intro n d hn hd h1 hno R KE KR hK
    obtain ⟨n, rfl⟩ : ∃ n', n = n' + 1 := ⟨n - 1, by omega⟩
    unfold colorspec_depth_l0 colorspec_depth_l0_b
    refine go_t (decide_eq_true (by omega)) ((shl1 d (by omega) _ _).trans ?_)
    by_cases hl : l = 2 ^ d
    · refine go_t (by rw [hl]; exact beq_self_eq_true _) ?_
      subst hl
      have h : d = 1 ∨ d = 2 ∨ d = 3 ∨ d = 4 ∨ d = 5 ∨ d = 6 ∨ d = 7 ∨ d = 8 := by omega
      rcases h with rfl | rfl | rfl | rfl | rfl | rfl | rfl | rfl <;> rfl
    · refine go_f (by rw [beq_eq_false_iff_ne]; omega) ?_
      rw [w64 (n := (d : Int) + 1) (by omega) (by omega)]
      exact ih n (d + 1) (by omega) (by omega) (by omega) (fun d' h2 h3 => by
        by_cases hd : d' = d
        · subst hd; exact hl
        · exact hno d' h2 (by omega)) R KE KR hK
theorem depth_eq {k : Nat} (hk : 10 < k) (q : Option Addr) (l c : Nat) (R : Type) (K : Int → Option R) : colorspec_depth k q l c K = K (dep l) := by
  unfold colorspec_depth colorspec_depth_b
  exact depth_l k q l c 8 k 1 (by omega) rfl (by omega) (fun d' h1 h2 => by omega) R _ _ (fun _ => rfl)
end Go.Proofs.Ytkjcjlembepdkaa.Sh
