/- Colorspec: the reference's Valid and Check. -/
import Derived.Test.YtkjcjlembepdkaaSh2
import Derived.Test.YtkjcjlembepdkaaSh3
import Derived.Test.YtkjcjlembepdkaaSh6
import Derived.Test.YtkjcjlembepdkaaCsE
import Derived.Test.YtkjcjlembepdkaaCsP
set_option linter.unusedVariables false
set_option linter.unusedSimpArgs false
namespace Go.Proofs.Ytkjcjlembepdkaa.Sh
open Go.Proofs.Ytkjcjlembepdkaa.FW
theorem rchan_eq (s : Int) (R : Type) (K : Int → Option R) : R46_Channels s K = K (chan s) := by
  unfold R46_Channels R46_Channels_b chan
  by_cases h1 : s = 1
  · subst h1; rfl
  by_cases h2 : s = 2
  · subst h2; rfl
  by_cases h3 : s = 3
  · subst h3; rfl
  rw [if_neg h1, if_neg (by omega)]
  rw [show (s == 1) = false from beq_eq_false_iff_ne.2 h1, show (s == 2) = false from beq_eq_false_iff_ne.2 h2, show (s == 3) = false from beq_eq_false_iff_ne.2 h3]
  rfl
theorem shl1' (d : Nat) (hd : d ≤ 8) (R : Type) (K : Int → Option R) : hbin .shl .i64 1 (d : Int) K = K ((2 ^ d : Nat) : Int) := by
  have h : d = 0 ∨ d = 1 ∨ d = 2 ∨ d = 3 ∨ d = 4 ∨ d = 5 ∨ d = 6 ∨ d = 7 ∨ d = 8 := by omega
  rcases h with rfl | rfl | rfl | rfl | rfl | rfl | rfl | rfl | rfl <;> rfl
theorem rdepth_l (k : Nat) (l : Nat) : ∀ (m n d : Nat), m < n → 9 = d + m → 1 ≤ d → (∀ d', 1 ≤ d' → d' < d → l ≠ 2 ^ d') → ∀ (R : Type) (KE : Unit → Option R) (KR : Int → Option R), (∀ u, KE u = KR 0) →
    R46_depth_l0 k KE KR n (l : Int) (d : Int) = KR (dep l) := by
  intro m
  induction m with
  | zero =>
    intro n d hn hd h1 hno R KE KR hK
    obtain ⟨n, rfl⟩ : ∃ n', n = n' + 1 := ⟨n - 1, by omega⟩
    unfold R46_depth_l0 R46_depth_l0_b
    refine go_f (decide_eq_false (by omega)) ((hK ()).trans ?_)
    have a1 := hno 1 (by omega) (by omega)
    have a2 := hno 2 (by omega) (by omega)
    have a3 := hno 3 (by omega) (by omega)
    have a4 := hno 4 (by omega) (by omega)
    have a5 := hno 5 (by omega) (by omega)
    have a6 := hno 6 (by omega) (by omega)
    have a7 := hno 7 (by omega) (by omega)
    have a8 := hno 8 (by omega) (by omega)
    unfold dep
    rw [if_neg a1, if_neg a2, if_neg a3, if_neg a4, if_neg a5, if_neg a6, if_neg a7, if_neg a8]
  | succ m ih =>
    intro n d hn hd h1 hno R KE KR hK
    obtain ⟨n, rfl⟩ : ∃ n', n = n' + 1 := ⟨n - 1, by omega⟩
    unfold R46_depth_l0 R46_depth_l0_b
    refine go_t (decide_eq_true (by omega)) ((shl1' d (by omega) _ _).trans ?_)
    by_cases hl : l = 2 ^ d
    · refine go_t (by rw [hl]; exact beq_self_eq_true _) ?_
      subst hl
      have h : d = 1 ∨ d = 2 ∨ d = 3 ∨ d = 4 ∨ d = 5 ∨ d = 6 ∨ d = 7 ∨ d = 8 := by omega
      rcases h with rfl | rfl | rfl | rfl | rfl | rfl | rfl | rfl <;> rfl
    · refine go_f (by rw [beq_eq_false_iff_ne]; omega) ?_
      rw [w64 (n := (d : Int) + 1) (by omega) (by omega)]
      exact ih n (d + 1) (by omega) (by omega) (by omega) (fun d' h2 h3 => by
        by_cases hd : d' = d
        · subst hd; exact hl
        · exact hno d' h2 (by omega)) R KE KR hK
theorem rdepth_eq {k : Nat} (hk : 10 < k) (l : Nat) (R : Type) (K : Int → Option R) : R46_depth k ((l : Nat) : Int) K = K (dep l) := by
  unfold R46_depth R46_depth_b
  exact rdepth_l k l 8 k 1 (by omega) rfl (by omega) (fun d' h1 h2 => by omega) R _ _ (fun _ => rfl)
/-- A color specification at an address. -/
structure At3 (H : Heap) (b : Nat) (s : Int) (q : Option Addr) (l c : Nat) (q2 : Option Addr) (l2 c2 : Nat) : Prop where
  a : hcell H b 0 = some (.int .i64 s)
  b' : hcell H b 1 = some (.slice q l c)
  c' : hcell H b 2 = some (.slice q2 l2 c2)
theorem at3 {H : Heap} {b z : Nat} {s : Int} {q : Option Addr} {l c : Nat} {q2 : Option Addr} {l2 c2 : Nat} (h : Owns H b [.int .i64 s, .slice q l c, .slice q2 l2 c2] z) : At3 H b s q l c q2 l2 c2 := ⟨h.sees.cell 0, h.sees.cell 1, h.sees.cell 2⟩
theorem nzc_zero (xs : List Int) (i : Nat) : nzc (xs.take i) ≤ i := by
  exact Nat.le_trans (nzc_le _) (by rw [List.length_take]; omega)
theorem zer_l (k : Nat) {b : Nat} {s : Int} {H : Heap} {q q2 : Option Addr} {l2 c2 : Nat} {xs : List Int} {c : Nat} (A : At3 H b s q xs.length c q2 l2 c2) (h : Shows H q (ints xs)) (hl : xs.length < 1000000) : ∀ (m n i : Nat), m < n → xs.length = i + m → ∀ (R : Type) (KE : Option Addr → Int → Int → Option R),
    R46_roles_l1 k KE n (some ⟨b, 0, none⟩) ((xs.length : Nat) : Int) ((i - nzc (xs.take i) : Nat) : Int) (i : Int) H = KE (some ⟨b, 0, none⟩) ((xs.length : Nat) : Int) ((xs.length - nzc xs : Nat) : Int) := by
  intro m
  induction m with
  | zero =>
    intro n i hn hj R KE
    obtain ⟨n, rfl⟩ : ∃ n', n = n' + 1 := ⟨n - 1, by omega⟩
    unfold R46_roles_l1 R46_roles_l1_b
    rw [List.take_of_length_le (by omega), show i = xs.length from by omega]
    exact go_f (decide_eq_false (by omega)) rfl
  | succ m ih =>
    intro n i hn hj R KE
    obtain ⟨n, rfl⟩ : ∃ n', n = n' + 1 := ⟨n - 1, by omega⟩
    obtain ⟨x, hx⟩ := ex_get (l := xs) (i := i) (by omega)
    obtain ⟨p', e1, e2⟩ := int_at h hx
    have hle := nzc_zero xs i
    have ih' := ih n (i + 1) (by omega) (by omega) R KE
    rw [take_snoc hx] at ih'
    unfold R46_roles_l1 R46_roles_l1_b R46_roles_p2 R46_roles_p2_b
    refine go_t (decide_eq_true (by omega)) (go_fad (go_l A.b' ((e1 _ _).trans ((e2 _ _).trans ?_))))
    by_cases h0 : x = 0
    · have : nzc (xs.take i ++ [x]) = nzc (xs.take i) := by unfold nzc; rw [List.filter_append]; simp [h0]
      rw [this, show i + 1 - nzc (xs.take i) = i - nzc (xs.take i) + 1 from by omega] at ih'
      refine go_t (by rw [h0]; rfl) ?_
      dsimp only
      rw [w64 (n := (i : Int) + 1) (by omega) (by omega), w64 (n := ((i - nzc (xs.take i) : Nat) : Int) + 1) (by omega) (by omega)]
      exact ih'
    · have : nzc (xs.take i ++ [x]) = nzc (xs.take i) + 1 := by unfold nzc; rw [List.filter_append]; simp [h0]
      rw [this, show i + 1 - (nzc (xs.take i) + 1) = i - nzc (xs.take i) from by omega] at ih'
      refine go_f (by rw [beq_eq_false_iff_ne]; exact h0) ?_
      dsimp only
      rw [w64 (n := (i : Int) + 1) (by omega) (by omega)]
      exact ih'
theorem fnd_l (k : Nat) {b : Nat} {s : Int} {H : Heap} {q q2 : Option Addr} {l2 c2 : Nat} {xs : List Int} {c : Nat} (A : At3 H b s q xs.length c q2 l2 c2) (h : Shows H q (ints xs)) (hl : xs.length < 1000000) (kk ch : Int) : ∀ (m n i : Nat), m < n → xs.length = i + m → ∀ (t : Bool) (R : Type) (KE : Option Addr → Int → Int → Int → Bool → Option R),
    R46_roles_l5 k KE n (some ⟨b, 0, none⟩) ((xs.length : Nat) : Int) kk ch t (i : Int) H = KE (some ⟨b, 0, none⟩) ((xs.length : Nat) : Int) kk ch (t || decide (ch ∈ xs.drop i)) := by
  intro m
  induction m with
  | zero =>
    intro n i hn hj t R KE
    obtain ⟨n, rfl⟩ : ∃ n', n = n' + 1 := ⟨n - 1, by omega⟩
    unfold R46_roles_l5 R46_roles_l5_b
    rw [List.drop_eq_nil_of_le (by omega)]
    refine go_f (decide_eq_false (by omega)) ?_
    simp
  | succ m ih =>
    intro n i hn hj t R KE
    obtain ⟨n, rfl⟩ : ∃ n', n = n' + 1 := ⟨n - 1, by omega⟩
    obtain ⟨x, hx⟩ := ex_get (l := xs) (i := i) (by omega)
    obtain ⟨p', e1, e2⟩ := int_at h hx
    rw [drop_cons hx]
    unfold R46_roles_l5 R46_roles_l5_b R46_roles_p6 R46_roles_p6_b
    refine go_t (decide_eq_true (by omega)) ?_
    cases t with
    | true =>
      refine go_t rfl ?_
      dsimp only
      rw [w64 (n := (i : Int) + 1) (by omega) (by omega), Bool.true_or]
      have := ih n (i + 1) (by omega) (by omega) true R KE
      rwa [Bool.true_or] at this
    | false =>
      refine go_f rfl (go_fad (go_l A.b' ((e1 _ _).trans ((e2 _ _).trans ?_))))
      dsimp only
      rw [w64 (n := (i : Int) + 1) (by omega) (by omega), Bool.false_or]
      refine (ih n (i + 1) (by omega) (by omega) (x == ch) R KE).trans ?_
      congr 1
      by_cases hc : x = ch
      · subst hc; simp
      · rw [show (x == ch) = false from beq_eq_false_iff_ne.2 hc, Bool.false_or]
        simp only [List.mem_cons, show ¬ ch = x from fun h => hc h.symm, false_or]
theorem cov_l (k : Nat) {b : Nat} {s : Int} {H : Heap} {q q2 : Option Addr} {l2 c2 : Nat} {xs : List Int} {c : Nat} (A : At3 H b s q xs.length c q2 l2 c2) (h : Shows H q (ints xs)) (hl : xs.length < 1000) (hk : 1000 < k) (kk : Nat) (hkk : kk ≤ 1000) : ∀ (m n i : Nat), m < n → kk + 1 = i + m → 1 ≤ i → (∀ x : Nat, 1 ≤ x → x < i → (x : Int) ∈ xs) → ∀ (R : Type) (KE : Unit → Option R) (KR : Bool → Option R),
    R46_roles_l4 k KE KR n (some ⟨b, 0, none⟩) ((xs.length : Nat) : Int) (kk : Int) (i : Int) H = bif covB kk xs then KE () else KR false := by
  intro m
  induction m with
  | zero =>
    intro n i hn hj h1 hc R KE KR
    obtain ⟨n, rfl⟩ : ∃ n', n = n' + 1 := ⟨n - 1, by omega⟩
    unfold R46_roles_l4 R46_roles_l4_b
    rw [(covB_iff kk xs).2 fun x h2 h3 => hc x h2 (by omega)]
    exact go_f (decide_eq_false (by omega)) rfl
  | succ m ih =>
    intro n i hn hj h1 hc R KE KR
    obtain ⟨n, rfl⟩ : ∃ n', n = n' + 1 := ⟨n - 1, by omega⟩
    unfold R46_roles_l4 R46_roles_l4_b
    refine go_t (decide_eq_true (by omega)) ((fnd_l k A h (by omega) (kk : Int) (i : Int) xs.length k 0 (by omega) (by omega) false _ _).trans ?_)
    try dsimp only
    rw [List.drop_zero, Bool.false_or]
    by_cases hm : (i : Int) ∈ xs
    · rw [decide_eq_true hm]
      refine go_f rfl ?_
      rw [w64 (n := (i : Int) + 1) (by omega) (by omega)]
      exact ih n (i + 1) (by omega) (by omega) (by omega) (fun x h2 h3 => by
        by_cases hx : x = i
        · subst hx; exact hm
        · exact hc x h2 (by omega)) R KE KR
    · rw [decide_eq_false hm, show covB kk xs = false from by
        cases hcb : covB kk xs with
        | false => rfl
        | true => exact (hm ((covB_iff kk xs).1 hcb i h1 (by omega))).elim]
      exact go_t rfl rfl
theorem rroles_eq {k : Nat} (hk : 1000 < k) {H : Heap} {q q2 : Option Addr} {rs : List Int} (s : Int) (c l2 c2 : Nat) (h : Shows H q (ints rs)) (hl : rs.length ≤ 1000) :
    ∃ H', (∀ (R : Type) (K : Bool → Heap → Option R), R46_roles k s q rs.length c q2 l2 c2 H K = K (rolesB s rs) H') ∧ Old H.length H H' := by
  obtain ⟨H1, hH1⟩ : ∃ H1, H1 = H ++ [some (⟨[.int .i64 s, .slice q rs.length c, .slice q2 l2 c2], false, 0⟩ : Blk)] := ⟨_, rfl⟩
  have o1 : Old H.length H H1 := hH1 ▸ Old.app _ _
  have O1 : Owns H1 H.length [.int .i64 s, .slice q rs.length c, .slice q2 l2 c2] 0 := by rw [hH1]; exact hblk_new H _
  have A := at3 O1
  have h1 := h.keep o1
  refine ⟨H1, fun R K => ?_, o1⟩
  unfold R46_roles R46_roles_b R46_roles_p0 R46_roles_p0_b
  refine go_halN hH1 (go_fad (go_l A.b' ?_))
  by_cases c1 : rs.length < 1
  · rw [show rolesB s rs = false from by unfold rolesB; rw [decide_eq_false (by omega)]; rfl]
    exact go_t (decide_eq_true (by omega)) rfl
  refine go_f (decide_eq_false (by omega)) ?_
  by_cases c2' : rs.length > 4
  · rw [show rolesB s rs = false from by unfold rolesB; rw [decide_eq_false (p := rs.length ≤ 4) (by omega), Bool.and_false]; rfl]
    exact go_t (decide_eq_true (by omega)) rfl
  have hn := nzc_le rs
  have zl := zer_l k A h1 (by omega) rs.length k 0 (by omega) (by omega)
  rw [Nat.zero_sub] at zl
  refine go_f (decide_eq_false (by omega)) ((zl _ _).trans ?_)
  have hsub : IntKind.wrap .i64 (((rs.length : Nat) : Int) - ((rs.length - nzc rs : Nat) : Int)) = ((nzc rs : Nat) : Int) := by rw [w64 (by omega) (by omega)]; omega
  try dsimp only
  rw [hsub]
  unfold R46_roles_p3 R46_roles_p3_b
  have b1 : decide (1 ≤ rs.length) = true := decide_eq_true (by omega)
  have b2 : decide (rs.length ≤ 4) = true := decide_eq_true (by omega)
  by_cases d2 : rs.length ≤ nzc rs + 1
  case neg =>
    rw [show rolesB s rs = false from by unfold rolesB; rw [b1, b2, decide_eq_false d2]; simp]
    exact go_t (decide_eq_true (by omega)) rfl
  have d2' : decide (rs.length ≤ nzc rs + 1) = true := decide_eq_true d2
  refine go_f (decide_eq_false (by omega)) ?_
  by_cases d1 : nzc rs < 1
  · rw [show rolesB s rs = false from by unfold rolesB; rw [b1, b2, decide_eq_false (p := 1 ≤ nzc rs) (by omega)]; rfl]
    exact go_t (decide_eq_true (by omega)) rfl
  have d1' : decide (1 ≤ nzc rs) = true := decide_eq_true (by omega)
  have cv := cov_l k A h1 (by omega) hk (nzc rs) (by omega) (nzc rs) k 1 (by omega) (by omega) (by omega) (fun x h2 h3 => by omega)
  have ce := cover_eq (rs := rs) (by omega) (by omega) d2 (by omega)
  refine go_f (decide_eq_false (by omega)) (go_fad (go_i A.a ?_))
  by_cases d3 : s = 4
  · rw [show rolesB s rs = covB (nzc rs) rs from by unfold rolesB; rw [b1, b2, d1', d2', decide_eq_true d3, ce]; simp]
    refine go_f (by rw [d3]; rfl) ((cv _ _ _).trans ?_)
    cases covB (nzc rs) rs <;> rfl
  · refine go_t (by rw [bne_iff_ne]; exact d3) (go_fad (go_i A.a ((rchan_eq _ _ _).trans ?_)))
    by_cases d5 : ((nzc rs : Nat) : Int) = chan s
    case neg =>
      rw [show rolesB s rs = false from by unfold rolesB; rw [b1, b2, d1', d2', decide_eq_false d3, decide_eq_false d5]; rfl]
      exact go_t (by rw [bne_iff_ne]; exact d5) rfl
    rw [show rolesB s rs = covB (nzc rs) rs from by unfold rolesB; rw [b1, b2, d1', d2', decide_eq_false d3, decide_eq_true d5, ce]; simp]
    refine go_f (by rw [d5]; exact bne_self_eq_false' _) ((cv _ _ _).trans ?_)
    cases covB (nzc rs) rs <;> rfl
end Go.Proofs.Ytkjcjlembepdkaa.Sh
