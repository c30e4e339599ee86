/- TagtreeSizes: the error of New and the number of levels. -/
import Derived.Test.YtblkejnciinaeaaTtA
import Derived.Test.YtblkejnciinaeaaSh9
set_option linter.unusedVariables false
set_option linter.unusedSimpArgs false
namespace Go.Proofs.Ytblkejnciinaeaa.Sh
open Go.Proofs.Ytblkejnciinaeaa.FW Go.IntWalk
/-- How often a size is halved. -/
def dep : Nat → Nat → Nat → Nat
  | 0, _, _ => 0
  | m + 1, w, h => if w = 1 ∧ h = 1 then 0 else 1 + dep m ((w + 1) / 2) ((h + 1) / 2)
def tot : Nat → Nat → Nat → Nat
  | 0, _, _ => 0
  | m + 1, w, h => if w = 1 ∧ h = 1 then 0 else (w + 1) / 2 * ((h + 1) / 2) + tot m ((w + 1) / 2) ((h + 1) / 2)
theorem dep_le : ∀ (m w h : Nat), dep m w h ≤ m := by
  intro m
  induction m with
  | zero => intro w h; simp [dep]
  | succ m ih => intro w h; unfold dep; split <;> have := ih ((w + 1) / 2) ((h + 1) / 2) <;> omega
theorem tot_le : ∀ (m w h : Nat), 1 ≤ w → 1 ≤ h → w * h ≤ 65536 → tot m w h ≤ m * 65536 := by
  intro m
  induction m with
  | zero => intro w h _ _ _; simp [tot]
  | succ m ih =>
    intro w h h1 h2 h3
    have := half_mul h1 h2 h3
    have := ih ((w + 1) / 2) ((h + 1) / 2) (by omega) (by omega) this
    unfold tot; split <;> omega
theorem one_of {w h : Nat} (h1 : 1 ≤ w) (h2 : 1 ≤ h) : w * h > 1 ↔ ¬ (w = 1 ∧ h = 1) := by
  constructor
  · rintro h3 ⟨rfl, rfl⟩; omega
  · intro h3
    by_cases c : w = 1
    · subst c
      have : h ≠ 1 := fun e => h3 ⟨rfl, e⟩
      omega
    · have := Nat.mul_le_mul (show 2 ≤ w by omega) h2
      omega
theorem depth_l (k : Nat) : ∀ (m n w h c : Nat), m < n → 1 ≤ w → 1 ≤ h → w ≤ 2 ^ m → h ≤ 2 ^ m → m ≤ 16 → c + m ≤ 100 → ∀ (R : Type) (KE : Int → Option R), tagtree_Depth_l0 k KE n (w : Int) (h : Int) (c : Int) = KE ((c + dep m w h : Nat) : Int) := by
  intro m
  induction m with
  | zero =>
    intro n w h c hn hw hh hw2 hh2 hm hc R KE
    obtain ⟨n, rfl⟩ : ∃ n', n = n' + 1 := ⟨n - 1, by omega⟩
    simp only [Nat.pow_zero] at hw2 hh2
    obtain rfl : w = 1 := by omega
    obtain rfl : h = 1 := by omega
    rfl
  | succ m ih =>
    intro n w h c hn hw hh hw2 hh2 hm hc R KE
    obtain ⟨n, rfl⟩ : ∃ n', n = n' + 1 := ⟨n - 1, by omega⟩
    have p16 : 2 ^ (m + 1) ≤ 2 ^ 16 := Nat.pow_le_pow_right (by omega) hm
    have hp : 2 ^ (m + 1) = 2 * 2 ^ m := Nat.pow_succ'
    by_cases hone : w = 1 ∧ h = 1
    · obtain ⟨rfl, rfl⟩ := hone
      have : dep (m + 1) 1 1 = 0 := by unfold dep; rw [if_pos ⟨rfl, rfl⟩]
      rw [this]; rfl
    · have e1 : dep (m + 1) w h = 1 + dep m ((w + 1) / 2) ((h + 1) / 2) := by rw [dep, if_neg hone]
      have hw1 := half_w (w := w) (by omega)
      have hh1 := half_w (w := h) (by omega)
      have w3 : IntKind.wrap .i64 ((c : Int) + 1) = ((c + 1 : Nat) : Int) := by rw [w64 (by omega) (by omega)]; omega
      have r := ih n ((w + 1) / 2) ((h + 1) / 2) (c + 1) (by omega) (by omega) (by omega) (by omega) (by omega) (by omega) (by omega) R KE
      rw [e1, show c + (1 + dep m ((w + 1) / 2) ((h + 1) / 2)) = c + 1 + dep m ((w + 1) / 2) ((h + 1) / 2) from by omega, ← r]
      unfold tagtree_Depth_l0 tagtree_Depth_l0_b tagtree_Depth_p1 tagtree_Depth_p1_b
      by_cases c1 : w > 1
      · have d1 : decide ((w : Int) > 1) = true := decide_eq_true (by omega)
        refine go_t d1 ?_
        try dsimp only
        rw [hw1, hh1, w3]
        cases n <;> rfl
      · have d1 : decide ((w : Int) > 1) = false := decide_eq_false (by omega)
        have d2 : decide ((h : Int) > 1) = true := decide_eq_true (by omega)
        refine go_f d1 (go_t d2 ?_)
        try dsimp only
        rw [hw1, hh1, w3]
        cases n <;> rfl
theorem rdepth_l (k : Nat) : ∀ (m n w h c : Nat), m < n → 1 ≤ w → 1 ≤ h → w ≤ 2 ^ m → h ≤ 2 ^ m → m ≤ 16 → c + m ≤ 100 → w * h ≤ 65536 → ∀ (R : Type) (KE : Int → Option R), R10_Depth_l0 k KE n (w : Int) (h : Int) (c : Int) = KE ((c + dep m w h : Nat) : Int) := by
  intro m
  induction m with
  | zero =>
    intro n w h c hn hw hh hw2 hh2 hm hc hwh R KE
    obtain ⟨n, rfl⟩ : ∃ n', n = n' + 1 := ⟨n - 1, by omega⟩
    simp only [Nat.pow_zero] at hw2 hh2
    obtain rfl : w = 1 := by omega
    obtain rfl : h = 1 := by omega
    have w1 : IntKind.wrap .i64 (((1 : Nat) : Int) * ((1 : Nat) : Int)) = ((1 * 1 : Nat) : Int) := mulw (by omega)
    unfold R10_Depth_l0 R10_Depth_l0_b
    rw [w1]
    rfl
  | succ m ih =>
    intro n w h c hn hw hh hw2 hh2 hm hc hwh R KE
    obtain ⟨n, rfl⟩ : ∃ n', n = n' + 1 := ⟨n - 1, by omega⟩
    have p16 : 2 ^ (m + 1) ≤ 2 ^ 16 := Nat.pow_le_pow_right (by omega) hm
    have hp : 2 ^ (m + 1) = 2 * 2 ^ m := Nat.pow_succ'
    have w1 : IntKind.wrap .i64 ((w : Int) * (h : Int)) = ((w * h : Nat) : Int) := mulw hwh
    by_cases hone : w = 1 ∧ h = 1
    · obtain ⟨rfl, rfl⟩ := hone
      have : dep (m + 1) 1 1 = 0 := by unfold dep; rw [if_pos ⟨rfl, rfl⟩]
      rw [this]
      unfold R10_Depth_l0 R10_Depth_l0_b
      rw [w1]; rfl
    · have e1 : dep (m + 1) w h = 1 + dep m ((w + 1) / 2) ((h + 1) / 2) := by rw [dep, if_neg hone]
      have hw1 := half_w (w := w) (by omega)
      have hh1 := half_w (w := h) (by omega)
      have w3 : IntKind.wrap .i64 ((c : Int) + 1) = ((c + 1 : Nat) : Int) := by rw [w64 (by omega) (by omega)]; omega
      have r := ih n ((w + 1) / 2) ((h + 1) / 2) (c + 1) (by omega) (by omega) (by omega) (by omega) (by omega) (by omega) (by omega) (half_mul hw hh hwh) R KE
      have h1 := (one_of hw hh).2 hone
      have d1 : decide (((w * h : Nat) : Int) > 1) = true := decide_eq_true (by omega)
      rw [e1, show c + (1 + dep m ((w + 1) / 2) ((h + 1) / 2)) = c + 1 + dep m ((w + 1) / 2) ((h + 1) / 2) from by omega, ← r]
      unfold R10_Depth_l0 R10_Depth_l0_b
      rw [w1]
      refine go_t d1 ?_
      rw [hw1, hh1, w3]
      cases n <;> rfl
theorem rnew_l (k : Nat) (x y : Int) : ∀ (m n w h t : Nat), m < n → 1 ≤ w → 1 ≤ h → w ≤ 2 ^ m → h ≤ 2 ^ m → m ≤ 16 → t + m * 65536 ≤ 10000000 → w * h ≤ 65536 → ∀ (R : Type) (KE : Int → Int → Int → Option R), R10_New_l2 k KE n x y (t : Int) (w : Int) (h : Int) = KE x y ((t + tot m w h : Nat) : Int) := by
  intro m
  induction m with
  | zero =>
    intro n w h t hn hw hh hw2 hh2 hm ht hwh R KE
    obtain ⟨n, rfl⟩ : ∃ n', n = n' + 1 := ⟨n - 1, by omega⟩
    simp only [Nat.pow_zero] at hw2 hh2
    obtain rfl : w = 1 := by omega
    obtain rfl : h = 1 := by omega
    have w1 : IntKind.wrap .i64 (((1 : Nat) : Int) * ((1 : Nat) : Int)) = ((1 * 1 : Nat) : Int) := mulw (by omega)
    unfold R10_New_l2 R10_New_l2_b
    rw [w1]
    rfl
  | succ m ih =>
    intro n w h t hn hw hh hw2 hh2 hm ht hwh R KE
    obtain ⟨n, rfl⟩ : ∃ n', n = n' + 1 := ⟨n - 1, by omega⟩
    have p16 : 2 ^ (m + 1) ≤ 2 ^ 16 := Nat.pow_le_pow_right (by omega) hm
    have hp : 2 ^ (m + 1) = 2 * 2 ^ m := Nat.pow_succ'
    have w1 : IntKind.wrap .i64 ((w : Int) * (h : Int)) = ((w * h : Nat) : Int) := mulw hwh
    by_cases hone : w = 1 ∧ h = 1
    · obtain ⟨rfl, rfl⟩ := hone
      have : tot (m + 1) 1 1 = 0 := by unfold tot; rw [if_pos ⟨rfl, rfl⟩]
      rw [this]
      unfold R10_New_l2 R10_New_l2_b
      rw [w1]; rfl
    · have e1 : tot (m + 1) w h = (w + 1) / 2 * ((h + 1) / 2) + tot m ((w + 1) / 2) ((h + 1) / 2) := by rw [tot, if_neg hone]
      have hw1 := half_w (w := w) (by omega)
      have hh1 := half_w (w := h) (by omega)
      have hm2 := half_mul hw hh hwh
      have w2 : IntKind.wrap .i64 ((((w + 1) / 2 : Nat) : Int) * (((h + 1) / 2 : Nat) : Int)) = (((w + 1) / 2 * ((h + 1) / 2) : Nat) : Int) := mulw hm2
      have w3 : IntKind.wrap .i64 ((t : Int) + (((w + 1) / 2 * ((h + 1) / 2) : Nat) : Int)) = ((t + (w + 1) / 2 * ((h + 1) / 2) : Nat) : Int) := by rw [w64 (by omega) (by omega)]; omega
      have r := ih n ((w + 1) / 2) ((h + 1) / 2) (t + (w + 1) / 2 * ((h + 1) / 2)) (by omega) (by omega) (by omega) (by omega) (by omega) (by omega) (by omega) hm2 R KE
      have h1 := (one_of hw hh).2 hone
      have d1 : decide (((w * h : Nat) : Int) > 1) = true := decide_eq_true (by omega)
      rw [e1, ← Nat.add_assoc, ← r]
      unfold R10_New_l2 R10_New_l2_b
      rw [w1]
      refine go_t d1 ?_
      rw [hw1, hh1, w2, w3]
      cases n <;> rfl
theorem rNew_eq {k : Nat} (hk : 100 < k) (H : Heap) (w h : Int) : ∃ p H', ∀ (R : Type) (K : Option Addr → Int → Heap → Option R), R10_New k w h H K = K p (vld w h) H' := by
  by_cases hv : vld w h = 0
  · have hv2 := hv
    unfold vld at hv2
    split at hv2
    · omega
    split at hv2
    · omega
    rename_i c1 c2
    obtain ⟨a, rfl⟩ : ∃ a : Nat, w = a := ⟨w.toNat, by omega⟩
    obtain ⟨b, rfl⟩ : ∃ b : Nat, h = b := ⟨h.toNat, by omega⟩
    have hab : a * b ≤ 65536 := by rw [← Int.natCast_mul] at c2; omega
    have w1 : IntKind.wrap .i64 ((a : Int) * (b : Int)) = ((a * b : Nat) : Int) := mulw hab
    have hl := rnew_l k (a : Int) (b : Int) 16 k a b (a * b) (by omega) (by omega) (by omega) (by omega) (by omega) (by omega) (by omega) hab
    have htl := tot_le 16 a b (by omega) (by omega) hab
    obtain ⟨Ha, hHa⟩ : ∃ Ha, Ha = H ++ [some (⟨mkCells [.int .i64 0, .int .i64 0, .bool false] (a * b + tot 16 a b), false, 0⟩ : Blk)] := ⟨_, rfl⟩
    obtain ⟨Hb, hHb⟩ : ∃ Hb, Hb = Ha ++ [some (⟨[.bool true, .int .i64 (a : Int), .int .i64 (b : Int), .slice (some ⟨H.length, 0, none⟩) (a * b + tot 16 a b) (a * b + tot 16 a b), .bool false, .bool false], false, 0⟩ : Blk)] := ⟨_, rfl⟩
    have em : ∀ (R : Type) (K : Option Addr → Nat → Nat → Heap → Option R), hmk [.int .i64 0, .int .i64 0, .bool false] 24 H ((a * b + tot 16 a b : Nat) : Int) ((a * b + tot 16 a b : Nat) : Int) K = K (some ⟨H.length, 0, none⟩) (a * b + tot 16 a b) (a * b + tot 16 a b) Ha := fun R K => by
      unfold hmk
      rw [if_pos ⟨by omega, by omega, by omega, by omega⟩, hHa]; rfl
    have d1 : decide ((a : Int) < 1) = false := decide_eq_false (by omega)
    have d2 : decide ((b : Int) < 1) = false := decide_eq_false (by omega)
    have d3 : decide ((a : Int) > 65536) = false := decide_eq_false (by omega)
    have d4 : decide ((b : Int) > 65536) = false := decide_eq_false (by omega)
    have d5 : decide (((a * b : Nat) : Int) > 65536) = false := decide_eq_false (by omega)
    refine ⟨some ⟨Ha.length, 0, none⟩, Hb, fun R K => ?_⟩
    rw [hv]
    unfold R10_New R10_New_b R10_New_p0 R10_New_p0_b R10_New_p1 R10_New_p1_b
    refine go_f d1 (go_f d2 (go_f d3 (go_f d4 ?_)))
    try dsimp only
    rw [w1]
    refine go_f d5 ?_
    refine (hl _ _).trans ((em _ _).trans ?_)
    exact go_halN hHb rfl
  · refine ⟨none, H, fun R K => ?_⟩
    unfold R10_New R10_New_b R10_New_p0 R10_New_p0_b R10_New_p1 R10_New_p1_b
    unfold vld at hv ⊢
    by_cases c1 : w < 1
    · rw [if_pos (.inl c1), decide_eq_true c1]; rfl
    by_cases c2 : h < 1
    · rw [if_pos (.inr c2), decide_eq_false c1, decide_eq_true c2]; rfl
    rw [if_neg (by omega)] at hv ⊢
    refine go_f (decide_eq_false c1) (go_f (decide_eq_false c2) ?_)
    by_cases c3 : w > 65536
    · rw [if_pos (.inl c3)]; exact go_t (decide_eq_true c3) rfl
    by_cases c4 : h > 65536
    · rw [if_pos (.inr (.inl c4))]; exact go_f (decide_eq_false c3) (go_t (decide_eq_true c4) rfl)
    have hm := mul_le (w := w) (h := h) (by omega) (by omega) (by omega) (by omega)
    refine go_f (decide_eq_false c3) (go_f (decide_eq_false c4) ?_)
    by_cases c5 : w * h > 65536
    · rw [if_pos (.inr (.inr c5))]
      try dsimp only
      rw [w64 (by omega) (by omega)]
      exact go_t (decide_eq_true c5) rfl
    · rw [if_neg (by omega)] at hv; exact (hv rfl).elim
theorem sizes_run {k : Nat} (hk : 100 < k) (w h : Int) (H : Heap) : L_TagtreeSizes k w h H (fun t H => asB (.bool t) H) = some true := by
  unfold L_TagtreeSizes L_TagtreeSizes_b
  rcases New_eq hk H w h with ⟨hv, e1⟩ | ⟨hv, a, b, H1, q, c, l, rfl, rfl, ha, hb, ha2, hb2, hab, e1, T, hs, o1⟩
  · obtain ⟨p2, H2, e2⟩ := rNew_eq hk H w h
    obtain ⟨p3, H3, e3⟩ := rNew_eq hk H2 w h
    have d1 : (vld w h == 0) = false := by simpa using hv
    have d2 : (vld w h != 0) = true := by simpa using hv
    have e4 : ∀ (R : Type) (K : Int → Option R), tagtree_Depth k w h K = K 0 := fun R K => by
      unfold tagtree_Depth tagtree_Depth_b
      exact (valid_eq _ _ _ _ _).trans (go_t d2 rfl)
    have e5 : ∀ (R : Type) (K : Int → Heap → Option R), R10_Depth k w h H2 K = K 0 H3 := fun R K => by
      unfold R10_Depth R10_Depth_b
      exact (e3 _ _).trans (go_t d2 rfl)
    refine (e1 _ _).trans ((e2 _ _).trans (go_eq ?_))
    rw [d1]
    refine go_t rfl ((e4 _ _).trans ((e5 _ _).trans (go_eq ?_)))
    rfl
  · obtain ⟨p2, H2, e2⟩ := rNew_eq hk H1 (a : Int) (b : Int)
    obtain ⟨p3, H3, e3⟩ := rNew_eq hk H2 (a : Int) (b : Int)
    rw [hv] at e2 e3
    have l1 := depth_l k 16 k a b 1 (by omega) ha hb (by omega) (by omega) (by omega) (by omega)
    have l2 := rdepth_l k 16 k a b 1 (by omega) ha hb (by omega) (by omega) (by omega) (by omega) hab
    have e4 : ∀ (R : Type) (K : Int → Option R), tagtree_Depth k (a : Int) (b : Int) K = K ((1 + dep 16 a b : Nat) : Int) := fun R K => by
      unfold tagtree_Depth tagtree_Depth_b
      refine (valid_eq _ _ _ _ _).trans ?_
      rw [hv]
      exact go_f rfl (l1 _ _)
    have e5 : ∀ (R : Type) (K : Int → Heap → Option R), R10_Depth k (a : Int) (b : Int) H2 K = K ((1 + dep 16 a b : Nat) : Int) H3 := fun R K => by
      unfold R10_Depth R10_Depth_b
      exact (e3 _ _).trans (go_f rfl (l2 _ _))
    refine (e1 _ _).trans ((e2 _ _).trans (go_eq ?_))
    refine go_t rfl ((e4 _ _).trans ((e5 _ _).trans (go_eq ?_)))
    rfl
theorem sizes_in (H : Heap) (us : List Value) (h : AllLies H [(.int .i64, false), (.int .i64, false)] us) : L_TagtreeSizes_c Bool 1000 us H asB = some true := by
  obtain ⟨x, vs, rfl, _, h1⟩ := lies_int h
  obtain ⟨y, vs, rfl, _, h2⟩ := lies_int h1
  obtain rfl := lies_nil h2
  exact sizes_run (by omega) x y H
end Go.Proofs.Ytblkejnciinaeaa.Sh
