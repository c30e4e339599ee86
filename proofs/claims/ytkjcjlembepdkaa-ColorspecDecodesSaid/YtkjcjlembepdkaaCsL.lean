/- Colorspec: bytes that are read as numbers. -/
import Derived.Test.YtkjcjlembepdkaaSh10
import Derived.Test.YtkjcjlembepdkaaCsI
set_option linter.unusedVariables false
set_option linter.unusedSimpArgs false
namespace Go.Proofs.Ytkjcjlembepdkaa.Sh
open Go.Proofs.Ytkjcjlembepdkaa.FW
theorem byt_at {H : Heap} {q : Option Addr} {xs : List Int} (h : Shows H q (byt xs)) {i : Nat} {x : Int} (hi : xs[i]? = some x) :
    ∃ p, (∀ (R : Type) (K : Option Addr → Option R), hidx q xs.length (i : Int) 1 K = K p) ∧ ∀ (R : Type) (K : Int → Option R), ldI .u8 H p K = K x := by
  have hlt : i < xs.length := (List.getElem?_eq_some_iff.1 hi).1
  obtain ⟨p, e, _, m⟩ := h.idx (l := xs.length) (size := 1) (by rw [byt_len]; omega) (i := (i : Int)) (by omega) (by omega) (by omega)
  exact ⟨p, e, fun R K => ldI_of (m _ (by rw [Int.toNat_natCast, Nat.mul_one]; simp [byt, hi])) rfl K⟩
/-- A row of one's own, one appended: what is left alone. -/
theorem Bld.app2 {N size bytes : Nat} {H : Heap} {q p : Option Addr} {l c n : Nat} {cs xs : List Value} (h : Bld N size H q l c cs) (hp : Shows H p xs) (hx : xs.length = n * size) (hb : (l + n) * bytes ≤ 35184372088832) (hn : 0 < n) :
    ∃ H', (∀ (R : Type) (K : Option Addr → Nat → Nat → Heap → Option R), happS size bytes H q l c p n K = K (some ⟨H.length, 0, none⟩) (l + n) unk H') ∧ Owns H' H.length (cs ++ xs) size ∧ (∀ i, i < H.length → (∀ a, q = some a → a.block ≠ i) → hblk H' i = hblk H i) ∧ H'.length = H.length + 1 ∧ (l + n) * size = (cs ++ xs).length := by
  have hc := hp.hcells
  rw [hx] at hc
  rcases h with ⟨rfl, rfl, rfl, rfl⟩ | ⟨b, rfl, rfl, h3, h4, h5⟩
  · refine ⟨H ++ [some ⟨xs, false, size⟩], fun R K => ?_, (show hblk _ _ = _ from app_new H (some ⟨xs, false, size⟩) []), fun i hi _ => app_old hi, by simp, by simp [hx]⟩
    unfold happS happ
    rw [hc]
    simp only
    rw [if_neg (by unfold unk; omega), if_neg (by omega), if_pos hb]
    simp [FW.hcells]
  · have hblt := h4.sees.lt
    have h4' : hblk H b = some ⟨cs, false, size⟩ := h4
    refine ⟨hset H b none ++ [some ⟨cs ++ xs, false, size⟩], fun R K => ?_, ?_, fun i hi hne => ?_, by simp [hset_length], by rw [Nat.add_mul, h5, List.length_append, hx]⟩
    · unfold happS happ
      rw [hc]
      simp only [if_true, h4', cond_false, h5, hb, true_and, and_self]
    · have := app_new (hset H b none) (some ⟨cs ++ xs, false, size⟩) []
      rwa [hset_length] at this
    · rw [app_old (by rw [hset_length]; omega), hset_get, if_neg (fun hh => hne _ rfl hh.1.symm)]
theorem Bld.lay {H H4 : Heap} {q : Option Addr} {l c sz : Nat} {cs : List Value} (b4 : Bld (roH H).length sz H4 q l c cs) : Bld H.length sz (H ++ H4.drop H.length) q l c cs := by
  rcases b4 with h | ⟨b, z1, z2, z3, z4, z5⟩
  · exact .inl h
  · rw [roH_length] at z3
    refine .inr ⟨b, z1, z2, z3, ?_, z5⟩
    unfold Owns at z4 ⊢
    rw [hblk_get] at z4 ⊢
    rw [List.getElem?_append_right z3, List.getElem?_drop, show H.length + (b - H.length) = b from by omega]
    exact z4
theorem numb_l (k : Nat) {N : Nat} {q : Option Addr} {bs : List Int} (c : Nat) (hl : bs.length ≤ 100000) (hbs : ∀ x ∈ bs, 0 ≤ x ∧ x ≤ 255) : ∀ (m n i : Nat), m < n → bs.length = i + m → ∀ (H : Heap) (q1 : Option Addr) (c1 : Nat), Bld N 1 H q1 i c1 (ints (bs.take i)) → N ≤ H.length → (bs = [] ∨ Below N q) → Shows H q (byt bs) →
    ∃ H' q' c', (∀ (R : Type) (KE : Option Addr → Nat → Nat → Heap → Option R), colorspec_numbers_l0 k KE n q1 i c1 q bs.length c ((bs.length : Nat) : Int) (i : Int) H = KE q' bs.length c' H') ∧ Bld N 1 H' q' bs.length c' (ints bs) ∧ Old N H H' := by
  intro m
  induction m with
  | zero =>
    intro n i hn hj H q1 c1 B hN hq hS
    obtain ⟨n, rfl⟩ : ∃ n', n = n' + 1 := ⟨n - 1, by omega⟩
    have hi : i = bs.length := by omega
    subst hi
    rw [List.take_of_length_le (Nat.le_refl _)] at B
    refine ⟨H, q1, c1, fun R KE => ?_, B, .refl _ _⟩
    unfold colorspec_numbers_l0 colorspec_numbers_l0_b
    exact go_f (decide_eq_false (by omega)) rfl
  | succ m ih =>
    intro n i hn hj H q1 c1 B hN hq hS
    obtain ⟨n, rfl⟩ : ∃ n', n = n' + 1 := ⟨n - 1, by omega⟩
    obtain ⟨x, hx⟩ := ex_get (l := bs) (i := i) (by omega)
    obtain ⟨p', e1, e2⟩ := byt_at hS hx
    have hxb := hbs x (List.mem_of_getElem? hx)
    obtain ⟨H1, hH1⟩ : ∃ H1, H1 = H ++ [some (⟨[.int .i64 (IntKind.wrap .i64 x)], false, 0⟩ : Blk)] := ⟨_, rfl⟩
    have o1 : Old H.length H H1 := hH1 ▸ Old.app _ _
    have O1 : Owns H1 H.length (ints [x]) 0 := by rw [hH1, w64 (n := x) (by omega) (by omega)]; exact hblk_new H _
    have l1 : H1.length = H.length + 1 := by rw [hH1]; simp
    obtain ⟨q2, H2, e3, B2, o2, l2⟩ := (B.old o1 (Nat.le_refl _)).app (bytes := 8) (n := 1) (by omega) O1.sees.shows rfl (by omega) (by omega)
    have o02 : Old N H H2 := (o1.mono hN).trans o2
    have B2' : Bld N 1 H2 q2 (i + 1) unk (ints (bs.take (i + 1))) := by rw [take_snoc hx]; simpa [ints] using B2
    obtain ⟨H3, q3, c3, e4, B3, o3⟩ := ih n (i + 1) (by omega) (by omega) H2 q2 unk B2' (by omega) hq (hS.old o02 (by
      rcases hq with h | h
      · left; rw [h]; rfl
      · exact .inr h))
    refine ⟨H3, q3, c3, fun R KE => ?_, B3, o02.trans o3⟩
    unfold colorspec_numbers_l0 colorspec_numbers_l0_b
    refine go_t (decide_eq_true (by omega)) ((e1 _ _).trans ((e2 _ _).trans (go_halN hH1 ((e3 _ _).trans ?_))))
    rw [w64 (n := (i : Int) + 1) (by omega) (by omega)]
    exact e4 R KE
theorem byt_below {H : Heap} {q : Option Addr} {xs : List Int} (h : Shows H q (byt xs)) : xs = [] ∨ Below H.length q := by
  rcases h with h | ⟨b, o, full, rfl, h1, _⟩
  · left; have := congrArg List.length h; rw [byt_len] at this; exact List.eq_nil_of_length_eq_zero (by simpa using this)
  · exact .inr fun a ha => by cases ha; exact h1.lt
/-- Numbers read apart, laid behind a heap. -/
theorem numbers_eq {k : Nat} (hk : 100000 < k) {H : Heap} {q : Option Addr} {bs : List Int} (c : Nat) (h : Shows H q (byt bs)) (hl : bs.length ≤ 100000) (hbs : ∀ x ∈ bs, 0 ≤ x ∧ x ≤ 255) :
    ∃ H1 G q' c', (∀ (R : Type) (K : Option Addr → Nat → Nat → Heap → Option R), colorspec_numbers k q bs.length c (roH H) K = K q' bs.length c' H1) ∧ G = H ++ H1.drop H.length ∧ Bld H.length 1 G q' bs.length c' (ints bs) ∧ Old H.length H G := by
  have hb := byt_below h.ro
  obtain ⟨H1, q1, c1, e, B, o⟩ := numb_l k (N := (roH H).length) c hl hbs bs.length k 0 (by omega) (by omega) (roH H) none 0 (.nil _ _ _) (Nat.le_refl _) hb h.ro
  refine ⟨H1, _, q1, c1, fun R K => ?_, rfl, Bld.lay B, Old.app _ _⟩
  unfold colorspec_numbers colorspec_numbers_b
  exact e _ _
/-- A part of the bytes. -/
theorem part_eq {H : Heap} {q : Option Addr} {bs : List Int} {c : Nat} (h : Shows H q (byt bs)) (hc : c = unk ∨ bs.length ≤ c ∧ c < unk) (hu : bs.length < unk) {lo hi : Nat} (h1 : 0 < lo) (h2 : lo ≤ hi) (h3 : hi ≤ bs.length) (h4 : lo < bs.length) :
    ∃ q' c', (∀ (R : Type) (K : Option Addr → Nat → Nat → Option R), hslc 1 q bs.length c (some (lo : Int)) (some (hi : Int)) none K = K q' ((bs.drop lo).take (hi - lo)).length c') ∧ Shows H q' (byt ((bs.drop lo).take (hi - lo))) := by
  rw [show ((bs.drop lo).take (hi - lo)).length = hi - lo from by simp; omega]
  rcases h with h | ⟨b, o, full, rfl, hs, g1, g2⟩
  · have := congrArg List.length h; rw [byt_len] at this; simp at this; subst this; simp at h4
  have hsub : Shows H (some ⟨b, o + lo, none⟩) (byt ((bs.drop lo).take (hi - lo))) := by
    refine .inr ⟨b, o + lo, full, rfl, hs, ?_, ?_⟩
    · rw [byt_len] at g1 ⊢; simp; omega
    · rw [byt_len, List.length_take, List.length_drop]
      have : byt ((bs.drop lo).take (hi - lo)) = ((byt bs).drop lo).take (hi - lo) := by simp [byt, List.map_take, List.map_drop]
      rw [this, ← g2, List.drop_take, List.drop_drop, List.take_take, byt_len]
      try (congr 1; omega)
  rcases hc with rfl | ⟨hc1, hc2⟩
  · refine ⟨_, unk, fun R K => ?_, hsub⟩
    unfold hslc
    dsimp only [Option.getD_some, Option.getD_none, Option.isSome_none, Option.isSome_some]
    rw [if_pos ⟨by omega, by omega, by omega, by rw [if_pos rfl]; exact ⟨rfl, .inr ⟨rfl, by omega⟩⟩⟩, if_pos ⟨rfl, rfl⟩, if_neg (by omega), if_pos ⟨by omega, by omega⟩]
    simp
  · by_cases hm : c = lo
    · omega
    · refine ⟨_, c - lo, fun R K => ?_, hsub⟩
      unfold hslc
      dsimp only [Option.getD_some, Option.getD_none, Option.isSome_none, Option.isSome_some]
      rw [if_pos ⟨by omega, by omega, by omega, by rw [if_neg (by omega)]; exact ⟨by omega, hc2⟩⟩, if_neg (fun hh => by omega), if_neg (by omega), if_neg (by omega)]
      simp
end Go.Proofs.Ytkjcjlembepdkaa.Sh
