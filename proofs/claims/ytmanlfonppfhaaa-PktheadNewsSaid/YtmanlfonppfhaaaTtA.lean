/- Tagtree: the sizes of a tree, new trees. -/
import Derived.Test.YtmanlfonppfhaaaSh1
import Derived.Test.YtmanlfonppfhaaaBtA
import Derived.Test.YtmanlfonppfhaaaFwY
import Derived.Test.YtmanlfonppfhaaaFwO
import Derived.IntWalk
set_option linter.unusedVariables false
set_option linter.unusedSimpArgs false
namespace Go.Proofs.Ytmanlfonppfhaaa.Sh
open Go.Proofs.Ytmanlfonppfhaaa.FW Go.IntWalk
/-- The error of a size. -/
def vld (w h : Int) : Int := if w < 1 ∨ h < 1 then 2 else if w > 65536 ∨ h > 65536 ∨ w * h > 65536 then 5 else 0
theorem mul_le {w h : Int} (h1 : 1 ≤ w) (h2 : w ≤ 65536) (h3 : 1 ≤ h) (h4 : h ≤ 65536) : 1 ≤ w * h ∧ w * h ≤ 4294967296 := by
  obtain ⟨a, rfl⟩ : ∃ a : Nat, w = a := ⟨w.toNat, by omega⟩
  obtain ⟨b, rfl⟩ : ∃ b : Nat, h = b := ⟨h.toNat, by omega⟩
  have e1 : a * b ≤ 65536 * 65536 := Nat.mul_le_mul (by omega) (by omega)
  have e2 : 1 * 1 ≤ a * b := Nat.mul_le_mul (by omega) (by omega)
  have e3 : (a : Int) * (b : Int) = ((a * b : Nat) : Int) := (Int.natCast_mul a b).symm
  rw [e3]; omega
theorem valid_eq (k : Nat) (w h : Int) (R : Type) (K : Int → Option R) : tagtree_valid k w h K = K (vld w h) := by
  unfold tagtree_valid tagtree_valid_b tagtree_valid_p0 tagtree_valid_p0_b vld
  by_cases c1 : w < 1
  · rw [if_pos (.inl c1), decide_eq_true c1]; rfl
  by_cases c2 : h < 1
  · rw [if_pos (.inr c2), decide_eq_false c1, decide_eq_true c2]; rfl
  rw [if_neg (by omega), decide_eq_false c1, decide_eq_false c2]
  simp only [cond_false]
  by_cases c3 : w > 65536
  · rw [if_pos (.inl c3), decide_eq_true c3]; rfl
  by_cases c4 : h > 65536
  · rw [if_pos (.inr (.inl c4)), decide_eq_false c3, decide_eq_true c4]; rfl
  have hm := mul_le (w := w) (h := h) (by omega) (by omega) (by omega) (by omega)
  rw [w64 (by omega) (by omega), decide_eq_false c3, decide_eq_false c4]
  simp only [cond_false]
  by_cases c5 : w * h > 65536
  · rw [if_pos (.inr (.inr c5)), decide_eq_true c5]; rfl
  · rw [if_neg (by omega), decide_eq_false c5]; rfl
/-- The sizes of the levels. -/
def lvs : Nat → Nat → Nat → List (Nat × Nat)
  | 0, _, _ => []
  | n + 1, w, h => (w, h) :: if w = 1 ∧ h = 1 then [] else lvs n ((w + 1) / 2) ((h + 1) / 2)
theorem half_w {w : Nat} (h : w ≤ 65536) : IntKind.wrap .i64 (Int.tdiv (IntKind.wrap .i64 ((w : Int) + 1)) 2) = (((w + 1) / 2 : Nat) : Int) := by
  rw [w64 (n := (w : Int) + 1) (by omega) (by omega), show (w : Int) + 1 = ((w + 1 : Nat) : Int) from by omega]
  have : Int.tdiv ((w + 1 : Nat) : Int) 2 = (((w + 1) / 2 : Nat) : Int) := rfl
  rw [this, w64 (by omega) (by omega)]
theorem mulw {w h : Nat} (hm : w * h ≤ 65536) : IntKind.wrap .i64 ((w : Int) * (h : Int)) = ((w * h : Nat) : Int) := by
  rw [← Int.natCast_mul, w64 (by omega) (by omega)]
theorem half_mul {w h : Nat} (h1 : 1 ≤ w) (h2 : 1 ≤ h) (hm : w * h ≤ 65536) : (w + 1) / 2 * ((h + 1) / 2) ≤ 65536 := by
  have e1 : (w + 1) / 2 ≤ w := by omega
  have e2 : (h + 1) / 2 ≤ h := by omega
  exact Nat.le_trans (Nat.mul_le_mul e1 e2) hm
abbrev Nd := Int × Int × Bool
def nd (n : Nd) : List Value := [.int .i64 n.1, .int .i64 n.2.1, .bool n.2.2]
def nds (n : Nat) (f : Nat → Nd) : List Value := (List.range n).flatMap fun i => nd (f i)
def nz : Nd := (0, 0, false)
theorem nds_len (n : Nat) (f : Nat → Nd) : (nds n f).length = n * 3 := by
  induction n with
  | zero => rfl
  | succ n ih =>
    unfold nds at *
    rw [List.range_succ, List.flatMap_append, List.length_append, ih]
    simp [nd]; omega
theorem nds_one (n : Nat) (f : Nat → Nd) : (nds n f).all oneC = true := by
  unfold nds
  rw [List.all_flatMap]
  exact List.all_eq_true.2 fun i _ => rfl
theorem nds_zero (n : Nat) : mkCells [.int .i64 0, .int .i64 0, .bool false] n = nds n (fun _ => nz) := by
  induction n with
  | zero => rfl
  | succ n ih =>
    have e : nds (n + 1) (fun _ => nz) = nd nz ++ nds n (fun _ => nz) := by
      unfold nds
      rw [List.range_succ_eq_map, List.flatMap_cons]
      congr 1
      rw [List.flatMap_map]
    rw [e, ← ih]; rfl
/-- A level: its size, the block of its nodes. -/
structure Lv where
  w : Nat
  h : Nat
  b : Nat
  c : Nat
  z : Nat
def lvc (v : Lv) : List Value := [.int .i64 (v.w : Int), .int .i64 (v.h : Int), .slice (some ⟨v.b, 0, none⟩) (v.w * v.h) v.c]
def lcs (l : List Lv) : List Value := l.flatMap lvc
theorem lcs_len (l : List Lv) : (lcs l).length = l.length * 3 := by
  induction l with
  | nil => rfl
  | cons v l ih => unfold lcs at *; rw [List.flatMap_cons, List.length_append, ih, List.length_cons]; simp [lvc]; omega
theorem app3 {N : Nat} {H : Heap} {q : Option Addr} {l c : Nat} {cs vs : List Value} (h : Bld N 3 H q l c cs) (hN : N ≤ H.length) (hv : vs.length = 3) (hl : l ≤ 200) :
    ∃ H', (∀ (R : Type) (K : Option Addr → Nat → Nat → Heap → Option R), happS 3 40 (H ++ [some ⟨vs, false, 0⟩]) q l c (some ⟨H.length, 0, none⟩) 1 K = K (some ⟨H.length + 1, 0, none⟩) (l + 1) unk H') ∧ Bld N 3 H' (some ⟨H.length + 1, 0, none⟩) (l + 1) unk (cs ++ vs) ∧ H'.length = H.length + 2 ∧ ∀ i, i < H.length → (∀ a, q = some a → a.block ≠ i) → hblk H' i = hblk H i := by
  have hp : Shows (H ++ [some (⟨vs, false, 0⟩ : Blk)]) (some ⟨H.length, 0, none⟩) vs := Sees.shows ⟨_, hblk_new H _, rfl⟩
  have hc := hp.hcells
  rw [hv] at hc
  have hL : (H ++ [some (⟨vs, false, 0⟩ : Blk)]).length = H.length + 1 := by simp
  rcases h with ⟨rfl, rfl, rfl, rfl⟩ | ⟨b, rfl, rfl, h3, h4, h5⟩
  · refine ⟨H ++ [some ⟨vs, false, 0⟩] ++ [some ⟨vs, false, 3⟩], fun R K => ?_, .inr ⟨H.length + 1, rfl, rfl, by omega, ?_, by simp [hv]⟩, by simp, fun i hi _ => by rw [List.append_assoc]; exact app_old hi⟩
    · unfold happS happ
      rw [show 1 * 3 = 3 from rfl, hc]
      simp only
      rw [if_neg (by unfold unk; omega), if_neg (by omega), if_pos (by omega), hL]
      rfl
    · have := hblk_new (H ++ [some (⟨vs, false, 0⟩ : Blk)]) (some ⟨vs, false, 3⟩)
      rw [hL] at this
      exact this
  · have hblt := h4.sees.lt
    have h4' : hblk (H ++ [some (⟨vs, false, 0⟩ : Blk)]) b = some ⟨cs, false, 3⟩ := by rw [app_old hblt]; exact h4
    refine ⟨hset (H ++ [some ⟨vs, false, 0⟩]) b none ++ [some ⟨cs ++ vs, false, 3⟩], fun R K => ?_, .inr ⟨H.length + 1, rfl, rfl, by omega, ?_, by rw [Nat.add_mul, h5, List.length_append, hv]⟩, by simp [hset_length], fun i hi hne => ?_⟩
    · unfold happS happ
      rw [show 1 * 3 = 3 from rfl, hc]
      simp only [if_true, h4', cond_false, h5, true_and, hL]
      rw [if_pos (by omega)]
    · have := app_new (hset (H ++ [some (⟨vs, false, 0⟩ : Blk)]) b none) (some ⟨cs ++ vs, false, 3⟩) []
      rwa [hset_length, hL] at this
    · rw [app_old (by rw [hset_length]; omega), hset_get, if_neg (by have := hne _ rfl; simp only at this; omega), app_old hi]
/-- A tree under way: its levels, their nodes all zero. -/
structure Tn (N : Nat) (H : Heap) (p : Nat) (q : Option Addr) (c : Nat) (l : List Lv) (enc dec : Bool) (g : Nat → Nat → Nd) : Prop where
  o : Owns H p [.slice q l.length c, .bool enc, .bool dec] 0
  b : Bld N 3 H q l.length c (lcs l)
  low : N ≤ p
  ap : ∀ a, q = some a → a.block ≠ p
  n : ∀ (i : Nat) (v : Lv), l[i]? = some v → Owns H v.b (nds (v.w * v.h) (g i)) v.z ∧ N ≤ v.b ∧ v.b ≠ p ∧ ∀ a, q = some a → a.block ≠ v.b
  d : ∀ (i j : Nat) (v u : Lv), l[i]? = some v → l[j]? = some u → i ≠ j → v.b ≠ u.b
theorem hmk3 {n : Nat} (H : Heap) (hn : n ≤ 65536) (R : Type) (K : Option Addr → Nat → Nat → Heap → Option R) : hmk [.int .i64 0, .int .i64 0, .bool false] 24 H (n : Int) (n : Int) K = K (some ⟨H.length, 0, none⟩) n n (H ++ [some ⟨nds n (fun _ => nz), false, 0⟩]) := by
  unfold hmk
  rw [if_pos ⟨by omega, by omega, by omega, by omega⟩, ← nds_zero]
  rfl
theorem Bld.but2 {N size b l c : Nat} {H H' : Heap} {q : Option Addr} {cs : List Value} (h : Bld N size H q l c cs) (o : But b H H') (hb : ∀ a, q = some a → a.block ≠ b) : Bld N size H' q l c cs := by
  rcases h with h | ⟨b2, rfl, h2, h3, h4, h5⟩
  · exact .inl h
  · exact .inr ⟨b2, rfl, h2, h3, Owns.but h4 o (hb _ rfl), h5⟩
/-- One more level. -/
theorem lev_gen {N p : Nat} {H : Heap} {q : Option Addr} {c : Nat} {l : List Lv} {e d : Bool} {g : Nat → Nat → Nd} (T : Tn N H p q c l e d g) (hN : N ≤ H.length) (hl : l.length ≤ 99) (w h cap z : Nat) :
    ∃ H1 H2 H3 H4, H1 = H ++ [some (⟨nds (w * h) (g l.length), false, z⟩ : Blk)] ∧ H2 = H1 ++ [some (⟨lvc ⟨w, h, H.length, cap, z⟩, false, 0⟩ : Blk)] ∧ hcell H p 0 = some (.slice q l.length c) ∧
    (∀ (R : Type) (K : Option Addr → Nat → Nat → Heap → Option R), happS 3 40 H2 q l.length c (some ⟨H1.length, 0, none⟩) 1 K = K (some ⟨H1.length + 1, 0, none⟩) (l.length + 1) unk H3) ∧
    (∀ (R : Type) (K : Heap → Option R), hst1 H3 (some ⟨p, 0, none⟩) (.slice (some ⟨H1.length + 1, 0, none⟩) (l.length + 1) unk) K = K H4) ∧
    Tn N H4 p (some ⟨H1.length + 1, 0, none⟩) unk (l ++ [⟨w, h, H.length, cap, z⟩]) e d g ∧ Old N H H4 := by
  obtain ⟨H1, hH1⟩ : ∃ H1, H1 = H ++ [some (⟨nds (w * h) (g l.length), false, z⟩ : Blk)] := ⟨_, rfl⟩
  have n1 : H1.length = H.length + 1 := by rw [hH1]; simp
  have o1 : Old H.length H H1 := hH1 ▸ Old.app _ _
  have hp := T.o.lt
  have hB1 := T.b.old o1 (Nat.le_refl _)
  obtain ⟨H3, e3, B3, n3, s3⟩ := app3 hB1 (by omega) (vs := lvc ⟨w, h, H.length, cap, z⟩) rfl (by omega)
  have hqb := T.b.below
  have O3 : Owns H3 p [.slice q l.length c, .bool e, .bool d] 0 := by
    unfold Owns at *; rw [s3 p (by omega) T.ap, o1.2 p hp]; exact T.o
  obtain ⟨H4, e4, O4, b4, n4⟩ := Owns.st1 (o := 0) O3 (by simp) (.slice (some ⟨H1.length + 1, 0, none⟩) (l.length + 1) unk)
  have keep : ∀ b cs zz, Owns H b cs zz → b ≠ p → (∀ a, q = some a → a.block ≠ b) → Owns H4 b cs zz := fun b cs zz ho h1 h2 => by
    have hb := ho.lt
    unfold Owns at *; rw [b4.2 b (by omega) h1, s3 b (by omega) h2, o1.2 b hb]; exact ho
  have Onew : Owns H4 H.length (nds (w * h) (g l.length)) z := by
    have : Owns H1 H.length (nds (w * h) (g l.length)) z := by rw [hH1]; exact hblk_new H _
    unfold Owns at *; rw [b4.2 _ (by omega) (by omega), s3 _ (by omega) (fun a ha => by have := hqb a ha; omega)]; exact this
  refine ⟨H1, _, H3, H4, hH1, rfl, T.o.sees.cell 0, e3, e4, ⟨by rw [List.length_append]; exact O4, ?_, T.low, (fun a ha => by cases ha; simp only; omega), fun i v hv => ?_, fun i j v u hv hu hij => ?_⟩, ⟨by omega, fun i hi => ?_⟩⟩
  · have : lcs (l ++ [⟨w, h, H.length, cap, z⟩]) = lcs l ++ lvc ⟨w, h, H.length, cap, z⟩ := by simp [lcs]
    rw [this, List.length_append]
    exact Bld.but2 B3 b4 (fun a ha => by cases ha; simp only; omega)
  · by_cases hi : i < l.length
    · rw [List.getElem?_append_left hi] at hv
      obtain ⟨g1, g2, g3, g4⟩ := T.n i v hv
      have := g1.lt
      exact ⟨keep _ _ _ g1 g3 g4, g2, g3, fun a ha => by cases ha; simp only; omega⟩
    · have hi2 := (List.getElem?_eq_some_iff.1 hv).1
      simp only [List.length_append, List.length_cons, List.length_nil] at hi2
      have : i = l.length := by omega
      subst this
      rw [List.getElem?_append_right (Nat.le_refl _), Nat.sub_self] at hv
      simp at hv
      subst hv
      exact ⟨Onew, hN, by simp only; omega, fun a ha => by cases ha; simp only; omega⟩
  · have key : ∀ (i j : Nat) (v u : Lv), (l ++ [⟨w, h, H.length, cap, z⟩])[i]? = some v → (l ++ [⟨w, h, H.length, cap, z⟩])[j]? = some u → i < j → v.b ≠ u.b := by
      intro i j v u hv hu hij
      have hj2 := (List.getElem?_eq_some_iff.1 hu).1
      simp only [List.length_append, List.length_cons, List.length_nil] at hj2
      rw [List.getElem?_append_left (by omega)] at hv
      by_cases hj : j < l.length
      · rw [List.getElem?_append_left hj] at hu
        exact T.d i j v u hv hu (by omega)
      · have : j = l.length := by omega
        subst this
        rw [List.getElem?_append_right (Nat.le_refl _), Nat.sub_self] at hu
        simp at hu
        subst hu
        have := (T.n i v hv).1.lt
        simp only; omega
    rcases Nat.lt_or_gt_of_ne hij with h1 | h1
    · exact key i j v u hv hu h1
    · exact (key j i u v hu hv h1).symm
  · rw [b4.2 i (by omega) (by have := T.low; omega), s3 i (by omega) (fun a ha => by
      rcases T.b with ⟨hq, _⟩ | ⟨b2, hq, _, h3, _⟩
      · rw [hq] at ha; cases ha
      · rw [hq] at ha; cases ha; simp only; omega), o1.2 i (by omega)]
theorem lev_eq {N p : Nat} {H : Heap} {q : Option Addr} {c : Nat} {l : List Lv} {g : Nat → Nat → Nd} (T : Tn N H p q c l false false g) (hN : N ≤ H.length) (hl : l.length ≤ 99) (w h : Nat) (hwh : w * h ≤ 65536) (hg : ∀ j, g l.length j = nz) :
    ∃ H1 H2 H3 H4, H2 = H1 ++ [some (⟨lvc ⟨w, h, H.length, w * h, 0⟩, false, 0⟩ : Blk)] ∧ hcell H p 0 = some (.slice q l.length c) ∧
    (∀ (R : Type) (K : Option Addr → Nat → Nat → Heap → Option R), hmk [.int .i64 0, .int .i64 0, .bool false] 24 H ((w * h : Nat) : Int) ((w * h : Nat) : Int) K = K (some ⟨H.length, 0, none⟩) (w * h) (w * h) H1) ∧
    (∀ (R : Type) (K : Option Addr → Nat → Nat → Heap → Option R), happS 3 40 H2 q l.length c (some ⟨H1.length, 0, none⟩) 1 K = K (some ⟨H1.length + 1, 0, none⟩) (l.length + 1) unk H3) ∧
    (∀ (R : Type) (K : Heap → Option R), hst1 H3 (some ⟨p, 0, none⟩) (.slice (some ⟨H1.length + 1, 0, none⟩) (l.length + 1) unk) K = K H4) ∧
    Tn N H4 p (some ⟨H1.length + 1, 0, none⟩) unk (l ++ [⟨w, h, H.length, w * h, 0⟩]) false false g ∧ Old N H H4 := by
  obtain ⟨H1, H2, H3, H4, h1, h2, h3, h4, h5, h6, h7⟩ := lev_gen T hN hl w h (w * h) 0
  have he : nds (w * h) (g l.length) = nds (w * h) (fun _ => nz) := by unfold nds; congr 1; funext j; rw [hg]
  exact ⟨H1, H2, H3, H4, h2, h3, fun R K => by rw [h1, he]; exact hmk3 H hwh R K, h4, h5, h6, h7⟩
theorem new_l (k : Nat) : ∀ (m n w h : Nat), m < n → 1 ≤ w → 1 ≤ h → w ≤ 2 ^ m → h ≤ 2 ^ m → m ≤ 16 → w * h ≤ 65536 → ∀ (N p : Nat) (H : Heap) (q : Option Addr) (c : Nat) (l : List Lv), Tn N H p q c l false false (fun _ _ => nz) → N ≤ H.length → l.length + m ≤ 90 →
    ∃ H' q' c' l', (∀ (R : Type) (KR : Option Addr → Int → Heap → Option R), tagtree_New_l0 k KR n (w : Int) (h : Int) (some ⟨p, 0, none⟩) H = KR (some ⟨p, 0, none⟩) 0 H') ∧ Tn N H' p q' c' (l ++ l') false false (fun _ _ => nz) ∧ l'.map (fun v => (v.w, v.h)) = lvs (m + 1) w h ∧ Old N H H' := by
  intro m
  induction m with
  | zero =>
    intro n w h hn hw hh hw2 hh2 hm hwh N p H q c l T hN hl
    obtain ⟨n, rfl⟩ : ∃ n', n = n' + 1 := ⟨n - 1, by omega⟩
    simp only [Nat.pow_zero] at hw2 hh2
    obtain rfl : w = 1 := by omega
    obtain rfl : h = 1 := by omega
    obtain ⟨H1, H2, H3, H4, hH2, m0, e1, e3, e4, T4, o4⟩ := lev_eq T hN (by omega) 1 1 (by omega) (fun _ => rfl)
    refine ⟨H4, _, _, [⟨1, 1, H.length, 1, 0⟩], fun R KR => ?_, T4, rfl, o4⟩
    have w1 : IntKind.wrap .i64 (((1 : Nat) : Int) * ((1 : Nat) : Int)) = ((1 * 1 : Nat) : Int) := mulw (by omega)
    unfold tagtree_New_l0 tagtree_New_l0_b tagtree_New_p1 tagtree_New_p1_b
    rw [w1]
    repeat (first | (with_reducible refine (e1 _ _).trans ?_) | (with_reducible refine (e3 _ _).trans ?_) | (with_reducible refine (e4 _ _).trans ?_) | ((with_reducible refine go_ip (x := ?_) ?_ ?_); rotate_left 1; (first  | exact m0 | rfl)) | ((with_reducible refine go_bp (x := ?_) ?_ ?_); rotate_left 1; (first  | exact m0 | rfl)) | ((with_reducible refine go_lp (x := ?_) (l := ?_) (c := ?_) ?_ ?_); rotate_left 3; (first  | exact m0 | rfl)) | ((with_reducible refine go_pp (x := ?_) ?_ ?_); rotate_left 1; (first  | exact m0 | rfl)) | ((with_reducible refine go_i (x := ?_) ?_ ?_); rotate_left 1; (first  | exact m0 | rfl)) | ((with_reducible refine go_b (x := ?_) ?_ ?_); rotate_left 1; (first  | exact m0 | rfl)) | ((with_reducible refine go_l (x := ?_) (l := ?_) (c := ?_) ?_ ?_); rotate_left 3; (first  | exact m0 | rfl)) | ((with_reducible refine go_p (x := ?_) ?_ ?_); rotate_left 1; (first  | exact m0 | rfl)) | ((with_reducible refine go_halst hH2 ?_ ?_ ?_); rfl; rfl) | (with_reducible refine go_halN hH2 ?_) | ((with_reducible refine go_t ?_ ?_); (show _ = true; rfl)) | ((with_reducible refine go_f ?_ ?_); (show _ = false; rfl)) | (with_reducible refine go_ne ?_) | (with_reducible refine go_eq ?_) | (with_reducible refine go_fad ?_) | (with_reducible refine go_nil ?_))
    rfl
  | succ m ih =>
    intro n w h hn hw hh hw2 hh2 hm hwh N p H q c l T hN hl
    obtain ⟨n, rfl⟩ : ∃ n', n = n' + 1 := ⟨n - 1, by omega⟩
    obtain ⟨H1, H2, H3, H4, hH2, m0, e1, e3, e4, T4, o4⟩ := lev_eq T hN (by omega) w h hwh (fun _ => rfl)
    have w1 : IntKind.wrap .i64 ((w : Int) * (h : Int)) = ((w * h : Nat) : Int) := mulw hwh
    have p16 : 2 ^ (m + 1) ≤ 2 ^ 16 := Nat.pow_le_pow_right (by omega) hm
    by_cases hone : w = 1 ∧ h = 1
    · obtain ⟨rfl, rfl⟩ := hone
      refine ⟨H4, _, _, [⟨1, 1, H.length, 1, 0⟩], fun R KR => ?_, T4, by rw [lvs, if_pos ⟨rfl, rfl⟩]; rfl, o4⟩
      unfold tagtree_New_l0 tagtree_New_l0_b tagtree_New_p1 tagtree_New_p1_b
      rw [w1]
      repeat (first | (with_reducible refine (e1 _ _).trans ?_) | (with_reducible refine (e3 _ _).trans ?_) | (with_reducible refine (e4 _ _).trans ?_) | ((with_reducible refine go_ip (x := ?_) ?_ ?_); rotate_left 1; (first  | exact m0 | rfl)) | ((with_reducible refine go_bp (x := ?_) ?_ ?_); rotate_left 1; (first  | exact m0 | rfl)) | ((with_reducible refine go_lp (x := ?_) (l := ?_) (c := ?_) ?_ ?_); rotate_left 3; (first  | exact m0 | rfl)) | ((with_reducible refine go_pp (x := ?_) ?_ ?_); rotate_left 1; (first  | exact m0 | rfl)) | ((with_reducible refine go_i (x := ?_) ?_ ?_); rotate_left 1; (first  | exact m0 | rfl)) | ((with_reducible refine go_b (x := ?_) ?_ ?_); rotate_left 1; (first  | exact m0 | rfl)) | ((with_reducible refine go_l (x := ?_) (l := ?_) (c := ?_) ?_ ?_); rotate_left 3; (first  | exact m0 | rfl)) | ((with_reducible refine go_p (x := ?_) ?_ ?_); rotate_left 1; (first  | exact m0 | rfl)) | ((with_reducible refine go_halst hH2 ?_ ?_ ?_); rfl; rfl) | (with_reducible refine go_halN hH2 ?_) | ((with_reducible refine go_t ?_ ?_); (show _ = true; rfl)) | ((with_reducible refine go_f ?_ ?_); (show _ = false; rfl)) | (with_reducible refine go_ne ?_) | (with_reducible refine go_eq ?_) | (with_reducible refine go_fad ?_) | (with_reducible refine go_nil ?_))
      rfl
    · have hp : 2 ^ (m + 1) = 2 * 2 ^ m := Nat.pow_succ'
      have hm2 := half_mul hw hh hwh
      obtain ⟨H5, q5, c5, l5, e5, T5, s5, o5⟩ := ih n ((w + 1) / 2) ((h + 1) / 2) (by omega) (by omega) (by omega) (by omega) (by omega) (by omega) hm2 N p H4 _ _ _ T4 (by have := o4.1; omega) (by rw [List.length_append]; simp only [List.length_cons, List.length_nil]; omega)
      refine ⟨H5, q5, c5, ⟨w, h, H.length, w * h, 0⟩ :: l5, fun R KR => ?_, by rw [List.append_assoc] at T5; exact T5, by
        show _ = (w, h) :: (if w = 1 ∧ h = 1 then [] else lvs (m + 1) ((w + 1) / 2) ((h + 1) / 2))
        rw [if_neg hone, List.map_cons, s5], o4.trans o5⟩
      have hw1 := half_w (w := w) (by omega)
      have hh1 := half_w (w := h) (by omega)
      unfold tagtree_New_l0 tagtree_New_l0_b tagtree_New_p1 tagtree_New_p1_b
      rw [w1]
      by_cases c1 : w = 1
      · have d1 : ((w : Int) == 1) = true := by rw [c1]; rfl
        have d2 : ((h : Int) == 1) = false := by rw [beq_eq_false_iff_ne]; omega
        repeat (first | (with_reducible refine (e1 _ _).trans ?_) | (with_reducible refine (e3 _ _).trans ?_) | (with_reducible refine (e4 _ _).trans ?_) | ((with_reducible refine go_ip (x := ?_) ?_ ?_); rotate_left 1; (first  | exact m0 | rfl)) | ((with_reducible refine go_bp (x := ?_) ?_ ?_); rotate_left 1; (first  | exact m0 | rfl)) | ((with_reducible refine go_lp (x := ?_) (l := ?_) (c := ?_) ?_ ?_); rotate_left 3; (first  | exact m0 | rfl)) | ((with_reducible refine go_pp (x := ?_) ?_ ?_); rotate_left 1; (first  | exact m0 | rfl)) | ((with_reducible refine go_i (x := ?_) ?_ ?_); rotate_left 1; (first  | exact m0 | rfl)) | ((with_reducible refine go_b (x := ?_) ?_ ?_); rotate_left 1; (first  | exact m0 | rfl)) | ((with_reducible refine go_l (x := ?_) (l := ?_) (c := ?_) ?_ ?_); rotate_left 3; (first  | exact m0 | rfl)) | ((with_reducible refine go_p (x := ?_) ?_ ?_); rotate_left 1; (first  | exact m0 | rfl)) | ((with_reducible refine go_halst hH2 ?_ ?_ ?_); rfl; rfl) | (with_reducible refine go_halN hH2 ?_) | (with_reducible refine go_t d1 ?_) | (with_reducible refine go_f d1 ?_) | (with_reducible refine go_t d2 ?_) | (with_reducible refine go_f d2 ?_) | ((with_reducible refine go_t ?_ ?_); (show _ = true; rfl)) | ((with_reducible refine go_f ?_ ?_); (show _ = false; rfl)) | (with_reducible refine go_ne ?_) | (with_reducible refine go_eq ?_) | (with_reducible refine go_fad ?_) | (with_reducible refine go_nil ?_))
        try dsimp only
        rw [hw1, hh1]
        exact e5 R KR
      · have d1 : ((w : Int) == 1) = false := by rw [beq_eq_false_iff_ne]; omega
        repeat (first | (with_reducible refine (e1 _ _).trans ?_) | (with_reducible refine (e3 _ _).trans ?_) | (with_reducible refine (e4 _ _).trans ?_) | ((with_reducible refine go_ip (x := ?_) ?_ ?_); rotate_left 1; (first  | exact m0 | rfl)) | ((with_reducible refine go_bp (x := ?_) ?_ ?_); rotate_left 1; (first  | exact m0 | rfl)) | ((with_reducible refine go_lp (x := ?_) (l := ?_) (c := ?_) ?_ ?_); rotate_left 3; (first  | exact m0 | rfl)) | ((with_reducible refine go_pp (x := ?_) ?_ ?_); rotate_left 1; (first  | exact m0 | rfl)) | ((with_reducible refine go_i (x := ?_) ?_ ?_); rotate_left 1; (first  | exact m0 | rfl)) | ((with_reducible refine go_b (x := ?_) ?_ ?_); rotate_left 1; (first  | exact m0 | rfl)) | ((with_reducible refine go_l (x := ?_) (l := ?_) (c := ?_) ?_ ?_); rotate_left 3; (first  | exact m0 | rfl)) | ((with_reducible refine go_p (x := ?_) ?_ ?_); rotate_left 1; (first  | exact m0 | rfl)) | ((with_reducible refine go_halst hH2 ?_ ?_ ?_); rfl; rfl) | (with_reducible refine go_halN hH2 ?_) | (with_reducible refine go_t d1 ?_) | (with_reducible refine go_f d1 ?_) | ((with_reducible refine go_t ?_ ?_); (show _ = true; rfl)) | ((with_reducible refine go_f ?_ ?_); (show _ = false; rfl)) | (with_reducible refine go_ne ?_) | (with_reducible refine go_eq ?_) | (with_reducible refine go_fad ?_) | (with_reducible refine go_nil ?_))
        try dsimp only
        rw [hw1, hh1]
        exact e5 R KR
/-- A new tree, or the error. -/
theorem New_eq {k : Nat} (hk : 100 < k) (H : Heap) (w h : Int) : (vld w h ≠ 0 ∧ ∀ (R : Type) (K : Option Addr → Int → Heap → Option R), tagtree_New k w h H K = K none (vld w h) H) ∨
    (vld w h = 0 ∧ ∃ (a b : Nat) (H' : Heap) (q : Option Addr) (c : Nat) (l : List Lv), w = a ∧ h = b ∧ 1 ≤ a ∧ 1 ≤ b ∧ a ≤ 65536 ∧ b ≤ 65536 ∧ a * b ≤ 65536 ∧ (∀ (R : Type) (K : Option Addr → Int → Heap → Option R), tagtree_New k w h H K = K (some ⟨H.length, 0, none⟩) 0 H') ∧ Tn H.length H' H.length q c l false false (fun _ _ => nz) ∧ l.map (fun v => (v.w, v.h)) = lvs 17 a b ∧ Old H.length H H') := by
  by_cases hv : vld w h = 0
  · right
    refine ⟨hv, ?_⟩
    have hv2 := hv
    unfold vld at hv2
    split at hv2
    · omega
    split at hv2
    · omega
    rename_i c1 c2
    obtain ⟨a, rfl⟩ : ∃ a : Nat, w = a := ⟨w.toNat, by omega⟩
    obtain ⟨b, rfl⟩ : ∃ b : Nat, h = b := ⟨h.toNat, by omega⟩
    have hab : a * b ≤ 65536 := by rw [← Int.natCast_mul] at c2; omega
    obtain ⟨H1, hH1⟩ : ∃ H1, H1 = H ++ [some (⟨[.slice none 0 0, .bool false, .bool false], false, 0⟩ : Blk)] := ⟨_, rfl⟩
    have O1 : Owns H1 H.length [.slice none 0 0, .bool false, .bool false] 0 := by rw [hH1]; exact hblk_new H _
    have o1 : Old H.length H H1 := hH1 ▸ Old.app _ _
    have T1 : Tn H.length H1 H.length none 0 [] false false (fun _ _ => nz) := ⟨O1, Bld.nil _ _ _, Nat.le_refl _, (fun a ha => by cases ha), (fun i v hv => by simp at hv), (fun i j v u hv => by simp at hv)⟩
    obtain ⟨H2, q, c, l, e2, T2, s2, o2⟩ := new_l k 16 k a b (by omega) (by omega) (by omega) (by omega) (by omega) (by omega) hab H.length H.length H1 none 0 [] T1 o1.1 (by simp)
    refine ⟨a, b, H2, q, c, l, rfl, rfl, by omega, by omega, by omega, by omega, hab, fun R K => ?_, T2, s2, o1.trans o2⟩
    unfold tagtree_New tagtree_New_b
    refine (valid_eq _ _ _ _ _).trans ?_
    rw [hv]
    refine go_f rfl (go_halN hH1 ?_)
    exact e2 _ _
  · left
    refine ⟨hv, fun R K => ?_⟩
    have d1 : (vld w h != 0) = true := by simpa using hv
    unfold tagtree_New tagtree_New_b
    refine (valid_eq _ _ _ _ _).trans ?_
    exact go_t d1 rfl
end Go.Proofs.Ytmanlfonppfhaaa.Sh
