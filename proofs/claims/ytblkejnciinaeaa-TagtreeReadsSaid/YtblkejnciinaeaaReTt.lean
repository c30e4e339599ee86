/- TtReads: Tt. -/
import Derived.Test.YtblkejnciinaeaaReBt
import Derived.Test.YtblkejnciinaeaaFwY
import Derived.Test.YtblkejnciinaeaaFwO
import Derived.IntWalk
import Derived.Test.YtblkejnciinaeaaSh2
import Derived.Test.YtblkejnciinaeaaSh1
import Derived.Test.YtblkejnciinaeaaSh6
import Derived.Test.YtblkejnciinaeaaSh7
import Derived.Test.YtblkejnciinaeaaSh5
import Derived.Test.YtblkejnciinaeaaSh3
/- Tagtree: the sizes of a tree, new trees. -/
set_option linter.unusedVariables false
set_option linter.unusedSimpArgs false
namespace Go.Proofs.Ytblkejnciinaeaa.Sh
open Go.Proofs.Ytblkejnciinaeaa.FW Go.IntWalk
/-- The error of a size. -/
def vld (w h : Int) : Int := if w < 1 ∨ h < 1 then 2 else if w > 65536 ∨ h > 65536 ∨ w * h > 65536 then 5 else 0
theorem mul_le {w h : Int} (h1 : 1 ≤ w) (h2 : w ≤ 65536) (h3 : 1 ≤ h) (h4 : h ≤ 65536) : 1 ≤ w * h ∧ w * h ≤ 4294967296 := by
  obtain ⟨a, rfl⟩ : ∃ a : Nat, w = a := ⟨w.toNat, by omega⟩
  obtain ⟨b, rfl⟩ : ∃ b : Nat, h = b := ⟨h.toNat, by omega⟩
  have e1 : a * b ≤ 65536 * 65536 := Nat.mul_le_mul (by omega) (by omega)
  have e2 : 1 * 1 ≤ a * b := Nat.mul_le_mul (by omega) (by omega)
  have e3 : (a : Int) * (b : Int) = ((a * b : Nat) : Int) := (Int.natCast_mul a b).symm
  rw [e3]; omega
theorem valid_eq (k : Nat) (w h : Int) (R : Type) (K : Int → Option R) : tagtree_valid k w h K = K (vld w h) := by
  unfold tagtree_valid tagtree_valid_b tagtree_valid_p0 tagtree_valid_p0_b vld
  by_cases c1 : w < 1
  · rw [if_pos (.inl c1), decide_eq_true c1]; rfl
  by_cases c2 : h < 1
  · rw [if_pos (.inr c2), decide_eq_false c1, decide_eq_true c2]; rfl
  rw [if_neg (by omega), decide_eq_false c1, decide_eq_false c2]
  simp only [cond_false]
  by_cases c3 : w > 65536
  · rw [if_pos (.inl c3), decide_eq_true c3]; rfl
  by_cases c4 : h > 65536
  · rw [if_pos (.inr (.inl c4)), decide_eq_false c3, decide_eq_true c4]; rfl
  have hm := mul_le (w := w) (h := h) (by omega) (by omega) (by omega) (by omega)
  rw [w64 (by omega) (by omega), decide_eq_false c3, decide_eq_false c4]
  simp only [cond_false]
  by_cases c5 : w * h > 65536
  · rw [if_pos (.inr (.inr c5)), decide_eq_true c5]; rfl
  · rw [if_neg (by omega), decide_eq_false c5]; rfl
/-- The sizes of the levels. -/
def lvs : Nat → Nat → Nat → List (Nat × Nat)
  | 0, _, _ => []
  | n + 1, w, h => (w, h) :: if w = 1 ∧ h = 1 then [] else lvs n ((w + 1) / 2) ((h + 1) / 2)
theorem half_w {w : Nat} (h : w ≤ 65536) : IntKind.wrap .i64 (Int.tdiv (IntKind.wrap .i64 ((w : Int) + 1)) 2) = (((w + 1) / 2 : Nat) : Int) := by
  rw [w64 (n := (w : Int) + 1) (by omega) (by omega), show (w : Int) + 1 = ((w + 1 : Nat) : Int) from by omega]
  have : Int.tdiv ((w + 1 : Nat) : Int) 2 = (((w + 1) / 2 : Nat) : Int) := rfl
  rw [this, w64 (by omega) (by omega)]
theorem mulw {w h : Nat} (hm : w * h ≤ 65536) : IntKind.wrap .i64 ((w : Int) * (h : Int)) = ((w * h : Nat) : Int) := by
  rw [← Int.natCast_mul, w64 (by omega) (by omega)]
theorem half_mul {w h : Nat} (h1 : 1 ≤ w) (h2 : 1 ≤ h) (hm : w * h ≤ 65536) : (w + 1) / 2 * ((h + 1) / 2) ≤ 65536 := by
  have e1 : (w + 1) / 2 ≤ w := by omega
  have e2 : (h + 1) / 2 ≤ h := by omega
  exact Nat.le_trans (Nat.mul_le_mul e1 e2) hm
abbrev Nd := Int × Int × Bool
def nd (n : Nd) : List Value := [.int .i64 n.1, .int .i64 n.2.1, .bool n.2.2]
def nds (n : Nat) (f : Nat → Nd) : List Value := (List.range n).flatMap fun i => nd (f i)
def nz : Nd := (0, 0, false)
theorem nds_len (n : Nat) (f : Nat → Nd) : (nds n f).length = n * 3 := by
  induction n with
  | zero => rfl
  | succ n ih =>
    unfold nds at *
    rw [List.range_succ, List.flatMap_append, List.length_append, ih]
    simp [nd]; omega
theorem nds_one (n : Nat) (f : Nat → Nd) : (nds n f).all oneC = true := by
  unfold nds
  rw [List.all_flatMap]
  exact List.all_eq_true.2 fun i _ => rfl
theorem nds_zero (n : Nat) : mkCells [.int .i64 0, .int .i64 0, .bool false] n = nds n (fun _ => nz) := by
  induction n with
  | zero => rfl
  | succ n ih =>
    have e : nds (n + 1) (fun _ => nz) = nd nz ++ nds n (fun _ => nz) := by
      unfold nds
      rw [List.range_succ_eq_map, List.flatMap_cons]
      congr 1
      rw [List.flatMap_map]
    rw [e, ← ih]; rfl
/-- A level: its size, the block of its nodes. -/
structure Lv where
  w : Nat
  h : Nat
  b : Nat
  c : Nat
  z : Nat
def lvc (v : Lv) : List Value := [.int .i64 (v.w : Int), .int .i64 (v.h : Int), .slice (some ⟨v.b, 0, none⟩) (v.w * v.h) v.c]
def lcs (l : List Lv) : List Value := l.flatMap lvc
theorem lcs_len (l : List Lv) : (lcs l).length = l.length * 3 := by
  induction l with
  | nil => rfl
  | cons v l ih => unfold lcs at *; rw [List.flatMap_cons, List.length_append, ih, List.length_cons]; simp [lvc]; omega
theorem app3 {N : Nat} {H : Heap} {q : Option Addr} {l c : Nat} {cs vs : List Value} (h : Bld N 3 H q l c cs) (hN : N ≤ H.length) (hv : vs.length = 3) (hl : l ≤ 200) :
    ∃ H', (∀ (R : Type) (K : Option Addr → Nat → Nat → Heap → Option R), happS 3 40 (H ++ [some ⟨vs, false, 0⟩]) q l c (some ⟨H.length, 0, none⟩) 1 K = K (some ⟨H.length + 1, 0, none⟩) (l + 1) unk H') ∧ Bld N 3 H' (some ⟨H.length + 1, 0, none⟩) (l + 1) unk (cs ++ vs) ∧ H'.length = H.length + 2 ∧ ∀ i, i < H.length → (∀ a, q = some a → a.block ≠ i) → hblk H' i = hblk H i := by
  have hp : Shows (H ++ [some (⟨vs, false, 0⟩ : Blk)]) (some ⟨H.length, 0, none⟩) vs := Sees.shows ⟨_, hblk_new H _, rfl⟩
  have hc := hp.hcells
  rw [hv] at hc
  have hL : (H ++ [some (⟨vs, false, 0⟩ : Blk)]).length = H.length + 1 := by simp
  rcases h with ⟨rfl, rfl, rfl, rfl⟩ | ⟨b, rfl, rfl, h3, h4, h5⟩
  · refine ⟨H ++ [some ⟨vs, false, 0⟩] ++ [some ⟨vs, false, 3⟩], fun R K => ?_, .inr ⟨H.length + 1, rfl, rfl, by omega, ?_, by simp [hv]⟩, by simp, fun i hi _ => by rw [List.append_assoc]; exact app_old hi⟩
    · unfold happS happ
      rw [show 1 * 3 = 3 from rfl, hc]
      simp only
      rw [if_neg (by unfold unk; omega), if_neg (by omega), if_pos (by omega), hL]
      rfl
    · have := hblk_new (H ++ [some (⟨vs, false, 0⟩ : Blk)]) (some ⟨vs, false, 3⟩)
      rw [hL] at this
      exact this
  · have hblt := h4.sees.lt
    have h4' : hblk (H ++ [some (⟨vs, false, 0⟩ : Blk)]) b = some ⟨cs, false, 3⟩ := by rw [app_old hblt]; exact h4
    refine ⟨hset (H ++ [some ⟨vs, false, 0⟩]) b none ++ [some ⟨cs ++ vs, false, 3⟩], fun R K => ?_, .inr ⟨H.length + 1, rfl, rfl, by omega, ?_, by rw [Nat.add_mul, h5, List.length_append, hv]⟩, by simp [hset_length], fun i hi hne => ?_⟩
    · unfold happS happ
      rw [show 1 * 3 = 3 from rfl, hc]
      simp only [if_true, h4', cond_false, h5, true_and, hL]
      rw [if_pos (by omega)]
    · have := app_new (hset (H ++ [some (⟨vs, false, 0⟩ : Blk)]) b none) (some ⟨cs ++ vs, false, 3⟩) []
      rwa [hset_length, hL] at this
    · rw [app_old (by rw [hset_length]; omega), hset_get, if_neg (by have := hne _ rfl; simp only at this; omega), app_old hi]
/-- A tree under way: its levels, their nodes all zero. -/
structure Tn (N : Nat) (H : Heap) (p : Nat) (q : Option Addr) (c : Nat) (l : List Lv) (enc dec : Bool) (g : Nat → Nat → Nd) : Prop where
  o : Owns H p [.slice q l.length c, .bool enc, .bool dec] 0
  b : Bld N 3 H q l.length c (lcs l)
  low : N ≤ p
  ap : ∀ a, q = some a → a.block ≠ p
  n : ∀ (i : Nat) (v : Lv), l[i]? = some v → Owns H v.b (nds (v.w * v.h) (g i)) v.z ∧ N ≤ v.b ∧ v.b ≠ p ∧ ∀ a, q = some a → a.block ≠ v.b
  d : ∀ (i j : Nat) (v u : Lv), l[i]? = some v → l[j]? = some u → i ≠ j → v.b ≠ u.b
theorem hmk3 {n : Nat} (H : Heap) (hn : n ≤ 65536) (R : Type) (K : Option Addr → Nat → Nat → Heap → Option R) : hmk [.int .i64 0, .int .i64 0, .bool false] 24 H (n : Int) (n : Int) K = K (some ⟨H.length, 0, none⟩) n n (H ++ [some ⟨nds n (fun _ => nz), false, 0⟩]) := by
  unfold hmk
  rw [if_pos ⟨by omega, by omega, by omega, by omega⟩, ← nds_zero]
  rfl
theorem Bld.but2 {N size b l c : Nat} {H H' : Heap} {q : Option Addr} {cs : List Value} (h : Bld N size H q l c cs) (o : But b H H') (hb : ∀ a, q = some a → a.block ≠ b) : Bld N size H' q l c cs := by
  rcases h with h | ⟨b2, rfl, h2, h3, h4, h5⟩
  · exact .inl h
  · exact .inr ⟨b2, rfl, h2, h3, Owns.but h4 o (hb _ rfl), h5⟩
/-- One more level. -/
theorem lev_gen {N p : Nat} {H : Heap} {q : Option Addr} {c : Nat} {l : List Lv} {e d : Bool} {g : Nat → Nat → Nd} (T : Tn N H p q c l e d g) (hN : N ≤ H.length) (hl : l.length ≤ 99) (w h cap z : Nat) :
    ∃ H1 H2 H3 H4, H1 = H ++ [some (⟨nds (w * h) (g l.length), false, z⟩ : Blk)] ∧ H2 = H1 ++ [some (⟨lvc ⟨w, h, H.length, cap, z⟩, false, 0⟩ : Blk)] ∧ hcell H p 0 = some (.slice q l.length c) ∧
    (∀ (R : Type) (K : Option Addr → Nat → Nat → Heap → Option R), happS 3 40 H2 q l.length c (some ⟨H1.length, 0, none⟩) 1 K = K (some ⟨H1.length + 1, 0, none⟩) (l.length + 1) unk H3) ∧
    (∀ (R : Type) (K : Heap → Option R), hst1 H3 (some ⟨p, 0, none⟩) (.slice (some ⟨H1.length + 1, 0, none⟩) (l.length + 1) unk) K = K H4) ∧
    Tn N H4 p (some ⟨H1.length + 1, 0, none⟩) unk (l ++ [⟨w, h, H.length, cap, z⟩]) e d g ∧ Old N H H4 := by
  obtain ⟨H1, hH1⟩ : ∃ H1, H1 = H ++ [some (⟨nds (w * h) (g l.length), false, z⟩ : Blk)] := ⟨_, rfl⟩
  have n1 : H1.length = H.length + 1 := by rw [hH1]; simp
  have o1 : Old H.length H H1 := hH1 ▸ Old.app _ _
  have hp := T.o.lt
  have hB1 := T.b.old o1 (Nat.le_refl _)
  obtain ⟨H3, e3, B3, n3, s3⟩ := app3 hB1 (by omega) (vs := lvc ⟨w, h, H.length, cap, z⟩) rfl (by omega)
  have hqb := T.b.below
  have O3 : Owns H3 p [.slice q l.length c, .bool e, .bool d] 0 := by
    unfold Owns at *; rw [s3 p (by omega) T.ap, o1.2 p hp]; exact T.o
  obtain ⟨H4, e4, O4, b4, n4⟩ := Owns.st1 (o := 0) O3 (by simp) (.slice (some ⟨H1.length + 1, 0, none⟩) (l.length + 1) unk)
  have keep : ∀ b cs zz, Owns H b cs zz → b ≠ p → (∀ a, q = some a → a.block ≠ b) → Owns H4 b cs zz := fun b cs zz ho h1 h2 => by
    have hb := ho.lt
    unfold Owns at *; rw [b4.2 b (by omega) h1, s3 b (by omega) h2, o1.2 b hb]; exact ho
  have Onew : Owns H4 H.length (nds (w * h) (g l.length)) z := by
    have : Owns H1 H.length (nds (w * h) (g l.length)) z := by rw [hH1]; exact hblk_new H _
    unfold Owns at *; rw [b4.2 _ (by omega) (by omega), s3 _ (by omega) (fun a ha => by have := hqb a ha; omega)]; exact this
  refine ⟨H1, _, H3, H4, hH1, rfl, T.o.sees.cell 0, e3, e4, ⟨by rw [List.length_append]; exact O4, ?_, T.low, (fun a ha => by cases ha; simp only; omega), fun i v hv => ?_, fun i j v u hv hu hij => ?_⟩, ⟨by omega, fun i hi => ?_⟩⟩
  · have : lcs (l ++ [⟨w, h, H.length, cap, z⟩]) = lcs l ++ lvc ⟨w, h, H.length, cap, z⟩ := by simp [lcs]
    rw [this, List.length_append]
    exact Bld.but2 B3 b4 (fun a ha => by cases ha; simp only; omega)
  · by_cases hi : i < l.length
    · rw [List.getElem?_append_left hi] at hv
      obtain ⟨g1, g2, g3, g4⟩ := T.n i v hv
      have := g1.lt
      exact ⟨keep _ _ _ g1 g3 g4, g2, g3, fun a ha => by cases ha; simp only; omega⟩
    · have hi2 := (List.getElem?_eq_some_iff.1 hv).1
      simp only [List.length_append, List.length_cons, List.length_nil] at hi2
      have : i = l.length := by omega
      subst this
      rw [List.getElem?_append_right (Nat.le_refl _), Nat.sub_self] at hv
      simp at hv
      subst hv
      exact ⟨Onew, hN, by simp only; omega, fun a ha => by cases ha; simp only; omega⟩
  · have key : ∀ (i j : Nat) (v u : Lv), (l ++ [⟨w, h, H.length, cap, z⟩])[i]? = some v → (l ++ [⟨w, h, H.length, cap, z⟩])[j]? = some u → i < j → v.b ≠ u.b := by
      intro i j v u hv hu hij
      have hj2 := (List.getElem?_eq_some_iff.1 hu).1
      simp only [List.length_append, List.length_cons, List.length_nil] at hj2
      rw [List.getElem?_append_left (by omega)] at hv
      by_cases hj : j < l.length
      · rw [List.getElem?_append_left hj] at hu
        exact T.d i j v u hv hu (by omega)
      · have : j = l.length := by omega
        subst this
        rw [List.getElem?_append_right (Nat.le_refl _), Nat.sub_self] at hu
        simp at hu
        subst hu
        have := (T.n i v hv).1.lt
        simp only; omega
    rcases Nat.lt_or_gt_of_ne hij with h1 | h1
    · exact key i j v u hv hu h1
    · exact (key j i u v hu hv h1).symm
  · rw [b4.2 i (by omega) (by have := T.low; omega), s3 i (by omega) (fun a ha => by
      rcases T.b with ⟨hq, _⟩ | ⟨b2, hq, _, h3, _⟩
      · rw [hq] at ha; cases ha
      · rw [hq] at ha; cases ha; simp only; omega), o1.2 i (by omega)]
theorem lev_eq {N p : Nat} {H : Heap} {q : Option Addr} {c : Nat} {l : List Lv} {g : Nat → Nat → Nd} (T : Tn N H p q c l false false g) (hN : N ≤ H.length) (hl : l.length ≤ 99) (w h : Nat) (hwh : w * h ≤ 65536) (hg : ∀ j, g l.length j = nz) :
    ∃ H1 H2 H3 H4, H2 = H1 ++ [some (⟨lvc ⟨w, h, H.length, w * h, 0⟩, false, 0⟩ : Blk)] ∧ hcell H p 0 = some (.slice q l.length c) ∧
    (∀ (R : Type) (K : Option Addr → Nat → Nat → Heap → Option R), hmk [.int .i64 0, .int .i64 0, .bool false] 24 H ((w * h : Nat) : Int) ((w * h : Nat) : Int) K = K (some ⟨H.length, 0, none⟩) (w * h) (w * h) H1) ∧
    (∀ (R : Type) (K : Option Addr → Nat → Nat → Heap → Option R), happS 3 40 H2 q l.length c (some ⟨H1.length, 0, none⟩) 1 K = K (some ⟨H1.length + 1, 0, none⟩) (l.length + 1) unk H3) ∧
    (∀ (R : Type) (K : Heap → Option R), hst1 H3 (some ⟨p, 0, none⟩) (.slice (some ⟨H1.length + 1, 0, none⟩) (l.length + 1) unk) K = K H4) ∧
    Tn N H4 p (some ⟨H1.length + 1, 0, none⟩) unk (l ++ [⟨w, h, H.length, w * h, 0⟩]) false false g ∧ Old N H H4 := by
  obtain ⟨H1, H2, H3, H4, h1, h2, h3, h4, h5, h6, h7⟩ := lev_gen T hN hl w h (w * h) 0
  have he : nds (w * h) (g l.length) = nds (w * h) (fun _ => nz) := by unfold nds; congr 1; funext j; rw [hg]
  exact ⟨H1, H2, H3, H4, h2, h3, fun R K => by rw [h1, he]; exact hmk3 H hwh R K, h4, h5, h6, h7⟩
theorem new_l (k : Nat) : ∀ (m n w h : Nat), m < n → 1 ≤ w → 1 ≤ h → w ≤ 2 ^ m → h ≤ 2 ^ m → m ≤ 16 → w * h ≤ 65536 → ∀ (N p : Nat) (H : Heap) (q : Option Addr) (c : Nat) (l : List Lv), Tn N H p q c l false false (fun _ _ => nz) → N ≤ H.length → l.length + m ≤ 90 →
    ∃ H' q' c' l', (∀ (R : Type) (KR : Option Addr → Int → Heap → Option R), tagtree_New_l0 k KR n (w : Int) (h : Int) (some ⟨p, 0, none⟩) H = KR (some ⟨p, 0, none⟩) 0 H') ∧ Tn N H' p q' c' (l ++ l') false false (fun _ _ => nz) ∧ l'.map (fun v => (v.w, v.h)) = lvs (m + 1) w h ∧ Old N H H' := by
  intro m
  induction m with
  | zero =>
    intro n w h hn hw hh hw2 hh2 hm hwh N p H q c l T hN hl
    obtain ⟨n, rfl⟩ : ∃ n', n = n' + 1 := ⟨n - 1, by omega⟩
    simp only [Nat.pow_zero] at hw2 hh2
    obtain rfl : w = 1 := by omega
    obtain rfl : h = 1 := by omega
    obtain ⟨H1, H2, H3, H4, hH2, m0, e1, e3, e4, T4, o4⟩ := lev_eq T hN (by omega) 1 1 (by omega) (fun _ => rfl)
    refine ⟨H4, _, _, [⟨1, 1, H.length, 1, 0⟩], fun R KR => ?_, T4, rfl, o4⟩
    have w1 : IntKind.wrap .i64 (((1 : Nat) : Int) * ((1 : Nat) : Int)) = ((1 * 1 : Nat) : Int) := mulw (by omega)
    unfold tagtree_New_l0 tagtree_New_l0_b tagtree_New_p1 tagtree_New_p1_b
    rw [w1]
    repeat (first | (with_reducible refine (e1 _ _).trans ?_) | (with_reducible refine (e3 _ _).trans ?_) | (with_reducible refine (e4 _ _).trans ?_) | ((with_reducible refine go_ip (x := ?_) ?_ ?_); rotate_left 1; (first  | exact m0 | rfl)) | ((with_reducible refine go_bp (x := ?_) ?_ ?_); rotate_left 1; (first  | exact m0 | rfl)) | ((with_reducible refine go_lp (x := ?_) (l := ?_) (c := ?_) ?_ ?_); rotate_left 3; (first  | exact m0 | rfl)) | ((with_reducible refine go_pp (x := ?_) ?_ ?_); rotate_left 1; (first  | exact m0 | rfl)) | ((with_reducible refine go_i (x := ?_) ?_ ?_); rotate_left 1; (first  | exact m0 | rfl)) | ((with_reducible refine go_b (x := ?_) ?_ ?_); rotate_left 1; (first  | exact m0 | rfl)) | ((with_reducible refine go_l (x := ?_) (l := ?_) (c := ?_) ?_ ?_); rotate_left 3; (first  | exact m0 | rfl)) | ((with_reducible refine go_p (x := ?_) ?_ ?_); rotate_left 1; (first  | exact m0 | rfl)) | ((with_reducible refine go_halst hH2 ?_ ?_ ?_); rfl; rfl) | (with_reducible refine go_halN hH2 ?_) | ((with_reducible refine go_t ?_ ?_); (show _ = true; rfl)) | ((with_reducible refine go_f ?_ ?_); (show _ = false; rfl)) | (with_reducible refine go_ne ?_) | (with_reducible refine go_eq ?_) | (with_reducible refine go_fad ?_) | (with_reducible refine go_nil ?_))
    rfl
  | succ m ih =>
    intro n w h hn hw hh hw2 hh2 hm hwh N p H q c l T hN hl
    obtain ⟨n, rfl⟩ : ∃ n', n = n' + 1 := ⟨n - 1, by omega⟩
    obtain ⟨H1, H2, H3, H4, hH2, m0, e1, e3, e4, T4, o4⟩ := lev_eq T hN (by omega) w h hwh (fun _ => rfl)
    have w1 : IntKind.wrap .i64 ((w : Int) * (h : Int)) = ((w * h : Nat) : Int) := mulw hwh
    have p16 : 2 ^ (m + 1) ≤ 2 ^ 16 := Nat.pow_le_pow_right (by omega) hm
    by_cases hone : w = 1 ∧ h = 1
    · obtain ⟨rfl, rfl⟩ := hone
      refine ⟨H4, _, _, [⟨1, 1, H.length, 1, 0⟩], fun R KR => ?_, T4, by rw [lvs, if_pos ⟨rfl, rfl⟩]; rfl, o4⟩
      unfold tagtree_New_l0 tagtree_New_l0_b tagtree_New_p1 tagtree_New_p1_b
      rw [w1]
      repeat (first | (with_reducible refine (e1 _ _).trans ?_) | (with_reducible refine (e3 _ _).trans ?_) | (with_reducible refine (e4 _ _).trans ?_) | ((with_reducible refine go_ip (x := ?_) ?_ ?_); rotate_left 1; (first  | exact m0 | rfl)) | ((with_reducible refine go_bp (x := ?_) ?_ ?_); rotate_left 1; (first  | exact m0 | rfl)) | ((with_reducible refine go_lp (x := ?_) (l := ?_) (c := ?_) ?_ ?_); rotate_left 3; (first  | exact m0 | rfl)) | ((with_reducible refine go_pp (x := ?_) ?_ ?_); rotate_left 1; (first  | exact m0 | rfl)) | ((with_reducible refine go_i (x := ?_) ?_ ?_); rotate_left 1; (first  | exact m0 | rfl)) | ((with_reducible refine go_b (x := ?_) ?_ ?_); rotate_left 1; (first  | exact m0 | rfl)) | ((with_reducible refine go_l (x := ?_) (l := ?_) (c := ?_) ?_ ?_); rotate_left 3; (first  | exact m0 | rfl)) | ((with_reducible refine go_p (x := ?_) ?_ ?_); rotate_left 1; (first  | exact m0 | rfl)) | ((with_reducible refine go_halst hH2 ?_ ?_ ?_); rfl; rfl) | (with_reducible refine go_halN hH2 ?_) | ((with_reducible refine go_t ?_ ?_); (show _ = true; rfl)) | ((with_reducible refine go_f ?_ ?_); (show _ = false; rfl)) | (with_reducible refine go_ne ?_) | (with_reducible refine go_eq ?_) | (with_reducible refine go_fad ?_) | (with_reducible refine go_nil ?_))
      rfl
    · have hp : 2 ^ (m + 1) = 2 * 2 ^ m := Nat.pow_succ'
      have hm2 := half_mul hw hh hwh
      obtain ⟨H5, q5, c5, l5, e5, T5, s5, o5⟩ := ih n ((w + 1) / 2) ((h + 1) / 2) (by omega) (by omega) (by omega) (by omega) (by omega) (by omega) hm2 N p H4 _ _ _ T4 (by have := o4.1; omega) (by rw [List.length_append]; simp only [List.length_cons, List.length_nil]; omega)
      refine ⟨H5, q5, c5, ⟨w, h, H.length, w * h, 0⟩ :: l5, fun R KR => ?_, by rw [List.append_assoc] at T5; exact T5, by
        show _ = (w, h) :: (if w = 1 ∧ h = 1 then [] else lvs (m + 1) ((w + 1) / 2) ((h + 1) / 2))
        rw [if_neg hone, List.map_cons, s5], o4.trans o5⟩
      have hw1 := half_w (w := w) (by omega)
      have hh1 := half_w (w := h) (by omega)
      unfold tagtree_New_l0 tagtree_New_l0_b tagtree_New_p1 tagtree_New_p1_b
      rw [w1]
      by_cases c1 : w = 1
      · have d1 : ((w : Int) == 1) = true := by rw [c1]; rfl
        have d2 : ((h : Int) == 1) = false := by rw [beq_eq_false_iff_ne]; omega
        repeat (first | (with_reducible refine (e1 _ _).trans ?_) | (with_reducible refine (e3 _ _).trans ?_) | (with_reducible refine (e4 _ _).trans ?_) | ((with_reducible refine go_ip (x := ?_) ?_ ?_); rotate_left 1; (first  | exact m0 | rfl)) | ((with_reducible refine go_bp (x := ?_) ?_ ?_); rotate_left 1; (first  | exact m0 | rfl)) | ((with_reducible refine go_lp (x := ?_) (l := ?_) (c := ?_) ?_ ?_); rotate_left 3; (first  | exact m0 | rfl)) | ((with_reducible refine go_pp (x := ?_) ?_ ?_); rotate_left 1; (first  | exact m0 | rfl)) | ((with_reducible refine go_i (x := ?_) ?_ ?_); rotate_left 1; (first  | exact m0 | rfl)) | ((with_reducible refine go_b (x := ?_) ?_ ?_); rotate_left 1; (first  | exact m0 | rfl)) | ((with_reducible refine go_l (x := ?_) (l := ?_) (c := ?_) ?_ ?_); rotate_left 3; (first  | exact m0 | rfl)) | ((with_reducible refine go_p (x := ?_) ?_ ?_); rotate_left 1; (first  | exact m0 | rfl)) | ((with_reducible refine go_halst hH2 ?_ ?_ ?_); rfl; rfl) | (with_reducible refine go_halN hH2 ?_) | (with_reducible refine go_t d1 ?_) | (with_reducible refine go_f d1 ?_) | (with_reducible refine go_t d2 ?_) | (with_reducible refine go_f d2 ?_) | ((with_reducible refine go_t ?_ ?_); (show _ = true; rfl)) | ((with_reducible refine go_f ?_ ?_); (show _ = false; rfl)) | (with_reducible refine go_ne ?_) | (with_reducible refine go_eq ?_) | (with_reducible refine go_fad ?_) | (with_reducible refine go_nil ?_))
        try dsimp only
        rw [hw1, hh1]
        exact e5 R KR
      · have d1 : ((w : Int) == 1) = false := by rw [beq_eq_false_iff_ne]; omega
        repeat (first | (with_reducible refine (e1 _ _).trans ?_) | (with_reducible refine (e3 _ _).trans ?_) | (with_reducible refine (e4 _ _).trans ?_) | ((with_reducible refine go_ip (x := ?_) ?_ ?_); rotate_left 1; (first  | exact m0 | rfl)) | ((with_reducible refine go_bp (x := ?_) ?_ ?_); rotate_left 1; (first  | exact m0 | rfl)) | ((with_reducible refine go_lp (x := ?_) (l := ?_) (c := ?_) ?_ ?_); rotate_left 3; (first  | exact m0 | rfl)) | ((with_reducible refine go_pp (x := ?_) ?_ ?_); rotate_left 1; (first  | exact m0 | rfl)) | ((with_reducible refine go_i (x := ?_) ?_ ?_); rotate_left 1; (first  | exact m0 | rfl)) | ((with_reducible refine go_b (x := ?_) ?_ ?_); rotate_left 1; (first  | exact m0 | rfl)) | ((with_reducible refine go_l (x := ?_) (l := ?_) (c := ?_) ?_ ?_); rotate_left 3; (first  | exact m0 | rfl)) | ((with_reducible refine go_p (x := ?_) ?_ ?_); rotate_left 1; (first  | exact m0 | rfl)) | ((with_reducible refine go_halst hH2 ?_ ?_ ?_); rfl; rfl) | (with_reducible refine go_halN hH2 ?_) | (with_reducible refine go_t d1 ?_) | (with_reducible refine go_f d1 ?_) | ((with_reducible refine go_t ?_ ?_); (show _ = true; rfl)) | ((with_reducible refine go_f ?_ ?_); (show _ = false; rfl)) | (with_reducible refine go_ne ?_) | (with_reducible refine go_eq ?_) | (with_reducible refine go_fad ?_) | (with_reducible refine go_nil ?_))
        try dsimp only
        rw [hw1, hh1]
        exact e5 R KR
/-- A new tree, or the error. -/
theorem New_eq {k : Nat} (hk : 100 < k) (H : Heap) (w h : Int) : (vld w h ≠ 0 ∧ ∀ (R : Type) (K : Option Addr → Int → Heap → Option R), tagtree_New k w h H K = K none (vld w h) H) ∨
    (vld w h = 0 ∧ ∃ (a b : Nat) (H' : Heap) (q : Option Addr) (c : Nat) (l : List Lv), w = a ∧ h = b ∧ 1 ≤ a ∧ 1 ≤ b ∧ a ≤ 65536 ∧ b ≤ 65536 ∧ a * b ≤ 65536 ∧ (∀ (R : Type) (K : Option Addr → Int → Heap → Option R), tagtree_New k w h H K = K (some ⟨H.length, 0, none⟩) 0 H') ∧ Tn H.length H' H.length q c l false false (fun _ _ => nz) ∧ l.map (fun v => (v.w, v.h)) = lvs 17 a b ∧ Old H.length H H') := by
  by_cases hv : vld w h = 0
  · right
    refine ⟨hv, ?_⟩
    have hv2 := hv
    unfold vld at hv2
    split at hv2
    · omega
    split at hv2
    · omega
    rename_i c1 c2
    obtain ⟨a, rfl⟩ : ∃ a : Nat, w = a := ⟨w.toNat, by omega⟩
    obtain ⟨b, rfl⟩ : ∃ b : Nat, h = b := ⟨h.toNat, by omega⟩
    have hab : a * b ≤ 65536 := by rw [← Int.natCast_mul] at c2; omega
    obtain ⟨H1, hH1⟩ : ∃ H1, H1 = H ++ [some (⟨[.slice none 0 0, .bool false, .bool false], false, 0⟩ : Blk)] := ⟨_, rfl⟩
    have O1 : Owns H1 H.length [.slice none 0 0, .bool false, .bool false] 0 := by rw [hH1]; exact hblk_new H _
    have o1 : Old H.length H H1 := hH1 ▸ Old.app _ _
    have T1 : Tn H.length H1 H.length none 0 [] false false (fun _ _ => nz) := ⟨O1, Bld.nil _ _ _, Nat.le_refl _, (fun a ha => by cases ha), (fun i v hv => by simp at hv), (fun i j v u hv => by simp at hv)⟩
    obtain ⟨H2, q, c, l, e2, T2, s2, o2⟩ := new_l k 16 k a b (by omega) (by omega) (by omega) (by omega) (by omega) (by omega) hab H.length H.length H1 none 0 [] T1 o1.1 (by simp)
    refine ⟨a, b, H2, q, c, l, rfl, rfl, by omega, by omega, by omega, by omega, hab, fun R K => ?_, T2, s2, o1.trans o2⟩
    unfold tagtree_New tagtree_New_b
    refine (valid_eq _ _ _ _ _).trans ?_
    rw [hv]
    refine go_f rfl (go_halN hH1 ?_)
    exact e2 _ _
  · left
    refine ⟨hv, fun R K => ?_⟩
    have d1 : (vld w h != 0) = true := by simpa using hv
    unfold tagtree_New tagtree_New_b
    refine (valid_eq _ _ _ _ _).trans ?_
    exact go_t d1 rfl
end Go.Proofs.Ytblkejnciinaeaa.Sh
/- Tagtree: where a node lies; its change. -/
set_option linter.unusedVariables false
set_option linter.unusedSimpArgs false
namespace Go.Proofs.Ytblkejnciinaeaa.Sh
open Go.Proofs.Ytblkejnciinaeaa.FW Go.IntWalk
/-- The size of a level. -/
def wl (a i : Nat) : Nat := (a - 1) / 2 ^ i + 1
theorem wl_zero {a : Nat} (h : 1 ≤ a) : wl a 0 = a := by unfold wl; simp; omega
theorem wl_succ {a : Nat} (h : 1 ≤ a) (i : Nat) : wl ((a + 1) / 2) i = wl a (i + 1) := by
  unfold wl
  rw [show (a + 1) / 2 - 1 = (a - 1) / 2 from by omega, Nat.div_div_eq_div_mul, Nat.pow_succ', Nat.mul_comm]
theorem lvs_get : ∀ (n a b i : Nat) (v : Nat × Nat), 1 ≤ a → 1 ≤ b → (lvs n a b)[i]? = some v → v = (wl a i, wl b i) := by
  intro n
  induction n with
  | zero => intro a b i v _ _ h; simp [lvs] at h
  | succ n ih =>
    intro a b i v ha hb h
    rw [lvs] at h
    cases i with
    | zero => simp at h; rw [wl_zero ha, wl_zero hb]; exact h.symm
    | succ i =>
      rw [List.getElem?_cons_succ] at h
      by_cases h1 : a = 1 ∧ b = 1
      · rw [if_pos h1] at h; simp at h
      · rw [if_neg h1] at h
        have := ih _ _ i v (by omega) (by omega) h
        rw [wl_succ ha, wl_succ hb] at this; exact this
theorem lvs_len : ∀ (n a b : Nat), (lvs n a b).length ≤ n := by
  intro n
  induction n with
  | zero => intro a b; simp [lvs]
  | succ n ih =>
    intro a b
    rw [lvs]
    split
    · simp
    · have := ih ((a + 1) / 2) ((b + 1) / 2); simp; omega
/-- The shape of a tree. -/
structure Geo (a b : Nat) (l : List Lv) : Prop where
  a1 : 1 ≤ a
  b1 : 1 ≤ b
  ab : a * b ≤ 65536
  am : a ≤ 65536
  bm : b ≤ 65536
  pos : 1 ≤ l.length
  len : l.length ≤ 17
  lv : ∀ i v, l[i]? = some v → v.w = wl a i ∧ v.h = wl b i
theorem geo_of {a b : Nat} {l : List Lv} (a1 : 1 ≤ a) (b1 : 1 ≤ b) (am : a ≤ 65536) (bm : b ≤ 65536) (ab : a * b ≤ 65536) (h : l.map (fun v => (v.w, v.h)) = lvs 17 a b) : Geo a b l := by
  have hl : l.length = (lvs 17 a b).length := by rw [← h, List.length_map]
  refine ⟨a1, b1, ab, am, bm, ?_, ?_, fun i v hv => ?_⟩
  · rw [hl, lvs]; simp
  · rw [hl]; exact lvs_len _ _ _
  · have : (lvs 17 a b)[i]? = some (v.w, v.h) := by rw [← h, List.getElem?_map, hv]; rfl
    have := lvs_get _ _ _ _ _ a1 b1 this
    exact ⟨congrArg Prod.fst this, congrArg Prod.snd this⟩
theorem wl_le (a i : Nat) : wl a i ≤ a - 1 + 1 := by unfold wl; have := Nat.div_le_self (a - 1) (2 ^ i); omega
theorem wl_pos (a i : Nat) : 1 ≤ wl a i := Nat.le_add_left 1 _
/-- The node above a leaf. -/
def ix (a x y i : Nat) : Nat := y / 2 ^ i * wl a i + x / 2 ^ i
theorem ix_lt {a b x y : Nat} (hx : x < a) (hy : y < b) (i : Nat) : ix a x y i < wl a i * wl b i := by
  have h1 : x / 2 ^ i < wl a i := by unfold wl; have : x / 2 ^ i ≤ (a - 1) / 2 ^ i := Nat.div_le_div_right (by omega); omega
  have h2 : y / 2 ^ i + 1 ≤ wl b i := by unfold wl; have : y / 2 ^ i ≤ (b - 1) / 2 ^ i := Nat.div_le_div_right (by omega); omega
  have := Nat.mul_le_mul_right (wl a i) h2
  unfold ix
  rw [Nat.add_mul] at this
  rw [Nat.mul_comm (wl a i)]; omega
theorem Geo.wh {a b : Nat} {l : List Lv} (G : Geo a b l) (i : Nat) : wl a i * wl b i ≤ 65536 := by
  have h1 := wl_le a i
  have h2 := wl_le b i
  have := G.a1; have := G.b1
  exact Nat.le_trans (Nat.mul_le_mul (by omega : wl a i ≤ a) (by omega : wl b i ≤ b)) G.ab
theorem fm3 {α : Type} (f : α → List Value) (hf : ∀ x, (f x).length = 3) : ∀ (l : List α) (i : Nat) (x : α), l[i]? = some x → ∀ j, j < 3 → (l.flatMap f)[i * 3 + j]? = (f x)[j]? := by
  intro l
  induction l with
  | nil => intro i x h; simp at h
  | cons y l ih =>
    intro i x h j hj
    rw [List.flatMap_cons]
    cases i with
    | zero => simp at h; subst h; rw [List.getElem?_append_left (by rw [hf]; omega)]; simp
    | succ i =>
      rw [List.getElem?_append_right (by rw [hf]; omega), hf, show (i + 1) * 3 + j - 3 = i * 3 + j from by omega]
      exact ih i x (by simpa using h) j hj
theorem nds_at {n i : Nat} (f : Nat → Nd) (hi : i < n) {j : Nat} (hj : j < 3) : (nds n f)[i * 3 + j]? = (nd (f i))[j]? :=
  fm3 (fun i => nd (f i)) (fun _ => rfl) (List.range n) i i (by simp [hi]) j hj
def upd (f : Nat → Nd) (i : Nat) (x : Nd) : Nat → Nd := fun j => if j = i then x else f j
theorem upd_at (f : Nat → Nd) (i : Nat) (x : Nd) : upd f i x i = x := by unfold upd; rw [if_pos rfl]
theorem upd_ne (f : Nat → Nd) {i j : Nat} (x : Nd) (h : j ≠ i) : upd f i x j = f j := by unfold upd; rw [if_neg h]
theorem nds_congr {n : Nat} {f g : Nat → Nd} (h : ∀ i, i < n → f i = g i) : nds n f = nds n g := by
  unfold nds
  rw [List.flatMap_def, List.flatMap_def]
  congr 1
  exact List.map_congr_left fun i hi => by rw [h i (List.mem_range.1 hi)]
theorem nds_get (n : Nat) (f : Nat → Nd) (m : Nat) : (nds n f)[m]? = if m < n * 3 then (nd (f (m / 3)))[m % 3]? else none := by
  split
  · rename_i h
    have := nds_at (n := n) (i := m / 3) f (by omega) (j := m % 3) (by omega)
    rwa [show m / 3 * 3 + m % 3 = m from by omega] at this
  · rename_i h
    exact List.getElem?_eq_none (by rw [nds_len]; omega)
theorem nds_set {n i : Nat} (f : Nat → Nd) (hi : i < n) {j : Nat} (hj : j < 3) (x : Nd) (v : Value) (hx : (nd (f i)).set j v = nd x) : (nds n f).set (i * 3 + j) v = nds n (upd f i x) := by
  apply List.ext_getElem?
  intro m
  rw [List.getElem?_set, nds_get, nds_get, nds_len]
  by_cases hm : m < n * 3
  · rw [if_pos hm, if_pos hm]
    by_cases hmi : m / 3 = i
    · rw [hmi, upd_at, ← hx, List.getElem?_set]
      have hl : (nd (f i)).length = 3 := rfl
      rw [hl]
      by_cases hmj : m % 3 = j
      · rw [if_pos (by omega), if_pos (by omega), if_pos hmj.symm, if_pos (by omega)]
      · rw [if_neg (by omega), if_neg (fun h => hmj h.symm)]
    · rw [upd_ne _ _ hmi, if_neg (by omega)]
  · rw [if_neg hm, if_neg hm, if_neg (by omega)]
theorem nds_splice {n i : Nat} (f : Nat → Nd) (hi : i < n) (x : Nd) : splice (nds n f) (i * 3) (nd x) = nds n (upd f i x) := by
  have hl := nds_len n f
  apply List.ext_getElem?
  intro m
  rw [nds_get]
  unfold splice
  have h3 : (nd x).length = 3 := rfl
  have ht : ((nds n f).take (i * 3)).length = i * 3 := by rw [List.length_take, hl]; omega
  by_cases h1 : m < i * 3
  · rw [List.append_assoc, List.getElem?_append_left (by omega), List.getElem?_take, if_pos h1, nds_get, upd_ne _ _ (by omega)]
  · by_cases h2 : m < i * 3 + 3
    · rw [List.getElem?_append_left (by rw [List.length_append, ht, h3]; omega), List.getElem?_append_right (by omega), ht, if_pos (by omega), show m / 3 = i from by omega, upd_at, show m - i * 3 = m % 3 from by omega]
    · rw [List.getElem?_append_right (by rw [List.length_append, ht, h3]; omega), List.length_append, ht, h3, List.getElem?_drop, show i * 3 + 3 + (m - (i * 3 + 3)) = m from by omega, nds_get, upd_ne _ _ (by omega)]
/-- The node of a leaf at a level. -/
theorem at_eq {a b x y i : Nat} {H : Heap} {p bq : Nat} {l : List Lv} {c : Nat} {z : List Value} {v : Lv} (G : Geo a b l) (hp : Sees H p (.slice (some ⟨bq, 0, none⟩) l.length c :: z)) (hq : Sees H bq (lcs l)) (hv : l[i]? = some v) (hx : x < a) (hy : y < b) :
    ∀ (R : Type) (K : Option Addr → Option R), tagtree_Tree_at (some ⟨p, 0, none⟩) (i : Int) (x : Int) (y : Int) H K = K (some ⟨v.b, ix a x y i * 3, none⟩) := by
  intro R K
  have hi : i < l.length := (List.getElem?_eq_some_iff.1 hv).1
  have hlen := G.len
  obtain ⟨e1, e2⟩ := G.lv i v hv
  have hxm := G.am
  have hym := G.bm
  have hlt := ix_lt hx hy i
  have hwh := G.wh i
  have m0 : hcell H p 0 = some (.slice (some ⟨bq, 0, none⟩) l.length c) := hp.cell 0
  have mq : ∀ j, j < 3 → hcell H bq (i * 3 + j) = (lvc v)[j]? := fun j hj => by rw [hq.cell]; exact fm3 lvc (fun _ => rfl) l i v hv j hj
  have mq2 : hcell H bq (i * 3 + 2) = some (.slice (some ⟨v.b, 0, none⟩) (v.w * v.h) v.c) := mq 2 (by omega)
  have mq0 : hcell H bq (i * 3 + 0) = some (.int .i64 (v.w : Int)) := mq 0 (by omega)
  have hid : hidx (R := R) (some ⟨bq, 0, none⟩) l.length (i : Int) 3 = fun K => K (some ⟨bq, i * 3, none⟩) := by
    funext K; unfold hidx; simp only; rw [if_pos ⟨by omega, by omega⟩, Int.toNat_natCast, Nat.zero_add]
  have s1 : ∀ (K : Int → Option R), hbin .shr .i64 (y : Int) (IntKind.wrap .u64 (i : Int)) K = K ((y / 2 ^ i : Nat) : Int) := fun K => shr64 (by omega) K
  have s2 : ∀ (K : Int → Option R), hbin .shr .i64 (x : Int) (IntKind.wrap .u64 (i : Int)) K = K ((x / 2 ^ i : Nat) : Int) := fun K => shr64 (by omega) K
  have hmul : y / 2 ^ i * wl a i ≤ ix a x y i := Nat.le_add_right _ _
  have w1 : IntKind.wrap .i64 (IntKind.wrap .i64 (((y / 2 ^ i : Nat) : Int) * (v.w : Int)) + ((x / 2 ^ i : Nat) : Int)) = ((ix a x y i : Nat) : Int) := by
    have hix : ix a x y i = y / 2 ^ i * wl a i + x / 2 ^ i := rfl
    rw [e1, ← Int.natCast_mul]
    generalize y / 2 ^ i * wl a i = Y at hix hmul ⊢
    generalize x / 2 ^ i = X at hix ⊢
    rw [w64 (n := (Y : Int)) (by omega) (by omega), w64 (by omega) (by omega)]
    omega
  have hid2 : ∀ (K : Option Addr → Option R), hidx (some ⟨v.b, 0, none⟩) (v.w * v.h) ((ix a x y i : Nat) : Int) 3 K = K (some ⟨v.b, ix a x y i * 3, none⟩) := by
    intro K; unfold hidx; simp only; rw [if_pos ⟨by omega, by rw [e1, e2]; omega⟩, Int.toNat_natCast, Nat.zero_add]
  unfold tagtree_Tree_at tagtree_Tree_at_b
  refine go_nil (go_fad (go_l m0 ?_))
  rw [hid]
  refine go_nil (go_fad (go_l mq2 ?_))
  rw [s1]
  refine go_nil (go_fad (go_i mq0 ?_))
  rw [s2, w1, hid2]
/-- The row of the levels. -/
theorem Tn.row {N : Nat} {H : Heap} {p : Nat} {q : Option Addr} {c : Nat} {l : List Lv} {e d : Bool} {g : Nat → Nat → Nd} (T : Tn N H p q c l e d g) (hl : 1 ≤ l.length) : ∃ bq, q = some ⟨bq, 0, none⟩ ∧ Owns H bq (lcs l) 3 ∧ N ≤ bq := by
  rcases T.b with ⟨_, h2, _⟩ | ⟨b, h1, _, h3, h4, _⟩
  · omega
  · exact ⟨b, h1, h4, h3⟩
theorem Tn.at {N : Nat} {H : Heap} {p : Nat} {q : Option Addr} {c : Nat} {l : List Lv} {e d : Bool} {g : Nat → Nat → Nd} (T : Tn N H p q c l e d g) {a b x y i : Nat} (G : Geo a b l) {v : Lv} (hv : l[i]? = some v) (hx : x < a) (hy : y < b) :
    ∀ (R : Type) (K : Option Addr → Option R), tagtree_Tree_at (some ⟨p, 0, none⟩) (i : Int) (x : Int) (y : Int) H K = K (some ⟨v.b, ix a x y i * 3, none⟩) := by
  obtain ⟨bq, rfl, h1, _⟩ := T.row G.pos
  exact at_eq G T.o.sees h1.sees hv hx hy
/-- The cells of a node. -/
theorem Tn.cell {N : Nat} {H : Heap} {p : Nat} {q : Option Addr} {c : Nat} {l : List Lv} {e d : Bool} {g : Nat → Nat → Nd} (T : Tn N H p q c l e d g) {a b : Nat} (G : Geo a b l) {v : Lv} {i : Nat} (hv : l[i]? = some v) {j : Nat} (hj : j < wl a i * wl b i) {o : Nat} (ho : o < 3) : hcell H v.b (j * 3 + o) = (nd (g i j))[o]? := by
  obtain ⟨h1, _⟩ := T.n i v hv
  obtain ⟨e1, e2⟩ := G.lv i v hv
  rw [h1.sees.cell]
  exact nds_at _ (by rw [e1, e2]; exact hj) ho
/-- A tree that others left alone. -/
theorem Tn.stp {N : Nat} {H H' : Heap} {p : Nat} {q : Option Addr} {c : Nat} {l : List Lv} {e d : Bool} {g : Nat → Nat → Nd} (T : Tn N H p q c l e d g) {p2 : Nat} {q2 q2' : Option Addr} (s : Stp p2 q2 H q2' H') (h1 : p2 < N) (h2 : ∀ a, q2 = some a → a.block < N) : Tn N H' p q c l e d g := by
  refine ⟨Owns.stp s T.o (by have := T.low; omega) (fun a ha => by have := h2 a ha; have := T.low; omega), Bld.stp s T.b (fun a ha => ?_) (fun a b ha hb => ?_), T.low, T.ap, fun i v hv => ?_, T.d⟩
  · have := T.b
    rcases this with ⟨rfl, _⟩ | ⟨b, rfl, _, h3, _⟩
    · cases ha
    · cases ha; simp only; omega
  · have := h2 a ha
    rcases T.b with ⟨rfl, _⟩ | ⟨b2, rfl, _, h3, _⟩
    · cases hb
    · cases hb; simp only; omega
  · obtain ⟨g1, g2, g3, g4⟩ := T.n i v hv
    exact ⟨Owns.stp s g1 (by omega) (fun a ha => by have := h2 a ha; omega), g2, g3, g4⟩
theorem Tn.old {N M : Nat} {H H' : Heap} {p : Nat} {q : Option Addr} {c : Nat} {l : List Lv} {e d : Bool} {g : Nat → Nat → Nd} (T : Tn N H p q c l e d g) (s : Old M H H') (hM : H.length ≤ M) : Tn N H' p q c l e d g := by
  refine ⟨Owns.old T.o (s.mono hM) T.o.lt, Bld.old T.b s hM, T.low, T.ap, fun i v hv => ?_, T.d⟩
  obtain ⟨g1, g2, g3, g4⟩ := T.n i v hv
  exact ⟨Owns.old g1 (s.mono hM) g1.lt, g2, g3, g4⟩
end Go.Proofs.Ytblkejnciinaeaa.Sh
/- Tagtree: a leaf's value set and read. -/
set_option linter.unusedVariables false
set_option linter.unusedSimpArgs false
namespace Go.Proofs.Ytblkejnciinaeaa.Sh
open Go.Proofs.Ytblkejnciinaeaa.FW Go.IntWalk
def upd2 (g : Nat → Nat → Nd) (i j : Nat) (x : Nd) : Nat → Nat → Nd := fun k => if k = i then upd (g i) j x else g k
theorem upd2_at (g : Nat → Nat → Nd) (i j : Nat) (x : Nd) : upd2 g i j x i = upd (g i) j x := by unfold upd2; rw [if_pos rfl]
theorem upd2_ne (g : Nat → Nat → Nd) {i k : Nat} (j : Nat) (x : Nd) (h : k ≠ i) : upd2 g i j x k = g k := by unfold upd2; rw [if_neg h]
/-- Only the nodes change. -/
def Tc (l : List Lv) (H H' : Heap) : Prop := H.length ≤ H'.length ∧ ∀ i, i < H.length → (∀ (j : Nat) (v : Lv), l[j]? = some v → v.b ≠ i) → hblk H' i = hblk H i
theorem tc_refl (l : List Lv) (H : Heap) : Tc l H H := ⟨Nat.le_refl _, fun _ _ _ => rfl⟩
theorem tc_trans {l : List Lv} {H1 H2 H3 : Heap} (a : Tc l H1 H2) (b : Tc l H2 H3) : Tc l H1 H3 := ⟨Nat.le_trans a.1 b.1, fun i hi h => (b.2 i (Nat.lt_of_lt_of_le hi a.1) h).trans (a.2 i hi h)⟩
theorem tc_but {l : List Lv} {H H' : Heap} {i : Nat} {v : Lv} (hv : l[i]? = some v) (o : But v.b H H') : Tc l H H' := ⟨o.1, fun j hj h => o.2 j hj fun e => h i v hv e.symm⟩
theorem tc_old {l : List Lv} {H H' : Heap} (o : Old H.length H H') : Tc l H H' := ⟨o.1, fun j hj _ => o.2 j hj⟩
theorem Tn.node {N : Nat} {H H' : Heap} {p : Nat} {q : Option Addr} {c : Nat} {l : List Lv} {e d : Bool} {g : Nat → Nat → Nd} (T : Tn N H p q c l e d g) {v : Lv} {i : Nat} (hv : l[i]? = some v) {j : Nat} {x : Nd} (ho : Owns H' v.b (nds (v.w * v.h) (upd (g i) j x)) v.z) (hb : But v.b H H') : Tn N H' p q c l e d (upd2 g i j x) := by
  obtain ⟨g1, g2, g3, g4⟩ := T.n i v hv
  refine ⟨T.o.but hb (fun h => g3 h.symm), Bld.but2 T.b hb g4, T.low, T.ap, fun k u hu => ?_, T.d⟩
  obtain ⟨u1, u2, u3, u4⟩ := T.n k u hu
  by_cases hk : k = i
  · subst hk
    rw [hv] at hu; cases hu
    rw [upd2_at]
    exact ⟨ho, u2, u3, u4⟩
  · rw [upd2_ne _ _ _ hk]
    exact ⟨u1.but hb (T.d k i u v hu hv hk), u2, u3, u4⟩
theorem Tn.put1 {N : Nat} {H : Heap} {p : Nat} {q : Option Addr} {c : Nat} {l : List Lv} {e d : Bool} {g : Nat → Nat → Nd} (T : Tn N H p q c l e d g) {a b : Nat} (G : Geo a b l) {v : Lv} {i : Nat} (hv : l[i]? = some v) {j : Nat} (hj : j < wl a i * wl b i) {o : Nat} (ho : o < 3) (x : Nd) (z : Value) (hx : (nd (g i j)).set o z = nd x) :
    ∃ H', (∀ (R : Type) (K : Heap → Option R), hst1 H (some ⟨v.b, j * 3 + o, none⟩) z K = K H') ∧ Tn N H' p q c l e d (upd2 g i j x) ∧ But v.b H H' ∧ H'.length = H.length := by
  obtain ⟨g1, g2, g3, g4⟩ := T.n i v hv
  obtain ⟨e1, e2⟩ := G.lv i v hv
  obtain ⟨H', e1', O, B, n⟩ := Owns.st1 (o := j * 3 + o) g1 (by rw [nds_len, e1, e2]; omega) z
  rw [nds_set _ (by rw [e1, e2]; exact hj) ho x z hx] at O
  exact ⟨H', e1', T.node hv O B, B, n⟩
theorem Tn.put3 {N : Nat} {H : Heap} {p : Nat} {q : Option Addr} {c : Nat} {l : List Lv} {e d : Bool} {g : Nat → Nat → Nd} (T : Tn N H p q c l e d g) {a b : Nat} (G : Geo a b l) {v : Lv} {i : Nat} (hv : l[i]? = some v) {j : Nat} (hj : j < wl a i * wl b i) (x : Nd) :
    ∃ H', (∀ (R : Type) (K : Heap → Option R), hst H (some ⟨v.b, j * 3, none⟩) (nd x) K = K H') ∧ Tn N H' p q c l e d (upd2 g i j x) ∧ But v.b H H' ∧ H'.length = H.length := by
  obtain ⟨g1, g2, g3, g4⟩ := T.n i v hv
  obtain ⟨e1, e2⟩ := G.lv i v hv
  obtain ⟨H', e1', O, n, s⟩ := hst_own (o := j * 3) (vs := nd x) g1 (by rw [nds_len, e1, e2]; have : (nd x).length = 3 := rfl; omega) rfl
  rw [nds_splice _ (by rw [e1, e2]; exact hj) x] at O
  have B : But v.b H H' := ⟨by omega, fun k _ hk => s k hk⟩
  exact ⟨H', e1', T.node hv O B, B, n⟩
theorem tok_eq {N : Nat} {H : Heap} {p : Nat} {q : Option Addr} {c : Nat} {l : List Lv} {e d : Bool} {g : Nat → Nat → Nd} (T : Tn N H p q c l e d g) (hl : 1 ≤ l.length) : ∀ (R : Type) (K : Bool → Option R), tagtree_Tree_ok (some ⟨p, 0, none⟩) H K = K true := by
  intro R K
  have m0 : hcell H p 0 = some (.slice q l.length c) := T.o.sees.cell 0
  have ed : decide (((l.length : Nat) : Int) > 0) = true := decide_eq_true (by omega)
  unfold tagtree_Tree_ok tagtree_Tree_ok_b
  refine go_t rfl (go_nil (go_fad (go_l m0 ?_)))
  rw [ed]
/-- A leaf that there is. -/
def ins (a b : Nat) (x y : Int) : Bool := decide (0 ≤ x ∧ x < a ∧ 0 ≤ y ∧ y < b)
theorem Geo.lv0 {a b : Nat} {l : List Lv} (G : Geo a b l) : ∃ v, l[0]? = some v ∧ v.w = a ∧ v.h = b := by
  have := G.pos
  obtain ⟨v, hv⟩ : ∃ v, l[0]? = some v := ⟨l[0], List.getElem?_eq_getElem (by omega)⟩
  have := G.lv 0 v hv
  rw [wl_zero G.a1, wl_zero G.b1] at this
  exact ⟨v, hv, this⟩
theorem has_eq {N : Nat} {H : Heap} {p : Nat} {q : Option Addr} {c : Nat} {l : List Lv} {e d : Bool} {g : Nat → Nat → Nd} (T : Tn N H p q c l e d g) {a b : Nat} (G : Geo a b l) (x y : Int) :
    ∃ H', (∀ (R : Type) (K : Bool → Heap → Option R), tagtree_Tree_has (some ⟨p, 0, none⟩) x y H K = K (ins a b x y) H') ∧ Old H.length H H' := by
  obtain ⟨v, hv, e1, e2⟩ := G.lv0
  obtain ⟨bq, rfl, hq, _⟩ := T.row G.pos
  have hpos := G.pos
  have m0 : hcell H p 0 = some (.slice (some ⟨bq, 0, none⟩) l.length c) := T.o.sees.cell 0
  have mq : ∀ j, j < 3 → hcell H bq (0 * 3 + j) = (lvc v)[j]? := fun j hj => by rw [hq.sees.cell]; exact fm3 lvc (fun _ => rfl) l 0 v hv j hj
  have q0 : hcell H bq (0 + 0) = some (.int .i64 (a : Int)) := by rw [← e1]; exact mq 0 (by omega)
  have q1 : hcell H bq (0 + 1) = some (.int .i64 (b : Int)) := by rw [← e2]; exact mq 1 (by omega)
  have q2 : hcell H bq (0 + 2) = some (.slice (some ⟨v.b, 0, none⟩) (v.w * v.h) v.c) := mq 2 (by omega)
  have hid : ∀ (R : Type) (K : Option Addr → Option R), hidx (some ⟨bq, 0, none⟩) l.length 0 3 K = K (some ⟨bq, 0, none⟩) := by
    intro R K; unfold hidx; simp only; rw [if_pos ⟨by omega, by omega⟩]; rfl
  obtain ⟨Hn, hHn⟩ : ∃ Hn, Hn = H ++ [some (⟨[.int .i64 (a : Int), .int .i64 (b : Int), .slice (some ⟨v.b, 0, none⟩) (v.w * v.h) v.c], false, 0⟩ : Blk)] := ⟨_, rfl⟩
  have m : ∀ i, hcell Hn H.length i = [Value.int .i64 (a : Int), .int .i64 (b : Int), .slice (some ⟨v.b, 0, none⟩) (v.w * v.h) v.c][i]? := fun i => by rw [hHn]; exact hcell_new _ _ _
  refine ⟨Hn, fun R K => ?_, hHn ▸ Old.app _ _⟩
  unfold tagtree_Tree_has tagtree_Tree_has_b ins
  refine go_nil (go_fad (go_l m0 ((hid _ _).trans (go_ip q0 (go_ip q1 (go_lp q2 (go_halst hHn rfl rfl ?_)))))))
  by_cases c1 : x ≥ 0
  · by_cases c2 : y ≥ 0
    · refine go_t (decide_eq_true c1) (go_t (decide_eq_true c2) (go_fad (go_i (m 0) ?_)))
      by_cases c3 : x < (a : Int)
      · refine go_t (decide_eq_true c3) (go_fad (go_i (m 1) ?_))
        congr 1
        exact decide_eq_decide.2 ⟨fun h => ⟨c1, c3, c2, h⟩, fun h => h.2.2.2⟩
      · refine go_f (decide_eq_false c3) ?_
        rw [decide_eq_false (fun h => c3 h.2.1)]
    · refine go_t (decide_eq_true c1) (go_f (decide_eq_false c2) ?_)
      rw [decide_eq_false (fun h => c2 h.2.2.1)]
  · refine go_f (decide_eq_false c1) ?_
    rw [decide_eq_false (fun h => c1 h.1)]
/-- The error of setting a value. -/
def setE (a b : Nat) (e d : Bool) (x y v : Int) : Int := if e = true ∨ d = true then 6 else if ins a b x y = true ∧ 0 ≤ v ∧ v ≤ 65535 then 0 else 2
def setG (a : Nat) (x y v : Int) (g : Nat → Nat → Nd) : Nat → Nat → Nd := upd2 g 0 (ix a x.toNat y.toNat 0) (v, (g 0 (ix a x.toNat y.toNat 0)).2)
def setT (a b : Nat) (e d : Bool) (x y v : Int) (g : Nat → Nat → Nd) : Nat → Nat → Nd := if setE a b e d x y v = 0 then setG a x y v g else g
theorem ins_t {a b : Nat} {x y : Int} (h : ins a b x y = true) : ∃ u w : Nat, x = u ∧ y = w ∧ u < a ∧ w < b := by
  have := of_decide_eq_true h
  exact ⟨x.toNat, y.toNat, by omega, by omega, by omega, by omega⟩
theorem Set_eq {k : Nat} {N : Nat} {H : Heap} {p : Nat} {q : Option Addr} {c : Nat} {l : List Lv} {e d : Bool} {g : Nat → Nat → Nd} (T : Tn N H p q c l e d g) {a b : Nat} (G : Geo a b l) (x y v : Int) :
    ∃ H', (∀ (R : Type) (K : Int → Heap → Option R), tagtree_Tree_Set k (some ⟨p, 0, none⟩) x y v H K = K (setE a b e d x y v) H') ∧ Tn N H' p q c l e d (setT a b e d x y v g) ∧ Tc l H H' := by
  have ok := tok_eq T G.pos
  have m1 : hcell H p 1 = some (.bool e) := T.o.sees.cell 1
  have m2 : hcell H p 2 = some (.bool d) := T.o.sees.cell 2
  unfold setT
  have stop : (e = true ∨ d = true) → setE a b e d x y v = 6 ∧ ∀ (R : Type) (K : Int → Heap → Option R), tagtree_Tree_Set k (some ⟨p, 0, none⟩) x y v H K = K 6 H := by
    intro hs
    refine ⟨if_pos hs, fun R K => ?_⟩
    unfold tagtree_Tree_Set tagtree_Tree_Set_b tagtree_Tree_Set_p0 tagtree_Tree_Set_p0_b
    refine (ok _ _).trans (go_f rfl (go_nil (go_fad (go_b m1 ?_))))
    cases e
    · refine go_f rfl (go_nil (go_fad (go_b m2 ?_)))
      exact go_t (by simpa using hs) rfl
    · exact go_t rfl rfl
  by_cases hs : e = true ∨ d = true
  · obtain ⟨s1, s2⟩ := stop hs
    rw [s1]
    exact ⟨H, s2, by rw [if_neg (by omega)]; exact T, tc_refl _ _⟩
  have he : e = false := by cases e <;> simp_all
  have hd : d = false := by cases d <;> simp_all
  obtain ⟨H1, h1, o1⟩ := has_eq T G x y
  have T1 := T.old o1 (Nat.le_refl _)
  have start : ∀ (R : Type) (K : Int → Heap → Option R) (r : Option R), (bif !(ins a b x y) then K 2 H1 else bif decide (v < 0) then K 2 H1 else bif decide (v > 65535) then K 2 H1 else tagtree_Tree_at (some ⟨p, 0, none⟩) 0 x y H1 fun p181 => hnil p181 fun p182 => hfad 0 p182 fun p183 => hst1 H1 p183 (.int .i64 v) fun H184 => K 0 H184) = r → tagtree_Tree_Set k (some ⟨p, 0, none⟩) x y v H K = r := by
    intro R K r h
    unfold tagtree_Tree_Set tagtree_Tree_Set_b tagtree_Tree_Set_p0 tagtree_Tree_Set_p0_b tagtree_Tree_Set_p1 tagtree_Tree_Set_p1_b
    refine (ok _ _).trans (go_f rfl (go_nil (go_fad (go_b m1 (go_f he (go_nil (go_fad (go_b m2 (go_f hd ((h1 _ _).trans h))))))))))
  by_cases hg : ins a b x y = true ∧ 0 ≤ v ∧ v ≤ 65535
  · have hE : setE a b e d x y v = 0 := by unfold setE; rw [if_neg hs, if_pos hg]
    obtain ⟨hi, hv0, hv1⟩ := hg
    obtain ⟨u, w, rfl, rfl, hu, hw⟩ := ins_t hi
    obtain ⟨v0, hl0, e1, e2⟩ := G.lv0
    have hj := ix_lt hu hw 0
    obtain ⟨H2, e3, T2, B2, n2⟩ := T1.put1 G hl0 hj (o := 0) (by omega) (v, (g 0 (ix a u w 0)).2) (.int .i64 v) rfl
    refine ⟨H2, fun R K => start R K _ ?_, ?_, tc_trans (tc_old o1) (tc_but hl0 B2)⟩
    · rw [hE, hi]
      refine go_f rfl (go_f (decide_eq_false (by omega)) (go_f (decide_eq_false (by omega)) ?_))
      refine (T1.at G hl0 hu hw _ _).trans (go_nil (go_fad (e3 _ _)))
    · rw [if_pos hE]; exact T2
  · have hE : setE a b e d x y v = 2 := by unfold setE; rw [if_neg hs, if_neg hg]
    rw [hE]
    refine ⟨H1, fun R K => start R K _ ?_, by rw [if_neg (by omega)]; exact T1, tc_old o1⟩
    cases hi : ins a b x y
    · rfl
    · refine go_f rfl ?_
      by_cases h0 : v < 0
      · exact go_t (decide_eq_true h0) rfl
      · exact go_f (decide_eq_false h0) (go_t (decide_eq_true (by rw [hi] at hg; simp at hg; omega)) rfl)
/-- The value that is known. -/
def valR (a b : Nat) (x y : Int) (g : Nat → Nat → Nd) : Int × Bool := if ins a b x y = true ∧ (g 0 (ix a x.toNat y.toNat 0)).2.2 = true then ((g 0 (ix a x.toNat y.toNat 0)).2.1, true) else (0, false)
theorem Value_eq {k : Nat} {N : Nat} {H : Heap} {p : Nat} {q : Option Addr} {c : Nat} {l : List Lv} {e d : Bool} {g : Nat → Nat → Nd} (T : Tn N H p q c l e d g) {a b : Nat} (G : Geo a b l) (x y : Int) :
    ∃ H', (∀ (R : Type) (K : Int → Bool → Heap → Option R), tagtree_Tree_Value k (some ⟨p, 0, none⟩) x y H K = K (valR a b x y g).1 (valR a b x y g).2 H') ∧ Old H.length H H' := by
  have ok := tok_eq T G.pos
  obtain ⟨H1, h1, o1⟩ := has_eq T G x y
  have T1 := T.old o1 (Nat.le_refl _)
  refine ⟨H1, fun R K => ?_, o1⟩
  unfold tagtree_Tree_Value tagtree_Tree_Value_b tagtree_Tree_Value_p0 tagtree_Tree_Value_p0_b
  refine (ok _ _).trans (go_f rfl ((h1 _ _).trans ?_))
  unfold valR
  cases hi : ins a b x y
  · rw [if_neg (by simp)]; rfl
  · obtain ⟨u, w, rfl, rfl, hu, hw⟩ := ins_t hi
    obtain ⟨v0, hl0, e1, e2⟩ := G.lv0
    have hj := ix_lt hu hw 0
    have ha : ∀ (R : Type) (K : Option Addr → Option R), tagtree_Tree_at (some ⟨p, 0, none⟩) 0 (u : Int) (w : Int) H1 K = K (some ⟨v0.b, ix a u w 0 * 3, none⟩) := T1.at G hl0 hu hw
    have n1 : hcell H1 v0.b (ix a u w 0 * 3 + 1) = some (.int .i64 (g 0 (ix a u w 0)).2.1) := T1.cell G hl0 hj (o := 1) (by omega)
    have n2 : hcell H1 v0.b (ix a u w 0 * 3 + 2) = some (.bool (g 0 (ix a u w 0)).2.2) := T1.cell G hl0 hj (o := 2) (by omega)
    refine go_f rfl ((ha _ _).trans (go_nil (go_fad (go_b n2 ?_))))
    rw [Int.toNat_natCast, Int.toNat_natCast]
    cases hk : (g 0 (ix a u w 0)).2.2
    · rw [if_neg (by simp)]; rfl
    · rw [if_pos ⟨rfl, rfl⟩]
      refine go_f rfl ((ha _ _).trans (go_nil (go_fad (go_i n1 rfl))))
end Go.Proofs.Ytblkejnciinaeaa.Sh
/- Tagtree: the minima. -/
set_option linter.unusedVariables false
set_option linter.unusedSimpArgs false
namespace Go.Proofs.Ytblkejnciinaeaa.Sh
open Go.Proofs.Ytblkejnciinaeaa.FW Go.IntWalk
def lset (g : Nat → Nat → Nd) (i : Nat) (f : Nat → Nd) : Nat → Nat → Nd := fun k => if k = i then f else g k
theorem lset_at (g : Nat → Nat → Nd) (i : Nat) (f : Nat → Nd) : lset g i f i = f := by unfold lset; rw [if_pos rfl]
theorem lset_ne (g : Nat → Nat → Nd) {i k : Nat} (f : Nat → Nd) (h : k ≠ i) : lset g i f k = g k := by unfold lset; rw [if_neg h]
theorem upd2_lset (g : Nat → Nat → Nd) (i j : Nat) (f : Nat → Nd) (x : Nd) : upd2 (lset g i f) i j x = lset g i (upd f j x) := by
  funext k
  by_cases h : k = i
  · subst h; rw [upd2_at, lset_at, lset_at]
  · rw [upd2_ne _ _ _ h, lset_ne _ _ h, lset_ne _ _ h]
theorem lset_self (g : Nat → Nat → Nd) (i : Nat) : lset g i (g i) = g := by
  funext k; unfold lset; split
  · rename_i h; rw [h]
  · rfl
def par (w w' k : Nat) : Nat := k / w / 2 * w' + k % w / 2
def mst (w w' : Nat) (fb : Nat → Nd) : Nat → (Nat → Nd) → Nat → Nd
  | 0, f => f
  | k + 1, f => upd (mst w w' fb k f) (par w w' k) (min (mst w w' fb k f (par w w' k)).1 (fb k).1, (mst w w' fb k f (par w w' k)).2)
def rsl (n : Nat) (f : Nat → Nd) : Nat → Nd := fun j => if j < n then (65535, (f j).2) else f j
def mlf (a b i : Nat) (g : Nat → Nat → Nd) : Nat → Nd := mst (wl a (i - 1)) (wl a i) (g (i - 1)) (wl a (i - 1) * wl b (i - 1)) (rsl (wl a i * wl b i) (g i))
def mins (a b : Nat) : Nat → Nat → (Nat → Nat → Nd) → Nat → Nat → Nd
  | 0, _, g => g
  | m + 1, i, g => mins a b m (i + 1) (lset g i (mlf a b i g))
theorem rsl_succ (j : Nat) (f : Nat → Nd) : upd (rsl j f) j (65535, (f j).2) = rsl (j + 1) f := by
  funext k
  unfold upd rsl
  by_cases h : k = j
  · subst h; rw [if_pos rfl, if_pos (by omega)]
  · rw [if_neg h]
    by_cases h2 : k < j
    · rw [if_pos h2, if_pos (by omega)]
    · rw [if_neg h2, if_neg (by omega)]
theorem wl_half (a i : Nat) : (wl a i - 1) / 2 + 1 = wl a (i + 1) := by
  unfold wl
  rw [Nat.add_sub_cancel, Nat.div_div_eq_div_mul, Nat.pow_succ]
theorem par_lt {a b i k : Nat} (hk : k < wl a i * wl b i) : par (wl a i) (wl a (i + 1)) k < wl a (i + 1) * wl b (i + 1) := by
  have h1 := wl_pos a i
  have h2 : k / wl a i < wl b i := Nat.div_lt_of_lt_mul hk
  have h3 : k % wl a i < wl a i := Nat.mod_lt _ h1
  have h4 := wl_half a i
  have h5 := wl_half b i
  have h6 : k / wl a i / 2 + 1 ≤ wl b (i + 1) := by omega
  have h7 : k % wl a i / 2 < wl a (i + 1) := by omega
  have := Nat.mul_le_mul_right (wl a (i + 1)) h6
  unfold par
  rw [Nat.add_mul] at this
  rw [Nat.mul_comm (wl a (i + 1))]; omega
theorem Tn.lvl {N : Nat} {H : Heap} {p bq : Nat} {c : Nat} {l : List Lv} {e d : Bool} {g : Nat → Nat → Nd} (T : Tn N H p (some ⟨bq, 0, none⟩) c l e d g) (hl : 1 ≤ l.length) {i : Nat} {v : Lv} (hv : l[i]? = some v) {j : Nat} (hj : j < 3) : hcell H bq (i * 3 + j) = (lvc v)[j]? := by
  obtain ⟨bq2, h, h1, _⟩ := T.row hl
  cases h
  rw [h1.sees.cell]
  exact fm3 lvc (fun _ => rfl) l i v hv j hj
theorem quo_eq {k w : Nat} (hk : k ≤ 65536) (hw : 1 ≤ w) (R : Type) (K : Int → Option R) : hbin .quo .i64 (k : Int) (w : Int) K = K ((k / w : Nat) : Int) := by
  have : k / w ≤ k := Nat.div_le_self _ _
  simp only [hbin]
  rw [if_neg (by omega), show Int.tdiv (k : Int) (w : Int) = ((k / w : Nat) : Int) from rfl]
  generalize k / w = d at this ⊢
  rw [w64 (by omega) (by omega)]
theorem rem_eq {k w : Nat} (hw : 1 ≤ w) (R : Type) (K : Int → Option R) : hbin .rem .i64 (k : Int) (w : Int) K = K ((k % w : Nat) : Int) := by
  simp only [hbin]
  rw [if_neg (by omega), show Int.tmod (k : Int) (w : Int) = ((k % w : Nat) : Int) from rfl]
theorem hidx3 {b n i : Nat} (hi : i < n) (R : Type) (K : Option Addr → Option R) : hidx (some ⟨b, 0, none⟩) n (i : Int) 3 K = K (some ⟨b, i * 3, none⟩) := by
  unfold hidx; simp only; rw [if_pos ⟨by omega, by omega⟩, Int.toNat_natCast, Nat.zero_add]
theorem min_l1 (k : Nat) {N p bq : Nat} {c : Nat} {l : List Lv} {e d : Bool} {g : Nat → Nat → Nd} {a b : Nat} (G : Geo a b l) {i : Nat} {v : Lv} (hv : l[i]? = some v) (pb : Option Addr) :
    ∀ (m n j : Nat), m < n → wl a i * wl b i = j + m → ∀ (H : Heap), N ≤ H.length → Tn N H p (some ⟨bq, 0, none⟩) c l e d (lset g i (rsl j (g i))) →
    ∃ H', (∀ (R : Type) (KE : Option Addr → Int → Option Addr → Option Addr → Heap → Option R), tagtree_Tree_minima_l1 k KE n (some ⟨p, 0, none⟩) (i : Int) pb (some ⟨bq, i * 3, none⟩) ((v.w * v.h : Nat) : Int) (j : Int) H = KE (some ⟨p, 0, none⟩) (i : Int) pb (some ⟨bq, i * 3, none⟩) H') ∧ Tn N H' p (some ⟨bq, 0, none⟩) c l e d (lset g i (rsl (wl a i * wl b i) (g i))) ∧ Tc l H H' := by
  obtain ⟨e1, e2⟩ := G.lv i v hv
  have hwh := G.wh i
  intro m
  induction m with
  | zero =>
    intro n j hn hj H hN T
    obtain ⟨n, rfl⟩ : ∃ n', n = n' + 1 := ⟨n - 1, by omega⟩
    have hj' : j = wl a i * wl b i := by omega
    subst hj'
    refine ⟨H, fun R KE => ?_, T, tc_refl _ _⟩
    unfold tagtree_Tree_minima_l1 tagtree_Tree_minima_l1_b
    exact go_f (decide_eq_false (by rw [e1, e2]; omega)) rfl
  | succ m ih =>
    intro n j hn hj H hN T
    obtain ⟨n, rfl⟩ : ∃ n', n = n' + 1 := ⟨n - 1, by omega⟩
    obtain ⟨H2, e3, T2, B2, n2⟩ := T.put1 G hv (j := j) (by omega) (o := 0) (by omega) (65535, (g i j).2) (.int .i64 65535) (by
      rw [lset_at]; unfold rsl; rw [if_neg (by omega)]; rfl)
    rw [upd2_lset, rsl_succ] at T2
    have o2 : Tc l H H2 := tc_but hv B2
    obtain ⟨H3, e4, T3, o3⟩ := ih n (j + 1) (by omega) (by omega) H2 (by have := o2.1; omega) T2
    refine ⟨H3, fun R KE => ?_, T3, tc_trans o2 o3⟩
    have mq : hcell H bq (i * 3 + 2) = some (.slice (some ⟨v.b, 0, none⟩) (v.w * v.h) v.c) := T.lvl G.pos hv (j := 2) (by omega)
    unfold tagtree_Tree_minima_l1 tagtree_Tree_minima_l1_b
    refine go_t (decide_eq_true (by rw [e1, e2]; omega)) (go_nil (go_fad (go_l mq ?_)))
    refine (hidx3 (by rw [e1, e2]; omega) _ _).trans (go_fad ((e3 _ _).trans ?_))
    rw [w64 (n := (j : Int) + 1) (by omega) (by omega)]
    exact e4 R KE
theorem min_l2 (k : Nat) {N p bq : Nat} {c : Nat} {l : List Lv} {e d : Bool} {g : Nat → Nat → Nd} {a b : Nat} (G : Geo a b l) {i : Nat} {v u : Lv} (hv : l[i + 1]? = some v) (hu : l[i]? = some u) (cc : Nat) (f0 : Nat → Nd) :
    ∀ (m n j : Nat), m < n → wl a i * wl b i = j + m → ∀ (H : Heap), N ≤ H.length → Tn N H p (some ⟨bq, 0, none⟩) c l e d (lset g (i + 1) (mst (wl a i) (wl a (i + 1)) (g i) j f0)) →
    ∃ H', (∀ (R : Type) (KE : Option Addr → Int → Heap → Option R), tagtree_Tree_minima_l2 k KE n (some ⟨p, 0, none⟩) ((i + 1 : Nat) : Int) (some ⟨bq, i * 3, none⟩) (some ⟨bq, (i + 1) * 3, none⟩) (some ⟨u.b, 0, none⟩) (u.w * u.h) cc ((u.w * u.h : Nat) : Int) (j : Int) H = KE (some ⟨p, 0, none⟩) ((i + 1 : Nat) : Int) H') ∧ Tn N H' p (some ⟨bq, 0, none⟩) c l e d (lset g (i + 1) (mst (wl a i) (wl a (i + 1)) (g i) (wl a i * wl b i) f0)) ∧ Tc l H H' := by
  obtain ⟨e1, e2⟩ := G.lv (i + 1) v hv
  obtain ⟨u1, u2⟩ := G.lv i u hu
  have hwh := G.wh i
  have hwh1 := G.wh (i + 1)
  intro m
  induction m with
  | zero =>
    intro n j hn hj H hN T
    obtain ⟨n, rfl⟩ : ∃ n', n = n' + 1 := ⟨n - 1, by omega⟩
    have hj' : j = wl a i * wl b i := by omega
    subst hj'
    refine ⟨H, fun R KE => ?_, T, tc_refl _ _⟩
    unfold tagtree_Tree_minima_l2 tagtree_Tree_minima_l2_b
    exact go_f (decide_eq_false (by rw [u1, u2]; omega)) rfl
  | succ m ih =>
    intro n j hn hj H hN T
    obtain ⟨n, rfl⟩ : ∃ n', n = n' + 1 := ⟨n - 1, by omega⟩
    have hjl : j < wl a i * wl b i := by omega
    have hp := par_lt hjl
    obtain ⟨F, hF⟩ : ∃ F, F = mst (wl a i) (wl a (i + 1)) (g i) j f0 := ⟨_, rfl⟩
    have hF1 : mst (wl a i) (wl a (i + 1)) (g i) (j + 1) f0 = upd F (par (wl a i) (wl a (i + 1)) j) (min (F (par (wl a i) (wl a (i + 1)) j)).1 (g i j).1, (F (par (wl a i) (wl a (i + 1)) j)).2) := by rw [hF]; rfl
    rw [← hF] at T
    obtain ⟨P, hP⟩ : ∃ P, P = par (wl a i) (wl a (i + 1)) j := ⟨_, rfl⟩
    rw [← hP] at hp hF1
    have r0 : hcell H u.b (j * 3 + 0) = some (.int .i64 (g i j).1) := by have := T.cell G hu hjl (o := 0) (by omega); rw [lset_ne _ _ (by omega)] at this; exact this
    have r1 : hcell H u.b (j * 3 + 1) = some (.int .i64 (g i j).2.1) := by have := T.cell G hu hjl (o := 1) (by omega); rw [lset_ne _ _ (by omega)] at this; exact this
    have r2 : hcell H u.b (j * 3 + 2) = some (.bool (g i j).2.2) := by have := T.cell G hu hjl (o := 2) (by omega); rw [lset_ne _ _ (by omega)] at this; exact this
    obtain ⟨Hn, hHn⟩ : ∃ Hn, Hn = H ++ [some (⟨[.int .i64 (g i j).1, .int .i64 (g i j).2.1, .bool (g i j).2.2], false, 0⟩ : Blk)] := ⟨_, rfl⟩
    have mn : hcell Hn H.length 0 = some (.int .i64 (g i j).1) := by rw [hHn]; exact hcell_new _ _ _
    have o1 : Old H.length H Hn := hHn ▸ Old.app _ _
    have T1 := T.old o1 (Nat.le_refl _)
    have q2 : hcell Hn bq ((i + 1) * 3 + 2) = some (.slice (some ⟨v.b, 0, none⟩) (v.w * v.h) v.c) := T1.lvl G.pos hv (j := 2) (by omega)
    have q0 : hcell Hn bq ((i + 1) * 3 + 0) = some (.int .i64 (v.w : Int)) := T1.lvl G.pos hv (j := 0) (by omega)
    have q0' : hcell Hn bq (i * 3 + 0) = some (.int .i64 (u.w : Int)) := T1.lvl G.pos hu (j := 0) (by omega)
    have rp : hcell Hn v.b (P * 3 + 0) = some (.int .i64 (F P).1) := by have := T1.cell G hv hp (o := 0) (by omega); rw [lset_at] at this; exact this
    obtain ⟨H2, e3, T2, B2, n2⟩ := T1.put1 G hv hp (o := 0) (by omega) (min (F P).1 (g i j).1, (F P).2) (.int .i64 (imn (F P).1 (g i j).1)) (by
      rw [lset_at]; unfold imn nd; simp only [List.set]; congr 2; rw [Int.min_def]; split <;> split <;> omega)
    rw [upd2_lset, ← hF1] at T2
    have o2 : Tc l Hn H2 := tc_but hv B2
    obtain ⟨H3, e4, T3, o3⟩ := ih n (j + 1) (by omega) (by omega) H2 (by have := o2.1; have := o1.1; omega) T2
    refine ⟨H3, fun R KE => ?_, T3, tc_trans (tc_old o1) (tc_trans o2 o3)⟩
    have hwi := wl_pos a i
    have hpar : P = j / wl a i / 2 * wl a (i + 1) + j % wl a i / 2 := hP
    have hw : IntKind.wrap .i64 (IntKind.wrap .i64 (IntKind.wrap .i64 (Int.tdiv ((j / wl a i : Nat) : Int) 2) * ((wl a (i + 1) : Nat) : Int)) + IntKind.wrap .i64 (Int.tdiv ((j % wl a i : Nat) : Int) 2)) = ((P : Nat) : Int) := by
      have h1 : Int.tdiv ((j / wl a i : Nat) : Int) 2 = ((j / wl a i / 2 : Nat) : Int) := rfl
      have h2 : Int.tdiv ((j % wl a i : Nat) : Int) 2 = ((j % wl a i / 2 : Nat) : Int) := rfl
      have h3 : j / wl a i ≤ j := Nat.div_le_self _ _
      have h4 : j % wl a i ≤ j := Nat.mod_le _ _
      rw [h1, h2]
      generalize j / wl a i = A at h3 hpar ⊢
      generalize j % wl a i = B at h4 hpar ⊢
      rw [w64 (n := ((A / 2 : Nat) : Int)) (by omega) (by omega), w64 (n := ((B / 2 : Nat) : Int)) (by omega) (by omega), ← Int.natCast_mul]
      generalize A / 2 * wl a (i + 1) = M at hpar ⊢
      rw [w64 (n := (M : Int)) (by omega) (by omega), w64 (by omega) (by omega)]
      omega
    unfold tagtree_Tree_minima_l2 tagtree_Tree_minima_l2_b
    refine go_t (decide_eq_true (by rw [u1, u2]; omega)) ((hidx3 (by rw [u1, u2]; omega) _ _).trans (go_ip r0 (go_ip r1 (go_bp r2 (go_halst hHn rfl rfl ?_)))))
    refine go_nil (go_fad (go_l q2 (go_nil (go_fad (go_i q0' ?_)))))
    rw [u1]
    refine (quo_eq (by omega) hwi _ _).trans (go_nil (go_fad (go_i q0 (go_nil (go_fad (go_i q0' ?_))))))
    rw [u1]
    refine (rem_eq hwi _ _).trans ?_
    rw [e1, hw]
    refine (hidx3 (by rw [e2]; omega) _ _).trans (go_nil (go_fad (go_i rp (go_fad (go_i mn (go_nil (go_fad ((e3 _ _).trans ?_))))))))
    rw [w64 (n := (j : Int) + 1) (by omega) (by omega), ← u1]
    exact e4 R KE
theorem lset_lset (g : Nat → Nat → Nd) (i : Nat) (f f' : Nat → Nd) : lset (lset g i f) i f' = lset g i f' := by
  funext k; unfold lset; split <;> rfl
theorem min_l0 {k : Nat} (hk : 70000 < k) {N p bq : Nat} {c : Nat} {l : List Lv} {e d : Bool} {a b : Nat} (G : Geo a b l) :
    ∀ (m n i : Nat), m < n → l.length = i + 1 + m → ∀ (H : Heap) (g : Nat → Nat → Nd), N ≤ H.length → Tn N H p (some ⟨bq, 0, none⟩) c l e d g →
    ∃ H', (∀ (R : Type) (KE : Heap → Option R), tagtree_Tree_minima_l0 k KE n (some ⟨p, 0, none⟩) ((i + 1 : Nat) : Int) H = KE H') ∧ Tn N H' p (some ⟨bq, 0, none⟩) c l e d (mins a b m (i + 1) g) ∧ Tc l H H' := by
  intro m
  have hlen := G.len
  induction m with
  | zero =>
    intro n i hn hi H g hN T
    obtain ⟨n, rfl⟩ : ∃ n', n = n' + 1 := ⟨n - 1, by omega⟩
    have m0 : hcell H p 0 = some (.slice (some ⟨bq, 0, none⟩) l.length c) := T.o.sees.cell 0
    refine ⟨H, fun R KE => ?_, T, tc_refl _ _⟩
    unfold tagtree_Tree_minima_l0 tagtree_Tree_minima_l0_b
    exact go_nil (go_fad (go_l m0 (go_f (decide_eq_false (by omega)) rfl)))
  | succ m ih =>
    intro n i hn hi H g hN T
    obtain ⟨n, rfl⟩ : ∃ n', n = n' + 1 := ⟨n - 1, by omega⟩
    obtain ⟨u, hu⟩ : ∃ u, l[i]? = some u := ⟨_, List.getElem?_eq_getElem (by omega)⟩
    obtain ⟨v, hv⟩ : ∃ v, l[i + 1]? = some v := ⟨_, List.getElem?_eq_getElem (by omega)⟩
    have hwh := G.wh i
    have hwh1 := G.wh (i + 1)
    have r0 : rsl 0 (g (i + 1)) = g (i + 1) := by funext j; unfold rsl; rw [if_neg (by omega)]
    obtain ⟨H1, e1, T1, o1⟩ := min_l1 k (g := g) G hv (some ⟨bq, i * 3, none⟩) (wl a (i + 1) * wl b (i + 1)) k 0 (by omega) (by omega) H hN (by rw [r0, lset_self]; exact T)
    obtain ⟨H2, e2, T2, o2⟩ := min_l2 k (g := g) G hv hu u.c (rsl (wl a (i + 1) * wl b (i + 1)) (g (i + 1))) (wl a i * wl b i) k 0 (by omega) (by omega) H1 (by have := o1.1; omega) T1
    obtain ⟨H3, e3, T3, o3⟩ := ih n (i + 1) (by omega) (by omega) H2 _ (by have := o1.1; have := o2.1; omega) T2
    refine ⟨H3, fun R KE => ?_, T3, tc_trans o1 (tc_trans o2 o3)⟩
    have m0 : hcell H p 0 = some (.slice (some ⟨bq, 0, none⟩) l.length c) := T.o.sees.cell 0
    have q2 : hcell H bq ((i + 1) * 3 + 2) = some (.slice (some ⟨v.b, 0, none⟩) (v.w * v.h) v.c) := T.lvl G.pos hv (j := 2) (by omega)
    have q2' : hcell H1 bq (i * 3 + 2) = some (.slice (some ⟨u.b, 0, none⟩) (u.w * u.h) u.c) := T1.lvl G.pos hu (j := 2) (by omega)
    have w1 : IntKind.wrap .i64 (((i + 1 : Nat) : Int) - 1) = (i : Int) := by rw [w64 (by omega) (by omega)]; omega
    have w2 : IntKind.wrap .i64 (((i + 1 : Nat) : Int) + 1) = ((i + 1 + 1 : Nat) : Int) := by rw [w64 (by omega) (by omega)]; omega
    unfold tagtree_Tree_minima_l0 tagtree_Tree_minima_l0_b
    refine go_nil (go_fad (go_l m0 (go_t (decide_eq_true (by omega)) (go_nil (go_fad (go_l m0 ?_))))))
    rw [w1]
    refine (hidx3 (by omega) _ _).trans (go_nil (go_fad (go_l m0 ((hidx3 (by omega) _ _).trans (go_nil (go_fad (go_l q2 ?_)))))))
    refine (e1 _ _).trans (go_nil (go_fad (go_l q2' ((e2 _ _).trans ?_))))
    rw [w2]
    exact e3 R KE
theorem minima_eq {k : Nat} (hk : 70000 < k) {N p : Nat} {q : Option Addr} {c : Nat} {l : List Lv} {e d : Bool} {a b : Nat} (G : Geo a b l) {H : Heap} {g : Nat → Nat → Nd} (hN : N ≤ H.length) (T : Tn N H p q c l e d g) :
    ∃ H', (∀ (R : Type) (K : Heap → Option R), tagtree_Tree_minima k (some ⟨p, 0, none⟩) H K = K H') ∧ Tn N H' p q c l e d (mins a b (l.length - 1) 1 g) ∧ Tc l H H' := by
  obtain ⟨bq, rfl, _, _⟩ := T.row G.pos
  have := G.pos
  have := G.len
  obtain ⟨H', e1, T1, o1⟩ := min_l0 hk G (l.length - 1) k 0 (by omega) (by omega) H g hN T
  refine ⟨H', fun R K => ?_, T1, o1⟩
  unfold tagtree_Tree_minima tagtree_Tree_minima_b
  exact e1 _ _
end Go.Proofs.Ytblkejnciinaeaa.Sh
/- Tagtree: the walk, what it comes to; devices that give bits. -/
set_option linter.unusedVariables false
set_option linter.unusedSimpArgs false
namespace Go.Proofs.Ytblkejnciinaeaa.FW
theorem Owns.same {H H' : Heap} {b sz : Nat} {cs : List Value} (h : Owns H b cs sz) (e : hblk H' b = hblk H b) : Owns H' b cs sz := by
  unfold Owns at *; rw [e]; exact h
theorem Bld.same {N sz l c : Nat} {H H' : Heap} {q : Option Addr} {cs : List Value} (h : Bld N sz H q l c cs) (e : ∀ a, q = some a → hblk H' a.block = hblk H a.block) : Bld N sz H' q l c cs := by
  rcases h with h | ⟨b, rfl, h2, h3, h4, h5⟩
  · exact .inl h
  · exact .inr ⟨b, rfl, h2, h3, h4.same (e _ rfl), h5⟩
end Go.Proofs.Ytblkejnciinaeaa.FW
namespace Go.Proofs.Ytblkejnciinaeaa.Sh
open Go.Proofs.Ytblkejnciinaeaa.FW Go.IntWalk
/-- A device: the bit for a node, the error, what the device is then. -/
abbrev Cod (S : Type) := S → Nd → (Int × Int) × S
def nlp {S : Type} (code : Cod S) : Nat → S → Nd → Int × S × Nd
  | 0, s, n => (0, s, n)
  | m + 1, s, n => if n.2.2 = true then (0, s, n)
    else if (code s n).1.2 ≠ 0 then ((code s n).1.2, (code s n).2, n)
    else if (code s n).1.1 = 1 then (0, (code s n).2, n.1, n.2.1, true)
    else nlp code m (code s n).2 (n.1, n.2.1 + 1, n.2.2)
def nl {S : Type} (code : Cod S) (t : Int) (s : S) (n : Nd) : Int × S × Nd := nlp code (t - n.2.1).toNat s n
def wk {S : Type} (code : Cod S) (t : Int) (f : Nat → Nd) : Nat → Int → S → (Nat → Nd) → Int × S × (Nat → Nd)
  | 0, _, s, pf => (0, s, pf)
  | i + 1, low, s, pf => if (nl code t s ((f i).1, imx (f i).2.1 low, (f i).2.2)).1 ≠ 0 then ((nl code t s ((f i).1, imx (f i).2.1 low, (f i).2.2)).1, (nl code t s ((f i).1, imx (f i).2.1 low, (f i).2.2)).2.1, pf)
    else wk code t f i (nl code t s ((f i).1, imx (f i).2.1 low, (f i).2.2)).2.2.2.1 (nl code t s ((f i).1, imx (f i).2.1 low, (f i).2.2)).2.1 (upd pf i (nl code t s ((f i).1, imx (f i).2.1 low, (f i).2.2)).2.2)
/-- A walk down a tree of L levels to a leaf. -/
def wkr {S : Type} (code : Cod S) (t : Int) (g : Nat → Nat → Nd) (a x y L : Nat) (s : S) : Int × S × (Nat → Nd) := wk code t (fun i => g i (ix a x y i)) L 0 s (fun _ => nz)
structure Dev (S : Type) where
  p : Nat
  inv : S → Option Addr → Heap → Prop
  room : S → Nat → Prop
/-- What a step of a device at p with a row q, and with a block b, leaves alone. -/
structure Fr (p b : Nat) (q : Option Addr) (H : Heap) (q' : Option Addr) (H' : Heap) : Prop where
  len : H.length ≤ H'.length
  old : ∀ i, i < H.length → i ≠ p → i ≠ b → (∀ a, q = some a → a.block ≠ i) → hblk H' i = hblk H i
  new : q' = q ∨ ∀ a, q' = some a → H.length ≤ a.block
theorem Fr.refl (p b : Nat) (q : Option Addr) (H : Heap) : Fr p b q H q H := ⟨Nat.le_refl _, fun _ _ _ _ _ => rfl, .inl rfl⟩
theorem Fr.trans {p b : Nat} {q q1 q2 : Option Addr} {H H1 H2 : Heap} (x : Fr p b q H q1 H1) (y : Fr p b q1 H1 q2 H2) : Fr p b q H q2 H2 := by
  refine ⟨Nat.le_trans x.len y.len, fun i hi h1 h2 h3 => (y.old i (Nat.lt_of_lt_of_le hi x.len) h1 h2 fun a ha => ?_).trans (x.old i hi h1 h2 h3), ?_⟩
  · rcases x.new with h | h
    · subst h; exact h3 a ha
    · have := h a ha; omega
  · rcases y.new with h | h
    · subst h; exact x.new
    · exact .inr fun a ha => Nat.le_trans x.len (h a ha)
theorem Fr.of_stp {p b : Nat} {q q' : Option Addr} {H H' : Heap} (s : Stp p q H q' H') : Fr p b q H q' H' := ⟨s.len, fun i hi h1 _ h3 => s.old i hi h1 h3, s.new⟩
theorem Fr.of_but {p b : Nat} {q : Option Addr} {H H' : Heap} (s : But b H H') : Fr p b q H q H' := ⟨s.1, fun i hi _ h2 _ => s.2 i hi h2, .inl rfl⟩
theorem Fr.of_old {p b : Nat} {q : Option Addr} {H H' : Heap} (s : Old H.length H H') : Fr p b q H q H' := ⟨s.1, fun i hi _ _ _ => s.2 i hi, .inl rfl⟩
/-- The block of a new thing is forgotten. -/
theorem Fr.drop {p b b2 : Nat} {q q' : Option Addr} {H Hn H' : Heap} (o : Old H.length H Hn) (hb : H.length ≤ b) (s : Fr p b q Hn q' H') : Fr p b2 q H q' H' := by
  refine ⟨Nat.le_trans o.1 s.len, fun i hi h1 _ h3 => (s.old i (Nat.lt_of_lt_of_le hi o.1) h1 (by omega) h3).trans (o.2 i hi), ?_⟩
  rcases s.new with h | h
  · exact .inl h
  · exact .inr fun a ha => Nat.le_trans o.1 (h a ha)
structure DevOk {S : Type} (D : Dev S) (code : Cod S) (E1 : (R : Type) → Int → Int → Bool → Option Addr → Heap → (Int → Int → Heap → Option R) → Option R) : Prop where
  lt : ∀ {s q H}, D.inv s q H → D.p < H.length
  qlt : ∀ {s q H}, D.inv s q H → ∀ a, q = some a → a.block < H.length
  same : ∀ {s q H H'}, D.inv s q H → H.length ≤ H'.length → hblk H' D.p = hblk H D.p → (∀ a, q = some a → hblk H' a.block = hblk H a.block) → D.inv s q H'
  mono : ∀ {s m m'}, D.room s m → m' ≤ m → D.room s m'
  run : ∀ {s q H m pb}, D.inv s q H → D.room s (m + 1) → Owns H pb [.pointer (some ⟨D.p, 0, none⟩)] 0 → ∀ (n : Nd), ∃ q' H', (∀ (R : Type) (K : Int → Int → Heap → Option R), E1 R n.1 n.2.1 n.2.2 (some ⟨pb, 0, none⟩) H K = K (code s n).1.1 (code s n).1.2 H') ∧ D.inv (code s n).2 q' H' ∧ D.room (code s n).2 m ∧ Stp D.p q H q' H'
/-- A block off a tree. -/
def Off (p : Nat) (q : Option Addr) (l : List Lv) (i : Nat) : Prop := i ≠ p ∧ (∀ a, q = some a → a.block ≠ i) ∧ ∀ (j : Nat) (v : Lv), l[j]? = some v → v.b ≠ i
theorem Tn.same {N : Nat} {H H' : Heap} {p : Nat} {q : Option Addr} {c : Nat} {l : List Lv} {e d : Bool} {g : Nat → Nat → Nd} (T : Tn N H p q c l e d g) (s : ∀ i, i < H.length → ¬ Off p q l i → hblk H' i = hblk H i) : Tn N H' p q c l e d g := by
  refine ⟨T.o.same (s _ T.o.lt fun h => h.1 rfl), T.b.same fun a ha => s _ (T.b.below a ha) fun h => h.2.1 a ha rfl, T.low, T.ap, fun i v hv => ?_, T.d⟩
  obtain ⟨g1, g2, g3, g4⟩ := T.n i v hv
  exact ⟨g1.same (s _ g1.lt fun h => h.2.2 i v hv rfl), g2, g3, g4⟩
theorem Tn.fresh {N : Nat} {H : Heap} {p : Nat} {q : Option Addr} {c : Nat} {l : List Lv} {e d : Bool} {g : Nat → Nat → Nd} (T : Tn N H p q c l e d g) {i : Nat} (hi : H.length ≤ i) : Off p q l i :=
  ⟨by have := T.o.lt; omega, fun a ha => by have := T.b.below a ha; omega, fun j v hv => by have := (T.n j v hv).1.lt; omega⟩
theorem Tn.fr {N : Nat} {H H' : Heap} {p : Nat} {q : Option Addr} {c : Nat} {l : List Lv} {e d : Bool} {g : Nat → Nat → Nd} (T : Tn N H p q c l e d g) {p2 b : Nat} {q2 q2' : Option Addr} (s : Fr p2 b q2 H q2' H') (h1 : Off p q l p2) (h2 : ∀ a, q2 = some a → Off p q l a.block) (h3 : Off p q l b) : Tn N H' p q c l e d g :=
  T.same fun i hi hn => s.old i hi (fun h => hn (h ▸ h1)) (fun h => hn (h ▸ h3)) fun a ha h => hn (h ▸ h2 a ha)
/-- The tree after a walk. -/
def gw (a x y : Nat) (g : Nat → Nat → Nd) (pf : Nat → Nd) (n : Nat) : Nat → Nat → Nd := fun i => if i < n then upd (g i) (ix a x y i) (pf i) else g i
theorem gw_zero (a x y : Nat) (g : Nat → Nat → Nd) (pf : Nat → Nd) : gw a x y g pf 0 = g := by funext i; unfold gw; rw [if_neg (by omega)]
theorem gw_succ (a x y : Nat) (g : Nat → Nat → Nd) (pf : Nat → Nd) (n : Nat) : upd2 (gw a x y g pf n) n (ix a x y n) (pf n) = gw a x y g pf (n + 1) := by
  funext i
  by_cases h : i = n
  · subst h; rw [upd2_at]; unfold gw; rw [if_neg (by omega), if_pos (by omega)]
  · rw [upd2_ne _ _ _ h]; unfold gw
    by_cases h2 : i < n
    · rw [if_pos h2, if_pos (by omega)]
    · rw [if_neg h2, if_neg (by omega)]
theorem roH_len (H : Heap) : (roH H).length = H.length := by simp [roH]
theorem roH_tail (H : Heap) : H ++ (roH H).drop H.length = H := by rw [List.drop_eq_nil_of_le (by rw [roH_len]; omega), List.append_nil]
end Go.Proofs.Ytblkejnciinaeaa.Sh
/- Tagtree: what walks keep; what calls leave alone. -/
set_option linter.unusedVariables false
set_option linter.unusedSimpArgs false
namespace Go.Proofs.Ytblkejnciinaeaa.FW
theorem Shows.same {H H' : Heap} {q : Option Addr} {cs : List Value} (h : Shows H q cs) (e : ∀ a, q = some a → hblk H' a.block = hblk H a.block) : Shows H' q cs := by
  rcases h with h | ⟨b, o, full, rfl, ⟨B, h1, h2⟩, h3⟩
  · exact .inl h
  · exact .inr ⟨b, o, full, rfl, ⟨B, by rw [e _ rfl]; exact h1, h2⟩, h3⟩
end Go.Proofs.Ytblkejnciinaeaa.FW
namespace Go.Proofs.Ytblkejnciinaeaa.Sh
open Go.Proofs.Ytblkejnciinaeaa.FW Go.IntWalk
def Gok (g : Nat → Nat → Nd) : Prop := ∀ i j, 0 ≤ (g i j).2.1
theorem nlp_ok {S : Type} (code : Cod S) : ∀ (m : Nat) (s : S) (n : Nd), 0 ≤ n.2.1 → 0 ≤ (nlp code m s n).2.2.2.1 := by
  intro m
  induction m with
  | zero => intro s n h; exact h
  | succ m ih =>
    intro s n h
    rw [nlp]
    split
    · exact h
    · split
      · exact h
      · split
        · exact h
        · exact ih _ _ (by simp only; omega)
theorem wk_ok {S : Type} (code : Cod S) (t : Int) (f : Nat → Nd) (hf : ∀ i, 0 ≤ (f i).2.1) : ∀ (m : Nat) (low : Int) (s : S) (pf : Nat → Nd), (∀ i, 0 ≤ (pf i).2.1) → ∀ i, 0 ≤ ((wk code t f m low s pf).2.2 i).2.1 := by
  intro m
  induction m with
  | zero => intro low s pf h; exact h
  | succ m ih =>
    intro low s pf h
    rw [wk]
    split
    · exact h
    · refine ih _ _ _ fun i => ?_
      by_cases hi : i = m
      · rw [hi, upd_at]
        exact nlp_ok _ _ _ _ (by have := hf m; simp only [imx]; split <;> omega)
      · rw [upd_ne _ _ hi]; exact h i
theorem gw_ok {a x y : Nat} {g : Nat → Nat → Nd} {pf : Nat → Nd} {n : Nat} (h : Gok g) (hp : ∀ i, 0 ≤ (pf i).2.1) : Gok (gw a x y g pf n) := by
  intro i j
  unfold gw
  split
  · show 0 ≤ (upd _ _ _ j).2.1
    unfold upd
    split
    · exact hp i
    · exact h i j
  · exact h i j
theorem wkr_ok {S : Type} (code : Cod S) (t : Int) {g : Nat → Nat → Nd} (h : Gok g) (a x y L : Nat) (s : S) : ∀ i, 0 ≤ ((wkr code t g a x y L s).2.2 i).2.1 :=
  wk_ok code t _ (fun i => h _ _) L 0 s _ (fun _ => Int.le_refl 0)
theorem mst_two (w w' : Nat) (fb : Nat → Nd) : ∀ (k : Nat) (f : Nat → Nd) (j : Nat), (mst w w' fb k f j).2 = (f j).2 := by
  intro k
  induction k with
  | zero => intro f j; rfl
  | succ k ih =>
    intro f j
    rw [mst]
    by_cases h : j = par w w' k
    · rw [h, upd_at]; exact ih f _
    · rw [upd_ne _ _ h]; exact ih f j
theorem mlf_two (a b i : Nat) (g : Nat → Nat → Nd) (j : Nat) : (mlf a b i g j).2 = (g i j).2 := by
  unfold mlf
  rw [mst_two]
  unfold rsl
  split <;> rfl
theorem mins_two (a b : Nat) : ∀ (m i : Nat) (g : Nat → Nat → Nd) (u j : Nat), (mins a b m i g u j).2 = (g u j).2 := by
  intro m
  induction m with
  | zero => intro i g u j; rfl
  | succ m ih =>
    intro i g u j
    rw [mins, ih]
    by_cases h : u = i
    · rw [h, lset_at, mlf_two]
    · rw [lset_ne _ _ h]
theorem mins_ok {a b m i : Nat} {g : Nat → Nat → Nd} (h : Gok g) : Gok (mins a b m i g) := fun u j => by rw [mins_two]; exact h u j
/-- What a call of a tree with a device leaves alone. -/
structure Ch (p : Nat) (l : List Lv) (pw : Nat) (q : Option Addr) (H : Heap) (q' : Option Addr) (H' : Heap) : Prop where
  len : H.length ≤ H'.length
  old : ∀ i, i < H.length → i ≠ pw → (∀ a, q = some a → a.block ≠ i) → i ≠ p → (∀ (j : Nat) (v : Lv), l[j]? = some v → v.b ≠ i) → hblk H' i = hblk H i
  new : q' = q ∨ ∀ a, q' = some a → H.length ≤ a.block
theorem Ch.trans {p : Nat} {l : List Lv} {pw : Nat} {q q1 q2 : Option Addr} {H H1 H2 : Heap} (x : Ch p l pw q H q1 H1) (y : Ch p l pw q1 H1 q2 H2) : Ch p l pw q H q2 H2 := by
  refine ⟨Nat.le_trans x.len y.len, fun i hi h1 h2 h3 h4 => (y.old i (Nat.lt_of_lt_of_le hi x.len) h1 (fun a ha => ?_) h3 h4).trans (x.old i hi h1 h2 h3 h4), ?_⟩
  · rcases x.new with h | h
    · subst h; exact h2 a ha
    · have := h a ha; omega
  · rcases y.new with h | h
    · subst h; exact x.new
    · exact .inr fun a ha => Nat.le_trans x.len (h a ha)
theorem Ch.of_old {p : Nat} {l : List Lv} {pw : Nat} {q : Option Addr} {H H' : Heap} (o : Old H.length H H') : Ch p l pw q H q H' := ⟨o.1, fun i hi _ _ _ _ => o.2 i hi, .inl rfl⟩
theorem Ch.of_tc {p : Nat} {l : List Lv} {pw : Nat} {q : Option Addr} {H H' : Heap} (o : Tc l H H') : Ch p l pw q H q H' := ⟨o.1, fun i hi _ _ _ h => o.2 i hi h, .inl rfl⟩
theorem Ch.of_but {p : Nat} {l : List Lv} {pw : Nat} {q : Option Addr} {H H' : Heap} (o : But p H H') : Ch p l pw q H q H' := ⟨o.1, fun i hi _ _ h _ => o.2 i hi h, .inl rfl⟩
theorem Ch.of_stp {p : Nat} {l : List Lv} {pw : Nat} {q q' : Option Addr} {H H' : Heap} (o : Stp pw q H q' H') : Ch p l pw q H q' H' := ⟨o.len, fun i hi h1 h2 _ _ => o.old i hi h1 h2, o.new⟩
theorem Ch.off {N : Nat} {H : Heap} {p : Nat} {q : Option Addr} {c : Nat} {l : List Lv} {e d : Bool} {g : Nat → Nat → Nd} (T : Tn N H p q c l e d g) {pw : Nat} {q1 q2 : Option Addr} {H' : Heap} (s : Ch p l pw q1 H q2 H') (h : ∀ a, q1 = some a → Off p q l a.block) : ∀ a, q2 = some a → Off p q l a.block := by
  intro a ha
  rcases s.new with h1 | h1
  · subst h1; exact h a ha
  · exact T.fresh (h1 a ha)
/-- A tree apart from the tree that was called. -/
theorem Tn.ch {N : Nat} {H H' : Heap} {p : Nat} {q : Option Addr} {c : Nat} {l : List Lv} {e d : Bool} {g : Nat → Nat → Nd} (T : Tn N H p q c l e d g) {p2 : Nat} {l2 : List Lv} {pw : Nat} {q1 q2 : Option Addr} (s : Ch p2 l2 pw q1 H q2 H') (h1 : Off p q l pw) (h2 : ∀ a, q1 = some a → Off p q l a.block) (h3 : Off p q l p2) (h4 : ∀ (j : Nat) (v : Lv), l2[j]? = some v → Off p q l v.b) : Tn N H' p q c l e d g :=
  T.same fun i hi hn => s.old i hi (fun h => hn (h ▸ h1)) (fun a ha h => hn (h ▸ h2 a ha)) (fun h => hn (h ▸ h3)) fun j v hv h => hn (h ▸ h4 j v hv)
theorem Tn.flag {N : Nat} {H H' : Heap} {p : Nat} {q : Option Addr} {c : Nat} {l : List Lv} {e d e' d' : Bool} {g : Nat → Nat → Nd} (T : Tn N H p q c l e d g) (ho : Owns H' p [.slice q l.length c, .bool e', .bool d'] 0) (hb : But p H H') : Tn N H' p q c l e' d' g := by
  refine ⟨ho, Bld.but2 T.b hb T.ap, T.low, T.ap, fun i v hv => ?_, T.d⟩
  obtain ⟨g1, g2, g3, g4⟩ := T.n i v hv
  exact ⟨g1.but hb g3, g2, g3, g4⟩
end Go.Proofs.Ytblkejnciinaeaa.Sh
/- Tagtree: laws of a walk. -/
set_option linter.unusedVariables false
set_option linter.unusedSimpArgs false
namespace Go.Proofs.Ytblkejnciinaeaa.Sh
open Go.Proofs.Ytblkejnciinaeaa.FW Go.IntWalk
theorem imx_ge (a b : Int) : a ≤ imx a b ∧ b ≤ imx a b := by unfold imx; split <;> omega
theorem imx_l {a b : Int} (h : b ≤ a) : imx a b = a := by unfold imx; split <;> omega
/-- What a node is after its loop. -/
theorem nlp_end {S : Type} (code : Cod S) (t : Int) : ∀ (m : Nat) (s : S) (n : Nd), (t - n.2.1).toNat ≤ m → (nlp code m s n).1 = 0 → (t ≤ (nlp code m s n).2.2.2.1 ∨ (nlp code m s n).2.2.2.2 = true) ∧ n.2.1 ≤ (nlp code m s n).2.2.2.1 := by
  intro m
  induction m with
  | zero => intro s n h _; exact ⟨.inl (by simp only [nlp]; omega), Int.le_refl _⟩
  | succ m ih =>
    intro s n h
    rw [nlp]
    split
    · rename_i hk; intro _; exact ⟨.inr hk, Int.le_refl _⟩
    · split
      · rename_i h1; intro h2; exact (h1 h2).elim
      · split
        · intro _; exact ⟨.inr rfl, Int.le_refl _⟩
        · intro h2
          have := ih _ (n.1, n.2.1 + 1, n.2.2) (by simp only; omega) h2
          exact ⟨this.1, by have := this.2; simp only at this; omega⟩
theorem wk_pf {S : Type} (code : Cod S) (t : Int) (f : Nat → Nd) : ∀ (m : Nat) (low : Int) (s : S) (pf : Nat → Nd) (i : Nat), m ≤ i → (wk code t f m low s pf).2.2 i = pf i := by
  intro m
  induction m with
  | zero => intro low s pf i _; rfl
  | succ m ih =>
    intro low s pf i hi
    rw [wk]
    split
    · rfl
    · rw [ih _ _ _ _ (by omega), upd_ne _ _ (by omega)]
theorem wk_path {S : Type} (code : Cod S) (t : Int) (f : Nat → Nd) : ∀ (m : Nat) (low : Int) (s : S) (pf : Nat → Nd), (wk code t f m low s pf).1 = 0 →
    (∀ i, i < m → t ≤ ((wk code t f m low s pf).2.2 i).2.1 ∨ ((wk code t f m low s pf).2.2 i).2.2 = true) ∧ (∀ i, i + 1 < m → ((wk code t f m low s pf).2.2 (i + 1)).2.1 ≤ ((wk code t f m low s pf).2.2 i).2.1) ∧ (0 < m → low ≤ ((wk code t f m low s pf).2.2 (m - 1)).2.1) := by
  intro m
  induction m with
  | zero => intro low s pf _; exact ⟨fun i h => by omega, fun i h => by omega, fun h => by omega⟩
  | succ m ih =>
    intro low s pf
    rw [wk]
    split
    · rename_i h; intro h2; exact (h h2).elim
    · rename_i hr
      have hr0 : (nl code t s ((f m).1, imx (f m).2.1 low, (f m).2.2)).1 = 0 := by simpa using hr
      intro h
      obtain ⟨g1, g2, g3⟩ := ih _ _ _ h
      have hm := wk_pf code t f m (nl code t s ((f m).1, imx (f m).2.1 low, (f m).2.2)).2.2.2.1 (nl code t s ((f m).1, imx (f m).2.1 low, (f m).2.2)).2.1 (upd pf m (nl code t s ((f m).1, imx (f m).2.1 low, (f m).2.2)).2.2) m (Nat.le_refl _)
      rw [upd_at] at hm
      have he := nlp_end code t _ s _ (Nat.le_refl _) hr0
      refine ⟨fun i hi => ?_, fun i hi => ?_, fun _ => ?_⟩
      · by_cases h2 : i < m
        · exact g1 i h2
        · obtain rfl : i = m := by omega
          rw [hm]; exact he.1
      · by_cases h2 : i + 1 < m
        · exact g2 i h2
        · obtain rfl : m = i + 1 := by omega
          rw [hm]
          have := g3 (by omega)
          rwa [show i + 1 - 1 = i from by omega] at this
      · rw [show m + 1 - 1 = m from by omega, hm]
        have := (imx_ge (f m).2.1 low).2
        have h3 : imx (f m).2.1 low ≤ (nl code t s ((f m).1, imx (f m).2.1 low, (f m).2.2)).2.2.2.1 := he.2
        omega
/-- A walk along nodes that are done. -/
theorem nlp_done {S : Type} (code : Cod S) (m : Nat) (s : S) (n : Nd) (h : m = 0 ∨ n.2.2 = true) : nlp code m s n = (0, s, n) := by
  cases m with
  | zero => rfl
  | succ m =>
    rw [nlp, if_pos]
    rcases h with h | h
    · omega
    · exact h
theorem wk_done {S : Type} (code : Cod S) (t : Int) (f : Nat → Nd) : ∀ (m : Nat) (low : Int) (s : S) (pf : Nat → Nd), (∀ i, i < m → t ≤ (f i).2.1 ∨ (f i).2.2 = true) → (∀ i, i + 1 < m → (f (i + 1)).2.1 ≤ (f i).2.1) → (0 < m → low ≤ (f (m - 1)).2.1) →
    (wk code t f m low s pf).1 = 0 ∧ (wk code t f m low s pf).2.1 = s ∧ ∀ i, i < m → (wk code t f m low s pf).2.2 i = f i := by
  intro m
  induction m with
  | zero => intro low s pf _ _ _; exact ⟨rfl, rfl, fun i h => by omega⟩
  | succ m ih =>
    intro low s pf h1 h2 h3
    have hl : low ≤ (f m).2.1 := by have := h3 (by omega); rwa [show m + 1 - 1 = m from by omega] at this
    have e : nl code t s ((f m).1, imx (f m).2.1 low, (f m).2.2) = (0, s, f m) := by
      rw [imx_l hl]
      exact nlp_done _ _ _ _ (by rcases h1 m (by omega) with h | h; exact .inl (by simp only; omega); exact .inr h)
    rw [wk, if_neg (by rw [e]; simp), e]
    obtain ⟨g1, g2, g3⟩ := ih (f m).2.1 s (upd pf m (f m)) (fun i hi => h1 i (by omega)) (fun i hi => h2 i (by omega)) (fun h => by have := h2 (m - 1) (by omega); rwa [show m - 1 + 1 = m from by omega] at this)
    refine ⟨g1, g2, fun i hi => ?_⟩
    by_cases h : i < m
    · exact g3 i h
    · obtain rfl : i = m := by omega
      rw [wk_pf _ _ _ _ _ _ _ _ (Nat.le_refl _), upd_at]
theorem gw_self {a x y : Nat} {g : Nat → Nat → Nd} {pf : Nat → Nd} {n : Nat} (h : ∀ i, i < n → pf i = g i (ix a x y i)) : gw a x y g pf n = g := by
  funext i
  unfold gw
  split
  · rename_i hi
    funext j
    unfold upd
    split
    · rename_i hj; rw [h i hi, hj]
    · rfl
  · rfl
theorem gw_ix {a x y : Nat} {g : Nat → Nat → Nd} {pf : Nat → Nd} {n i : Nat} (h : i < n) : gw a x y g pf n i (ix a x y i) = pf i := by
  unfold gw; rw [if_pos h, upd_at]
/-- After a walk that came to its end, another one up to no more changes nothing. -/
theorem wkr_again {S : Type} (code : Cod S) {t t2 : Int} (ht : t2 ≤ t) {g : Nat → Nat → Nd} {a x y L : Nat} {s : S} (h : (wkr code t g a x y L s).1 = 0) (hg : Gok g) (s2 : S) :
    (wkr code t2 (gw a x y g (wkr code t g a x y L s).2.2 L) a x y L s2).1 = 0 ∧ (wkr code t2 (gw a x y g (wkr code t g a x y L s).2.2 L) a x y L s2).2.1 = s2 ∧ gw a x y (gw a x y g (wkr code t g a x y L s).2.2 L) (wkr code t2 (gw a x y g (wkr code t g a x y L s).2.2 L) a x y L s2).2.2 L = gw a x y g (wkr code t g a x y L s).2.2 L := by
  have hk := wkr_ok code t hg a x y L s
  unfold wkr at *
  obtain ⟨g1, g2, g3⟩ := wk_path code t _ L 0 s (fun _ => nz) h
  have e : ∀ i, i < L → gw a x y g (wk code t (fun i => g i (ix a x y i)) L 0 s (fun _ => nz)).2.2 L i (ix a x y i) = (wk code t (fun i => g i (ix a x y i)) L 0 s (fun _ => nz)).2.2 i := fun i hi => gw_ix hi
  obtain ⟨d1, d2, d3⟩ := wk_done code t2 (fun i => gw a x y g (wk code t (fun i => g i (ix a x y i)) L 0 s (fun _ => nz)).2.2 L i (ix a x y i)) L 0 s2 (fun _ => nz) (fun i hi => by
    rw [e i hi]
    rcases g1 i hi with h | h
    · exact .inl (by omega)
    · exact .inr h) (fun i hi => by rw [e i (by omega), e (i + 1) hi]; exact g2 i hi) (fun h0 => by rw [e _ (by omega)]; exact g3 h0)
  exact ⟨d1, d2, gw_self d3⟩
/-- The minima. -/
theorem mst_spec (w w' : Nat) (fb : Nat → Nd) : ∀ (K : Nat) (f : Nat → Nd), (∀ k, k < K → (mst w w' fb K f (par w w' k)).1 ≤ (fb k).1) ∧ (∀ j, (mst w w' fb K f j).1 ≤ (f j).1) ∧ ∀ j, (mst w w' fb K f j).1 = (f j).1 ∨ ∃ k, k < K ∧ par w w' k = j ∧ (mst w w' fb K f j).1 = (fb k).1 := by
  intro K
  induction K with
  | zero => intro f; exact ⟨fun k h => by omega, fun j => Int.le_refl _, fun j => .inl rfl⟩
  | succ K ih =>
    intro f
    obtain ⟨i1, i2, i3⟩ := ih f
    have key : ∀ j, mst w w' fb (K + 1) f j = if j = par w w' K then (min (mst w w' fb K f (par w w' K)).1 (fb K).1, (mst w w' fb K f (par w w' K)).2) else mst w w' fb K f j := fun j => rfl
    refine ⟨fun k hk => ?_, fun j => ?_, fun j => ?_⟩
    · rw [key]
      by_cases h : par w w' k = par w w' K
      · rw [if_pos h]
        by_cases hkK : k < K
        · have := i1 k hkK; rw [h] at this; simp only; omega
        · obtain rfl : k = K := by omega
          simp only; omega
      · rw [if_neg h]
        exact i1 k (by rcases Nat.lt_or_ge k K with h2 | h2; exact h2; exact (h (by rw [show k = K from by omega])).elim)
    · rw [key]
      by_cases h : j = par w w' K
      · rw [if_pos h, h]; have := i2 (par w w' K); simp only; omega
      · rw [if_neg h]; exact i2 j
    · rw [key]
      by_cases h : j = par w w' K
      · rw [if_pos h]
        simp only
        rcases Int.le_total (mst w w' fb K f (par w w' K)).1 (fb K).1 with h2 | h2
        · rw [Int.min_eq_left h2, ← h]
          rcases i3 j with h3 | ⟨k, k1, k2, k3⟩
          · exact .inl h3
          · exact .inr ⟨k, by omega, k2, k3⟩
        · rw [Int.min_eq_right h2]
          exact .inr ⟨K, by omega, h.symm, rfl⟩
      · rw [if_neg h]
        rcases i3 j with h3 | ⟨k, k1, k2, k3⟩
        · exact .inl h3
        · exact .inr ⟨k, by omega, k2, k3⟩
end Go.Proofs.Ytblkejnciinaeaa.Sh
/- Tagtree: the reference's tree. -/
set_option linter.unusedVariables false
set_option linter.unusedSimpArgs false
namespace Go.Proofs.Ytblkejnciinaeaa.Sh
open Go.Proofs.Ytblkejnciinaeaa.FW Go.IntWalk
def tot : Nat → Nat → Nat → Nat
  | 0, _, _ => 0
  | m + 1, w, h => if w = 1 ∧ h = 1 then 0 else (w + 1) / 2 * ((h + 1) / 2) + tot m ((w + 1) / 2) ((h + 1) / 2)
theorem tot_le : ∀ (m w h : Nat), 1 ≤ w → 1 ≤ h → w * h ≤ 65536 → tot m w h ≤ m * 65536 := by
  intro m
  induction m with
  | zero => intro w h _ _ _; simp [tot]
  | succ m ih =>
    intro w h h1 h2 h3
    have := half_mul h1 h2 h3
    have := ih ((w + 1) / 2) ((h + 1) / 2) (by omega) (by omega) this
    unfold tot; split <;> omega
theorem one_of {w h : Nat} (h1 : 1 ≤ w) (h2 : 1 ≤ h) : w * h > 1 ↔ ¬ (w = 1 ∧ h = 1) := by
  constructor
  · rintro h3 ⟨rfl, rfl⟩; omega
  · intro h3
    by_cases c : w = 1
    · subst c
      have : h ≠ 1 := fun e => h3 ⟨rfl, e⟩
      omega
    · have := Nat.mul_le_mul (show 2 ≤ w by omega) h2
      omega
theorem rnew_l (k : Nat) (x y : Int) : ∀ (m n w h t : Nat), m < n → 1 ≤ w → 1 ≤ h → w ≤ 2 ^ m → h ≤ 2 ^ m → m ≤ 16 → t + m * 65536 ≤ 10000000 → w * h ≤ 65536 → ∀ (R : Type) (KE : Int → Int → Int → Option R), R10_New_l2 k KE n x y (t : Int) (w : Int) (h : Int) = KE x y ((t + tot m w h : Nat) : Int) := by
  intro m
  induction m with
  | zero =>
    intro n w h t hn hw hh hw2 hh2 hm ht hwh R KE
    obtain ⟨n, rfl⟩ : ∃ n', n = n' + 1 := ⟨n - 1, by omega⟩
    simp only [Nat.pow_zero] at hw2 hh2
    obtain rfl : w = 1 := by omega
    obtain rfl : h = 1 := by omega
    have w1 : IntKind.wrap .i64 (((1 : Nat) : Int) * ((1 : Nat) : Int)) = ((1 * 1 : Nat) : Int) := mulw (by omega)
    unfold R10_New_l2 R10_New_l2_b
    rw [w1]
    rfl
  | succ m ih =>
    intro n w h t hn hw hh hw2 hh2 hm ht hwh R KE
    obtain ⟨n, rfl⟩ : ∃ n', n = n' + 1 := ⟨n - 1, by omega⟩
    have p16 : 2 ^ (m + 1) ≤ 2 ^ 16 := Nat.pow_le_pow_right (by omega) hm
    have hp : 2 ^ (m + 1) = 2 * 2 ^ m := Nat.pow_succ'
    have w1 : IntKind.wrap .i64 ((w : Int) * (h : Int)) = ((w * h : Nat) : Int) := mulw hwh
    by_cases hone : w = 1 ∧ h = 1
    · obtain ⟨rfl, rfl⟩ := hone
      have : tot (m + 1) 1 1 = 0 := by unfold tot; rw [if_pos ⟨rfl, rfl⟩]
      rw [this]
      unfold R10_New_l2 R10_New_l2_b
      rw [w1]; rfl
    · have e1 : tot (m + 1) w h = (w + 1) / 2 * ((h + 1) / 2) + tot m ((w + 1) / 2) ((h + 1) / 2) := by rw [tot, if_neg hone]
      have hw1 := half_w (w := w) (by omega)
      have hh1 := half_w (w := h) (by omega)
      have hm2 := half_mul hw hh hwh
      have w2 : IntKind.wrap .i64 ((((w + 1) / 2 : Nat) : Int) * (((h + 1) / 2 : Nat) : Int)) = (((w + 1) / 2 * ((h + 1) / 2) : Nat) : Int) := mulw hm2
      have w3 : IntKind.wrap .i64 ((t : Int) + (((w + 1) / 2 * ((h + 1) / 2) : Nat) : Int)) = ((t + (w + 1) / 2 * ((h + 1) / 2) : Nat) : Int) := by rw [w64 (by omega) (by omega)]; omega
      have r := ih n ((w + 1) / 2) ((h + 1) / 2) (t + (w + 1) / 2 * ((h + 1) / 2)) (by omega) (by omega) (by omega) (by omega) (by omega) (by omega) (by omega) hm2 R KE
      have h1 := (one_of hw hh).2 hone
      have d1 : decide (((w * h : Nat) : Int) > 1) = true := decide_eq_true (by omega)
      rw [e1, ← Nat.add_assoc, ← r]
      unfold R10_New_l2 R10_New_l2_b
      rw [w1]
      refine go_t d1 ?_
      rw [hw1, hh1, w2, w3]
      cases n <;> rfl
/-- Where a level's nodes begin. -/
def base (a b : Nat) : Nat → Nat
  | 0 => 0
  | i + 1 => base a b i + wl a i * wl b i
def updF (F : Nat → Nd) (m : Nat) (x : Nd) : Nat → Nd := upd F m x
/-- The nodes, one after the other. -/
def Rel (a b L : Nat) (F : Nat → Nd) (g : Nat → Nat → Nd) : Prop := ∀ i, i < L → ∀ j, j < wl a i * wl b i → F (base a b i + j) = g i j
theorem base_le {a b : Nat} : ∀ {i k : Nat}, i ≤ k → base a b i ≤ base a b k := by
  intro i k h
  induction h with
  | refl => exact Nat.le_refl _
  | step _ ih => exact Nat.le_trans ih (Nat.le_add_right _ _)
theorem base_lt {a b L i j : Nat} (hi : i < L) (hj : j < wl a i * wl b i) : base a b i + j < base a b L := by
  have : base a b (i + 1) ≤ base a b L := base_le hi
  have e : base a b (i + 1) = base a b i + wl a i * wl b i := rfl
  omega
theorem base_inj {a b i j i' j' : Nat} (hj : j < wl a i * wl b i) (hj' : j' < wl a i' * wl b i') (e : base a b i + j = base a b i' + j') : i = i' ∧ j = j' := by
  rcases Nat.lt_trichotomy i i' with h | h | h
  · have : base a b (i + 1) ≤ base a b i' := base_le h
    have e : base a b (i + 1) = base a b i + wl a i * wl b i := rfl
    omega
  · subst h; exact ⟨rfl, by omega⟩
  · have : base a b (i' + 1) ≤ base a b i := base_le h
    have e : base a b (i' + 1) = base a b i' + wl a i' * wl b i' := rfl
    omega
theorem Rel.put {a b L : Nat} {F : Nat → Nd} {g : Nat → Nat → Nd} (h : Rel a b L F g) {i j : Nat} (hi : i < L) (hj : j < wl a i * wl b i) (x : Nd) : Rel a b L (upd F (base a b i + j) x) (upd2 g i j x) := by
  intro i' hi' j' hj'
  by_cases e : base a b i' + j' = base a b i + j
  · obtain ⟨rfl, rfl⟩ := base_inj hj' hj e
    rw [upd_at, upd2_at, upd_at]
  · rw [upd_ne _ _ e, h i' hi' j' hj']
    by_cases hi2 : i' = i
    · subst hi2
      rw [upd2_at, upd_ne _ _ (fun h => e (by rw [h]))]
    · rw [upd2_ne _ _ _ hi2]
theorem Rel.congr {a b L : Nat} {F : Nat → Nd} {g g' : Nat → Nat → Nd} (h : Rel a b L F g) (e : ∀ i, i < L → ∀ j, j < wl a i * wl b i → g i j = g' i j) : Rel a b L F g' := fun i hi j hj => (h i hi j hj).trans (e i hi j hj)
/-- The reference's tree. -/
structure Rt (M : Nat) (H : Heap) (p bn n cap z a b : Nat) (e d : Bool) (F : Nat → Nd) : Prop where
  o : Owns H p [.bool true, .int .i64 (a : Int), .int .i64 (b : Int), .slice (some ⟨bn, 0, none⟩) n cap, .bool e, .bool d] 0
  n : Owns H bn (nds n F) z
  ne : bn ≠ p
  lp : M ≤ p
  lb : M ≤ bn
theorem Rt.same {M : Nat} {H H' : Heap} {p bn n cap z a b : Nat} {e d : Bool} {F : Nat → Nd} (h : Rt M H p bn n cap z a b e d F) (h1 : hblk H' p = hblk H p) (h2 : hblk H' bn = hblk H bn) : Rt M H' p bn n cap z a b e d F := ⟨h.o.same h1, h.n.same h2, h.ne, h.lp, h.lb⟩
theorem Rt.keep {M : Nat} {H H' : Heap} {p bn n cap z a b : Nat} {e d : Bool} {F : Nat → Nd} (h : Rt M H p bn n cap z a b e d F) (o : Old H.length H H') : Rt M H' p bn n cap z a b e d F := h.same (o.2 _ h.o.lt) (o.2 _ h.n.lt)
theorem tot_base : ∀ (m a b i : Nat), 1 ≤ a → 1 ≤ b → a ≤ 2 ^ m → b ≤ 2 ^ m → i < (lvs (m + 1) a b).length → (i + 1 = (lvs (m + 1) a b).length → base a b (i + 1) = a * b + tot m a b) ∧ ((wl a i = 1 ∧ wl b i = 1) ↔ i + 1 = (lvs (m + 1) a b).length) := by
  have shift : ∀ (a b i : Nat), 1 ≤ a → 1 ≤ b → base a b (i + 1) = a * b + base ((a + 1) / 2) ((b + 1) / 2) i := by
    intro a b i ha hb
    induction i with
    | zero => simp [base, wl_zero ha, wl_zero hb]
    | succ i ih =>
      have e1 : base a b (i + 1 + 1) = base a b (i + 1) + wl a (i + 1) * wl b (i + 1) := rfl
      have e2 : base ((a + 1) / 2) ((b + 1) / 2) (i + 1) = base ((a + 1) / 2) ((b + 1) / 2) i + wl ((a + 1) / 2) i * wl ((b + 1) / 2) i := rfl
      rw [e1, e2, ih, wl_succ ha, wl_succ hb]; omega
  intro m
  induction m with
  | zero =>
    intro a b i ha hb ha2 hb2 hi
    simp only [Nat.pow_zero] at ha2 hb2
    obtain rfl : a = 1 := by omega
    obtain rfl : b = 1 := by omega
    have hl : (lvs (0 + 1) 1 1).length = 1 := rfl
    rw [hl] at hi ⊢
    obtain rfl : i = 0 := by omega
    exact ⟨fun _ => rfl, by simp [wl]⟩
  | succ m ih =>
    intro a b i ha hb ha2 hb2 hi
    have hp : 2 ^ (m + 1) = 2 * 2 ^ m := Nat.pow_succ'
    by_cases h1 : a = 1 ∧ b = 1
    · obtain ⟨rfl, rfl⟩ := h1
      have hl : (lvs (m + 1 + 1) 1 1).length = 1 := by rw [lvs, if_pos ⟨rfl, rfl⟩]; rfl
      have ht : tot (m + 1) 1 1 = 0 := by unfold tot; rw [if_pos ⟨rfl, rfl⟩]
      rw [hl] at hi ⊢
      obtain rfl : i = 0 := by omega
      rw [ht]
      exact ⟨fun _ => rfl, by simp [wl]⟩
    · have hl : (lvs (m + 1 + 1) a b).length = 1 + (lvs (m + 1) ((a + 1) / 2) ((b + 1) / 2)).length := by rw [lvs, if_neg h1, List.length_cons]; omega
      have ht : tot (m + 1) a b = (a + 1) / 2 * ((b + 1) / 2) + tot m ((a + 1) / 2) ((b + 1) / 2) := by rw [tot, if_neg h1]
      have hl0 : 1 ≤ (lvs (m + 1) ((a + 1) / 2) ((b + 1) / 2)).length := by rw [lvs]; simp
      rw [hl] at hi ⊢
      cases i with
      | zero =>
        rw [wl_zero ha, wl_zero hb]
        refine ⟨fun h => by omega, ⟨fun h => (h1 h).elim, fun h => by omega⟩⟩
      | succ i =>
        obtain ⟨i1, i2⟩ := ih ((a + 1) / 2) ((b + 1) / 2) i (by omega) (by omega) (by omega) (by omega) (by omega)
        rw [wl_succ ha, wl_succ hb] at i2
        refine ⟨fun h => ?_, ⟨fun h => by have := i2.1 h; omega, fun h => i2.2 (by omega)⟩⟩
        rw [shift a b (i + 1) ha hb, i1 (by omega), ht]
/-- What the shape says of the last level. -/
theorem geo_last {a b : Nat} {l : List Lv} (G : Geo a b l) (h : l.map (fun v => (v.w, v.h)) = lvs 17 a b) : (∀ i, i < l.length → ((wl a i = 1 ∧ wl b i = 1) ↔ i + 1 = l.length)) ∧ base a b l.length = a * b + tot 16 a b := by
  have hl : l.length = (lvs 17 a b).length := by rw [← h, List.length_map]
  have hp := G.pos
  have := G.am; have := G.bm
  refine ⟨fun i hi => ?_, ?_⟩
  · rw [hl] at hi ⊢
    exact (tot_base 16 a b i G.a1 G.b1 (by omega) (by omega) hi).2
  · have := (tot_base 16 a b (l.length - 1) G.a1 G.b1 (by omega) (by omega) (by rw [← hl]; omega)).1 (by rw [← hl]; omega)
    rwa [show l.length - 1 + 1 = l.length from by omega] at this
theorem rNew_eq {k : Nat} (hk : 100 < k) (H : Heap) (w h : Int) : (vld w h ≠ 0 ∧ ∀ (R : Type) (K : Option Addr → Int → Heap → Option R), R10_New k w h H K = K none (vld w h) H) ∨
    (vld w h = 0 ∧ ∀ (a b : Nat), w = a → h = b → ∃ H', (∀ (R : Type) (K : Option Addr → Int → Heap → Option R), R10_New k w h H K = K (some ⟨H.length + 1, 0, none⟩) 0 H') ∧ Rt H.length H' (H.length + 1) H.length (a * b + tot 16 a b) (a * b + tot 16 a b) 0 a b false false (fun _ => nz) ∧ Old H.length H H' ∧ H'.length = H.length + 2) := by
  by_cases hv : vld w h = 0
  · right
    refine ⟨hv, fun a b hwa hhb => ?_⟩
    have hv2 := hv
    unfold vld at hv2
    split at hv2
    · omega
    split at hv2
    · omega
    rename_i c1 c2
    subst hwa hhb
    have hab : a * b ≤ 65536 := by rw [← Int.natCast_mul] at c2; omega
    have w1 : IntKind.wrap .i64 ((a : Int) * (b : Int)) = ((a * b : Nat) : Int) := mulw hab
    have hl := rnew_l k (a : Int) (b : Int) 16 k a b (a * b) (by omega) (by omega) (by omega) (by omega) (by omega) (by omega) (by omega) hab
    have htl := tot_le 16 a b (by omega) (by omega) hab
    obtain ⟨Ha, hHa⟩ : ∃ Ha, Ha = H ++ [some (⟨mkCells [.int .i64 0, .int .i64 0, .bool false] (a * b + tot 16 a b), false, 0⟩ : Blk)] := ⟨_, rfl⟩
    obtain ⟨Hb, hHb⟩ : ∃ Hb, Hb = Ha ++ [some (⟨[.bool true, .int .i64 (a : Int), .int .i64 (b : Int), .slice (some ⟨H.length, 0, none⟩) (a * b + tot 16 a b) (a * b + tot 16 a b), .bool false, .bool false], false, 0⟩ : Blk)] := ⟨_, rfl⟩
    have em : ∀ (R : Type) (K : Option Addr → Nat → Nat → Heap → Option R), hmk [.int .i64 0, .int .i64 0, .bool false] 24 H ((a * b + tot 16 a b : Nat) : Int) ((a * b + tot 16 a b : Nat) : Int) K = K (some ⟨H.length, 0, none⟩) (a * b + tot 16 a b) (a * b + tot 16 a b) Ha := fun R K => by
      unfold hmk
      rw [if_pos ⟨by omega, by omega, by omega, by omega⟩, hHa]; rfl
    have d1 : decide ((a : Int) < 1) = false := decide_eq_false (by omega)
    have d2 : decide ((b : Int) < 1) = false := decide_eq_false (by omega)
    have d3 : decide ((a : Int) > 65536) = false := decide_eq_false (by omega)
    have d4 : decide ((b : Int) > 65536) = false := decide_eq_false (by omega)
    have d5 : decide (((a * b : Nat) : Int) > 65536) = false := decide_eq_false (by omega)
    have la : Ha.length = H.length + 1 := by rw [hHa]; simp
    have lb : Hb.length = Ha.length + 1 := by rw [hHb]; simp
    have oa : Old H.length H Ha := hHa ▸ Old.app _ _
    have ob : Old Ha.length Ha Hb := hHb ▸ Old.app _ _
    have Oa : Owns Ha H.length (nds (a * b + tot 16 a b) (fun _ => nz)) 0 := by rw [hHa, ← nds_zero]; exact hblk_new H _
    have Ob : Owns Hb Ha.length [.bool true, .int .i64 (a : Int), .int .i64 (b : Int), .slice (some ⟨H.length, 0, none⟩) (a * b + tot 16 a b) (a * b + tot 16 a b), .bool false, .bool false] 0 := by rw [hHb]; exact hblk_new Ha _
    rw [la] at Ob
    refine ⟨Hb, fun R K => ?_, ⟨Ob, Oa.old ob Oa.lt, by omega, by omega, by omega⟩, oa.trans (ob.mono oa.1), by omega⟩
    rw [← la]
    unfold R10_New R10_New_b R10_New_p0 R10_New_p0_b R10_New_p1 R10_New_p1_b
    refine go_f d1 (go_f d2 (go_f d3 (go_f d4 ?_)))
    try dsimp only
    rw [w1]
    refine go_f d5 ?_
    refine (hl _ _).trans ((em _ _).trans ?_)
    exact go_halN hHb rfl
  · left
    refine ⟨hv, fun R K => ?_⟩
    unfold R10_New R10_New_b R10_New_p0 R10_New_p0_b R10_New_p1 R10_New_p1_b
    unfold vld at hv ⊢
    by_cases c1 : w < 1
    · rw [if_pos (.inl c1), decide_eq_true c1]; rfl
    by_cases c2 : h < 1
    · rw [if_pos (.inr c2), decide_eq_false c1, decide_eq_true c2]; rfl
    rw [if_neg (by omega)] at hv ⊢
    refine go_f (decide_eq_false c1) (go_f (decide_eq_false c2) ?_)
    by_cases c3 : w > 65536
    · rw [if_pos (.inl c3)]; exact go_t (decide_eq_true c3) rfl
    by_cases c4 : h > 65536
    · rw [if_pos (.inr (.inl c4))]; exact go_f (decide_eq_false c3) (go_t (decide_eq_true c4) rfl)
    have hm := mul_le (w := w) (h := h) (by omega) (by omega) (by omega) (by omega)
    refine go_f (decide_eq_false c3) (go_f (decide_eq_false c4) ?_)
    by_cases c5 : w * h > 65536
    · rw [if_pos (.inr (.inr c5))]
      try dsimp only
      rw [w64 (by omega) (by omega)]
      exact go_t (decide_eq_true c5) rfl
    · rw [if_neg (by omega)] at hv; exact (hv rfl).elim
theorem leaf_eq {M : Nat} {H : Heap} {p bn n cap z a b : Nat} {e d : Bool} {F : Nat → Nd} (T : Rt M H p bn n cap z a b e d F) (x y : Int) : ∀ (R : Type) (K : Bool → Option R), R10_Tree_leaf (some ⟨p, 0, none⟩) x y H K = K (ins a b x y) := by
  intro R K
  have m1 : hcell H p 1 = some (.int .i64 (a : Int)) := T.o.sees.cell 1
  have m2 : hcell H p 2 = some (.int .i64 (b : Int)) := T.o.sees.cell 2
  unfold R10_Tree_leaf R10_Tree_leaf_b ins
  by_cases c1 : x ≥ 0
  · refine go_t (decide_eq_true c1) (go_nil (go_fad (go_i m1 ?_)))
    by_cases c2 : x < (a : Int)
    · refine go_t (decide_eq_true c2) ?_
      by_cases c3 : y ≥ 0
      · refine go_t (decide_eq_true c3) (go_nil (go_fad (go_i m2 ?_)))
        congr 1
        exact decide_eq_decide.2 ⟨fun h => ⟨c1, c2, c3, h⟩, fun h => h.2.2.2⟩
      · refine go_f (decide_eq_false c3) ?_
        rw [decide_eq_false (fun h => c3 h.2.2.1)]
    · refine go_f (decide_eq_false c2) ?_
      rw [decide_eq_false (fun h => c2 h.2.1)]
  · refine go_f (decide_eq_false c1) ?_
    rw [decide_eq_false (fun h => c1 h.1)]
/-- One node stored. -/
theorem Rt.put1 {M : Nat} {H : Heap} {p bn n cap z a b : Nat} {e d : Bool} {F : Nat → Nd} (T : Rt M H p bn n cap z a b e d F) {m : Nat} (hm : m < n) {o : Nat} (ho : o < 3) (x : Nd) (v : Value) (hx : (nd (F m)).set o v = nd x) :
    ∃ H', (∀ (R : Type) (K : Heap → Option R), hst1 H (some ⟨bn, m * 3 + o, none⟩) v K = K H') ∧ Rt M H' p bn n cap z a b e d (upd F m x) ∧ But bn H H' ∧ H'.length = H.length := by
  obtain ⟨H', e1, O, B, l⟩ := Owns.st1 (o := m * 3 + o) T.n (by rw [nds_len]; omega) v
  rw [nds_set F hm ho x v hx] at O
  exact ⟨H', e1, ⟨T.o.but B (fun h => T.ne h.symm), O, T.ne, T.lp, T.lb⟩, B, l⟩
theorem Rt.put3 {M : Nat} {H : Heap} {p bn n cap z a b : Nat} {e d : Bool} {F : Nat → Nd} (T : Rt M H p bn n cap z a b e d F) {m : Nat} (hm : m < n) (x : Nd) :
    ∃ H', (∀ (R : Type) (K : Heap → Option R), hst H (some ⟨bn, m * 3, none⟩) (nd x) K = K H') ∧ Rt M H' p bn n cap z a b e d (upd F m x) ∧ But bn H H' ∧ H'.length = H.length := by
  obtain ⟨H', e1, O, l, s⟩ := hst_own (o := m * 3) (vs := nd x) T.n (by rw [nds_len]; have : (nd x).length = 3 := rfl; omega) rfl
  rw [nds_splice F hm x] at O
  have B : But bn H H' := ⟨by omega, fun k _ hk => s k hk⟩
  exact ⟨H', e1, ⟨T.o.but B (fun h => T.ne h.symm), O, T.ne, T.lp, T.lb⟩, B, l⟩
theorem Rt.cell {M : Nat} {H : Heap} {p bn n cap z a b : Nat} {e d : Bool} {F : Nat → Nd} (T : Rt M H p bn n cap z a b e d F) {m : Nat} (hm : m < n) {o : Nat} (ho : o < 3) : hcell H bn (m * 3 + o) = (nd (F m))[o]? := by
  rw [T.n.sees.cell]; exact nds_at _ hm ho
theorem rix {a b x y L : Nat} (ha : 1 ≤ a) (hb : 1 ≤ b) (hx : x < a) (hy : y < b) (hab : a * b ≤ 65536) (hL : 1 ≤ L) : IntKind.wrap .i64 (IntKind.wrap .i64 ((y : Int) * (a : Int)) + (x : Int)) = ((base a b 0 + ix a x y 0 : Nat) : Int) ∧ base a b 0 + ix a x y 0 < base a b L := by
  have h1 : (y + 1) * a ≤ b * a := Nat.mul_le_mul_right a hy
  have h3 := base_lt (a := a) (b := b) (L := L) (i := 0) (j := ix a x y 0) hL (ix_lt hx hy 0)
  have e : ix a x y 0 = y * a + x := by unfold ix; rw [wl_zero ha]; simp
  refine ⟨?_, h3⟩
  rw [Nat.add_mul, Nat.mul_comm b] at h1
  rw [e, ← Int.natCast_mul]
  have e0 : base a b 0 = 0 := rfl
  rw [e0]
  generalize y * a = m at h1 ⊢
  rw [w64 (n := (m : Int)) (by omega) (by omega), w64 (by omega) (by omega)]
  omega
theorem rSet_eq {k : Nat} {M : Nat} {H : Heap} {p bn n cap z a b L : Nat} {e d : Bool} {F : Nat → Nd} {g : Nat → Nat → Nd} (T : Rt M H p bn n cap z a b e d F) (hn : n = base a b L) (hr : Rel a b L F g) (ha : 1 ≤ a) (hb : 1 ≤ b) (hab : a * b ≤ 65536) (hL : 1 ≤ L) (x y v : Int) :
    ∃ H' F', (∀ (R : Type) (K : Int → Heap → Option R), R10_Tree_Set k (some ⟨p, 0, none⟩) x y v H K = K (setE a b e d x y v) H') ∧ Rt M H' p bn n cap z a b e d F' ∧ Rel a b L F' (setT a b e d x y v g) ∧ But bn H H' := by
  have m0 : hcell H p 0 = some (.bool true) := T.o.sees.cell 0
  have m1 : hcell H p 1 = some (.int .i64 (a : Int)) := T.o.sees.cell 1
  have m3 : hcell H p 3 = some (.slice (some ⟨bn, 0, none⟩) n cap) := T.o.sees.cell 3
  have m4 : hcell H p 4 = some (.bool e) := T.o.sees.cell 4
  have m5 : hcell H p 5 = some (.bool d) := T.o.sees.cell 5
  unfold setT
  by_cases hs : e = true ∨ d = true
  · have s1 : setE a b e d x y v = 6 := if_pos hs
    rw [s1]
    refine ⟨H, F, fun R K => ?_, T, by rw [if_neg (by omega)]; exact hr, .refl _ _⟩
    unfold R10_Tree_Set R10_Tree_Set_b R10_Tree_Set_p0 R10_Tree_Set_p0_b
    refine go_f rfl (go_nil (go_fad (go_b m0 (go_f rfl (go_nil (go_fad (go_b m4 ?_)))))))
    cases he : e
    · refine go_f rfl (go_nil (go_fad (go_b m5 ?_)))
      exact go_t (by rw [he] at hs; simpa using hs) rfl
    · exact go_t rfl rfl
  have he : e = false := by cases e <;> simp_all
  have hd : d = false := by cases d <;> simp_all
  have start : ∀ (R : Type) (K : Int → Heap → Option R) (r : Option R), (bif !(ins a b x y) then K 2 H else bif decide (v < 0) then K 2 H else bif decide (v > 65535) then K 2 H else hidx (some ⟨bn, 0, none⟩) n (IntKind.wrap .i64 ((IntKind.wrap .i64 (y * (a : Int))) + x)) 3 fun p218 => hfad 0 p218 fun p219 => hst1 H p219 (.int .i64 v) fun H220 => K 0 H220) = r → R10_Tree_Set k (some ⟨p, 0, none⟩) x y v H K = r := by
    intro R K r h
    unfold R10_Tree_Set R10_Tree_Set_b R10_Tree_Set_p0 R10_Tree_Set_p0_b R10_Tree_Set_p1 R10_Tree_Set_p1_b
    refine go_f rfl (go_nil (go_fad (go_b m0 (go_f rfl (go_nil (go_fad (go_b m4 (go_f he (go_nil (go_fad (go_b m5 (go_f hd ((leaf_eq T _ _ _ _).trans ?_)))))))))))))
    refine Eq.trans ?_ h
    cases ins a b x y
    · rfl
    · cases decide (v < 0)
      · cases decide (v > 65535)
        · exact go_f rfl (go_f rfl (go_f rfl (go_nil (go_fad (go_l m3 (go_nil (go_fad (go_i m1 rfl))))))))
        · rfl
      · rfl
  by_cases hg : ins a b x y = true ∧ 0 ≤ v ∧ v ≤ 65535
  · have hE : setE a b e d x y v = 0 := by unfold setE; rw [if_neg hs, if_pos hg]
    obtain ⟨hi, hv0, hv1⟩ := hg
    rw [hE, if_pos rfl]
    obtain ⟨u, w, rfl, rfl, hu, hw⟩ := ins_t hi
    obtain ⟨hw1, hlt⟩ := rix ha hb hu hw hab hL
    have hF := hr 0 (by omega) _ (ix_lt hu hw 0)
    obtain ⟨H2, e3, T2, B2, n2⟩ := T.put1 (m := base a b 0 + ix a u w 0) (by omega) (o := 0) (by omega) (v, (g 0 (ix a u w 0)).2) (.int .i64 v) (by rw [hF]; rfl)
    refine ⟨H2, _, fun R K => start R K _ ?_, T2, ?_, B2⟩
    · rw [hi]
      refine go_f rfl (go_f (decide_eq_false (by omega)) (go_f (decide_eq_false (by omega)) ?_))
      rw [hw1]
      exact (hidx3 (by omega) _ _).trans (go_fad (e3 _ _))
    · unfold setG
      rw [Int.toNat_natCast, Int.toNat_natCast]
      exact hr.put (by omega) (ix_lt hu hw 0) _
  · have hE : setE a b e d x y v = 2 := by unfold setE; rw [if_neg hs, if_neg hg]
    rw [hE]
    refine ⟨H, F, fun R K => start R K _ ?_, T, by rw [if_neg (by omega)]; exact hr, .refl _ _⟩
    cases hi : ins a b x y
    · rfl
    · refine go_f rfl ?_
      by_cases h0 : v < 0
      · exact go_t (decide_eq_true h0) rfl
      · exact go_f (decide_eq_false h0) (go_t (decide_eq_true (by rw [hi] at hg; simp at hg; omega)) rfl)
theorem rValue_eq {k : Nat} {M : Nat} {H : Heap} {p bn n cap z a b L : Nat} {e d : Bool} {F : Nat → Nd} {g : Nat → Nat → Nd} (T : Rt M H p bn n cap z a b e d F) (hn : n = base a b L) (hr : Rel a b L F g) (ha : 1 ≤ a) (hb : 1 ≤ b) (hab : a * b ≤ 65536) (hL : 1 ≤ L) (x y : Int) :
    ∀ (R : Type) (K : Int → Bool → Option R), R10_Tree_Value k (some ⟨p, 0, none⟩) x y H K = K (valR a b x y g).1 (valR a b x y g).2 := by
  intro R K
  have m0 : hcell H p 0 = some (.bool true) := T.o.sees.cell 0
  have m1 : hcell H p 1 = some (.int .i64 (a : Int)) := T.o.sees.cell 1
  have m3 : hcell H p 3 = some (.slice (some ⟨bn, 0, none⟩) n cap) := T.o.sees.cell 3
  unfold R10_Tree_Value R10_Tree_Value_b R10_Tree_Value_p0 R10_Tree_Value_p0_b valR
  refine go_f rfl (go_nil (go_fad (go_b m0 (go_f rfl ((leaf_eq T _ _ _ _).trans ?_)))))
  cases hi : ins a b x y
  · rw [if_neg (by simp)]; rfl
  · obtain ⟨u, w, rfl, rfl, hu, hw⟩ := ins_t hi
    obtain ⟨hw1, hlt⟩ := rix ha hb hu hw hab hL
    have hF := hr 0 (by omega) _ (ix_lt hu hw 0)
    have n1 : hcell H bn ((base a b 0 + ix a u w 0) * 3 + 1) = some (.int .i64 (g 0 (ix a u w 0)).2.1) := by rw [T.cell (by omega) (by omega), hF]; rfl
    have n2 : hcell H bn ((base a b 0 + ix a u w 0) * 3 + 2) = some (.bool (g 0 (ix a u w 0)).2.2) := by rw [T.cell (by omega) (by omega), hF]; rfl
    refine go_f rfl (go_nil (go_fad (go_l m3 (go_nil (go_fad (go_i m1 ?_))))))
    rw [hw1]
    refine (hidx3 (by omega) _ _).trans (go_fad (go_b n2 ?_))
    rw [Int.toNat_natCast, Int.toNat_natCast]
    cases hk : (g 0 (ix a u w 0)).2.2
    · rw [if_neg (by simp)]; rfl
    · rw [if_pos ⟨rfl, rfl⟩]
      refine go_f rfl (go_nil (go_fad (go_l m3 (go_nil (go_fad (go_i m1 ?_))))))
      rw [hw1]
      exact (hidx3 (by omega) _ _).trans (go_fad (go_i n1 rfl))
end Go.Proofs.Ytblkejnciinaeaa.Sh
/- Tagtree: the reference's path. -/
set_option linter.unusedVariables false
set_option linter.unusedSimpArgs false
namespace Go.Proofs.Ytblkejnciinaeaa.Sh
open Go.Proofs.Ytblkejnciinaeaa.FW Go.IntWalk
/-- The nodes from a level to a leaf. -/
def pl (P : Nat → Nat) : Nat → List Int
  | 0 => [((P 0 : Nat) : Int)]
  | i + 1 => ((P (i + 1) : Nat) : Int) :: pl P i
theorem pl_len (P : Nat → Nat) (i : Nat) : (pl P i).length = i + 1 := by
  induction i with
  | zero => rfl
  | succ i ih => rw [pl, List.length_cons, ih]
theorem pl_get (P : Nat → Nat) : ∀ (i j : Nat), j ≤ i → (pl P i)[j]? = some ((P (i - j) : Nat) : Int) := by
  intro i
  induction i with
  | zero => intro j hj; obtain rfl : j = 0 := by omega
            rfl
  | succ i ih =>
    intro j hj
    cases j with
    | zero => rfl
    | succ j => rw [pl, List.getElem?_cons_succ, ih j (by omega), show i + 1 - (j + 1) = i - j from by omega]
theorem wl_up {a : Nat} (i : Nat) : (wl a i + 1) / 2 = wl a (i + 1) := by
  have h1 := wl_pos a i
  have h2 := wl_half a i
  omega
theorem half_s {n : Nat} (h : n ≤ 100000) : IntKind.wrap .i64 (Int.tdiv ((n : Nat) : Int) 2) = ((n / 2 : Nat) : Int) := by
  rw [show Int.tdiv ((n : Nat) : Int) 2 = ((n / 2 : Nat) : Int) from rfl, w64 (by omega) (by omega)]
theorem b64c (xs : List Int) (x : Int) : b64 (x :: xs) = .int .i64 x :: b64 xs := rfl
theorem path_l (k : Nat) {a b L x y : Nat} (ha : 1 ≤ a) (hb : 1 ≤ b) (ham : a ≤ 65536) (hbm : b ≤ 65536) (hwh : ∀ i, wl a i * wl b i ≤ 65536) (hL : L ≤ 17) (hbs : base a b L ≤ 2000000) (hlast : ∀ i, i < L → ((wl a i = 1 ∧ wl b i = 1) ↔ i + 1 = L)) (hx : x < a) (hy : y < b) (N0 : Nat) :
    ∀ (m n i : Nat), m < n → L = i + 1 + m → ∀ (H : Heap) (q : Option Addr) (c : Nat), N0 ≤ H.length → (i = 0 ∧ q = none ∧ c = 0 ∨ ∃ i0, i = i0 + 1 ∧ Shows H q (b64 (pl (fun i => base a b i + ix a x y i) i0)) ∧ ∀ a, q = some a → N0 ≤ a.block) →
    ∃ H' q' c', (∀ (R : Type) (KR : Option Addr → Nat → Nat → Heap → Option R), R10_Tree_path_l0 k KR n ((x / 2 ^ i : Nat) : Int) ((y / 2 ^ i : Nat) : Int) q i c ((wl a i : Nat) : Int) ((wl b i : Nat) : Int) ((base a b i : Nat) : Int) H = KR q' L c' H') ∧ Shows H' q' (b64 (pl (fun i => base a b i + ix a x y i) (L - 1))) ∧ (∀ a, q' = some a → N0 ≤ a.block) ∧ Old H.length H H' := by
  have step : ∀ (n i : Nat), i < L → ∀ (H : Heap) (q : Option Addr) (c : Nat), N0 ≤ H.length → (i = 0 ∧ q = none ∧ c = 0 ∨ ∃ i0, i = i0 + 1 ∧ Shows H q (b64 (pl (fun i => base a b i + ix a x y i) i0)) ∧ ∀ a, q = some a → N0 ≤ a.block) →
      ∃ H' q' c', (∀ (R : Type) (KR : Option Addr → Nat → Nat → Heap → Option R), R10_Tree_path_l0 k KR (n + 1) ((x / 2 ^ i : Nat) : Int) ((y / 2 ^ i : Nat) : Int) q i c ((wl a i : Nat) : Int) ((wl b i : Nat) : Int) ((base a b i : Nat) : Int) H = bif (((wl a i * wl b i : Nat) : Int) == 1) then KR q' (i + 1) c' H' else R10_Tree_path_l0 k KR n ((x / 2 ^ (i + 1) : Nat) : Int) ((y / 2 ^ (i + 1) : Nat) : Int) q' (i + 1) c' ((wl a (i + 1) : Nat) : Int) ((wl b (i + 1) : Nat) : Int) ((base a b (i + 1) : Nat) : Int) H') ∧ Shows H' q' (b64 (pl (fun i => base a b i + ix a x y i) i)) ∧ (∀ a, q' = some a → N0 ≤ a.block) ∧ Old H.length H H' := by
    intro n i hi H q c hN hq
    have hxi : x / 2 ^ i ≤ x := Nat.div_le_self _ _
    have hyi : y / 2 ^ i ≤ y := Nat.div_le_self _ _
    have hwi := hwh i
    have hwa := wl_le a i
    have hwb := wl_le b i
    have hix := ix_lt hx hy i
    have hbl := base_lt (a := a) (b := b) hi hix
    have hbl2 : base a b i ≤ base a b L := base_le (by omega)
    have hbl3 : base a b (i + 1) ≤ base a b L := base_le (by omega)
    have e0 : IntKind.wrap .i64 (IntKind.wrap .i64 (((base a b i : Nat) : Int) + IntKind.wrap .i64 (((y / 2 ^ i : Nat) : Int) * ((wl a i : Nat) : Int))) + ((x / 2 ^ i : Nat) : Int)) = ((base a b i + ix a x y i : Nat) : Int) := by
      have he : ix a x y i = y / 2 ^ i * wl a i + x / 2 ^ i := rfl
      rw [← Int.natCast_mul]
      generalize y / 2 ^ i * wl a i = Y at he ⊢
      generalize x / 2 ^ i = X at he ⊢
      rw [w64 (n := (Y : Int)) (by omega) (by omega), w64 (n := ((base a b i : Nat) : Int) + (Y : Int)) (by omega) (by omega), w64 (by omega) (by omega)]
      omega
    have e1 : IntKind.wrap .i64 (((wl a i : Nat) : Int) * ((wl b i : Nat) : Int)) = ((wl a i * wl b i : Nat) : Int) := mulw hwi
    have e2 : IntKind.wrap .i64 (Int.tdiv ((x / 2 ^ i : Nat) : Int) 2) = ((x / 2 ^ (i + 1) : Nat) : Int) := by rw [half_s (by omega), Nat.div_div_eq_div_mul, Nat.pow_succ]
    have e3 : IntKind.wrap .i64 (Int.tdiv ((y / 2 ^ i : Nat) : Int) 2) = ((y / 2 ^ (i + 1) : Nat) : Int) := by rw [half_s (by omega), Nat.div_div_eq_div_mul, Nat.pow_succ]
    have e4 : IntKind.wrap .i64 (Int.tdiv (IntKind.wrap .i64 (((wl a i : Nat) : Int) + 1)) 2) = ((wl a (i + 1) : Nat) : Int) := by rw [half_w (by omega), wl_up]
    have e5 : IntKind.wrap .i64 (Int.tdiv (IntKind.wrap .i64 (((wl b i : Nat) : Int) + 1)) 2) = ((wl b (i + 1) : Nat) : Int) := by rw [half_w (by omega), wl_up]
    have e6 : IntKind.wrap .i64 (((base a b i : Nat) : Int) + ((wl a i * wl b i : Nat) : Int)) = ((base a b (i + 1) : Nat) : Int) := by
      rw [w64 (by omega) (by omega)]; exact (Int.natCast_add _ _).symm
    obtain ⟨Hn, hHn⟩ : ∃ Hn, Hn = H ++ [some (⟨[.int .i64 ((base a b i + ix a x y i : Nat) : Int)], false, 0⟩ : Blk)] := ⟨_, rfl⟩
    have on : Old H.length H Hn := hHn ▸ Old.app _ _
    have ln : Hn.length = H.length + 1 := by rw [hHn]; simp
    have On : Owns Hn H.length [.int .i64 ((base a b i + ix a x y i : Nat) : Int)] 0 := by rw [hHn]; exact hblk_new H _
    obtain ⟨H', q', c', ea, hS', hq', o'⟩ : ∃ H' q' c', (∀ (R : Type) (K : Option Addr → Nat → Nat → Heap → Option R), happS 1 8 Hn (some ⟨H.length, 0, none⟩) 1 1 q i K = K q' (i + 1) c' H') ∧ Shows H' q' (b64 (pl (fun i => base a b i + ix a x y i) i)) ∧ (∀ a, q' = some a → N0 ≤ a.block) ∧ Old Hn.length Hn H' := by
      rcases hq with ⟨rfl, rfl, rfl⟩ | ⟨i0, rfl, hS, hqn⟩
      · refine ⟨Hn, some ⟨H.length, 0, none⟩, 1, fun R K => ?_, On.sees.shows, fun a ha => by cases ha; exact hN, .refl _ _⟩
        unfold happS happ
        have : FW.hcells Hn none (0 * 1) = some [] := rfl
        rw [this]
        simp only
        rw [if_neg (by unfold unk; omega), if_pos (by omega), if_pos trivial]
      · have hc := (hS.keep on).hcells
        rw [b64_len, pl_len] at hc
        have hp := On.sees.shows.hcells
        refine ⟨Hn ++ [some ⟨[.int .i64 ((base a b (i0 + 1) + ix a x y (i0 + 1) : Nat) : Int)] ++ b64 (pl (fun i => base a b i + ix a x y i) i0), false, 1⟩], some ⟨Hn.length, 0, none⟩, unk, fun R K => ?_, ?_, fun a ha => by cases ha; simp only; omega, Old.app _ _⟩
        · unfold happS happ
          rw [Nat.mul_one, hc]
          simp only
          rw [if_neg (by unfold unk; omega), if_neg (by omega), if_pos (by omega)]
          have hp' : FW.hcells Hn (some ⟨H.length, 0, none⟩) (1 * 1) = some [.int .i64 ((base a b (i0 + 1) + ix a x y (i0 + 1) : Nat) : Int)] := hp
          rw [hp']
          simp only
          rw [Nat.add_comm 1 (i0 + 1)]
        · exact (show Owns _ Hn.length _ 1 from hblk_new Hn _).sees.shows
    refine ⟨H', q', c', fun R KR => ?_, hS', hq', on.trans (o'.mono on.1)⟩
    rw [R10_Tree_path_l0]
    unfold R10_Tree_path_l0_b
    rw [e0, e1, e2, e3, e4, e5, e6]
    exact go_halN hHn (ea _ _)
  intro m
  induction m with
  | zero =>
    intro n i hn hi H q c hN hq
    obtain ⟨n, rfl⟩ : ∃ n', n = n' + 1 := ⟨n - 1, by omega⟩
    obtain ⟨H', q', c', e, hS, hq', o⟩ := step n i (by omega) H q c hN hq
    have hone := (hlast i (by omega)).2 (by omega)
    refine ⟨H', q', c', fun R KR => (e R KR).trans ?_, by rw [show L - 1 = i from by omega]; exact hS, hq', o⟩
    rw [hone.1, hone.2, show L = i + 1 from by omega]
    rfl
  | succ m ih =>
    intro n i hn hi H q c hN hq
    obtain ⟨n, rfl⟩ : ∃ n', n = n' + 1 := ⟨n - 1, by omega⟩
    obtain ⟨H', q', c', e, hS, hq', o⟩ := step n i (by omega) H q c hN hq
    obtain ⟨H2, q2, c2, e2, hS2, hq2, o2⟩ := ih n (i + 1) (by omega) (by omega) H' q' c' (by have := o.1; omega) (.inr ⟨i, rfl, hS, hq'⟩)
    refine ⟨H2, q2, c2, fun R KR => (e R KR).trans ?_, hS2, hq2, o.trans (o2.mono o.1)⟩
    have hne : ¬ (wl a i = 1 ∧ wl b i = 1) := fun h => by have := (hlast i (by omega)).1 h; omega
    have h1 := (one_of (wl_pos a i) (wl_pos b i)).2 hne
    exact go_f (by rw [beq_eq_false_iff_ne]; omega) (e2 R KR)
/-- What the reference's tree has of a shape. -/
structure RG (a b L : Nat) : Prop where
  a1 : 1 ≤ a
  b1 : 1 ≤ b
  ab : a * b ≤ 65536
  am : a ≤ 65536
  bm : b ≤ 65536
  pos : 1 ≤ L
  len : L ≤ 17
  wh : ∀ i, wl a i * wl b i ≤ 65536
  bs : base a b L ≤ 2000000
  last : ∀ i, i < L → ((wl a i = 1 ∧ wl b i = 1) ↔ i + 1 = L)
theorem path_eq {k : Nat} (hk : 100 < k) {M : Nat} {H : Heap} {p bn n cap z a b L : Nat} {e d : Bool} {F : Nat → Nd} (T : Rt M H p bn n cap z a b e d F) (G : RG a b L) {x y : Nat} (hx : x < a) (hy : y < b) :
    ∃ H' q' c', (∀ (R : Type) (K : Option Addr → Nat → Nat → Heap → Option R), R10_Tree_path k (some ⟨p, 0, none⟩) (x : Int) (y : Int) H K = K q' L c' H') ∧ Shows H' q' (b64 (pl (fun i => base a b i + ix a x y i) (L - 1))) ∧ (∀ a, q' = some a → H.length ≤ a.block) ∧ Old H.length H H' := by
  have hp := G.pos
  have hl := G.len
  obtain ⟨H', q', c', e, hS, hq, o⟩ := path_l k G.a1 G.b1 G.am G.bm G.wh G.len G.bs G.last hx hy H.length (L - 1) k 0 (by omega) (by omega) H none 0 (Nat.le_refl _) (.inl ⟨rfl, rfl, rfl⟩)
  have m1 : hcell H p 1 = some (.int .i64 (a : Int)) := T.o.sees.cell 1
  have m2 : hcell H p 2 = some (.int .i64 (b : Int)) := T.o.sees.cell 2
  refine ⟨H', q', c', fun R K => ?_, hS, hq, o⟩
  have e' := e R (fun q337 l338 c339 H340 => K q337 l338 c339 H340)
  rw [Nat.pow_zero, Nat.div_one, Nat.div_one, wl_zero G.a1, wl_zero G.b1] at e'
  unfold R10_Tree_path R10_Tree_path_b
  exact go_nil (go_fad (go_i m1 (go_nil (go_fad (go_i m2 e')))))
end Go.Proofs.Ytblkejnciinaeaa.Sh
/- Tagtree: the program's walk, for a reader (TtFe.lean turned). -/
set_option linter.unusedVariables false
set_option linter.unusedSimpArgs false
namespace Go.Proofs.Ytblkejnciinaeaa.Sh
open Go.Proofs.Ytblkejnciinaeaa.FW Go.IntWalk
theorem node_l_d {k : Nat} {S : Type} {D : Dev S} {code : Cod S} (O : DevOk D code (fun R => @tagtree_Tree_Decode_1 R k)) {t : Int} (ht : t ≤ 65536) (pt : Option Addr) (x y i : Int) (pq : Option Addr) (pl pc : Nat) {pb bb : Nat} (hbb : bb ≠ D.p) (hpb : pb ≠ D.p) (hbp : bb ≠ pb) :
    ∀ (m n : Nat), m + 1 < n → ∀ (c : Nat) (s : S) (q : Option Addr) (H : Heap) (nn : Nd), (t - nn.2.1).toNat = m → 0 ≤ nn.2.1 → D.inv s q H → D.room s (c + m + 1) → Owns H bb (nd nn) 0 → Owns H pb [.pointer (some ⟨D.p, 0, none⟩)] 0 → (∀ a, q = some a → a.block ≠ bb ∧ a.block ≠ pb) →
    ∃ q' H', (∀ (R : Type) (KE : Option Addr → Int → Int → Int → Option Addr → Option Addr → Nat → Nat → Int → Option Addr → Heap → Option R) (KR : Int → Heap → Option R), tagtree_Tree_walk_v53_l1 k KE KR n pt x y t (some ⟨pb, 0, none⟩) pq pl pc i (some ⟨bb, 0, none⟩) H = if (nlp code m s nn).1 ≠ 0 then KR (nlp code m s nn).1 H' else KE pt x y t (some ⟨pb, 0, none⟩) pq pl pc i (some ⟨bb, 0, none⟩) H') ∧
      D.inv (nlp code m s nn).2.1 q' H' ∧ ((nlp code m s nn).1 = 0 → D.room (nlp code m s nn).2.1 (c + (t - (nlp code m s nn).2.2.2.1).toNat)) ∧ Owns H' bb (nd (nlp code m s nn).2.2) 0 ∧ 0 ≤ (nlp code m s nn).2.2.2.1 ∧ Fr D.p bb q H q' H' ∧ (∀ a, q' = some a → a.block ≠ bb ∧ a.block ≠ pb) := by
  intro m
  induction m with
  | zero =>
    intro n hn c s q H nn hm h0 hi hr ho hp hq
    obtain ⟨n, rfl⟩ : ∃ n', n = n' + 1 := ⟨n - 1, by omega⟩
    have m1 : hcell H bb 1 = some (.int .i64 nn.2.1) := ho.sees.cell 1
    refine ⟨q, H, fun R KE KR => ?_, hi, fun _ => O.mono hr (by simp only [nlp]; omega), ho, h0, .refl _ _ _ _, hq⟩
    rw [if_neg (by simp [nlp])]
    unfold tagtree_Tree_walk_v53_l1 tagtree_Tree_walk_v53_l1_b tagtree_Tree_walk_v53_p2 tagtree_Tree_walk_v53_p2_b
    exact go_fad (go_i m1 (go_f (decide_eq_false (by omega)) rfl))
  | succ m ih =>
    intro n hn c s q H nn hm h0 hi hr ho hp hq
    obtain ⟨n, rfl⟩ : ∃ n', n = n' + 1 := ⟨n - 1, by omega⟩
    have c0 : hcell H bb 0 = some (.int .i64 nn.1) := ho.sees.cell 0
    have c1 : hcell H bb 1 = some (.int .i64 nn.2.1) := ho.sees.cell 1
    have c2 : hcell H bb 2 = some (.bool nn.2.2) := ho.sees.cell 2
    have dl : decide (nn.2.1 < t) = true := decide_eq_true (by omega)
    cases hkn : nn.2.2
    case true =>
      have er : nlp code (m + 1) s nn = (0, s, nn) := by simp only [nlp]; rw [if_pos hkn]
      rw [er]
      refine ⟨q, H, fun R KE KR => ?_, hi, fun _ => O.mono hr (by simp only; omega), ho, h0, .refl _ _ _ _, hq⟩
      rw [if_neg (by simp)]
      unfold tagtree_Tree_walk_v53_l1 tagtree_Tree_walk_v53_l1_b tagtree_Tree_walk_v53_p2 tagtree_Tree_walk_v53_p2_b
      refine go_fad (go_i c1 (go_t dl (go_fad (go_b c2 ?_))))
      rw [hkn]; rfl
    case false =>
      obtain ⟨q1, H1, e1, i1, r1, s1⟩ := O.run (m := c + m + 1) hi (by rw [show c + m + 1 + 1 = c + (m + 1) + 1 from by omega]; exact hr) hp nn
      have hbq : ∀ a, q = some a → a.block ≠ bb := fun a ha => (hq a ha).1
      have hpq : ∀ a, q = some a → a.block ≠ pb := fun a ha => (hq a ha).2
      have ho1 : Owns H1 bb (nd nn) 0 := ho.same (s1.old bb ho.lt hbb hbq)
      have hp1 : Owns H1 pb [.pointer (some ⟨D.p, 0, none⟩)] 0 := hp.same (s1.old pb hp.lt hpb hpq)
      have hq1 : ∀ a, q1 = some a → a.block ≠ bb ∧ a.block ≠ pb := fun a ha => by
        rcases s1.new with h | h
        · subst h; exact hq a ha
        · have := h a ha; have := ho.lt; have := hp.lt; omega
      have start : ∀ (R : Type) (KE : Option Addr → Int → Int → Int → Option Addr → Option Addr → Nat → Nat → Int → Option Addr → Heap → Option R) (KR : Int → Heap → Option R) (r : Option R),
          (bif ((code s nn).1.2 != 0) then KR (code s nn).1.2 H1 else bif ((code s nn).1.1 == 1) then (hfad 2 (some ⟨bb, 0, none⟩) fun p => hst1 H1 p (.bool true) fun H => tagtree_Tree_walk_v53_l1 k KE KR n pt x y t (some ⟨pb, 0, none⟩) pq pl pc i (some ⟨bb, 0, none⟩) H) else hfad 1 (some ⟨bb, 0, none⟩) fun p => ldI .i64 H1 p fun n380 => hfad 1 (some ⟨bb, 0, none⟩) fun p381 => hst1 H1 p381 (.int .i64 (IntKind.wrap .i64 (n380 + 1))) fun H => tagtree_Tree_walk_v53_l1 k KE KR n pt x y t (some ⟨pb, 0, none⟩) pq pl pc i (some ⟨bb, 0, none⟩) H) = r →
          tagtree_Tree_walk_v53_l1 k KE KR (n + 1) pt x y t (some ⟨pb, 0, none⟩) pq pl pc i (some ⟨bb, 0, none⟩) H = r := by
        intro R KE KR r h
        unfold tagtree_Tree_walk_v53_l1 tagtree_Tree_walk_v53_l1_b tagtree_Tree_walk_v53_p2 tagtree_Tree_walk_v53_p2_b
        refine go_fad (go_i c1 (go_t dl (go_fad (go_b c2 ?_))))
        refine go_t (by rw [hkn]; rfl) (go_ip c0 (go_ip c1 (go_bp c2 ?_)))
        exact (e1 R _).trans h
      by_cases herr : (code s nn).1.2 = 0
      · have de : ((code s nn).1.2 != 0) = false := by rw [herr]; rfl
        by_cases hbit : (code s nn).1.1 = 1
        · have db : ((code s nn).1.1 == 1) = true := by rw [hbit]; rfl
          have er : nlp code (m + 1) s nn = (0, (code s nn).2, nn.1, nn.2.1, true) := by simp only [nlp]; rw [if_neg (by rw [hkn]; simp), if_neg (by simp [herr]), if_pos hbit]
          obtain ⟨H2, e2, O2, B2, n2⟩ := Owns.st1 (o := 2) ho1 (by simp [nd]) (.bool true)
          have O2' : Owns H2 bb (nd (nn.1, nn.2.1, true)) 0 := O2
          have i2 : D.inv (code s nn).2 q1 H2 := O.same i1 B2.1 (B2.2 _ (O.lt i1) (fun h => hbb h.symm)) fun a ha => B2.2 _ (O.qlt i1 a ha) (hq1 a ha).1
          have f2 : Fr D.p bb q H q1 H2 := (Fr.of_stp s1).trans (.of_but B2)
          rw [er]
          obtain ⟨n, rfl⟩ : ∃ n', n = n' + 1 := ⟨n - 1, by omega⟩
          have d1 : hcell H2 bb 1 = some (.int .i64 nn.2.1) := O2'.sees.cell 1
          have d2 : hcell H2 bb 2 = some (.bool true) := O2'.sees.cell 2
          refine ⟨q1, H2, fun R KE KR => start R KE KR _ ?_, i2, fun _ => O.mono r1 (by simp only; omega), O2', h0, f2, hq1⟩
          rw [if_neg (by simp)]
          refine go_f de (go_t db (go_fad ((e2 _ _).trans ?_)))
          unfold tagtree_Tree_walk_v53_l1 tagtree_Tree_walk_v53_l1_b tagtree_Tree_walk_v53_p2 tagtree_Tree_walk_v53_p2_b
          exact go_fad (go_i d1 (go_t dl (go_fad (go_b d2 (go_f rfl rfl)))))
        · have db : ((code s nn).1.1 == 1) = false := by rw [beq_eq_false_iff_ne]; exact hbit
          have er : nlp code (m + 1) s nn = nlp code m (code s nn).2 (nn.1, nn.2.1 + 1, nn.2.2) := by
            conv => lhs; rw [nlp]
            rw [if_neg (by rw [hkn]; simp), if_neg (by simp [herr]), if_neg hbit]
          obtain ⟨H2, e2, O2, B2, n2⟩ := Owns.st1 (o := 1) ho1 (by simp [nd]) (.int .i64 (nn.2.1 + 1))
          have O2' : Owns H2 bb (nd (nn.1, nn.2.1 + 1, nn.2.2)) 0 := O2
          have i2 : D.inv (code s nn).2 q1 H2 := O.same i1 B2.1 (B2.2 _ (O.lt i1) (fun h => hbb h.symm)) fun a ha => B2.2 _ (O.qlt i1 a ha) (hq1 a ha).1
          have f2 : Fr D.p bb q H q1 H2 := (Fr.of_stp s1).trans (.of_but B2)
          have hp2 : Owns H2 pb [.pointer (some ⟨D.p, 0, none⟩)] 0 := hp1.but B2 (fun h => hbp h.symm)
          obtain ⟨q3, H3, e3, i3, r3, O3, z3, f3, hq3⟩ := ih n (by omega) c (code s nn).2 q1 H2 (nn.1, nn.2.1 + 1, nn.2.2) (by simp only; omega) (by simp only; omega) i2 r1 O2' hp2 hq1
          have d1 : hcell H1 bb 1 = some (.int .i64 nn.2.1) := ho1.sees.cell 1
          rw [er]
          refine ⟨q3, H3, fun R KE KR => start R KE KR _ ?_, i3, r3, O3, z3, f2.trans f3, hq3⟩
          refine go_f de (go_f db (go_fad (go_i d1 (go_fad ?_))))
          rw [w64 (n := nn.2.1 + 1) (by omega) (by omega)]
          exact (e2 _ _).trans (e3 R KE KR)
      · have de : ((code s nn).1.2 != 0) = true := by rw [bne_iff_ne]; exact herr
        have er : nlp code (m + 1) s nn = ((code s nn).1.2, (code s nn).2, nn) := by simp only [nlp]; rw [if_neg (by rw [hkn]; simp), if_pos herr]
        rw [er]
        refine ⟨q1, H1, fun R KE KR => start R KE KR _ ?_, i1, fun h => (herr h).elim, ho1, h0, .of_stp s1, hq1⟩
        rw [if_pos herr]
        exact go_t de rfl
theorem walk_l0_d {k : Nat} (hk : 70000 < k) {S : Type} {D : Dev S} {code : Cod S} (O : DevOk D code (fun R => @tagtree_Tree_Decode_1 R k)) {t : Int} (ht : t ≤ 65536) {N p : Nat} {q : Option Addr} {c : Nat} {l : List Lv} {e d : Bool} {g : Nat → Nat → Nd} {a b x y : Nat} (G : Geo a b l) (hx : x < a) (hy : y < b) (hg : ∀ i j, 0 ≤ (g i j).2.1) {pb bp pc : Nat} (hbp : bp ≠ D.p) (hpb : pb ≠ D.p) (hpp : bp ≠ pb) (hD : Off p q l D.p) (hB : Off p q l bp) :
    ∀ (m n : Nat), m < n → m ≤ l.length → ∀ (r : Nat) (s : S) (q2 : Option Addr) (H : Heap) (low : Int) (pf : Nat → Nd), D.inv s q2 H → D.room s (r + m + (t - low).toNat) → 0 ≤ low → Tn N H p q c l e d g → Owns H bp (nds l.length pf) 0 → Owns H pb [.pointer (some ⟨D.p, 0, none⟩)] 0 → (∀ a, q2 = some a → a.block ≠ bp ∧ a.block ≠ pb ∧ Off p q l a.block) →
    ∃ q2' H', (∀ (R : Type) (KE : Option Addr → Int → Int → Option Addr → Nat → Nat → Heap → Option R) (KR : Int → Heap → Option R), tagtree_Tree_walk_v53_l0 k KE KR n (some ⟨p, 0, none⟩) (x : Int) (y : Int) t (some ⟨pb, 0, none⟩) (some ⟨bp, 0, none⟩) l.length pc low ((m : Int) - 1) H = if (wk code t (fun i => g i (ix a x y i)) m low s pf).1 ≠ 0 then KR (wk code t (fun i => g i (ix a x y i)) m low s pf).1 H' else KE (some ⟨p, 0, none⟩) (x : Int) (y : Int) (some ⟨bp, 0, none⟩) l.length pc H') ∧
      D.inv (wk code t (fun i => g i (ix a x y i)) m low s pf).2.1 q2' H' ∧ ((wk code t (fun i => g i (ix a x y i)) m low s pf).1 = 0 → D.room (wk code t (fun i => g i (ix a x y i)) m low s pf).2.1 r) ∧ Tn N H' p q c l e d g ∧ Owns H' bp (nds l.length (wk code t (fun i => g i (ix a x y i)) m low s pf).2.2) 0 ∧ Fr D.p bp q2 H q2' H' ∧ (∀ a, q2' = some a → a.block ≠ bp ∧ a.block ≠ pb ∧ Off p q l a.block) := by
  intro m
  have hlen := G.len
  induction m with
  | zero =>
    intro n hn hml r s q2 H low pf hi hr h0 T hO hp hq
    obtain ⟨n, rfl⟩ : ∃ n', n = n' + 1 := ⟨n - 1, by omega⟩
    refine ⟨q2, H, fun R KE KR => ?_, hi, fun _ => O.mono hr (by omega), T, hO, .refl _ _ _ _, hq⟩
    rw [if_neg (by simp [wk])]
    unfold tagtree_Tree_walk_v53_l0 tagtree_Tree_walk_v53_l0_b
    exact go_f (decide_eq_false (by omega)) rfl
  | succ m ih =>
    intro n hn hml r s q2 H low pf hi hr h0 T hO hp hq
    obtain ⟨n, rfl⟩ : ∃ n', n = n' + 1 := ⟨n - 1, by omega⟩
    obtain ⟨v, hv⟩ : ∃ v, l[m]? = some v := ⟨_, List.getElem?_eq_getElem (by omega)⟩
    have hj := ix_lt hx hy m
    obtain ⟨J, hJ⟩ : ∃ J, J = ix a x y m := ⟨_, rfl⟩
    have hat : ∀ (R : Type) (K : Option Addr → Option R), tagtree_Tree_at (some ⟨p, 0, none⟩) (m : Int) (x : Int) (y : Int) H K = K (some ⟨v.b, J * 3, none⟩) := by rw [hJ]; exact T.at G hv hx hy
    rw [← hJ] at hj
    have n0 : hcell H v.b (J * 3 + 0) = some (.int .i64 (g m J).1) := T.cell G hv hj (o := 0) (by omega)
    have n1 : hcell H v.b (J * 3 + 1) = some (.int .i64 (g m J).2.1) := T.cell G hv hj (o := 1) (by omega)
    have n2 : hcell H v.b (J * 3 + 2) = some (.bool (g m J).2.2) := T.cell G hv hj (o := 2) (by omega)
    obtain ⟨Hn, hHn⟩ : ∃ Hn, Hn = H ++ [some (⟨[.int .i64 (g m J).1, .int .i64 (g m J).2.1, .bool (g m J).2.2], false, 0⟩ : Blk)] := ⟨_, rfl⟩
    have on : Old H.length H Hn := hHn ▸ Old.app _ _
    have mn : Owns Hn H.length (nd (g m J)) 0 := by rw [hHn]; exact hblk_new H _
    have m1 : hcell Hn H.length 1 = some (.int .i64 (g m J).2.1) := mn.sees.cell 1
    obtain ⟨H2, e2, O2, B2, l2⟩ := Owns.st1 (o := 1) mn (by simp [nd]) (.int .i64 (imx (g m J).2.1 low))
    have O2' : Owns H2 H.length (nd ((g m J).1, imx (g m J).2.1 low, (g m J).2.2)) 0 := O2
    have hx0 : 0 ≤ imx (g m J).2.1 low := by have := hg m J; unfold imx; split <;> omega
    have hxl : low ≤ imx (g m J).2.1 low := by unfold imx; split <;> omega
    have hDl := O.lt hi
    have hql := O.qlt hi
    have o2 : Old H.length H H2 := on.trans (B2.old (Nat.le_refl _) on.1)
    have i2 : D.inv s q2 H2 := O.same hi o2.1 (o2.2 _ hDl) fun a ha => o2.2 _ (hql a ha)
    have hp2 : Owns H2 pb [.pointer (some ⟨D.p, 0, none⟩)] 0 := hp.old o2 hp.lt
    have hpl := hp.lt
    have hOl := hO.lt
    have hO2 : Owns H2 bp (nds l.length pf) 0 := hO.old o2 hO.lt
    have T2 := T.old o2 (Nat.le_refl _)
    obtain ⟨q3, H3, e3, i3, r3, O3, z3, f3, hq3⟩ := node_l_d O ht (some ⟨p, 0, none⟩) (x : Int) (y : Int) (m : Int) (some ⟨bp, 0, none⟩) l.length pc (pb := pb) (bb := H.length) (by omega) hpb (by omega) (t - imx (g m J).2.1 low).toNat k (by omega) (r + m) s q2 H2 ((g m J).1, imx (g m J).2.1 low, (g m J).2.2) rfl hx0 i2 (O.mono hr (by omega)) O2' hp2 (fun a ha => by have := hql a ha; have := (hq a ha).2.1; exact ⟨by omega, this⟩)
    obtain ⟨r1, hr1⟩ : ∃ r1, r1 = nlp code (t - imx (g m J).2.1 low).toNat s ((g m J).1, imx (g m J).2.1 low, (g m J).2.2) := ⟨_, rfl⟩
    rw [← hr1] at i3 r3 O3 z3
    have e3' : ∀ (R : Type) (KE : Option Addr → Int → Int → Int → Option Addr → Option Addr → Nat → Nat → Int → Option Addr → Heap → Option R) (KR : Int → Heap → Option R), tagtree_Tree_walk_v53_l1 k KE KR k (some ⟨p, 0, none⟩) (x : Int) (y : Int) t (some ⟨pb, 0, none⟩) (some ⟨bp, 0, none⟩) l.length pc (m : Int) (some ⟨H.length, 0, none⟩) H2 = if r1.1 ≠ 0 then KR r1.1 H3 else KE (some ⟨p, 0, none⟩) (x : Int) (y : Int) t (some ⟨pb, 0, none⟩) (some ⟨bp, 0, none⟩) l.length pc (m : Int) (some ⟨H.length, 0, none⟩) H3 := by rw [hr1]; exact e3
    have f4 : Fr D.p bp q2 H q3 H3 := .drop o2 (Nat.le_refl _) f3
    have hOff : ∀ a, q3 = some a → a.block ≠ bp ∧ a.block ≠ pb ∧ Off p q l a.block := fun a ha => by
      rcases f4.new with h | h
      · subst h; exact hq a ha
      · have := h a ha; exact ⟨by omega, by omega, T.fresh this⟩
    have hO3 : Owns H3 bp (nds l.length pf) 0 := hO2.same (f3.old bp (by have := o2.1; omega) hbp (by omega) fun a ha => (hq a ha).1)
    have hp3 : Owns H3 pb [.pointer (some ⟨D.p, 0, none⟩)] 0 := hp2.same (f3.old pb (by have := o2.1; omega) hpb (by omega) fun a ha => (hq a ha).2.1)
    have T3 : Tn N H3 p q c l e d g := T.fr f4 hD (fun a ha => (hq a ha).2.2) hB
    have start : ∀ (R : Type) (KE : Option Addr → Int → Int → Option Addr → Nat → Nat → Heap → Option R) (KR : Int → Heap → Option R) (rr : Option R),
        (if r1.1 ≠ 0 then KR r1.1 H3 else (hfad 1 (some ⟨H.length, 0, none⟩) fun p405 => ldI .i64 H3 p405 fun n406 => ldI .i64 H3 (pad (some ⟨H.length, 0, none⟩) 0) fun n407 => ldI .i64 H3 (pad (some ⟨H.length, 0, none⟩) 1) fun n408 => ldB H3 (pad (some ⟨H.length, 0, none⟩) 2) fun t409 => hidx (some ⟨bp, 0, none⟩) l.length (m : Int) 3 fun p410 => hst H3 p410 [.int .i64 n407, .int .i64 n408, .bool t409] fun H411 => tagtree_Tree_walk_v53_l0 k KE KR n (some ⟨p, 0, none⟩) (x : Int) (y : Int) t (some ⟨pb, 0, none⟩) (some ⟨bp, 0, none⟩) l.length pc n406 (IntKind.wrap .i64 ((m : Int) - 1)) H411)) = rr →
        tagtree_Tree_walk_v53_l0 k KE KR (n + 1) (some ⟨p, 0, none⟩) (x : Int) (y : Int) t (some ⟨pb, 0, none⟩) (some ⟨bp, 0, none⟩) l.length pc low (((m + 1 : Nat) : Int) - 1) H = rr := by
      intro R KE KR rr h
      rw [show (((m + 1 : Nat) : Int) - 1) = (m : Int) from by omega]
      unfold tagtree_Tree_walk_v53_l0 tagtree_Tree_walk_v53_l0_b
      refine go_t (decide_eq_true (by omega)) ((hat _ _).trans (go_nil (go_ip n0 (go_ip n1 (go_bp n2 (go_halst hHn rfl rfl ?_))))))
      exact go_fad (go_i m1 (go_fad ((e2 _ _).trans ((e3' _ _ _).trans h))))
    by_cases herr : r1.1 = 0
    · obtain ⟨H4, e4, O4, l4, s4⟩ := hst_own (o := m * 3) (vs := nd r1.2.2) hO3 (by rw [nds_len]; have : (nd r1.2.2).length = 3 := rfl; omega) rfl
      rw [nds_splice _ (by omega) r1.2.2] at O4
      have B4 : But bp H3 H4 := ⟨by omega, fun i _ hi => s4 i hi⟩
      have i4 : D.inv r1.2.1 q3 H4 := O.same i3 B4.1 (B4.2 _ (O.lt i3) (fun h => hbp h.symm)) fun a ha => B4.2 _ (O.qlt i3 a ha) (hOff a ha).1
      have f5 : Fr D.p bp q2 H q3 H4 := f4.trans (.of_but B4)
      have T4 : Tn N H4 p q c l e d g := T3.fr (.of_but (p := D.p) (q := q3) B4) hD (fun a ha => (hOff a ha).2.2) hB
      obtain ⟨q5, H5, e5, i5, r5, T5, O5, f6, hq5⟩ := ih n (by omega) (by omega) r r1.2.1 q3 H4 r1.2.2.2.1 (upd pf m r1.2.2) i4 (r3 herr) z3 T4 O4 (hp3.but B4 (fun h => hpp h.symm)) hOff
      have hwk : wk code t (fun i => g i (ix a x y i)) (m + 1) low s pf = wk code t (fun i => g i (ix a x y i)) m r1.2.2.2.1 r1.2.1 (upd pf m r1.2.2) := by
        conv => lhs; rw [wk]
        simp only [← hJ, nl, ← hr1]
        rw [if_neg (by simp [herr])]
      rw [hwk]
      refine ⟨q5, H5, fun R KE KR => start R KE KR _ ?_, i5, r5, T5, O5, f5.trans f6, hq5⟩
      rw [if_neg (by simp [herr])]
      have k0 : hcell H3 H.length 0 = some (.int .i64 r1.2.2.1) := O3.sees.cell 0
      have k1 : hcell H3 H.length 1 = some (.int .i64 r1.2.2.2.1) := O3.sees.cell 1
      have k2 : hcell H3 H.length 2 = some (.bool r1.2.2.2.2) := O3.sees.cell 2
      refine go_fad (go_i k1 (go_ip k0 (go_ip k1 (go_bp k2 ((hidx3 (by omega) _ _).trans ((e4 _ _).trans ?_))))))
      rw [w64 (n := (m : Int) - 1) (by omega) (by omega)]
      exact e5 R KE KR
    · have hwk : wk code t (fun i => g i (ix a x y i)) (m + 1) low s pf = (r1.1, r1.2.1, pf) := by
        conv => lhs; rw [wk]
        simp only [← hJ, nl, ← hr1]
        rw [if_pos herr]
      rw [hwk]
      refine ⟨q3, H3, fun R KE KR => start R KE KR _ ?_, i3, fun h => (herr h).elim, T3, hO3, f4, hOff⟩
      rw [if_pos herr, if_pos herr]
theorem walk_l3_d {k : Nat} {N p : Nat} {q : Option Addr} {c : Nat} {l : List Lv} {e d : Bool} {g : Nat → Nat → Nd} {a b x y : Nat} (G : Geo a b l) (hx : x < a) (hy : y < b) {bp pc : Nat} {pf : Nat → Nd} (hB : Off p q l bp) :
    ∀ (m n j : Nat), m < n → l.length = j + m → ∀ (H : Heap), Tn N H p q c l e d (gw a x y g pf j) → Owns H bp (nds l.length pf) 0 →
    ∃ H', (∀ (R : Type) (KE : Heap → Option R), tagtree_Tree_walk_v53_l3 k KE n (some ⟨p, 0, none⟩) (x : Int) (y : Int) (some ⟨bp, 0, none⟩) l.length pc ((l.length : Nat) : Int) (j : Int) H = KE H') ∧ Tn N H' p q c l e d (gw a x y g pf l.length) ∧ H.length ≤ H'.length ∧ (∀ i, i < H.length → (∀ (j : Nat) (v : Lv), l[j]? = some v → v.b ≠ i) → hblk H' i = hblk H i) := by
  intro m
  have hlen := G.len
  induction m with
  | zero =>
    intro n j hn hj H T hO
    obtain ⟨n, rfl⟩ : ∃ n', n = n' + 1 := ⟨n - 1, by omega⟩
    have hjl : j = l.length := by omega
    subst hjl
    refine ⟨H, fun R KE => ?_, T, Nat.le_refl _, fun _ _ _ => rfl⟩
    unfold tagtree_Tree_walk_v53_l3 tagtree_Tree_walk_v53_l3_b
    exact go_f (decide_eq_false (by omega)) rfl
  | succ m ih =>
    intro n j hn hj H T hO
    obtain ⟨n, rfl⟩ : ∃ n', n = n' + 1 := ⟨n - 1, by omega⟩
    obtain ⟨v, hv⟩ : ∃ v, l[j]? = some v := ⟨_, List.getElem?_eq_getElem (by omega)⟩
    have hjx := ix_lt hx hy j
    have cell : ∀ o, o < 3 → hcell H bp (j * 3 + o) = (nd (pf j))[o]? := fun o ho => by rw [hO.sees.cell]; exact nds_at _ (by omega) ho
    have n0 : hcell H bp (j * 3 + 0) = some (.int .i64 (pf j).1) := cell 0 (by omega)
    have n1 : hcell H bp (j * 3 + 1) = some (.int .i64 (pf j).2.1) := cell 1 (by omega)
    have n2 : hcell H bp (j * 3 + 2) = some (.bool (pf j).2.2) := cell 2 (by omega)
    obtain ⟨Hn, hHn⟩ : ∃ Hn, Hn = H ++ [some (⟨[.int .i64 (pf j).1, .int .i64 (pf j).2.1, .bool (pf j).2.2], false, 0⟩ : Blk)] := ⟨_, rfl⟩
    have on : Old H.length H Hn := hHn ▸ Old.app _ _
    have mn : Owns Hn H.length (nd (pf j)) 0 := by rw [hHn]; exact hblk_new H _
    have k0 : hcell Hn H.length 0 = some (.int .i64 (pf j).1) := mn.sees.cell 0
    have k1 : hcell Hn H.length 1 = some (.int .i64 (pf j).2.1) := mn.sees.cell 1
    have k2 : hcell Hn H.length 2 = some (.bool (pf j).2.2) := mn.sees.cell 2
    have Tn1 := T.old on (Nat.le_refl _)
    have hat : ∀ (R : Type) (K : Option Addr → Option R), tagtree_Tree_at (some ⟨p, 0, none⟩) (j : Int) (x : Int) (y : Int) (roH Hn) K = K (some ⟨v.b, ix a x y j * 3, none⟩) := by
      obtain ⟨bq, hq, h1, _⟩ := Tn1.row G.pos
      have h2 := Tn1.o
      rw [hq] at h2
      exact at_eq G h2.sees.ro h1.sees.ro hv hx hy
    obtain ⟨H2, e3, T2, B2, l2⟩ := Tn1.put3 G hv hjx (pf j)
    rw [gw_succ] at T2
    have hO2 : Owns H2 bp (nds l.length pf) 0 := (hO.old on hO.lt).but B2 (fun h => hB.2.2 j v hv h.symm)
    obtain ⟨H3, e4, T3, l3, s3⟩ := ih n (j + 1) (by omega) (by omega) H2 T2 hO2
    refine ⟨H3, fun R KE => ?_, T3, by have := on.1; omega, fun i hi hne => ?_⟩
    · have e3' : ∀ (R : Type) (K : Heap → Option R), hst Hn (some ⟨v.b, ix a x y j * 3, none⟩) [.int .i64 (pf j).1, .int .i64 (pf j).2.1, .bool (pf j).2.2] K = K H2 := e3
      unfold tagtree_Tree_walk_v53_l3 tagtree_Tree_walk_v53_l3_b
      refine go_t (decide_eq_true (by omega)) ((hidx3 (by omega) _ _).trans (go_ip n0 (go_ip n1 (go_bp n2 (go_halst hHn rfl rfl ((hat _ _).trans ?_))))))
      rw [roH_tail]
      refine go_ip k0 (go_ip k1 (go_bp k2 (go_nil ((e3' _ _).trans ?_))))
      rw [w64 (n := (j : Int) + 1) (by omega) (by omega)]
      exact e4 R KE
    · rw [s3 i (by have := on.1; omega) hne, B2.2 i (by have := on.1; omega) (fun h => hne j v hv h.symm), on.2 i hi]
/-- What a walk does. -/
theorem walk_eq_d {k : Nat} (hk : 70000 < k) {S : Type} {D : Dev S} {code : Cod S} (O : DevOk D code (fun R => @tagtree_Tree_Decode_1 R k)) {t : Int} (ht : t ≤ 65536) {N p : Nat} {q : Option Addr} {c : Nat} {l : List Lv} {e d : Bool} {g : Nat → Nat → Nd} {a b x y : Nat} (G : Geo a b l) (hx : x < a) (hy : y < b) (hg : ∀ i j, 0 ≤ (g i j).2.1) {pb : Nat} (hpb : pb ≠ D.p) (hD : Off p q l D.p) {r : Nat} {s : S} {q2 : Option Addr} {H : Heap} (hi : D.inv s q2 H) (hr : D.room s (r + l.length + t.toNat)) (T : Tn N H p q c l e d g) (hp : Owns H pb [.pointer (some ⟨D.p, 0, none⟩)] 0) (hq : ∀ a, q2 = some a → a.block ≠ pb ∧ Off p q l a.block) :
    ∃ q2' H', (∀ (R : Type) (K : Int → Heap → Option R), tagtree_Tree_walk_v53 k (some ⟨p, 0, none⟩) (x : Int) (y : Int) t (some ⟨pb, 0, none⟩) H K = K (wkr code t g a x y l.length s).1 H') ∧
      D.inv (wkr code t g a x y l.length s).2.1 q2' H' ∧ ((wkr code t g a x y l.length s).1 = 0 → D.room (wkr code t g a x y l.length s).2.1 r) ∧
      Tn N H' p q c l e d (if (wkr code t g a x y l.length s).1 = 0 then gw a x y g (wkr code t g a x y l.length s).2.2 l.length else g) ∧
      H.length ≤ H'.length ∧ (∀ i, i < H.length → i ≠ D.p → (∀ a, q2 = some a → a.block ≠ i) → (∀ (j : Nat) (v : Lv), l[j]? = some v → v.b ≠ i) → hblk H' i = hblk H i) ∧ (q2' = q2 ∨ ∀ a, q2' = some a → H.length ≤ a.block) := by
  have hlen := G.len
  obtain ⟨H1, hH1⟩ : ∃ H1, H1 = H ++ [some (⟨nds l.length (fun _ => nz), false, 0⟩ : Blk)] := ⟨_, rfl⟩
  have o1 : Old H.length H H1 := hH1 ▸ Old.app _ _
  have O1 : Owns H1 H.length (nds l.length (fun _ => nz)) 0 := by rw [hH1]; exact hblk_new H _
  have hDl := O.lt hi
  have hql := O.qlt hi
  have hpl := hp.lt
  have i1 : D.inv s q2 H1 := O.same hi o1.1 (o1.2 _ hDl) fun a ha => o1.2 _ (hql a ha)
  have T1 := T.old o1 (Nat.le_refl _)
  have hB : Off p q l H.length := T.fresh (Nat.le_refl _)
  obtain ⟨q2', H2, e2, i2, r2, T2, O2, f2, hq2⟩ := walk_l0_d hk O ht G hx hy hg (pb := pb) (bp := H.length) (pc := l.length) (by omega) hpb (by omega) hD hB l.length k (by omega) (Nat.le_refl _) r s q2 H1 0 (fun _ => nz) i1 (by rw [Int.sub_zero]; exact hr) (by omega) T1 O1 (hp.old o1 hp.lt) (fun a ha => ⟨by have := hql a ha; omega, (hq a ha).1, (hq a ha).2⟩)
  obtain ⟨w, hw⟩ : ∃ w, w = wkr code t g a x y l.length s := ⟨_, rfl⟩
  have hw2 : w = wk code t (fun i => g i (ix a x y i)) l.length 0 s (fun _ => nz) := hw
  have f3 : Fr D.p H.length q2 H q2' H2 := (Fr.of_old o1).trans f2
  rw [← hw2] at i2 r2 O2
  have m0 : hcell H p 0 = some (.slice q l.length c) := T.o.sees.cell 0
  have m1 : hcell H1 p 0 = some (.slice q l.length c) := T1.o.sees.cell 0
  have emk : ∀ (R : Type) (K : Option Addr → Nat → Nat → Heap → Option R), hmk [.int .i64 0, .int .i64 0, .bool false] 24 H ((l.length : Nat) : Int) ((l.length : Nat) : Int) K = K (some ⟨H.length, 0, none⟩) l.length l.length H1 := fun R K => by rw [hH1]; exact hmk3 H (by omega) R K
  have start : ∀ (R : Type) (K : Int → Heap → Option R) (rr : Option R), (if w.1 ≠ 0 then K w.1 H2 else tagtree_Tree_walk_v53_l3 k (fun H449 => K 0 H449) k (some ⟨p, 0, none⟩) (x : Int) (y : Int) (some ⟨H.length, 0, none⟩) l.length l.length ((l.length : Nat) : Int) 0 H2) = rr → tagtree_Tree_walk_v53 k (some ⟨p, 0, none⟩) (x : Int) (y : Int) t (some ⟨pb, 0, none⟩) H K = rr := by
    intro R K rr h
    unfold tagtree_Tree_walk_v53 tagtree_Tree_walk_v53_b
    refine go_nil (go_fad (go_l m0 ((emk _ _).trans (go_nil (go_fad (go_l m1 ?_))))))
    rw [w64 (n := ((l.length : Nat) : Int) - 1) (by omega) (by omega)]
    refine (e2 _ _ _).trans ?_
    rw [← hw2]; exact h
  by_cases herr : w.1 = 0
  · obtain ⟨H3, e3, T3, l3, s3⟩ := walk_l3_d (k := k) (pc := l.length) (pf := w.2.2) G hx hy hB l.length k 0 (by omega) (by omega) H2 (by rw [gw_zero]; exact T2) O2
    have i3 : D.inv w.2.1 q2' H3 := O.same i2 l3 (s3 _ (O.lt i2) fun j v hv => hD.2.2 j v hv) fun a ha => s3 _ (O.qlt i2 a ha) fun j v hv => (hq2 a ha).2.2.2.2 j v hv
    refine ⟨q2', H3, ?_⟩
    rw [← hw]
    refine ⟨fun R K => start R K _ ?_, i3, r2, by rw [if_pos herr]; exact T3, by have := f3.len; omega, fun i hi' h1 h2 h3 => ?_, f3.new⟩
    · rw [if_neg (by simp [herr]), herr]; exact e3 R _
    · rw [s3 i (by have := f3.len; omega) h3, f3.old i hi' h1 (by omega) h2]
  · refine ⟨q2', H2, ?_⟩
    rw [← hw]
    refine ⟨fun R K => start R K _ ?_, i2, r2, by rw [if_neg herr]; exact T2, f3.len, fun i hi' h1 h2 _ => f3.old i hi' h1 (by omega) h2, f3.new⟩
    rw [if_pos herr]
end Go.Proofs.Ytblkejnciinaeaa.Sh
/- Tagtree: Decode. -/
set_option linter.unusedVariables false
set_option linter.unusedSimpArgs false
namespace Go.Proofs.Ytblkejnciinaeaa.Sh
open Go.Proofs.Ytblkejnciinaeaa.FW Go.IntWalk
def rcode (bs : List Int) : Cod (Nat × Nat) := fun s _ => rget bs s
theorem Rd.same {H H' : Heap} {p : Nat} {q : Option Addr} {bs : List Int} {s : Nat × Nat} (h : Rd H p q bs s) (h1 : hblk H' p = hblk H p) (h2 : ∀ a, q = some a → hblk H' a.block = hblk H a.block) : Rd H' p q bs s := by
  obtain ⟨c, hc⟩ := h.c
  exact ⟨⟨c, hc.same h1⟩, h.sh.same h2, h.ap, h.ok, h.by_⟩
def rDev (bs : List Int) (p : Nat) (qw : Option Addr) : Dev (Nat × Nat) := ⟨p, fun s q H => q = qw ∧ Rd H p qw bs s ∧ ∀ a, qw = some a → a.block < H.length, fun _ _ => True⟩
theorem rOk (k : Nat) (bs : List Int) (p : Nat) (qw : Option Addr) : DevOk (rDev bs p qw) (rcode bs) (fun R => @tagtree_Tree_Decode_1 R k) where
  lt h := h.2.1.lt
  qlt h a ha := h.2.2 a (h.1 ▸ ha)
  same h hl h1 h2 := ⟨h.1, h.2.1.same h1 fun a ha => h2 a (h.1.trans ha), fun a ha => Nat.lt_of_lt_of_le (h.2.2 a ha) hl⟩
  mono _ _ := trivial
  run := by
    intro s q H m pb hi hr hp n
    obtain ⟨rfl, W, hN⟩ := hi
    simp only [rDev] at hp
    obtain ⟨Hn, hHn⟩ : ∃ Hn, Hn = H ++ [some (⟨[.int .i64 n.1, .int .i64 n.2.1, .bool n.2.2], false, 0⟩ : Blk)] := ⟨_, rfl⟩
    have on : Old H.length H Hn := hHn ▸ Old.app _ _
    have W1 : Rd Hn p q bs s := W.same (on.2 _ W.lt) fun a ha => on.2 _ (hN a ha)
    have cp : hcell Hn pb 0 = some (.pointer (some ⟨p, 0, none⟩)) := (hp.old on hp.lt).sees.cell 0
    obtain ⟨H', e1, W2, S⟩ := pGet_eq k W1
    refine ⟨q, H', fun R K => ?_, ⟨rfl, W2, fun a ha => by have := hN a ha; have := on.1; have := S.1; omega⟩, trivial, (Stp.of_old on).trans (.of_but S)⟩
    unfold tagtree_Tree_Decode_1 tagtree_Tree_Decode_1_b
    exact go_halN hHn (go_p cp (e1 _ _))
/-- A call of Decode: the answer, the error, the sign, the nodes, the reader. -/
def decW (bs : List Int) (a L : Nat) (g : Nat → Nat → Nd) (x y : Nat) (t : Int) (s : Nat × Nat) : Int × (Nat × Nat) × (Nat → Nd) := wkr (rcode bs) t g a x y L s
def decR (bs : List Int) (a b L : Nat) (e d : Bool) (g : Nat → Nat → Nd) (x y t : Int) (s : Nat × Nat) : (Bool × Int) × Bool × (Nat → Nat → Nd) × (Nat × Nat) :=
  if e = true then ((false, 6), d, g, s) else if ins a b x y = true ∧ 0 ≤ t ∧ t ≤ 65536 then
    (if (decW bs a L g x.toNat y.toNat t s).1 = 0 then ((((decW bs a L g x.toNat y.toNat t s).2.2 0).2.2 && decide (((decW bs a L g x.toNat y.toNat t s).2.2 0).2.1 < t), 0), true, gw a x.toNat y.toNat g (decW bs a L g x.toNat y.toNat t s).2.2 L, (decW bs a L g x.toNat y.toNat t s).2.1)
     else ((false, (decW bs a L g x.toNat y.toNat t s).1), d, g, (decW bs a L g x.toNat y.toNat t s).2.1))
  else ((false, 2), d, g, s)
theorem decR_ok {bs : List Int} {a b L : Nat} {e d : Bool} {g : Nat → Nat → Nd} (h : Gok g) (x y t : Int) (s : Nat × Nat) : Gok (decR bs a b L e d g x y t s).2.2.1 := by
  unfold decR
  split
  · exact h
  · split
    · split
      · exact gw_ok h (wkr_ok _ _ h _ _ _ _ _)
      · exact h
    · exact h
theorem Decode_eq {k : Nat} (hk : 70000 < k) {N : Nat} {H : Heap} {p : Nat} {q : Option Addr} {c : Nat} {l : List Lv} {e d : Bool} {g : Nat → Nat → Nd} (T : Tn N H p q c l e d g) {a b : Nat} (G : Geo a b l) (hg : Gok g) {pw : Nat} {qw : Option Addr} {bs : List Int} {s : Nat × Nat} (W : Rd H pw qw bs s) (hql : ∀ a, qw = some a → a.block < H.length) (hD : Off p q l pw) (hq : ∀ a, qw = some a → Off p q l a.block) (x y t : Int) :
    ∃ H', (∀ (R : Type) (K : Bool → Int → Heap → Option R), tagtree_Tree_Decode k (some ⟨p, 0, none⟩) (some ⟨pw, 0, none⟩) x y t H K = K (decR bs a b l.length e d g x y t s).1.1 (decR bs a b l.length e d g x y t s).1.2 H') ∧ Tn N H' p q c l e (decR bs a b l.length e d g x y t s).2.1 (decR bs a b l.length e d g x y t s).2.2.1 ∧ Rd H' pw qw bs (decR bs a b l.length e d g x y t s).2.2.2 ∧ Ch p l pw qw H qw H' := by
  obtain ⟨Hb, hHb⟩ : ∃ Hb, Hb = H ++ [some (⟨[.pointer (some ⟨pw, 0, none⟩)], false, 0⟩ : Blk)] := ⟨_, rfl⟩
  have ob : Old H.length H Hb := hHb ▸ Old.app _ _
  have hpb : Owns Hb H.length [.pointer (some ⟨pw, 0, none⟩)] 0 := by rw [hHb]; exact hblk_new H _
  have mp : hcell Hb H.length 0 = some (.pointer (some ⟨pw, 0, none⟩)) := hpb.sees.cell 0
  have Tb := T.old ob (Nat.le_refl _)
  have Wb : Rd Hb pw qw bs s := W.same (ob.2 _ W.lt) fun a ha => ob.2 _ (hql a ha)
  have ok := tok_eq Tb G.pos
  have m1 : hcell Hb p 1 = some (.bool e) := Tb.o.sees.cell 1
  have hWl := W.lt
  have hlb : Hb.length = H.length + 1 := by rw [hHb]; simp
  cases he : e
  case true =>
    have er : decR bs a b l.length true d g x y t s = ((false, 6), d, g, s) := by unfold decR; rw [if_pos rfl]
    rw [er]
    rw [he] at Tb m1
    refine ⟨Hb, fun R K => ?_, Tb, Wb, .of_old ob⟩
    unfold tagtree_Tree_Decode tagtree_Tree_Decode_b tagtree_Tree_Decode_p0 tagtree_Tree_Decode_p0_b
    exact go_halN hHb ((ok _ _).trans (go_f rfl (go_nil (go_fad (go_b m1 (go_t rfl rfl))))))
  case false =>
    rw [he] at Tb m1
    obtain ⟨Hc, ec, Wc, Sc⟩ := pBitsR_eq (k := k) (by omega) Wb 0
    have ew : rB bs 0 s = ((0, 0), s) := by unfold rB; rw [if_pos ⟨by omega, by omega⟩]; rfl
    rw [ew] at ec Wc
    have Cc : Ch p l pw qw H qw Hc := (Ch.of_old ob).trans (.of_stp (.of_but Sc))
    have Tc1 : Tn N Hc p q c l false d g := Tb.fr (p2 := pw) (b := pw) (q2 := none) (q2' := none) (.of_but Sc) hD (fun a ha => by cases ha) hD
    have hpc : Owns Hc H.length [.pointer (some ⟨pw, 0, none⟩)] 0 := hpb.but Sc (by omega)
    have hqc : ∀ a, qw = some a → a.block < Hc.length := fun a ha => by have := hql a ha; have := Sc.1; omega
    obtain ⟨Hd, ed, od⟩ := has_eq Tc1 G x y
    have Td := Tc1.old od (Nat.le_refl _)
    have Wd : Rd Hd pw qw bs s := Wc.same (od.2 _ Wc.lt) fun a ha => od.2 _ (hqc a ha)
    have Cd : Ch p l pw qw H qw Hd := Cc.trans (.of_old od)
    have hpd : Owns Hd H.length [.pointer (some ⟨pw, 0, none⟩)] 0 := hpc.old od hpc.lt
    have start : ∀ (R : Type) (K : Bool → Int → Heap → Option R) (rr : Option R), (bif !(ins a b x y) then K false 2 Hd else bif decide (t < 0) then K false 2 Hd else bif decide (t > 65536) then K false 2 Hd else tagtree_Tree_walk_v53 k (some ⟨p, 0, none⟩) x y t (some ⟨H.length, 0, none⟩) Hd fun n541 H542 => bif (n541 != 0) then (K false n541 H542) else (hnil (some ⟨p, 0, none⟩) fun p543 => hfad 2 p543 fun p544 => hst1 H542 p544 (.bool true) fun H545 => tagtree_Tree_at (some ⟨p, 0, none⟩) 0 x y H545 fun p546 => hnil p546 fun p547 => hfad 2 p547 fun p548 => ldB H545 p548 fun t549 => bif t549 then (hnil p546 fun p550 => hfad 1 p550 fun p551 => ldI .i64 H545 p551 fun n552 => K (decide (n552 < t)) 0 H545) else (K false 0 H545))) = rr → tagtree_Tree_Decode k (some ⟨p, 0, none⟩) (some ⟨pw, 0, none⟩) x y t H K = rr := by
      intro R K rr h
      unfold tagtree_Tree_Decode tagtree_Tree_Decode_b tagtree_Tree_Decode_p0 tagtree_Tree_Decode_p0_b tagtree_Tree_Decode_p1 tagtree_Tree_Decode_p1_b
      refine go_halN hHb ((ok _ _).trans (go_f rfl (go_nil (go_fad (go_b m1 (go_f rfl (go_p mp ((ec _ _).trans ?_))))))))
      exact go_f rfl ((ed _ _).trans h)
    by_cases hgd : ins a b x y = true ∧ 0 ≤ t ∧ t ≤ 65536
    · have hi := hgd.1
      obtain ⟨u, w, rfl, rfl, hu, hw⟩ := ins_t hi
      obtain ⟨q2, Hg, eg, ig, _, Tg, lg, sg, ng⟩ := walk_eq_d (k := k) hk (rOk k bs pw qw) (t := t) (by omega) G hu hw hg (pb := H.length) (show H.length ≠ pw by omega) hD (r := 0) (s := s) (q2 := qw) (H := Hd) ⟨rfl, Wd, fun a ha => by have := hqc a ha; have := od.1; omega⟩ trivial Td hpd (fun a ha => ⟨by have := hql a ha; omega, hq a ha⟩)
      obtain ⟨rfl, Wg, hqg⟩ := ig
      have Cg : Ch p l pw q2 H q2 Hg := Cd.trans ⟨lg, fun i hi h1 h2 _ h4 => sg i hi h1 h2 h4, .inl rfl⟩
      obtain ⟨W0, hW0⟩ : ∃ W0, W0 = wkr (rcode bs) t g a u w l.length s := ⟨_, rfl⟩
      rw [← hW0] at eg Wg Tg
      have eW : decW bs a l.length g u w t s = W0 := hW0.symm
      have sr : ∀ (R : Type) (K : Bool → Int → Heap → Option R) (rr : Option R), (bif (W0.1 != 0) then (K false W0.1 Hg) else (hnil (some ⟨p, 0, none⟩) fun p543 => hfad 2 p543 fun p544 => hst1 Hg p544 (.bool true) fun H545 => tagtree_Tree_at (some ⟨p, 0, none⟩) 0 (u : Int) (w : Int) H545 fun p546 => hnil p546 fun p547 => hfad 2 p547 fun p548 => ldB H545 p548 fun t549 => bif t549 then (hnil p546 fun p550 => hfad 1 p550 fun p551 => ldI .i64 H545 p551 fun n552 => K (decide (n552 < t)) 0 H545) else (K false 0 H545))) = rr → tagtree_Tree_Decode k (some ⟨p, 0, none⟩) (some ⟨pw, 0, none⟩) (u : Int) (w : Int) t H K = rr := by
        intro R K rr h
        refine start R K _ ?_
        rw [hi]
        refine go_f rfl (go_f (decide_eq_false (by omega)) (go_f (decide_eq_false (by omega)) ((eg _ _).trans h)))
      by_cases herr : W0.1 = 0
      · have er : decR bs a b l.length false d g (u : Int) (w : Int) t s = (((W0.2.2 0).2.2 && decide ((W0.2.2 0).2.1 < t), 0), true, gw a u w g W0.2.2 l.length, W0.2.1) := by
          unfold decR
          rw [if_neg (by simp), if_pos hgd, Int.toNat_natCast, Int.toNat_natCast, eW, if_pos herr]
        rw [er]
        rw [if_pos herr] at Tg
        obtain ⟨Hh, eh, Oh, Bh, nh⟩ := Owns.st1 (o := 2) Tg.o (by simp) (.bool true)
        have Th : Tn N Hh p q c l false true (gw a u w g W0.2.2 l.length) := Tg.flag Oh Bh
        have Wh : Rd Hh pw q2 bs W0.2.1 := Wg.same (Bh.2 _ Wg.lt hD.1) fun a ha => Bh.2 _ (hqg a ha) (hq a ha).1
        obtain ⟨v0, hl0, e1, e2⟩ := G.lv0
        have hj := ix_lt hu hw 0
        have hat : ∀ (R : Type) (K : Option Addr → Option R), tagtree_Tree_at (some ⟨p, 0, none⟩) 0 (u : Int) (w : Int) Hh K = K (some ⟨v0.b, ix a u w 0 * 3, none⟩) := Th.at G hl0 hu hw
        have eg0 : gw a u w g W0.2.2 l.length 0 (ix a u w 0) = W0.2.2 0 := by unfold gw; rw [if_pos (show 0 < l.length from G.pos), upd_at]
        have n1 : hcell Hh v0.b (ix a u w 0 * 3 + 1) = some (.int .i64 (W0.2.2 0).2.1) := by have := Th.cell G hl0 hj (o := 1) (by omega); rw [eg0] at this; exact this
        have n2 : hcell Hh v0.b (ix a u w 0 * 3 + 2) = some (.bool (W0.2.2 0).2.2) := by have := Th.cell G hl0 hj (o := 2) (by omega); rw [eg0] at this; exact this
        refine ⟨Hh, fun R K => sr R K _ ?_, Th, Wh, Cg.trans (.of_but Bh)⟩
        refine go_f (by rw [herr]; rfl) (go_nil (go_fad ((eh _ _).trans ((hat _ _).trans (go_nil (go_fad (go_b n2 ?_)))))))
        cases hk : (W0.2.2 0).2.2
        · rfl
        · exact go_t rfl (go_nil (go_fad (go_i n1 rfl)))
      · have er : decR bs a b l.length false d g (u : Int) (w : Int) t s = ((false, W0.1), d, g, W0.2.1) := by
          unfold decR
          rw [if_neg (by simp), if_pos hgd, Int.toNat_natCast, Int.toNat_natCast, eW, if_neg herr]
        rw [er]
        rw [if_neg herr] at Tg
        refine ⟨Hg, fun R K => sr R K _ ?_, Tg, Wg, Cg⟩
        exact go_t (by rw [bne_iff_ne]; exact herr) rfl
    · have er : decR bs a b l.length false d g x y t s = ((false, 2), d, g, s) := by unfold decR; rw [if_neg (by simp), if_neg hgd]
      rw [er]
      refine ⟨Hd, fun R K => start R K _ ?_, Td, Wd, Cd⟩
      cases hi : ins a b x y
      · rfl
      · refine go_f rfl ?_
        by_cases h0 : t < 0
        · exact go_t (decide_eq_true h0) rfl
        · exact go_f (decide_eq_false h0) (go_t (decide_eq_true (by rw [hi] at hgd; simp at hgd; omega)) rfl)
end Go.Proofs.Ytblkejnciinaeaa.Sh
/- Tagtree: the reference's Decode. -/
set_option linter.unusedVariables false
set_option linter.unusedSimpArgs false
namespace Go.Proofs.Ytblkejnciinaeaa.Sh
open Go.Proofs.Ytblkejnciinaeaa.FW Go.IntWalk
theorem nlp_fst {S : Type} (code : Cod S) : ∀ (m : Nat) (s : S) (n : Nd), (nlp code m s n).2.2.1 = n.1 := by
  intro m
  induction m with
  | zero => intro s n; rfl
  | succ m ih =>
    intro s n
    rw [nlp]
    split
    · rfl
    · split
      · rfl
      · split
        · rfl
        · exact ih _ _
theorem wk_fst {S : Type} (code : Cod S) (t : Int) (f : Nat → Nd) : ∀ (m : Nat) (low : Int) (s : S) (pf : Nat → Nd), (wk code t f m low s pf).1 = 0 → ∀ i, i < m → ((wk code t f m low s pf).2.2 i).1 = (f i).1 := by
  intro m
  induction m with
  | zero => intro low s pf _ i hi; omega
  | succ m ih =>
    intro low s pf
    rw [wk]
    split
    · rename_i h; intro h2; exact (h h2).elim
    · intro h i hi
      by_cases him : i < m
      · exact ih _ _ _ h i him
      · obtain rfl : i = m := by omega
        rw [wk_pf _ _ _ _ _ _ _ _ (Nat.le_refl _), upd_at]
        exact nlp_fst _ _ _ _
theorem decR_vb {bs : List Int} {a b L : Nat} {e d : Bool} {g : Nat → Nat → Nd} {x y t : Int} {s : Nat × Nat} (h : ∀ j, (g 0 j).1 ≤ 65535) : ∀ j, ((decR bs a b L e d g x y t s).2.2.1 0 j).1 ≤ 65535 := by
  intro j
  unfold decR
  split
  · exact h j
  · split
    · split
      · rename_i hw
        show (gw a x.toNat y.toNat g _ L 0 j).1 ≤ 65535
        unfold gw
        split
        · rename_i hL
          by_cases hj : j = ix a x.toNat y.toNat 0
          · rw [hj, upd_at]
            have := wk_fst (rcode bs) t (fun i => g i (ix a x.toNat y.toNat i)) L 0 s (fun _ => nz) hw 0 hL
            unfold decW wkr
            rw [this]; exact h _
          · rw [upd_ne _ _ hj]; exact h j
        · exact h j
      · exact h j
    · exact h j
theorem rnode_d (k : Nat) {pr : Nat} {qr : Option Addr} {bs : List Int} {t : Int} (ht : t ≤ 65536) (pt : Option Addr) (x y ixx : Int) (pn : Option Addr) (ln cn : Nat) (pq : Option Addr) (pl_ pc : Nat) (cl ci : Int) {bb : Nat} (hbb : bb ≠ pr) (hqb : ∀ a, qr = some a → a.block ≠ bb) :
    ∀ (m n : Nat), m + 1 < n → ∀ (s : Nat × Nat) (H : Heap) (nn : Nd), (t - nn.2.1).toNat = m → 0 ≤ nn.2.1 → Rd H pr qr bs s → (∀ a, qr = some a → a.block < H.length) → Owns H bb (nd nn) 0 →
    ∃ H', (∀ (R : Type) (KE : Option Addr → Option Addr → Int → Int → Int → Option Addr → Nat → Nat → Int → Option Addr → Option Addr → Nat → Nat → Int → Int → Heap → Option R) (KR : Bool → Int → Heap → Option R), R10_Tree_Decode_l3 k KE KR n pt (some ⟨pr, 0, none⟩) x y t pn ln cn ixx (some ⟨bb, 0, none⟩) pq pl_ pc cl ci H = if (nlp (rcode bs) m s nn).1 ≠ 0 then KR false (nlp (rcode bs) m s nn).1 H' else KE pt (some ⟨pr, 0, none⟩) x y t pn ln cn ixx (some ⟨bb, 0, none⟩) pq pl_ pc cl ci H') ∧
      Rd H' pr qr bs (nlp (rcode bs) m s nn).2.1 ∧ Owns H' bb (nd (nlp (rcode bs) m s nn).2.2) 0 ∧ 0 ≤ (nlp (rcode bs) m s nn).2.2.2.1 ∧ H.length ≤ H'.length ∧ (∀ i, i < H.length → i ≠ pr → i ≠ bb → hblk H' i = hblk H i) := by
  intro m
  induction m with
  | zero =>
    intro n hn s H nn hm h0 hR hql ho
    obtain ⟨n, rfl⟩ : ∃ n', n = n' + 1 := ⟨n - 1, by omega⟩
    have m1 : hcell H bb 1 = some (.int .i64 nn.2.1) := ho.sees.cell 1
    refine ⟨H, fun R KE KR => ?_, hR, ho, h0, Nat.le_refl _, fun _ _ _ _ => rfl⟩
    rw [if_neg (by simp [nlp])]
    unfold R10_Tree_Decode_l3 R10_Tree_Decode_l3_b R10_Tree_Decode_p4 R10_Tree_Decode_p4_b
    exact go_fad (go_i m1 (go_f (decide_eq_false (by omega)) rfl))
  | succ m ih =>
    intro n hn s H nn hm h0 hR hql ho
    obtain ⟨n, rfl⟩ : ∃ n', n = n' + 1 := ⟨n - 1, by omega⟩
    have c1 : hcell H bb 1 = some (.int .i64 nn.2.1) := ho.sees.cell 1
    have c2 : hcell H bb 2 = some (.bool nn.2.2) := ho.sees.cell 2
    have dl : decide (nn.2.1 < t) = true := decide_eq_true (by omega)
    by_cases hkn : nn.2.2 = true
    · have er : nlp (rcode bs) (m + 1) s nn = (0, s, nn) := by rw [nlp, if_pos hkn]
      rw [er]
      refine ⟨H, fun R KE KR => ?_, hR, ho, h0, Nat.le_refl _, fun _ _ _ _ => rfl⟩
      rw [if_neg (by simp)]
      unfold R10_Tree_Decode_l3 R10_Tree_Decode_l3_b R10_Tree_Decode_p4 R10_Tree_Decode_p4_b
      refine go_fad (go_i c1 (go_t dl (go_fad (go_b c2 ?_))))
      rw [hkn]; rfl
    · have hkf : nn.2.2 = false := by simpa using hkn
      obtain ⟨H1, e1, R1, B1⟩ := uGet_eq k hR
      have ho1 : Owns H1 bb (nd nn) 0 := ho.but B1 hbb
      have l1 := B1.1
      have start : ∀ (R : Type) (KE : Option Addr → Option Addr → Int → Int → Int → Option Addr → Nat → Nat → Int → Option Addr → Option Addr → Nat → Nat → Int → Int → Heap → Option R) (KR : Bool → Int → Heap → Option R) (r : Option R),
          (bif ((rget bs s).1.2 != 0) then KR false (rget bs s).1.2 H1 else bif ((rget bs s).1.1 == 1) then (hfad 2 (some ⟨bb, 0, none⟩) fun p => hst1 H1 p (.bool true) fun H => R10_Tree_Decode_l3 k KE KR n pt (some ⟨pr, 0, none⟩) x y t pn ln cn ixx (some ⟨bb, 0, none⟩) pq pl_ pc cl ci H) else hfad 1 (some ⟨bb, 0, none⟩) fun p => ldI .i64 H1 p fun n760 => hfad 1 (some ⟨bb, 0, none⟩) fun p761 => hst1 H1 p761 (.int .i64 (IntKind.wrap .i64 (n760 + 1))) fun H => R10_Tree_Decode_l3 k KE KR n pt (some ⟨pr, 0, none⟩) x y t pn ln cn ixx (some ⟨bb, 0, none⟩) pq pl_ pc cl ci H) = r →
          R10_Tree_Decode_l3 k KE KR (n + 1) pt (some ⟨pr, 0, none⟩) x y t pn ln cn ixx (some ⟨bb, 0, none⟩) pq pl_ pc cl ci H = r := by
        intro R KE KR r h
        unfold R10_Tree_Decode_l3 R10_Tree_Decode_l3_b R10_Tree_Decode_p4 R10_Tree_Decode_p4_b
        refine go_fad (go_i c1 (go_t dl (go_fad (go_b c2 (go_t (by rw [hkf]; rfl) ?_)))))
        exact (e1 R _).trans h
      have ec : rcode bs s nn = rget bs s := rfl
      by_cases herr : (rget bs s).1.2 = 0
      · have de : ((rget bs s).1.2 != 0) = false := by rw [herr]; rfl
        by_cases hbit : (rget bs s).1.1 = 1
        · have db : ((rget bs s).1.1 == 1) = true := by rw [hbit]; rfl
          have er : nlp (rcode bs) (m + 1) s nn = (0, (rget bs s).2, nn.1, nn.2.1, true) := by rw [nlp, if_neg hkn, ec, if_neg (by simp [herr]), if_pos hbit]
          obtain ⟨H2, e2, O2, B2, n2⟩ := Owns.st1 (o := 2) ho1 (by simp [nd]) (.bool true)
          have O2' : Owns H2 bb (nd (nn.1, nn.2.1, true)) 0 := O2
          have R2 := R1.same (B2.2 _ R1.lt (fun h => hbb h.symm)) fun a ha => B2.2 _ (by have := hql a ha; omega) (hqb a ha)
          rw [er]
          obtain ⟨n, rfl⟩ : ∃ n', n = n' + 1 := ⟨n - 1, by omega⟩
          have d1 : hcell H2 bb 1 = some (.int .i64 nn.2.1) := O2'.sees.cell 1
          have d2 : hcell H2 bb 2 = some (.bool true) := O2'.sees.cell 2
          refine ⟨H2, fun R KE KR => start R KE KR _ ?_, R2, O2', h0, by omega, fun i hi h1 h2 => by rw [B2.2 i (by omega) h2, B1.2 i hi h1]⟩
          rw [if_neg (by simp)]
          refine go_f de (go_t db (go_fad ((e2 _ _).trans ?_)))
          unfold R10_Tree_Decode_l3 R10_Tree_Decode_l3_b R10_Tree_Decode_p4 R10_Tree_Decode_p4_b
          exact go_fad (go_i d1 (go_t dl (go_fad (go_b d2 (go_f rfl rfl)))))
        · have db : ((rget bs s).1.1 == 1) = false := by rw [beq_eq_false_iff_ne]; exact hbit
          have er : nlp (rcode bs) (m + 1) s nn = nlp (rcode bs) m (rget bs s).2 (nn.1, nn.2.1 + 1, nn.2.2) := by
            conv => lhs; rw [nlp]
            rw [if_neg hkn, ec, if_neg (by simp [herr]), if_neg hbit]
          obtain ⟨H2, e2, O2, B2, n2⟩ := Owns.st1 (o := 1) ho1 (by simp [nd]) (.int .i64 (nn.2.1 + 1))
          have O2' : Owns H2 bb (nd (nn.1, nn.2.1 + 1, nn.2.2)) 0 := O2
          have R2 := R1.same (B2.2 _ R1.lt (fun h => hbb h.symm)) fun a ha => B2.2 _ (by have := hql a ha; omega) (hqb a ha)
          have d1 : hcell H1 bb 1 = some (.int .i64 nn.2.1) := ho1.sees.cell 1
          obtain ⟨H3, e3, R3, O3, z3, l3, f3⟩ := ih n (by omega) (rget bs s).2 H2 (nn.1, nn.2.1 + 1, nn.2.2) (by simp only; omega) (by simp only; omega) R2 (fun a ha => by have := hql a ha; omega) O2'
          rw [er]
          refine ⟨H3, fun R KE KR => start R KE KR _ ?_, R3, O3, z3, by omega, fun i hi h1 h2 => by rw [f3 i (by omega) h1 h2, B2.2 i (by omega) h2, B1.2 i hi h1]⟩
          refine go_f de (go_f db (go_fad (go_i d1 (go_fad ?_))))
          rw [w64 (n := nn.2.1 + 1) (by omega) (by omega)]
          exact (e2 _ _).trans (e3 R KE KR)
      · have de : ((rget bs s).1.2 != 0) = true := by rw [bne_iff_ne]; exact herr
        have er : nlp (rcode bs) (m + 1) s nn = ((rget bs s).1.2, (rget bs s).2, nn) := by rw [nlp, if_neg hkn, ec, if_pos herr]
        rw [er]
        refine ⟨H1, fun R KE KR => start R KE KR _ ?_, R1, ho1, h0, l1, fun i hi h1 h2 => B1.2 i hi h1⟩
        rw [if_pos herr]
        exact go_t de rfl
def gx (a x y : Nat) (g : Nat → Nat → Nd) (pf : Nat → Nd) (m L : Nat) : Nat → Nat → Nd := fun i => if m ≤ i ∧ i < L then upd (g i) (ix a x y i) (pf i) else g i
theorem gx_full (a x y : Nat) (g : Nat → Nat → Nd) (pf : Nat → Nd) (L : Nat) : gx a x y g pf L L = g := by funext i; unfold gx; rw [if_neg (by omega)]
theorem gx_zero (a x y : Nat) (g : Nat → Nat → Nd) (pf : Nat → Nd) (L : Nat) : gx a x y g pf 0 L = gw a x y g pf L := by
  funext i; unfold gx gw
  by_cases h : i < L
  · rw [if_pos ⟨by omega, h⟩, if_pos h]
  · rw [if_neg (by omega), if_neg h]
theorem gx_step (a x y : Nat) (g : Nat → Nat → Nd) (pf : Nat → Nd) {m L : Nat} (hm : m < L) (nn : Nd) : upd2 (gx a x y g pf (m + 1) L) m (ix a x y m) nn = gx a x y g (upd pf m nn) m L := by
  funext i
  by_cases h : i = m
  · subst h; rw [upd2_at]; unfold gx; rw [if_neg (by omega), if_pos ⟨by omega, hm⟩, upd_at]
  · rw [upd2_ne _ _ _ h]; unfold gx
    by_cases h2 : m + 1 ≤ i ∧ i < L
    · rw [if_pos h2, if_pos ⟨by omega, h2.2⟩, upd_ne _ _ h]
    · rw [if_neg h2, if_neg (by omega)]
/-- A row of nodes, one stored. -/
theorem row_put {H : Heap} {bn n z : Nat} {F : Nat → Nd} (O : Owns H bn (nds n F) z) {m : Nat} (hm : m < n) (x : Nd) :
    ∃ H', (∀ (R : Type) (K : Heap → Option R), hst H (some ⟨bn, m * 3, none⟩) (nd x) K = K H') ∧ Owns H' bn (nds n (upd F m x)) z ∧ But bn H H' ∧ H'.length = H.length := by
  obtain ⟨H', e1, O', l, s⟩ := hst_own (o := m * 3) (vs := nd x) O (by rw [nds_len]; have : (nd x).length = 3 := rfl; omega) rfl
  rw [nds_splice F hm x] at O'
  exact ⟨H', e1, O', ⟨by omega, fun k _ hk => s k hk⟩, l⟩
theorem rwalk_d (k : Nat) (hk : 70000 < k) {a b L pr bn nn z : Nat} {qr : Option Addr} {bs : List Int} {t : Int} (ht : t ≤ 65536) (G : RG a b L) (hnn : nn = base a b L) {g : Nat → Nat → Nd} (hg : Gok g) {x y : Nat} (hx : x < a) (hy : y < b) {qp : Option Addr} (cn cp : Nat) (pt : Option Addr) (hbr : bn ≠ pr) (hbq : ∀ a, qr = some a → a.block ≠ bn) :
    ∀ (m n : Nat), m < n → m ≤ L → ∀ (s : Nat × Nat) (H : Heap) (low : Int) (F : Nat → Nd) (pf : Nat → Nd), Rd H pr qr bs s → (∀ a, qr = some a → a.block < H.length) → 0 ≤ low → Owns H bn (nds nn F) z → Rel a b L F (gx a x y g pf m L) → Shows H qp (b64 (pl (fun i => base a b i + ix a x y i) (L - 1))) → (∀ a, qp = some a → a.block ≠ bn ∧ a.block ≠ pr ∧ a.block < H.length) →
    ∃ H' F', (∀ (R : Type) (KE : Option Addr → Int → Int → Int → Option Addr → Nat → Nat → Heap → Option R) (KR : Bool → Int → Heap → Option R), R10_Tree_Decode_l2 k KE KR n pt (some ⟨pr, 0, none⟩) (x : Int) (y : Int) t (some ⟨bn, 0, none⟩) nn cn low qp L cp ((L : Nat) : Int) ((L - m : Nat) : Int) H = if (wk (rcode bs) t (fun i => g i (ix a x y i)) m low s pf).1 ≠ 0 then KR false (wk (rcode bs) t (fun i => g i (ix a x y i)) m low s pf).1 H' else KE pt (x : Int) (y : Int) t (some ⟨bn, 0, none⟩) nn cn H') ∧ Rd H' pr qr bs (wk (rcode bs) t (fun i => g i (ix a x y i)) m low s pf).2.1 ∧ Owns H' bn (nds nn F') z ∧ ((wk (rcode bs) t (fun i => g i (ix a x y i)) m low s pf).1 = 0 → Rel a b L F' (gx a x y g (wk (rcode bs) t (fun i => g i (ix a x y i)) m low s pf).2.2 0 L)) ∧ H.length ≤ H'.length ∧ ∀ i, i < H.length → i ≠ pr → i ≠ bn → hblk H' i = hblk H i := by
  intro m
  have hL := G.pos
  have hL17 := G.len
  induction m with
  | zero =>
    intro n hn hm s H low F pf hR hql h0 O hr hS hqp
    obtain ⟨n, rfl⟩ : ∃ n', n = n' + 1 := ⟨n - 1, by omega⟩
    refine ⟨H, F, fun R KE KR => ?_, hR, O, fun _ => hr, Nat.le_refl _, fun _ _ _ _ => rfl⟩
    rw [if_neg (by simp [wk])]
    unfold R10_Tree_Decode_l2 R10_Tree_Decode_l2_b
    exact go_f (decide_eq_false (by omega)) rfl
  | succ m ih =>
    intro n hn hm s H low F pf hR hql h0 O hr hS hqp
    obtain ⟨n, rfl⟩ : ∃ n', n = n' + 1 := ⟨n - 1, by omega⟩
    have hj := ix_lt hx hy m
    have hbl := base_lt (a := a) (b := b) (L := L) (i := m) (by omega) hj
    have hbs := G.bs
    obtain ⟨P, hP⟩ : ∃ P, P = base a b m + ix a x y m := ⟨_, rfl⟩
    rw [← hP] at hbl
    obtain ⟨zp, e0, e0'⟩ : ∃ zp, (∀ (R : Type) (K : Option Addr → Option R), hidx qp L ((L - (m + 1) : Nat) : Int) 1 K = K zp) ∧ ∀ (R : Type) (K : Int → Option R), ldI .i64 H zp K = K ((P : Nat) : Int) := by
      obtain ⟨zp, e, _, g0⟩ := hS.idx (l := L) (size := 1) (by rw [b64_len, pl_len]; omega) (i := ((L - (m + 1) : Nat) : Int)) (by omega) (by omega) (by omega)
      refine ⟨zp, e, fun R K => ldI_of (g0 _ ?_) rfl K⟩
      rw [Int.toNat_natCast, Nat.mul_one, hP]
      unfold b64
      rw [List.getElem?_map, pl_get _ _ _ (by omega), show L - 1 - (L - (m + 1)) = m from by omega]
      rfl
    have hF : F P = g m (ix a x y m) := by
      rw [hP, hr m (by omega) _ hj]
      unfold gx; rw [if_neg (by omega)]
    obtain ⟨nn0, hn0⟩ : ∃ nn0, nn0 = g m (ix a x y m) := ⟨_, rfl⟩
    rw [← hn0] at hF
    have hnn0 : 0 ≤ nn0.2.1 := by rw [hn0]; exact hg _ _
    have cell : ∀ o, o < 3 → hcell H bn (P * 3 + o) = (nd nn0)[o]? := fun o ho => by rw [O.sees.cell, ← hF]; exact nds_at _ (by omega) ho
    have n0 : hcell H bn (P * 3 + 0) = some (.int .i64 nn0.1) := cell 0 (by omega)
    have n1 : hcell H bn (P * 3 + 1) = some (.int .i64 nn0.2.1) := cell 1 (by omega)
    have n2 : hcell H bn (P * 3 + 2) = some (.bool nn0.2.2) := cell 2 (by omega)
    obtain ⟨Hn, hHn⟩ : ∃ Hn, Hn = H ++ [some (⟨[.int .i64 nn0.1, .int .i64 nn0.2.1, .bool nn0.2.2], false, 0⟩ : Blk)] := ⟨_, rfl⟩
    have on : Old H.length H Hn := hHn ▸ Old.app _ _
    have mn : Owns Hn H.length (nd nn0) 0 := by rw [hHn]; exact hblk_new H _
    have m1 : hcell Hn H.length 1 = some (.int .i64 nn0.2.1) := mn.sees.cell 1
    obtain ⟨H2, e2, O2, B2, l2⟩ := Owns.st1 (o := 1) mn (by simp [nd]) (.int .i64 (imx nn0.2.1 low))
    have O2' : Owns H2 H.length (nd (nn0.1, imx nn0.2.1 low, nn0.2.2)) 0 := O2
    have hxg := imx_ge nn0.2.1 low
    have o2 : Old H.length H H2 := on.trans (B2.old (Nat.le_refl _) on.1)
    have hRl := hR.lt
    have hOl := O.lt
    have l2' := o2.1
    have R2 : Rd H2 pr qr bs s := hR.same (o2.2 _ hRl) fun a ha => o2.2 _ (hql a ha)
    obtain ⟨H3, e3, R3, O3, z3, l3, f3⟩ := rnode_d k ht pt (x : Int) (y : Int) ((P : Nat) : Int) (some ⟨bn, 0, none⟩) nn cn qp L cp ((L : Nat) : Int) ((L - (m + 1) : Nat) : Int) (bb := H.length) (by omega) (fun a ha => by have := hql a ha; omega) (t - imx nn0.2.1 low).toNat k (by omega) s H2 (nn0.1, imx nn0.2.1 low, nn0.2.2) rfl (by simp only; omega) R2 (fun a ha => by have := hql a ha; omega) O2'
    obtain ⟨r1, hr1⟩ : ∃ r1, r1 = nlp (rcode bs) (t - imx nn0.2.1 low).toNat s (nn0.1, imx nn0.2.1 low, nn0.2.2) := ⟨_, rfl⟩
    rw [← hr1] at R3 O3 z3
    have e3' : ∀ (R : Type) (KE : Option Addr → Option Addr → Int → Int → Int → Option Addr → Nat → Nat → Int → Option Addr → Option Addr → Nat → Nat → Int → Int → Heap → Option R) (KR : Bool → Int → Heap → Option R), R10_Tree_Decode_l3 k KE KR k pt (some ⟨pr, 0, none⟩) (x : Int) (y : Int) t (some ⟨bn, 0, none⟩) nn cn ((P : Nat) : Int) (some ⟨H.length, 0, none⟩) qp L cp ((L : Nat) : Int) ((L - (m + 1) : Nat) : Int) H2 = if r1.1 ≠ 0 then KR false r1.1 H3 else KE pt (some ⟨pr, 0, none⟩) (x : Int) (y : Int) t (some ⟨bn, 0, none⟩) nn cn ((P : Nat) : Int) (some ⟨H.length, 0, none⟩) qp L cp ((L : Nat) : Int) ((L - (m + 1) : Nat) : Int) H3 := by rw [hr1]; exact e3
    have On3 : Owns H3 bn (nds nn F) z := (O.old o2 hOl).same (f3 _ (by omega) hbr (by omega))
    have start : ∀ (R : Type) (KE : Option Addr → Int → Int → Int → Option Addr → Nat → Nat → Heap → Option R) (KR : Bool → Int → Heap → Option R) (rr : Option R),
        (if r1.1 ≠ 0 then KR false r1.1 H3 else (ldI .i64 H3 (pad (some ⟨H.length, 0, none⟩) 0) fun n796 => ldI .i64 H3 (pad (some ⟨H.length, 0, none⟩) 1) fun n797 => ldB H3 (pad (some ⟨H.length, 0, none⟩) 2) fun t798 => hidx (some ⟨bn, 0, none⟩) nn ((P : Nat) : Int) 3 fun p799 => hst H3 p799 [.int .i64 n796, .int .i64 n797, .bool t798] fun H800 => hfad 1 (some ⟨H.length, 0, none⟩) fun p801 => ldI .i64 H800 p801 fun n802 => R10_Tree_Decode_l2 k KE KR n pt (some ⟨pr, 0, none⟩) (x : Int) (y : Int) t (some ⟨bn, 0, none⟩) nn cn n802 qp L cp ((L : Nat) : Int) (IntKind.wrap .i64 (((L - (m + 1) : Nat) : Int) + 1)) H800)) = rr →
        R10_Tree_Decode_l2 k KE KR (n + 1) pt (some ⟨pr, 0, none⟩) (x : Int) (y : Int) t (some ⟨bn, 0, none⟩) nn cn low qp L cp ((L : Nat) : Int) ((L - (m + 1) : Nat) : Int) H = rr := by
      intro R KE KR rr h
      unfold R10_Tree_Decode_l2 R10_Tree_Decode_l2_b
      refine go_t (decide_eq_true (by omega)) ((e0 _ _).trans ((e0' _ _).trans ((hidx3 (by omega) _ _).trans (go_ip n0 (go_ip n1 (go_bp n2 (go_halst hHn rfl rfl ?_)))))))
      refine go_fad (go_i m1 (go_fad ((e2 _ _).trans ((e3' _ _ _).trans h))))
    by_cases herr : r1.1 = 0
    · obtain ⟨H4, e4, O4, B4, l4⟩ := row_put On3 (m := P) (by omega) r1.2.2
      have hr4 := hr.put (i := m) (by omega) hj r1.2.2
      rw [gx_step _ _ _ _ _ (by omega), ← hP] at hr4
      have R4 : Rd H4 pr qr bs r1.2.1 := R3.same (B4.2 _ R3.lt (fun h => hbr h.symm)) fun a ha => B4.2 _ (by have := hql a ha; omega) (hbq a ha)
      have S4 : Shows H4 qp (b64 (pl (fun i => base a b i + ix a x y i) (L - 1))) := by
        refine (hS.keep o2).same fun a ha => ?_
        obtain ⟨h1, h2, h3⟩ := hqp a ha
        rw [B4.2 _ (by omega) h1, f3 _ (by omega) h2 (by omega)]
      have Ob : Owns H4 H.length (nd r1.2.2) 0 := O3.but B4 (by omega)
      have g1 : hcell H4 H.length 1 = some (.int .i64 r1.2.2.2.1) := Ob.sees.cell 1
      obtain ⟨H5, F5, e5, R5, O5, hr5, l5, f5⟩ := ih n (by omega) (by omega) r1.2.1 H4 r1.2.2.2.1 (upd F P r1.2.2) (upd pf m r1.2.2) R4 (fun a ha => by have := hql a ha; omega) z3 O4 hr4 S4 (fun a ha => by have := hqp a ha; exact ⟨this.1, this.2.1, by omega⟩)
      have hwk : wk (rcode bs) t (fun i => g i (ix a x y i)) (m + 1) low s pf = wk (rcode bs) t (fun i => g i (ix a x y i)) m r1.2.2.2.1 r1.2.1 (upd pf m r1.2.2) := by
        conv => lhs; rw [wk]
        simp only [nl, ← hn0, ← hr1]
        rw [if_neg (by simp [herr])]
      rw [hwk]
      refine ⟨H5, F5, fun R KE KR => start R KE KR _ ?_, R5, O5, hr5, by omega, fun i hi h1 h2 => by rw [f5 i (by omega) h1 h2, B4.2 i (by omega) h2, f3 i (by omega) h1 (by omega), o2.2 i hi]⟩
      rw [if_neg (by simp [herr])]
      have k0 : hcell H3 H.length 0 = some (.int .i64 r1.2.2.1) := O3.sees.cell 0
      have k1 : hcell H3 H.length 1 = some (.int .i64 r1.2.2.2.1) := O3.sees.cell 1
      have k2 : hcell H3 H.length 2 = some (.bool r1.2.2.2.2) := O3.sees.cell 2
      refine go_ip k0 (go_ip k1 (go_bp k2 ((hidx3 (by omega) _ _).trans ((e4 _ _).trans (go_fad (go_i g1 ?_))))))
      rw [w64 (n := ((L - (m + 1) : Nat) : Int) + 1) (by omega) (by omega), show ((L - (m + 1) : Nat) : Int) + 1 = ((L - m : Nat) : Int) from by omega]
      exact e5 R KE KR
    · have hwk : wk (rcode bs) t (fun i => g i (ix a x y i)) (m + 1) low s pf = (r1.1, r1.2.1, pf) := by
        conv => lhs; rw [wk]
        simp only [nl, ← hn0, ← hr1]
        rw [if_pos herr]
      rw [hwk]
      refine ⟨H3, F, fun R KE KR => start R KE KR _ ?_, R3, On3, fun h => (herr h).elim, by omega, fun i hi h1 h2 => by rw [f3 i (by omega) h1 (by omega), o2.2 i hi]⟩
      rw [if_pos herr, if_pos herr]
theorem rDecode_eq {k : Nat} (hk : 70000 < k) {N p bn nn cap z a b L pr : Nat} {qr : Option Addr} {bs : List Int} {e d : Bool} {F : Nat → Nd} {g : Nat → Nat → Nd} (G : RG a b L) (hnn : nn = base a b L) (hg : Gok g) {H : Heap} (T : Rt N H p bn nn cap z a b e d F) (hr : Rel a b L F g) (hN : N ≤ H.length) {s : Nat × Nat} (D : Rd H pr qr bs s) (hql : ∀ a, qr = some a → a.block < H.length) (hpr : pr ≠ p) (hpb : pr ≠ bn) (hq : ∀ a, qr = some a → a.block ≠ p ∧ a.block ≠ bn) (x y t : Int) :
    ∃ H' bn2 cap2 z2 F', (∀ (R : Type) (K : Bool → Int → Heap → Option R), R10_Tree_Decode k (some ⟨p, 0, none⟩) (some ⟨pr, 0, none⟩) x y t H K = K (decR bs a b L e d g x y t s).1.1 (decR bs a b L e d g x y t s).1.2 H') ∧ Rd H' pr qr bs (decR bs a b L e d g x y t s).2.2.2 ∧ Rt N H' p bn2 nn cap2 z2 a b e (decR bs a b L e d g x y t s).2.1 F' ∧ Rel a b L F' (decR bs a b L e d g x y t s).2.2.1 ∧ (bn2 = bn ∨ H.length ≤ bn2) ∧ H.length ≤ H'.length ∧ ∀ i, i < H.length → i ≠ pr → i ≠ p → hblk H' i = hblk H i := by
  have hL := G.pos
  have hL17 := G.len
  have m0 : hcell H p 0 = some (.bool true) := T.o.sees.cell 0
  have m4 : hcell H p 4 = some (.bool e) := T.o.sees.cell 4
  have hTl := T.o.lt
  have hTb := T.n.lt
  have hDl := D.lt
  cases he : e
  case true =>
    have er : decR bs a b L true d g x y t s = ((false, 6), d, g, s) := by unfold decR; rw [if_pos rfl]
    rw [er]
    rw [he] at m4 T
    refine ⟨H, bn, cap, z, F, fun R K => ?_, D, T, hr, .inl rfl, Nat.le_refl _, fun _ _ _ _ => rfl⟩
    unfold R10_Tree_Decode R10_Tree_Decode_b R10_Tree_Decode_p0 R10_Tree_Decode_p0_b
    exact go_f rfl (go_nil (go_fad (go_b m0 (go_f rfl (go_nil (go_fad (go_b m4 (go_t rfl rfl))))))))
  case false =>
    rw [he] at m4 T
    obtain ⟨H1, e1, D1, B1, _⟩ := uBitsR_eq (k := k) (by omega) D 0
    have ew : rB bs 0 s = ((0, 0), s) := by unfold rB; rw [if_pos ⟨by omega, by omega⟩]; rfl
    rw [ew] at e1 D1
    have l1 := B1.1
    have T1 : Rt N H1 p bn nn cap z a b false d F := T.same (B1.2 _ hTl (fun h => hpr h.symm)) (B1.2 _ hTb (fun h => hpb h.symm))
    obtain ⟨Ha, hHa⟩ : ∃ Ha, Ha = H1 ++ [some (⟨[], false, 0⟩ : Blk)] := ⟨_, rfl⟩
    have oa : Old H1.length H1 Ha := hHa ▸ Old.app _ _
    have la : Ha.length = H1.length + 1 := by rw [hHa]; simp
    have start : ∀ (R : Type) (K : Bool → Int → Heap → Option R) (rr : Option R), (bif !(ins a b x y) then K false 2 H1 else bif decide (t < 0) then K false 2 H1 else bif decide (t > 65536) then K false 2 H1 else
        hfad 3 (some ⟨p, 0, none⟩) fun p621 => ldL Ha p621 fun q622 l623 c624 => happS 3 24 Ha (some ⟨H1.length, 0, none⟩) 0 0 q622 l623 fun q625 l626 c627 H628 => R10_Tree_path k (some ⟨p, 0, none⟩) x y H628 fun q629 l630 c631 H632 => R10_Tree_Decode_l2 k (fun p815 n816 n817 n818 q819 l820 c821 H822 => hnil p815 fun p823 => hfad 3 p823 fun p824 => hst1 H822 p824 (.slice q819 l820 c821) fun H825 => hnil p815 fun p826 => hfad 5 p826 fun p827 => hst1 H825 p827 (.bool true) fun H828 => hnil p815 fun p829 => hfad 1 p829 fun p830 => ldI .i64 H828 p830 fun n831 => hidx q819 l820 (IntKind.wrap .i64 ((IntKind.wrap .i64 (n817 * n831)) + n816)) 3 fun p832 => ldI .i64 H828 (pad p832 0) fun n833 => ldI .i64 H828 (pad p832 1) fun n834 => ldB H828 (pad p832 2) fun t835 => hal H828 [.int .i64 0, .int .i64 0, .bool false] fun p836 H837 => hst H837 p836 [.int .i64 n833, .int .i64 n834, .bool t835] fun H838 => hfad 2 p836 fun p839 => ldB H838 p839 fun t840 => bif t840 then (hfad 1 p836 fun p841 => ldI .i64 H838 p841 fun n842 => K (decide (n842 < n818)) 0 H838) else (K false 0 H838)) (fun t843 n844 H845 => K t843 n844 H845) k (some ⟨p, 0, none⟩) (some ⟨pr, 0, none⟩) x y t q625 l626 c627 0 q629 l630 c631 ((l630 : Nat) : Int) 0 H632) = rr → R10_Tree_Decode k (some ⟨p, 0, none⟩) (some ⟨pr, 0, none⟩) x y t H K = rr := by
      intro R K rr h
      unfold R10_Tree_Decode R10_Tree_Decode_b R10_Tree_Decode_p0 R10_Tree_Decode_p0_b R10_Tree_Decode_p1 R10_Tree_Decode_p1_b
      refine go_f rfl (go_nil (go_fad (go_b m0 (go_f rfl (go_nil (go_fad (go_b m4 (go_f rfl ((e1 _ _).trans (go_f rfl ((leaf_eq T1 _ _ _ _).trans ?_)))))))))))
      refine Eq.trans ?_ h
      cases ins a b x y
      · rfl
      · cases decide (t < 0)
        · cases decide (t > 65536)
          · exact go_f rfl (go_f rfl (go_f rfl (go_halN hHa rfl)))
          · rfl
        · rfl
    by_cases hgd : ins a b x y = true ∧ 0 ≤ t ∧ t ≤ 65536
    · have hi := hgd.1
      obtain ⟨u, w, rfl, rfl, hu, hw⟩ := ins_t hi
      have Ta := T1.keep oa
      have m3 : hcell Ha p 3 = some (.slice (some ⟨bn, 0, none⟩) nn cap) := Ta.o.sees.cell 3
      have hnp : 0 < nn := by rw [hnn]; have := base_lt (a := a) (b := b) (L := L) (i := 0) hL (ix_lt hu hw 0); omega
      have hbs := G.bs
      obtain ⟨Hb, hHb⟩ : ∃ Hb, Hb = Ha ++ [some (⟨nds nn F, false, 3⟩ : Blk)] := ⟨_, rfl⟩
      have ob : Old Ha.length Ha Hb := hHb ▸ Old.app _ _
      have lb : Hb.length = Ha.length + 1 := by rw [hHb]; simp
      have Ob : Owns Hb Ha.length (nds nn F) 3 := by rw [hHb]; exact hblk_new Ha _
      have eap : ∀ (R : Type) (K : Option Addr → Nat → Nat → Heap → Option R), happS 3 24 Ha (some ⟨H1.length, 0, none⟩) 0 0 (some ⟨bn, 0, none⟩) nn K = K (some ⟨Ha.length, 0, none⟩) nn unk Hb := by
        intro R K
        have hs := Ta.n.sees.shows.hcells
        rw [nds_len] at hs
        unfold happS happ
        rw [hs]
        simp only
        rw [if_neg (by unfold unk; omega), if_neg (by omega), if_pos (by omega)]
        have h0 : FW.hcells Ha (some ⟨H1.length, 0, none⟩) (0 * 3) = some [] := by
          have : Owns Ha H1.length [] 0 := by rw [hHa]; exact hblk_new H1 _
          exact this.sees.shows.hcells
        rw [h0, hHb]
        simp
      have Tb := Ta.keep ob
      obtain ⟨H3, q3, c3, e3, S3, hq3, o3⟩ := path_eq (k := k) (by omega) Tb G hu hw
      have l3 := o3.1
      have T3 := Tb.keep o3
      have D3 : Rd H3 pr qr bs s := ((D1.same (oa.2 _ D1.lt) fun a ha => oa.2 _ (by have := hql a ha; omega)).same (ob.2 _ (by omega)) fun a ha => ob.2 _ (by have := hql a ha; omega)).same (o3.2 _ (by omega)) fun a ha => o3.2 _ (by have := hql a ha; omega)
      have S3b : ∀ a, q3 = some a → a.block < H3.length := by
        rcases S3 with h | ⟨b2, o2, full, rfl, h1, _⟩
        · exfalso
          have := congrArg List.length h
          rw [b64_len, pl_len] at this
          simp at this
        · intro a ha; cases ha; exact h1.lt
      obtain ⟨H4, F4, e4, D4, O4, hr4, l4, f4⟩ := rwalk_d k hk (t := t) (bn := Ha.length) (nn := nn) (z := 3) (by omega) G hnn hg hu hw unk c3 (some ⟨p, 0, none⟩) (by omega) (fun a ha => by have := hql a ha; omega) L k (by omega) (Nat.le_refl _) s H3 0 F (fun _ => nz) D3 (fun a ha => by have := hql a ha; omega) (by omega) (Ob.old o3 (by omega)) (by rw [gx_full]; exact hr) S3 (fun a ha => by have := hq3 a ha; have := S3b a ha; exact ⟨by omega, by omega, this⟩)
      have e5 : wk (rcode bs) t (fun i => g i (ix a u w i)) L 0 s (fun _ => nz) = decW bs a L g u w t s := rfl
      rw [e5] at D4 hr4
      obtain ⟨W, hW⟩ : ∃ W, W = decW bs a L g u w t s := ⟨_, rfl⟩
      rw [← hW] at D4 hr4
      have e4' : ∀ (R : Type) (KE : Option Addr → Int → Int → Int → Option Addr → Nat → Nat → Heap → Option R) (KR : Bool → Int → Heap → Option R), R10_Tree_Decode_l2 k KE KR k (some ⟨p, 0, none⟩) (some ⟨pr, 0, none⟩) (u : Int) (w : Int) t (some ⟨Ha.length, 0, none⟩) nn unk 0 q3 L c3 ((L : Nat) : Int) 0 H3 = if W.1 ≠ 0 then KR false W.1 H4 else KE (some ⟨p, 0, none⟩) (u : Int) (w : Int) t (some ⟨Ha.length, 0, none⟩) nn unk H4 := fun R KE KR => by
        have := e4 R KE KR
        rw [Nat.sub_self, e5, ← hW] at this
        exact this
      have keep : ∀ i, i < H.length → i ≠ pr → hblk H4 i = hblk H i := fun i hi h1 => by rw [f4 i (by omega) h1 (by omega), o3.2 i (by omega), ob.2 i (by omega), oa.2 i (by omega), B1.2 i hi h1]
      have T4 : Rt N H4 p bn nn cap z a b false d F := T.same (keep _ hTl (fun h => hpr h.symm)) (keep _ hTb (fun h => hpb h.symm))
      by_cases herr : W.1 = 0
      · have er : decR bs a b L false d g (u : Int) (w : Int) t s = (((W.2.2 0).2.2 && decide ((W.2.2 0).2.1 < t), 0), true, gw a u w g W.2.2 L, W.2.1) := by
          unfold decR
          rw [if_neg (by simp), if_pos hgd, Int.toNat_natCast, Int.toNat_natCast, ← hW, if_pos herr]
        rw [er]
        have hr5 := hr4 herr
        rw [gx_zero] at hr5
        obtain ⟨H5, e6, O5, B5, n5⟩ := Owns.st1 (o := 3) T4.o (by simp) (.slice (some ⟨Ha.length, 0, none⟩) nn unk)
        obtain ⟨H6, e7, O6, B6, n6⟩ := Owns.st1 (o := 5) O5 (by simp) (.bool true)
        have On : Owns H6 Ha.length (nds nn F4) 3 := (O4.but B5 (by omega)).but B6 (by omega)
        have m1 : hcell H6 p 1 = some (.int .i64 (a : Int)) := O6.sees.cell 1
        obtain ⟨hw1, hlt⟩ := rix G.a1 G.b1 hu hw G.ab hL
        have hF := hr5 0 (by omega) _ (ix_lt hu hw 0)
        rw [gw_ix (show 0 < L from hL)] at hF
        have cell : ∀ o, o < 3 → hcell H6 Ha.length ((base a b 0 + ix a u w 0) * 3 + o) = (nd (W.2.2 0))[o]? := fun o ho => by rw [On.sees.cell, ← hF]; exact nds_at _ (by omega) ho
        have c0 : hcell H6 Ha.length ((base a b 0 + ix a u w 0) * 3 + 0) = some (.int .i64 (W.2.2 0).1) := cell 0 (by omega)
        have c1 : hcell H6 Ha.length ((base a b 0 + ix a u w 0) * 3 + 1) = some (.int .i64 (W.2.2 0).2.1) := cell 1 (by omega)
        have c2 : hcell H6 Ha.length ((base a b 0 + ix a u w 0) * 3 + 2) = some (.bool (W.2.2 0).2.2) := cell 2 (by omega)
        obtain ⟨H7, hH7⟩ : ∃ H7, H7 = H6 ++ [some (⟨[.int .i64 (W.2.2 0).1, .int .i64 (W.2.2 0).2.1, .bool (W.2.2 0).2.2], false, 0⟩ : Blk)] := ⟨_, rfl⟩
        have o7 : Old H6.length H6 H7 := hH7 ▸ Old.app _ _
        have l7 := o7.1
        have O7 : Owns H7 H6.length (nd (W.2.2 0)) 0 := by rw [hH7]; exact hblk_new H6 _
        have x1 : hcell H7 H6.length 1 = some (.int .i64 (W.2.2 0).2.1) := O7.sees.cell 1
        have x2 : hcell H7 H6.length 2 = some (.bool (W.2.2 0).2.2) := O7.sees.cell 2
        have R6 : Rt N H6 p Ha.length nn unk 3 a b false true F4 := ⟨O6, On, by omega, T.lp, by omega⟩
        have D6 : Rd H6 pr qr bs W.2.1 := (D4.same (B5.2 _ D4.lt hpr) fun a ha => B5.2 _ (by have := hql a ha; omega) (hq a ha).1).same (B6.2 _ (by have := D4.lt; omega) hpr) fun a ha => B6.2 _ (by have := hql a ha; omega) (hq a ha).1
        refine ⟨H7, Ha.length, unk, 3, F4, fun R K => start R K _ ?_, D6.same (o7.2 _ D6.lt) (fun a ha => o7.2 _ (by have := hql a ha; omega)), R6.keep o7, hr5, .inr (by omega), by omega, fun i hi h1 h2 => by rw [o7.2 i (by omega), B6.2 i (by omega) h2, B5.2 i (by omega) h2, keep i hi h1]⟩
        rw [hi]
        refine go_f rfl (go_f (decide_eq_false (by omega)) (go_f (decide_eq_false (by omega)) (go_fad (go_l m3 ((eap _ _).trans ((e3 _ _).trans ((e4' _ _ _).trans ?_)))))))
        rw [if_neg (by simp [herr])]
        refine go_nil (go_fad ((e6 _ _).trans (go_nil (go_fad ((e7 _ _).trans (go_nil (go_fad (go_i m1 ?_))))))))
        rw [hw1]
        refine (hidx3 (by omega) _ _).trans (go_ip c0 (go_ip c1 (go_bp c2 (go_halst hH7 rfl rfl (go_fad (go_b x2 ?_))))))
        cases hk : (W.2.2 0).2.2
        · rfl
        · exact go_t rfl (go_fad (go_i x1 rfl))
      · have er : decR bs a b L false d g (u : Int) (w : Int) t s = ((false, W.1), d, g, W.2.1) := by
          unfold decR
          rw [if_neg (by simp), if_pos hgd, Int.toNat_natCast, Int.toNat_natCast, ← hW, if_neg herr]
        rw [er]
        refine ⟨H4, bn, cap, z, F, fun R K => start R K _ ?_, D4, T4, hr, .inl rfl, by omega, fun i hi h1 _ => keep i hi h1⟩
        rw [hi]
        refine go_f rfl (go_f (decide_eq_false (by omega)) (go_f (decide_eq_false (by omega)) (go_fad (go_l m3 ((eap _ _).trans ((e3 _ _).trans ((e4' _ _ _).trans ?_)))))))
        rw [if_pos herr]
    · have er : decR bs a b L false d g x y t s = ((false, 2), d, g, s) := by unfold decR; rw [if_neg (by simp), if_neg hgd]
      rw [er]
      refine ⟨H1, bn, cap, z, F, fun R K => start R K _ ?_, D1, T1, hr, .inl rfl, l1, fun i hi h1 _ => B1.2 i hi h1⟩
      cases hi : ins a b x y
      · rfl
      · refine go_f rfl ?_
        by_cases h0 : t < 0
        · exact go_t (decide_eq_true h0) rfl
        · exact go_f (decide_eq_false h0) (go_t (decide_eq_true (by rw [hi] at hgd; simp at hgd; omega)) rfl)
end Go.Proofs.Ytblkejnciinaeaa.Sh
/- Tagtree: steps of the laws' loops. -/
set_option linter.unusedVariables false
set_option linter.unusedSimpArgs false
namespace Go.Proofs.Ytblkejnciinaeaa.Sh
open Go.Proofs.Ytblkejnciinaeaa.FW Go.IntWalk
theorem setT_ok {a b : Nat} {e d : Bool} {x y v : Int} {g : Nat → Nat → Nd} (h : Gok g) : Gok (setT a b e d x y v g) := by
  unfold setT setG
  split
  · intro i j
    by_cases hi : i = 0
    · subst hi; rw [upd2_at]; unfold upd; split
      · exact h 0 _
      · exact h 0 j
    · rw [upd2_ne _ _ _ hi]; exact h i j
  · exact h
/-- The bounds of a tree. -/
theorem Tn.lows {N : Nat} {H : Heap} {p : Nat} {q : Option Addr} {c : Nat} {l : List Lv} {e d : Bool} {g : Nat → Nat → Nd} (T : Tn N H p q c l e d g) : N ≤ p ∧ ∀ (j : Nat) (v : Lv), l[j]? = some v → N ≤ v.b := ⟨T.low, fun j v hv => (T.n j v hv).2.1⟩
theorem tc_below {N : Nat} {H H' : Heap} {l : List Lv} (s : Tc l H H') (hl : ∀ (j : Nat) (v : Lv), l[j]? = some v → N ≤ v.b) (hN : N ≤ H.length) : Old N H H' := ⟨s.1, fun i hi => s.2 i (by omega) fun j v hv => by have := hl j v hv; omega⟩
theorem Ch.below {M p : Nat} {l : List Lv} {pw : Nat} {q q' : Option Addr} {H H' : Heap} (s : Ch p l pw q H q' H') (hp : M ≤ p) (hl : ∀ (j : Nat) (v : Lv), l[j]? = some v → M ≤ v.b) (hw : M ≤ pw) (hq : ∀ a, q = some a → M ≤ a.block) (hM : M ≤ H.length) : Old M H H' ∧ ∀ a, q' = some a → M ≤ a.block := by
  refine ⟨⟨s.len, fun i hi => s.old i (by omega) (by omega) (fun a ha => by have := hq a ha; omega) (by omega) fun j v hv => by have := hl j v hv; omega⟩, fun a ha => ?_⟩
  rcases s.new with h | h
  · subst h; exact hq a ha
  · have := h a ha; omega
end Go.Proofs.Ytblkejnciinaeaa.Sh
/- Tagtree: the program's tree and the reference's, side by side. -/
set_option linter.unusedVariables false
set_option linter.unusedSimpArgs false
namespace Go.Proofs.Ytblkejnciinaeaa.Sh
open Go.Proofs.Ytblkejnciinaeaa.FW Go.IntWalk
/-- A change of the reference's tree and a device. -/
structure Rc (p bn pu : Nat) (q : Option Addr) (H : Heap) (q' : Option Addr) (H' : Heap) : Prop where
  len : H.length ≤ H'.length
  old : ∀ i, i < H.length → i ≠ p → i ≠ bn → i ≠ pu → (∀ a, q = some a → a.block ≠ i) → hblk H' i = hblk H i
  new : q' = q ∨ ∀ a, q' = some a → H.length ≤ a.block
theorem Rc.trans {p bn pu : Nat} {q q1 q2 : Option Addr} {H H1 H2 : Heap} (x : Rc p bn pu q H q1 H1) (y : Rc p bn pu q1 H1 q2 H2) : Rc p bn pu q H q2 H2 := by
  refine ⟨Nat.le_trans x.len y.len, fun i hi h1 h2 h3 h4 => (y.old i (Nat.lt_of_lt_of_le hi x.len) h1 h2 h3 fun a ha => ?_).trans (x.old i hi h1 h2 h3 h4), ?_⟩
  · rcases x.new with h | h
    · subst h; exact h4 a ha
    · have := h a ha; omega
  · rcases y.new with h | h
    · subst h; exact x.new
    · exact .inr fun a ha => Nat.le_trans x.len (h a ha)
theorem Rc.of_fr {p bn pu : Nat} {q q' : Option Addr} {H H' : Heap} (o : Fr pu bn q H q' H') : Rc p bn pu q H q' H' := ⟨o.len, fun i hi _ h2 h3 h4 => o.old i hi h3 h2 h4, o.new⟩
theorem Rc.of_stp {p bn pu : Nat} {q q' : Option Addr} {H H' : Heap} (o : Stp pu q H q' H') : Rc p bn pu q H q' H' := ⟨o.len, fun i hi _ _ h3 h4 => o.old i hi h3 h4, o.new⟩
theorem Rc.of_old {p bn pu : Nat} {q : Option Addr} {H H' : Heap} (o : Old H.length H H') : Rc p bn pu q H q H' := ⟨o.1, fun i hi _ _ _ _ => o.2 i hi, .inl rfl⟩
theorem Rc.of_butn {p bn pu : Nat} {q : Option Addr} {H H' : Heap} (o : But bn H H') : Rc p bn pu q H q H' := ⟨o.1, fun i hi _ h _ _ => o.2 i hi h, .inl rfl⟩
theorem Rc.of_butp {p bn pu : Nat} {q : Option Addr} {H H' : Heap} (o : But p H H') : Rc p bn pu q H q H' := ⟨o.1, fun i hi h _ _ _ => o.2 i hi h, .inl rfl⟩
/-- A block of the second side. -/
def InB (p bn pu : Nat) (qu : Option Addr) (i : Nat) : Prop := i = p ∨ i = bn ∨ i = pu ∨ ∃ a, qu = some a ∧ a.block = i
/-- Two trees in the same state, beside two devices. -/
structure Bth (N p : Nat) (q0 : Option Addr) (c : Nat) (l : List Lv) (a b pw : Nat) (p' bn nn cap z pu : Nat) (H : Heap) (e d : Bool) (g : Nat → Nat → Nd) (F : Nat → Nd) (qw qu : Option Addr) : Prop where
  T : Tn N H p q0 c l e d g
  ok : Gok g
  vb : e = false → ∀ j, (g 0 j).1 ≤ 65535
  R : Rt N H p' bn nn cap z a b e d F
  rel : Rel a b l.length F g
  offw : Off p q0 l pw
  offq : ∀ a, qw = some a → Off p q0 l a.block ∧ N ≤ a.block ∧ a.block < H.length
  apt : ∀ i, InB p' bn pu qu i → Off p q0 l i ∧ i ≠ pw ∧ (∀ a, qw = some a → a.block ≠ i) ∧ i < H.length ∧ N ≤ i
  pu1 : pu ≠ p'
  pu2 : pu ≠ bn
  quo : ∀ a, qu = some a → a.block ≠ p' ∧ a.block ≠ bn
  pwn : N ≤ pw
  pwl : pw < H.length
  N0 : N ≤ H.length
theorem Bth.keep {N p : Nat} {q0 : Option Addr} {c : Nat} {l : List Lv} {a b pw : Nat} {p' bn nn cap z pu : Nat} {H H' : Heap} {e d : Bool} {g : Nat → Nat → Nd} {F : Nat → Nd} {qw qu : Option Addr} (B : Bth N p q0 c l a b pw p' bn nn cap z pu H e d g F qw qu) (o : Old H.length H H') : Bth N p q0 c l a b pw p' bn nn cap z pu H' e d g F qw qu := by
  have hl := o.1
  exact ⟨B.T.old o (Nat.le_refl _), B.ok, B.vb, B.R.keep o, B.rel, B.offw, fun a ha => by have := B.offq a ha; exact ⟨this.1, this.2.1, by omega⟩, fun i hi => by have := B.apt i hi; exact ⟨this.1, this.2.1, this.2.2.1, by omega, this.2.2.2.2⟩, B.pu1, B.pu2, B.quo, B.pwn, by have := B.pwl; omega, by have := B.N0; omega⟩
/-- A step of the first side. -/
theorem Bth.stepA {N p : Nat} {q0 : Option Addr} {c : Nat} {l : List Lv} {a b pw : Nat} {p' bn nn cap z pu : Nat} {H H' : Heap} {e d e' d' : Bool} {g g' : Nat → Nat → Nd} {F : Nat → Nd} {qw qw' qu : Option Addr} (B : Bth N p q0 c l a b pw p' bn nn cap z pu H e d g F qw qu) (C : Ch p l pw qw H qw' H') (W : ∀ a, qw' = some a → a.block < H'.length) :
    (∀ i, InB p' bn pu qu i → hblk H' i = hblk H i) ∧ (∀ a, qw' = some a → Off p q0 l a.block ∧ N ≤ a.block ∧ a.block < H'.length) ∧ (∀ i, InB p' bn pu qu i → Off p q0 l i ∧ i ≠ pw ∧ (∀ a, qw' = some a → a.block ≠ i) ∧ i < H'.length ∧ N ≤ i) ∧ Old N H H' := by
  have hl := C.len
  have hlow := B.T.lows
  refine ⟨fun i hi => ?_, fun a ha => ?_, fun i hi => ?_, (C.below hlow.1 hlow.2 B.pwn (fun a ha => (B.offq a ha).2.1) B.N0).1⟩
  · obtain ⟨h1, h2, h3, h4, _⟩ := B.apt i hi
    exact C.old i h4 h2 h3 h1.1 h1.2.2
  · refine ⟨Ch.off B.T C (fun a ha => (B.offq a ha).1) a ha, ?_, W a ha⟩
    rcases C.new with h | h
    · subst h; exact (B.offq a ha).2.1
    · have := h a ha; have := B.N0; omega
  · obtain ⟨h1, h2, h3, h4, h5⟩ := B.apt i hi
    refine ⟨h1, h2, fun a ha => ?_, by omega, h5⟩
    rcases C.new with h | h
    · subst h; exact h3 a ha
    · have := h a ha; omega
/-- A step of the second side: what the first side keeps. -/
theorem Bth.stepB {N p : Nat} {q0 : Option Addr} {c : Nat} {l : List Lv} {pw : Nat} {p' bn pu : Nat} {H H' : Heap} {e d : Bool} {g : Nat → Nat → Nd} {qw qu qu' : Option Addr} (T : Tn N H p q0 c l e d g) (hw : ∀ a, qw = some a → a.block < H.length) (hpw : pw < H.length) (hN : N ≤ H.length)
    (apt : ∀ i, InB p' bn pu qu i → Off p q0 l i ∧ i ≠ pw ∧ (∀ a, qw = some a → a.block ≠ i) ∧ i < H.length ∧ N ≤ i) (C : Rc p' bn pu qu H qu' H') (hu : ∀ a, qu' = some a → a.block < H'.length) :
    Tn N H' p q0 c l e d g ∧ hblk H' pw = hblk H pw ∧ (∀ a, qw = some a → hblk H' a.block = hblk H a.block) ∧ (∀ i, InB p' bn pu qu' i → Off p q0 l i ∧ i ≠ pw ∧ (∀ a, qw = some a → a.block ≠ i) ∧ i < H'.length ∧ N ≤ i) ∧ Old N H H' := by
  have hl := C.len
  have a1 := apt p' (.inl rfl)
  have a2 := apt bn (.inr (.inl rfl))
  have a3 := apt pu (.inr (.inr (.inl rfl)))
  have a4 : ∀ a, qu = some a → _ := fun a ha => apt a.block (.inr (.inr (.inr ⟨a, ha, rfl⟩)))
  have key : ∀ i, i < H.length → (i ≠ p' ∧ i ≠ bn ∧ i ≠ pu ∧ ∀ a, qu = some a → a.block ≠ i) → hblk H' i = hblk H i := fun i hi h => C.old i hi h.1 h.2.1 h.2.2.1 h.2.2.2
  refine ⟨T.same fun i hi hn => key i hi ⟨fun h => hn (h ▸ a1.1), fun h => hn (h ▸ a2.1), fun h => hn (h ▸ a3.1), fun a ha h => hn (h ▸ (a4 a ha).1)⟩, key pw hpw ⟨a1.2.1.symm, a2.2.1.symm, a3.2.1.symm, fun a ha => (a4 a ha).2.1⟩, fun a ha => key _ (hw a ha) ⟨a1.2.2.1 a ha, a2.2.2.1 a ha, a3.2.2.1 a ha, fun a' ha' => ((a4 a' ha').2.2.1 a ha).symm⟩, fun i hi => ?_, ⟨hl, fun i hi => key i (by omega) ⟨by omega, by omega, by omega, fun a ha => by have := (a4 a ha).2.2.2.2; omega⟩⟩⟩
  rcases hi with h | h | h | ⟨a, ha, h⟩
  · subst h; exact ⟨a1.1, a1.2.1, a1.2.2.1, by omega, a1.2.2.2.2⟩
  · subst h; exact ⟨a2.1, a2.2.1, a2.2.2.1, by omega, a2.2.2.2.2⟩
  · subst h; exact ⟨a3.1, a3.2.1, a3.2.2.1, by omega, a3.2.2.2.2⟩
  · subst h
    rcases C.new with h | h
    · subst h
      have := a4 a ha
      exact ⟨this.1, this.2.1, this.2.2.1, by omega, this.2.2.2.2⟩
    · have h2 := h a ha
      exact ⟨T.fresh h2, by omega, fun a' ha' => by have := hw a' ha'; omega, hu a ha, by omega⟩
theorem setT_vb {a b : Nat} {e d : Bool} {x y v : Int} {g : Nat → Nat → Nd} (h : e = false → ∀ j, (g 0 j).1 ≤ 65535) : e = false → ∀ j, (setT a b e d x y v g 0 j).1 ≤ 65535 := by
  intro he j
  unfold setT
  split
  · rename_i hs
    have hv : v ≤ 65535 := by
      unfold setE at hs
      split at hs
      · omega
      · split at hs
        · rename_i h2; exact h2.2.2
        · omega
    unfold setG
    rw [upd2_at]
    unfold upd
    split
    · exact hv
    · exact h he j
  · exact h he j
/-- A call set in both trees. -/
theorem Bth.set {k : Nat} {N p : Nat} {q0 : Option Addr} {c : Nat} {l : List Lv} {a b pw : Nat} {p' bn nn cap z pu : Nat} {H : Heap} {e d : Bool} {g : Nat → Nat → Nd} {F : Nat → Nd} {qw qu : Option Addr} (G : Geo a b l) (hnn : nn = base a b l.length) (B : Bth N p q0 c l a b pw p' bn nn cap z pu H e d g F qw qu) (x y v : Int) :
    ∃ H1 H2 F', (∀ (R : Type) (K : Int → Heap → Option R), tagtree_Tree_Set k (some ⟨p, 0, none⟩) x y v H K = K (setE a b e d x y v) H1) ∧ (∀ (R : Type) (K : Int → Heap → Option R), R10_Tree_Set k (some ⟨p', 0, none⟩) x y v H1 K = K (setE a b e d x y v) H2) ∧ Bth N p q0 c l a b pw p' bn nn cap z pu H2 e d (setT a b e d x y v g) F' qw qu ∧ Old N H H2 ∧ hblk H2 pw = hblk H pw ∧ (∀ a, qw = some a → hblk H2 a.block = hblk H a.block) ∧ hblk H2 pu = hblk H pu ∧ (∀ a, qu = some a → hblk H2 a.block = hblk H a.block) := by
  obtain ⟨H1, e1, T1, c1⟩ := Set_eq (k := k) B.T G x y v
  have C1 : Ch p l pw qw H qw H1 := .of_tc c1
  have l1 := c1.1
  obtain ⟨s1, s2, s3, s4⟩ := B.stepA (e' := e) (d' := d) (g' := g) C1 (fun a ha => by have := (B.offq a ha).2.2; omega)
  have R1 := B.R.same (s1 _ (.inl rfl)) (s1 _ (.inr (.inl rfl)))
  obtain ⟨H2, F', e2, R2, hr2, b2⟩ := rSet_eq (k := k) R1 hnn B.rel G.a1 G.b1 G.ab G.pos x y v
  have C2 : Rc p' bn pu qu H1 qu H2 := .of_butn b2
  have l2 := b2.1
  obtain ⟨t1, t2, t3, t4, t5⟩ := Bth.stepB T1 (fun a ha => (s2 a ha).2.2) (by have := B.pwl; omega) (by have := B.N0; omega) s3 C2 (fun a ha => by have := (s3 a.block (.inr (.inr (.inr ⟨a, ha, rfl⟩)))).2.2.2.1; omega)
  refine ⟨H1, H2, F', e1, e2, ⟨t1, setT_ok B.ok, setT_vb B.vb, R2, hr2, B.offw, fun a ha => by have := s2 a ha; exact ⟨this.1, this.2.1, by omega⟩, t4, B.pu1, B.pu2, B.quo, B.pwn, by have := B.pwl; omega, by have := B.N0; omega⟩, s4.trans t5, t2.trans (c1.2 _ B.pwl B.offw.2.2), fun a ha => (t3 a ha).trans (c1.2 _ (B.offq a ha).2.2 (B.offq a ha).1.2.2), ?_, fun a ha => ?_⟩
  · have h := s3 pu (.inr (.inr (.inl rfl)))
    rw [b2.2 _ h.2.2.2.1 B.pu2]
    exact s1 _ (.inr (.inr (.inl rfl)))
  · have hi : InB p' bn pu qu a.block := .inr (.inr (.inr ⟨a, ha, rfl⟩))
    rw [b2.2 _ (s3 _ hi).2.2.2.1 (B.quo a ha).2]
    exact s1 _ hi
end Go.Proofs.Ytblkejnciinaeaa.Sh
/- Tagtree: the calls that came in. -/
set_option linter.unusedVariables false
set_option linter.unusedSimpArgs false
namespace Go.Proofs.Ytblkejnciinaeaa.Sh
open Go.Proofs.Ytblkejnciinaeaa.FW Go.IntWalk
def dOp : D := .pair (.int .i64) (.pair (.int .i64) (.pair (.int .i64) (.pair (.int .i64) .nil)))
abbrev Op4 := Int × Int × Int × Int
def opc (o : Op4) : List Value := [.int .i64 o.1, .int .i64 o.2.1, .int .i64 o.2.2.1, .int .i64 o.2.2.2]
theorem ops_of {H : Heap} : ∀ (es : List (List Value)), (∀ e ∈ es, Shp dOp H e) → ∃ ops : List Op4, ops.length = es.length ∧ es.flatten = ops.flatMap opc := by
  intro es
  induction es with
  | nil => intro _; exact ⟨[], rfl, rfl⟩
  | cons e es ih =>
    intro h
    obtain ⟨ops, h1, h2⟩ := ih fun x hx => h x (List.mem_cons_of_mem _ hx)
    obtain ⟨x, y, rfl, ⟨a, rfl, ha⟩, x2, y2, rfl, ⟨b, rfl, hb⟩, x3, y3, rfl, ⟨c, rfl, hc⟩, x4, y4, rfl, ⟨d, rfl, hd⟩, hn⟩ := h e (by simp)
    have hn' : y4 = [] := hn
    subst hn'
    exact ⟨(a, b, c, d) :: ops, by simp [h1], by rw [List.flatten_cons, List.flatMap_cons, h2]; rfl⟩
theorem shows_below {H : Heap} {q : Option Addr} {cs : List Value} (h : Shows H q cs) : cs = [] ∨ Below H.length q := by
  rcases h with h | ⟨b, o, full, rfl, h1, _⟩
  · exact .inl h
  · exact .inr fun a ha => by cases ha; exact h1.lt
theorem opc_len (o : Op4) : (opc o).length = 4 := rfl
theorem fm_len (ops : List Op4) : (ops.flatMap opc).length = ops.length * 4 := by
  induction ops with
  | nil => rfl
  | cons o ops ih => rw [List.flatMap_cons, List.length_append, ih, opc_len, List.length_cons]; omega
theorem fm_get : ∀ (ops : List Op4) (i : Nat) (o : Op4), ops[i]? = some o → ∀ j, j < 4 → (ops.flatMap opc)[i * 4 + j]? = (opc o)[j]? := by
  intro ops
  induction ops with
  | nil => intro i o h; simp at h
  | cons x ops ih =>
    intro i o h j hj
    rw [List.flatMap_cons]
    cases i with
    | zero => simp at h; subst h; rw [Nat.zero_mul, Nat.zero_add, List.getElem?_append_left (by rw [opc_len]; exact hj)]
    | succ i =>
      simp at h
      rw [List.getElem?_append_right (by rw [opc_len]; omega), opc_len, show (i + 1) * 4 + j - 4 = i * 4 + j from by omega]
      exact ih i o h j hj
/-- A call among those that came in. -/
theorem op_at {H : Heap} {q : Option Addr} {ops : List Op4} (h : Shows H q (ops.flatMap opc)) {i : Nat} {o : Op4} (ho : ops[i]? = some o) : ∃ b f, (∀ (R : Type) (K : Option Addr → Option R), hidx q ops.length (i : Int) 4 K = K (some ⟨b, f, none⟩)) ∧ hcell H b (f + 0) = some (.int .i64 o.1) ∧ hcell H b (f + 1) = some (.int .i64 o.2.1) ∧ hcell H b (f + 2) = some (.int .i64 o.2.2.1) ∧ hcell H b (f + 3) = some (.int .i64 o.2.2.2) := by
  have hi : i < ops.length := (List.getElem?_eq_some_iff.1 ho).1
  obtain ⟨p, e, g, _⟩ := h.idx (l := ops.length) (size := 4) (by rw [fm_len]; omega) (i := (i : Int)) (by omega) (by omega) (by omega)
  have hp : p ≠ none := by
    intro hp; subst hp
    have := g 0 (.int .i64 o.1) (by rw [Int.toNat_natCast, fm_get ops i o ho 0 (by omega)]; rfl) (by omega)
    cases this
  obtain ⟨⟨b, f, s⟩, rfl⟩ := Option.ne_none_iff_exists'.1 hp
  have hs : s = none := by
    rcases h with h | ⟨b2, o2, full, rfl, _⟩
    · have := fm_len ops; rw [h] at this; simp at this; omega
    · have := e Nat fun p => match p with | some ⟨_, _, none⟩ => some 0 | _ => some 1
      simp only [hidx] at this
      rw [if_pos ⟨by omega, by omega⟩] at this
      cases s with
      | none => rfl
      | some s => simp at this
  subst hs
  refine ⟨b, f, e, g 0 _ (by rw [Int.toNat_natCast, fm_get ops i o ho 0 (by omega)]; rfl) (by omega), g 1 _ (by rw [Int.toNat_natCast, fm_get ops i o ho 1 (by omega)]; rfl) (by omega), g 2 _ (by rw [Int.toNat_natCast, fm_get ops i o ho 2 (by omega)]; rfl) (by omega), g 3 _ (by rw [Int.toNat_natCast, fm_get ops i o ho 3 (by omega)]; rfl) (by omega)⟩
/-- A call, laid into a box. -/
theorem op_box {H : Heap} {q : Option Addr} {ops : List Op4} (h : Shows H q (ops.flatMap opc)) {i : Nat} {o : Op4} (ho : ops[i]? = some o) : ∃ Hn, (∀ (R : Type) (K : Option Addr → Heap → Option R), (hidx q ops.length (i : Int) 4 fun p48 => ldI .i64 H (pad p48 0) fun n49 => ldI .i64 H (pad p48 1) fun n50 => ldI .i64 H (pad p48 2) fun n51 => ldI .i64 H (pad p48 3) fun n52 => hal H [.int .i64 0, .int .i64 0, .int .i64 0, .int .i64 0] fun p53 H54 => hst H54 p53 [.int .i64 n49, .int .i64 n50, .int .i64 n51, .int .i64 n52] fun H55 => K p53 H55) = K (some ⟨H.length, 0, none⟩) Hn) ∧ Old H.length H Hn ∧ Owns Hn H.length (opc o) 0 ∧ Hn.length = H.length + 1 := by
  obtain ⟨b, f, e0, g0, g1, g2, g3⟩ := op_at h ho
  obtain ⟨H2, hH2⟩ : ∃ H2, H2 = H ++ [some (⟨[.int .i64 o.1, .int .i64 o.2.1, .int .i64 o.2.2.1, .int .i64 o.2.2.2], false, 0⟩ : Blk)] := ⟨_, rfl⟩
  refine ⟨H2, fun R K => ?_, hH2 ▸ Old.app _ _, by rw [hH2]; exact hblk_new H _, by rw [hH2]; simp⟩
  refine (e0 _ _).trans (go_ip g0 (go_ip g1 (go_ip g2 (go_ip g3 (go_halst hH2 rfl rfl rfl)))))
theorem op_cells {H : Heap} {b : Nat} {o : Op4} (h : Owns H b (opc o) 0) : hcell H b 0 = some (.int .i64 o.1) ∧ hcell H b 1 = some (.int .i64 o.2.1) ∧ hcell H b 2 = some (.int .i64 o.2.2.1) ∧ hcell H b 3 = some (.int .i64 o.2.2.2) := ⟨h.sees.cell 0, h.sees.cell 1, h.sees.cell 2, h.sees.cell 3⟩
/-- What a call counts for. -/
def un (o : Op4) : Nat := if (o.1 = 1 ∨ o.1 = 3) ∧ 0 < o.2.2.2 ∧ o.2.2.2 ≤ 65536 then o.2.2.2.toNat else 0
def uns (ops : List Op4) : Nat := (ops.map un).sum
def smallB (w h : Int) (ops : List Op4) : Bool := decide (w ≤ 64 ∧ h ≤ 64 ∧ ops.length ≤ 100 ∧ uns ops ≤ 65536)
theorem take_succ {α : Type} {l : List α} {i : Nat} {x : α} (h : l[i]? = some x) : l.take (i + 1) = l.take i ++ [x] := by rw [List.take_add_one, h]; rfl
theorem uns_take {ops : List Op4} {i : Nat} {o : Op4} (ho : ops[i]? = some o) : uns (ops.take (i + 1)) = uns (ops.take i) + un o := by rw [take_succ ho]; simp [uns]
theorem uns_le (ops : List Op4) (i : Nat) : uns (ops.take i) ≤ uns ops := by
  have h : uns ops = uns (ops.take i) + uns (ops.drop i) := by
    conv => lhs; rw [← List.take_append_drop i ops]
    unfold uns; rw [List.map_append, List.sum_append]
  omega
theorem un_le (o : Op4) : un o ≤ 65536 := by unfold un; split <;> omega
theorem small_l (k : Nat) {ops : List Op4} (c : Nat) {q : Option Addr} (hl : ops.length ≤ 100) : ∀ (m n i : Nat), m < n → ops.length = i + m → ∀ (H : Heap), Shows H q (ops.flatMap opc) → ∃ H', (∀ (R : Type) (KE : Int → Heap → Option R), L_small_l1 k KE n ((uns (ops.take i) : Nat) : Int) q ops.length c ((ops.length : Nat) : Int) (i : Int) H = KE ((uns ops : Nat) : Int) H') ∧ Old H.length H H' := by
  have hu : ∀ l : List Op4, uns l ≤ l.length * 65536 := by
    intro l
    induction l with
    | nil => simp [uns]
    | cons o l ih =>
      have := un_le o
      unfold uns at *
      rw [List.map_cons, List.sum_cons, List.length_cons]; omega
  intro m
  induction m with
  | zero =>
    intro n i hn hi H hS
    obtain ⟨n, rfl⟩ : ∃ n', n = n' + 1 := ⟨n - 1, by omega⟩
    refine ⟨H, fun R KE => ?_, .refl _ _⟩
    unfold L_small_l1 L_small_l1_b
    refine go_f (decide_eq_false (by omega)) ?_
    rw [List.take_of_length_le (by omega)]
  | succ m ih =>
    intro n i hn hi H hS
    obtain ⟨n, rfl⟩ : ∃ n', n = n' + 1 := ⟨n - 1, by omega⟩
    obtain ⟨o, ho⟩ : ∃ o, ops[i]? = some o := ⟨_, List.getElem?_eq_getElem (by omega)⟩
    obtain ⟨H2, e0, o2, O2, _⟩ := op_box hS ho
    obtain ⟨m0, m1, m2, m3⟩ := op_cells O2
    obtain ⟨H', e3, o3⟩ := ih n (i + 1) (by omega) (by omega) H2 (hS.keep o2)
    have hs := uns_take ho
    have hb := hu (ops.take i)
    have hb2 : (ops.take i).length ≤ 100 := by rw [List.length_take]; omega
    have h3 : ∀ (R : Type) (KN : Int → Option Addr → Option Addr → Nat → Nat → Int → Int → Bool → Option R) (nn : Int), L_small_p3 k nn (some ⟨H.length, 0, none⟩) q ops.length c ((ops.length : Nat) : Int) (i : Int) H2 KN = KN nn (some ⟨H.length, 0, none⟩) q ops.length c ((ops.length : Nat) : Int) (i : Int) (decide ((o.1 = 1 ∨ o.1 = 3) ∧ 0 < o.2.2.2 ∧ o.2.2.2 ≤ 65536)) := by
      intro R KN nn
      unfold L_small_p3 L_small_p3_b
      have tail : (o.1 = 1 ∨ o.1 = 3) → (hfad 3 (some ⟨H.length, 0, none⟩) fun p65 => ldI .i64 H2 p65 fun n66 => bif decide (n66 > 0) then (hfad 3 (some ⟨H.length, 0, none⟩) fun p67 => ldI .i64 H2 p67 fun n68 => KN nn (some ⟨H.length, 0, none⟩) q ops.length c ((ops.length : Nat) : Int) (i : Int) (decide (n68 ≤ 65536))) else (KN nn (some ⟨H.length, 0, none⟩) q ops.length c ((ops.length : Nat) : Int) (i : Int) false)) = KN nn (some ⟨H.length, 0, none⟩) q ops.length c ((ops.length : Nat) : Int) (i : Int) (decide ((o.1 = 1 ∨ o.1 = 3) ∧ 0 < o.2.2.2 ∧ o.2.2.2 ≤ 65536)) := by
        intro hk
        refine go_fad (go_i m3 ?_)
        by_cases c1 : o.2.2.2 > 0
        · refine go_t (decide_eq_true c1) (go_fad (go_i m3 ?_))
          congr 1
          exact decide_eq_decide.2 ⟨fun h => ⟨hk, c1, h⟩, fun h => h.2.2⟩
        · refine go_f (decide_eq_false c1) ?_
          rw [decide_eq_false (fun h => c1 h.2.1)]
      refine go_fad (go_i m0 ?_)
      by_cases c1 : o.1 = 1
      · exact go_t (by rw [c1]; rfl) (tail (.inl c1))
      · refine go_f (by rw [beq_eq_false_iff_ne]; exact c1) (go_fad (go_i m0 ?_))
        by_cases c3 : o.1 = 3
        · exact go_t (by rw [c3]; rfl) (tail (.inr c3))
        · refine go_f (by rw [beq_eq_false_iff_ne]; exact c3) ?_
          rw [decide_eq_false (fun h => by rcases h.1 with h | h <;> contradiction)]
    refine ⟨H', fun R KE => ?_, o2.trans (o3.mono o2.1)⟩
    unfold L_small_l1 L_small_l1_b L_small_p2 L_small_p2_b
    refine go_t (decide_eq_true (by omega)) ((e0 _ _).trans ((h3 _ _ _).trans ?_))
    by_cases hc : (o.1 = 1 ∨ o.1 = 3) ∧ 0 < o.2.2.2 ∧ o.2.2.2 ≤ 65536
    · have hun : ((un o : Nat) : Int) = o.2.2.2 := by unfold un; rw [if_pos hc]; omega
      refine go_t (decide_eq_true hc) (go_fad (go_i m3 ?_))
      dsimp only
      rw [w64 (n := (i : Int) + 1) (by omega) (by omega), w64 (n := ((uns (ops.take i) : Nat) : Int) + o.2.2.2) (by omega) (by omega), ← hun, ← Int.natCast_add, ← hs]
      exact e3 _ _
    · have hun : un o = 0 := by unfold un; rw [if_neg hc]
      refine go_f (decide_eq_false hc) ?_
      dsimp only
      rw [w64 (n := (i : Int) + 1) (by omega) (by omega)]
      have hs' : uns (ops.take i) = uns (ops.take (i + 1)) := by omega
      rw [hs']
      exact e3 _ _
theorem small_eq {k : Nat} (hk : 1000 < k) {ops : List Op4} (c : Nat) {q : Option Addr} {H : Heap} (hS : Shows H q (ops.flatMap opc)) (w h : Int) : ∃ H', (∀ (R : Type) (K : Bool → Heap → Option R), L_small k w h q ops.length c H K = K (smallB w h ops) H') ∧ Old H.length H H' := by
  unfold smallB
  by_cases c1 : w ≤ 64
  case neg =>
    refine ⟨H, fun R K => ?_, .refl _ _⟩
    unfold L_small L_small_b L_small_p0 L_small_p0_b
    refine go_t (decide_eq_true (by omega)) ?_
    rw [decide_eq_false (fun h => c1 h.1)]
  by_cases c2 : h ≤ 64
  case neg =>
    refine ⟨H, fun R K => ?_, .refl _ _⟩
    unfold L_small L_small_b L_small_p0 L_small_p0_b
    refine go_f (decide_eq_false (by omega)) (go_t (decide_eq_true (by omega)) ?_)
    rw [decide_eq_false (fun h => c2 h.2.1)]
  by_cases c3 : ops.length ≤ 100
  case neg =>
    refine ⟨H, fun R K => ?_, .refl _ _⟩
    unfold L_small L_small_b L_small_p0 L_small_p0_b
    refine go_f (decide_eq_false (by omega)) (go_f (decide_eq_false (by omega)) (go_t (decide_eq_true (by omega)) ?_))
    rw [decide_eq_false (fun h => c3 h.2.2.1)]
  obtain ⟨H', e, o⟩ := small_l k c c3 ops.length k 0 (by omega) (by omega) H hS
  refine ⟨H', fun R K => ?_, o⟩
  unfold L_small L_small_b L_small_p0 L_small_p0_b
  refine go_f (decide_eq_false (by omega)) (go_f (decide_eq_false (by omega)) (go_f (decide_eq_false (by omega)) ?_))
  refine (e R (fun n107 H108 => K (decide (n107 ≤ 65536)) H108)).trans ?_
  congr 1
  exact decide_eq_decide.2 ⟨fun h => ⟨c1, c2, c3, by omega⟩, fun h => by omega⟩
theorem small_of {w h : Int} {ops : List Op4} (hh : smallB w h ops = true) : w ≤ 64 ∧ h ≤ 64 ∧ ops.length ≤ 100 ∧ uns ops ≤ 65536 := of_decide_eq_true hh
end Go.Proofs.Ytblkejnciinaeaa.Sh
