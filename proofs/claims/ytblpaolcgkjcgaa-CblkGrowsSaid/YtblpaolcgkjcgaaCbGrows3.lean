/- How the numbers of neighbors change: the law's run. -/
import Derived.Test.YtblpaolcgkjcgaaCbGrows2
set_option linter.unusedVariables false
set_option linter.unusedSimpArgs false
namespace Go.Proofs.Ytblpaolcgkjcgaa.Sh
open Go.Proofs.Ytblpaolcgkjcgaa.FW
def b01 (t : Bool) : Int := bif t then 1 else 0
theorem imx_abs (a b : Int) (h : -100 ≤ a - b ∧ a - b ≤ 100) : 0 ≤ imx (a - b) (b - a) ∧ imx (a - b) (b - a) ≤ 100 := by unfold imx; split <;> omega
theorem gp2_eq (k : Nat) (q1 : Option Addr) (l1 c1 : Nat) (q2 : Option Addr) (l2 c2 : Nat) (w h x y : Int) (c : Bool) (v u : Int) (at_ dx dy : Int) (hv : 0 ≤ v ∧ v < 64) (e1 : dx = imx (u - x) (x - u)) (e2 : dy = imx (v - y) (y - v)) (h1 : 0 ≤ dx ∧ dx ≤ 100) (h2 : 0 ≤ dy ∧ dy ≤ 100) (R : Type) (KN : Option Addr → Nat → Nat → Option Addr → Nat → Nat → Int → Int → Int → Int → Bool → Int → Int → Int → Int → Int → Bool → Option R) :
    L_grown_p2 k q1 l1 c1 q2 l2 c2 w h x y c v u at_ dx dy KN = KN q1 l1 c1 q2 l2 c2 w h x y c v u at_ dx dy (seen c x y u v) := by
  unfold L_grown_p2 L_grown_p2_b seen
  rw [← e1, ← e2]
  have e3 : IntKind.wrap .i64 (v + 1) = v + 1 := w64 (by omega) (by omega)
  have e4 : IntKind.wrap .i64 (dx + dy) = dx + dy := w64 (by omega) (by omega)
  simp only [e3, e4]
  cases decide (dx ≤ 1) <;> cases decide (dy ≤ 1) <;> cases decide (dx + dy > 0) <;> cases c <;> cases (y == v + 1) <;> rfl
theorem gp3_eq (k : Nat) (q1 : Option Addr) (l1 c1 : Nat) (q2 : Option Addr) (l2 c2 : Nat) (w h x y : Int) (c : Bool) (v u : Int) (at_ dx dy : Int) (h1 : 0 ≤ dx ∧ dx ≤ 100) (h2 : 0 ≤ dy ∧ dy ≤ 100) (t : Bool) (H : Heap) :
    ∃ H', (∀ (R : Type) (KN : Option Addr → Nat → Nat → Option Addr → Nat → Nat → Int → Int → Int → Int → Bool → Int → Int → Int → Option Addr → Heap → Option R), L_grown_p3 k q1 l1 c1 q2 l2 c2 w h x y c v u at_ dx dy t H KN = KN q1 l1 c1 q2 l2 c2 w h x y c v u at_ (some ⟨H.length, 0, none⟩) H') ∧ Owns H' H.length [.bool (t && (dy == 0)), .bool (t && (dx == 0)), .bool (t && (dx + dy == 2))] 0 ∧ Old H.length H H' := by
  obtain ⟨H1, H', e1, e2, B, o, n⟩ := hal_st H [.bool false, .bool false, .bool false] [.bool (t && (dy == 0)), .bool (t && (dx == 0)), .bool (t && (dx + dy == 2))] rfl rfl
  refine ⟨H', fun R KN => ?_, B, o⟩
  have e4 : IntKind.wrap .i64 (dx + dy) = dx + dy := w64 (by omega) (by omega)
  unfold L_grown_p3 L_grown_p3_b
  cases t with
  | true => simp only [Bool.true_and] at e2; simp only [cond_true, e1, e4, e2]
  | false => simp only [Bool.false_and] at e2; simp only [cond_false, e1, e4, e2]
theorem gp5_eq (k : Nat) {H : Heap} {b1 b2 b3 l : Nat} (c1 c2 : Nat) (w h x y : Int) (c : Bool) (v u : Int) (at_ i : Int) {A B : Int} {t : Bool} (hat : 0 ≤ at_ + i ∧ at_ + i < l) (hl : l < 1000000) (hi : 0 ≤ i ∧ i < 3)
    (m1 : pcell H (some ⟨b1, (at_ + i).toNat, none⟩) = some (.int .i64 B)) (m2 : pcell H (some ⟨b2, (at_ + i).toNat, none⟩) = some (.int .i64 A)) (m3 : pcell H (some ⟨b3, i.toNat, none⟩) = some (.bool t)) (e : A = B + b01 t)
    (R : Type) (KN : Option Addr → Nat → Nat → Option Addr → Nat → Nat → Int → Int → Int → Int → Bool → Int → Int → Int → Option Addr → Int → Option R) (KR : Bool → Option R) :
    L_grown_p5 k (some ⟨b1, 0, none⟩) l c1 (some ⟨b2, 0, none⟩) l c2 w h x y c v u at_ (some ⟨b3, 0, none⟩) i H KN KR = KN (some ⟨b1, 0, none⟩) l c1 (some ⟨b2, 0, none⟩) l c2 w h x y c v u at_ (some ⟨b3, 0, none⟩) i := by
  have e3 : IntKind.wrap .i64 (at_ + i) = at_ + i := w64 (by omega) (by omega)
  have e4 : IntKind.wrap .i64 (A - B) = b01 t := by rw [e, show B + b01 t - B = b01 t from by omega]; cases t <;> rfl
  have x1 : ∀ (b : Nat) (R : Type) (K : Option Addr → Option R), hidx (some ⟨b, 0, none⟩) l (at_ + i) 1 K = K (some ⟨b, (at_ + i).toNat, none⟩) := fun b R K => by rw [hidx_1 b l 0 _ hat.1 hat.2]; simp
  have x2 : ∀ (R : Type) (K : Option Addr → Option R), hidx (some ⟨b3, 0, none⟩) 3 i 1 K = K (some ⟨b3, i.toNat, none⟩) := fun R K => by rw [hidx_1 b3 3 0 _ hi.1 (by omega)]; simp
  have l1 := fun (K : Int → Option R) => ldI_of m1 rfl K
  have l2 := fun (K : Int → Option R) => ldI_of m2 rfl K
  have l3 := fun (K : Bool → Option R) => ldB_of m3 K
  unfold L_grown_p5 L_grown_p5_b
  simp only [e3, x1, l1, l2, e4, x2, l3]
  cases t <;> rfl
theorem gl4_eq (k : Nat) (hk : 70 < k) {H : Heap} {b1 b2 b3 l : Nat} (c1 c2 : Nat) (w h x y : Int) (c : Bool) (v u : Int) (at_ : Int) {A B : Nat → Int} {t : Nat → Bool} (hat : 0 ≤ at_ ∧ at_ + 2 < l) (hl : l < 1000000)
    (m1 : ∀ j : Nat, j < 3 → pcell H (some ⟨b1, (at_ + (j : Int)).toNat, none⟩) = some (.int .i64 (B j))) (m2 : ∀ j : Nat, j < 3 → pcell H (some ⟨b2, (at_ + (j : Int)).toNat, none⟩) = some (.int .i64 (A j))) (m3 : ∀ j : Nat, j < 3 → pcell H (some ⟨b3, j, none⟩) = some (.bool (t j))) (e : ∀ j : Nat, j < 3 → A j = B j + b01 (t j))
    (R : Type) (KE : Option Addr → Nat → Nat → Option Addr → Nat → Nat → Int → Int → Int → Int → Bool → Int → Int → Option R) (KR : Bool → Option R) : ∀ (m n i : Nat), m < n → 3 = i + m →
    L_grown_l4 k KE KR n (some ⟨b1, 0, none⟩) l c1 (some ⟨b2, 0, none⟩) l c2 w h x y c v u at_ (some ⟨b3, 0, none⟩) (i : Int) H = KE (some ⟨b1, 0, none⟩) l c1 (some ⟨b2, 0, none⟩) l c2 w h x y c v u := by
  intro m
  induction m with
  | zero =>
    intro n i hn hx
    obtain ⟨n, rfl⟩ : ∃ n', n = n' + 1 := ⟨n - 1, by omega⟩
    have ed : decide ((i : Int) < 3) = false := by simp; omega
    simp only [L_grown_l4, L_grown_l4_b, ed, cond_false]
  | succ m ih =>
    intro n i hn hx
    obtain ⟨n, rfl⟩ : ∃ n', n = n' + 1 := ⟨n - 1, by omega⟩
    have ed : decide ((i : Int) < 3) = true := by simp; omega
    have ew : IntKind.wrap .i64 ((i : Int) + 1) = ((i + 1 : Nat) : Int) := by rw [w64 (by omega) (by omega)]; rfl
    have hp := gp5_eq k (H := H) (b1 := b1) (b2 := b2) (b3 := b3) (l := l) c1 c2 w h x y c v u at_ (i : Int) (by omega) hl (by omega) (m1 i (by omega)) (m2 i (by omega)) (m3 i (by omega)) (e i (by omega))
    simp only [L_grown_l4, L_grown_l4_b, ed, cond_true, hp, ew]
    exact ih n (i + 1) (by omega) (by omega)
section
variable {a1 a2 w h : Nat} {g : Nat → Cel} {b1 b2 : Nat} {x y : Int}
theorem gl1_eq (k : Nat) (hk : 70 < k) (c1 c2 : Nat) (c : Bool) (hw : w ≤ 64) (hh : h ≤ 64) (hi : inn w h x y = true) (hs : (gc w h g x y).s = false) (v : Nat) (hv : v < h) : ∀ (m n u : Nat), m < n → w = u + m → ∀ (H : Heap), Owns H b1 (cntl w h g c (h * w)) 1 → Owns H b2 (cntl w h (markd w g x y) c (h * w)) 1 →
    ∃ H', (∀ (R : Type) (KE : Option Addr → Nat → Nat → Option Addr → Nat → Nat → Int → Int → Int → Int → Bool → Int → Heap → Option R) (KR : Bool → Heap → Option R), L_grown_l1 k KE KR n (some ⟨b1, 0, none⟩) (3 * (h * w)) c1 (some ⟨b2, 0, none⟩) (3 * (h * w)) c2 (w : Int) (h : Int) x y c (v : Int) (u : Int) H = KE (some ⟨b1, 0, none⟩) (3 * (h * w)) c1 (some ⟨b2, 0, none⟩) (3 * (h * w)) c2 w h x y c v H') ∧ Old H.length H H' := by
  intro m
  induction m with
  | zero =>
    intro n u hn hu H B1 B2
    obtain ⟨n, rfl⟩ : ∃ n', n = n' + 1 := ⟨n - 1, by omega⟩
    refine ⟨H, fun R KE KR => ?_, .refl _ _⟩
    have ed : decide ((u : Int) < (w : Int)) = false := by simp; omega
    simp only [L_grown_l1, L_grown_l1_b, ed, cond_false]
  | succ m ih =>
    intro n u hn hu H B1 B2
    obtain ⟨n, rfl⟩ : ∃ n', n = n' + 1 := ⟨n - 1, by omega⟩
    have hxy := inn_wf hw hh hi
    have huw : u < w := by omega
    obtain ⟨d1, d2⟩ := div_mod_at (y := v) huw
    have hiu : inn w h (u : Int) (v : Int) = true := by unfold inn; simp; omega
    have hin := ix_lt hiu
    have hix : ix w (u : Int) (v : Int) = v * w + u := by unfold ix; simp
    rw [hix] at hin
    have hwh : w * h ≤ 64 * 64 := Nat.mul_le_mul hw hh
    rw [Nat.mul_comm w h] at hin hwh
    have r1 := imx_abs (u : Int) x (by omega)
    have r2 := imx_abs (v : Int) y (by omega)
    obtain ⟨H1, e3, B3, o3⟩ := gp3_eq k (some ⟨b1, 0, none⟩) (3 * (h * w)) c1 (some ⟨b2, 0, none⟩) (3 * (h * w)) c2 (w : Int) (h : Int) x y c (v : Int) (u : Int) (3 * (((v * w + u : Nat)) : Int)) (imx ((u : Int) - x) (x - u)) (imx ((v : Int) - y) (y - v)) r1 r2 (seen c x y u v) H
    have B1' := Owns.old B1 o3 (Owns.lt B1)
    have B2' := Owns.old B2 o3 (Owns.lt B2)
    obtain ⟨nm1, nm2, nm3⟩ := nb_mark hi hs hiu c
    have hget : ∀ (g : Nat → Cel) (j : Nat), j < 3 → (cntl w h g c (h * w))[((3 * (((v * w + u : Nat)) : Int)) + (j : Int)).toNat]? = (trip w h g c (v * w + u))[j]? := fun g j hj => by
      rw [show ((3 * (((v * w + u : Nat)) : Int)) + (j : Int)).toNat = 3 * (v * w + u) + j from by omega]
      exact cntl_get w h g c (h * w) (v * w + u) j hin hj
    have e4 := gl4_eq k hk (H := H1) (b1 := b1) (b2 := b2) (b3 := H.length) (l := 3 * (h * w)) c1 c2 (w : Int) (h : Int) x y c (v : Int) (u : Int) (3 * (((v * w + u : Nat)) : Int))
      (A := fun j => match j with | 0 => (nb w h (markd w g x y) u v c).1 | 1 => (nb w h (markd w g x y) u v c).2.1 | _ => (nb w h (markd w g x y) u v c).2.2)
      (B := fun j => match j with | 0 => (nb w h g u v c).1 | 1 => (nb w h g u v c).2.1 | _ => (nb w h g u v c).2.2)
      (t := fun j => match j with | 0 => seen c x y u v && (imx ((v : Int) - y) (y - v) == 0) | 1 => seen c x y u v && (imx ((u : Int) - x) (x - u) == 0) | _ => seen c x y u v && (imx ((u : Int) - x) (x - u) + imx ((v : Int) - y) (y - v) == 2))
      (by omega) (by omega)
      (fun j hj => by
        rw [Owns.at B1', hget g j hj]
        unfold trip; rw [d1, d2]
        rcases j with _ | _ | _ | j <;> first | rfl | omega)
      (fun j hj => by
        rw [Owns.at B2', hget _ j hj]
        unfold trip; rw [d1, d2]
        rcases j with _ | _ | _ | j <;> first | rfl | omega)
      (fun j hj => by
        rw [Owns.at B3]
        rcases j with _ | _ | _ | j <;> first | rfl | omega)
      (fun j hj => by rcases j with _ | _ | _ | j <;> first | exact nm1 | exact nm2 | exact nm3 | omega)
    obtain ⟨H', i1, i2⟩ := ih n (u + 1) (by omega) (by omega) H1 B1' B2'
    refine ⟨H', fun R KE KR => ?_, o3.trans (i2.mono o3.1)⟩
    have ed : decide ((u : Int) < (w : Int)) = true := by simp; omega
    have ew : IntKind.wrap .i64 ((u : Int) + 1) = ((u + 1 : Nat) : Int) := by rw [w64 (by omega) (by omega)]; rfl
    have hvw : v * w ≤ h * w := Nat.mul_le_mul_right w (by omega)
    have f1 : IntKind.wrap .i64 ((v : Int) * (w : Int)) = ((v * w : Nat) : Int) := by rw [← Int.natCast_mul]; exact w64 (by omega) (by omega)
    have f2 : IntKind.wrap .i64 (((v * w : Nat) : Int) + (u : Int)) = ((v * w + u : Nat) : Int) := by rw [w64 (by omega) (by omega)]; rfl
    have f3 : IntKind.wrap .i64 (3 * ((v * w + u : Nat) : Int)) = 3 * ((v * w + u : Nat) : Int) := w64 (by omega) (by omega)
    have f4 : IntKind.wrap .i64 ((u : Int) - x) = (u : Int) - x := w64 (by omega) (by omega)
    have f5 : IntKind.wrap .i64 (x - (u : Int)) = x - (u : Int) := w64 (by omega) (by omega)
    have f6 : IntKind.wrap .i64 ((v : Int) - y) = (v : Int) - y := w64 (by omega) (by omega)
    have f7 : IntKind.wrap .i64 (y - (v : Int)) = y - (v : Int) := w64 (by omega) (by omega)
    have hp2 := gp2_eq k (some ⟨b1, 0, none⟩) (3 * (h * w)) c1 (some ⟨b2, 0, none⟩) (3 * (h * w)) c2 (w : Int) (h : Int) x y c (v : Int) (u : Int) (3 * (((v * w + u : Nat)) : Int)) _ _ (by omega) rfl rfl r1 r2
    have e4' := fun (R : Type) KE KR => e4 R KE KR 3 k 0 (by omega) (by omega)
    simp only [Int.natCast_zero] at e4'
    simp only [L_grown_l1, L_grown_l1_b, ed, cond_true, f1, f2, f3, f4, f5, f6, f7, hp2, e3, e4', ew, i1]
theorem gl0_eq (k : Nat) (hk : 70 < k) (c1 c2 : Nat) (c : Bool) (hw : w ≤ 64) (hh : h ≤ 64) (hi : inn w h x y = true) (hs : (gc w h g x y).s = false) : ∀ (m n v : Nat), m < n → h = v + m → ∀ (H : Heap), Owns H b1 (cntl w h g c (h * w)) 1 → Owns H b2 (cntl w h (markd w g x y) c (h * w)) 1 →
    ∃ H', (∀ (R : Type) (KE : Heap → Option R) (KR : Bool → Heap → Option R), L_grown_l0 k KE KR n (some ⟨b1, 0, none⟩) (3 * (h * w)) c1 (some ⟨b2, 0, none⟩) (3 * (h * w)) c2 (w : Int) (h : Int) x y c (v : Int) H = KE H') ∧ Old H.length H H' := by
  intro m
  induction m with
  | zero =>
    intro n v hn hu H B1 B2
    obtain ⟨n, rfl⟩ : ∃ n', n = n' + 1 := ⟨n - 1, by omega⟩
    refine ⟨H, fun R KE KR => ?_, .refl _ _⟩
    have ed : decide ((v : Int) < (h : Int)) = false := by simp; omega
    simp only [L_grown_l0, L_grown_l0_b, ed, cond_false]
  | succ m ih =>
    intro n v hn hu H B1 B2
    obtain ⟨n, rfl⟩ : ∃ n', n = n' + 1 := ⟨n - 1, by omega⟩
    obtain ⟨H1, e1, o1⟩ := gl1_eq k hk c1 c2 c hw hh hi hs v (by omega) w k 0 (by omega) (by omega) H B1 B2
    obtain ⟨H', i1, i2⟩ := ih n (v + 1) (by omega) (by omega) H1 (Owns.old B1 o1 (Owns.lt B1)) (Owns.old B2 o1 (Owns.lt B2))
    refine ⟨H', fun R KE KR => ?_, o1.trans (i2.mono o1.1)⟩
    have ed : decide ((v : Int) < (h : Int)) = true := by simp; omega
    have ew : IntKind.wrap .i64 ((v : Int) + 1) = ((v + 1 : Nat) : Int) := by rw [w64 (by omega) (by omega)]; rfl
    simp only [Int.natCast_zero] at e1
    simp only [L_grown_l0, L_grown_l0_b, ed, cond_true, e1, ew, i1]
theorem grown_eq (k : Nat) (hk : 70 < k) (c1 c2 : Nat) (c : Bool) (hw : w ≤ 64) (hh : h ≤ 64) (hi : inn w h x y = true) (hs : (gc w h g x y).s = false) {H : Heap} (B1 : Owns H b1 (cntl w h g c (h * w)) 1) (B2 : Owns H b2 (cntl w h (markd w g x y) c (h * w)) 1) :
    ∃ H', (∀ (R : Type) (K : Bool → Heap → Option R), L_grown k (some ⟨b1, 0, none⟩) (3 * (h * w)) c1 (some ⟨b2, 0, none⟩) (3 * (h * w)) c2 (w : Int) (h : Int) x y c H K = K true H') ∧ Old H.length H H' := by
  obtain ⟨H', e, o⟩ := gl0_eq k hk c1 c2 c hw hh hi hs h k 0 (by omega) (by omega) H B1 B2
  simp only [Int.natCast_zero] at e
  exact ⟨H', fun R K => by unfold L_grown L_grown_b; exact e R _ _, o⟩
end
section
variable {a1 a2 w h : Nat} {g : Nat → Cel} {H : Heap}
theorem cg3_eq (k : Nat) (B : BlkR H a1 a2 w h g) (x y : Int) (R : Type) (KN : Int → Int → Option Addr → Int → Int → Option R) (KR : Bool → Option R) :
    L_CblkGrows_p3 k (w : Int) (h : Int) (some ⟨a1, 0, none⟩) y x H KN KR = KN w h (some ⟨a1, 0, none⟩) y x := by
  unfold L_CblkGrows_p3 L_CblkGrows_p3_b
  simp only [Neighbors_eq k B, Signs_eq k B]
  have key : ∀ (s t : Int), -1 ≤ jn s t ∧ jn s t ≤ 1 := fun s t => by unfold jn imn imx; split <;> split <;> omega
  have cs : ∀ (u v : Int), cnt w h g u v = 0 → sgn w h g u v = 0 := fun u v hh => by
    unfold cnt at hh; unfold sgn
    cases e : (gc w h g u v).s with
    | false => rfl
    | true => rw [e] at hh; simp at hh
  have z : -1 ≤ (sg w h g x y true).1 ∧ (sg w h g x y true).1 ≤ 1 ∧ -1 ≤ (sg w h g x y true).2 ∧ (sg w h g x y true).2 ≤ 1 ∧ ((nb w h g x y true).1 = 0 → (sg w h g x y true).1 = 0) ∧ ((nb w h g x y true).2.1 = 0 → (sg w h g x y true).2 = 0) := by
    unfold sg nb
    cases inn w h x y with
    | false => simp
    | true =>
      have c1 := cnt_01 w h g (x - 1) y
      have c2 := cnt_01 w h g (x + 1) y
      have c3 := cnt_01 w h g x (y - 1)
      have c4 := cnt_01 w h g x (y + 1)
      simp only [cond_true, Bool.not_true, Bool.false_or]
      refine ⟨(key _ _).1, (key _ _).2, (key _ _).1, (key _ _).2, fun hh => ?_, fun hh => ?_⟩
      · rw [cs _ _ (show cnt w h g (x - 1) y = 0 by omega), cs _ _ (show cnt w h g (x + 1) y = 0 by omega)]; rfl
      · cases e : (Int.tmod y 4 != 3) with
        | false => rw [e] at hh; simp only [cond_false] at hh ⊢; rw [cs _ _ (show cnt w h g x (y - 1) = 0 by omega)]; rfl
        | true => rw [e] at hh; simp only [cond_true] at hh ⊢; rw [cs _ _ (show cnt w h g x (y - 1) = 0 by omega), cs _ _ (show cnt w h g x (y + 1) = 0 by omega)]; rfl
  generalize sg w h g x y true = S at z ⊢
  generalize nb w h g x y true = M at z ⊢
  obtain ⟨s, t⟩ := S
  obtain ⟨i, j, l⟩ := M
  simp only at z ⊢
  have d1 : decide (s < -1) = false := by simp; omega
  have d2 : decide (s > 1) = false := by simp; omega
  have d3 : decide (t < -1) = false := by simp; omega
  have d4 : decide (t > 1) = false := by simp; omega
  simp only [d1, d2, d3, d4, cond_false]
  by_cases c1 : i = 0
  · have hs : (s != 0) = false := by simpa using z.2.2.2.2.1 c1
    by_cases c2 : j = 0
    · have ht : (t != 0) = false := by simpa using z.2.2.2.2.2 c2
      simp only [c1, c2, hs, ht, beq_self_eq_true, cond_true, cond_false]
    · have : (j == 0) = false := by simpa using c2
      simp only [c1, this, hs, beq_self_eq_true, cond_true, cond_false]
  · have e1 : (i == 0) = false := by simpa using c1
    by_cases c2 : j = 0
    · have ht : (t != 0) = false := by simpa using z.2.2.2.2.2 c2
      simp only [e1, c2, ht, beq_self_eq_true, cond_true, cond_false]
    · have : (j == 0) = false := by simpa using c2
      simp only [e1, this, cond_false]
theorem cg2_eq (k : Nat) (B : BlkR H a1 a2 w h g) (y : Int) (R : Type) (KE : Int → Int → Option Addr → Int → Option R) (KR : Bool → Option R) : ∀ (m n x : Nat), m < n → w = x + m →
    L_CblkGrows_l2 k KE KR n (w : Int) (h : Int) (some ⟨a1, 0, none⟩) y (x : Int) H = KE w h (some ⟨a1, 0, none⟩) y := by
  intro m
  induction m with
  | zero =>
    intro n x hn hx
    obtain ⟨n, rfl⟩ : ∃ n', n = n' + 1 := ⟨n - 1, by omega⟩
    have ed : decide ((x : Int) < (w : Int)) = false := by simp; omega
    simp only [L_CblkGrows_l2, L_CblkGrows_l2_b, ed, cond_false]
  | succ m ih =>
    intro n x hn hx
    obtain ⟨n, rfl⟩ : ∃ n', n = n' + 1 := ⟨n - 1, by omega⟩
    have hw := B.bw
    have ed : decide ((x : Int) < (w : Int)) = true := by simp; omega
    have ew : IntKind.wrap .i64 ((x : Int) + 1) = ((x + 1 : Nat) : Int) := by rw [w64 (by omega) (by omega)]; rfl
    simp only [L_CblkGrows_l2, L_CblkGrows_l2_b, ed, cond_true, cg3_eq k B, ew, ih n (x + 1) (by omega) (by omega)]
theorem cg1_eq (k : Nat) (hk : 70 < k) (B : BlkR H a1 a2 w h g) (R : Type) (KE : Unit → Option R) (KR : Bool → Option R) : ∀ (m n y : Nat), m < n → h = y + m →
    L_CblkGrows_l1 k KE KR n (w : Int) (h : Int) (some ⟨a1, 0, none⟩) (y : Int) H = KE () := by
  intro m
  induction m with
  | zero =>
    intro n x hn hx
    obtain ⟨n, rfl⟩ : ∃ n', n = n' + 1 := ⟨n - 1, by omega⟩
    have ed : decide ((x : Int) < (h : Int)) = false := by simp; omega
    simp only [L_CblkGrows_l1, L_CblkGrows_l1_b, ed, cond_false]
  | succ m ih =>
    intro n x hn hx
    obtain ⟨n, rfl⟩ : ∃ n', n = n' + 1 := ⟨n - 1, by omega⟩
    have hw := B.bw
    have hh := B.bh
    have ed : decide ((x : Int) < (h : Int)) = true := by simp; omega
    have ew : IntKind.wrap .i64 ((x : Int) + 1) = ((x + 1 : Nat) : Int) := by rw [w64 (by omega) (by omega)]; rfl
    have e2 := fun KE KR => cg2_eq k B (x : Int) R KE KR w k 0 (by omega) (by omega)
    simp only [Int.natCast_zero] at e2
    simp only [L_CblkGrows_l1, L_CblkGrows_l1_b, ed, cond_true, e2, ew, ih n (x + 1) (by omega) (by omega)]
end
theorem grows_in (H : Heap) (us : List Value) (h : AllLies H [(.int .i64, false), (.int .i64, false), (.slc dOp, false)] us) : L_CblkGrows_c Bool 1000 us H asB = some true := by
  obtain ⟨w, _, rfl, _, h⟩ := lies_int h
  obtain ⟨ht, _, rfl, _, h⟩ := lies_int h
  obtain ⟨q, c, es, _, rfl, _, _, hes, hS, h⟩ := lies_slc h
  cases lies_nil h
  obtain ⟨ops, hl, hf, _⟩ := ops_of es hes
  rw [hf] at hS
  rw [← hl]
  show L_CblkGrows 1000 w ht q ops.length c H (fun t H => asB (.bool t) H) = some true
  unfold L_CblkGrows L_CblkGrows_b
  simp only [small_eq]
  cases hs : sml w ht ops.length with
  | false => simp only [Bool.not_false, cond_true]; rfl
  | true =>
    obtain ⟨a, b, rfl, rfl, h1, h2, h3, h4, h5⟩ := sml_nat hs
    obtain ⟨a1, a2, b1, b2, H1, e1, T, o1⟩ := played_eq 1000 (by omega) c hS h5 h1 (by omega) h3 (by omega)
    have m1 : ∀ (R : Type) (K : Int → Option R), hbin .rem .i64 ((ops.length : Nat) : Int) (a : Int) K = K ((ops.length % a : Nat) : Int) := fun R K => by
      simp only [hbin]; rw [if_neg (by omega), Int.tmod_eq_emod_of_nonneg (by omega)]; rfl
    have m2 : ∀ (R : Type) (K : Int → Option R), hbin .rem .i64 (IntKind.wrap .i64 (((ops.length : Nat) : Int) + (a : Int))) (b : Int) K = K (((ops.length + a) % b : Nat) : Int) := fun R K => by
      rw [w64 (by omega) (by omega)]
      simp only [hbin]; rw [if_neg (by omega), Int.tmod_eq_emod_of_nonneg (by omega)]; rfl
    have l1 : ops.length % a < a := Nat.mod_lt _ (by omega)
    have l2 : (ops.length + a) % b < b := Nat.mod_lt _ (by omega)
    have hi : inn a b ((ops.length % a : Nat) : Int) (((ops.length + a) % b : Nat) : Int) = true := by unfold inn; simp only [Bool.and_eq_true, decide_eq_true_eq]; omega
    generalize ((ops.length % a : Nat) : Int) = x at m1 hi
    generalize (((ops.length + a) % b : Nat) : Int) = y at m2 hi
    simp only [Bool.not_true, cond_false, e1]
    rw [m1, m2, Significant_eq 1000 T.a.r]
    generalize hg : plays a b (fun _ => cel0) ops = g at T ⊢
    cases hsg : (gc a b g x y).s with
    | true => simp only [cond_true]; rfl
    | false =>
      obtain ⟨p1, cc1, H2, e2, P1, _, o2⟩ := counts_eq 1000 (by omega) T.a.r false
      have A2 := T.a.keep o2
      obtain ⟨p2, cc2, H3, e3, P2, n2, o3⟩ := counts_eq 1000 (by omega) A2.r true
      have A3 := A2.keep o3
      have P1' := Owns.old P1 o3 (Owns.lt P1)
      obtain ⟨H4, e4, A4, c4⟩ := Mark_eq 1000 A3 x y
      rw [hi] at e4 A4
      have hp1 : p1 ≠ a2 := by have := Owns.lt T.a.own; omega
      have hp2 : p2 ≠ a2 := by have := Owns.lt A2.own; omega
      have b4 : But a2 H3 H4 := ⟨c4.1, c4.2⟩
      have Q1 := Owns.but P1' b4 hp1
      have Q2 := Owns.but P2 b4 hp2
      obtain ⟨p3, cc3, H5, e5, P3, _, o5⟩ := counts_eq 1000 (by omega) A4.r false
      obtain ⟨H6, e6, o6⟩ := grown_eq (b1 := p1) (b2 := p3) 1000 (by omega) cc1 cc3 false (show a ≤ 64 by omega) (show b ≤ 64 by omega) hi hsg (Owns.old Q1 o5 (Owns.lt Q1)) P3
      have A6 := (A4.keep o5).keep o6
      obtain ⟨p4, cc4, H7, e7, P4, _, o7⟩ := counts_eq 1000 (by omega) A6.r true
      have Q2' := Owns.old (Owns.old (Owns.old Q2 o5 (Owns.lt Q2)) o6 (by have := Owns.lt Q2; have := o5.1; omega)) o7 (by have := Owns.lt Q2; have := o5.1; have := o6.1; omega)
      obtain ⟨H8, e8, o8⟩ := grown_eq (b1 := p2) (b2 := p4) 1000 (by omega) cc2 cc4 true (show a ≤ 64 by omega) (show b ≤ 64 by omega) hi hsg Q2' P4
      have A8 := (A6.keep o7).keep o8
      have e9 := fun (R : Type) KE KR => cg1_eq 1000 (by omega) A8.r R KE KR b 1000 0 (by omega) (by omega)
      simp only [Int.natCast_zero] at e9
      unfold L_CblkGrows_p0 L_CblkGrows_p0_b
      simp only [cond_false, e2, e3, e4, if_true, bne_self_eq_false, e5, e6, Bool.not_true, e7, e8, e9]
      rfl
end Go.Proofs.Ytblpaolcgkjcgaa.Sh
