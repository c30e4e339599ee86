/- How the numbers of neighbors change when a coefficient becomes significant. -/
import Derived.Test.YtblpaolcgkjcgaaCbOps
import Derived.Test.YtblpaolcgkjcgaaFwN
import Derived.Test.YtblpaolcgkjcgaaSh16
set_option linter.unusedVariables false
set_option linter.unusedSimpArgs false
namespace Go.Proofs.Ytblpaolcgkjcgaa.Sh
open Go.Proofs.Ytblpaolcgkjcgaa.FW
def trip (w h : Nat) (g : Nat → Cel) (c : Bool) (i : Nat) : List Value :=
  [.int .i64 (nb w h g ((i % w : Nat) : Int) ((i / w : Nat) : Int) c).1, .int .i64 (nb w h g ((i % w : Nat) : Int) ((i / w : Nat) : Int) c).2.1, .int .i64 (nb w h g ((i % w : Nat) : Int) ((i / w : Nat) : Int) c).2.2]
def cntl (w h : Nat) (g : Nat → Cel) (c : Bool) (t : Nat) : List Value := (List.range t).flatMap (trip w h g c)
theorem cntl_len (w h : Nat) (g : Nat → Cel) (c : Bool) (t : Nat) : (cntl w h g c t).length = 3 * t := by
  induction t with
  | zero => rfl
  | succ t ih => unfold cntl at *; rw [List.range_succ, List.flatMap_append, List.length_append, ih]; simp [trip]; omega
theorem cntl_succ (w h : Nat) (g : Nat → Cel) (c : Bool) (t : Nat) : cntl w h g c (t + 1) = cntl w h g c t ++ trip w h g c t := by
  unfold cntl; rw [List.range_succ, List.flatMap_append]; simp
theorem cntl_get (w h : Nat) (g : Nat → Cel) (c : Bool) : ∀ (t i j : Nat), i < t → j < 3 → (cntl w h g c t)[3 * i + j]? = (trip w h g c i)[j]? := by
  intro t
  induction t with
  | zero => intro i j h; omega
  | succ t ih =>
    intro i j hi hj
    rw [cntl_succ, List.getElem?_append, cntl_len]
    by_cases e : i < t
    · rw [if_pos (by omega)]; exact ih i j e hj
    · have : i = t := by omega
      subst this
      rw [if_neg (by omega), Nat.add_sub_cancel_left]
theorem BlkR.low {N : Nat} {H H' : Heap} {b1 b2 w h : Nat} {g : Nat → Cel} (B : BlkR H b1 b2 w h g) (o : Old N H H') (h1 : b1 < N) (h2 : b2 < N) : BlkR H' b1 b2 w h g := ⟨B.hd.old o h1, B.cs.old o h2, B.bw, B.bh⟩
theorem Blk.low {N : Nat} {H H' : Heap} {b1 b2 w h : Nat} {g : Nat → Cel} (B : Blk H b1 b2 w h g) (o : Old N H H') (h1 : b1 < N) (h2 : b2 < N) : Blk H' b1 b2 w h g := ⟨B.r.low o h1 h2, B.own.old o h2, B.ne⟩
theorem div_mod_at {w x y : Nat} (hx : x < w) : (y * w + x) % w = x ∧ (y * w + x) / w = y := by
  constructor
  · rw [Nat.add_comm, Nat.add_mul_mod_self_right, Nat.mod_eq_of_lt hx]
  · rw [Nat.add_comm, Nat.add_mul_div_right _ _ (by omega), Nat.div_eq_of_lt hx]; omega
section
variable {N a1 a2 w h : Nat} {g : Nat → Cel}
theorem counts_l1 (k : Nat) (c : Bool) (y : Nat) (hy : y < h) (h1 : a1 < N) (h2 : a2 < N) : ∀ (m n x : Nat), m < n → w = x + m → ∀ (H : Heap) (q : Option Addr) (cc : Nat), BlkR H a1 a2 w h g → Bld N 1 H q (3 * (y * w + x)) cc (cntl w h g c (y * w + x)) → N ≤ H.length →
    ∃ q' cc' H', (∀ (R : Type) (KE : Option Addr → Int → Int → Bool → Option Addr → Nat → Nat → Int → Heap → Option R), L_counts_l1 k KE n (some ⟨a1, 0, none⟩) (w : Int) (h : Int) c q (3 * (y * w + x)) cc (y : Int) (x : Int) H = KE (some ⟨a1, 0, none⟩) w h c q' (3 * (y * w + w)) cc' y H') ∧ Bld N 1 H' q' (3 * (y * w + w)) cc' (cntl w h g c (y * w + w)) ∧ Old N H H' := by
  intro m
  induction m with
  | zero =>
    intro n x hn hx H q cc B hB hN
    obtain ⟨n, rfl⟩ : ∃ n', n = n' + 1 := ⟨n - 1, by omega⟩
    have hx' : x = w := by omega
    subst hx'
    refine ⟨q, cc, H, fun R KE => ?_, hB, .refl _ _⟩
    have ed : decide ((x : Int) < (x : Int)) = false := by simp
    simp only [L_counts_l1, L_counts_l1_b, ed, cond_false]
  | succ m ih =>
    intro n x hn hx H q cc B hB hN
    obtain ⟨n, rfl⟩ : ∃ n', n = n' + 1 := ⟨n - 1, by omega⟩
    have hxw : x < w := by omega
    obtain ⟨d1, d2⟩ := div_mod_at (y := y) hxw
    obtain ⟨p, H1, e1, hp, g1, g2, g3⟩ := hal_of H (trip w h g c (y * w + x))
    subst hp
    have hB1 := hB.old g2 (Nat.le_refl _)
    have hw := B.bw
    have hh := B.bh
    have hyw : y * w ≤ 64 * 64 := Nat.mul_le_mul (by omega) hw.2
    obtain ⟨q2, H2, e2, g4, g5, g6⟩ := hB1.app (bytes := 8) (n := 3) (by omega) g1.sees.shows rfl (by omega) (by omega)
    rw [← cntl_succ, show 3 * (y * w + x) + 3 = 3 * (y * w + (x + 1)) from by omega] at g4
    have oN : Old N H H2 := (g2.mono hN).trans g5
    obtain ⟨q', cc', H', i1, i2, i3⟩ := ih n (x + 1) (by omega) (by omega) H2 q2 unk (B.low oN h1 h2) g4 (by omega)
    refine ⟨q', cc', H', fun R KE => ?_, i2, oN.trans i3⟩
    have ed : decide ((x : Int) < (w : Int)) = true := by simp; omega
    have ew : IntKind.wrap .i64 ((x : Int) + 1) = ((x + 1 : Nat) : Int) := by rw [w64 (by omega) (by omega)]; rfl
    have e1' := e1
    unfold trip at e1'
    rw [d1, d2] at e1'
    have e3 : 3 * (y * w + x) + 3 = 3 * (y * w + (x + 1)) := by omega
    simp only [L_counts_l1, L_counts_l1_b, ed, cond_true, Neighbors_eq k B, e1', e2, ew, e3, i1]
theorem counts_l0 (k : Nat) (c : Bool) (hk : 70 < k) (h1 : a1 < N) (h2 : a2 < N) : ∀ (m n y : Nat), m < n → h = y + m → ∀ (H : Heap) (q : Option Addr) (cc : Nat), BlkR H a1 a2 w h g → Bld N 1 H q (3 * (y * w)) cc (cntl w h g c (y * w)) → N ≤ H.length →
    ∃ q' cc' H', (∀ (R : Type) (KE : Option Addr → Nat → Nat → Heap → Option R), L_counts_l0 k KE n (some ⟨a1, 0, none⟩) (w : Int) (h : Int) c q (3 * (y * w)) cc (y : Int) H = KE q' (3 * (h * w)) cc' H') ∧ Bld N 1 H' q' (3 * (h * w)) cc' (cntl w h g c (h * w)) ∧ Old N H H' := by
  intro m
  induction m with
  | zero =>
    intro n y hn hx H q cc B hB hN
    obtain ⟨n, rfl⟩ : ∃ n', n = n' + 1 := ⟨n - 1, by omega⟩
    have hx' : y = h := by omega
    subst hx'
    refine ⟨q, cc, H, fun R KE => ?_, hB, .refl _ _⟩
    have ed : decide ((y : Int) < (y : Int)) = false := by simp
    simp only [L_counts_l0, L_counts_l0_b, ed, cond_false]
  | succ m ih =>
    intro n y hn hx H q cc B hB hN
    obtain ⟨n, rfl⟩ : ∃ n', n = n' + 1 := ⟨n - 1, by omega⟩
    have hw := B.bw
    have hh := B.bh
    obtain ⟨q1, cc1, H1, e1, g1, o1⟩ := counts_l1 k c y (by omega) h1 h2 w k 0 (by omega) (by omega) H q cc B hB hN
    rw [show y * w + w = (y + 1) * w from by rw [Nat.add_mul, Nat.one_mul]] at g1 e1
    obtain ⟨q', cc', H', i1, i2, i3⟩ := ih n (y + 1) (by omega) (by omega) H1 q1 cc1 (B.low o1 h1 h2) g1 (by have := o1.1; omega)
    refine ⟨q', cc', H', fun R KE => ?_, i2, o1.trans i3⟩
    have ed : decide ((y : Int) < (h : Int)) = true := by simp; omega
    have ew : IntKind.wrap .i64 ((y : Int) + 1) = ((y + 1 : Nat) : Int) := by rw [w64 (by omega) (by omega)]; rfl
    simp only [Nat.add_zero, Int.natCast_zero] at e1
    simp only [L_counts_l0, L_counts_l0_b, ed, cond_true, e1, ew, i1]
/-- The numbers of neighbors, in a row of one's own. -/
theorem counts_eq (k : Nat) (hk : 70 < k) {H : Heap} (B : BlkR H a1 a2 w h g) (c : Bool) : ∃ b cc H', (∀ (R : Type) (K : Option Addr → Nat → Nat → Heap → Option R), L_counts k (some ⟨a1, 0, none⟩) (w : Int) (h : Int) c H K = K (some ⟨b, 0, none⟩) (3 * (h * w)) cc H') ∧ Owns H' b (cntl w h g c (h * w)) 1 ∧ H.length ≤ b ∧ Old H.length H H' := by
  have hw := B.bw
  have hh := B.bh
  obtain ⟨q, cc, H', e, g1, o⟩ := counts_l0 k c hk B.hd.lt B.cs.lt h k 0 (by omega) (by omega) H none 0 B (by rw [Nat.zero_mul]; exact Bld.nil _ _ _) (Nat.le_refl _)
  rw [Nat.zero_mul] at e
  simp only [Nat.mul_zero, Int.natCast_zero] at e
  have hp : 1 ≤ h * w := Nat.mul_le_mul hh.1 hw.1
  rcases g1 with ⟨_, h0, _⟩ | ⟨b, rfl, _, h3, h4, _⟩
  · omega
  · exact ⟨b, cc, H', fun R K => by unfold L_counts L_counts_b; exact e R _, h4, h3, o⟩
end
end Go.Proofs.Ytblpaolcgkjcgaa.Sh
