/- The scan is the reference's for every size. -/
import Derived.Test.YtblpaolcgkjcgaaCbB
import Derived.Test.YtblpaolcgkjcgaaFwO
set_option linter.unusedVariables false
set_option linter.unusedSimpArgs false
namespace Go.Proofs.Ytblpaolcgkjcgaa.Sh
open Go.Proofs.Ytblpaolcgkjcgaa.FW
def isz (w h : Int) : Bool := decide (w ≥ 1) && decide (w ≤ 64) && decide (h ≥ 1) && decide (h ≤ 64)
theorem sized_eq {R : Type} (w h : Int) (K : Bool → Option R) : cblk_sized w h K = K (isz w h) := by
  unfold cblk_sized cblk_sized_b isz
  cases h1 : decide (w ≥ 1) <;> cases h2 : decide (w ≤ 64) <;> cases h3 : decide (h ≥ 1) <;> simp
theorem sizedR_eq {R : Type} (w h : Int) (K : Bool → Option R) : R14_ValidSize w h K = K (isz w h) := by
  unfold R14_ValidSize R14_ValidSize_b isz
  cases h1 : decide (w ≥ 1) <;> cases h2 : decide (w ≤ 64) <;> cases h3 : decide (h ≥ 1) <;> simp_all
theorem isz_nat {w h : Int} (hs : isz w h = true) : ∃ a b : Nat, w = a ∧ h = b ∧ 1 ≤ a ∧ a ≤ 64 ∧ 1 ≤ b ∧ b ≤ 64 := by
  unfold isz at hs
  simp only [Bool.and_eq_true, decide_eq_true_eq] at hs
  exact ⟨w.toNat, h.toNat, by omega, by omega, by omega, by omega, by omega, by omega⟩
/-- The points of a scan, cell by cell. -/
def scn (k : Nat) (w h : Int) : List Value := bif isz w h then pall (k - 1) w.toNat h.toNat 0 else []
theorem Scan_eq {k : Nat} (hk : 100 < k) (w h : Int) (H : Heap) : ∃ q l c H', (∀ (R : Type) (K : Option Addr → Nat → Nat → Heap → Option R), cblk_Scan k w h H K = K q l c H') ∧ Shows H' q (scn k w h) ∧ l * 2 = (scn k w h).length ∧ Below H'.length q ∧ Old H.length H H' ∧ l ≤ 4096 := by
  cases hs : isz w h with
  | false =>
    refine ⟨none, 0, 0, H, fun R K => ?_, by unfold scn; rw [hs]; exact .inl rfl, by unfold scn; rw [hs]; rfl, (fun a ha => by cases ha), .refl _ _, by omega⟩
    unfold cblk_Scan cblk_Scan_b
    rw [sized_eq, hs]; rfl
  | true =>
    obtain ⟨a, b, rfl, rfl, h1, h2, h3, h4⟩ := isz_nat hs
    have hab : a * b ≤ 4096 := by
      have := Nat.mul_le_mul h2 h4
      omega
    obtain ⟨q, H1, e1, g1, g2, g3⟩ := Cap.make (size := 2) (bytes := 16) H [.int .i64 0, .int .i64 0] rfl (n := a * b) (by omega) (by omega)
    obtain ⟨n, rfl⟩ : ∃ n, k = n + 1 := ⟨k - 1, by omega⟩
    obtain ⟨q', c', H', i1, i2, i3⟩ := cblk_Scan_l0_ok (n + 1) (w := a) (h := b) (cc := a * b) (N := H.length) (by omega) ⟨h2, h4⟩ n 0 (by omega) (by omega) H1 q 0 (a * b) [] g1 (by omega) rfl (by rw [Nat.sub_zero, Nat.mul_comm b a]; omega) hab
    have hsc : scn (n + 1) (a : Int) (b : Int) = pall n a b 0 := by unfold scn; rw [hs]; rfl
    have hsh := i2.shows
    rw [List.nil_append] at hsh
    refine ⟨q', _, c', H', fun R K => ?_, by rw [hsc]; exact hsh.1, by rw [hsc]; exact hsh.2, i2.below, g2.trans i3, by rw [Nat.sub_zero, Nat.mul_comm b a]; omega⟩
    unfold cblk_Scan cblk_Scan_b
    rw [sized_eq, hs]
    have ew : IntKind.wrap .i64 ((a : Int) * (b : Int)) = ((a * b : Nat) : Int) := by
      rw [← Int.natCast_mul]; exact w64 (by omega) (by omega)
    rw [ew, Bool.not_true, cond_false, e1]
    exact i1 R _
theorem ScanR_eq {k : Nat} (hk : 100 < k) (w h : Int) (H : Heap) : ∃ q l c H', (∀ (R : Type) (K : Option Addr → Nat → Nat → Heap → Option R), R14_Scan k w h H K = K q l c H') ∧ Shows H' q (scn k w h) ∧ l * 2 = (scn k w h).length ∧ Old H.length H H' := by
  cases hs : isz w h with
  | false =>
    refine ⟨none, 0, 0, H, fun R K => ?_, by unfold scn; rw [hs]; exact .inl rfl, by unfold scn; rw [hs]; rfl, .refl _ _⟩
    unfold R14_Scan R14_Scan_b
    rw [sizedR_eq, hs]; rfl
  | true =>
    obtain ⟨a, b, rfl, rfl, h1, h2, h3, h4⟩ := isz_nat hs
    have hab : a * b ≤ 4096 := by
      have := Nat.mul_le_mul h2 h4
      omega
    obtain ⟨n, rfl⟩ : ∃ n, k = n + 1 := ⟨k - 1, by omega⟩
    obtain ⟨q', c', H', i1, i2, i3⟩ := R14_Scan_l0_ok (n + 1) (w := a) (h := b) (cc := a * b) (N := H.length) (by omega) ⟨h2, h4⟩ n 0 (by omega) (by omega) H none 0 0 [] (.nil _ _ _) (by omega) (by rw [Nat.sub_zero, Nat.mul_comm b a]; omega) hab
    have hsc : scn (n + 1) (a : Int) (b : Int) = pall n a b 0 := by unfold scn; rw [hs]; rfl
    have hsh := i2.shows
    rw [List.nil_append] at hsh
    refine ⟨q', _, c', H', fun R K => ?_, by rw [hsc]; exact hsh.1, by rw [hsc]; exact hsh.2, i3⟩
    unfold R14_Scan R14_Scan_b
    rw [sizedR_eq, hs]
    exact i1 R _
/-- Cells that are numbers. -/
def allI (cs : List Value) : Prop := ∀ v ∈ cs, ∃ n, v = .int .i64 n
theorem pall_ints : ∀ (n w h top : Nat), allI (pall n w h top) := by
  intro n
  induction n with
  | zero => intro w h top v hv; cases hv
  | succ n ih =>
    intro w h top v hv
    unfold pall at hv
    split at hv
    · rcases List.mem_append.1 hv with hv | hv
      · unfold pstripe pcol at hv
        simp only [List.mem_flatMap] at hv
        obtain ⟨_, _, _, _, hv⟩ := hv
        simp at hv
        rcases hv with rfl | rfl <;> exact ⟨_, rfl⟩
      · exact ih _ _ _ v hv
    · cases hv
theorem scn_ints (k : Nat) (w h : Int) : allI (scn k w h) := by
  unfold scn
  cases isz w h with
  | true => exact pall_ints _ _ _ _
  | false => intro v hv; cases hv
theorem SamePoints_loop (k : Nat) {H : Heap} {q1 q2 : Option Addr} {l : Nat} (c1 c2 : Nat) {cs : List Value} (ha : allI cs) (h1 : Shows H q1 cs) (h2 : Shows H q2 cs) (hl : l * 2 = cs.length) (hb : l < 1000000) : ∀ (n i : Nat), i ≤ l → l - i < n → ∀ (R : Type) (KE : Unit → Option R) (KR : Bool → Option R), R14_SamePoints_l0 k KE KR n q1 l c1 q2 l c2 i H = KE () := by
  intro n
  induction n with
  | zero => intro i _ h; omega
  | succ n ih =>
    intro i hi hn R KE KR
    show R14_SamePoints_l0_b _ _ _ _ _ _ _ _ _ _ _ _ = _
    unfold R14_SamePoints_l0_b
    by_cases c : i < l
    · have ed : decide ((i : Int) < ((l : Nat) : Int)) = true := by simp; omega
      obtain ⟨p1, a1, b1, _⟩ := h1.idx (l := l) (size := 2) (by omega) (i := i) (by omega) (by omega) (by omega)
      obtain ⟨p2, a2, b2, _⟩ := h2.idx (l := l) (size := 2) (by omega) (i := i) (by omega) (by omega) (by omega)
      have hx : ∀ j, j < 2 → ∃ x, cs[(i : Int).toNat * 2 + j]? = some (.int .i64 x) := fun j hj => by
        have hlt : (i : Int).toNat * 2 + j < cs.length := by omega
        obtain ⟨x, hx⟩ := ha _ (List.getElem_mem hlt)
        exact ⟨x, by rw [List.getElem?_eq_getElem hlt, hx]⟩
      obtain ⟨x, hx0⟩ := hx 0 (by omega)
      obtain ⟨y, hx1⟩ := hx 1 (by omega)
      rw [ed, cond_true, a1, ldI_of (b1 0 _ hx0 (by omega)) rfl, ldI_of (b1 1 _ hx1 (by omega)) rfl, a2, ldI_of (b2 0 _ hx0 (by omega)) rfl, ldI_of (b2 1 _ hx1 (by omega)) rfl]
      have : (!((true && (x == x)) && (y == y))) = false := by simp
      rw [this, cond_false, w64 (by omega) (by omega)]
      exact ih (i + 1) (by omega) (by omega) R KE KR
    · have ed : decide ((i : Int) < ((l : Nat) : Int)) = false := by simp; omega
      rw [ed, cond_false]
theorem scans_run (w h : Int) (H : Heap) : L_CblkScans_c Bool 10000 [.int .i64 w, .int .i64 h] H asB = some true := by
  show L_CblkScans 10000 w h H (fun t H => asB (.bool t) H) = some true
  unfold L_CblkScans L_CblkScans_b
  obtain ⟨q1, l1, c1, H1, e1, s1, n1, b1, o1, m1⟩ := Scan_eq (k := 10000) (by omega) w h H
  obtain ⟨q2, l2, c2, H2, e2, s2, n2, o2⟩ := ScanR_eq (k := 10000) (by omega) w h H1
  rw [e1, e2]
  have hl : l1 = l2 := by omega
  subst hl
  unfold R14_SamePoints R14_SamePoints_b
  have : ((((l1 : Nat) : Int)) != ((l1 : Nat) : Int)) = false := by simp
  rw [this, cond_false]
  have := SamePoints_loop 10000 c1 c2 (scn_ints _ w h) (s1.old o2 (.inr b1)) s2 n1 (by omega) 10000 0 (by omega) (by omega) Bool
  refine Eq.trans (this _ _) ?_
  rfl
theorem scans_in (H : Heap) (us : List Value) (h : AllLies H [(.int .i64, false), (.int .i64, false)] us) : L_CblkScans_c Bool 10000 us H asB = some true := by
  obtain ⟨x, _, rfl, _, h⟩ := lies_int h
  obtain ⟨y, _, rfl, _, h⟩ := lies_int h
  cases lies_nil h
  exact scans_run x y H
end Go.Proofs.Ytblpaolcgkjcgaa.Sh
