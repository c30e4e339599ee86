/- Cblk: the scan, in plain terms. -/
import Derived.Test.YtblpaolcgkjcgaaCbA
import Derived.Test.YtblpaolcgkjcgaaSh12
set_option linter.unusedVariables false
set_option linter.unusedSimpArgs false
namespace Go.Proofs.Ytblpaolcgkjcgaa.Sh
open Go.Proofs.Ytblpaolcgkjcgaa.FW
/-- The points of a column, of a stripe, of all stripes, cell by cell. -/
def pcol (x y m : Nat) : List Value := (List.range' y m).flatMap fun (y : Nat) => [.int .i64 (x : Int), .int .i64 (y : Int)]
def pstripe (x m top mm : Nat) : List Value := (List.range' x m).flatMap fun x => pcol x top mm
def pall : Nat → Nat → Nat → Nat → List Value
  | 0, _, _, _ => []
  | n + 1, w, h, top => if top < h then pstripe 0 w top (min (top + 4) h - top) ++ pall n w h (top + 4) else []
theorem cblk_Scan_l2_ok (k : Nat) {N w h top hi x : Nat} {cc : Nat} (hh : hi ≤ h) (hhi : hi = min (top + 4) h) (hb : w ≤ 64 ∧ h ≤ 64 ∧ x < w ∧ top ≤ h) : ∀ (m n y : Nat), m < n → hi = y + m → ∀ (H : Heap) (q : Option Addr) (l c : Nat) (cs : List Value), Cap N 2 H q l c cs → N ≤ H.length → c = cc → l + m ≤ cc → cc ≤ 4096 →
    ∃ q' c' H', (∀ (R : Type) (KE : Int → Int → Option Addr → Nat → Nat → Int → Int → Heap → Option R), cblk_Scan_l2 k KE n (w : Int) (h : Int) q l c (top : Int) (x : Int) (y : Int) H = KE w h q' (l + m) c' top x H') ∧ Cap N 2 H' q' (l + m) c' (cs ++ pcol x y m) ∧ Old N H H' ∧ c' = c := by
  intro m
  induction m with
  | zero =>
    intro n y hn hy H q l c cs hB hN hcc hl hC
    obtain ⟨n, rfl⟩ : ∃ n', n = n' + 1 := ⟨n - 1, by omega⟩
    refine ⟨q, c, H, fun R KE => ?_, by simpa [pcol] using hB, .refl _ _, rfl⟩
    show cblk_Scan_l2_b _ _ _ _ _ _ _ _ _ _ _ _ = _
    unfold cblk_Scan_l2_b
    rw [w64 (by omega) (by omega)]
    have e1 : imn ((top : Int) + 4) (h : Int) = (hi : Int) := by unfold imn; split <;> omega
    have e2 : decide ((y : Int) < (hi : Int)) = false := by simp; omega
    rw [e1, e2, cond_false]; rfl
  | succ m ih =>
    intro n y hn hy H q l c cs hB hN hcc hl hC
    obtain ⟨n, rfl⟩ : ∃ n', n = n' + 1 := ⟨n - 1, by omega⟩
    obtain ⟨p, H1, e1, hp, g1, g2, g3⟩ := hal_of H [.int .i64 (x : Int), .int .i64 (y : Int)]
    subst hp
    have hB1 := hB.old g2 (Nat.le_refl _)
    obtain ⟨H2, e2, g4, g5, g6⟩ := hB1.app (bytes := 16) (n := 1) g1.sees.shows rfl rfl (by omega) (by omega)
    obtain ⟨q2, hq2⟩ : ∃ q2, q2 = q := ⟨q, rfl⟩
    obtain ⟨c2, hc2⟩ : ∃ c2, c2 = c := ⟨c, rfl⟩
    subst hq2 hc2
    obtain ⟨q', c', H', i1, i2, i3, i4⟩ := ih n (y + 1) (by omega) (by omega) H2 q2 (l + 1) c2 _ g4 (by omega) hcc (by omega) hC
    refine ⟨q', c', H', fun R KE => ?_, ?_, (g2.mono hN).trans (g5.trans i3) , i4.trans rfl⟩
    · rw [show l + (m + 1) = l + 1 + m from by omega]
      refine Eq.trans ?_ (i1 R KE)
      show cblk_Scan_l2_b _ _ _ _ _ _ _ _ _ _ _ _ = _
      unfold cblk_Scan_l2_b
      rw [w64 (n := (top : Int) + 4) (by omega) (by omega)]
      have e3 : imn ((top : Int) + 4) (h : Int) = (hi : Int) := by unfold imn; split <;> omega
      have e4 : decide ((y : Int) < (hi : Int)) = true := by simp; omega
      rw [e3, e4, cond_true, e1, e2, w64 (by omega) (by omega)]
      rfl
    · rw [show l + (m + 1) = l + 1 + m from by omega]
      have : pcol x y (m + 1) = [.int .i64 (x : Int), .int .i64 (y : Int)] ++ pcol x (y + 1) m := by simp [pcol, List.range'_succ]
      rw [this, ← List.append_assoc]; exact i2
theorem cblk_Scan_l1_ok (k : Nat) {N w h top hi mm : Nat} {cc : Nat} (hk : 4 < k) (hh : hi ≤ h) (hhi : hi = min (top + 4) h) (hmm : hi = top + mm) (hb : w ≤ 64 ∧ h ≤ 64 ∧ top ≤ h) : ∀ (m n x : Nat), m < n → w = x + m → ∀ (H : Heap) (q : Option Addr) (l c : Nat) (cs : List Value), Cap N 2 H q l c cs → N ≤ H.length → c = cc → l + m * mm ≤ cc → cc ≤ 4096 →
    ∃ q' c' H', (∀ (R : Type) (KE : Int → Int → Option Addr → Nat → Nat → Int → Heap → Option R), cblk_Scan_l1 k KE n (w : Int) (h : Int) q l c (top : Int) (x : Int) H = KE w h q' (l + m * mm) c' top H') ∧ Cap N 2 H' q' (l + m * mm) c' (cs ++ pstripe x m top mm) ∧ Old N H H' ∧ c' = c := by
  intro m
  induction m with
  | zero =>
    intro n x hn hx H q l c cs hB hN hcc hl hC
    obtain ⟨n, rfl⟩ : ∃ n', n = n' + 1 := ⟨n - 1, by omega⟩
    refine ⟨q, c, H, fun R KE => ?_, by simpa [pstripe] using hB, .refl _ _, rfl⟩
    show cblk_Scan_l1_b _ _ _ _ _ _ _ _ _ _ _ _ = _
    unfold cblk_Scan_l1_b
    have e2 : decide ((x : Int) < (w : Int)) = false := by simp; omega
    rw [e2, cond_false]; simp
  | succ m ih =>
    intro n x hn hx H q l c cs hB hN hcc hl hC
    obtain ⟨n, rfl⟩ : ∃ n', n = n' + 1 := ⟨n - 1, by omega⟩
    rw [Nat.add_mul, Nat.one_mul] at hl ⊢
    obtain ⟨q2, c2, H2, e2, g4, g5, g7⟩ := cblk_Scan_l2_ok k (cc := cc) (x := x) hh hhi ⟨hb.1, hb.2.1, by omega, hb.2.2⟩ mm k top (by omega) hmm H q l c cs hB hN hcc (by omega) hC
    subst g7
    obtain ⟨q', c', H', i1, i2, i3, i4⟩ := ih n (x + 1) (by omega) (by omega) H2 q2 (l + mm) c2 _ g4 (Nat.le_trans hN g5.1) hcc (by omega) hC
    refine ⟨q', c', H', fun R KE => ?_, ?_, g5.trans i3 , i4.trans rfl⟩
    · rw [show l + (m * mm + mm) = l + mm + m * mm from by omega]
      refine Eq.trans ?_ (i1 R KE)
      show cblk_Scan_l1_b _ _ _ _ _ _ _ _ _ _ _ _ = _
      unfold cblk_Scan_l1_b
      have e4 : decide ((x : Int) < (w : Int)) = true := by simp; omega
      rw [e4, cond_true, e2, w64 (by omega) (by omega)]
      rfl
    · rw [show l + (m * mm + mm) = l + mm + m * mm from by omega]
      have : pstripe x (m + 1) top mm = pcol x top mm ++ pstripe (x + 1) m top mm := by simp [pstripe, List.range'_succ]
      rw [this, ← List.append_assoc]; exact i2
theorem cblk_Scan_l0_ok (k : Nat) {N w h : Nat} {cc : Nat} (hk : 64 < k) (hb : w ≤ 64 ∧ h ≤ 64) : ∀ (n top : Nat), h ≤ top + 4 * n → top ≤ h + 3 → ∀ (H : Heap) (q : Option Addr) (l c : Nat) (cs : List Value), Cap N 2 H q l c cs → N ≤ H.length → c = cc → l + (h - top) * w ≤ cc → cc ≤ 4096 →
    ∃ q' c' H', (∀ (R : Type) (KE : Option Addr → Nat → Nat → Heap → Option R), cblk_Scan_l0 k KE (n + 1) (w : Int) (h : Int) q l c (top : Int) H = KE q' (l + (h - top) * w) c' H') ∧ Cap N 2 H' q' (l + (h - top) * w) c' (cs ++ pall n w h top) ∧ Old N H H' := by
  have stop : ∀ (n top : Nat), h ≤ top → ∀ (H : Heap) (q : Option Addr) (l c : Nat) (cs : List Value), Cap N 2 H q l c cs → ∃ q' c' H', (∀ (R : Type) (KE : Option Addr → Nat → Nat → Heap → Option R), cblk_Scan_l0 k KE (n + 1) (w : Int) (h : Int) q l c (top : Int) H = KE q' (l + (h - top) * w) c' H') ∧ Cap N 2 H' q' (l + (h - top) * w) c' (cs ++ []) ∧ Old N H H' := by
    intro n top ht H q l c cs hB
    refine ⟨q, c, H, fun R KE => ?_, ?_, .refl _ _⟩
    · show cblk_Scan_l0_b _ _ _ _ _ _ _ _ _ _ _ = _
      unfold cblk_Scan_l0_b
      have e2 : decide ((top : Int) < (h : Int)) = false := by simp; omega
      rw [e2, cond_false, Nat.sub_eq_zero_of_le ht]; simp
    · rw [Nat.sub_eq_zero_of_le ht]; simpa using hB
  intro n
  induction n with
  | zero =>
    intro top h1 h2 H q l c cs hB hN hcc hl hC
    exact stop 0 top (by omega) H q l c cs hB
  | succ n ih =>
    intro top h1 h2 H q l c cs hB hN hcc hl hC
    by_cases ht : top < h
    · obtain ⟨mm, hmm⟩ : ∃ mm, min (top + 4) h = top + mm := ⟨min (top + 4) h - top, by omega⟩
      have hms : mm ≤ h - top := by omega
      have hmul := Nat.mul_le_mul_right w hms
      have hcomm : w * mm = mm * w := Nat.mul_comm _ _
      obtain ⟨q2, c2, H2, e2, g4, g5, g7⟩ := cblk_Scan_l1_ok k (N := N) (h := h) (cc := cc) (top := top) (hi := min (top + 4) h) (by omega) (by omega) rfl hmm ⟨hb.1, hb.2, by omega⟩ w k 0 (by omega) (by omega) H q l c cs hB hN hcc (by omega) hC
      subst g7
      have hrest : (h - top) * w = w * mm + (h - (top + 4)) * w := by
        by_cases h4 : top + 4 ≤ h
        · have : mm = 4 := by omega
          subst this
          rw [show h - top = 4 + (h - (top + 4)) from by omega, Nat.add_mul, Nat.mul_comm w 4]
        · have : h - top = mm := by omega
          rw [this, show h - (top + 4) = 0 from by omega, Nat.zero_mul, Nat.mul_comm]; rfl
      obtain ⟨q', c', H', i1, i2, i3⟩ := ih (top + 4) (by omega) (by omega) H2 q2 (l + w * mm) c2 _ g4 (Nat.le_trans hN g5.1) hcc (by omega) hC
      refine ⟨q', c', H', fun R KE => ?_, ?_, g5.trans i3⟩
      · rw [hrest, ← Nat.add_assoc]
        refine Eq.trans ?_ (i1 R KE)
        show cblk_Scan_l0_b _ _ _ _ _ _ _ _ _ _ _ = _
        unfold cblk_Scan_l0_b
        have e4 : decide ((top : Int) < (h : Int)) = true := by simp; omega
        have e5 := e2 R (fun n58 n59 q60 l61 c62 n63 H64 => cblk_Scan_l0 k KE (n + 1) n58 n59 q60 l61 c62 (IntKind.wrap .i64 (n63 + 4)) H64)
        rw [e4, cond_true]
        refine Eq.trans e5 ?_
        rw [w64 (by omega) (by omega)]
        rfl
      · rw [hrest, ← Nat.add_assoc]
        have : pall (n + 1) w h top = pstripe 0 w top mm ++ pall n w h (top + 4) := by
          show (if top < h then _ else _) = _
          rw [if_pos ht, hmm, Nat.add_sub_cancel_left]
        rw [this, ← List.append_assoc]; exact i2
    · have : pall (n + 1) w h top = [] := by
        show (if top < h then _ else _) = _
        rw [if_neg ht]
      rw [this]
      exact stop (n + 1) top (by omega) H q l c cs hB
theorem R14_Scan_l2_ok (k : Nat) {N w h top hi x : Nat} {cc : Nat} (hh : hi ≤ h) (hhi : hi = min (top + 4) h) (hb : w ≤ 64 ∧ h ≤ 64 ∧ x < w ∧ top ≤ h) : ∀ (m n y : Nat), m < n → hi = y + m → ∀ (H : Heap) (q : Option Addr) (l c : Nat) (cs : List Value), Bld N 2 H q l c cs → N ≤ H.length → l + m ≤ cc → cc ≤ 4096 →
    ∃ q' c' H', (∀ (R : Type) (KE : Int → Int → Option Addr → Nat → Nat → Int → Int → Heap → Option R), R14_Scan_l2 k KE n (w : Int) (h : Int) q l c (top : Int) (x : Int) (y : Int) H = KE w h q' (l + m) c' top x H') ∧ Bld N 2 H' q' (l + m) c' (cs ++ pcol x y m) ∧ Old N H H' := by
  intro m
  induction m with
  | zero =>
    intro n y hn hy H q l c cs hB hN hl hC
    obtain ⟨n, rfl⟩ : ∃ n', n = n' + 1 := ⟨n - 1, by omega⟩
    refine ⟨q, c, H, fun R KE => ?_, by simpa [pcol] using hB, .refl _ _ ⟩
    show R14_Scan_l2_b _ _ _ _ _ _ _ _ _ _ _ _ = _
    unfold R14_Scan_l2_b
    rw [w64 (by omega) (by omega)]
    have e1 : imn ((top : Int) + 4) (h : Int) = (hi : Int) := by unfold imn; split <;> omega
    have e2 : decide ((y : Int) < (hi : Int)) = false := by simp; omega
    rw [e1, e2, cond_false]; rfl
  | succ m ih =>
    intro n y hn hy H q l c cs hB hN hl hC
    obtain ⟨n, rfl⟩ : ∃ n', n = n' + 1 := ⟨n - 1, by omega⟩
    obtain ⟨p, H1, e1, hp, g1, g2, g3⟩ := hal_of H [.int .i64 (x : Int), .int .i64 (y : Int)]
    subst hp
    have hB1 := hB.old g2 (Nat.le_refl _)
    obtain ⟨q2, H2, e2, g4, g5, g6⟩ := hB1.app (bytes := 16) (n := 1) (by omega) g1.sees.shows rfl (by omega) (by omega)
    obtain ⟨q', c', H', i1, i2, i3⟩ := ih n (y + 1) (by omega) (by omega) H2 q2 (l + 1) unk _ g4 (by omega) (by omega) hC
    refine ⟨q', c', H', fun R KE => ?_, ?_, (g2.mono hN).trans (g5.trans i3) ⟩
    · rw [show l + (m + 1) = l + 1 + m from by omega]
      refine Eq.trans ?_ (i1 R KE)
      show R14_Scan_l2_b _ _ _ _ _ _ _ _ _ _ _ _ = _
      unfold R14_Scan_l2_b
      rw [w64 (n := (top : Int) + 4) (by omega) (by omega)]
      have e3 : imn ((top : Int) + 4) (h : Int) = (hi : Int) := by unfold imn; split <;> omega
      have e4 : decide ((y : Int) < (hi : Int)) = true := by simp; omega
      rw [e3, e4, cond_true, e1, e2, w64 (by omega) (by omega)]
      rfl
    · rw [show l + (m + 1) = l + 1 + m from by omega]
      have : pcol x y (m + 1) = [.int .i64 (x : Int), .int .i64 (y : Int)] ++ pcol x (y + 1) m := by simp [pcol, List.range'_succ]
      rw [this, ← List.append_assoc]; exact i2
theorem R14_Scan_l1_ok (k : Nat) {N w h top hi mm : Nat} {cc : Nat} (hk : 4 < k) (hh : hi ≤ h) (hhi : hi = min (top + 4) h) (hmm : hi = top + mm) (hb : w ≤ 64 ∧ h ≤ 64 ∧ top ≤ h) : ∀ (m n x : Nat), m < n → w = x + m → ∀ (H : Heap) (q : Option Addr) (l c : Nat) (cs : List Value), Bld N 2 H q l c cs → N ≤ H.length → l + m * mm ≤ cc → cc ≤ 4096 →
    ∃ q' c' H', (∀ (R : Type) (KE : Int → Int → Option Addr → Nat → Nat → Int → Heap → Option R), R14_Scan_l1 k KE n (w : Int) (h : Int) q l c (top : Int) (x : Int) H = KE w h q' (l + m * mm) c' top H') ∧ Bld N 2 H' q' (l + m * mm) c' (cs ++ pstripe x m top mm) ∧ Old N H H' := by
  intro m
  induction m with
  | zero =>
    intro n x hn hx H q l c cs hB hN hl hC
    obtain ⟨n, rfl⟩ : ∃ n', n = n' + 1 := ⟨n - 1, by omega⟩
    refine ⟨q, c, H, fun R KE => ?_, by simpa [pstripe] using hB, .refl _ _ ⟩
    show R14_Scan_l1_b _ _ _ _ _ _ _ _ _ _ _ _ = _
    unfold R14_Scan_l1_b
    have e2 : decide ((x : Int) < (w : Int)) = false := by simp; omega
    rw [e2, cond_false]; simp
  | succ m ih =>
    intro n x hn hx H q l c cs hB hN hl hC
    obtain ⟨n, rfl⟩ : ∃ n', n = n' + 1 := ⟨n - 1, by omega⟩
    rw [Nat.add_mul, Nat.one_mul] at hl ⊢
    obtain ⟨q2, c2, H2, e2, g4, g5⟩ := R14_Scan_l2_ok k (cc := cc) (x := x) hh hhi ⟨hb.1, hb.2.1, by omega, hb.2.2⟩ mm k top (by omega) hmm H q l c cs hB hN (by omega) hC
    
    obtain ⟨q', c', H', i1, i2, i3⟩ := ih n (x + 1) (by omega) (by omega) H2 q2 (l + mm) c2 _ g4 (Nat.le_trans hN g5.1) (by omega) hC
    refine ⟨q', c', H', fun R KE => ?_, ?_, g5.trans i3 ⟩
    · rw [show l + (m * mm + mm) = l + mm + m * mm from by omega]
      refine Eq.trans ?_ (i1 R KE)
      show R14_Scan_l1_b _ _ _ _ _ _ _ _ _ _ _ _ = _
      unfold R14_Scan_l1_b
      have e4 : decide ((x : Int) < (w : Int)) = true := by simp; omega
      rw [e4, cond_true, e2, w64 (by omega) (by omega)]
      rfl
    · rw [show l + (m * mm + mm) = l + mm + m * mm from by omega]
      have : pstripe x (m + 1) top mm = pcol x top mm ++ pstripe (x + 1) m top mm := by simp [pstripe, List.range'_succ]
      rw [this, ← List.append_assoc]; exact i2
theorem R14_Scan_l0_ok (k : Nat) {N w h : Nat} {cc : Nat} (hk : 64 < k) (hb : w ≤ 64 ∧ h ≤ 64) : ∀ (n top : Nat), h ≤ top + 4 * n → top ≤ h + 3 → ∀ (H : Heap) (q : Option Addr) (l c : Nat) (cs : List Value), Bld N 2 H q l c cs → N ≤ H.length → l + (h - top) * w ≤ cc → cc ≤ 4096 →
    ∃ q' c' H', (∀ (R : Type) (KE : Option Addr → Nat → Nat → Heap → Option R), R14_Scan_l0 k KE (n + 1) (w : Int) (h : Int) q l c (top : Int) H = KE q' (l + (h - top) * w) c' H') ∧ Bld N 2 H' q' (l + (h - top) * w) c' (cs ++ pall n w h top) ∧ Old N H H' := by
  have stop : ∀ (n top : Nat), h ≤ top → ∀ (H : Heap) (q : Option Addr) (l c : Nat) (cs : List Value), Bld N 2 H q l c cs → ∃ q' c' H', (∀ (R : Type) (KE : Option Addr → Nat → Nat → Heap → Option R), R14_Scan_l0 k KE (n + 1) (w : Int) (h : Int) q l c (top : Int) H = KE q' (l + (h - top) * w) c' H') ∧ Bld N 2 H' q' (l + (h - top) * w) c' (cs ++ []) ∧ Old N H H' := by
    intro n top ht H q l c cs hB
    refine ⟨q, c, H, fun R KE => ?_, ?_, .refl _ _⟩
    · show R14_Scan_l0_b _ _ _ _ _ _ _ _ _ _ _ = _
      unfold R14_Scan_l0_b
      have e2 : decide ((top : Int) < (h : Int)) = false := by simp; omega
      rw [e2, cond_false, Nat.sub_eq_zero_of_le ht]; simp
    · rw [Nat.sub_eq_zero_of_le ht]; simpa using hB
  intro n
  induction n with
  | zero =>
    intro top h1 h2 H q l c cs hB hN hl hC
    exact stop 0 top (by omega) H q l c cs hB
  | succ n ih =>
    intro top h1 h2 H q l c cs hB hN hl hC
    by_cases ht : top < h
    · obtain ⟨mm, hmm⟩ : ∃ mm, min (top + 4) h = top + mm := ⟨min (top + 4) h - top, by omega⟩
      have hms : mm ≤ h - top := by omega
      have hmul := Nat.mul_le_mul_right w hms
      have hcomm : w * mm = mm * w := Nat.mul_comm _ _
      obtain ⟨q2, c2, H2, e2, g4, g5⟩ := R14_Scan_l1_ok k (N := N) (h := h) (cc := cc) (top := top) (hi := min (top + 4) h) (by omega) (by omega) rfl hmm ⟨hb.1, hb.2, by omega⟩ w k 0 (by omega) (by omega) H q l c cs hB hN (by omega) hC
      
      have hrest : (h - top) * w = w * mm + (h - (top + 4)) * w := by
        by_cases h4 : top + 4 ≤ h
        · have : mm = 4 := by omega
          subst this
          rw [show h - top = 4 + (h - (top + 4)) from by omega, Nat.add_mul, Nat.mul_comm w 4]
        · have : h - top = mm := by omega
          rw [this, show h - (top + 4) = 0 from by omega, Nat.zero_mul, Nat.mul_comm]; rfl
      obtain ⟨q', c', H', i1, i2, i3⟩ := ih (top + 4) (by omega) (by omega) H2 q2 (l + w * mm) c2 _ g4 (Nat.le_trans hN g5.1) (by omega) hC
      refine ⟨q', c', H', fun R KE => ?_, ?_, g5.trans i3⟩
      · rw [hrest, ← Nat.add_assoc]
        refine Eq.trans ?_ (i1 R KE)
        show R14_Scan_l0_b _ _ _ _ _ _ _ _ _ _ _ = _
        unfold R14_Scan_l0_b
        have e4 : decide ((top : Int) < (h : Int)) = true := by simp; omega
        have e5 := e2 R (fun n58 n59 q60 l61 c62 n63 H64 => R14_Scan_l0 k KE (n + 1) n58 n59 q60 l61 c62 (IntKind.wrap .i64 (n63 + 4)) H64)
        rw [e4, cond_true]
        refine Eq.trans e5 ?_
        rw [w64 (by omega) (by omega)]
        rfl
      · rw [hrest, ← Nat.add_assoc]
        have : pall (n + 1) w h top = pstripe 0 w top mm ++ pall n w h (top + 4) := by
          show (if top < h then _ else _) = _
          rw [if_pos ht, hmm, Nat.add_sub_cancel_left]
        rw [this, ← List.append_assoc]; exact i2
    · have : pall (n + 1) w h top = [] := by
        show (if top < h then _ else _) = _
        rw [if_neg ht]
      rw [this]
      exact stop (n + 1) top (by omega) H q l c cs hB
end Go.Proofs.Ytblpaolcgkjcgaa.Sh
