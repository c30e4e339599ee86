/- Bitio: the program's reader, its calls. -/
import Derived.Test.YtblkejnciinaeaaBtR
set_option linter.unusedVariables false
set_option linter.unusedSimpArgs false
namespace Go.Proofs.Ytblkejnciinaeaa.Sh
open Go.Proofs.Ytblkejnciinaeaa.FW Go.IntWalk
abbrev Rs := (Int × Int) × Nat × Nat
/-- A number of bits. -/
def rbits (bs : List Int) : Nat → Nat → Nat × Nat → Rs
  | 0, v, s => (((v : Int), 0), s)
  | n + 1, v, s => if (rget bs s).1.2 ≠ 0 then ((0, (rget bs s).1.2), (rget bs s).2) else rbits bs n (2 * v + bn (rget bs s).1.1) (rget bs s).2
/-- Bits of one value up to another one. -/
def rcnt (bs : List Int) (x : Int) : Nat → Nat → Nat × Nat → Rs
  | 0, _, s => ((0, 8), s)
  | m + 1, n, s => if (rget bs s).1.2 ≠ 0 then ((0, (rget bs s).1.2), (rget bs s).2) else if (rget bs s).1.1 ≠ x then (((n : Int), 0), (rget bs s).2) else if m = 0 then ((0, 8), (rget bs s).2) else rcnt bs x m (n + 1) (rget bs s).2
def back (s : Nat × Nat) (r : Rs) : Rs := if r.1.2 ≠ 0 then ((0, r.1.2), s) else r
def rB (bs : List Int) (n : Int) (s : Nat × Nat) : Rs := if 0 ≤ n ∧ n ≤ 32 then back s (rbits bs n.toNat 0 s) else ((0, 1), s)
def rG1 (bs : List Int) (s : Nat × Nat) : Rs := if (rcnt bs 0 32 0 s).1.2 ≠ 0 then rcnt bs 0 32 0 s else
  if (rbits bs (rcnt bs 0 32 0 s).1.1.toNat 0 (rcnt bs 0 32 0 s).2).1.2 ≠ 0 then rbits bs (rcnt bs 0 32 0 s).1.1.toNat 0 (rcnt bs 0 32 0 s).2 else
  (((2 ^ (rcnt bs 0 32 0 s).1.1.toNat : Nat) + (rbits bs (rcnt bs 0 32 0 s).1.1.toNat 0 (rcnt bs 0 32 0 s).2).1.1, 0), (rbits bs (rcnt bs 0 32 0 s).1.1.toNat 0 (rcnt bs 0 32 0 s).2).2)
def rG (bs : List Int) (s : Nat × Nat) : Rs := back s (rG1 bs s)
def rU (bs : List Int) (n : Int) (s : Nat × Nat) : Rs := if 0 ≤ n ∧ n ≤ 65535 then back s (rcnt bs 1 (n.toNat + 1) 0 s) else ((0, 1), s)
def rA (bs : List Int) (s : Nat × Nat) : Rs := if s.1 = 0 then ((0, 0), s) else if (bs.getD (s.1 - 1) 0).toNat % 2 ^ s.2 ≠ 0 then ((0, 8), s) else
  if s.2 = 0 ∧ bs.getD (s.1 - 1) 0 = 255 then (if s.1 = bs.length then ((0, 7), s) else if bs.getD s.1 0 ≠ 0 then ((0, 8), s) else ((((s.1 + 1 : Nat) : Int), 0), s.1 + 1, 0)) else ((((s.1 : Nat) : Int), 0), s.1, 0)
def rO (bs : List Int) (o : Int × Int × Int) (s : Nat × Nat) : Rs := if o.1 = 0 then rget bs s else if o.1 = 1 then rB bs o.2.2 s else if o.1 = 2 then rG bs s else if o.1 = 3 then rU bs o.2.2 s else if o.1 = 4 then rA bs s else ((0, 0), s)
theorem bits_l (k : Nat) {p : Nat} {q : Option Addr} {bs : List Int} (w : Nat) (hw : w ≤ 40) : ∀ (m n i v : Nat), m < n → w = i + m → v < 2 ^ i → ∀ (H : Heap) (s : Nat × Nat), Rd H p q bs s →
    ∃ H', (∀ (R : Type) (KE : Int → Heap → Option R) (KR : Int → Int → Heap → Option R), bitio_Reader_bits_l0 k KE KR n (some ⟨p, 0, none⟩) (v : Int) (w : Int) (i : Int) H = if (rbits bs m v s).1.2 ≠ 0 then KR (rbits bs m v s).1.1 (rbits bs m v s).1.2 H' else KE (rbits bs m v s).1.1 H') ∧ Rd H' p q bs (rbits bs m v s).2 ∧ But p H H' ∧ ((rbits bs m v s).1.2 = 0 → ∃ u : Nat, (rbits bs m v s).1.1 = (u : Int) ∧ u < 2 ^ w) := by
  intro m
  induction m with
  | zero =>
    intro n i v hn hi hv H s h
    obtain ⟨n, rfl⟩ : ∃ n', n = n' + 1 := ⟨n - 1, by omega⟩
    have ed : decide ((i : Int) < (w : Int)) = false := decide_eq_false (by omega)
    refine ⟨H, fun R KE KR => ?_, h, .refl _ _, fun _ => ⟨v, rfl, by rw [hi]; exact hv⟩⟩
    unfold bitio_Reader_bits_l0 bitio_Reader_bits_l0_b
    exact go_f ed rfl
  | succ m ih =>
    intro n i v hn hi hv H s h
    obtain ⟨n, rfl⟩ : ∃ n', n = n' + 1 := ⟨n - 1, by omega⟩
    have ed : decide ((i : Int) < (w : Int)) = true := decide_eq_true (by omega)
    obtain ⟨H1, e1, R1, b1⟩ := get_eq k h
    have hb := rget_bit bs s
    by_cases he : (rget bs s).1.2 = 0
    · have d1 : ((rget bs s).1.2 != 0) = false := by rw [he]; rfl
      have er : rbits bs (m + 1) v s = rbits bs m (2 * v + bn (rget bs s).1.1) (rget bs s).2 := by rw [rbits, if_neg (fun hh => hh he)]
      have hbn := bn_le (rget bs s).1.1
      have hp : 2 ^ i ≤ 2 ^ 40 := Nat.pow_le_pow_right (by omega) (by omega)
      obtain ⟨H2, e2, R2, b2, u2⟩ := ih n (i + 1) (2 * v + bn (rget bs s).1.1) (by omega) (by omega) (by rw [Nat.pow_succ]; omega) H1 _ R1
      have s1 : ∀ (R : Type) (K : Int → Option R), hbin .or .i64 (IntKind.wrap .i64 ((v : Int) * 2)) (rget bs s).1.1 K = K ((2 * v + bn (rget bs s).1.1 : Nat) : Int) := fun R K => by
        rw [w64 (by omega) (by omega), show (v : Int) * 2 = ((2 ^ 1 * v : Nat) : Int) from by omega]
        have := or64 (a := 2 ^ 1 * v) (b := bn (rget bs s).1.1) (by omega) (by omega) K
        rw [← bn_of hb.1, ← Nat.two_pow_add_eq_or_of_lt (i := 1) (by omega)] at this
        exact this
      have w1 : IntKind.wrap .i64 ((i : Int) + 1) = ((i + 1 : Nat) : Int) := by rw [w64 (by omega) (by omega)]; omega
      rw [er]
      refine ⟨H2, fun R KE KR => ?_, R2, b1.trans b2, u2⟩
      unfold bitio_Reader_bits_l0 bitio_Reader_bits_l0_b
      repeat (first | (with_reducible refine (e1 _ _).trans ?_) | (with_reducible refine (s1 _ _).trans ?_) | ((with_reducible refine go_ip (x := ?_) ?_ ?_); rotate_left 1; (first  | rfl)) | ((with_reducible refine go_bp (x := ?_) ?_ ?_); rotate_left 1; (first  | rfl)) | ((with_reducible refine go_lp (x := ?_) (l := ?_) (c := ?_) ?_ ?_); rotate_left 3; (first  | rfl)) | ((with_reducible refine go_pp (x := ?_) ?_ ?_); rotate_left 1; (first  | rfl)) | ((with_reducible refine go_i (x := ?_) ?_ ?_); rotate_left 1; (first  | rfl)) | ((with_reducible refine go_b (x := ?_) ?_ ?_); rotate_left 1; (first  | rfl)) | ((with_reducible refine go_l (x := ?_) (l := ?_) (c := ?_) ?_ ?_); rotate_left 3; (first  | rfl)) | ((with_reducible refine go_p (x := ?_) ?_ ?_); rotate_left 1; (first  | rfl)) | ((with_reducible refine go_halst rfl ?_ ?_ ?_); rfl; rfl) | (with_reducible refine go_halN rfl ?_) | (with_reducible refine go_t ed ?_) | (with_reducible refine go_f ed ?_) | (with_reducible refine go_t d1 ?_) | (with_reducible refine go_f d1 ?_) | ((with_reducible refine go_t ?_ ?_); (show _ = true; rfl)) | ((with_reducible refine go_f ?_ ?_); (show _ = false; rfl)) | (with_reducible refine go_ne ?_) | (with_reducible refine go_eq ?_) | (with_reducible refine go_fad ?_) | (with_reducible refine go_nil ?_))
      try dsimp only
      rw [w1]
      exact e2 _ _ _
    · have d1 : ((rget bs s).1.2 != 0) = true := by simpa using he
      have er : rbits bs (m + 1) v s = ((0, (rget bs s).1.2), (rget bs s).2) := by rw [rbits, if_pos he]
      rw [er]
      refine ⟨H1, fun R KE KR => ?_, R1, b1, fun hh => (he hh).elim⟩
      rw [if_pos he]
      unfold bitio_Reader_bits_l0 bitio_Reader_bits_l0_b
      repeat (first | (with_reducible refine (e1 _ _).trans ?_) | ((with_reducible refine go_ip (x := ?_) ?_ ?_); rotate_left 1; (first  | rfl)) | ((with_reducible refine go_bp (x := ?_) ?_ ?_); rotate_left 1; (first  | rfl)) | ((with_reducible refine go_lp (x := ?_) (l := ?_) (c := ?_) ?_ ?_); rotate_left 3; (first  | rfl)) | ((with_reducible refine go_pp (x := ?_) ?_ ?_); rotate_left 1; (first  | rfl)) | ((with_reducible refine go_i (x := ?_) ?_ ?_); rotate_left 1; (first  | rfl)) | ((with_reducible refine go_b (x := ?_) ?_ ?_); rotate_left 1; (first  | rfl)) | ((with_reducible refine go_l (x := ?_) (l := ?_) (c := ?_) ?_ ?_); rotate_left 3; (first  | rfl)) | ((with_reducible refine go_p (x := ?_) ?_ ?_); rotate_left 1; (first  | rfl)) | ((with_reducible refine go_halst rfl ?_ ?_ ?_); rfl; rfl) | (with_reducible refine go_halN rfl ?_) | (with_reducible refine go_t ed ?_) | (with_reducible refine go_f ed ?_) | (with_reducible refine go_t d1 ?_) | (with_reducible refine go_f d1 ?_) | ((with_reducible refine go_t ?_ ?_); (show _ = true; rfl)) | ((with_reducible refine go_f ?_ ?_); (show _ = false; rfl)) | (with_reducible refine go_ne ?_) | (with_reducible refine go_eq ?_) | (with_reducible refine go_fad ?_) | (with_reducible refine go_nil ?_))
      rfl
theorem bits_eq {k : Nat} (hk : 100 < k) {H : Heap} {p : Nat} {q : Option Addr} {bs : List Int} {s : Nat × Nat} (h : Rd H p q bs s) {w : Nat} (hw : w ≤ 40) :
    ∃ H', (∀ (R : Type) (K : Int → Int → Heap → Option R), bitio_Reader_bits k (some ⟨p, 0, none⟩) (w : Int) H K = K (rbits bs w 0 s).1.1 (rbits bs w 0 s).1.2 H') ∧ Rd H' p q bs (rbits bs w 0 s).2 ∧ But p H H' ∧ ((rbits bs w 0 s).1.2 = 0 → ∃ u : Nat, (rbits bs w 0 s).1.1 = (u : Int) ∧ u < 2 ^ w) := by
  obtain ⟨H', e, R1, b1, u⟩ := bits_l k w hw w k 0 0 (by omega) (by omega) (by simp) H s h
  simp only [Int.natCast_zero] at e
  refine ⟨H', fun R K => ?_, R1, b1, u⟩
  unfold bitio_Reader_bits bitio_Reader_bits_b
  refine (e _ _ _).trans ?_
  split
  · rfl
  · rename_i hh
    have : (rbits bs w 0 s).1.2 = 0 := Decidable.byContradiction fun x => hh x
    rw [this]
theorem rok_eq {H : Heap} {p : Nat} {q : Option Addr} {bs : List Int} {s : Nat × Nat} (h : Rd H p q bs s) : ∀ (R : Type) (K : Bool → Option R), bitio_Reader_ok (some ⟨p, 0, none⟩) H K = K true := by
  obtain ⟨c, hO⟩ := h.c
  have m : hcell H p 0 = some (.bool true) := hO.sees.cell 0
  intro R K
  unfold bitio_Reader_ok bitio_Reader_ok_b
  repeat (first | ((with_reducible refine go_ip (x := ?_) ?_ ?_); rotate_left 1; (first  | exact m | rfl)) | ((with_reducible refine go_bp (x := ?_) ?_ ?_); rotate_left 1; (first  | exact m | rfl)) | ((with_reducible refine go_lp (x := ?_) (l := ?_) (c := ?_) ?_ ?_); rotate_left 3; (first  | exact m | rfl)) | ((with_reducible refine go_pp (x := ?_) ?_ ?_); rotate_left 1; (first  | exact m | rfl)) | ((with_reducible refine go_i (x := ?_) ?_ ?_); rotate_left 1; (first  | exact m | rfl)) | ((with_reducible refine go_b (x := ?_) ?_ ?_); rotate_left 1; (first  | exact m | rfl)) | ((with_reducible refine go_l (x := ?_) (l := ?_) (c := ?_) ?_ ?_); rotate_left 3; (first  | exact m | rfl)) | ((with_reducible refine go_p (x := ?_) ?_ ?_); rotate_left 1; (first  | exact m | rfl)) | ((with_reducible refine go_halst rfl ?_ ?_ ?_); rfl; rfl) | (with_reducible refine go_halN rfl ?_) | ((with_reducible refine go_t ?_ ?_); (show _ = true; rfl)) | ((with_reducible refine go_f ?_ ?_); (show _ = false; rfl)) | (with_reducible refine go_ne ?_) | (with_reducible refine go_eq ?_) | (with_reducible refine go_fad ?_) | (with_reducible refine go_nil ?_))
  rfl
theorem pGet_eq (k : Nat) {H : Heap} {p : Nat} {q : Option Addr} {bs : List Int} {s : Nat × Nat} (h : Rd H p q bs s) :
    ∃ H', (∀ (R : Type) (K : Int → Int → Heap → Option R), bitio_Reader_Get k (some ⟨p, 0, none⟩) H K = K (rget bs s).1.1 (rget bs s).1.2 H') ∧ Rd H' p q bs (rget bs s).2 ∧ But p H H' := by
  have o := rok_eq h
  obtain ⟨H', e, r, b⟩ := get_eq k h
  refine ⟨H', fun R K => ?_, r, b⟩
  unfold bitio_Reader_Get bitio_Reader_Get_b
  repeat (first | (with_reducible refine (o _ _).trans ?_) | (with_reducible refine (e _ _).trans ?_) | ((with_reducible refine go_ip (x := ?_) ?_ ?_); rotate_left 1; (first  | rfl)) | ((with_reducible refine go_bp (x := ?_) ?_ ?_); rotate_left 1; (first  | rfl)) | ((with_reducible refine go_lp (x := ?_) (l := ?_) (c := ?_) ?_ ?_); rotate_left 3; (first  | rfl)) | ((with_reducible refine go_pp (x := ?_) ?_ ?_); rotate_left 1; (first  | rfl)) | ((with_reducible refine go_i (x := ?_) ?_ ?_); rotate_left 1; (first  | rfl)) | ((with_reducible refine go_b (x := ?_) ?_ ?_); rotate_left 1; (first  | rfl)) | ((with_reducible refine go_l (x := ?_) (l := ?_) (c := ?_) ?_ ?_); rotate_left 3; (first  | rfl)) | ((with_reducible refine go_p (x := ?_) ?_ ?_); rotate_left 1; (first  | rfl)) | ((with_reducible refine go_halst rfl ?_ ?_ ?_); rfl; rfl) | (with_reducible refine go_halN rfl ?_) | ((with_reducible refine go_t ?_ ?_); (show _ = true; rfl)) | ((with_reducible refine go_f ?_ ?_); (show _ = false; rfl)) | (with_reducible refine go_ne ?_) | (with_reducible refine go_eq ?_) | (with_reducible refine go_fad ?_) | (with_reducible refine go_nil ?_))
  rfl
/-- A failed read is taken back. -/
theorem Rd.undo {H : Heap} {p : Nat} {q : Option Addr} {bs : List Int} {s s' : Nat × Nat} (h : Rd H p q bs s) (hs : Okr bs s') : ∃ H1 H2, (∀ (R : Type) (K : Heap → Option R), hst1 H (some ⟨p, 2, none⟩) (.int .i64 ((s'.1 : Nat) : Int)) K = K H1) ∧ (∀ (R : Type) (K : Heap → Option R), hst1 H1 (some ⟨p, 3, none⟩) (.int .i64 ((s'.2 : Nat) : Int)) K = K H2) ∧ Rd H2 p q bs s' ∧ But p H H2 := by
  obtain ⟨c, hO⟩ := h.c
  obtain ⟨H1, e1, O1, b1, n1⟩ := Rd.st2 hO s'.1
  obtain ⟨H2, e2, O2, b2, n2⟩ := Rd.st3 O1 s'.2
  exact ⟨H1, H2, e1, e2, ⟨⟨c, O2⟩, h.sh.but (b1.trans b2) h.ap, h.ap, hs, h.by_⟩, b1.trans b2⟩
theorem pBitsR_eq {k : Nat} (hk : 100 < k) {H : Heap} {p : Nat} {q : Option Addr} {bs : List Int} {s : Nat × Nat} (h : Rd H p q bs s) (n : Int) :
    ∃ H', (∀ (R : Type) (K : Int → Int → Heap → Option R), bitio_Reader_Bits k (some ⟨p, 0, none⟩) n H K = K (rB bs n s).1.1 (rB bs n s).1.2 H') ∧ Rd H' p q bs (rB bs n s).2 ∧ But p H H' := by
  obtain ⟨Ha, hHa⟩ : ∃ Ha, Ha = H ++ [some ⟨[.pointer (some ⟨p, 0, none⟩)], false, 0⟩] := ⟨_, rfl⟩
  obtain ⟨Hb, hHb⟩ : ∃ Hb, Hb = Ha ++ [some ⟨[.int .i64 n], false, 0⟩] := ⟨_, rfl⟩
  have oa : Old H.length H Ha := hHa ▸ Old.app _ _
  have na : Ha.length = H.length + 1 := by rw [hHa]; simp
  have ob : Old H.length H Hb := oa.trans ((hHb ▸ Old.app _ _ : Old Ha.length Ha Hb).mono oa.1)
  have hp := h.lt
  have h2 := h.keep ob
  have hbp : But p H Hb := .of_old ob
  have O1 : Owns Hb H.length [.pointer (some ⟨p, 0, none⟩)] 0 := by
    unfold Owns; rw [hHb, hblk_old (by omega), hHa]; exact hblk_new H _
  have O2 : Owns Hb Ha.length [.int .i64 n] 0 := by unfold Owns; rw [hHb]; exact hblk_new Ha _
  have m1 : hcell Hb H.length 0 = some (.pointer (some ⟨p, 0, none⟩)) := O1.sees.cell 0
  have m2 : hcell Hb Ha.length 0 = some (.int .i64 n) := O2.sees.cell 0
  have o := rok_eq h2
  by_cases c1 : n < 0
  · have d1 := decide_eq_true c1
    have er : rB bs n s = ((0, 1), s) := if_neg (by omega)
    rw [er]
    refine ⟨Hb, fun R K => ?_, h2, hbp⟩
    unfold bitio_Reader_Bits bitio_Reader_Bits_b bitio_Reader_Bits_p0 bitio_Reader_Bits_p0_b
    repeat (first | (with_reducible refine (o _ _).trans ?_) | ((with_reducible refine go_ip (x := ?_) ?_ ?_); rotate_left 1; (first  | exact m1 | exact m2 | rfl)) | ((with_reducible refine go_bp (x := ?_) ?_ ?_); rotate_left 1; (first  | exact m1 | exact m2 | rfl)) | ((with_reducible refine go_lp (x := ?_) (l := ?_) (c := ?_) ?_ ?_); rotate_left 3; (first  | exact m1 | exact m2 | rfl)) | ((with_reducible refine go_pp (x := ?_) ?_ ?_); rotate_left 1; (first  | exact m1 | exact m2 | rfl)) | ((with_reducible refine go_i (x := ?_) ?_ ?_); rotate_left 1; (first  | exact m1 | exact m2 | rfl)) | ((with_reducible refine go_b (x := ?_) ?_ ?_); rotate_left 1; (first  | exact m1 | exact m2 | rfl)) | ((with_reducible refine go_l (x := ?_) (l := ?_) (c := ?_) ?_ ?_); rotate_left 3; (first  | exact m1 | exact m2 | rfl)) | ((with_reducible refine go_p (x := ?_) ?_ ?_); rotate_left 1; (first  | exact m1 | exact m2 | rfl)) | ((with_reducible refine go_halst hHa ?_ ?_ ?_); rfl; rfl) | (with_reducible refine go_halN hHa ?_) | ((with_reducible refine go_halst hHb ?_ ?_ ?_); rfl; rfl) | (with_reducible refine go_halN hHb ?_) | (with_reducible refine go_t d1 ?_) | (with_reducible refine go_f d1 ?_) | ((with_reducible refine go_t ?_ ?_); (show _ = true; rfl)) | ((with_reducible refine go_f ?_ ?_); (show _ = false; rfl)) | (with_reducible refine go_ne ?_) | (with_reducible refine go_eq ?_) | (with_reducible refine go_fad ?_) | (with_reducible refine go_nil ?_))
    rfl
  have d1 := decide_eq_false c1
  by_cases c2 : n > 32
  · have d2 := decide_eq_true c2
    have er : rB bs n s = ((0, 1), s) := if_neg (by omega)
    rw [er]
    refine ⟨Hb, fun R K => ?_, h2, hbp⟩
    unfold bitio_Reader_Bits bitio_Reader_Bits_b bitio_Reader_Bits_p0 bitio_Reader_Bits_p0_b
    repeat (first | (with_reducible refine (o _ _).trans ?_) | ((with_reducible refine go_ip (x := ?_) ?_ ?_); rotate_left 1; (first  | exact m1 | exact m2 | rfl)) | ((with_reducible refine go_bp (x := ?_) ?_ ?_); rotate_left 1; (first  | exact m1 | exact m2 | rfl)) | ((with_reducible refine go_lp (x := ?_) (l := ?_) (c := ?_) ?_ ?_); rotate_left 3; (first  | exact m1 | exact m2 | rfl)) | ((with_reducible refine go_pp (x := ?_) ?_ ?_); rotate_left 1; (first  | exact m1 | exact m2 | rfl)) | ((with_reducible refine go_i (x := ?_) ?_ ?_); rotate_left 1; (first  | exact m1 | exact m2 | rfl)) | ((with_reducible refine go_b (x := ?_) ?_ ?_); rotate_left 1; (first  | exact m1 | exact m2 | rfl)) | ((with_reducible refine go_l (x := ?_) (l := ?_) (c := ?_) ?_ ?_); rotate_left 3; (first  | exact m1 | exact m2 | rfl)) | ((with_reducible refine go_p (x := ?_) ?_ ?_); rotate_left 1; (first  | exact m1 | exact m2 | rfl)) | ((with_reducible refine go_halst hHa ?_ ?_ ?_); rfl; rfl) | (with_reducible refine go_halN hHa ?_) | ((with_reducible refine go_halst hHb ?_ ?_ ?_); rfl; rfl) | (with_reducible refine go_halN hHb ?_) | (with_reducible refine go_t d1 ?_) | (with_reducible refine go_f d1 ?_) | (with_reducible refine go_t d2 ?_) | (with_reducible refine go_f d2 ?_) | ((with_reducible refine go_t ?_ ?_); (show _ = true; rfl)) | ((with_reducible refine go_f ?_ ?_); (show _ = false; rfl)) | (with_reducible refine go_ne ?_) | (with_reducible refine go_eq ?_) | (with_reducible refine go_fad ?_) | (with_reducible refine go_nil ?_))
    rfl
  have d2 := decide_eq_false c2
  obtain ⟨w, rfl⟩ : ∃ w : Nat, n = w := ⟨n.toNat, by omega⟩
  have er : rB bs (w : Int) s = back s (rbits bs w 0 s) := by unfold rB; rw [if_pos ⟨by omega, by omega⟩, Int.toNat_natCast]
  obtain ⟨H3, e3, R3, b3, u3⟩ := bits_eq hk h2 (w := w) (by omega)
  obtain ⟨c, hO⟩ := h2.c
  have m : ∀ o, hcell Hb p o = (rcl q bs.length c s.1 s.2)[o]? := fun o => hO.sees.cell o
  rw [er]
  unfold back
  by_cases he : (rbits bs w 0 s).1.2 = 0
  · have d3 : ((rbits bs w 0 s).1.2 != 0) = false := by rw [he]; rfl
    rw [if_neg (fun hh => hh he)]
    refine ⟨H3, fun R K => ?_, R3, hbp.trans b3⟩
    unfold bitio_Reader_Bits bitio_Reader_Bits_b bitio_Reader_Bits_p0 bitio_Reader_Bits_p0_b bitio_Reader_whole_v60 bitio_Reader_whole_v60_b bitio_Reader_Bits_1 bitio_Reader_Bits_1_b
    repeat (first | (with_reducible refine (o _ _).trans ?_) | (with_reducible refine (e3 _ _).trans ?_) | ((with_reducible refine go_ip (x := ?_) ?_ ?_); rotate_left 1; (first | ((with_reducible refine (m _).trans ?_); rfl) | exact m1 | exact m2 | rfl)) | ((with_reducible refine go_bp (x := ?_) ?_ ?_); rotate_left 1; (first | ((with_reducible refine (m _).trans ?_); rfl) | exact m1 | exact m2 | rfl)) | ((with_reducible refine go_lp (x := ?_) (l := ?_) (c := ?_) ?_ ?_); rotate_left 3; (first | ((with_reducible refine (m _).trans ?_); rfl) | exact m1 | exact m2 | rfl)) | ((with_reducible refine go_pp (x := ?_) ?_ ?_); rotate_left 1; (first | ((with_reducible refine (m _).trans ?_); rfl) | exact m1 | exact m2 | rfl)) | ((with_reducible refine go_i (x := ?_) ?_ ?_); rotate_left 1; (first | ((with_reducible refine (m _).trans ?_); rfl) | exact m1 | exact m2 | rfl)) | ((with_reducible refine go_b (x := ?_) ?_ ?_); rotate_left 1; (first | ((with_reducible refine (m _).trans ?_); rfl) | exact m1 | exact m2 | rfl)) | ((with_reducible refine go_l (x := ?_) (l := ?_) (c := ?_) ?_ ?_); rotate_left 3; (first | ((with_reducible refine (m _).trans ?_); rfl) | exact m1 | exact m2 | rfl)) | ((with_reducible refine go_p (x := ?_) ?_ ?_); rotate_left 1; (first | ((with_reducible refine (m _).trans ?_); rfl) | exact m1 | exact m2 | rfl)) | ((with_reducible refine go_halst hHa ?_ ?_ ?_); rfl; rfl) | (with_reducible refine go_halN hHa ?_) | ((with_reducible refine go_halst hHb ?_ ?_ ?_); rfl; rfl) | (with_reducible refine go_halN hHb ?_) | (with_reducible refine go_t d1 ?_) | (with_reducible refine go_f d1 ?_) | (with_reducible refine go_t d2 ?_) | (with_reducible refine go_f d2 ?_) | (with_reducible refine go_t d3 ?_) | (with_reducible refine go_f d3 ?_) | ((with_reducible refine go_t ?_ ?_); (show _ = true; rfl)) | ((with_reducible refine go_f ?_ ?_); (show _ = false; rfl)) | (with_reducible refine go_ne ?_) | (with_reducible refine go_eq ?_) | (with_reducible refine go_fad ?_) | (with_reducible refine go_nil ?_))
    rw [he]
  · have d3 : ((rbits bs w 0 s).1.2 != 0) = true := by simpa using he
    rw [if_pos he]
    obtain ⟨H4, H5, e4, e5, R5, b5⟩ := R3.undo h.ok
    refine ⟨H5, fun R K => ?_, R5, (hbp.trans b3).trans b5⟩
    unfold bitio_Reader_Bits bitio_Reader_Bits_b bitio_Reader_Bits_p0 bitio_Reader_Bits_p0_b bitio_Reader_whole_v60 bitio_Reader_whole_v60_b bitio_Reader_Bits_1 bitio_Reader_Bits_1_b
    repeat (first | (with_reducible refine (o _ _).trans ?_) | (with_reducible refine (e3 _ _).trans ?_) | (with_reducible refine (e4 _ _).trans ?_) | (with_reducible refine (e5 _ _).trans ?_) | ((with_reducible refine go_ip (x := ?_) ?_ ?_); rotate_left 1; (first | ((with_reducible refine (m _).trans ?_); rfl) | exact m1 | exact m2 | rfl)) | ((with_reducible refine go_bp (x := ?_) ?_ ?_); rotate_left 1; (first | ((with_reducible refine (m _).trans ?_); rfl) | exact m1 | exact m2 | rfl)) | ((with_reducible refine go_lp (x := ?_) (l := ?_) (c := ?_) ?_ ?_); rotate_left 3; (first | ((with_reducible refine (m _).trans ?_); rfl) | exact m1 | exact m2 | rfl)) | ((with_reducible refine go_pp (x := ?_) ?_ ?_); rotate_left 1; (first | ((with_reducible refine (m _).trans ?_); rfl) | exact m1 | exact m2 | rfl)) | ((with_reducible refine go_i (x := ?_) ?_ ?_); rotate_left 1; (first | ((with_reducible refine (m _).trans ?_); rfl) | exact m1 | exact m2 | rfl)) | ((with_reducible refine go_b (x := ?_) ?_ ?_); rotate_left 1; (first | ((with_reducible refine (m _).trans ?_); rfl) | exact m1 | exact m2 | rfl)) | ((with_reducible refine go_l (x := ?_) (l := ?_) (c := ?_) ?_ ?_); rotate_left 3; (first | ((with_reducible refine (m _).trans ?_); rfl) | exact m1 | exact m2 | rfl)) | ((with_reducible refine go_p (x := ?_) ?_ ?_); rotate_left 1; (first | ((with_reducible refine (m _).trans ?_); rfl) | exact m1 | exact m2 | rfl)) | ((with_reducible refine go_halst hHa ?_ ?_ ?_); rfl; rfl) | (with_reducible refine go_halN hHa ?_) | ((with_reducible refine go_halst hHb ?_ ?_ ?_); rfl; rfl) | (with_reducible refine go_halN hHb ?_) | (with_reducible refine go_t d1 ?_) | (with_reducible refine go_f d1 ?_) | (with_reducible refine go_t d2 ?_) | (with_reducible refine go_f d2 ?_) | (with_reducible refine go_t d3 ?_) | (with_reducible refine go_f d3 ?_) | ((with_reducible refine go_t ?_ ?_); (show _ = true; rfl)) | ((with_reducible refine go_f ?_ ?_); (show _ = false; rfl)) | (with_reducible refine go_ne ?_) | (with_reducible refine go_eq ?_) | (with_reducible refine go_fad ?_) | (with_reducible refine go_nil ?_))
    rfl
end Go.Proofs.Ytblkejnciinaeaa.Sh
