/- Bitio: the program's writer, a bit at a time. -/
import Derived.Test.YtblkejnciinaeaaBtB
import Derived.Test.YtblkejnciinaeaaSh1
import Derived.Test.YtblkejnciinaeaaSh2
set_option linter.unusedVariables false
set_option linter.unusedSimpArgs false
namespace Go.Proofs.Ytblkejnciinaeaa.Sh
open Go.Proofs.Ytblkejnciinaeaa.FW Go.IntWalk
/-- The bits of the byte behind these. -/
def sz (b : List Int) : Nat := if b.getLast? = some 255 then 7 else 8
theorem sz_le (b : List Int) : sz b ≤ 8 := by unfold sz; split <;> omega
theorem sz_ge (b : List Int) : 7 ≤ sz b := by unfold sz; split <;> omega
theorem sz_snoc (b : List Int) (x : Int) : sz (b ++ [x]) = if x = 255 then 7 else 8 := by unfold sz; simp
/-- Bytes that these bits fill. -/
inductive Full : List Int → List Int → Prop
  | nil : Full [] []
  | snoc {b pre c : List Int} : Full b pre → c.length = sz b → Full (b ++ [(val c : Int)]) (pre ++ c)
def wcl (q : Option Addr) (c : Nat) (b t : List Int) (n : Nat) : List Value := [.bool true, .slice q b.length c, .int .u8 ((val t : Nat) : Int), .int .i64 ((t.length : Nat) : Int), .int .i64 ((sz b : Nat) : Int), .int .i64 ((n : Nat) : Int)]
/-- The program's writer: the bits that it was given. -/
structure Wr (N : Nat) (H : Heap) (p : Nat) (q : Option Addr) (l : List Int) : Prop where
  c : ∃ c b pre t, l = pre ++ t ∧ Full b pre ∧ t.length < sz b ∧ Owns H p (wcl q c b t l.length) 0 ∧ Bld N 1 H q b.length c (byt b) ∧ b.length ≤ l.length
  low : N ≤ p
  apt : ∀ a, q = some a → a.block ≠ p
  b01 : B01 l
theorem Wr.lt {N : Nat} {H : Heap} {p : Nat} {q : Option Addr} {l : List Int} (h : Wr N H p q l) : p < H.length := by obtain ⟨c, b, pre, t, _, _, _, h1, _⟩ := h.c; exact h1.lt
theorem Wr.qlt {N : Nat} {H : Heap} {p : Nat} {q : Option Addr} {l : List Int} (h : Wr N H p q l) : ∀ a, q = some a → a.block < H.length := by obtain ⟨c, b, pre, t, _, _, _, _, h1, _⟩ := h.c; exact h1.below
theorem Bld.qlow {N sz l c : Nat} {H : Heap} {q : Option Addr} {cs : List Value} (h1 : Bld N sz H q l c cs) : ∀ a, q = some a → N ≤ a.block := by
  rcases h1 with ⟨rfl, _⟩ | ⟨b, rfl, _, h3, _⟩
  · intro a ha; cases ha
  · intro a ha; cases ha; exact h3
theorem Wr.qlow {N : Nat} {H : Heap} {p : Nat} {q : Option Addr} {l : List Int} (h : Wr N H p q l) : ∀ a, q = some a → N ≤ a.block := by
  obtain ⟨c, b, pre, t, _, _, _, _, h1, _⟩ := h.c; exact Bld.qlow h1
theorem Wr.stp {N : Nat} {H H' : Heap} {p p2 : Nat} {q q' q2 : Option Addr} {l : List Int} (h : Wr N H p2 q2 l) (s : Stp p q H q' H') (a : Apt p q p2 q2) : Wr N H' p2 q2 l := by
  obtain ⟨c, b, pre, t, e1, e2, e3, h1, h2, e4⟩ := h.c
  exact ⟨⟨c, b, pre, t, e1, e2, e3, Owns.stp s h1 a.1.symm a.2.1, Bld.stp s h2 a.2.2.1 a.2.2.2, e4⟩, h.low, h.apt, h.b01⟩
theorem Full.len {b pre : List Int} (h : Full b pre) : b.length ≤ pre.length := by
  induction h with
  | nil => simp
  | @snoc b pre c h e ih => have := sz_ge b; rw [List.length_append, List.length_append]; simp only [List.length_cons, List.length_nil]; omega
theorem Full.byte {b pre : List Int} (h : Full b pre) : ∀ x ∈ b, 0 ≤ x ∧ x ≤ 255 := by
  induction h with
  | nil => intro x hx; cases hx
  | @snoc b pre c h e ih =>
    intro x hx
    rcases List.mem_append.1 hx with h1 | h1
    · exact ih x h1
    · simp only [List.mem_singleton] at h1
      subst h1
      have := val_lt c
      have h8 : 2 ^ c.length ≤ 2 ^ 8 := Nat.pow_le_pow_right (by omega) (by have := sz_le b; omega)
      omega
theorem shx {t : List Int} {x : Int} (ht : t.length < 8) (hx : x = 0 ∨ x = 1) (R : Type) (K : Int → Option R) : hbin .or .u8 (IntKind.wrap .u8 (((val t : Nat) : Int) * 2)) (IntKind.wrap .u8 x) K = K ((val (t ++ [x]) : Nat) : Int) := by
  have h1 := val_lt t
  have h2 : 2 ^ t.length ≤ 2 ^ 7 := Nat.pow_le_pow_right (by omega) (by omega)
  have e1 : IntKind.wrap .u8 (((val t : Nat) : Int) * 2) = ((2 ^ 1 * val t : Nat) : Int) := by rw [u8_in _ ⟨by omega, by omega⟩]; omega
  have e2 : IntKind.wrap .u8 x = ((bn x : Nat) : Int) := by rw [← bn_of hx, u8_in _ ⟨by omega, by omega⟩]
  have hb := bn_le x
  rw [e1, e2, or8 (by omega) (by omega), ← Nat.two_pow_add_eq_or_of_lt (i := 1) (by omega), val_snoc]
theorem put_eq (k : Nat) {N : Nat} {H : Heap} {p : Nat} {q : Option Addr} {l : List Int} (h : Wr N H p q l) (hN : N ≤ H.length) (hl : l.length < 1000000) {x : Int} (hx : x = 0 ∨ x = 1) :
    ∃ q' H', (∀ (R : Type) (K : Heap → Option R), bitio_Writer_put k (some ⟨p, 0, none⟩) x H K = K H') ∧ Wr N H' p q' (l ++ [x]) ∧ Stp p q H q' H' := by
  obtain ⟨c, b, pre, t, rfl, hF, ht, hO, hB, hbl⟩ := h.c
  have hs8 := sz_le b
  have hs7 := sz_ge b
  have htl : t.length ≤ (pre ++ t).length := by simp
  have m : ∀ o, hcell H p o = (wcl q c b t (pre ++ t).length)[o]? := fun o => hO.sees.cell o
  have s0 := shx (t := t) (x := x) (by omega) hx
  obtain ⟨H1, e1, O1, B1, n1⟩ := Owns.st1 (o := 2) hO (by simp [wcl]) (.int .u8 ((val (t ++ [x]) : Nat) : Int))
  obtain ⟨H2, e2, O2, B2, n2⟩ := Owns.st1 (o := 3) O1 (by simp [wcl]) (.int .i64 (((t.length : Nat) : Int) + 1))
  obtain ⟨H3, e3, O3, B3, n3⟩ := Owns.st1 (o := 5) O2 (by simp [wcl]) (.int .i64 ((((pre ++ t).length : Nat) : Int) + 1))
  have hlen : (((pre ++ t ++ [x]).length : Nat) : Int) = (((pre ++ t).length : Nat) : Int) + 1 := by simp only [List.length_append, List.length_cons, List.length_nil]; omega
  have O3' : Owns H3 p [.bool true, .slice q b.length c, .int .u8 ((val (t ++ [x]) : Nat) : Int), .int .i64 (((t.length : Nat) : Int) + 1), .int .i64 ((sz b : Nat) : Int), .int .i64 ((((pre ++ t).length : Nat) : Int) + 1)] 0 := O3
  have m1 : ∀ o, hcell H1 p o = [Value.bool true, .slice q b.length c, .int .u8 ((val (t ++ [x]) : Nat) : Int), .int .i64 ((t.length : Nat) : Int), .int .i64 ((sz b : Nat) : Int), .int .i64 (((pre ++ t).length : Nat) : Int)][o]? := fun o => O1.sees.cell o
  have m2 : ∀ o, hcell H2 p o = [Value.bool true, .slice q b.length c, .int .u8 ((val (t ++ [x]) : Nat) : Int), .int .i64 (((t.length : Nat) : Int) + 1), .int .i64 ((sz b : Nat) : Int), .int .i64 (((pre ++ t).length : Nat) : Int)][o]? := fun o => O2.sees.cell o
  have m3 : ∀ o, hcell H3 p o = [Value.bool true, .slice q b.length c, .int .u8 ((val (t ++ [x]) : Nat) : Int), .int .i64 (((t.length : Nat) : Int) + 1), .int .i64 ((sz b : Nat) : Int), .int .i64 ((((pre ++ t).length : Nat) : Int) + 1)][o]? := fun o => O3.sees.cell o
  have w1 : IntKind.wrap .i64 (((t.length : Nat) : Int) + 1) = ((t.length : Nat) : Int) + 1 := w64 (by omega) (by omega)
  have w2 : IntKind.wrap .i64 ((((pre ++ t).length : Nat) : Int) + 1) = (((pre ++ t).length : Nat) : Int) + 1 := w64 (by omega) (by omega)
  have B13 : But p H H3 := (B1.trans B2).trans B3
  have e2' : ∀ (R : Type) (K : Heap → Option R), hst1 H1 (some ⟨p, 3, none⟩) (.int .i64 (IntKind.wrap .i64 (((t.length : Nat) : Int) + 1))) K = K H2 := by rw [w1]; exact e2
  have e3' : ∀ (R : Type) (K : Heap → Option R), hst1 H2 (some ⟨p, 5, none⟩) (.int .i64 (IntKind.wrap .i64 ((((pre ++ t).length : Nat) : Int) + 1))) K = K H3 := by rw [w2]; exact e3
  have hB3 : Bld N 1 H3 q b.length c (byt b) := Bld.stp (Stp.of_but (q := none) B13) hB h.apt (fun a b ha => by cases ha)
  have hb1 : B01 (pre ++ t ++ [x]) := h.b01.app (.one hx)
  have htx : (t ++ [x]).length = t.length + 1 := by simp
  by_cases hc : t.length + 1 < sz b
  · have ed : decide (((t.length : Nat) : Int) + 1 < ((sz b : Nat) : Int)) = true := decide_eq_true (by omega)
    refine ⟨q, H3, fun R K => ?_, ⟨⟨c, b, pre, t ++ [x], by simp, hF, by rw [htx]; exact hc, ?_, hB3, by rw [List.length_append]; omega⟩, h.low, h.apt, hb1⟩, .of_but B13⟩
    · unfold bitio_Writer_put bitio_Writer_put_b
      repeat (first | (with_reducible refine (s0 _ _).trans ?_) | (with_reducible refine (e1 _ _).trans ?_) | (with_reducible refine (e2' _ _).trans ?_) | (with_reducible refine (e3' _ _).trans ?_) | ((with_reducible refine go_ip (x := ?_) ?_ ?_); rotate_left 1; (first | ((with_reducible refine (m _).trans ?_); rfl) | ((with_reducible refine (m1 _).trans ?_); rfl) | ((with_reducible refine (m2 _).trans ?_); rfl) | ((with_reducible refine (m3 _).trans ?_); rfl) | rfl)) | ((with_reducible refine go_bp (x := ?_) ?_ ?_); rotate_left 1; (first | ((with_reducible refine (m _).trans ?_); rfl) | ((with_reducible refine (m1 _).trans ?_); rfl) | ((with_reducible refine (m2 _).trans ?_); rfl) | ((with_reducible refine (m3 _).trans ?_); rfl) | rfl)) | ((with_reducible refine go_lp (x := ?_) (l := ?_) (c := ?_) ?_ ?_); rotate_left 3; (first | ((with_reducible refine (m _).trans ?_); rfl) | ((with_reducible refine (m1 _).trans ?_); rfl) | ((with_reducible refine (m2 _).trans ?_); rfl) | ((with_reducible refine (m3 _).trans ?_); rfl) | rfl)) | ((with_reducible refine go_pp (x := ?_) ?_ ?_); rotate_left 1; (first | ((with_reducible refine (m _).trans ?_); rfl) | ((with_reducible refine (m1 _).trans ?_); rfl) | ((with_reducible refine (m2 _).trans ?_); rfl) | ((with_reducible refine (m3 _).trans ?_); rfl) | rfl)) | ((with_reducible refine go_i (x := ?_) ?_ ?_); rotate_left 1; (first | ((with_reducible refine (m _).trans ?_); rfl) | ((with_reducible refine (m1 _).trans ?_); rfl) | ((with_reducible refine (m2 _).trans ?_); rfl) | ((with_reducible refine (m3 _).trans ?_); rfl) | rfl)) | ((with_reducible refine go_b (x := ?_) ?_ ?_); rotate_left 1; (first | ((with_reducible refine (m _).trans ?_); rfl) | ((with_reducible refine (m1 _).trans ?_); rfl) | ((with_reducible refine (m2 _).trans ?_); rfl) | ((with_reducible refine (m3 _).trans ?_); rfl) | rfl)) | ((with_reducible refine go_l (x := ?_) (l := ?_) (c := ?_) ?_ ?_); rotate_left 3; (first | ((with_reducible refine (m _).trans ?_); rfl) | ((with_reducible refine (m1 _).trans ?_); rfl) | ((with_reducible refine (m2 _).trans ?_); rfl) | ((with_reducible refine (m3 _).trans ?_); rfl) | rfl)) | ((with_reducible refine go_p (x := ?_) ?_ ?_); rotate_left 1; (first | ((with_reducible refine (m _).trans ?_); rfl) | ((with_reducible refine (m1 _).trans ?_); rfl) | ((with_reducible refine (m2 _).trans ?_); rfl) | ((with_reducible refine (m3 _).trans ?_); rfl) | rfl)) | ((with_reducible refine go_halst rfl ?_ ?_ ?_); rfl; rfl) | (with_reducible refine go_halN rfl ?_) | (with_reducible refine go_t ed ?_) | (with_reducible refine go_f ed ?_) | ((with_reducible refine go_t ?_ ?_); (show _ = true; rfl)) | ((with_reducible refine go_f ?_ ?_); (show _ = false; rfl)) | (with_reducible refine go_ne ?_) | (with_reducible refine go_eq ?_) | (with_reducible refine go_fad ?_) | (with_reducible refine go_nil ?_))
      rfl
    · unfold wcl; rw [htx, hlen]; exact O3'
  · have ed : decide (((t.length : Nat) : Int) + 1 < ((sz b : Nat) : Int)) = false := decide_eq_false (by omega)
    have hF' : Full (b ++ [((val (t ++ [x]) : Nat) : Int)]) (pre ++ (t ++ [x])) := .snoc hF (by omega)
    have hbl' := hF'.len
    have hbl2 := hF.len
    have hll : (pre ++ t).length = pre.length + t.length := List.length_append
    obtain ⟨H4, e4, B4, n4, s4⟩ := app1 (bytes := 1) hB3 (by omega) (.int .u8 ((val (t ++ [x]) : Nat) : Int)) (by omega)
    have hp := hO.lt
    have O4 : Owns H4 p [.bool true, .slice q b.length c, .int .u8 ((val (t ++ [x]) : Nat) : Int), .int .i64 (((t.length : Nat) : Int) + 1), .int .i64 ((sz b : Nat) : Int), .int .i64 ((((pre ++ t).length : Nat) : Int) + 1)] 0 := by
      unfold Owns at *; rw [s4 p (by omega) h.apt]; exact O3'
    obtain ⟨H5, e5, O5, B5, n5⟩ := Owns.st1 (o := 1) O4 (by simp) (.slice (some ⟨H3.length + 1, 0, none⟩) (b.length + 1) unk)
    obtain ⟨H6, e6, O6, B6, n6⟩ := Owns.st1 (o := 4) O5 (by simp) (.int .i64 8)
    have m6 : ∀ o, hcell H6 p o = [Value.bool true, .slice (some ⟨H3.length + 1, 0, none⟩) (b.length + 1) unk, .int .u8 ((val (t ++ [x]) : Nat) : Int), .int .i64 (((t.length : Nat) : Int) + 1), .int .i64 8, .int .i64 ((((pre ++ t).length : Nat) : Int) + 1)][o]? := fun o => O6.sees.cell o
    have mb : hcell (H3 ++ [some (⟨[.int .u8 ((val (t ++ [x]) : Nat) : Int)], false, 0⟩ : Blk)]) p 1 = some (.slice q b.length c) := by rw [hcell_old (by omega)]; exact m3 1
    obtain ⟨H7, O7, B7, n7, g7⟩ : ∃ H7, Owns H7 p [.bool true, .slice (some ⟨H3.length + 1, 0, none⟩) (b.length + 1) unk, .int .u8 ((val (t ++ [x]) : Nat) : Int), .int .i64 (((t.length : Nat) : Int) + 1), .int .i64 ((sz (b ++ [((val (t ++ [x]) : Nat) : Int)]) : Nat) : Int), .int .i64 ((((pre ++ t).length : Nat) : Int) + 1)] 0 ∧ But p H6 H7 ∧ H7.length = H6.length ∧
        ∀ (R : Type) (KN : Option Addr → Heap → Option R), bitio_Writer_put_p0 k (some ⟨p, 0, none⟩) H6 KN = KN (some ⟨p, 0, none⟩) H7 := by
      rw [sz_snoc]
      by_cases h255 : ((val (t ++ [x]) : Nat) : Int) = 255
      · obtain ⟨H7, e7, O7, B7, n7⟩ := Owns.st1 (o := 4) O6 (by simp) (.int .i64 7)
        have hc : (((val (t ++ [x]) : Nat) : Int) == 255) = true := by rw [h255]; rfl
        rw [if_pos h255]
        refine ⟨H7, O7, B7, n7, fun R KN => ?_⟩
        unfold bitio_Writer_put_p0 bitio_Writer_put_p0_b
        repeat (first | (with_reducible refine (e7 _ _).trans ?_) | ((with_reducible refine go_ip (x := ?_) ?_ ?_); rotate_left 1; (first | ((with_reducible refine (m6 _).trans ?_); rfl) | rfl)) | ((with_reducible refine go_bp (x := ?_) ?_ ?_); rotate_left 1; (first | ((with_reducible refine (m6 _).trans ?_); rfl) | rfl)) | ((with_reducible refine go_lp (x := ?_) (l := ?_) (c := ?_) ?_ ?_); rotate_left 3; (first | ((with_reducible refine (m6 _).trans ?_); rfl) | rfl)) | ((with_reducible refine go_pp (x := ?_) ?_ ?_); rotate_left 1; (first | ((with_reducible refine (m6 _).trans ?_); rfl) | rfl)) | ((with_reducible refine go_i (x := ?_) ?_ ?_); rotate_left 1; (first | ((with_reducible refine (m6 _).trans ?_); rfl) | rfl)) | ((with_reducible refine go_b (x := ?_) ?_ ?_); rotate_left 1; (first | ((with_reducible refine (m6 _).trans ?_); rfl) | rfl)) | ((with_reducible refine go_l (x := ?_) (l := ?_) (c := ?_) ?_ ?_); rotate_left 3; (first | ((with_reducible refine (m6 _).trans ?_); rfl) | rfl)) | ((with_reducible refine go_p (x := ?_) ?_ ?_); rotate_left 1; (first | ((with_reducible refine (m6 _).trans ?_); rfl) | rfl)) | ((with_reducible refine go_halst rfl ?_ ?_ ?_); rfl; rfl) | (with_reducible refine go_halN rfl ?_) | (with_reducible refine go_t hc ?_) | (with_reducible refine go_f hc ?_) | ((with_reducible refine go_t ?_ ?_); (show _ = true; rfl)) | ((with_reducible refine go_f ?_ ?_); (show _ = false; rfl)) | (with_reducible refine go_ne ?_) | (with_reducible refine go_eq ?_) | (with_reducible refine go_fad ?_) | (with_reducible refine go_nil ?_))
        rfl
      · have hc : (((val (t ++ [x]) : Nat) : Int) == 255) = false := by simpa using h255
        rw [if_neg h255]
        refine ⟨H6, O6, .refl _ _, rfl, fun R KN => ?_⟩
        unfold bitio_Writer_put_p0 bitio_Writer_put_p0_b
        repeat (first | ((with_reducible refine go_ip (x := ?_) ?_ ?_); rotate_left 1; (first | ((with_reducible refine (m6 _).trans ?_); rfl) | rfl)) | ((with_reducible refine go_bp (x := ?_) ?_ ?_); rotate_left 1; (first | ((with_reducible refine (m6 _).trans ?_); rfl) | rfl)) | ((with_reducible refine go_lp (x := ?_) (l := ?_) (c := ?_) ?_ ?_); rotate_left 3; (first | ((with_reducible refine (m6 _).trans ?_); rfl) | rfl)) | ((with_reducible refine go_pp (x := ?_) ?_ ?_); rotate_left 1; (first | ((with_reducible refine (m6 _).trans ?_); rfl) | rfl)) | ((with_reducible refine go_i (x := ?_) ?_ ?_); rotate_left 1; (first | ((with_reducible refine (m6 _).trans ?_); rfl) | rfl)) | ((with_reducible refine go_b (x := ?_) ?_ ?_); rotate_left 1; (first | ((with_reducible refine (m6 _).trans ?_); rfl) | rfl)) | ((with_reducible refine go_l (x := ?_) (l := ?_) (c := ?_) ?_ ?_); rotate_left 3; (first | ((with_reducible refine (m6 _).trans ?_); rfl) | rfl)) | ((with_reducible refine go_p (x := ?_) ?_ ?_); rotate_left 1; (first | ((with_reducible refine (m6 _).trans ?_); rfl) | rfl)) | ((with_reducible refine go_halst rfl ?_ ?_ ?_); rfl; rfl) | (with_reducible refine go_halN rfl ?_) | (with_reducible refine go_t hc ?_) | (with_reducible refine go_f hc ?_) | ((with_reducible refine go_t ?_ ?_); (show _ = true; rfl)) | ((with_reducible refine go_f ?_ ?_); (show _ = false; rfl)) | (with_reducible refine go_ne ?_) | (with_reducible refine go_eq ?_) | (with_reducible refine go_fad ?_) | (with_reducible refine go_nil ?_))
        rfl
    obtain ⟨H8, e8, O8, B8, n8⟩ := Owns.st1 (o := 2) O7 (by simp) (.int .u8 0)
    obtain ⟨H9, e9, O9, B9, n9⟩ := Owns.st1 (o := 3) O8 (by simp) (.int .i64 0)
    have B59 : But p H4 H9 := (((B5.trans B6).trans B7).trans B8).trans B9
    refine ⟨some ⟨H3.length + 1, 0, none⟩, H9, fun R K => ?_, ⟨⟨unk, b ++ [((val (t ++ [x]) : Nat) : Int)], pre ++ (t ++ [x]), [], by simp, hF', by have := sz_ge (b ++ [((val (t ++ [x]) : Nat) : Int)]); simp only [List.length_nil]; omega, ?_, ?_, by rw [← List.append_assoc] at hbl'; exact hbl'⟩, h.low, fun a ha => by cases ha; simp only; omega, hb1⟩, ⟨by omega, fun i hi h1 h2 => ?_, .inr fun a ha => by cases ha; simp only; omega⟩⟩
    · unfold bitio_Writer_put bitio_Writer_put_b
      repeat (first | (with_reducible refine (s0 _ _).trans ?_) | (with_reducible refine (e1 _ _).trans ?_) | (with_reducible refine (e2' _ _).trans ?_) | (with_reducible refine (e3' _ _).trans ?_) | (with_reducible refine (e4 _ _).trans ?_) | (with_reducible refine (e5 _ _).trans ?_) | (with_reducible refine (e6 _ _).trans ?_) | (with_reducible refine (g7 _ _).trans ?_) | (with_reducible refine (e8 _ _).trans ?_) | (with_reducible refine (e9 _ _).trans ?_) | ((with_reducible refine go_ip (x := ?_) ?_ ?_); rotate_left 1; (first | ((with_reducible refine (m _).trans ?_); rfl) | ((with_reducible refine (m1 _).trans ?_); rfl) | ((with_reducible refine (m2 _).trans ?_); rfl) | ((with_reducible refine (m3 _).trans ?_); rfl) | rfl)) | ((with_reducible refine go_bp (x := ?_) ?_ ?_); rotate_left 1; (first | ((with_reducible refine (m _).trans ?_); rfl) | ((with_reducible refine (m1 _).trans ?_); rfl) | ((with_reducible refine (m2 _).trans ?_); rfl) | ((with_reducible refine (m3 _).trans ?_); rfl) | rfl)) | ((with_reducible refine go_lp (x := ?_) (l := ?_) (c := ?_) ?_ ?_); rotate_left 3; (first | ((with_reducible refine (m _).trans ?_); rfl) | ((with_reducible refine (m1 _).trans ?_); rfl) | ((with_reducible refine (m2 _).trans ?_); rfl) | ((with_reducible refine (m3 _).trans ?_); rfl) | rfl)) | ((with_reducible refine go_pp (x := ?_) ?_ ?_); rotate_left 1; (first | ((with_reducible refine (m _).trans ?_); rfl) | ((with_reducible refine (m1 _).trans ?_); rfl) | ((with_reducible refine (m2 _).trans ?_); rfl) | ((with_reducible refine (m3 _).trans ?_); rfl) | rfl)) | ((with_reducible refine go_i (x := ?_) ?_ ?_); rotate_left 1; (first | ((with_reducible refine (m _).trans ?_); rfl) | ((with_reducible refine (m1 _).trans ?_); rfl) | ((with_reducible refine (m2 _).trans ?_); rfl) | ((with_reducible refine (m3 _).trans ?_); rfl) | rfl)) | ((with_reducible refine go_b (x := ?_) ?_ ?_); rotate_left 1; (first | ((with_reducible refine (m _).trans ?_); rfl) | ((with_reducible refine (m1 _).trans ?_); rfl) | ((with_reducible refine (m2 _).trans ?_); rfl) | ((with_reducible refine (m3 _).trans ?_); rfl) | rfl)) | ((with_reducible refine go_l (x := ?_) (l := ?_) (c := ?_) ?_ ?_); rotate_left 3; (first | ((with_reducible refine (m _).trans ?_); rfl) | ((with_reducible refine (m1 _).trans ?_); rfl) | ((with_reducible refine (m2 _).trans ?_); rfl) | ((with_reducible refine (m3 _).trans ?_); rfl) | rfl)) | ((with_reducible refine go_p (x := ?_) ?_ ?_); rotate_left 1; (first | ((with_reducible refine (m _).trans ?_); rfl) | ((with_reducible refine (m1 _).trans ?_); rfl) | ((with_reducible refine (m2 _).trans ?_); rfl) | ((with_reducible refine (m3 _).trans ?_); rfl) | rfl)) | ((with_reducible refine go_halst rfl ?_ ?_ ?_); rfl; rfl) | (with_reducible refine go_halN rfl ?_) | (with_reducible refine go_t ed ?_) | (with_reducible refine go_f ed ?_) | ((with_reducible refine go_t ?_ ?_); (show _ = true; rfl)) | ((with_reducible refine go_f ?_ ?_); (show _ = false; rfl)) | (with_reducible refine go_ne ?_) | (with_reducible refine go_eq ?_) | (with_reducible refine go_fad ?_) | (with_reducible refine go_nil ?_))
      rfl
    · unfold wcl
      rw [hlen, show (b ++ [((val (t ++ [x]) : Nat) : Int)]).length = b.length + 1 from by simp]
      exact O9
    · rw [byt_app, show (b ++ [((val (t ++ [x]) : Nat) : Int)]).length = b.length + 1 from by simp]
      exact Bld.stp (Stp.of_but (q := none) B59) B4 (fun a ha => by cases ha; simp only; omega) (fun a b ha => by cases ha)
    · rw [B59.2 i (by omega) h1, s4 i (by omega) h2, B13.2 i hi h1]
theorem nWriter_eq {N : Nat} {H : Heap} (hN : N ≤ H.length) : ∃ H', (∀ (R : Type) (K : Option Addr → Heap → Option R), bitio_NewWriter H K = K (some ⟨H.length, 0, none⟩) H') ∧ Wr N H' H.length none [] ∧ Old H.length H H' ∧ H'.length = H.length + 1 := by
  refine ⟨H ++ [some ⟨[.bool true, .slice none 0 0, .int .u8 0, .int .i64 0, .int .i64 8, .int .i64 0], false, 0⟩], fun R K => rfl, ⟨⟨0, [], [], [], rfl, .nil, by decide, (show hblk _ _ = _ from hblk_new H _), Bld.nil _ _ _, by simp⟩, hN, (fun a ha => by cases ha), (fun x hx => by cases hx)⟩, Old.app _ _, by simp⟩
theorem ok_eq {N : Nat} {H : Heap} {p : Nat} {q : Option Addr} {l : List Int} (h : Wr N H p q l) : ∀ (R : Type) (K : Bool → Option R), bitio_Writer_ok (some ⟨p, 0, none⟩) H K = K true := by
  obtain ⟨c, b, pre, t, rfl, hF, ht, hO, hB, _⟩ := h.c
  have m : hcell H p 0 = some (.bool true) := hO.sees.cell 0
  intro R K
  unfold bitio_Writer_ok bitio_Writer_ok_b
  repeat (first | ((with_reducible refine go_ip (x := ?_) ?_ ?_); rotate_left 1; (first  | exact m | rfl)) | ((with_reducible refine go_bp (x := ?_) ?_ ?_); rotate_left 1; (first  | exact m | rfl)) | ((with_reducible refine go_lp (x := ?_) (l := ?_) (c := ?_) ?_ ?_); rotate_left 3; (first  | exact m | rfl)) | ((with_reducible refine go_pp (x := ?_) ?_ ?_); rotate_left 1; (first  | exact m | rfl)) | ((with_reducible refine go_i (x := ?_) ?_ ?_); rotate_left 1; (first  | exact m | rfl)) | ((with_reducible refine go_b (x := ?_) ?_ ?_); rotate_left 1; (first  | exact m | rfl)) | ((with_reducible refine go_l (x := ?_) (l := ?_) (c := ?_) ?_ ?_); rotate_left 3; (first  | exact m | rfl)) | ((with_reducible refine go_p (x := ?_) ?_ ?_); rotate_left 1; (first  | exact m | rfl)) | ((with_reducible refine go_halst rfl ?_ ?_ ?_); rfl; rfl) | (with_reducible refine go_halN rfl ?_) | ((with_reducible refine go_t ?_ ?_); (show _ = true; rfl)) | ((with_reducible refine go_f ?_ ?_); (show _ = false; rfl)) | (with_reducible refine go_ne ?_) | (with_reducible refine go_eq ?_) | (with_reducible refine go_fad ?_) | (with_reducible refine go_nil ?_))
  rfl
theorem len_eq {N : Nat} {H : Heap} {p : Nat} {q : Option Addr} {l : List Int} (h : Wr N H p q l) : ∀ (R : Type) (K : Int → Option R), bitio_Writer_Len (some ⟨p, 0, none⟩) H K = K ((l.length : Nat) : Int) := by
  have o := ok_eq h
  obtain ⟨c, b, pre, t, rfl, hF, ht, hO, hB, _⟩ := h.c
  have m : hcell H p 5 = some (.int .i64 (((pre ++ t).length : Nat) : Int)) := hO.sees.cell 5
  intro R K
  unfold bitio_Writer_Len bitio_Writer_Len_b
  repeat (first | (with_reducible refine (o _ _).trans ?_) | ((with_reducible refine go_ip (x := ?_) ?_ ?_); rotate_left 1; (first  | exact m | rfl)) | ((with_reducible refine go_bp (x := ?_) ?_ ?_); rotate_left 1; (first  | exact m | rfl)) | ((with_reducible refine go_lp (x := ?_) (l := ?_) (c := ?_) ?_ ?_); rotate_left 3; (first  | exact m | rfl)) | ((with_reducible refine go_pp (x := ?_) ?_ ?_); rotate_left 1; (first  | exact m | rfl)) | ((with_reducible refine go_i (x := ?_) ?_ ?_); rotate_left 1; (first  | exact m | rfl)) | ((with_reducible refine go_b (x := ?_) ?_ ?_); rotate_left 1; (first  | exact m | rfl)) | ((with_reducible refine go_l (x := ?_) (l := ?_) (c := ?_) ?_ ?_); rotate_left 3; (first  | exact m | rfl)) | ((with_reducible refine go_p (x := ?_) ?_ ?_); rotate_left 1; (first  | exact m | rfl)) | ((with_reducible refine go_halst rfl ?_ ?_ ?_); rfl; rfl) | (with_reducible refine go_halN rfl ?_) | ((with_reducible refine go_t ?_ ?_); (show _ = true; rfl)) | ((with_reducible refine go_f ?_ ?_); (show _ = false; rfl)) | (with_reducible refine go_ne ?_) | (with_reducible refine go_eq ?_) | (with_reducible refine go_fad ?_) | (with_reducible refine go_nil ?_))
  rfl
end Go.Proofs.Ytblkejnciinaeaa.Sh
