/- BitioNobody: the methods of nil and of things that the package did not return. -/
import Derived.Test.YtiapgcgpdndkiaaBtX
import Derived.Test.YtiapgcgpdndkiaaSh15
set_option linter.unusedVariables false
set_option linter.unusedSimpArgs false
namespace Go.Proofs.Ytiapgcgpdndkiaa.Sh
open Go.Proofs.Ytiapgcgpdndkiaa.FW Go.IntWalk
/-- A writer or a reader that is nil or bears no sign. -/
def NoW (H : Heap) (p : Option Addr) : Prop := p = none ∨ ∃ b, p = some ⟨b, 0, none⟩ ∧ hcell H b 0 = some (.bool false)
theorem NoW.wok {H : Heap} {p : Option Addr} (h : NoW H p) : ∀ (R : Type) (K : Bool → Option R), bitio_Writer_ok p H K = K false := by
  intro R K
  rcases h with rfl | ⟨b, rfl, m⟩
  · rfl
  · unfold bitio_Writer_ok bitio_Writer_ok_b
    repeat (first | ((with_reducible refine go_ip (x := ?_) ?_ ?_); rotate_left 1; (first  | exact m | rfl)) | ((with_reducible refine go_bp (x := ?_) ?_ ?_); rotate_left 1; (first  | exact m | rfl)) | ((with_reducible refine go_lp (x := ?_) (l := ?_) (c := ?_) ?_ ?_); rotate_left 3; (first  | exact m | rfl)) | ((with_reducible refine go_pp (x := ?_) ?_ ?_); rotate_left 1; (first  | exact m | rfl)) | ((with_reducible refine go_i (x := ?_) ?_ ?_); rotate_left 1; (first  | exact m | rfl)) | ((with_reducible refine go_b (x := ?_) ?_ ?_); rotate_left 1; (first  | exact m | rfl)) | ((with_reducible refine go_l (x := ?_) (l := ?_) (c := ?_) ?_ ?_); rotate_left 3; (first  | exact m | rfl)) | ((with_reducible refine go_p (x := ?_) ?_ ?_); rotate_left 1; (first  | exact m | rfl)) | ((with_reducible refine go_halst rfl ?_ ?_ ?_); rfl; rfl) | (with_reducible refine go_halN rfl ?_) | ((with_reducible refine go_t ?_ ?_); (show _ = true; rfl)) | ((with_reducible refine go_f ?_ ?_); (show _ = false; rfl)) | (with_reducible refine go_ne ?_) | (with_reducible refine go_eq ?_) | (with_reducible refine go_fad ?_) | (with_reducible refine go_nil ?_))
    rfl
theorem NoW.rok {H : Heap} {p : Option Addr} (h : NoW H p) : ∀ (R : Type) (K : Bool → Option R), bitio_Reader_ok p H K = K false := by
  intro R K
  rcases h with rfl | ⟨b, rfl, m⟩
  · rfl
  · unfold bitio_Reader_ok bitio_Reader_ok_b
    repeat (first | ((with_reducible refine go_ip (x := ?_) ?_ ?_); rotate_left 1; (first  | exact m | rfl)) | ((with_reducible refine go_bp (x := ?_) ?_ ?_); rotate_left 1; (first  | exact m | rfl)) | ((with_reducible refine go_lp (x := ?_) (l := ?_) (c := ?_) ?_ ?_); rotate_left 3; (first  | exact m | rfl)) | ((with_reducible refine go_pp (x := ?_) ?_ ?_); rotate_left 1; (first  | exact m | rfl)) | ((with_reducible refine go_i (x := ?_) ?_ ?_); rotate_left 1; (first  | exact m | rfl)) | ((with_reducible refine go_b (x := ?_) ?_ ?_); rotate_left 1; (first  | exact m | rfl)) | ((with_reducible refine go_l (x := ?_) (l := ?_) (c := ?_) ?_ ?_); rotate_left 3; (first  | exact m | rfl)) | ((with_reducible refine go_p (x := ?_) ?_ ?_); rotate_left 1; (first  | exact m | rfl)) | ((with_reducible refine go_halst rfl ?_ ?_ ?_); rfl; rfl) | (with_reducible refine go_halN rfl ?_) | ((with_reducible refine go_t ?_ ?_); (show _ = true; rfl)) | ((with_reducible refine go_f ?_ ?_); (show _ = false; rfl)) | (with_reducible refine go_ne ?_) | (with_reducible refine go_eq ?_) | (with_reducible refine go_fad ?_) | (with_reducible refine go_nil ?_))
    rfl
theorem NoW.keep {H H' : Heap} {p : Option Addr} (h : NoW H p) (o : Old H.length H H') : NoW H' p := by
  rcases h with rfl | ⟨b, rfl, m⟩
  · exact .inl rfl
  · refine .inr ⟨b, rfl, ?_⟩
    have hb : b < H.length := by
      rcases Nat.lt_or_ge b H.length with h | h
      · exact h
      · have : hblk H b = none := by
          cases hh : hblk H b with
          | none => rfl
          | some B => have := hblk_lt hh; omega
        unfold hcell at m; rw [this] at m; cases m
    unfold hcell at *; rw [o.2 b hb]; exact m
theorem NoW.only {H H' : Heap} {p : Option Addr} (h : NoW H p) (o : ∀ a, p = some a → hblk H' a.block = hblk H a.block) : NoW H' p := by
  rcases h with rfl | ⟨b, rfl, m⟩
  · exact .inl rfl
  · exact .inr ⟨b, rfl, by have := o _ rfl; unfold hcell at *; simp only at this; rw [this]; exact m⟩
theorem no_len {H : Heap} {p : Option Addr} (h : NoW H p) (R : Type) (K : Int → Option R) : bitio_Writer_Len p H K = K 0 := by
  have o := h.wok
  unfold bitio_Writer_Len bitio_Writer_Len_b
  repeat (first | (with_reducible refine (o _ _).trans ?_) | ((with_reducible refine go_ip (x := ?_) ?_ ?_); rotate_left 1; (first  | rfl)) | ((with_reducible refine go_bp (x := ?_) ?_ ?_); rotate_left 1; (first  | rfl)) | ((with_reducible refine go_lp (x := ?_) (l := ?_) (c := ?_) ?_ ?_); rotate_left 3; (first  | rfl)) | ((with_reducible refine go_pp (x := ?_) ?_ ?_); rotate_left 1; (first  | rfl)) | ((with_reducible refine go_i (x := ?_) ?_ ?_); rotate_left 1; (first  | rfl)) | ((with_reducible refine go_b (x := ?_) ?_ ?_); rotate_left 1; (first  | rfl)) | ((with_reducible refine go_l (x := ?_) (l := ?_) (c := ?_) ?_ ?_); rotate_left 3; (first  | rfl)) | ((with_reducible refine go_p (x := ?_) ?_ ?_); rotate_left 1; (first  | rfl)) | ((with_reducible refine go_halst rfl ?_ ?_ ?_); rfl; rfl) | (with_reducible refine go_halN rfl ?_) | ((with_reducible refine go_t ?_ ?_); (show _ = true; rfl)) | ((with_reducible refine go_f ?_ ?_); (show _ = false; rfl)) | (with_reducible refine go_ne ?_) | (with_reducible refine go_eq ?_) | (with_reducible refine go_fad ?_) | (with_reducible refine go_nil ?_))
  rfl
theorem no_bytes (k : Nat) {H : Heap} {p : Option Addr} (h : NoW H p) (R : Type) (K : Option Addr → Nat → Nat → Heap → Option R) : bitio_Writer_Bytes k p H K = K none 0 0 H := by
  have o := h.wok
  unfold bitio_Writer_Bytes bitio_Writer_Bytes_b
  repeat (first | (with_reducible refine (o _ _).trans ?_) | ((with_reducible refine go_ip (x := ?_) ?_ ?_); rotate_left 1; (first  | rfl)) | ((with_reducible refine go_bp (x := ?_) ?_ ?_); rotate_left 1; (first  | rfl)) | ((with_reducible refine go_lp (x := ?_) (l := ?_) (c := ?_) ?_ ?_); rotate_left 3; (first  | rfl)) | ((with_reducible refine go_pp (x := ?_) ?_ ?_); rotate_left 1; (first  | rfl)) | ((with_reducible refine go_i (x := ?_) ?_ ?_); rotate_left 1; (first  | rfl)) | ((with_reducible refine go_b (x := ?_) ?_ ?_); rotate_left 1; (first  | rfl)) | ((with_reducible refine go_l (x := ?_) (l := ?_) (c := ?_) ?_ ?_); rotate_left 3; (first  | rfl)) | ((with_reducible refine go_p (x := ?_) ?_ ?_); rotate_left 1; (first  | rfl)) | ((with_reducible refine go_halst rfl ?_ ?_ ?_); rfl; rfl) | (with_reducible refine go_halN rfl ?_) | ((with_reducible refine go_t ?_ ?_); (show _ = true; rfl)) | ((with_reducible refine go_f ?_ ?_); (show _ = false; rfl)) | (with_reducible refine go_ne ?_) | (with_reducible refine go_eq ?_) | (with_reducible refine go_fad ?_) | (with_reducible refine go_nil ?_))
  rfl
theorem no_write (k : Nat) {H : Heap} {p : Option Addr} (h : NoW H p) (a v n : Int) (ha : 0 ≤ a) (ha2 : a ≤ 3) : ∃ H', (∀ (R : Type) (K : Int → Heap → Option R), L_write k p a v n H K = K 6 H') ∧ Old H.length H H' := by
  obtain ⟨Hn, hHn⟩ : ∃ Hn, Hn = H ++ [some ⟨[.int .i64 a, .int .i64 v, .int .i64 n], false, 0⟩] := ⟨_, rfl⟩
  have o1 : Old H.length H Hn := hHn ▸ Old.app _ _
  have m : ∀ i, hcell Hn H.length i = [Value.int .i64 a, .int .i64 v, .int .i64 n][i]? := fun i => by rw [hHn]; exact hcell_new _ _ _
  have o := (h.keep o1).wok
  refine ⟨Hn, fun R K => ?_, o1⟩
  unfold L_write L_write_b bitio_Writer_Put bitio_Writer_Put_b bitio_Writer_Bits bitio_Writer_Bits_b bitio_Writer_Gamma bitio_Writer_Gamma_b bitio_Writer_Unary bitio_Writer_Unary_b
  by_cases c0 : a = 0
  · have d0 : (a == 0) = true := by rw [c0]; rfl
    repeat (first | (with_reducible refine (o _ _).trans ?_) | ((with_reducible refine go_ip (x := ?_) ?_ ?_); rotate_left 1; (first | ((with_reducible refine (m _).trans ?_); rfl) | rfl)) | ((with_reducible refine go_bp (x := ?_) ?_ ?_); rotate_left 1; (first | ((with_reducible refine (m _).trans ?_); rfl) | rfl)) | ((with_reducible refine go_lp (x := ?_) (l := ?_) (c := ?_) ?_ ?_); rotate_left 3; (first | ((with_reducible refine (m _).trans ?_); rfl) | rfl)) | ((with_reducible refine go_pp (x := ?_) ?_ ?_); rotate_left 1; (first | ((with_reducible refine (m _).trans ?_); rfl) | rfl)) | ((with_reducible refine go_i (x := ?_) ?_ ?_); rotate_left 1; (first | ((with_reducible refine (m _).trans ?_); rfl) | rfl)) | ((with_reducible refine go_b (x := ?_) ?_ ?_); rotate_left 1; (first | ((with_reducible refine (m _).trans ?_); rfl) | rfl)) | ((with_reducible refine go_l (x := ?_) (l := ?_) (c := ?_) ?_ ?_); rotate_left 3; (first | ((with_reducible refine (m _).trans ?_); rfl) | rfl)) | ((with_reducible refine go_p (x := ?_) ?_ ?_); rotate_left 1; (first | ((with_reducible refine (m _).trans ?_); rfl) | rfl)) | ((with_reducible refine go_halst hHn ?_ ?_ ?_); rfl; rfl) | (with_reducible refine go_halN hHn ?_) | (with_reducible refine go_t d0 ?_) | (with_reducible refine go_f d0 ?_) | ((with_reducible refine go_t ?_ ?_); (show _ = true; rfl)) | ((with_reducible refine go_f ?_ ?_); (show _ = false; rfl)) | (with_reducible refine go_ne ?_) | (with_reducible refine go_eq ?_) | (with_reducible refine go_fad ?_) | (with_reducible refine go_nil ?_))
    rfl
  have d0 : (a == 0) = false := by simpa using c0
  by_cases c1 : a = 1
  · have d1 : (a == 1) = true := by rw [c1]; rfl
    repeat (first | (with_reducible refine (o _ _).trans ?_) | ((with_reducible refine go_ip (x := ?_) ?_ ?_); rotate_left 1; (first | ((with_reducible refine (m _).trans ?_); rfl) | rfl)) | ((with_reducible refine go_bp (x := ?_) ?_ ?_); rotate_left 1; (first | ((with_reducible refine (m _).trans ?_); rfl) | rfl)) | ((with_reducible refine go_lp (x := ?_) (l := ?_) (c := ?_) ?_ ?_); rotate_left 3; (first | ((with_reducible refine (m _).trans ?_); rfl) | rfl)) | ((with_reducible refine go_pp (x := ?_) ?_ ?_); rotate_left 1; (first | ((with_reducible refine (m _).trans ?_); rfl) | rfl)) | ((with_reducible refine go_i (x := ?_) ?_ ?_); rotate_left 1; (first | ((with_reducible refine (m _).trans ?_); rfl) | rfl)) | ((with_reducible refine go_b (x := ?_) ?_ ?_); rotate_left 1; (first | ((with_reducible refine (m _).trans ?_); rfl) | rfl)) | ((with_reducible refine go_l (x := ?_) (l := ?_) (c := ?_) ?_ ?_); rotate_left 3; (first | ((with_reducible refine (m _).trans ?_); rfl) | rfl)) | ((with_reducible refine go_p (x := ?_) ?_ ?_); rotate_left 1; (first | ((with_reducible refine (m _).trans ?_); rfl) | rfl)) | ((with_reducible refine go_halst hHn ?_ ?_ ?_); rfl; rfl) | (with_reducible refine go_halN hHn ?_) | (with_reducible refine go_t d0 ?_) | (with_reducible refine go_f d0 ?_) | (with_reducible refine go_t d1 ?_) | (with_reducible refine go_f d1 ?_) | ((with_reducible refine go_t ?_ ?_); (show _ = true; rfl)) | ((with_reducible refine go_f ?_ ?_); (show _ = false; rfl)) | (with_reducible refine go_ne ?_) | (with_reducible refine go_eq ?_) | (with_reducible refine go_fad ?_) | (with_reducible refine go_nil ?_))
    rfl
  have d1 : (a == 1) = false := by simpa using c1
  by_cases c2 : a = 2
  · have d2 : (a == 2) = true := by rw [c2]; rfl
    repeat (first | (with_reducible refine (o _ _).trans ?_) | ((with_reducible refine go_ip (x := ?_) ?_ ?_); rotate_left 1; (first | ((with_reducible refine (m _).trans ?_); rfl) | rfl)) | ((with_reducible refine go_bp (x := ?_) ?_ ?_); rotate_left 1; (first | ((with_reducible refine (m _).trans ?_); rfl) | rfl)) | ((with_reducible refine go_lp (x := ?_) (l := ?_) (c := ?_) ?_ ?_); rotate_left 3; (first | ((with_reducible refine (m _).trans ?_); rfl) | rfl)) | ((with_reducible refine go_pp (x := ?_) ?_ ?_); rotate_left 1; (first | ((with_reducible refine (m _).trans ?_); rfl) | rfl)) | ((with_reducible refine go_i (x := ?_) ?_ ?_); rotate_left 1; (first | ((with_reducible refine (m _).trans ?_); rfl) | rfl)) | ((with_reducible refine go_b (x := ?_) ?_ ?_); rotate_left 1; (first | ((with_reducible refine (m _).trans ?_); rfl) | rfl)) | ((with_reducible refine go_l (x := ?_) (l := ?_) (c := ?_) ?_ ?_); rotate_left 3; (first | ((with_reducible refine (m _).trans ?_); rfl) | rfl)) | ((with_reducible refine go_p (x := ?_) ?_ ?_); rotate_left 1; (first | ((with_reducible refine (m _).trans ?_); rfl) | rfl)) | ((with_reducible refine go_halst hHn ?_ ?_ ?_); rfl; rfl) | (with_reducible refine go_halN hHn ?_) | (with_reducible refine go_t d0 ?_) | (with_reducible refine go_f d0 ?_) | (with_reducible refine go_t d1 ?_) | (with_reducible refine go_f d1 ?_) | (with_reducible refine go_t d2 ?_) | (with_reducible refine go_f d2 ?_) | ((with_reducible refine go_t ?_ ?_); (show _ = true; rfl)) | ((with_reducible refine go_f ?_ ?_); (show _ = false; rfl)) | (with_reducible refine go_ne ?_) | (with_reducible refine go_eq ?_) | (with_reducible refine go_fad ?_) | (with_reducible refine go_nil ?_))
    rfl
  have d2 : (a == 2) = false := by simpa using c2
  have d3 : (a == 3) = true := by rw [beq_iff_eq]; omega
  repeat (first | (with_reducible refine (o _ _).trans ?_) | ((with_reducible refine go_ip (x := ?_) ?_ ?_); rotate_left 1; (first | ((with_reducible refine (m _).trans ?_); rfl) | rfl)) | ((with_reducible refine go_bp (x := ?_) ?_ ?_); rotate_left 1; (first | ((with_reducible refine (m _).trans ?_); rfl) | rfl)) | ((with_reducible refine go_lp (x := ?_) (l := ?_) (c := ?_) ?_ ?_); rotate_left 3; (first | ((with_reducible refine (m _).trans ?_); rfl) | rfl)) | ((with_reducible refine go_pp (x := ?_) ?_ ?_); rotate_left 1; (first | ((with_reducible refine (m _).trans ?_); rfl) | rfl)) | ((with_reducible refine go_i (x := ?_) ?_ ?_); rotate_left 1; (first | ((with_reducible refine (m _).trans ?_); rfl) | rfl)) | ((with_reducible refine go_b (x := ?_) ?_ ?_); rotate_left 1; (first | ((with_reducible refine (m _).trans ?_); rfl) | rfl)) | ((with_reducible refine go_l (x := ?_) (l := ?_) (c := ?_) ?_ ?_); rotate_left 3; (first | ((with_reducible refine (m _).trans ?_); rfl) | rfl)) | ((with_reducible refine go_p (x := ?_) ?_ ?_); rotate_left 1; (first | ((with_reducible refine (m _).trans ?_); rfl) | rfl)) | ((with_reducible refine go_halst hHn ?_ ?_ ?_); rfl; rfl) | (with_reducible refine go_halN hHn ?_) | (with_reducible refine go_t d0 ?_) | (with_reducible refine go_f d0 ?_) | (with_reducible refine go_t d1 ?_) | (with_reducible refine go_f d1 ?_) | (with_reducible refine go_t d2 ?_) | (with_reducible refine go_f d2 ?_) | (with_reducible refine go_t d3 ?_) | (with_reducible refine go_f d3 ?_) | ((with_reducible refine go_t ?_ ?_); (show _ = true; rfl)) | ((with_reducible refine go_f ?_ ?_); (show _ = false; rfl)) | (with_reducible refine go_ne ?_) | (with_reducible refine go_eq ?_) | (with_reducible refine go_fad ?_) | (with_reducible refine go_nil ?_))
  rfl
theorem no_read (k : Nat) {H : Heap} {p : Option Addr} (h : NoW H p) (a v n : Int) (ha : 0 ≤ a) (ha2 : a ≤ 4) : ∃ H', (∀ (R : Type) (K : Int → Int → Heap → Option R), L_read k p a v n H K = K 0 6 H') ∧ Old H.length H H' := by
  obtain ⟨Hn, hHn⟩ : ∃ Hn, Hn = H ++ [some ⟨[.int .i64 a, .int .i64 v, .int .i64 n], false, 0⟩] := ⟨_, rfl⟩
  have o1 : Old H.length H Hn := hHn ▸ Old.app _ _
  have m : ∀ i, hcell Hn H.length i = [Value.int .i64 a, .int .i64 v, .int .i64 n][i]? := fun i => by rw [hHn]; exact hcell_new _ _ _
  have h1 := h.keep o1
  have o := h1.rok
  obtain ⟨Hp, hHp⟩ : ∃ Hp, Hp = Hn ++ [some ⟨[.pointer p], false, 0⟩] := ⟨_, rfl⟩
  have op : Old Hn.length Hn Hp := hHp ▸ Old.app _ _
  have h2 := h1.keep op
  have oP := h2.rok
  have Op : Owns Hp Hn.length [.pointer p] 0 := by rw [hHp]; exact hblk_new Hn _
  have mp : hcell Hp Hn.length 0 = some (.pointer p) := Op.sees.cell 0
  obtain ⟨Hq, hHq⟩ : ∃ Hq, Hq = Hp ++ [some ⟨[.int .i64 n], false, 0⟩] := ⟨_, rfl⟩
  have oq : Old Hp.length Hp Hq := hHq ▸ Old.app _ _
  have oQ := (h2.keep oq).rok
  have mq : hcell Hq Hn.length 0 = some (.pointer p) := (Op.old oq Op.lt).sees.cell 0
  have o1p := o1.trans (op.mono o1.1)
  have o1q := o1p.trans (oq.mono o1p.1)
  by_cases c0 : a = 0
  · have d0 : (a == 0) = true := by rw [c0]; rfl
    refine ⟨Hn, fun R K => ?_, o1⟩
    unfold L_read L_read_b bitio_Reader_Get bitio_Reader_Get_b
    repeat (first | (with_reducible refine (o _ _).trans ?_) | ((with_reducible refine go_ip (x := ?_) ?_ ?_); rotate_left 1; (first | ((with_reducible refine (m _).trans ?_); rfl) | rfl)) | ((with_reducible refine go_bp (x := ?_) ?_ ?_); rotate_left 1; (first | ((with_reducible refine (m _).trans ?_); rfl) | rfl)) | ((with_reducible refine go_lp (x := ?_) (l := ?_) (c := ?_) ?_ ?_); rotate_left 3; (first | ((with_reducible refine (m _).trans ?_); rfl) | rfl)) | ((with_reducible refine go_pp (x := ?_) ?_ ?_); rotate_left 1; (first | ((with_reducible refine (m _).trans ?_); rfl) | rfl)) | ((with_reducible refine go_i (x := ?_) ?_ ?_); rotate_left 1; (first | ((with_reducible refine (m _).trans ?_); rfl) | rfl)) | ((with_reducible refine go_b (x := ?_) ?_ ?_); rotate_left 1; (first | ((with_reducible refine (m _).trans ?_); rfl) | rfl)) | ((with_reducible refine go_l (x := ?_) (l := ?_) (c := ?_) ?_ ?_); rotate_left 3; (first | ((with_reducible refine (m _).trans ?_); rfl) | rfl)) | ((with_reducible refine go_p (x := ?_) ?_ ?_); rotate_left 1; (first | ((with_reducible refine (m _).trans ?_); rfl) | rfl)) | ((with_reducible refine go_halst hHn ?_ ?_ ?_); rfl; rfl) | (with_reducible refine go_halN hHn ?_) | (with_reducible refine go_t d0 ?_) | (with_reducible refine go_f d0 ?_) | ((with_reducible refine go_t ?_ ?_); (show _ = true; rfl)) | ((with_reducible refine go_f ?_ ?_); (show _ = false; rfl)) | (with_reducible refine go_ne ?_) | (with_reducible refine go_eq ?_) | (with_reducible refine go_fad ?_) | (with_reducible refine go_nil ?_))
    rfl
  have d0 : (a == 0) = false := by simpa using c0
  by_cases c1 : a = 1
  · have d1 : (a == 1) = true := by rw [c1]; rfl
    refine ⟨Hq, fun R K => ?_, o1q⟩
    unfold L_read L_read_b bitio_Reader_Bits bitio_Reader_Bits_b
    repeat (first | (with_reducible refine (oQ _ _).trans ?_) | ((with_reducible refine go_ip (x := ?_) ?_ ?_); rotate_left 1; (first | ((with_reducible refine (m _).trans ?_); rfl) | exact mq | rfl)) | ((with_reducible refine go_bp (x := ?_) ?_ ?_); rotate_left 1; (first | ((with_reducible refine (m _).trans ?_); rfl) | exact mq | rfl)) | ((with_reducible refine go_lp (x := ?_) (l := ?_) (c := ?_) ?_ ?_); rotate_left 3; (first | ((with_reducible refine (m _).trans ?_); rfl) | exact mq | rfl)) | ((with_reducible refine go_pp (x := ?_) ?_ ?_); rotate_left 1; (first | ((with_reducible refine (m _).trans ?_); rfl) | exact mq | rfl)) | ((with_reducible refine go_i (x := ?_) ?_ ?_); rotate_left 1; (first | ((with_reducible refine (m _).trans ?_); rfl) | exact mq | rfl)) | ((with_reducible refine go_b (x := ?_) ?_ ?_); rotate_left 1; (first | ((with_reducible refine (m _).trans ?_); rfl) | exact mq | rfl)) | ((with_reducible refine go_l (x := ?_) (l := ?_) (c := ?_) ?_ ?_); rotate_left 3; (first | ((with_reducible refine (m _).trans ?_); rfl) | exact mq | rfl)) | ((with_reducible refine go_p (x := ?_) ?_ ?_); rotate_left 1; (first | ((with_reducible refine (m _).trans ?_); rfl) | exact mq | rfl)) | ((with_reducible refine go_halst hHn ?_ ?_ ?_); rfl; rfl) | (with_reducible refine go_halN hHn ?_) | ((with_reducible refine go_halst hHp ?_ ?_ ?_); rfl; rfl) | (with_reducible refine go_halN hHp ?_) | ((with_reducible refine go_halst hHq ?_ ?_ ?_); rfl; rfl) | (with_reducible refine go_halN hHq ?_) | (with_reducible refine go_t d0 ?_) | (with_reducible refine go_f d0 ?_) | (with_reducible refine go_t d1 ?_) | (with_reducible refine go_f d1 ?_) | ((with_reducible refine go_t ?_ ?_); (show _ = true; rfl)) | ((with_reducible refine go_f ?_ ?_); (show _ = false; rfl)) | (with_reducible refine go_ne ?_) | (with_reducible refine go_eq ?_) | (with_reducible refine go_fad ?_) | (with_reducible refine go_nil ?_))
    rfl
  have d1 : (a == 1) = false := by simpa using c1
  by_cases c2 : a = 2
  · have d2 : (a == 2) = true := by rw [c2]; rfl
    refine ⟨Hp, fun R K => ?_, o1p⟩
    unfold L_read L_read_b bitio_Reader_Gamma bitio_Reader_Gamma_b
    repeat (first | (with_reducible refine (oP _ _).trans ?_) | ((with_reducible refine go_ip (x := ?_) ?_ ?_); rotate_left 1; (first | ((with_reducible refine (m _).trans ?_); rfl) | exact mp | rfl)) | ((with_reducible refine go_bp (x := ?_) ?_ ?_); rotate_left 1; (first | ((with_reducible refine (m _).trans ?_); rfl) | exact mp | rfl)) | ((with_reducible refine go_lp (x := ?_) (l := ?_) (c := ?_) ?_ ?_); rotate_left 3; (first | ((with_reducible refine (m _).trans ?_); rfl) | exact mp | rfl)) | ((with_reducible refine go_pp (x := ?_) ?_ ?_); rotate_left 1; (first | ((with_reducible refine (m _).trans ?_); rfl) | exact mp | rfl)) | ((with_reducible refine go_i (x := ?_) ?_ ?_); rotate_left 1; (first | ((with_reducible refine (m _).trans ?_); rfl) | exact mp | rfl)) | ((with_reducible refine go_b (x := ?_) ?_ ?_); rotate_left 1; (first | ((with_reducible refine (m _).trans ?_); rfl) | exact mp | rfl)) | ((with_reducible refine go_l (x := ?_) (l := ?_) (c := ?_) ?_ ?_); rotate_left 3; (first | ((with_reducible refine (m _).trans ?_); rfl) | exact mp | rfl)) | ((with_reducible refine go_p (x := ?_) ?_ ?_); rotate_left 1; (first | ((with_reducible refine (m _).trans ?_); rfl) | exact mp | rfl)) | ((with_reducible refine go_halst hHn ?_ ?_ ?_); rfl; rfl) | (with_reducible refine go_halN hHn ?_) | ((with_reducible refine go_halst hHp ?_ ?_ ?_); rfl; rfl) | (with_reducible refine go_halN hHp ?_) | (with_reducible refine go_t d0 ?_) | (with_reducible refine go_f d0 ?_) | (with_reducible refine go_t d1 ?_) | (with_reducible refine go_f d1 ?_) | (with_reducible refine go_t d2 ?_) | (with_reducible refine go_f d2 ?_) | ((with_reducible refine go_t ?_ ?_); (show _ = true; rfl)) | ((with_reducible refine go_f ?_ ?_); (show _ = false; rfl)) | (with_reducible refine go_ne ?_) | (with_reducible refine go_eq ?_) | (with_reducible refine go_fad ?_) | (with_reducible refine go_nil ?_))
    rfl
  have d2 : (a == 2) = false := by simpa using c2
  by_cases c3 : a = 3
  · have d3 : (a == 3) = true := by rw [c3]; rfl
    refine ⟨Hq, fun R K => ?_, o1q⟩
    unfold L_read L_read_b bitio_Reader_Unary bitio_Reader_Unary_b
    repeat (first | (with_reducible refine (oQ _ _).trans ?_) | ((with_reducible refine go_ip (x := ?_) ?_ ?_); rotate_left 1; (first | ((with_reducible refine (m _).trans ?_); rfl) | exact mq | rfl)) | ((with_reducible refine go_bp (x := ?_) ?_ ?_); rotate_left 1; (first | ((with_reducible refine (m _).trans ?_); rfl) | exact mq | rfl)) | ((with_reducible refine go_lp (x := ?_) (l := ?_) (c := ?_) ?_ ?_); rotate_left 3; (first | ((with_reducible refine (m _).trans ?_); rfl) | exact mq | rfl)) | ((with_reducible refine go_pp (x := ?_) ?_ ?_); rotate_left 1; (first | ((with_reducible refine (m _).trans ?_); rfl) | exact mq | rfl)) | ((with_reducible refine go_i (x := ?_) ?_ ?_); rotate_left 1; (first | ((with_reducible refine (m _).trans ?_); rfl) | exact mq | rfl)) | ((with_reducible refine go_b (x := ?_) ?_ ?_); rotate_left 1; (first | ((with_reducible refine (m _).trans ?_); rfl) | exact mq | rfl)) | ((with_reducible refine go_l (x := ?_) (l := ?_) (c := ?_) ?_ ?_); rotate_left 3; (first | ((with_reducible refine (m _).trans ?_); rfl) | exact mq | rfl)) | ((with_reducible refine go_p (x := ?_) ?_ ?_); rotate_left 1; (first | ((with_reducible refine (m _).trans ?_); rfl) | exact mq | rfl)) | ((with_reducible refine go_halst hHn ?_ ?_ ?_); rfl; rfl) | (with_reducible refine go_halN hHn ?_) | ((with_reducible refine go_halst hHp ?_ ?_ ?_); rfl; rfl) | (with_reducible refine go_halN hHp ?_) | ((with_reducible refine go_halst hHq ?_ ?_ ?_); rfl; rfl) | (with_reducible refine go_halN hHq ?_) | (with_reducible refine go_t d0 ?_) | (with_reducible refine go_f d0 ?_) | (with_reducible refine go_t d1 ?_) | (with_reducible refine go_f d1 ?_) | (with_reducible refine go_t d2 ?_) | (with_reducible refine go_f d2 ?_) | (with_reducible refine go_t d3 ?_) | (with_reducible refine go_f d3 ?_) | ((with_reducible refine go_t ?_ ?_); (show _ = true; rfl)) | ((with_reducible refine go_f ?_ ?_); (show _ = false; rfl)) | (with_reducible refine go_ne ?_) | (with_reducible refine go_eq ?_) | (with_reducible refine go_fad ?_) | (with_reducible refine go_nil ?_))
    rfl
  have d3 : (a == 3) = false := by simpa using c3
  have d4 : (a == 4) = true := by rw [beq_iff_eq]; omega
  refine ⟨Hn, fun R K => ?_, o1⟩
  unfold L_read L_read_b bitio_Reader_Align bitio_Reader_Align_b
  repeat (first | (with_reducible refine (o _ _).trans ?_) | ((with_reducible refine go_ip (x := ?_) ?_ ?_); rotate_left 1; (first | ((with_reducible refine (m _).trans ?_); rfl) | rfl)) | ((with_reducible refine go_bp (x := ?_) ?_ ?_); rotate_left 1; (first | ((with_reducible refine (m _).trans ?_); rfl) | rfl)) | ((with_reducible refine go_lp (x := ?_) (l := ?_) (c := ?_) ?_ ?_); rotate_left 3; (first | ((with_reducible refine (m _).trans ?_); rfl) | rfl)) | ((with_reducible refine go_pp (x := ?_) ?_ ?_); rotate_left 1; (first | ((with_reducible refine (m _).trans ?_); rfl) | rfl)) | ((with_reducible refine go_i (x := ?_) ?_ ?_); rotate_left 1; (first | ((with_reducible refine (m _).trans ?_); rfl) | rfl)) | ((with_reducible refine go_b (x := ?_) ?_ ?_); rotate_left 1; (first | ((with_reducible refine (m _).trans ?_); rfl) | rfl)) | ((with_reducible refine go_l (x := ?_) (l := ?_) (c := ?_) ?_ ?_); rotate_left 3; (first | ((with_reducible refine (m _).trans ?_); rfl) | rfl)) | ((with_reducible refine go_p (x := ?_) ?_ ?_); rotate_left 1; (first | ((with_reducible refine (m _).trans ?_); rfl) | rfl)) | ((with_reducible refine go_halst hHn ?_ ?_ ?_); rfl; rfl) | (with_reducible refine go_halN hHn ?_) | (with_reducible refine go_t d0 ?_) | (with_reducible refine go_f d0 ?_) | (with_reducible refine go_t d1 ?_) | (with_reducible refine go_f d1 ?_) | (with_reducible refine go_t d2 ?_) | (with_reducible refine go_f d2 ?_) | (with_reducible refine go_t d3 ?_) | (with_reducible refine go_f d3 ?_) | (with_reducible refine go_t d4 ?_) | (with_reducible refine go_f d4 ?_) | ((with_reducible refine go_t ?_ ?_); (show _ = true; rfl)) | ((with_reducible refine go_f ?_ ?_); (show _ = false; rfl)) | (with_reducible refine go_ne ?_) | (with_reducible refine go_eq ?_) | (with_reducible refine go_fad ?_) | (with_reducible refine go_nil ?_))
  rfl
/-- A bit mask of any integer lies between zero and the mask. -/
theorem and_mask (a : Int) (m : Nat) (hm : m < 2 ^ 62) : ∃ x : Nat, x ≤ m ∧ ∀ (R : Type) (K : Int → Option R), hbin .and .i64 a (m : Int) K = K (x : Int) := by
  refine ⟨(BitVec.ofInt 64 a &&& BitVec.ofInt 64 (m : Int)).toNat, ?_, fun R K => ?_⟩
  · rw [BitVec.ofInt_natCast, BitVec.toNat_and, BitVec.toNat_ofNat, Nat.mod_eq_of_lt (by omega)]
    exact Nat.and_le_right
  · have l : (BitVec.ofInt 64 a &&& BitVec.ofInt 64 (m : Int)).toNat ≤ m := by
      rw [BitVec.ofInt_natCast, BitVec.toNat_and, BitVec.toNat_ofNat, Nat.mod_eq_of_lt (by omega)]
      exact Nat.and_le_right
    show K (IntKind.i64.wrap ((BitVec.ofInt 64 a &&& BitVec.ofInt 64 (m : Int)).toNat : Int)) = _
    generalize (BitVec.ofInt 64 a &&& BitVec.ofInt 64 (m : Int)).toNat = x at l ⊢
    rw [w64 (by omega) (by omega)]
theorem nobody_run (k : Nat) (a v n : Int) (z : Bool) (H : Heap) : L_BitioNobody k a v n z H (fun t H => asB (.bool t) H) = some true := by
  obtain ⟨H1, hH1⟩ : ∃ H1, H1 = H ++ [some ⟨[.int .i64 a, .int .i64 v, .int .i64 n], false, 0⟩] := ⟨_, rfl⟩
  have O1 : Owns H1 H.length [.int .i64 a, .int .i64 v, .int .i64 n] 0 := by rw [hH1]; exact hblk_new H _
  obtain ⟨pw, pr, H2, e2, o2, W2, R2, hpw, hpr⟩ : ∃ pw pr H2, (∀ (R : Type) (KN : Option Addr → Option Addr → Option Addr → Heap → Option R), L_BitioNobody_p0 k z (some ⟨H.length, 0, none⟩) none none H1 KN = KN (some ⟨H.length, 0, none⟩) pw pr H2) ∧ Old H1.length H1 H2 ∧ NoW H2 pw ∧ NoW H2 pr ∧ (∀ a, pw = some a → H1.length ≤ a.block ∧ a.block < H2.length) ∧ (∀ a, pr = some a → H1.length ≤ a.block ∧ a.block < H2.length) := by
    cases z with
    | false => exact ⟨none, none, H1, fun R KN => rfl, .refl _ _, .inl rfl, .inl rfl, (fun a ha => by cases ha), (fun a ha => by cases ha)⟩
    | true =>
      obtain ⟨Ha, hHa⟩ : ∃ Ha, Ha = H1 ++ [some ⟨[.bool false, .slice none 0 0, .int .u8 0, .int .i64 0, .int .i64 0, .int .i64 0], false, 0⟩] := ⟨_, rfl⟩
      obtain ⟨Hb, hHb⟩ : ∃ Hb, Hb = Ha ++ [some ⟨[.bool false, .slice none 0 0, .int .i64 0, .int .i64 0], false, 0⟩] := ⟨_, rfl⟩
      have oa : Old H1.length H1 Ha := hHa ▸ Old.app _ _
      have ob : Old Ha.length Ha Hb := hHb ▸ Old.app _ _
      have Oa : Owns Ha H1.length [.bool false, .slice none 0 0, .int .u8 0, .int .i64 0, .int .i64 0, .int .i64 0] 0 := by rw [hHa]; exact hblk_new H1 _
      have Ob : Owns Hb Ha.length [.bool false, .slice none 0 0, .int .i64 0, .int .i64 0] 0 := by rw [hHb]; exact hblk_new Ha _
      refine ⟨some ⟨H1.length, 0, none⟩, some ⟨Ha.length, 0, none⟩, Hb, fun R KN => ?_, oa.trans (ob.mono oa.1), .inr ⟨_, rfl, (Oa.old ob Oa.lt).sees.cell 0⟩, .inr ⟨_, rfl, Ob.sees.cell 0⟩, (fun a ha => by cases ha; simp only; have := Oa.lt; have := ob.1; omega), (fun a ha => by cases ha; simp only; have := Ob.lt; have := oa.1; omega)⟩
      unfold L_BitioNobody_p0 L_BitioNobody_p0_b
      repeat (first | ((with_reducible refine go_ip (x := ?_) ?_ ?_); rotate_left 1; (first  | rfl)) | ((with_reducible refine go_bp (x := ?_) ?_ ?_); rotate_left 1; (first  | rfl)) | ((with_reducible refine go_lp (x := ?_) (l := ?_) (c := ?_) ?_ ?_); rotate_left 3; (first  | rfl)) | ((with_reducible refine go_pp (x := ?_) ?_ ?_); rotate_left 1; (first  | rfl)) | ((with_reducible refine go_i (x := ?_) ?_ ?_); rotate_left 1; (first  | rfl)) | ((with_reducible refine go_b (x := ?_) ?_ ?_); rotate_left 1; (first  | rfl)) | ((with_reducible refine go_l (x := ?_) (l := ?_) (c := ?_) ?_ ?_); rotate_left 3; (first  | rfl)) | ((with_reducible refine go_p (x := ?_) ?_ ?_); rotate_left 1; (first  | rfl)) | ((with_reducible refine go_halst hHa ?_ ?_ ?_); rfl; rfl) | (with_reducible refine go_halN hHa ?_) | ((with_reducible refine go_halst hHb ?_ ?_ ?_); rfl; rfl) | (with_reducible refine go_halN hHb ?_) | ((with_reducible refine go_t ?_ ?_); (show _ = true; rfl)) | ((with_reducible refine go_f ?_ ?_); (show _ = false; rfl)) | (with_reducible refine go_ne ?_) | (with_reducible refine go_eq ?_) | (with_reducible refine go_fad ?_) | (with_reducible refine go_nil ?_))
      rfl
  have O2 := O1.old o2 O1.lt
  obtain ⟨H3, e3, m3, r3, b3, n3⟩ := frz_own (o := 0) (s := none) O2
  -- the two copies, filled
  obtain ⟨H4, hH4⟩ : ∃ H4, H4 = H3 ++ [some ⟨[.int .i64 0, .int .i64 0, .int .i64 0], false, 0⟩] := ⟨_, rfl⟩
  obtain ⟨H5, hH5⟩ : ∃ H5, H5 = H4 ++ [some ⟨[.int .i64 0, .int .i64 0, .int .i64 0], false, 0⟩] := ⟨_, rfl⟩
  have o4 : Old H3.length H3 H4 := hH4 ▸ Old.app _ _
  have o5 : Old H4.length H4 H5 := hH5 ▸ Old.app _ _
  have n4 : H4.length = H3.length + 1 := by rw [hH4]; simp
  have n5 : H5.length = H4.length + 1 := by rw [hH5]; simp
  have Oa5 : Owns H5 H3.length [.int .i64 0, .int .i64 0, .int .i64 0] 0 := by
    have : Owns H4 H3.length [.int .i64 0, .int .i64 0, .int .i64 0] 0 := by rw [hH4]; exact hblk_new H3 _
    exact this.old o5 this.lt
  have Ob5 : Owns H5 H4.length [.int .i64 0, .int .i64 0, .int .i64 0] 0 := by rw [hH5]; exact hblk_new H4 _
  obtain ⟨H6, e6, Oa6, b6, n6⟩ := Owns.st (vs := [.int .i64 a, .int .i64 v, .int .i64 n]) Oa5 rfl rfl
  have Ob6 := Ob5.but b6 (by omega)
  obtain ⟨H7, e7, Ob7, b7, n7⟩ := Owns.st (vs := [.int .i64 a, .int .i64 v, .int .i64 n]) Ob6 rfl rfl
  have Oa7 := Oa6.but b7 (by omega)
  have hlt3 : H.length < H3.length := by have := O2.lt; omega
  have hb7 : hblk H7 H.length = hblk H3 H.length := by
    rw [b7.2 _ (by omega) (by omega), b6.2 _ (by omega) (by omega), o5.2 _ (by omega), o4.2 _ hlt3]
  have m7 : ∀ i, hcell H7 H.length i = [Value.int .i64 a, .int .i64 v, .int .i64 n][i]? := fun i => by unfold hcell; rw [hb7]; exact m3 i
  have r7 : isRo H7 (some ⟨H.length, 0 + 0, none⟩) = true := by
    have := r3 0 none
    simp only [isRo] at this ⊢
    rw [hb7]; exact this
  have r3' := r3 0 none
  obtain ⟨x, hx, ex⟩ := and_mask a 3 (by omega)
  obtain ⟨y, hy, ey⟩ := and_mask a 7 (by omega)
  obtain ⟨H8, e8, Oa8, b8, n8⟩ := Owns.st1 (o := 0) Oa7 (by simp) (.int .i64 (x : Int))
  have Ob8 := Ob7.but b8 (by omega)
  obtain ⟨H9, e9, Ob9, b9, n9⟩ := Owns.st1 (o := 0) Ob8 (by simp) (.int .i64 (Int.tmod (y : Int) 5))
  have Oa9 := Oa8.but b9 (by omega)
  have ma9 : ∀ i, hcell H9 H3.length i = [Value.int .i64 (x : Int), .int .i64 v, .int .i64 n][i]? := fun i => Oa9.sees.cell i
  have mb9 : ∀ i, hcell H9 H4.length i = [Value.int .i64 (Int.tmod (y : Int) 5), .int .i64 v, .int .i64 n][i]? := fun i => Ob9.sees.cell i
  have n1 : H1.length = H.length + 1 := by rw [hH1]; simp
  have oo : ∀ i, H1.length ≤ i → i < H2.length → hblk H9 i = hblk H2 i := fun i h1 hi => by
    rw [b9.2 _ (by omega) (by omega), b8.2 _ (by omega) (by omega), b7.2 _ (by omega) (by omega), b6.2 _ (by omega) (by omega), o5.2 _ (by omega), o4.2 _ (by omega), b3.2 _ (by omega) (by omega)]
  have W9 : NoW H9 pw := W2.only fun a ha => oo _ (hpw a ha).1 (hpw a ha).2
  have R9 : NoW H9 pr := R2.only fun a ha => oo _ (hpr a ha).1 (hpr a ha).2
  have ht : Int.tmod (y : Int) 5 = ((y % 5 : Nat) : Int) := by rw [Int.tmod_eq_emod_of_nonneg (by omega)]; rfl
  obtain ⟨Hr, er, or⟩ := no_read k R9 (Int.tmod (y : Int) 5) v n (by omega) (by omega)
  have mar : ∀ i, hcell Hr H3.length i = [Value.int .i64 (x : Int), .int .i64 v, .int .i64 n][i]? := fun i => (Oa9.old or Oa9.lt).sees.cell i
  obtain ⟨Hw, ew, ow⟩ := no_write k (W9.keep or) (x : Int) v n (by omega) (by omega)
  have Ww := (W9.keep or).keep ow
  have el := no_len Ww
  have eb := no_bytes k Ww
  have m2 : ∀ i, hcell H2 H.length i = [Value.int .i64 a, .int .i64 v, .int .i64 n][i]? := fun i => O2.sees.cell i
  have ex' : ∀ (R : Type) (K : Int → Option R), hbin .and .i64 a 3 K = K (x : Int) := ex
  have ey' : ∀ (R : Type) (K : Int → Option R), hbin .and .i64 a 7 K = K (y : Int) := ey
  unfold L_BitioNobody L_BitioNobody_b
  refine go_halN hH1 ?_
  refine (e2 _ _).trans ?_
  repeat (first | (with_reducible refine (e3 _ _).trans ?_) | (with_reducible refine (ex' _ _).trans ?_) | (with_reducible refine (ey' _ _).trans ?_) | (with_reducible refine (e6 _ _).trans ?_) | (with_reducible refine (e7 _ _).trans ?_) | (with_reducible refine (e8 _ _).trans ?_) | (with_reducible refine (e9 _ _).trans ?_) | (with_reducible refine (er _ _).trans ?_) | (with_reducible refine (ew _ _).trans ?_) | (with_reducible refine (el _ _).trans ?_) | (with_reducible refine (eb _ _).trans ?_) | ((with_reducible refine go_ip (x := ?_) ?_ ?_); rotate_left 1; (first | ((with_reducible refine (m3 _).trans ?_); rfl) | ((with_reducible refine (m7 _).trans ?_); rfl) | ((with_reducible refine (ma9 _).trans ?_); rfl) | ((with_reducible refine (mb9 _).trans ?_); rfl) | ((with_reducible refine (mar _).trans ?_); rfl) | rfl)) | ((with_reducible refine go_bp (x := ?_) ?_ ?_); rotate_left 1; (first | ((with_reducible refine (m3 _).trans ?_); rfl) | ((with_reducible refine (m7 _).trans ?_); rfl) | ((with_reducible refine (ma9 _).trans ?_); rfl) | ((with_reducible refine (mb9 _).trans ?_); rfl) | ((with_reducible refine (mar _).trans ?_); rfl) | rfl)) | ((with_reducible refine go_lp (x := ?_) (l := ?_) (c := ?_) ?_ ?_); rotate_left 3; (first | ((with_reducible refine (m3 _).trans ?_); rfl) | ((with_reducible refine (m7 _).trans ?_); rfl) | ((with_reducible refine (ma9 _).trans ?_); rfl) | ((with_reducible refine (mb9 _).trans ?_); rfl) | ((with_reducible refine (mar _).trans ?_); rfl) | rfl)) | ((with_reducible refine go_pp (x := ?_) ?_ ?_); rotate_left 1; (first | ((with_reducible refine (m3 _).trans ?_); rfl) | ((with_reducible refine (m7 _).trans ?_); rfl) | ((with_reducible refine (ma9 _).trans ?_); rfl) | ((with_reducible refine (mb9 _).trans ?_); rfl) | ((with_reducible refine (mar _).trans ?_); rfl) | rfl)) | ((with_reducible refine go_i (x := ?_) ?_ ?_); rotate_left 1; (first | ((with_reducible refine (m3 _).trans ?_); rfl) | ((with_reducible refine (m7 _).trans ?_); rfl) | ((with_reducible refine (ma9 _).trans ?_); rfl) | ((with_reducible refine (mb9 _).trans ?_); rfl) | ((with_reducible refine (mar _).trans ?_); rfl) | rfl)) | ((with_reducible refine go_b (x := ?_) ?_ ?_); rotate_left 1; (first | ((with_reducible refine (m3 _).trans ?_); rfl) | ((with_reducible refine (m7 _).trans ?_); rfl) | ((with_reducible refine (ma9 _).trans ?_); rfl) | ((with_reducible refine (mb9 _).trans ?_); rfl) | ((with_reducible refine (mar _).trans ?_); rfl) | rfl)) | ((with_reducible refine go_l (x := ?_) (l := ?_) (c := ?_) ?_ ?_); rotate_left 3; (first | ((with_reducible refine (m3 _).trans ?_); rfl) | ((with_reducible refine (m7 _).trans ?_); rfl) | ((with_reducible refine (ma9 _).trans ?_); rfl) | ((with_reducible refine (mb9 _).trans ?_); rfl) | ((with_reducible refine (mar _).trans ?_); rfl) | rfl)) | ((with_reducible refine go_p (x := ?_) ?_ ?_); rotate_left 1; (first | ((with_reducible refine (m3 _).trans ?_); rfl) | ((with_reducible refine (m7 _).trans ?_); rfl) | ((with_reducible refine (ma9 _).trans ?_); rfl) | ((with_reducible refine (mb9 _).trans ?_); rfl) | ((with_reducible refine (mar _).trans ?_); rfl) | rfl)) | ((with_reducible refine go_halst hH4 ?_ ?_ ?_); rfl; rfl) | (with_reducible refine go_halN hH4 ?_) | ((with_reducible refine go_halst hH5 ?_ ?_ ?_); rfl; rfl) | (with_reducible refine go_halN hH5 ?_) | (with_reducible refine go_t r3' ?_) | (with_reducible refine go_f r3' ?_) | (with_reducible refine go_t r7 ?_) | (with_reducible refine go_f r7 ?_) | ((with_reducible refine go_t ?_ ?_); (show _ = true; rfl)) | ((with_reducible refine go_f ?_ ?_); (show _ = false; rfl)) | (with_reducible refine go_ne ?_) | (with_reducible refine go_eq ?_) | (with_reducible refine go_fad ?_) | (with_reducible refine go_nil ?_))
  rfl
theorem nobody_in (H : Heap) (us : List Value) (h : AllLies H [(dOp, true), (.bool, false)] us) : L_BitioNobody_c Bool 9223372036854777000 us H asB = some true := by
  obtain ⟨cs, vs, rfl, hs, h2⟩ := lies_agg h
  obtain ⟨z, vs2, rfl, h3⟩ := lies_bool h2
  obtain rfl := lies_nil h3
  obtain ⟨x, y, rfl, ⟨a, rfl, ha⟩, x2, y2, rfl, ⟨b, rfl, hb⟩, x3, y3, rfl, ⟨c, rfl, hc⟩, hn⟩ := hs
  have hn' : y3 = [] := hn
  subst hn'
  exact nobody_run _ a b c z H
end Go.Proofs.Ytiapgcgpdndkiaa.Sh
