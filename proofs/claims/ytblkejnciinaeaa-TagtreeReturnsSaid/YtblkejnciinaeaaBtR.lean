/- Bitio: the program's reader. -/
import Derived.Test.YtblkejnciinaeaaBtB
import Derived.Test.YtblkejnciinaeaaSh4
set_option linter.unusedVariables false
set_option linter.unusedSimpArgs false
namespace Go.Proofs.Ytblkejnciinaeaa.Sh
open Go.Proofs.Ytblkejnciinaeaa.FW Go.IntWalk
/-- The bits of the byte at a place. -/
def szr (bs : List Int) (a : Nat) : Nat := if 0 < a ∧ bs.getD (a - 1) 0 = 255 then 7 else 8
def bitr (bs : List Int) (a s : Nat) : Nat := (bs.getD (a - 1) 0).toNat / 2 ^ s % 2
/-- A bit: the number, the error, the place, what is left. -/
def rget (bs : List Int) (s : Nat × Nat) : (Int × Int) × Nat × Nat :=
  if s.2 = 0 then
    (if s.1 = bs.length then ((0, 7), s)
     else if szr bs s.1 = 7 ∧ 128 ≤ bs.getD s.1 0 then ((0, 8), s)
     else ((((bitr bs (s.1 + 1) (szr bs s.1 - 1) : Nat) : Int), 0), s.1 + 1, szr bs s.1 - 1))
  else ((((bitr bs s.1 (s.2 - 1) : Nat) : Int), 0), s.1, s.2 - 1)
structure Okr (bs : List Int) (s : Nat × Nat) : Prop where
  a : s.1 ≤ bs.length
  l : s.2 ≤ 7
  z : 0 < s.2 → 0 < s.1
def Byts (bs : List Int) : Prop := (∀ x ∈ bs, 0 ≤ x ∧ x ≤ 255) ∧ bs.length < 1000000
theorem szr_le (bs : List Int) (a : Nat) : szr bs a ≤ 8 := by unfold szr; split <;> omega
theorem szr_ge (bs : List Int) (a : Nat) : 7 ≤ szr bs a := by unfold szr; split <;> omega
theorem rget_ok {bs : List Int} {s : Nat × Nat} (h : Okr bs s) : Okr bs (rget bs s).2 := by
  have h1 := szr_le bs s.1
  have h2 := szr_ge bs s.1
  have := h.a; have := h.l; have := h.z
  unfold rget
  split
  · split
    · exact h
    · split
      · exact h
      · exact ⟨by simp only; omega, by simp only; omega, by simp only; omega⟩
  · exact ⟨by simp only; omega, by simp only; omega, by simp only; omega⟩
theorem rget_bit (bs : List Int) (s : Nat × Nat) : ((rget bs s).1.1 = 0 ∨ (rget bs s).1.1 = 1) ∧ ((rget bs s).1.2 ≠ 0 → (rget bs s).2 = s) := by
  have hb : ∀ a s, (((bitr bs a s : Nat) : Int) = 0 ∨ ((bitr bs a s : Nat) : Int) = 1) := fun a s => by unfold bitr; omega
  unfold rget
  split
  · split
    · exact ⟨.inl rfl, fun _ => rfl⟩
    · split
      · exact ⟨.inl rfl, fun _ => rfl⟩
      · exact ⟨hb _ _, fun h => (h rfl).elim⟩
  · exact ⟨hb _ _, fun h => (h rfl).elim⟩
def rcl (q : Option Addr) (n c a s : Nat) : List Value := [.bool true, .slice q n c, .int .i64 ((a : Nat) : Int), .int .i64 ((s : Nat) : Int)]
/-- A reader. -/
structure Rd (H : Heap) (p : Nat) (q : Option Addr) (bs : List Int) (s : Nat × Nat) : Prop where
  c : ∃ c, Owns H p (rcl q bs.length c s.1 s.2) 0
  sh : Shows H q (byt bs)
  ap : ∀ a, q = some a → a.block ≠ p
  ok : Okr bs s
  by_ : Byts bs
theorem Rd.lt {H : Heap} {p : Nat} {q : Option Addr} {bs : List Int} {s : Nat × Nat} (h : Rd H p q bs s) : p < H.length := by obtain ⟨c, h1⟩ := h.c; exact h1.lt
theorem Rd.but {H H' : Heap} {p p2 : Nat} {q : Option Addr} {bs : List Int} {s : Nat × Nat} (h : Rd H p q bs s) (o : But p2 H H') (h1 : p ≠ p2) (h2 : ∀ a, q = some a → a.block ≠ p2) : Rd H' p q bs s := by
  obtain ⟨c, hc⟩ := h.c
  exact ⟨⟨c, hc.but o h1⟩, h.sh.but o h2, h.ap, h.ok, h.by_⟩
theorem Rd.keep {H H' : Heap} {p : Nat} {q : Option Addr} {bs : List Int} {s : Nat × Nat} (h : Rd H p q bs s) (o : Old H.length H H') : Rd H' p q bs s := by
  obtain ⟨c, hc⟩ := h.c
  exact ⟨⟨c, hc.old o hc.lt⟩, h.sh.keep o, h.ap, h.ok, h.by_⟩
/-- A place or what is left, stored. -/
theorem Rd.st2 {H : Heap} {p : Nat} {q : Option Addr} {n c a s : Nat} (h : Owns H p (rcl q n c a s) 0) (x : Nat) : ∃ H', (∀ (R : Type) (K : Heap → Option R), hst1 H (some ⟨p, 2, none⟩) (.int .i64 ((x : Nat) : Int)) K = K H') ∧ Owns H' p (rcl q n c x s) 0 ∧ But p H H' ∧ H'.length = H.length := Owns.st1 (o := 2) h (by simp [rcl]) _
theorem Rd.st3 {H : Heap} {p : Nat} {q : Option Addr} {n c a s : Nat} (h : Owns H p (rcl q n c a s) 0) (x : Nat) : ∃ H', (∀ (R : Type) (K : Heap → Option R), hst1 H (some ⟨p, 3, none⟩) (.int .i64 ((x : Nat) : Int)) K = K H') ∧ Owns H' p (rcl q n c a x) 0 ∧ But p H H' ∧ H'.length = H.length := Owns.st1 (o := 3) h (by simp [rcl]) _
theorem byte_at' {H : Heap} {q : Option Addr} {xs : List Int} (h : Shows H q (byt xs)) {i : Nat} (hi : i < xs.length) :
    ∃ p, (∀ (R : Type) (K : Option Addr → Option R), hidx q xs.length (i : Int) 1 K = K p) ∧ ∀ (R : Type) (K : Int → Option R), ldI .u8 H p K = K (xs.getD i 0) := by
  obtain ⟨p, e, _, m⟩ := h.idx (l := xs.length) (size := 1) (by rw [byt_len]; omega) (i := (i : Int)) (by omega) (by omega) (by omega)
  exact ⟨p, e, fun R K => ldI_of (m _ (by rw [Int.toNat_natCast, Nat.mul_one]; simp [byt, hi])) rfl K⟩
theorem Byts.at {bs : List Int} (h : Byts bs) (i : Nat) : ∃ n : Nat, bs.getD i 0 = (n : Int) ∧ n ≤ 255 := by
  by_cases hi : i < bs.length
  · have : bs.getD i 0 ∈ bs := by rw [List.getD_eq_getElem?_getD, List.getElem?_eq_getElem hi]; exact List.getElem_mem hi
    have := h.1 _ this
    exact ⟨(bs.getD i 0).toNat, by omega, by omega⟩
  · exact ⟨0, by rw [List.getD_eq_getElem?_getD, List.getElem?_eq_none (by omega)]; rfl, by omega⟩
/-- The last steps of a bit. -/
theorem bit8 {bs : List Int} (hb : Byts bs) (a s : Nat) (hs : s ≤ 8) (R : Type) (K : Int → Option R) : hbin .shr .u8 (bs.getD (a - 1) 0) (IntKind.wrap .u64 ((s : Nat) : Int)) (fun n => hbin .and .i64 (IntKind.wrap .i64 n) 1 K) = K ((bitr bs a s : Nat) : Int) := by
  obtain ⟨n, h1, h2⟩ := hb.at (a - 1)
  have h3 : n / 2 ^ s ≤ n := Nat.div_le_self _ _
  unfold bitr
  rw [h1, shr8 hs, Int.toNat_natCast]
  generalize n / 2 ^ s = d at h3 ⊢
  rw [w64 (by omega) (by omega)]
  have := and64 (a := d) (b := 1) (by omega) (by omega) K
  rw [Nat.and_one_is_mod] at this
  exact this
theorem get_eq (k : Nat) {H : Heap} {p : Nat} {q : Option Addr} {bs : List Int} {s : Nat × Nat} (h : Rd H p q bs s) :
    ∃ H', (∀ (R : Type) (K : Int → Int → Heap → Option R), bitio_Reader_get k (some ⟨p, 0, none⟩) H K = K (rget bs s).1.1 (rget bs s).1.2 H') ∧ Rd H' p q bs (rget bs s).2 ∧ But p H H' := by
  obtain ⟨c, hO⟩ := h.c
  obtain ⟨a, l⟩ := s
  have hok := h.ok
  have ha := hok.a
  have hl7 := hok.l
  have hz := hok.z
  have hlen := h.by_.2
  have hr := rget_ok hok
  simp only at ha hl7 hz
  have m : ∀ o, hcell H p o = [Value.bool true, .slice q bs.length c, .int .i64 ((a : Nat) : Int), .int .i64 ((l : Nat) : Int)][o]? := fun o => hO.sees.cell o
  have tail : ∀ (H2 : Heap) (x y : Nat), Owns H2 p (rcl q bs.length c x (y + 1)) 0 → But p H H2 → 0 < x → x ≤ bs.length → y ≤ 7 →
      ∃ H', (∀ (R : Type) (K : Int → Int → Heap → Option R), (hnil (some ⟨p, 0, none⟩) fun p224 => hfad 3 p224 fun p225 => ldI .i64 H2 p225 fun n226 => hnil (some ⟨p, 0, none⟩) fun p227 => hfad 3 p227 fun p228 => hst1 H2 p228 (.int .i64 (IntKind.wrap .i64 (n226 - 1))) fun H229 => hnil (some ⟨p, 0, none⟩) fun p230 => hfad 1 p230 fun p231 => ldL H229 p231 fun q232 l233 c234 => hnil (some ⟨p, 0, none⟩) fun p235 => hfad 2 p235 fun p236 => ldI .i64 H229 p236 fun n237 => hidx q232 l233 (IntKind.wrap .i64 (n237 - 1)) 1 fun p238 => ldI .u8 H229 p238 fun n239 => hnil (some ⟨p, 0, none⟩) fun p240 => hfad 3 p240 fun p241 => ldI .i64 H229 p241 fun n242 => hbin .shr .u8 n239 (IntKind.wrap .u64 n242) fun n243 => hbin .and .i64 (IntKind.wrap .i64 n243) 1 fun n244 => K n244 0 H229) = K ((bitr bs x y : Nat) : Int) 0 H') ∧ Owns H' p (rcl q bs.length c x y) 0 ∧ But p H H' := by
    intro H2 x y h2 b2 hx hxl hy
    obtain ⟨H3, e3, O3, b3, n3⟩ := Rd.st3 h2 y
    have w1 : IntKind.wrap .i64 (((y + 1 : Nat) : Int) - 1) = ((y : Nat) : Int) := by rw [w64 (by omega) (by omega)]; omega
    have w2 : IntKind.wrap .i64 (((x : Nat) : Int) - 1) = ((x - 1 : Nat) : Int) := by rw [w64 (by omega) (by omega)]; omega
    have m2 : ∀ o, hcell H2 p o = [Value.bool true, .slice q bs.length c, .int .i64 ((x : Nat) : Int), .int .i64 ((y + 1 : Nat) : Int)][o]? := fun o => h2.sees.cell o
    have m3 : ∀ o, hcell H3 p o = [Value.bool true, .slice q bs.length c, .int .i64 ((x : Nat) : Int), .int .i64 ((y : Nat) : Int)][o]? := fun o => O3.sees.cell o
    have sh3 : Shows H3 q (byt bs) := h.sh.but (b2.trans b3) h.ap
    obtain ⟨z, e4, e5⟩ := byte_at' sh3 (i := x - 1) (by omega)
    have e3' : ∀ (R : Type) (K : Heap → Option R), hst1 H2 (some ⟨p, 3, none⟩) (.int .i64 (IntKind.wrap .i64 (((y + 1 : Nat) : Int) - 1))) K = K H3 := by rw [w1]; exact e3
    have e4' : ∀ (R : Type) (K : Option Addr → Option R), hidx q bs.length (IntKind.wrap .i64 (((x : Nat) : Int) - 1)) 1 K = K z := by rw [w2]; exact e4
    refine ⟨H3, fun R K => ?_, O3, b2.trans b3⟩
    repeat (first | (with_reducible refine (e3' _ _).trans ?_) | (with_reducible refine (e4' _ _).trans ?_) | (with_reducible refine (e5 _ _).trans ?_) | ((with_reducible refine go_ip (x := ?_) ?_ ?_); rotate_left 1; (first | ((with_reducible refine (m2 _).trans ?_); rfl) | ((with_reducible refine (m3 _).trans ?_); rfl) | rfl)) | ((with_reducible refine go_bp (x := ?_) ?_ ?_); rotate_left 1; (first | ((with_reducible refine (m2 _).trans ?_); rfl) | ((with_reducible refine (m3 _).trans ?_); rfl) | rfl)) | ((with_reducible refine go_lp (x := ?_) (l := ?_) (c := ?_) ?_ ?_); rotate_left 3; (first | ((with_reducible refine (m2 _).trans ?_); rfl) | ((with_reducible refine (m3 _).trans ?_); rfl) | rfl)) | ((with_reducible refine go_pp (x := ?_) ?_ ?_); rotate_left 1; (first | ((with_reducible refine (m2 _).trans ?_); rfl) | ((with_reducible refine (m3 _).trans ?_); rfl) | rfl)) | ((with_reducible refine go_i (x := ?_) ?_ ?_); rotate_left 1; (first | ((with_reducible refine (m2 _).trans ?_); rfl) | ((with_reducible refine (m3 _).trans ?_); rfl) | rfl)) | ((with_reducible refine go_b (x := ?_) ?_ ?_); rotate_left 1; (first | ((with_reducible refine (m2 _).trans ?_); rfl) | ((with_reducible refine (m3 _).trans ?_); rfl) | rfl)) | ((with_reducible refine go_l (x := ?_) (l := ?_) (c := ?_) ?_ ?_); rotate_left 3; (first | ((with_reducible refine (m2 _).trans ?_); rfl) | ((with_reducible refine (m3 _).trans ?_); rfl) | rfl)) | ((with_reducible refine go_p (x := ?_) ?_ ?_); rotate_left 1; (first | ((with_reducible refine (m2 _).trans ?_); rfl) | ((with_reducible refine (m3 _).trans ?_); rfl) | rfl)) | ((with_reducible refine go_halst rfl ?_ ?_ ?_); rfl; rfl) | (with_reducible refine go_halN rfl ?_) | ((with_reducible refine go_t ?_ ?_); (show _ = true; rfl)) | ((with_reducible refine go_f ?_ ?_); (show _ = false; rfl)) | (with_reducible refine go_ne ?_) | (with_reducible refine go_eq ?_) | (with_reducible refine go_fad ?_) | (with_reducible refine go_nil ?_))
    exact bit8 h.by_ x y (by omega) R fun n => K n 0 H3
  by_cases hl0 : l = 0
  · subst hl0
    have d0 : (((0 : Nat) : Int) == 0) = true := rfl
    by_cases hat : a = bs.length
    · have d1 : (((a : Nat) : Int) == ((bs.length : Nat) : Int)) = true := by rw [hat]; exact beq_self_eq_true _
      have er : rget bs (a, 0) = ((0, 7), a, 0) := by unfold rget; rw [if_pos rfl, if_pos hat]
      rw [er]
      refine ⟨H, fun R K => ?_, h, .refl _ _⟩
      unfold bitio_Reader_get bitio_Reader_get_b bitio_Reader_get_p0 bitio_Reader_get_p0_b
      dsimp only
      repeat (first | ((with_reducible refine go_ip (x := ?_) ?_ ?_); rotate_left 1; (first | ((with_reducible refine (m _).trans ?_); rfl) | rfl)) | ((with_reducible refine go_bp (x := ?_) ?_ ?_); rotate_left 1; (first | ((with_reducible refine (m _).trans ?_); rfl) | rfl)) | ((with_reducible refine go_lp (x := ?_) (l := ?_) (c := ?_) ?_ ?_); rotate_left 3; (first | ((with_reducible refine (m _).trans ?_); rfl) | rfl)) | ((with_reducible refine go_pp (x := ?_) ?_ ?_); rotate_left 1; (first | ((with_reducible refine (m _).trans ?_); rfl) | rfl)) | ((with_reducible refine go_i (x := ?_) ?_ ?_); rotate_left 1; (first | ((with_reducible refine (m _).trans ?_); rfl) | rfl)) | ((with_reducible refine go_b (x := ?_) ?_ ?_); rotate_left 1; (first | ((with_reducible refine (m _).trans ?_); rfl) | rfl)) | ((with_reducible refine go_l (x := ?_) (l := ?_) (c := ?_) ?_ ?_); rotate_left 3; (first | ((with_reducible refine (m _).trans ?_); rfl) | rfl)) | ((with_reducible refine go_p (x := ?_) ?_ ?_); rotate_left 1; (first | ((with_reducible refine (m _).trans ?_); rfl) | rfl)) | ((with_reducible refine go_halst rfl ?_ ?_ ?_); rfl; rfl) | (with_reducible refine go_halN rfl ?_) | (with_reducible refine go_t d0 ?_) | (with_reducible refine go_f d0 ?_) | (with_reducible refine go_t d1 ?_) | (with_reducible refine go_f d1 ?_) | ((with_reducible refine go_t ?_ ?_); (show _ = true; rfl)) | ((with_reducible refine go_f ?_ ?_); (show _ = false; rfl)) | (with_reducible refine go_ne ?_) | (with_reducible refine go_eq ?_) | (with_reducible refine go_fad ?_) | (with_reducible refine go_nil ?_))
      rfl
    · have d1 : (((a : Nat) : Int) == ((bs.length : Nat) : Int)) = false := by rw [beq_eq_false_iff_ne]; omega
      have hp2 : ∀ (R : Type) (KN : Option Addr → Int → Bool → Option R), bitio_Reader_get_p2 k (some ⟨p, 0, none⟩) 8 H KN = KN (some ⟨p, 0, none⟩) 8 (decide (szr bs a = 7)) := by
        intro R KN
        by_cases h0 : 0 < a
        · have d2 : decide (((a : Nat) : Int) > 0) = true := decide_eq_true (by omega)
          obtain ⟨z, e4, e5⟩ := byte_at' h.sh (i := a - 1) (by omega)
          have w2 : IntKind.wrap .i64 (((a : Nat) : Int) - 1) = ((a - 1 : Nat) : Int) := by rw [w64 (by omega) (by omega)]; omega
          have e4' : ∀ (R : Type) (K : Option Addr → Option R), hidx q bs.length (IntKind.wrap .i64 (((a : Nat) : Int) - 1)) 1 K = K z := by rw [w2]; exact e4
          have hs : decide (szr bs a = 7) = (bs.getD (a - 1) 0 == 255) := by
            unfold szr
            by_cases h255 : bs.getD (a - 1) 0 = 255
            · rw [if_pos ⟨h0, h255⟩, h255]; rfl
            · rw [if_neg fun hh => h255 hh.2]; symm; simpa using h255
          unfold bitio_Reader_get_p2 bitio_Reader_get_p2_b
          repeat (first | (with_reducible refine (e4' _ _).trans ?_) | (with_reducible refine (e5 _ _).trans ?_) | ((with_reducible refine go_ip (x := ?_) ?_ ?_); rotate_left 1; (first | ((with_reducible refine (m _).trans ?_); rfl) | rfl)) | ((with_reducible refine go_bp (x := ?_) ?_ ?_); rotate_left 1; (first | ((with_reducible refine (m _).trans ?_); rfl) | rfl)) | ((with_reducible refine go_lp (x := ?_) (l := ?_) (c := ?_) ?_ ?_); rotate_left 3; (first | ((with_reducible refine (m _).trans ?_); rfl) | rfl)) | ((with_reducible refine go_pp (x := ?_) ?_ ?_); rotate_left 1; (first | ((with_reducible refine (m _).trans ?_); rfl) | rfl)) | ((with_reducible refine go_i (x := ?_) ?_ ?_); rotate_left 1; (first | ((with_reducible refine (m _).trans ?_); rfl) | rfl)) | ((with_reducible refine go_b (x := ?_) ?_ ?_); rotate_left 1; (first | ((with_reducible refine (m _).trans ?_); rfl) | rfl)) | ((with_reducible refine go_l (x := ?_) (l := ?_) (c := ?_) ?_ ?_); rotate_left 3; (first | ((with_reducible refine (m _).trans ?_); rfl) | rfl)) | ((with_reducible refine go_p (x := ?_) ?_ ?_); rotate_left 1; (first | ((with_reducible refine (m _).trans ?_); rfl) | rfl)) | ((with_reducible refine go_halst rfl ?_ ?_ ?_); rfl; rfl) | (with_reducible refine go_halN rfl ?_) | (with_reducible refine go_t d2 ?_) | (with_reducible refine go_f d2 ?_) | ((with_reducible refine go_t ?_ ?_); (show _ = true; rfl)) | ((with_reducible refine go_f ?_ ?_); (show _ = false; rfl)) | (with_reducible refine go_ne ?_) | (with_reducible refine go_eq ?_) | (with_reducible refine go_fad ?_) | (with_reducible refine go_nil ?_))
          rw [hs]
        · have d2 : decide (((a : Nat) : Int) > 0) = false := decide_eq_false (by omega)
          have hs : decide (szr bs a = 7) = false := by unfold szr; rw [if_neg fun hh => h0 hh.1]; rfl
          unfold bitio_Reader_get_p2 bitio_Reader_get_p2_b
          repeat (first | ((with_reducible refine go_ip (x := ?_) ?_ ?_); rotate_left 1; (first | ((with_reducible refine (m _).trans ?_); rfl) | rfl)) | ((with_reducible refine go_bp (x := ?_) ?_ ?_); rotate_left 1; (first | ((with_reducible refine (m _).trans ?_); rfl) | rfl)) | ((with_reducible refine go_lp (x := ?_) (l := ?_) (c := ?_) ?_ ?_); rotate_left 3; (first | ((with_reducible refine (m _).trans ?_); rfl) | rfl)) | ((with_reducible refine go_pp (x := ?_) ?_ ?_); rotate_left 1; (first | ((with_reducible refine (m _).trans ?_); rfl) | rfl)) | ((with_reducible refine go_i (x := ?_) ?_ ?_); rotate_left 1; (first | ((with_reducible refine (m _).trans ?_); rfl) | rfl)) | ((with_reducible refine go_b (x := ?_) ?_ ?_); rotate_left 1; (first | ((with_reducible refine (m _).trans ?_); rfl) | rfl)) | ((with_reducible refine go_l (x := ?_) (l := ?_) (c := ?_) ?_ ?_); rotate_left 3; (first | ((with_reducible refine (m _).trans ?_); rfl) | rfl)) | ((with_reducible refine go_p (x := ?_) ?_ ?_); rotate_left 1; (first | ((with_reducible refine (m _).trans ?_); rfl) | rfl)) | ((with_reducible refine go_halst rfl ?_ ?_ ?_); rfl; rfl) | (with_reducible refine go_halN rfl ?_) | (with_reducible refine go_t d2 ?_) | (with_reducible refine go_f d2 ?_) | ((with_reducible refine go_t ?_ ?_); (show _ = true; rfl)) | ((with_reducible refine go_f ?_ ?_); (show _ = false; rfl)) | (with_reducible refine go_ne ?_) | (with_reducible refine go_eq ?_) | (with_reducible refine go_fad ?_) | (with_reducible refine go_nil ?_))
          rw [hs]
      obtain ⟨z, e4, e5⟩ := byte_at' h.sh (i := a) (by omega)
      by_cases hbad : szr bs a = 7 ∧ 128 ≤ bs.getD a 0
      · have er : rget bs (a, 0) = ((0, 8), a, 0) := by unfold rget; rw [if_pos rfl, if_neg hat, if_pos hbad]
        have d3 : decide (szr bs a = 7) = true := decide_eq_true hbad.1
        have d4 : decide (bs.getD a 0 ≥ 128) = true := decide_eq_true hbad.2
        rw [er]
        refine ⟨H, fun R K => ?_, h, .refl _ _⟩
        unfold bitio_Reader_get bitio_Reader_get_b bitio_Reader_get_p0 bitio_Reader_get_p0_b bitio_Reader_get_p1 bitio_Reader_get_p1_b
        dsimp only
        repeat (first | (with_reducible refine (hp2 _ _).trans ?_) | (with_reducible refine (e4 _ _).trans ?_) | (with_reducible refine (e5 _ _).trans ?_) | ((with_reducible refine go_ip (x := ?_) ?_ ?_); rotate_left 1; (first | ((with_reducible refine (m _).trans ?_); rfl) | rfl)) | ((with_reducible refine go_bp (x := ?_) ?_ ?_); rotate_left 1; (first | ((with_reducible refine (m _).trans ?_); rfl) | rfl)) | ((with_reducible refine go_lp (x := ?_) (l := ?_) (c := ?_) ?_ ?_); rotate_left 3; (first | ((with_reducible refine (m _).trans ?_); rfl) | rfl)) | ((with_reducible refine go_pp (x := ?_) ?_ ?_); rotate_left 1; (first | ((with_reducible refine (m _).trans ?_); rfl) | rfl)) | ((with_reducible refine go_i (x := ?_) ?_ ?_); rotate_left 1; (first | ((with_reducible refine (m _).trans ?_); rfl) | rfl)) | ((with_reducible refine go_b (x := ?_) ?_ ?_); rotate_left 1; (first | ((with_reducible refine (m _).trans ?_); rfl) | rfl)) | ((with_reducible refine go_l (x := ?_) (l := ?_) (c := ?_) ?_ ?_); rotate_left 3; (first | ((with_reducible refine (m _).trans ?_); rfl) | rfl)) | ((with_reducible refine go_p (x := ?_) ?_ ?_); rotate_left 1; (first | ((with_reducible refine (m _).trans ?_); rfl) | rfl)) | ((with_reducible refine go_halst rfl ?_ ?_ ?_); rfl; rfl) | (with_reducible refine go_halN rfl ?_) | (with_reducible refine go_t d0 ?_) | (with_reducible refine go_f d0 ?_) | (with_reducible refine go_t d1 ?_) | (with_reducible refine go_f d1 ?_) | (with_reducible refine go_t d3 ?_) | (with_reducible refine go_f d3 ?_) | (with_reducible refine go_t d4 ?_) | (with_reducible refine go_f d4 ?_) | ((with_reducible refine go_t ?_ ?_); (show _ = true; rfl)) | ((with_reducible refine go_f ?_ ?_); (show _ = false; rfl)) | (with_reducible refine go_ne ?_) | (with_reducible refine go_eq ?_) | (with_reducible refine go_fad ?_) | (with_reducible refine go_nil ?_))
        rfl
      · have er : rget bs (a, 0) = ((((bitr bs (a + 1) (szr bs a - 1) : Nat) : Int), 0), a + 1, szr bs a - 1) := by unfold rget; rw [if_pos rfl, if_neg hat, if_neg hbad]
        have hz7 := szr_ge bs a
        have hz8 := szr_le bs a
        have hp1 : ∀ (R : Type) (KN : Option Addr → Int → Option R) (KR : Int → Int → Option R), bitio_Reader_get_p1 k (some ⟨p, 0, none⟩) 8 H KN KR = KN (some ⟨p, 0, none⟩) ((szr bs a : Nat) : Int) := by
          intro R KN KR
          by_cases h7 : szr bs a = 7
          · have d3 : decide (szr bs a = 7) = true := decide_eq_true h7
            have d4 : decide (bs.getD a 0 ≥ 128) = false := decide_eq_false fun hh => hbad ⟨h7, hh⟩
            unfold bitio_Reader_get_p1 bitio_Reader_get_p1_b
            repeat (first | (with_reducible refine (hp2 _ _).trans ?_) | (with_reducible refine (e4 _ _).trans ?_) | (with_reducible refine (e5 _ _).trans ?_) | ((with_reducible refine go_ip (x := ?_) ?_ ?_); rotate_left 1; (first | ((with_reducible refine (m _).trans ?_); rfl) | rfl)) | ((with_reducible refine go_bp (x := ?_) ?_ ?_); rotate_left 1; (first | ((with_reducible refine (m _).trans ?_); rfl) | rfl)) | ((with_reducible refine go_lp (x := ?_) (l := ?_) (c := ?_) ?_ ?_); rotate_left 3; (first | ((with_reducible refine (m _).trans ?_); rfl) | rfl)) | ((with_reducible refine go_pp (x := ?_) ?_ ?_); rotate_left 1; (first | ((with_reducible refine (m _).trans ?_); rfl) | rfl)) | ((with_reducible refine go_i (x := ?_) ?_ ?_); rotate_left 1; (first | ((with_reducible refine (m _).trans ?_); rfl) | rfl)) | ((with_reducible refine go_b (x := ?_) ?_ ?_); rotate_left 1; (first | ((with_reducible refine (m _).trans ?_); rfl) | rfl)) | ((with_reducible refine go_l (x := ?_) (l := ?_) (c := ?_) ?_ ?_); rotate_left 3; (first | ((with_reducible refine (m _).trans ?_); rfl) | rfl)) | ((with_reducible refine go_p (x := ?_) ?_ ?_); rotate_left 1; (first | ((with_reducible refine (m _).trans ?_); rfl) | rfl)) | ((with_reducible refine go_halst rfl ?_ ?_ ?_); rfl; rfl) | (with_reducible refine go_halN rfl ?_) | (with_reducible refine go_t d3 ?_) | (with_reducible refine go_f d3 ?_) | (with_reducible refine go_t d4 ?_) | (with_reducible refine go_f d4 ?_) | ((with_reducible refine go_t ?_ ?_); (show _ = true; rfl)) | ((with_reducible refine go_f ?_ ?_); (show _ = false; rfl)) | (with_reducible refine go_ne ?_) | (with_reducible refine go_eq ?_) | (with_reducible refine go_fad ?_) | (with_reducible refine go_nil ?_))
            rw [h7]; rfl
          · have d3 : decide (szr bs a = 7) = false := decide_eq_false h7
            have h8 : szr bs a = 8 := by omega
            unfold bitio_Reader_get_p1 bitio_Reader_get_p1_b
            repeat (first | (with_reducible refine (hp2 _ _).trans ?_) | ((with_reducible refine go_ip (x := ?_) ?_ ?_); rotate_left 1; (first | ((with_reducible refine (m _).trans ?_); rfl) | rfl)) | ((with_reducible refine go_bp (x := ?_) ?_ ?_); rotate_left 1; (first | ((with_reducible refine (m _).trans ?_); rfl) | rfl)) | ((with_reducible refine go_lp (x := ?_) (l := ?_) (c := ?_) ?_ ?_); rotate_left 3; (first | ((with_reducible refine (m _).trans ?_); rfl) | rfl)) | ((with_reducible refine go_pp (x := ?_) ?_ ?_); rotate_left 1; (first | ((with_reducible refine (m _).trans ?_); rfl) | rfl)) | ((with_reducible refine go_i (x := ?_) ?_ ?_); rotate_left 1; (first | ((with_reducible refine (m _).trans ?_); rfl) | rfl)) | ((with_reducible refine go_b (x := ?_) ?_ ?_); rotate_left 1; (first | ((with_reducible refine (m _).trans ?_); rfl) | rfl)) | ((with_reducible refine go_l (x := ?_) (l := ?_) (c := ?_) ?_ ?_); rotate_left 3; (first | ((with_reducible refine (m _).trans ?_); rfl) | rfl)) | ((with_reducible refine go_p (x := ?_) ?_ ?_); rotate_left 1; (first | ((with_reducible refine (m _).trans ?_); rfl) | rfl)) | ((with_reducible refine go_halst rfl ?_ ?_ ?_); rfl; rfl) | (with_reducible refine go_halN rfl ?_) | (with_reducible refine go_t d3 ?_) | (with_reducible refine go_f d3 ?_) | ((with_reducible refine go_t ?_ ?_); (show _ = true; rfl)) | ((with_reducible refine go_f ?_ ?_); (show _ = false; rfl)) | (with_reducible refine go_ne ?_) | (with_reducible refine go_eq ?_) | (with_reducible refine go_fad ?_) | (with_reducible refine go_nil ?_))
            rw [h8]; rfl
        obtain ⟨H1, e1, O1, b1, n1⟩ := Rd.st2 hO (a + 1)
        obtain ⟨H2, e2, O2, b2, n2⟩ := Rd.st3 O1 (szr bs a)
        obtain ⟨H3, e3, O3, b3⟩ := tail H2 (a + 1) (szr bs a - 1) (by rw [show szr bs a - 1 + 1 = szr bs a from by omega]; exact O2) (b1.trans b2) (by omega) (by omega) (by omega)
        have w1 : IntKind.wrap .i64 (((a : Nat) : Int) + 1) = ((a + 1 : Nat) : Int) := by rw [w64 (by omega) (by omega)]; omega
        have e1' : ∀ (R : Type) (K : Heap → Option R), hst1 H (some ⟨p, 2, none⟩) (.int .i64 (IntKind.wrap .i64 (((a : Nat) : Int) + 1))) K = K H1 := by rw [w1]; exact e1
        rw [er] at hr ⊢
        refine ⟨H3, fun R K => ?_, ⟨⟨c, O3⟩, h.sh.but b3 h.ap, h.ap, hr, h.by_⟩, b3⟩
        unfold bitio_Reader_get bitio_Reader_get_b bitio_Reader_get_p0 bitio_Reader_get_p0_b
        dsimp only
        refine go_nil (go_fad ?_)
        repeat (first | (with_reducible refine (hp1 _ _ _).trans ?_) | (with_reducible refine (e1' _ _).trans ?_) | (with_reducible refine (e2 _ _).trans ?_) | ((with_reducible refine go_ip (x := ?_) ?_ ?_); rotate_left 1; (first | ((with_reducible refine (m _).trans ?_); rfl) | rfl)) | ((with_reducible refine go_bp (x := ?_) ?_ ?_); rotate_left 1; (first | ((with_reducible refine (m _).trans ?_); rfl) | rfl)) | ((with_reducible refine go_lp (x := ?_) (l := ?_) (c := ?_) ?_ ?_); rotate_left 3; (first | ((with_reducible refine (m _).trans ?_); rfl) | rfl)) | ((with_reducible refine go_pp (x := ?_) ?_ ?_); rotate_left 1; (first | ((with_reducible refine (m _).trans ?_); rfl) | rfl)) | ((with_reducible refine go_i (x := ?_) ?_ ?_); rotate_left 1; (first | ((with_reducible refine (m _).trans ?_); rfl) | rfl)) | ((with_reducible refine go_b (x := ?_) ?_ ?_); rotate_left 1; (first | ((with_reducible refine (m _).trans ?_); rfl) | rfl)) | ((with_reducible refine go_l (x := ?_) (l := ?_) (c := ?_) ?_ ?_); rotate_left 3; (first | ((with_reducible refine (m _).trans ?_); rfl) | rfl)) | ((with_reducible refine go_p (x := ?_) ?_ ?_); rotate_left 1; (first | ((with_reducible refine (m _).trans ?_); rfl) | rfl)) | ((with_reducible refine go_halst rfl ?_ ?_ ?_); rfl; rfl) | (with_reducible refine go_halN rfl ?_) | (with_reducible refine go_t d0 ?_) | (with_reducible refine go_f d0 ?_) | (with_reducible refine go_t d1 ?_) | (with_reducible refine go_f d1 ?_) | ((with_reducible refine go_t ?_ ?_); (show _ = true; rfl)) | ((with_reducible refine go_f ?_ ?_); (show _ = false; rfl)) | (with_reducible refine go_ne ?_) | (with_reducible refine go_eq ?_) | (with_reducible refine go_fad ?_) | (with_reducible refine go_nil ?_))
        exact e3 R K
  · have d0 : (((l : Nat) : Int) == 0) = false := by rw [beq_eq_false_iff_ne]; omega
    have er : rget bs (a, l) = ((((bitr bs a (l - 1) : Nat) : Int), 0), a, l - 1) := by unfold rget; rw [if_neg hl0]
    obtain ⟨H3, e3, O3, b3⟩ := tail H a (l - 1) (by rw [show l - 1 + 1 = l from by omega]; exact hO) (.refl _ _) (by omega) (by omega) (by omega)
    rw [er] at hr ⊢
    refine ⟨H3, fun R K => ?_, ⟨⟨c, O3⟩, h.sh.but b3 h.ap, h.ap, hr, h.by_⟩, b3⟩
    unfold bitio_Reader_get bitio_Reader_get_b bitio_Reader_get_p0 bitio_Reader_get_p0_b
    dsimp only
    refine go_nil (go_fad ?_)
    refine go_i (m 3) (go_f d0 ?_)
    exact e3 R K
end Go.Proofs.Ytblkejnciinaeaa.Sh
