/- Bitio: the bytes of a writer. -/
import Derived.Test.YtblkejnciinaeaaBtE
set_option linter.unusedVariables false
set_option linter.unusedSimpArgs false
namespace Go.Proofs.Ytblkejnciinaeaa.Sh
open Go.Proofs.Ytblkejnciinaeaa.FW Go.IntWalk
/-- An element of a row of bytes, of a row of numbers. -/
theorem byte_at {H : Heap} {q : Option Addr} {xs : List Int} (h : Shows H q (byt xs)) {i : Nat} {x : Int} (hi : xs[i]? = some x) :
    ∃ p, (∀ (R : Type) (K : Option Addr → Option R), hidx q xs.length (i : Int) 1 K = K p) ∧ ∀ (R : Type) (K : Int → Option R), ldI .u8 H p K = K x := by
  have hl := (List.getElem?_eq_some_iff.1 hi).1
  obtain ⟨p, e, _, m⟩ := h.idx (l := xs.length) (size := 1) (by rw [byt_len]; omega) (i := (i : Int)) (by omega) (by omega) (by omega)
  exact ⟨p, e, fun R K => ldI_of (m _ (by rw [Int.toNat_natCast, Nat.mul_one]; simp [byt, hi])) rfl K⟩
theorem num_at {H : Heap} {q : Option Addr} {xs : List Int} (h : Shows H q (b64 xs)) {i : Nat} {x : Int} (hi : xs[i]? = some x) :
    ∃ p, (∀ (R : Type) (K : Option Addr → Option R), hidx q xs.length (i : Int) 1 K = K p) ∧ ∀ (R : Type) (K : Int → Option R), ldI .i64 H p K = K x := by
  have hl := (List.getElem?_eq_some_iff.1 hi).1
  obtain ⟨p, e, _, m⟩ := h.idx (l := xs.length) (size := 1) (by rw [b64_len]; omega) (i := (i : Int)) (by omega) (by omega) (by omega)
  exact ⟨p, e, fun R K => ldI_of (m _ (by rw [Int.toNat_natCast, Nat.mul_one]; simp [b64, hi])) rfl K⟩
/-- The bytes in the end: of the full ones and the bits behind them. -/
def fnB (b t : List Int) : List Int := if t.length = 0 then (if sz b = 7 then b ++ [0] else b) else b ++ [((val t * 2 ^ (sz b - t.length) : Nat) : Int)]
theorem hslc_all {q : Option Addr} {l c : Nat} (hc : c < unk) (hl : l ≤ c) (R : Type) (K : Option Addr → Nat → Nat → Option R) (b : Nat) (hq : q = some ⟨b, 0, none⟩) : hslc 1 q l c none (some ((l : Nat) : Int)) (some ((l : Nat) : Int)) K = K q l l := by
  subst hq
  have hne : c ≠ unk := by omega
  unfold hslc
  simp only [Option.getD_some, Option.getD_none, if_neg hne, Option.isSome_some]
  rw [if_pos ⟨by omega, by omega, by omega, by omega, by omega⟩, if_neg (fun h => hne h.1)]
  by_cases h0 : ((l : Nat) : Int) = 0
  · rw [if_pos h0]
    have : l = 0 := by omega
    subst this; rfl
  · rw [if_neg h0, if_pos trivial]
    have e1 : ((l : Nat) : Int).toNat - (0 : Int).toNat = l := by simp
    rw [e1]
theorem bytes_eq (k : Nat) {N : Nat} {H : Heap} {p : Nat} {q : Option Addr} {l : List Int} (h : Wr N H p q l) (hl : l.length < 1000000) :
    ∃ b pre t H' z, l = pre ++ t ∧ Full b pre ∧ t.length < sz b ∧ (∀ (R : Type) (K : Option Addr → Nat → Nat → Heap → Option R), bitio_Writer_Bytes k (some ⟨p, 0, none⟩) H K = K (some ⟨H.length, 0, none⟩) (fnB b t).length (fnB b t).length H') ∧ Owns H' H.length (byt (fnB b t) ++ z) 0 ∧ Old H.length H H' := by
  have o := ok_eq h
  obtain ⟨c, b, pre, t, rfl, hF, ht, hO, hB, hbl⟩ := h.c
  have hs8 := sz_le b
  have hs7 := sz_ge b
  have hp := hO.lt
  have m : ∀ o, hcell H p o = (wcl q c b t (pre ++ t).length)[o]? := fun o => hO.sees.cell o
  obtain ⟨q1, H1, e1, C1, o1, n1⟩ := Cap.make (size := 1) (bytes := 1) H [.int .u8 0] rfl (n := b.length + 1) (by omega) (by omega)
  have e1' : ∀ (R : Type) (K : Option Addr → Nat → Nat → Heap → Option R), hmk [.int .u8 0] 1 H 0 (IntKind.wrap .i64 (((b.length : Nat) : Int) + 1)) K = K q1 0 (b.length + 1) H1 := fun R K => by
    rw [w64 (by omega) (by omega)]; exact e1 R K
  have hB1 : Shows H1 q (byt b) := hB.shows.1.keep o1
  have m1 : ∀ o, hcell H1 p o = (wcl q c b t (pre ++ t).length)[o]? := fun o => (hO.old o1 hp).sees.cell o
  obtain ⟨H2, e2, C2, o2, n2⟩ : ∃ H2, (∀ (R : Type) (K : Option Addr → Nat → Nat → Heap → Option R), happS 1 1 H1 q1 0 (b.length + 1) q b.length K = K q1 b.length (b.length + 1) H2) ∧ Cap H.length 1 H2 q1 b.length (b.length + 1) (byt b) ∧ Old H.length H1 H2 ∧ H2.length = H1.length := by
    by_cases h0 : b.length = 0
    · refine ⟨H1, fun R K => ?_, ?_, .refl _ _, rfl⟩
      · unfold happS happ
        rw [h0]
        simp only [Nat.zero_mul]
        have : FW.hcells H1 q 0 = some [] := by unfold FW.hcells; rfl
        rw [this]
        simp only
        rw [if_neg (by unfold unk; omega), if_pos (by omega), if_pos trivial]
      · rw [h0]
        have : b = [] := List.length_eq_zero_iff.1 h0
        subst this; exact C1
    · obtain ⟨H2, e2, C2, o2, n2⟩ := C1.app (bytes := 1) hB1 (n := b.length) (by rw [byt_len]; omega) (byt_one b) (by omega) (by omega)
      rw [Nat.zero_add] at e2 C2
      exact ⟨H2, e2, by simpa using C2, o2, n2⟩
  have o12 : Old H.length H H2 := o1.trans o2
  have m2 : ∀ o, hcell H2 p o = (wcl q c b t (pre ++ t).length)[o]? := fun o => (hO.old o12 hp).sees.cell o
  have hq1 : q1 = some ⟨H.length, 0, none⟩ := by
    have := e1 (Option Addr) fun q _ _ _ => some q
    unfold hmk at this
    rw [if_pos ⟨by omega, by omega, by omega, by omega⟩] at this
    simpa using this.symm
  subst hq1
  have last : ∀ (v : Int), ∃ H3 z, (∀ (R : Type) (K : Option Addr → Nat → Nat → Heap → Option R), happS 1 1 (H2 ++ [some ⟨[.int .u8 v], false, 0⟩]) (some ⟨H.length, 0, none⟩) b.length (b.length + 1) (some ⟨H2.length, 0, none⟩) 1 K = K (some ⟨H.length, 0, none⟩) (b.length + 1) (b.length + 1) H3) ∧ Owns H3 H.length (byt (b ++ [v]) ++ z) 0 ∧ Old H.length H H3 := fun v => by
    have C3 := C2.old (Old.app H2 [some ⟨[.int .u8 v], false, 0⟩]) (Nat.le_refl _)
    have hp : Shows (H2 ++ [some (⟨[.int .u8 v], false, 0⟩ : Blk)]) (some ⟨H2.length, 0, none⟩) [.int .u8 v] := Sees.shows ⟨_, hblk_new H2 _, rfl⟩
    obtain ⟨H3, e3, C4, o3, n3⟩ := C3.app (bytes := 1) hp (n := 1) rfl rfl (by omega) (by omega)
    obtain ⟨bb, z, hb, _, _, O, _⟩ := C4
    cases hb
    refine ⟨H3, z, e3, by rw [byt_app]; exact O, o12.trans ((Old.app H2 _).mono (by have := o12.1; omega) |>.trans o3)⟩
  have main : ∀ (bs : List Int) (c' : Nat) (H3 : Heap) (z : List Value), (∀ (R : Type) (KN : Option Addr → Nat → Nat → Heap → Option R), bitio_Writer_Bytes_p0 k (some ⟨p, 0, none⟩) (some ⟨H.length, 0, none⟩) b.length (b.length + 1) H2 KN = KN (some ⟨H.length, 0, none⟩) bs.length c' H3) → c' < unk → bs.length ≤ c' → Owns H3 H.length (byt bs ++ z) 0 → Old H.length H H3 → bs = fnB b t → ∃ H' z, (∀ (R : Type) (K : Option Addr → Nat → Nat → Heap → Option R), bitio_Writer_Bytes k (some ⟨p, 0, none⟩) H K = K (some ⟨H.length, 0, none⟩) (fnB b t).length (fnB b t).length H') ∧ Owns H' H.length (byt (fnB b t) ++ z) 0 ∧ Old H.length H H' := by
    intro bs c' H3 z g hc' hl' hO3 o3 hbs
    subst hbs
    refine ⟨H3, z, fun R K => ?_, hO3, o3⟩
    have hs := hslc_all hc' hl' (b := H.length) (hq := rfl)
    unfold bitio_Writer_Bytes bitio_Writer_Bytes_b
    repeat (first | (with_reducible refine (o _ _).trans ?_) | (with_reducible refine (e1' _ _).trans ?_) | (with_reducible refine (e2 _ _).trans ?_) | (with_reducible refine (g _ _).trans ?_) | (with_reducible refine (hs _ _).trans ?_) | ((with_reducible refine go_ip (x := ?_) ?_ ?_); rotate_left 1; (first | ((with_reducible refine (m _).trans ?_); rfl) | ((with_reducible refine (m1 _).trans ?_); rfl) | ((with_reducible refine (m2 _).trans ?_); rfl) | rfl)) | ((with_reducible refine go_bp (x := ?_) ?_ ?_); rotate_left 1; (first | ((with_reducible refine (m _).trans ?_); rfl) | ((with_reducible refine (m1 _).trans ?_); rfl) | ((with_reducible refine (m2 _).trans ?_); rfl) | rfl)) | ((with_reducible refine go_lp (x := ?_) (l := ?_) (c := ?_) ?_ ?_); rotate_left 3; (first | ((with_reducible refine (m _).trans ?_); rfl) | ((with_reducible refine (m1 _).trans ?_); rfl) | ((with_reducible refine (m2 _).trans ?_); rfl) | rfl)) | ((with_reducible refine go_pp (x := ?_) ?_ ?_); rotate_left 1; (first | ((with_reducible refine (m _).trans ?_); rfl) | ((with_reducible refine (m1 _).trans ?_); rfl) | ((with_reducible refine (m2 _).trans ?_); rfl) | rfl)) | ((with_reducible refine go_i (x := ?_) ?_ ?_); rotate_left 1; (first | ((with_reducible refine (m _).trans ?_); rfl) | ((with_reducible refine (m1 _).trans ?_); rfl) | ((with_reducible refine (m2 _).trans ?_); rfl) | rfl)) | ((with_reducible refine go_b (x := ?_) ?_ ?_); rotate_left 1; (first | ((with_reducible refine (m _).trans ?_); rfl) | ((with_reducible refine (m1 _).trans ?_); rfl) | ((with_reducible refine (m2 _).trans ?_); rfl) | rfl)) | ((with_reducible refine go_l (x := ?_) (l := ?_) (c := ?_) ?_ ?_); rotate_left 3; (first | ((with_reducible refine (m _).trans ?_); rfl) | ((with_reducible refine (m1 _).trans ?_); rfl) | ((with_reducible refine (m2 _).trans ?_); rfl) | rfl)) | ((with_reducible refine go_p (x := ?_) ?_ ?_); rotate_left 1; (first | ((with_reducible refine (m _).trans ?_); rfl) | ((with_reducible refine (m1 _).trans ?_); rfl) | ((with_reducible refine (m2 _).trans ?_); rfl) | rfl)) | ((with_reducible refine go_halst rfl ?_ ?_ ?_); rfl; rfl) | (with_reducible refine go_halN rfl ?_) | ((with_reducible refine go_t ?_ ?_); (show _ = true; rfl)) | ((with_reducible refine go_f ?_ ?_); (show _ = false; rfl)) | (with_reducible refine go_ne ?_) | (with_reducible refine go_eq ?_) | (with_reducible refine go_fad ?_) | (with_reducible refine go_nil ?_))
    rfl
  have fin : ∃ H' z, (∀ (R : Type) (K : Option Addr → Nat → Nat → Heap → Option R), bitio_Writer_Bytes k (some ⟨p, 0, none⟩) H K = K (some ⟨H.length, 0, none⟩) (fnB b t).length (fnB b t).length H') ∧ Owns H' H.length (byt (fnB b t) ++ z) 0 ∧ Old H.length H H' := by
    by_cases h0 : t.length = 0
    · have d0 : decide (((t.length : Nat) : Int) > 0) = false := decide_eq_false (by omega)
      by_cases h7 : sz b = 7
      · have d7 : (((sz b : Nat) : Int) == 7) = true := by rw [h7]; rfl
        obtain ⟨H3, z, e3, O3, o3⟩ := last 0
        refine main (b ++ [0]) (b.length + 1) H3 z (fun R KN => ?_) (by unfold unk; omega) (by simp) O3 o3 (by unfold fnB; rw [if_pos h0, if_pos h7])
        unfold bitio_Writer_Bytes_p0 bitio_Writer_Bytes_p0_b
        repeat (first | (with_reducible refine (e3 _ _).trans ?_) | ((with_reducible refine go_ip (x := ?_) ?_ ?_); rotate_left 1; (first | ((with_reducible refine (m2 _).trans ?_); rfl) | rfl)) | ((with_reducible refine go_bp (x := ?_) ?_ ?_); rotate_left 1; (first | ((with_reducible refine (m2 _).trans ?_); rfl) | rfl)) | ((with_reducible refine go_lp (x := ?_) (l := ?_) (c := ?_) ?_ ?_); rotate_left 3; (first | ((with_reducible refine (m2 _).trans ?_); rfl) | rfl)) | ((with_reducible refine go_pp (x := ?_) ?_ ?_); rotate_left 1; (first | ((with_reducible refine (m2 _).trans ?_); rfl) | rfl)) | ((with_reducible refine go_i (x := ?_) ?_ ?_); rotate_left 1; (first | ((with_reducible refine (m2 _).trans ?_); rfl) | rfl)) | ((with_reducible refine go_b (x := ?_) ?_ ?_); rotate_left 1; (first | ((with_reducible refine (m2 _).trans ?_); rfl) | rfl)) | ((with_reducible refine go_l (x := ?_) (l := ?_) (c := ?_) ?_ ?_); rotate_left 3; (first | ((with_reducible refine (m2 _).trans ?_); rfl) | rfl)) | ((with_reducible refine go_p (x := ?_) ?_ ?_); rotate_left 1; (first | ((with_reducible refine (m2 _).trans ?_); rfl) | rfl)) | ((with_reducible refine go_halst rfl ?_ ?_ ?_); rfl; rfl) | (with_reducible refine go_halN rfl ?_) | (with_reducible refine go_t d0 ?_) | (with_reducible refine go_f d0 ?_) | (with_reducible refine go_t d7 ?_) | (with_reducible refine go_f d7 ?_) | ((with_reducible refine go_t ?_ ?_); (show _ = true; rfl)) | ((with_reducible refine go_f ?_ ?_); (show _ = false; rfl)) | (with_reducible refine go_ne ?_) | (with_reducible refine go_eq ?_) | (with_reducible refine go_fad ?_) | (with_reducible refine go_nil ?_))
        rw [List.length_append]; rfl
      · have d7 : (((sz b : Nat) : Int) == 7) = false := by simp; omega
        obtain ⟨bb, z, hb, _, _, O, _⟩ := C2
        cases hb
        refine main b (b.length + 1) H2 z (fun R KN => ?_) (by unfold unk; omega) (by omega) O o12 (by unfold fnB; rw [if_pos h0, if_neg h7])
        unfold bitio_Writer_Bytes_p0 bitio_Writer_Bytes_p0_b
        repeat (first | ((with_reducible refine go_ip (x := ?_) ?_ ?_); rotate_left 1; (first | ((with_reducible refine (m2 _).trans ?_); rfl) | rfl)) | ((with_reducible refine go_bp (x := ?_) ?_ ?_); rotate_left 1; (first | ((with_reducible refine (m2 _).trans ?_); rfl) | rfl)) | ((with_reducible refine go_lp (x := ?_) (l := ?_) (c := ?_) ?_ ?_); rotate_left 3; (first | ((with_reducible refine (m2 _).trans ?_); rfl) | rfl)) | ((with_reducible refine go_pp (x := ?_) ?_ ?_); rotate_left 1; (first | ((with_reducible refine (m2 _).trans ?_); rfl) | rfl)) | ((with_reducible refine go_i (x := ?_) ?_ ?_); rotate_left 1; (first | ((with_reducible refine (m2 _).trans ?_); rfl) | rfl)) | ((with_reducible refine go_b (x := ?_) ?_ ?_); rotate_left 1; (first | ((with_reducible refine (m2 _).trans ?_); rfl) | rfl)) | ((with_reducible refine go_l (x := ?_) (l := ?_) (c := ?_) ?_ ?_); rotate_left 3; (first | ((with_reducible refine (m2 _).trans ?_); rfl) | rfl)) | ((with_reducible refine go_p (x := ?_) ?_ ?_); rotate_left 1; (first | ((with_reducible refine (m2 _).trans ?_); rfl) | rfl)) | ((with_reducible refine go_halst rfl ?_ ?_ ?_); rfl; rfl) | (with_reducible refine go_halN rfl ?_) | (with_reducible refine go_t d0 ?_) | (with_reducible refine go_f d0 ?_) | (with_reducible refine go_t d7 ?_) | (with_reducible refine go_f d7 ?_) | ((with_reducible refine go_t ?_ ?_); (show _ = true; rfl)) | ((with_reducible refine go_f ?_ ?_); (show _ = false; rfl)) | (with_reducible refine go_ne ?_) | (with_reducible refine go_eq ?_) | (with_reducible refine go_fad ?_) | (with_reducible refine go_nil ?_))
        rfl
    · have d0 : decide (((t.length : Nat) : Int) > 0) = true := decide_eq_true (by omega)
      obtain ⟨H3, z, e3, O3, o3⟩ := last ((val t * 2 ^ (sz b - t.length) : Nat) : Int)
      have hv := val_lt t
      have hv2 : val t * 2 ^ (sz b - t.length) < 256 := by
        have h1 : val t * 2 ^ (sz b - t.length) < 2 ^ t.length * 2 ^ (sz b - t.length) := Nat.mul_lt_mul_of_pos_right hv (Nat.two_pow_pos _)
        rw [← Nat.pow_add, show t.length + (sz b - t.length) = sz b from by omega] at h1
        exact Nat.lt_of_lt_of_le h1 (Nat.pow_le_pow_right (n := 2) (by omega) hs8)
      have s1 : ∀ (R : Type) (K : Int → Option R), hbin .shl .u8 ((val t : Nat) : Int) (IntKind.wrap .u64 (IntKind.wrap .i64 (((sz b : Nat) : Int) - ((t.length : Nat) : Int)))) K = K ((val t * 2 ^ (sz b - t.length) : Nat) : Int) := fun R K => by
        rw [w64 (by omega) (by omega), show ((sz b : Nat) : Int) - ((t.length : Nat) : Int) = ((sz b - t.length : Nat) : Int) from by omega]
        exact shl8 (by omega) hv2 K
      refine main (b ++ [((val t * 2 ^ (sz b - t.length) : Nat) : Int)]) (b.length + 1) H3 z (fun R KN => ?_) (by unfold unk; omega) (by simp) O3 o3 (by unfold fnB; rw [if_neg h0])
      unfold bitio_Writer_Bytes_p0 bitio_Writer_Bytes_p0_b
      repeat (first | (with_reducible refine (s1 _ _).trans ?_) | (with_reducible refine (e3 _ _).trans ?_) | ((with_reducible refine go_ip (x := ?_) ?_ ?_); rotate_left 1; (first | ((with_reducible refine (m2 _).trans ?_); rfl) | rfl)) | ((with_reducible refine go_bp (x := ?_) ?_ ?_); rotate_left 1; (first | ((with_reducible refine (m2 _).trans ?_); rfl) | rfl)) | ((with_reducible refine go_lp (x := ?_) (l := ?_) (c := ?_) ?_ ?_); rotate_left 3; (first | ((with_reducible refine (m2 _).trans ?_); rfl) | rfl)) | ((with_reducible refine go_pp (x := ?_) ?_ ?_); rotate_left 1; (first | ((with_reducible refine (m2 _).trans ?_); rfl) | rfl)) | ((with_reducible refine go_i (x := ?_) ?_ ?_); rotate_left 1; (first | ((with_reducible refine (m2 _).trans ?_); rfl) | rfl)) | ((with_reducible refine go_b (x := ?_) ?_ ?_); rotate_left 1; (first | ((with_reducible refine (m2 _).trans ?_); rfl) | rfl)) | ((with_reducible refine go_l (x := ?_) (l := ?_) (c := ?_) ?_ ?_); rotate_left 3; (first | ((with_reducible refine (m2 _).trans ?_); rfl) | rfl)) | ((with_reducible refine go_p (x := ?_) ?_ ?_); rotate_left 1; (first | ((with_reducible refine (m2 _).trans ?_); rfl) | rfl)) | ((with_reducible refine go_halst rfl ?_ ?_ ?_); rfl; rfl) | (with_reducible refine go_halN rfl ?_) | (with_reducible refine go_t d0 ?_) | (with_reducible refine go_f d0 ?_) | ((with_reducible refine go_t ?_ ?_); (show _ = true; rfl)) | ((with_reducible refine go_f ?_ ?_); (show _ = false; rfl)) | (with_reducible refine go_ne ?_) | (with_reducible refine go_eq ?_) | (with_reducible refine go_fad ?_) | (with_reducible refine go_nil ?_))
      rw [List.length_append]; rfl
  obtain ⟨H', z, g1, g2, g3⟩ := fin
  exact ⟨b, pre, t, H', z, rfl, hF, ht, g1, g2, g3⟩
end Go.Proofs.Ytblkejnciinaeaa.Sh
