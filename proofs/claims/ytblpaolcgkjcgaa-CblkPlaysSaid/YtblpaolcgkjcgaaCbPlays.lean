/- The calls of a block return what the reference's return, and leave the same values and flags. -/
import Derived.Test.YtblpaolcgkjcgaaCbI
import Derived.Test.YtblpaolcgkjcgaaCbOps
set_option linter.unusedVariables false
set_option linter.unusedSimpArgs false
namespace Go.Proofs.Ytblpaolcgkjcgaa.Sh
open Go.Proofs.Ytblpaolcgkjcgaa.FW
theorem plays_loop (k : Nat) (hk : 70 < k) {N : Nat} {q : Option Addr} {ops : List Op4} (c : Nat) (hq : ops.flatMap opc = [] ∨ Below N q) (hlen : ops.length < 1000000) {a1 a2 b1 b2 w h : Nat} : ∀ (m n i : Nat), m < n → ops.length = i + m → ∀ (H : Heap) (g : Nat → Cel), Two N H a1 a2 b1 b2 w h g → Shows H q (ops.flatMap opc) → AllRo N H → N ≤ H.length →
    ∃ H', (∀ (R : Type) (KE : Int → Int → Option Addr → Option Addr → Heap → Option R) (KR : Bool → Heap → Option R), L_CblkPlays_l3 k KE KR n (w : Int) (h : Int) q ops.length c (some ⟨a1, 0, none⟩) (some ⟨b1, 0, none⟩) (i : Int) H = KE w h (some ⟨a1, 0, none⟩) (some ⟨b1, 0, none⟩) H') ∧ Two N H' a1 a2 b1 b2 w h (plays w h g (ops.drop i)) ∧ Old N H H' := by
  intro m
  induction m with
  | zero =>
    intro n i hn hi H g T hS hA hN
    obtain ⟨n, rfl⟩ : ∃ n', n = n' + 1 := ⟨n - 1, by omega⟩
    refine ⟨H, fun R KE KR => ?_, by rw [List.drop_of_length_le (by omega)]; exact T, .refl _ _⟩
    simp only [L_CblkPlays_l3]
    unfold L_CblkPlays_l3_b
    have ed : decide ((i : Int) < ((ops.length : Nat) : Int)) = false := by simp; omega
    rw [ed, cond_false]
  | succ m ih =>
    intro n i hn hi H g T hS hA hN
    obtain ⟨n, rfl⟩ : ∃ n', n = n' + 1 := ⟨n - 1, by omega⟩
    have ho : ops[i]? = some ops[i] := List.getElem?_eq_getElem (by omega)
    obtain ⟨p, e1, l1⟩ := op_lds hS ho
    have hro : isRo H p = true := hS.idx_ro hA hq (l := ops.length) (size := 4) (by rw [flat_ops_len]; exact Nat.le_refl _) (i := i) (by omega) (by omega) (by omega) e1
    obtain ⟨H1, e2, A1, c1⟩ := do_eq k T.a ops[i].1 ops[i].2.1 ops[i].2.2.1 ops[i].2.2.2
    have B1 := T.b.other c1 T.d3 (Ne.symm T.d2)
    have o1 := c1.old T.na hN
    obtain ⟨H2, e3, B2, c2⟩ := want_eq k B1 ops[i].1 ops[i].2.1 ops[i].2.2.1 ops[i].2.2.2
    have A2 := A1.other c2 T.d1 T.d2
    have o2 := c2.old T.nb (Nat.le_trans hN o1.1)
    have T2 : Two N H2 a1 a2 b1 b2 w h _ := ⟨A2, B2, T.d1, T.d2, T.d3, T.na, T.nb⟩
    obtain ⟨H3, e4, T3, o3⟩ := alike_eq k hk T2
    have o123 : Old N H H3 := o1.trans (o2.trans (o3.mono (Nat.le_trans hN (Nat.le_trans o1.1 o2.1))))
    obtain ⟨H', i1, i2, i3⟩ := ih n (i + 1) (by omega) (by omega) H3 _ T3 (hS.old o123 hq) (hA.old o123) (Nat.le_trans hN o123.1)
    refine ⟨H', fun R KE KR => ?_, ?_, o123.trans i3⟩
    · refine Eq.trans ?_ (i1 R KE KR)
      simp only [L_CblkPlays_l3]
      unfold L_CblkPlays_l3_b L_CblkPlays_p4 L_CblkPlays_p4_b
      have ed : decide ((i : Int) < ((ops.length : Nat) : Int)) = true := by simp; omega
      rw [ed, cond_true, e1]
      simp only [l1, e2, e1, hro, cond_true, e3, bne_self_eq_false, cond_false, e4, Bool.not_true]
      rw [w64 (by omega) (by omega)]
      rfl
    · rw [List.drop_eq_getElem_cons (by omega)]
      exact i2
/-- Sizes that are not valid. -/
theorem New_no {H : Heap} {x y : Int} (hs : isz x y = false) : ∃ e : Int, e ≠ 0 ∧ (∀ (R : Type) (K : Option Addr → Int → Heap → Option R), cblk_New x y H K = K none e H) ∧ (∀ (R : Type) (K : Option Addr → Int → Heap → Option R), R14_New x y H K = K none e H) := by
  refine ⟨2, by decide, fun R K => ?_, fun R K => ?_⟩
  · unfold cblk_New cblk_New_b
    rw [sized_eq, hs]; rfl
  · unfold R14_New R14_New_b
    rw [sizedR_eq, hs]; rfl
theorem plays_in (H : Heap) (us : List Value) (hA : AllRo H.length H) (h : AllLies H [(.int .i64, false), (.int .i64, false), (.slc dOp, false)] us) : L_CblkPlays_c Bool 1000 us H asB = some true := by
  obtain ⟨w, _, rfl, _, h⟩ := lies_int h
  obtain ⟨ht, _, rfl, _, h⟩ := lies_int h
  obtain ⟨q, c, es, _, rfl, _, _, hes, hS, h⟩ := lies_slc h
  cases lies_nil h
  obtain ⟨ops, hl, hf, _⟩ := ops_of es hes
  rw [hf] at hS
  rw [← hl]
  show L_CblkPlays 1000 w ht q ops.length c H (fun t H => asB (.bool t) H) = some true
  unfold L_CblkPlays L_CblkPlays_b
  cases hs : isz w ht with
  | false =>
    obtain ⟨e, he, e1, e2⟩ := New_no (H := H) hs
    rw [e1, e2]
    unfold L_CblkPlays_p0 L_CblkPlays_p0_b cblk_Block_Size cblk_Block_Size_b
    have : (e != 0) = true := by simpa using he
    simp only [bne_self_eq_false, cond_false, this, cond_true, Option.isSome_none, Option.isNone_none, beq_self_eq_true, Bool.false_eq_true]
    rfl
  | true =>
    obtain ⟨a, b, rfl, rfl, h1, h2, h3, h4⟩ : ∃ a b : Nat, w = a ∧ ht = b ∧ 1 ≤ a ∧ a ≤ 64 ∧ 1 ≤ b ∧ b ≤ 64 := by
      unfold isz at hs
      simp only [Bool.and_eq_true, decide_eq_true_eq] at hs
      exact ⟨w.toNat, ht.toNat, by omega, by omega, by omega, by omega, by omega, by omega⟩
    obtain ⟨H1, e1, A, o1, n1⟩ := New_eq H h1 h2 h3 h4
    obtain ⟨H2, e2, B, o2, n2⟩ := NewR_eq H1 h1 h2 h3 h4
    have o12 : Old H.length H H2 := o1.trans (o2.mono o1.1)
    have T : Two H.length H2 (H.length + 1) H.length (H1.length + 1) H1.length a b (fun _ => cel0) := ⟨A.keep o2, B, by omega, by omega, by omega, Nat.le_refl _, by omega⟩
    rw [e1, e2]
    unfold L_CblkPlays_p0 L_CblkPlays_p0_b L_CblkPlays_p1 L_CblkPlays_p1_b L_CblkPlays_p2 L_CblkPlays_p2_b
    simp only [bne_self_eq_false, cond_false, Size_eq T.a.r]
    by_cases c1 : a > 12
    · have : decide ((a : Int) > 12) = true := by simp; omega
      simp only [this, cond_true]; rfl
    · by_cases c2 : b > 12
      · have d1 : decide ((a : Int) > 12) = false := by simp; omega
        have d2 : decide ((b : Int) > 12) = true := by simp; omega
        simp only [d1, d2, cond_true, cond_false]; rfl
      · by_cases c3 : ops.length > 40
        · have d1 : decide ((a : Int) > 12) = false := by simp; omega
          have d2 : decide ((b : Int) > 12) = false := by simp; omega
          have d3 : decide (((ops.length : Nat) : Int) > 40) = true := by simp; omega
          simp only [d1, d2, d3, cond_true, cond_false]; rfl
        · have d1 : decide ((a : Int) > 12) = false := by simp; omega
          have d2 : decide ((b : Int) > 12) = false := by simp; omega
          have d3 : decide (((ops.length : Nat) : Int) > 40) = false := by simp; omega
          simp only [d1, d2, d3, cond_false]
          have hb := shows_below hS
          obtain ⟨H3, e3, T3, o3⟩ := plays_loop 1000 (by omega) c hb (by omega) ops.length 1000 0 (by omega) (by omega) H2 _ T (hS.old o12 hb) (hA.old o12) o12.1
          obtain ⟨H4, e4, T4, o4⟩ := alike_eq 1000 (by omega) T3
          have e3' := e3 Bool
          simp only [Int.natCast_zero] at e3'
          rw [e3', e4]
          simp only [cond_true]
          rfl
end Go.Proofs.Ytblpaolcgkjcgaa.Sh
