/- What Apply comes to, and that the reference's comes to the same (plain lists). -/
import Derived.Test.YtloncbnceccbaaaQx9
import Derived.Test.YtloncbnceccbaaaQx8
import Derived.Test.YtloncbnceccbaaaArith
namespace Go.Proofs.Ytloncbnceccbaaa.Arith
open Go.RowKit Go.Proofs.Ytloncbnceccbaaa.Q Go.Proofs.YtloncbnceccbaaaW.PrintWords Go.Proofs.YtloncbnceccbaaaW.PrintLast Go.Proofs.YtloncbnceccbaaaW.PrintMore
theorem rd_get (l : List Int) (i : Nat) (h : i < l.length) : rd l (i : Int) = l[i] := by
  unfold rd
  rw [Int.toNat_natCast, List.getD_eq_getElem?_getD, List.getElem?_eq_getElem h]
  rfl
theorem take_set (l : List Int) (v : Int) : ∀ i : Nat, i < l.length → (l.set i v).take (i + 1) = l.take i ++ [v] := by
  intro i h
  rw [List.take_succ_eq_append_getElem (by simpa using h), List.take_set_of_le (Nat.le_refl i)]
  simp
theorem apply_l {s d : Int} (l : List Int) (hl : l.length ≤ 1000000) (x0 x1 x2 x3 : Int) :
    ∀ (j i : Nat) (acc : List Int), i + j = l.length → acc.length = l.length → acc.take i = (l.map fun c => Q c s d).take i →
      quant_Apply.l0 (j + 1) s d l (l.length : Int) (i : Int) x0 x1 x2 x3 acc = some (x0, x1, x2, x3, l.map (fun c => Q c s d), 0) := by
  intro j
  induction j with
  | zero =>
    intro i acc hi ha ht
    simp only [quant_Apply.l0]
    rw [if_neg (show ¬ (i : Int) < (l.length : Int) by omega)]
    rw [List.take_of_length_le (by omega), List.take_of_length_le (by simp; omega)] at ht
    rw [ht]
  | succ j ih =>
    intro i acc hi ha ht
    have h0 : i < l.length := by omega
    rw [quant_Apply.l0, if_pos (show (i : Int) < (l.length : Int) by omega), if_pos (show 0 ≤ (i : Int) by omega), if_pos (show (i : Int) < (l.length : Int) by omega), quantize_f, Option.bind_some, if_pos (show (i : Int) < (acc.length : Int) by omega), wid (by omega) (by omega), rd_get l i h0]
    refine ih (i + 1) _ (by omega) (by simpa using ha) ?_
    rw [Int.toNat_natCast, take_set _ _ _ (by omega), ht, List.take_succ_eq_append_getElem (by simpa using h0)]
    simp
theorem ref_apply_l {s d : Int} (l : List Int) (hl : l.length ≤ 1000000) (x0 x1 x2 x3 y0 y1 y2 y3 : Int) (k : Nat) :
    ∀ (j i : Nat) (acc : List Int), i + j = l.length → acc = (l.map fun c => Q c s d).take i →
      waveletref08_Apply.l0 (k + j + 3) s d (i : Int) x0 x1 x2 x3 l y0 y1 y2 y3 acc = some (y0, y1, y2, y3, l.map (fun c => Q c s d), 0) := by
  intro j
  induction j with
  | zero =>
    intro i acc hi ha
    simp only [waveletref08_Apply.l0]
    rw [if_neg (show ¬ (i : Int) < (l.length : Int) by omega)]
    rw [ha, List.take_of_length_le (by simp; omega)]
  | succ j ih =>
    intro i acc hi ha
    have h0 : i < l.length := by omega
    have hal : acc.length ≤ l.length := by rw [ha]; simp; omega
    rw [show k + (j + 1) + 3 = (k + j + 3) + 1 by omega, waveletref08_Apply.l0, if_pos (show (i : Int) < (l.length : Int) by omega), if_pos (show 0 ≤ (i : Int) by omega), show k + j + 3 = (k + j + 1) + 2 by omega, ref_quantize_f, Option.bind_some, if_pos (show acc.length < 17592186044416 by omega), wid (by omega) (by omega), rd_get l i h0]
    refine ih (i + 1) _ (by omega) ?_
    rw [ha, List.take_succ_eq_append_getElem (by simpa using h0)]
    simp
theorem same_l (l : List Int) (hl : l.length ≤ 1000000) : ∀ (j i : Nat), i + j = l.length → waveletref02_SameInts.l0 (j + 1) l l (i : Int) = some true := by
  intro j
  induction j with
  | zero =>
    intro i hi
    simp only [waveletref02_SameInts.l0]
    rw [if_neg (show ¬ (i : Int) < (l.length : Int) by omega)]
  | succ j ih =>
    intro i hi
    rw [waveletref02_SameInts.l0, if_pos (show (i : Int) < (l.length : Int) by omega), if_pos (show 0 ≤ (i : Int) by omega), if_pos (show (i : Int) < (l.length : Int) by omega), if_pos rfl, wid (by omega) (by omega)]
    exact ih (i + 1) (by omega)
theorem same_f (l : List Int) (hl : l.length ≤ 1000000) {k : Nat} (hk : l.length < k) : waveletref02_SameInts.f k l l = some true := by
  have h := same_l l hl l.length 0 (by omega)
  refine at_rounds (g := fun k => waveletref02_SameInts.f k l l) (waveletref02_SameInts.mono _ _) (k := l.length + 1) hk ?_
  unfold waveletref02_SameInts.f
  rw [if_pos rfl]
  exact h
theorem ref_plane_valid (a b c d : Int) (l : List Int) : waveletref02_Valid.f a b c d l = plane_Valid.f a b c d l := by
  have e : waveletref01_Valid.f a b c d = rect_Valid.f a b c d := rfl
  have e2 : waveletref01_Area.f a b c d = rect_Area.f a b c d := rfl
  unfold waveletref02_Valid.f plane_Valid.f
  rw [e, e2]
  have hv : ∃ v, rect_Valid.f a b c d = some v := by
    unfold rect_Valid.f
    repeat' split
    all_goals exact ⟨_, rfl⟩
  obtain ⟨v, hv⟩ := hv
  have ha : ∃ n, rect_Area.f a b c d = some n := by
    unfold rect_Area.f
    rw [hv, Option.bind_some]
    split <;> exact ⟨_, rfl⟩
  obtain ⟨n, ha⟩ := ha
  rw [hv, ha]
  rfl
theorem plane_valid_some (a b c d : Int) (l : List Int) : ∃ v, plane_Valid.f a b c d l = some v := by
  unfold plane_Valid.f
  have hv : ∃ v, rect_Valid.f a b c d = some v := by
    unfold rect_Valid.f
    repeat' split
    all_goals exact ⟨_, rfl⟩
  obtain ⟨v, hv⟩ := hv
  have ha : ∃ n, rect_Area.f a b c d = some n := by
    unfold rect_Area.f
    rw [hv, Option.bind_some]
    split <;> exact ⟨_, rfl⟩
  obtain ⟨n, ha⟩ := ha
  rw [hv, ha]
  simp only [Option.bind_some]
  repeat' split
  all_goals exact ⟨_, rfl⟩
theorem QuantApplies_pure (a b c d : Int) (l : List Int) (s e : Int) (hn : l.length ≤ 9223372036854775807) : ∃ k, waveletlaw08_QuantApplies.f k a b c d l s e = some true := by
  unfold waveletlaw08_QuantApplies.f
  by_cases hl : (l.length : Int) ≤ 400
  · refine ⟨1000, ?_⟩
    have hl' : l.length ≤ 400 := by omega
    have hex : waveletlaw08_exampleHolds.f 1000 = some true := at_rounds (g := waveletlaw08_exampleHolds.f) waveletlaw08_exampleHolds.mono (by decide : 80 ≤ 1000) example_holds
    obtain ⟨v, hv⟩ := plane_valid_some a b c d l
    have hq : ∃ r0 r1 r2 r3 r4 r5, quant_Apply.f 1000 a b c d l s e = some (r0, r1, r2, r3, r4, r5) ∧ waveletref08_Apply.f 1000 a b c d l s e = some (r0, r1, r2, r3, r4, r5) ∧ r4.length ≤ 400 := by
      unfold quant_Apply.f waveletref08_Apply.f
      rw [ref_plane_valid, hv, Option.bind_some, Option.bind_some]
      cases v with
      | false => exact ⟨0, 0, 0, 0, [], 1, by simp, by simp, by simp⟩
      | true =>
        rw [if_pos rfl, if_pos rfl, valid_f, ref_valid_f, Option.bind_some, Option.bind_some]
        by_cases h : Vd s e
        · rw [decide_eq_true h, if_pos rfl, if_pos rfl, if_pos (show 0 ≤ (l.length : Int) by omega), if_pos (show ((l.length : Int) : Int).toNat ≤ 35184372088832 by omega)]
          refine ⟨a, b, c, d, l.map (fun c => Q c s e), 0, ?_, ?_, by simpa using hl'⟩
          · have h1 := apply_l (s := s) (d := e) l (by omega) a b c d l.length 0 (List.replicate ((l.length : Int) : Int).toNat 0) (by omega) (by simp) (by simp)
            exact at_rounds (g := fun k => quant_Apply.l0 k s e l (l.length : Int) 0 a b c d (List.replicate ((l.length : Int) : Int).toNat 0)) (fun k => quant_Apply.mono_l k _ _ _ _ _ _ _ _ _ _) (k := l.length + 1) (by omega) h1
          · have h1 := ref_apply_l (s := s) (d := e) l (by omega) a b c d a b c d 0 l.length 0 [] (by omega) (by simp)
            exact at_rounds (g := fun k => waveletref08_Apply.l0 k s e 0 a b c d l a b c d []) (fun k => waveletref08_Apply.mono_l k _ _ _ _ _ _ _ _ _ _ _ _ _) (k := 0 + l.length + 3) (by omega) h1
        · rw [decide_eq_false h, if_neg (by decide), if_neg (by decide)]
          exact ⟨0, 0, 0, 0, [], 2, rfl, rfl, by simp⟩
    obtain ⟨r0, r1, r2, r3, r4, r5, h1, h2, h3⟩ := hq
    unfold waveletref02_Few.f
    rw [decide_eq_true hl, Option.bind_some, if_pos rfl, h1, h2, Option.bind_some, Option.bind_some, if_pos rfl]
    have hs : waveletref02_Same.f 1000 r0 r1 r2 r3 r4 r0 r1 r2 r3 r4 = some true := by
      unfold waveletref02_Same.f
      rw [if_pos (by simp), same_f r4 (by omega) (by omega)]
      rfl
    simp only [hs, hex]
    rfl
  · refine ⟨80, ?_⟩
    unfold waveletref02_Few.f
    rw [decide_eq_false hl, Option.bind_some, if_neg (by decide), example_holds]
    rfl
end Go.Proofs.Ytloncbnceccbaaa.Arith
