/- The passes and the segments are what is specified, for every number and every mode. -/
import Derived.Test.YtblpaolcgkjcgaaCbA
set_option linter.unusedVariables false
set_option linter.unusedSimpArgs false
namespace Go.Proofs.Ytblpaolcgkjcgaa.Sh
open Go.Proofs.Ytblpaolcgkjcgaa.FW
theorem seg_len (t1 t2 : Bool) : ∀ (f : Nat) (s left : Int), 1 ≤ s → (seg t1 t2 f s left).length ≤ left.toNat := by
  intro f
  induction f with
  | zero => intro s left _; simp [seg]
  | succ f ih =>
    intro s left hs
    unfold seg
    split
    · have h1 : 1 ≤ nx t1 t2 s := by unfold nx; cases t1 <;> cases t2 <;> simp <;> (try split) <;> omega
      have h2 : 1 ≤ imn s left := by unfold imn; split <;> omega
      have := ih (nx t1 t2 s) (left - imn s left) h1
      simp only [List.length_cons]
      omega
    · simp
theorem segs_len (t1 t2 : Bool) (k : Nat) (n : Int) : (segs t1 t2 k n).length ≤ 178 := by
  unfold segs
  split
  · simp
  · have := seg_len t1 t2 k (sz t1 t2 n 0) n (by unfold sz; repeat' split <;> omega)
    omega
theorem passes_run {n : Int} (h0 : -9223372036854775808 ≤ n) (h1 : n ≤ 9223372036854775807) (t1 t2 t3 t4 t5 : Bool) : waveletlaw14_CblkPasses_c Bool 1000 [.int .i64 n, .agg ⟨[.bool t1, .bool t2, .bool t3, .bool t4, .bool t5]⟩] [] asB = some true := by
  show waveletlaw14_CblkPasses 1000 n t1 t2 t3 t4 t5 [] (fun t H => asB (.bool t) H) = some true
  unfold waveletlaw14_CblkPasses waveletlaw14_CblkPasses_b
  obtain ⟨p, H1, e1, hp, g1, g2, g3⟩ := hal_of [] [.bool t1, .bool t2, .bool t3, .bool t4, .bool t5]
  subst hp
  have hld : ∀ (H : Heap), Old 1 H1 H → ∀ (K : Bool → Option Bool), ldB H (some ⟨0, 0, none⟩) K = K t1 ∧ ldB H (some ⟨0, 1, none⟩) K = K t2 ∧ ldB H (some ⟨0, 2, none⟩) K = K t3 ∧ ldB H (some ⟨0, 3, none⟩) K = K t4 ∧ ldB H (some ⟨0, 4, none⟩) K = K t5 := fun H ho K => by
    have hs := (g1.sees.old ho (by simp)).cell
    exact ⟨ldB_of (by simpa [pcell] using hs 0) K, ldB_of (by simpa [pcell] using hs 1) K, ldB_of (by simpa [pcell] using hs 2) K, ldB_of (by simpa [pcell] using hs 3) K, ldB_of (by simpa [pcell] using hs 4) K⟩
  have o1 := Old.refl 1 H1
  have hl1 : H1.length = 1 := by simpa using g3
  rw [e1, Pass_eq h0 h1, PassR_eq h0 h1]
  have q1 : (pl n == pl n) = true := by simp
  have q2 : (kd n == kd n) = true := by simp
  simp only [q1, q2, cond_true, pad, List.length_nil, Nat.zero_add, hld H1 o1]
  obtain ⟨H2, e2, _⟩ := Raw_eq (k := 1000) h0 h1 t1 t2 t3 t4 t5 (roH H1)
  obtain ⟨H3, e3, o3⟩ := RawR_eq h0 h1 t1 t2 t3 t4 t5 H1
  have o3' : Old 1 H1 H3 := o3.mono (by omega)
  rw [e2, e3]
  have q3 : (rw' n t1 == rw' n t1) = true := by simp
  simp only [q3, cond_true, hld H3 o3']
  obtain ⟨q4, l4, c4, H4, e4, b4, o4⟩ := Segs_eq (k := 1000) (by omega) n t1 t2 t3 t4 t5 (roH H3)
  rw [e4]
  have o5 : Old H3.length H3 (H3 ++ H4.drop H3.length) := Old.app _ _
  have hl3 : 1 ≤ H3.length := by have := o3.1; omega
  simp only [hld _ (o3'.trans (o5.mono hl3))]
  obtain ⟨q6, l6, c6, H6, e6, b6, o6⟩ := SegsR_eq (k := 1000) (by omega) n t1 t2 t3 t4 t5 (H3 ++ H4.drop H3.length)
  rw [e6]
  have b5 : Bld H3.length 1 (H3 ++ H4.drop H3.length) q4 l4 c4 (ints (segs t1 t2 1000 n)) := by
    rcases b4 with h | ⟨b, z1, z2, z3, z4, z5⟩
    · exact .inl h
    · rw [roH_length] at z3
      refine .inr ⟨b, z1, z2, z3, ?_, z5⟩
      unfold Owns at z4 ⊢
      rw [hblk_get] at z4 ⊢
      rw [List.getElem?_append_right z3, List.getElem?_drop, show H3.length + (b - H3.length) = b from by omega]
      exact z4
  have b7 := b5.old o6 (Nat.le_refl _)
  have hs := segs_len t1 t2 1000 n
  have s1 := b7.shows
  have s2 := b6.shows
  rw [SameInts_eq c4 c6 s1.1 s2.1 (by have := s1.2; simpa [ints] using this) (by have := s2.2; simpa [ints] using this) (by omega) (by omega)]
  rfl
end Go.Proofs.Ytblpaolcgkjcgaa.Sh
