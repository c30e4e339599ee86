/- Bitio: what the calls of a writer come to. -/
import Derived.Test.YtblkejnciinaeaaBtB
set_option linter.unusedVariables false
set_option linter.unusedSimpArgs false
namespace Go.Proofs.Ytblkejnciinaeaa.Sh
open Go.Proofs.Ytblkejnciinaeaa.FW Go.IntWalk
/-- What the calls of a writer return, and the bits that they append. -/
def wP (x : Int) : Int × List Int := if x = 0 ∨ x = 1 then (0, [x]) else (1, [])
def wB (v n : Int) : Int × List Int := if 0 ≤ n ∧ n ≤ 32 ∧ 0 ≤ v ∧ v < 2 ^ n.toNat then (0, bt v.toNat n.toNat) else (1, [])
def gm (v : Nat) : List Int := List.replicate v.log2 0 ++ bt v (v.log2 + 1)
def wG (v : Int) : Int × List Int := if 1 ≤ v ∧ v < 4294967296 then (0, gm v.toNat) else (1, [])
def wU (v : Int) : Int × List Int := if 0 ≤ v ∧ v ≤ 65535 then (0, List.replicate v.toNat 1 ++ [0]) else (1, [])
theorem bit_n (v m : Nat) : v / 2 ^ m &&& 1 = v / 2 ^ m % 2 := Nat.and_one_is_mod _
def wO (o : Int × Int × Int) : Int × List Int := if o.1 = 0 then wP o.2.1 else if o.1 = 1 then wB o.2.1 o.2.2 else if o.1 = 2 then wG o.2.1 else if o.1 = 3 then wU o.2.1 else (0, [])
/-- The bits that a unary code counts for. -/
def un (o : Int × Int × Int) : Nat := if o.1 = 3 ∧ 0 < o.2.1 ∧ o.2.1 ≤ 65535 then o.2.1.toNat else 0
theorem wO_len (o : Int × Int × Int) : (wO o).2.length ≤ 64 + un o := by
  unfold wO
  split
  · unfold wP; split <;> simp <;> omega
  · split
    · unfold wB
      split
      · rename_i h; simp only [bt_len]; omega
      · simp
    · split
      · unfold wG
        split
        · rename_i h
          have : o.2.1.toNat.log2 < 32 := (Nat.log2_lt (by omega)).2 (by omega)
          simp only [gm, List.length_append, List.length_replicate, bt_len]; omega
        · simp
      · split
        · rename_i h3
          unfold wU un
          split
          · rename_i h
            simp only [List.length_append, List.length_replicate, List.length_cons, List.length_nil]
            by_cases h0 : 0 < o.2.1
            · rw [if_pos ⟨h3, h0, h.2⟩]; omega
            · omega
          · simp
        · simp
theorem wO_01 (o : Int × Int × Int) : B01 (wO o).2 := by
  have nil : B01 [] := fun x hx => by cases hx
  have rep : ∀ n (a : Int), (a = 0 ∨ a = 1) → B01 (List.replicate n a) := fun n a ha x hx => by rw [(List.mem_replicate.1 hx).2]; exact ha
  unfold wO
  split
  · unfold wP; split
    · rename_i h; exact .one h
    · exact nil
  · split
    · unfold wB; split
      · exact bt_01 _ _
      · exact nil
    · split
      · unfold wG; split
        · exact (rep _ 0 (.inl rfl)).app (bt_01 _ _)
        · exact nil
      · split
        · unfold wU; split
          · exact (rep _ 1 (.inr rfl)).app (.one (.inl rfl))
          · exact nil
        · exact nil
theorem wO_ec (o : Int × Int × Int) : (wO o).1 = 0 ∨ (wO o).1 = 1 ∧ (wO o).2 = [] := by
  unfold wO wP wB wG wU
  repeat' split
  all_goals first | exact .inl rfl | exact .inr ⟨rfl, rfl⟩
end Go.Proofs.Ytblkejnciinaeaa.Sh
