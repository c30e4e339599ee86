/- Steps at the head of a goal: for long texts over heaps of which facts are known. -/
import Derived.Test.YtjajknghcbpblaaFwX
set_option linter.unusedVariables false
namespace Go.Proofs.Ytjajknghcbpblaa.FW
variable {R : Type}
theorem go_i {k : IntKind} {H : Heap} {b o : Nat} {s : Option _} {K : Int → Option R} {r : Option R} {x : Int} (h : hcell H b o = some (.int k x)) (g : K x = r) : ldI k H (some ⟨b, o, s⟩) K = r := by
  rw [ldI_x, h]; cases k <;> exact g
theorem go_b {H : Heap} {b o : Nat} {s : Option _} {K : Bool → Option R} {r : Option R} {x : Bool} (h : hcell H b o = some (.bool x)) (g : K x = r) : ldB H (some ⟨b, o, s⟩) K = r := by
  rw [ldB_x, h]; exact g
theorem go_p {H : Heap} {b o : Nat} {s : Option _} {K : Option Addr → Option R} {r : Option R} {x : Option Addr} (h : hcell H b o = some (.pointer x)) (g : K x = r) : ldP H (some ⟨b, o, s⟩) K = r := by
  rw [ldP_x, h]; exact g
theorem go_l {H : Heap} {b o : Nat} {s : Option _} {K : Option Addr → Nat → Nat → Option R} {r : Option R} {x : Option Addr} {l c : Nat} (h : hcell H b o = some (.slice x l c)) (g : K x l c = r) : ldL H (some ⟨b, o, s⟩) K = r := by
  rw [ldL_x, h]; exact g
theorem go_ip {k : IntKind} {H : Heap} {b o i : Nat} {s : Option _} {K : Int → Option R} {r : Option R} {x : Int} (h : hcell H b (o + i) = some (.int k x)) (g : K x = r) : ldI k H (pad (some ⟨b, o, s⟩) i) K = r := go_i h g
theorem go_bp {H : Heap} {b o i : Nat} {s : Option _} {K : Bool → Option R} {r : Option R} {x : Bool} (h : hcell H b (o + i) = some (.bool x)) (g : K x = r) : ldB H (pad (some ⟨b, o, s⟩) i) K = r := go_b h g
theorem go_pp {H : Heap} {b o i : Nat} {s : Option _} {K : Option Addr → Option R} {r : Option R} {x : Option Addr} (h : hcell H b (o + i) = some (.pointer x)) (g : K x = r) : ldP H (pad (some ⟨b, o, s⟩) i) K = r := go_p h g
theorem go_lp {H : Heap} {b o i : Nat} {s : Option _} {K : Option Addr → Nat → Nat → Option R} {r : Option R} {x : Option Addr} {l c : Nat} (h : hcell H b (o + i) = some (.slice x l c)) (g : K x l c = r) : ldL H (pad (some ⟨b, o, s⟩) i) K = r := go_l h g
theorem go_t {c : Bool} {A B r : Option R} (h : c = true) (g : A = r) : (bif c then A else B) = r := by rw [h]; exact g
theorem go_f {c : Bool} {A B r : Option R} (h : c = false) (g : B = r) : (bif c then A else B) = r := by rw [h]; exact g
theorem go_ne {a : Int} {A B r : Option R} (g : B = r) : (bif a != a then A else B) = r := by rw [bne_self_eq_false']; exact g
theorem go_eq {a : Int} {A B r : Option R} (g : A = r) : (bif a == a then A else B) = r := by rw [beq_self_eq_true]; exact g
theorem go_hal {H : Heap} {cs : List Value} {K : Option Addr → Heap → Option R} {r : Option R} (g : K (some ⟨H.length, 0, none⟩) (H ++ [some ⟨cs, false, 0⟩]) = r) : hal H cs K = r := g
/-- An allocation whose heap has a name. -/
theorem go_halN {H H2 : Heap} {cs : List Value} {K : Option Addr → Heap → Option R} {r : Option R} (q : H2 = H ++ [some ⟨cs, false, 0⟩]) (g : K (some ⟨H.length, 0, none⟩) H2 = r) : hal H cs K = r := by subst q; exact g
/-- A block that is made and then filled: the heap behind has a name. -/
theorem go_halst {H H2 : Heap} {cs vs : List Value} {K : Option Addr → Heap → Option R} {r : Option R} (q : H2 = H ++ [some ⟨vs, false, 0⟩]) (hl : cs.length = vs.length) (ho : vs.all oneC = true) (g : K (some ⟨H.length, 0, none⟩) H2 = r) : hal H cs (fun p H' => hst H' p vs (fun H'' => K p H'')) = r := by
  subst q
  unfold hal
  show hst _ _ _ _ = r
  rw [hst_new _ _ _ _ _ _ _ (by omega), ho, splice_all _ _ hl]
  exact g
theorem go_fad {off b o : Nat} {s : Option _} {K : Option Addr → Option R} {r : Option R} (g : K (some ⟨b, o + off, none⟩) = r) : hfad off (some ⟨b, o, s⟩) K = r := g
theorem go_nil {a : Addr} {K : Option Addr → Option R} {r : Option R} (g : K (some a) = r) : hnil (some a) K = r := g
/-- A block of one's own that is written no more. -/
theorem frz_own {H : Heap} {b sz o : Nat} {s : Option _} {cs : List Value} (h : Owns H b cs sz) : ∃ H', (∀ (R : Type) (K : Heap → Option R), hfrz H (some ⟨b, o, s⟩) K = K H') ∧ (∀ i, hcell H' b i = cs[i]?) ∧ (∀ o s, isRo H' (some ⟨b, o, s⟩) = true) ∧ But b H H' ∧ H'.length = H.length := by
  have h' : hblk H b = some ⟨cs, false, sz⟩ := h
  have hb : hblk (hset H b (some ⟨cs, true, sz⟩)) b = some ⟨cs, true, sz⟩ := by rw [hset_get, if_pos ⟨rfl, h.lt⟩]
  refine ⟨hset H b (some ⟨cs, true, sz⟩), fun R K => ?_, fun i => ?_, fun o s => ?_, ⟨by simp [hset_length], fun i hi hne => by rw [hset_get, if_neg (fun hh => hne hh.1)]⟩, hset_length _ _ _⟩
  · simp only [hfrz, h']
  · unfold hcell; rw [hb]
  · simp only [isRo, hb]
theorem own_shows {H : Heap} {b sz : Nat} {xs z : List Value} (h : Owns H b (xs ++ z) sz) : Shows H (some ⟨b, 0, none⟩) xs := .inr ⟨b, 0, xs ++ z, rfl, h.sees, by simp, by simp⟩
end Go.Proofs.Ytjajknghcbpblaa.FW
