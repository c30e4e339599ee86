/- PktheadParts: Parts returns the reference's numbers. -/
import Derived.Test.YtmanlfonppfhaaaPhB
import Derived.Test.YtmanlfonppfhaaaSh15
set_option linter.unusedVariables false
set_option linter.unusedSimpArgs false
namespace Go.Proofs.Ytmanlfonppfhaaa.Sh
open Go.Proofs.Ytmanlfonppfhaaa.FW
theorem parts_run {k : Nat} (hk : 200 < k) (hk2 : k ≤ 1000000) (b p : Int) (hb : -9223372036854775808 ≤ b ∧ b ≤ 9223372036854775807) (hp : -9223372036854775808 ≤ p ∧ p ≤ 9223372036854775807) (t1 t2 t3 t4 t5 : Bool) (H : Heap) : L_PktheadParts k b p t1 t2 t3 t4 t5 H (fun t H => asB (.bool t) H) = some true := by
  obtain ⟨H1, hH1⟩ : ∃ H1, H1 = H ++ [some (⟨[.bool t1, .bool t2, .bool t3, .bool t4, .bool t5], false, 0⟩ : Blk)] := ⟨_, rfl⟩
  have O1 : Owns H1 H.length [.bool t1, .bool t2, .bool t3, .bool t4, .bool t5] 0 := by rw [hH1]; exact hblk_new H _
  have m : ∀ i, hcell H1 H.length i = [Value.bool t1, .bool t2, .bool t3, .bool t4, .bool t5][i]? := fun i => O1.sees.cell i
  obtain ⟨q2, l2, c2, H2, e2, B2, o2, l2b⟩ := Parts_eq hk b p hp t1 t2 t3 t4 t5 (roH H1)
  have B3 := Bld.lay B2
  obtain ⟨H3, hH3⟩ : ∃ H3, H3 = H1 ++ H2.drop H1.length := ⟨_, rfl⟩
  rw [← hH3] at B3
  have o3 : Old H1.length H1 H3 := hH3 ▸ Old.app _ _
  have O3 := O1.old o3 O1.lt
  have m3 : ∀ i, hcell H3 H.length i = [Value.bool t1, .bool t2, .bool t3, .bool t4, .bool t5][i]? := fun i => O3.sees.cell i
  obtain ⟨q4, l4, c4, H4, e4, B4, o4⟩ := RParts_eq hk b p hb t1 t2 t3 t4 t5 H3
  have B5 := B3.old o4 (Nat.le_refl _)
  have s5 := B5.shows
  have s4 := B4.shows
  have z2 : l2 = (pts t1 t2 k b p).length := by have := s5.2; simpa [ints] using this
  have z4 : l4 = (pts t1 t2 k b p).length := by have := s4.2; simpa [ints] using this
  have e6 := SameInts_eq (k := k) c2 c4 s5.1 s4.1 z2 z4 (by omega) hk2
  unfold L_PktheadParts L_PktheadParts_b
  refine go_halN hH1 ?_
  repeat (first | (with_reducible refine (e2 _ _).trans ?_) | ((with_reducible refine go_ip (x := ?_) ?_ ?_); rotate_left 1; (first | ((with_reducible refine (m _).trans ?_); rfl) | rfl)) | ((with_reducible refine go_bp (x := ?_) ?_ ?_); rotate_left 1; (first | ((with_reducible refine (m _).trans ?_); rfl) | rfl)) | ((with_reducible refine go_lp (x := ?_) (l := ?_) (c := ?_) ?_ ?_); rotate_left 3; (first | ((with_reducible refine (m _).trans ?_); rfl) | rfl)) | ((with_reducible refine go_pp (x := ?_) ?_ ?_); rotate_left 1; (first | ((with_reducible refine (m _).trans ?_); rfl) | rfl)) | ((with_reducible refine go_i (x := ?_) ?_ ?_); rotate_left 1; (first | ((with_reducible refine (m _).trans ?_); rfl) | rfl)) | ((with_reducible refine go_b (x := ?_) ?_ ?_); rotate_left 1; (first | ((with_reducible refine (m _).trans ?_); rfl) | rfl)) | ((with_reducible refine go_l (x := ?_) (l := ?_) (c := ?_) ?_ ?_); rotate_left 3; (first | ((with_reducible refine (m _).trans ?_); rfl) | rfl)) | ((with_reducible refine go_p (x := ?_) ?_ ?_); rotate_left 1; (first | ((with_reducible refine (m _).trans ?_); rfl) | rfl)) | ((with_reducible refine go_halst rfl ?_ ?_ ?_); rfl; rfl) | (with_reducible refine go_halN rfl ?_) | ((with_reducible refine go_t ?_ ?_); (show _ = true; rfl)) | ((with_reducible refine go_f ?_ ?_); (show _ = false; rfl)) | (with_reducible refine go_ne ?_) | (with_reducible refine go_eq ?_) | (with_reducible refine go_fad ?_) | (with_reducible refine go_nil ?_))
  rw [← hH3]
  repeat (first | (with_reducible refine (e4 _ _).trans ?_) | (with_reducible refine (e6 _ _).trans ?_) | ((with_reducible refine go_ip (x := ?_) ?_ ?_); rotate_left 1; (first | ((with_reducible refine (m3 _).trans ?_); rfl) | rfl)) | ((with_reducible refine go_bp (x := ?_) ?_ ?_); rotate_left 1; (first | ((with_reducible refine (m3 _).trans ?_); rfl) | rfl)) | ((with_reducible refine go_lp (x := ?_) (l := ?_) (c := ?_) ?_ ?_); rotate_left 3; (first | ((with_reducible refine (m3 _).trans ?_); rfl) | rfl)) | ((with_reducible refine go_pp (x := ?_) ?_ ?_); rotate_left 1; (first | ((with_reducible refine (m3 _).trans ?_); rfl) | rfl)) | ((with_reducible refine go_i (x := ?_) ?_ ?_); rotate_left 1; (first | ((with_reducible refine (m3 _).trans ?_); rfl) | rfl)) | ((with_reducible refine go_b (x := ?_) ?_ ?_); rotate_left 1; (first | ((with_reducible refine (m3 _).trans ?_); rfl) | rfl)) | ((with_reducible refine go_l (x := ?_) (l := ?_) (c := ?_) ?_ ?_); rotate_left 3; (first | ((with_reducible refine (m3 _).trans ?_); rfl) | rfl)) | ((with_reducible refine go_p (x := ?_) ?_ ?_); rotate_left 1; (first | ((with_reducible refine (m3 _).trans ?_); rfl) | rfl)) | ((with_reducible refine go_halst rfl ?_ ?_ ?_); rfl; rfl) | (with_reducible refine go_halN rfl ?_) | ((with_reducible refine go_t ?_ ?_); (show _ = true; rfl)) | ((with_reducible refine go_f ?_ ?_); (show _ = false; rfl)) | (with_reducible refine go_ne ?_) | (with_reducible refine go_eq ?_) | (with_reducible refine go_fad ?_) | (with_reducible refine go_nil ?_))
  rfl
def dMode : D := .pair .bool (.pair .bool (.pair .bool (.pair .bool (.pair .bool .nil))))
theorem parts_in (H : Heap) (us : List Value) (h : AllLies H [(.int .i64, false), (.int .i64, false), (dMode, true)] us) : L_PktheadParts_c Bool 1000 us H asB = some true := by
  obtain ⟨b, vs, rfl, hb, h1⟩ := lies_int h
  obtain ⟨p, vs2, rfl, hp, h2⟩ := lies_int h1
  obtain ⟨cs, vs3, rfl, hs, h3⟩ := lies_agg h2
  obtain rfl := lies_nil h3
  obtain ⟨x1, y1, rfl, ⟨t1, rfl⟩, x2, y2, rfl, ⟨t2, rfl⟩, x3, y3, rfl, ⟨t3, rfl⟩, x4, y4, rfl, ⟨t4, rfl⟩, x5, y5, rfl, ⟨t5, rfl⟩, hn⟩ := hs
  have hn' : y5 = [] := hn
  subst hn'
  exact parts_run (by omega) (by omega) b p (wf_64 hb) (wf_64 hp) t1 t2 t3 t4 t5 H
end Go.Proofs.Ytmanlfonppfhaaa.Sh
