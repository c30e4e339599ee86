/- Apply returns what the reference returns. -/
import Derived.Test.YtoeoolnkndkefaaClO
import Derived.Test.YtoeoolnkndkefaaClN
import Derived.Test.YtoeoolnkndkefaaClB
import Derived.Test.YtoeoolnkndkefaaSh15
set_option linter.unusedVariables false
set_option linter.unusedSimpArgs false
namespace Go.Proofs.Ytoeoolnkndkefaa.Sh
open Go.Proofs.Ytoeoolnkndkefaa.FW
theorem applies (k : Nat) (hk : 9223372036854776807 < k) (H : Heap) (us : List Value) (h : AllLies H [(.int .i64, false), (.slc dPlane, false)] us) : L_ColorApplies_c Bool k us H asB = some true := by
  obtain ⟨t, _, rfl, _, h1⟩ := lies_int h
  obtain ⟨q, c, vs, _, rfl, hc1, hc2, hsh, hS, h2⟩ := lies_slc h1
  cases lies_nil h2
  obtain ⟨es, hl, hfl, hda⟩ := planes_of vs hsh
  have hP : Pls H q es := ⟨hfl ▸ hS, hda⟩
  have hmx : c ≤ 9223372036854775807 := hc2
  rw [← hl]
  rw [← hl] at hc1
  have hC : CapOk q es.length c := .inl ⟨hc1, hmx⟩
  show L_ColorApplies k t q es.length c H (fun t H => asB (.bool t) H) = some true
  have fin : ∀ (H : Heap), L_exampleHoldsq (fun t => asB (.bool t) H) = some true := fun H => rfl
  obtain ⟨J1, e1⟩ := few_eq (k := k) c (by omega) (by omega) hP
  unfold L_ColorApplies L_ColorApplies_b
  refine (e1 _ _).trans ?_
  cases hf : fewp es && decide (es.length ≤ 6) with
  | false => exact go_t rfl (fin _)
  | true =>
    refine go_f rfl ?_
    simp only [Bool.and_eq_true, decide_eq_true_eq] at hf
    have hx := fewp_of hf.1
    have hl6 := hf.2
    have hP1 : Pls (H ++ J1) q es := hP.app
    by_cases he : errv t es 1048576 = 0
    · obtain ⟨N2, H2, q2, c2, o2, e2, U2, p2, k2⟩ := Apply_ok (k := k) (by omega) c hP1 hl6 hx hC he
      have hP2 : Pls H2 q es := hP1.keep k2
      obtain ⟨J3, e3⟩ := errors_eq (k := k) (by omega) t 1048576 c (by omega) (by omega) hP2 hx
      obtain ⟨H4, q4, c4, o4, e4, U4, p4, k4⟩ := each_eq (k := k) (by omega) (fwd t) t false c (hP2.app (J := J3)) hl6 hx (len3 he) (fun _ f0 f1 f2 r _ i R K => ForwardR_eq t _ _ _ K)
      rw [he] at e3
      have e5 : ∀ (R : Type) (K : Option Addr → Nat → Nat → Int → Heap → Option R), R07_Apply k t q es.length c H2 K = K q4 es.length c4 0 H4 := fun R K => by
        unfold R07_Apply R07_Apply_b
        repeat (first | (with_reducible refine (e3 _ _).trans ?_) | (with_reducible refine (e4 _ _).trans ?_) | ((with_reducible refine go_ip (x := ?_) ?_ ?_); rotate_left 1; (first | ((with_reducible refine (hcell_new _ _ _).trans ?_); rfl) | rfl)) | ((with_reducible refine go_bp (x := ?_) ?_ ?_); rotate_left 1; (first | ((with_reducible refine (hcell_new _ _ _).trans ?_); rfl) | rfl)) | ((with_reducible refine go_lp (x := ?_) (l := ?_) (c := ?_) ?_ ?_); rotate_left 3; (first | ((with_reducible refine (hcell_new _ _ _).trans ?_); rfl) | rfl)) | ((with_reducible refine go_pp (x := ?_) ?_ ?_); rotate_left 1; (first | ((with_reducible refine (hcell_new _ _ _).trans ?_); rfl) | rfl)) | ((with_reducible refine go_i (x := ?_) ?_ ?_); rotate_left 1; (first | ((with_reducible refine (hcell_new _ _ _).trans ?_); rfl) | rfl)) | ((with_reducible refine go_b (x := ?_) ?_ ?_); rotate_left 1; (first | ((with_reducible refine (hcell_new _ _ _).trans ?_); rfl) | rfl)) | ((with_reducible refine go_l (x := ?_) (l := ?_) (c := ?_) ?_ ?_); rotate_left 3; (first | ((with_reducible refine (hcell_new _ _ _).trans ?_); rfl) | rfl)) | ((with_reducible refine go_p (x := ?_) ?_ ?_); rotate_left 1; (first | ((with_reducible refine (hcell_new _ _ _).trans ?_); rfl) | rfl)) | ((with_reducible refine go_halst rfl ?_ ?_ ?_); rfl; rfl) | (with_reducible refine go_halN rfl ?_) | ((with_reducible refine go_t ?_ ?_); (show _ = true; rfl)) | ((with_reducible refine go_f ?_ ?_); (show _ = false; rfl)) | (with_reducible refine go_ne ?_) | (with_reducible refine go_eq ?_) | (with_reducible refine go_fad ?_) | (with_reducible refine go_nil ?_))
        rfl
      have hlen2 : o2.length = es.length := U2.len.symm
      have hx2 : ∀ e ∈ o2, e.xs.length ≤ 400 := by
        have hpl : ∀ e ∈ o2, e.pl ∈ trp (fwd t) t (es.map Pr.pl) := fun e he => by rw [← p2]; exact List.mem_map_of_mem he
        intro e hm
        exact trp_len (fun p hp => by obtain ⟨f, hf, rfl⟩ := List.mem_map.1 hp; exact hx f hf) _ (hpl e hm)
      have hlen4 : o4.length = es.length := U4.len.symm
      obtain ⟨J6, e6⟩ := sameAll_eq (k := k) (by omega) (H := H4) c2 c4 (by omega) (p2.trans p4.symm) hx2 ((U2.pls.keep (Old.app H2 J3)).keep k4) U4.pls
      rw [hlen2, hlen4] at e6
      repeat (first | (with_reducible refine (e2 _ _).trans ?_) | (with_reducible refine (e5 _ _).trans ?_) | (with_reducible refine (e6 _ _).trans ?_) | ((with_reducible refine go_ip (x := ?_) ?_ ?_); rotate_left 1; (first | ((with_reducible refine (hcell_new _ _ _).trans ?_); rfl) | rfl)) | ((with_reducible refine go_bp (x := ?_) ?_ ?_); rotate_left 1; (first | ((with_reducible refine (hcell_new _ _ _).trans ?_); rfl) | rfl)) | ((with_reducible refine go_lp (x := ?_) (l := ?_) (c := ?_) ?_ ?_); rotate_left 3; (first | ((with_reducible refine (hcell_new _ _ _).trans ?_); rfl) | rfl)) | ((with_reducible refine go_pp (x := ?_) ?_ ?_); rotate_left 1; (first | ((with_reducible refine (hcell_new _ _ _).trans ?_); rfl) | rfl)) | ((with_reducible refine go_i (x := ?_) ?_ ?_); rotate_left 1; (first | ((with_reducible refine (hcell_new _ _ _).trans ?_); rfl) | rfl)) | ((with_reducible refine go_b (x := ?_) ?_ ?_); rotate_left 1; (first | ((with_reducible refine (hcell_new _ _ _).trans ?_); rfl) | rfl)) | ((with_reducible refine go_l (x := ?_) (l := ?_) (c := ?_) ?_ ?_); rotate_left 3; (first | ((with_reducible refine (hcell_new _ _ _).trans ?_); rfl) | rfl)) | ((with_reducible refine go_p (x := ?_) ?_ ?_); rotate_left 1; (first | ((with_reducible refine (hcell_new _ _ _).trans ?_); rfl) | rfl)) | ((with_reducible refine go_halst rfl ?_ ?_ ?_); rfl; rfl) | (with_reducible refine go_halN rfl ?_) | ((with_reducible refine go_t ?_ ?_); (show _ = true; rfl)) | ((with_reducible refine go_f ?_ ?_); (show _ = false; rfl)) | (with_reducible refine go_ne ?_) | (with_reducible refine go_eq ?_) | (with_reducible refine go_fad ?_) | (with_reducible refine go_nil ?_))
      exact fin _
    · obtain ⟨J2, e2⟩ := Apply_bad (k := k) (by omega) c hP1 hl6 hx hC he
      obtain ⟨J3, e3⟩ := errors_eq (k := k) (by omega) t 1048576 c (by omega) (by omega) (hP1.app (J := J2)) hx
      have e5 : ∀ (R : Type) (K : Option Addr → Nat → Nat → Int → Heap → Option R), R07_Apply k t q es.length c (H ++ J1 ++ J2) K = K none 0 0 (errv t es 1048576) (H ++ J1 ++ J2 ++ J3) := fun R K => by
        unfold R07_Apply R07_Apply_b
        refine (e3 _ _).trans ?_
        exact go_t (by simpa using he) rfl
      obtain ⟨J6, e6⟩ := sameAll_eq (k := k) (by omega) (H := H ++ J1 ++ J2 ++ J3) (q1 := none) (q2 := none) (es1 := []) (es2 := []) 0 0 (by simp) rfl (fun e he => by cases he) ⟨.inl rfl, fun e he => by cases he⟩ ⟨.inl rfl, fun e he => by cases he⟩
      simp only [List.length_nil] at e6
      repeat (first | (with_reducible refine (e2 _ _).trans ?_) | (with_reducible refine (e5 _ _).trans ?_) | (with_reducible refine (e6 _ _).trans ?_) | ((with_reducible refine go_ip (x := ?_) ?_ ?_); rotate_left 1; (first | ((with_reducible refine (hcell_new _ _ _).trans ?_); rfl) | rfl)) | ((with_reducible refine go_bp (x := ?_) ?_ ?_); rotate_left 1; (first | ((with_reducible refine (hcell_new _ _ _).trans ?_); rfl) | rfl)) | ((with_reducible refine go_lp (x := ?_) (l := ?_) (c := ?_) ?_ ?_); rotate_left 3; (first | ((with_reducible refine (hcell_new _ _ _).trans ?_); rfl) | rfl)) | ((with_reducible refine go_pp (x := ?_) ?_ ?_); rotate_left 1; (first | ((with_reducible refine (hcell_new _ _ _).trans ?_); rfl) | rfl)) | ((with_reducible refine go_i (x := ?_) ?_ ?_); rotate_left 1; (first | ((with_reducible refine (hcell_new _ _ _).trans ?_); rfl) | rfl)) | ((with_reducible refine go_b (x := ?_) ?_ ?_); rotate_left 1; (first | ((with_reducible refine (hcell_new _ _ _).trans ?_); rfl) | rfl)) | ((with_reducible refine go_l (x := ?_) (l := ?_) (c := ?_) ?_ ?_); rotate_left 3; (first | ((with_reducible refine (hcell_new _ _ _).trans ?_); rfl) | rfl)) | ((with_reducible refine go_p (x := ?_) ?_ ?_); rotate_left 1; (first | ((with_reducible refine (hcell_new _ _ _).trans ?_); rfl) | rfl)) | ((with_reducible refine go_halst rfl ?_ ?_ ?_); rfl; rfl) | (with_reducible refine go_halN rfl ?_) | ((with_reducible refine go_t ?_ ?_); (show _ = true; rfl)) | ((with_reducible refine go_f ?_ ?_); (show _ = false; rfl)) | (with_reducible refine go_ne ?_) | (with_reducible refine go_eq ?_) | (with_reducible refine go_fad ?_) | (with_reducible refine go_nil ?_))
      exact fin _
theorem applies_in (H : Heap) (us : List Value) (h : AllLies H [(.int .i64, false), (.slc dPlane, false)] us) : L_ColorApplies_c Bool 9223372036854777000 us H asB = some true := applies _ (by omega) H us h
end Go.Proofs.Ytoeoolnkndkefaa.Sh
