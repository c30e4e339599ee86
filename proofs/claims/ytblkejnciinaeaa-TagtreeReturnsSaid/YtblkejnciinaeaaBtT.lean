/- Bitio: the program's reader: Align, a call of a reader. -/
import Derived.Test.YtblkejnciinaeaaBtS
set_option linter.unusedVariables false
set_option linter.unusedSimpArgs false
namespace Go.Proofs.Ytblkejnciinaeaa.Sh
open Go.Proofs.Ytblkejnciinaeaa.FW Go.IntWalk
theorem nReader_eq {H : Heap} {q : Option Addr} {bs : List Int} (c : Nat) (hS : Shows H q (byt bs)) (hb : Byts bs) : ∃ p q' H', (∀ (R : Type) (K : Option Addr → Heap → Option R), bitio_NewReader q bs.length c H K = K (some ⟨p, 0, none⟩) H') ∧ Rd H' p q' bs (0, 0) ∧ Old H.length H H' ∧ H.length ≤ p ∧ ∀ a, q' = some a → H.length ≤ a.block ∧ a.block < p := by
  have hl := hb.2
  have hc := hS.hcells
  rw [byt_len] at hc
  by_cases h0 : bs.length = 0
  · have : bs = [] := List.length_eq_zero_iff.1 h0
    subst this
    refine ⟨H.length, none, H ++ [some ⟨[.bool true, .slice none 0 0, .int .i64 0, .int .i64 0], false, 0⟩], fun R K => ?_, ⟨⟨0, (show hblk _ _ = _ from hblk_new H _)⟩, .inl rfl, (fun a ha => by cases ha), ⟨by simp, by simp, by simp⟩, hb⟩, Old.app _ _, Nat.le_refl _, fun a ha => by cases ha⟩
    unfold bitio_NewReader bitio_NewReader_b hapnS hapn
    rw [Nat.mul_one, hc]
    simp [unk, hal]
  · obtain ⟨H1, hH1⟩ : ∃ H1, H1 = H ++ [some (⟨byt bs, false, 1⟩ : Blk)] := ⟨_, rfl⟩
    have n1 : H1.length = H.length + 1 := by rw [hH1]; simp
    have o1 : Old H.length H H1 := hH1 ▸ Old.app _ _
    have e1 : ∀ (R : Type) (K : Option Addr → Nat → Nat → Heap → Option R), hapnS 1 1 H none 0 0 q bs.length K = K (some ⟨H.length, 0, none⟩) bs.length unk H1 := fun R K => by
      unfold hapnS hapn
      rw [Nat.mul_one, hc]
      simp only
      rw [if_neg (by unfold unk; omega), if_neg h0, if_neg (by omega), if_pos (by omega)]
      have : FW.hcells H none (0 * 1) = some [] := rfl
      rw [this, hH1]
      simp
    obtain ⟨H2, hH2⟩ : ∃ H2, H2 = H1 ++ [some ⟨[.bool true, .slice (some ⟨H.length, 0, none⟩) bs.length unk, .int .i64 0, .int .i64 0], false, 0⟩] := ⟨_, rfl⟩
    have o2 : Old H1.length H1 H2 := hH2 ▸ Old.app _ _
    have O1 : Owns H1 H.length (byt bs) 1 := by rw [hH1]; exact hblk_new H _
    have O2 : Owns H2 H1.length [.bool true, .slice (some ⟨H.length, 0, none⟩) bs.length unk, .int .i64 0, .int .i64 0] 0 := by rw [hH2]; exact hblk_new H1 _
    refine ⟨H1.length, some ⟨H.length, 0, none⟩, H2, fun R K => ?_, ⟨⟨unk, O2⟩, (O1.old o2 (by omega)).sees.shows, (fun a ha => by cases ha; simp only; omega), ⟨by simp, by simp, by simp⟩, hb⟩, o1.trans (o2.mono o1.1), by omega, fun a ha => by cases ha; simp only; omega⟩
    unfold bitio_NewReader bitio_NewReader_b
    repeat (first | (with_reducible refine (e1 _ _).trans ?_) | ((with_reducible refine go_ip (x := ?_) ?_ ?_); rotate_left 1; (first  | rfl)) | ((with_reducible refine go_bp (x := ?_) ?_ ?_); rotate_left 1; (first  | rfl)) | ((with_reducible refine go_lp (x := ?_) (l := ?_) (c := ?_) ?_ ?_); rotate_left 3; (first  | rfl)) | ((with_reducible refine go_pp (x := ?_) ?_ ?_); rotate_left 1; (first  | rfl)) | ((with_reducible refine go_i (x := ?_) ?_ ?_); rotate_left 1; (first  | rfl)) | ((with_reducible refine go_b (x := ?_) ?_ ?_); rotate_left 1; (first  | rfl)) | ((with_reducible refine go_l (x := ?_) (l := ?_) (c := ?_) ?_ ?_); rotate_left 3; (first  | rfl)) | ((with_reducible refine go_p (x := ?_) ?_ ?_); rotate_left 1; (first  | rfl)) | ((with_reducible refine go_halst hH2 ?_ ?_ ?_); rfl; rfl) | (with_reducible refine go_halN hH2 ?_) | ((with_reducible refine go_t ?_ ?_); (show _ = true; rfl)) | ((with_reducible refine go_f ?_ ?_); (show _ = false; rfl)) | (with_reducible refine go_ne ?_) | (with_reducible refine go_eq ?_) | (with_reducible refine go_fad ?_) | (with_reducible refine go_nil ?_))
    rfl
end Go.Proofs.Ytblkejnciinaeaa.Sh
