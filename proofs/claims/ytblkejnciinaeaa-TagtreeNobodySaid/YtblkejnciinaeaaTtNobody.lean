/- TagtreeNobody: the methods of nil and of a tree that the package did not return. -/
import Derived.Test.YtblkejnciinaeaaSh16
import Derived.Test.YtblkejnciinaeaaFwY
import Derived.Test.YtblkejnciinaeaaFwO
set_option linter.unusedVariables false
set_option linter.unusedSimpArgs false
namespace Go.Proofs.Ytblkejnciinaeaa.Sh
open Go.Proofs.Ytblkejnciinaeaa.FW
/-- A tree that is nil or has no levels. -/
def NoT (H : Heap) (p : Option Addr) : Prop := p = none ∨ ∃ b, p = some ⟨b, 0, none⟩ ∧ hcell H b 0 = some (.slice none 0 0)
theorem NoT.keep {H H' : Heap} {p : Option Addr} (h : NoT H p) (o : Old H.length H H') : NoT H' p := by
  rcases h with rfl | ⟨b, rfl, m⟩
  · exact .inl rfl
  · refine .inr ⟨b, rfl, ?_⟩
    have hb : b < H.length := by
      rcases Nat.lt_or_ge b H.length with h | h
      · exact h
      · have : hblk H b = none := by
          cases hh : hblk H b with
          | none => rfl
          | some B => have := hblk_lt hh; omega
        unfold hcell at m; rw [this] at m; cases m
    unfold hcell at *; rw [o.2 b hb]; exact m
theorem NoT.ok {H : Heap} {p : Option Addr} (h : NoT H p) : ∀ (R : Type) (K : Bool → Option R), tagtree_Tree_ok p H K = K false := by
  intro R K
  rcases h with rfl | ⟨b, rfl, m⟩
  · rfl
  · unfold tagtree_Tree_ok tagtree_Tree_ok_b
    repeat (first | ((with_reducible refine go_ip (x := ?_) ?_ ?_); rotate_left 1; (first  | exact m | rfl)) | ((with_reducible refine go_bp (x := ?_) ?_ ?_); rotate_left 1; (first  | exact m | rfl)) | ((with_reducible refine go_lp (x := ?_) (l := ?_) (c := ?_) ?_ ?_); rotate_left 3; (first  | exact m | rfl)) | ((with_reducible refine go_pp (x := ?_) ?_ ?_); rotate_left 1; (first  | exact m | rfl)) | ((with_reducible refine go_i (x := ?_) ?_ ?_); rotate_left 1; (first  | exact m | rfl)) | ((with_reducible refine go_b (x := ?_) ?_ ?_); rotate_left 1; (first  | exact m | rfl)) | ((with_reducible refine go_l (x := ?_) (l := ?_) (c := ?_) ?_ ?_); rotate_left 3; (first  | exact m | rfl)) | ((with_reducible refine go_p (x := ?_) ?_ ?_); rotate_left 1; (first  | exact m | rfl)) | ((with_reducible refine go_halst rfl ?_ ?_ ?_); rfl; rfl) | (with_reducible refine go_halN rfl ?_) | ((with_reducible refine go_t ?_ ?_); (show _ = true; rfl)) | ((with_reducible refine go_f ?_ ?_); (show _ = false; rfl)) | (with_reducible refine go_ne ?_) | (with_reducible refine go_eq ?_) | (with_reducible refine go_fad ?_) | (with_reducible refine go_nil ?_))
    rfl
theorem no_enc (k : Nat) {H : Heap} {p q : Option Addr} (h : NoT H p) (x y n : Int) : ∃ H', (∀ (R : Type) (K : Int → Heap → Option R), tagtree_Tree_Encode k p q x y n H K = K 6 H') ∧ Old H.length H H' := by
  obtain ⟨Hn, hHn⟩ : ∃ Hn, Hn = H ++ [some ⟨[.pointer q], false, 0⟩] := ⟨_, rfl⟩
  have o1 : Old H.length H Hn := hHn ▸ Old.app _ _
  have o := (h.keep o1).ok
  refine ⟨Hn, fun R K => ?_, o1⟩
  unfold tagtree_Tree_Encode tagtree_Tree_Encode_b tagtree_Tree_Encode_p0 tagtree_Tree_Encode_p0_b
  repeat (first | (with_reducible refine (o _ _).trans ?_) | ((with_reducible refine go_ip (x := ?_) ?_ ?_); rotate_left 1; (first  | rfl)) | ((with_reducible refine go_bp (x := ?_) ?_ ?_); rotate_left 1; (first  | rfl)) | ((with_reducible refine go_lp (x := ?_) (l := ?_) (c := ?_) ?_ ?_); rotate_left 3; (first  | rfl)) | ((with_reducible refine go_pp (x := ?_) ?_ ?_); rotate_left 1; (first  | rfl)) | ((with_reducible refine go_i (x := ?_) ?_ ?_); rotate_left 1; (first  | rfl)) | ((with_reducible refine go_b (x := ?_) ?_ ?_); rotate_left 1; (first  | rfl)) | ((with_reducible refine go_l (x := ?_) (l := ?_) (c := ?_) ?_ ?_); rotate_left 3; (first  | rfl)) | ((with_reducible refine go_p (x := ?_) ?_ ?_); rotate_left 1; (first  | rfl)) | ((with_reducible refine go_halst hHn ?_ ?_ ?_); rfl; rfl) | (with_reducible refine go_halN hHn ?_) | ((with_reducible refine go_t ?_ ?_); (show _ = true; rfl)) | ((with_reducible refine go_f ?_ ?_); (show _ = false; rfl)) | (with_reducible refine go_ne ?_) | (with_reducible refine go_eq ?_) | (with_reducible refine go_fad ?_) | (with_reducible refine go_nil ?_))
  rfl
theorem no_dec (k : Nat) {H : Heap} {p q : Option Addr} (h : NoT H p) (x y n : Int) : ∃ H', (∀ (R : Type) (K : Bool → Int → Heap → Option R), tagtree_Tree_Decode k p q x y n H K = K false 6 H') ∧ Old H.length H H' := by
  obtain ⟨Hn, hHn⟩ : ∃ Hn, Hn = H ++ [some ⟨[.pointer q], false, 0⟩] := ⟨_, rfl⟩
  have o1 : Old H.length H Hn := hHn ▸ Old.app _ _
  have o := (h.keep o1).ok
  refine ⟨Hn, fun R K => ?_, o1⟩
  unfold tagtree_Tree_Decode tagtree_Tree_Decode_b tagtree_Tree_Decode_p0 tagtree_Tree_Decode_p0_b
  repeat (first | (with_reducible refine (o _ _).trans ?_) | ((with_reducible refine go_ip (x := ?_) ?_ ?_); rotate_left 1; (first  | rfl)) | ((with_reducible refine go_bp (x := ?_) ?_ ?_); rotate_left 1; (first  | rfl)) | ((with_reducible refine go_lp (x := ?_) (l := ?_) (c := ?_) ?_ ?_); rotate_left 3; (first  | rfl)) | ((with_reducible refine go_pp (x := ?_) ?_ ?_); rotate_left 1; (first  | rfl)) | ((with_reducible refine go_i (x := ?_) ?_ ?_); rotate_left 1; (first  | rfl)) | ((with_reducible refine go_b (x := ?_) ?_ ?_); rotate_left 1; (first  | rfl)) | ((with_reducible refine go_l (x := ?_) (l := ?_) (c := ?_) ?_ ?_); rotate_left 3; (first  | rfl)) | ((with_reducible refine go_p (x := ?_) ?_ ?_); rotate_left 1; (first  | rfl)) | ((with_reducible refine go_halst hHn ?_ ?_ ?_); rfl; rfl) | (with_reducible refine go_halN hHn ?_) | ((with_reducible refine go_t ?_ ?_); (show _ = true; rfl)) | ((with_reducible refine go_f ?_ ?_); (show _ = false; rfl)) | (with_reducible refine go_ne ?_) | (with_reducible refine go_eq ?_) | (with_reducible refine go_fad ?_) | (with_reducible refine go_nil ?_))
  rfl
theorem no_set (k : Nat) {H : Heap} {p : Option Addr} (h : NoT H p) (x y n : Int) (R : Type) (K : Int → Heap → Option R) : tagtree_Tree_Set k p x y n H K = K 6 H := by
  have o := h.ok
  unfold tagtree_Tree_Set tagtree_Tree_Set_b tagtree_Tree_Set_p0 tagtree_Tree_Set_p0_b
  repeat (first | (with_reducible refine (o _ _).trans ?_) | ((with_reducible refine go_ip (x := ?_) ?_ ?_); rotate_left 1; (first  | rfl)) | ((with_reducible refine go_bp (x := ?_) ?_ ?_); rotate_left 1; (first  | rfl)) | ((with_reducible refine go_lp (x := ?_) (l := ?_) (c := ?_) ?_ ?_); rotate_left 3; (first  | rfl)) | ((with_reducible refine go_pp (x := ?_) ?_ ?_); rotate_left 1; (first  | rfl)) | ((with_reducible refine go_i (x := ?_) ?_ ?_); rotate_left 1; (first  | rfl)) | ((with_reducible refine go_b (x := ?_) ?_ ?_); rotate_left 1; (first  | rfl)) | ((with_reducible refine go_l (x := ?_) (l := ?_) (c := ?_) ?_ ?_); rotate_left 3; (first  | rfl)) | ((with_reducible refine go_p (x := ?_) ?_ ?_); rotate_left 1; (first  | rfl)) | ((with_reducible refine go_halst rfl ?_ ?_ ?_); rfl; rfl) | (with_reducible refine go_halN rfl ?_) | ((with_reducible refine go_t ?_ ?_); (show _ = true; rfl)) | ((with_reducible refine go_f ?_ ?_); (show _ = false; rfl)) | (with_reducible refine go_ne ?_) | (with_reducible refine go_eq ?_) | (with_reducible refine go_fad ?_) | (with_reducible refine go_nil ?_))
  rfl
theorem no_val (k : Nat) {H : Heap} {p : Option Addr} (h : NoT H p) (x y : Int) (R : Type) (K : Int → Bool → Heap → Option R) : tagtree_Tree_Value k p x y H K = K 0 false H := by
  have o := h.ok
  unfold tagtree_Tree_Value tagtree_Tree_Value_b tagtree_Tree_Value_p0 tagtree_Tree_Value_p0_b
  repeat (first | (with_reducible refine (o _ _).trans ?_) | ((with_reducible refine go_ip (x := ?_) ?_ ?_); rotate_left 1; (first  | rfl)) | ((with_reducible refine go_bp (x := ?_) ?_ ?_); rotate_left 1; (first  | rfl)) | ((with_reducible refine go_lp (x := ?_) (l := ?_) (c := ?_) ?_ ?_); rotate_left 3; (first  | rfl)) | ((with_reducible refine go_pp (x := ?_) ?_ ?_); rotate_left 1; (first  | rfl)) | ((with_reducible refine go_i (x := ?_) ?_ ?_); rotate_left 1; (first  | rfl)) | ((with_reducible refine go_b (x := ?_) ?_ ?_); rotate_left 1; (first  | rfl)) | ((with_reducible refine go_l (x := ?_) (l := ?_) (c := ?_) ?_ ?_); rotate_left 3; (first  | rfl)) | ((with_reducible refine go_p (x := ?_) ?_ ?_); rotate_left 1; (first  | rfl)) | ((with_reducible refine go_halst rfl ?_ ?_ ?_); rfl; rfl) | (with_reducible refine go_halN rfl ?_) | ((with_reducible refine go_t ?_ ?_); (show _ = true; rfl)) | ((with_reducible refine go_f ?_ ?_); (show _ = false; rfl)) | (with_reducible refine go_ne ?_) | (with_reducible refine go_eq ?_) | (with_reducible refine go_fad ?_) | (with_reducible refine go_nil ?_))
  rfl
theorem no_clone (k : Nat) {H : Heap} {p : Option Addr} (h : NoT H p) (R : Type) (K : Option Addr → Heap → Option R) : tagtree_Tree_Clone k p H K = K none H := by
  have o := h.ok
  unfold tagtree_Tree_Clone tagtree_Tree_Clone_b
  repeat (first | (with_reducible refine (o _ _).trans ?_) | ((with_reducible refine go_ip (x := ?_) ?_ ?_); rotate_left 1; (first  | rfl)) | ((with_reducible refine go_bp (x := ?_) ?_ ?_); rotate_left 1; (first  | rfl)) | ((with_reducible refine go_lp (x := ?_) (l := ?_) (c := ?_) ?_ ?_); rotate_left 3; (first  | rfl)) | ((with_reducible refine go_pp (x := ?_) ?_ ?_); rotate_left 1; (first  | rfl)) | ((with_reducible refine go_i (x := ?_) ?_ ?_); rotate_left 1; (first  | rfl)) | ((with_reducible refine go_b (x := ?_) ?_ ?_); rotate_left 1; (first  | rfl)) | ((with_reducible refine go_l (x := ?_) (l := ?_) (c := ?_) ?_ ?_); rotate_left 3; (first  | rfl)) | ((with_reducible refine go_p (x := ?_) ?_ ?_); rotate_left 1; (first  | rfl)) | ((with_reducible refine go_halst rfl ?_ ?_ ?_); rfl; rfl) | (with_reducible refine go_halN rfl ?_) | ((with_reducible refine go_t ?_ ?_); (show _ = true; rfl)) | ((with_reducible refine go_f ?_ ?_); (show _ = false; rfl)) | (with_reducible refine go_ne ?_) | (with_reducible refine go_eq ?_) | (with_reducible refine go_fad ?_) | (with_reducible refine go_nil ?_))
  rfl
theorem nobody_run (k : Nat) (x y n : Int) (z : Bool) (H : Heap) : L_TagtreeNobody k x y n z H (fun t H => asB (.bool t) H) = some true := by
  obtain ⟨p, H1, e1, h1, o1⟩ : ∃ p H1, (∀ (R : Type) (KN : Int → Int → Int → Option Addr → Heap → Option R), L_TagtreeNobody_p0 k x y n z none H KN = KN x y n p H1) ∧ NoT H1 p ∧ Old H.length H H1 := by
    cases z with
    | false => exact ⟨none, H, fun R KN => rfl, .inl rfl, .refl _ _⟩
    | true =>
      obtain ⟨Ha, hHa⟩ : ∃ Ha, Ha = H ++ [some ⟨[.slice none 0 0, .bool false, .bool false], false, 0⟩] := ⟨_, rfl⟩
      have Oa : Owns Ha H.length [.slice none 0 0, .bool false, .bool false] 0 := by rw [hHa]; exact hblk_new H _
      refine ⟨some ⟨H.length, 0, none⟩, Ha, fun R KN => ?_, .inr ⟨_, rfl, Oa.sees.cell 0⟩, hHa ▸ Old.app _ _⟩
      unfold L_TagtreeNobody_p0 L_TagtreeNobody_p0_b
      repeat (first | ((with_reducible refine go_ip (x := ?_) ?_ ?_); rotate_left 1; (first  | rfl)) | ((with_reducible refine go_bp (x := ?_) ?_ ?_); rotate_left 1; (first  | rfl)) | ((with_reducible refine go_lp (x := ?_) (l := ?_) (c := ?_) ?_ ?_); rotate_left 3; (first  | rfl)) | ((with_reducible refine go_pp (x := ?_) ?_ ?_); rotate_left 1; (first  | rfl)) | ((with_reducible refine go_i (x := ?_) ?_ ?_); rotate_left 1; (first  | rfl)) | ((with_reducible refine go_b (x := ?_) ?_ ?_); rotate_left 1; (first  | rfl)) | ((with_reducible refine go_l (x := ?_) (l := ?_) (c := ?_) ?_ ?_); rotate_left 3; (first  | rfl)) | ((with_reducible refine go_p (x := ?_) ?_ ?_); rotate_left 1; (first  | rfl)) | ((with_reducible refine go_halst hHa ?_ ?_ ?_); rfl; rfl) | (with_reducible refine go_halN hHa ?_) | ((with_reducible refine go_t ?_ ?_); (show _ = true; rfl)) | ((with_reducible refine go_f ?_ ?_); (show _ = false; rfl)) | (with_reducible refine go_ne ?_) | (with_reducible refine go_eq ?_) | (with_reducible refine go_fad ?_) | (with_reducible refine go_nil ?_))
      rfl
  obtain ⟨H2, hH2⟩ : ∃ H2, H2 = H1 ++ [some ⟨[.bool true, .slice none 0 0, .int .u8 0, .int .i64 0, .int .i64 8, .int .i64 0], false, 0⟩] := ⟨_, rfl⟩
  have O2 : Owns H2 H1.length [.bool true, .slice none 0 0, .int .u8 0, .int .i64 0, .int .i64 8, .int .i64 0] 0 := by rw [hH2]; exact hblk_new H1 _
  have o2 : Old H1.length H1 H2 := hH2 ▸ Old.app _ _
  have e2 : ∀ (R : Type) (K : Option Addr → Heap → Option R), bitio_NewWriter H1 K = K (some ⟨H1.length, 0, none⟩) H2 := fun R K => by rw [hH2]; rfl
  obtain ⟨H3, hH3⟩ : ∃ H3, H3 = H2 ++ [some ⟨[.int .u8 255], false, 0⟩] := ⟨_, rfl⟩
  have O3 : Owns H3 H2.length [.int .u8 255] 0 := by rw [hH3]; exact hblk_new H2 _
  have o3 : Old H2.length H2 H3 := hH3 ▸ Old.app _ _
  obtain ⟨p4, H4, e4, o4⟩ : ∃ p4 H4, (∀ (R : Type) (K : Option Addr → Heap → Option R), bitio_NewReader (some ⟨H2.length, 0, none⟩) 1 1 H3 K = K p4 H4) ∧ Old H3.length H3 H4 := by
    have hc : FW.hcells H3 (some ⟨H2.length, 0, none⟩) 1 = some [.int .u8 255] := (O3.sees.shows : Shows H3 _ _).hcells
    obtain ⟨Ha, hHa⟩ : ∃ Ha, Ha = H3 ++ [some (⟨[.int .u8 255], false, 1⟩ : Blk)] := ⟨_, rfl⟩
    have oa : Old H3.length H3 Ha := hHa ▸ Old.app _ _
    have e1 : ∀ (R : Type) (K : Option Addr → Nat → Nat → Heap → Option R), hapnS 1 1 H3 none 0 0 (some ⟨H2.length, 0, none⟩) 1 K = K (some ⟨H3.length, 0, none⟩) 1 unk Ha := fun R K => by
      unfold hapnS hapn
      rw [show 1 * 1 = 1 from rfl, hc]
      simp only
      rw [if_neg (by unfold unk; omega), if_neg (by omega), if_neg (by omega), if_pos (by omega)]
      have : FW.hcells H3 none (0 * 1) = some [] := rfl
      rw [this, hHa]
      rfl
    obtain ⟨Hb, hHb⟩ : ∃ Hb, Hb = Ha ++ [some (⟨[.bool true, .slice (some ⟨H3.length, 0, none⟩) 1 unk, .int .i64 0, .int .i64 0], false, 0⟩ : Blk)] := ⟨_, rfl⟩
    have ob : Old Ha.length Ha Hb := hHb ▸ Old.app _ _
    refine ⟨some ⟨Ha.length, 0, none⟩, Hb, fun R K => ?_, oa.trans (ob.mono oa.1)⟩
    unfold bitio_NewReader bitio_NewReader_b
    repeat (first | (with_reducible refine (e1 _ _).trans ?_) | ((with_reducible refine go_ip (x := ?_) ?_ ?_); rotate_left 1; (first  | rfl)) | ((with_reducible refine go_bp (x := ?_) ?_ ?_); rotate_left 1; (first  | rfl)) | ((with_reducible refine go_lp (x := ?_) (l := ?_) (c := ?_) ?_ ?_); rotate_left 3; (first  | rfl)) | ((with_reducible refine go_pp (x := ?_) ?_ ?_); rotate_left 1; (first  | rfl)) | ((with_reducible refine go_i (x := ?_) ?_ ?_); rotate_left 1; (first  | rfl)) | ((with_reducible refine go_b (x := ?_) ?_ ?_); rotate_left 1; (first  | rfl)) | ((with_reducible refine go_l (x := ?_) (l := ?_) (c := ?_) ?_ ?_); rotate_left 3; (first  | rfl)) | ((with_reducible refine go_p (x := ?_) ?_ ?_); rotate_left 1; (first  | rfl)) | ((with_reducible refine go_halst hHb ?_ ?_ ?_); rfl; rfl) | (with_reducible refine go_halN hHb ?_) | ((with_reducible refine go_t ?_ ?_); (show _ = true; rfl)) | ((with_reducible refine go_f ?_ ?_); (show _ = false; rfl)) | (with_reducible refine go_ne ?_) | (with_reducible refine go_eq ?_) | (with_reducible refine go_fad ?_) | (with_reducible refine go_nil ?_))
    rfl
  have h4 : NoT H4 p := ((h1.keep o2).keep o3).keep o4
  have e5 := no_val k h4 x y
  obtain ⟨H6, e6, o6⟩ := no_dec k h4 (q := p4) x y n
  have h6 := h4.keep o6
  have e7 := no_set k h6 x y n
  obtain ⟨H8, e8, o8⟩ := no_enc k h6 (q := some ⟨H1.length, 0, none⟩) x y n
  have h8 := h6.keep o8
  have hlt := O2.lt
  have n3 := o3.1
  have n4 := o4.1
  have n6 := o6.1
  have O8 := (((O2.old o3 hlt).old o4 (by omega)).old o6 (by omega)).old o8 (by omega)
  have e9 : ∀ (R : Type) (K : Int → Option R), bitio_Writer_Len (some ⟨H1.length, 0, none⟩) H8 K = K 0 := fun R K => by
    have m0 : hcell H8 H1.length 0 = some (.bool true) := O8.sees.cell 0
    have m5 : hcell H8 H1.length 5 = some (.int .i64 0) := O8.sees.cell 5
    unfold bitio_Writer_Len bitio_Writer_Len_b bitio_Writer_ok bitio_Writer_ok_b
    repeat (first | ((with_reducible refine go_ip (x := ?_) ?_ ?_); rotate_left 1; (first  | exact m0 | exact m5 | rfl)) | ((with_reducible refine go_bp (x := ?_) ?_ ?_); rotate_left 1; (first  | exact m0 | exact m5 | rfl)) | ((with_reducible refine go_lp (x := ?_) (l := ?_) (c := ?_) ?_ ?_); rotate_left 3; (first  | exact m0 | exact m5 | rfl)) | ((with_reducible refine go_pp (x := ?_) ?_ ?_); rotate_left 1; (first  | exact m0 | exact m5 | rfl)) | ((with_reducible refine go_i (x := ?_) ?_ ?_); rotate_left 1; (first  | exact m0 | exact m5 | rfl)) | ((with_reducible refine go_b (x := ?_) ?_ ?_); rotate_left 1; (first  | exact m0 | exact m5 | rfl)) | ((with_reducible refine go_l (x := ?_) (l := ?_) (c := ?_) ?_ ?_); rotate_left 3; (first  | exact m0 | exact m5 | rfl)) | ((with_reducible refine go_p (x := ?_) ?_ ?_); rotate_left 1; (first  | exact m0 | exact m5 | rfl)) | ((with_reducible refine go_halst rfl ?_ ?_ ?_); rfl; rfl) | (with_reducible refine go_halN rfl ?_) | ((with_reducible refine go_t ?_ ?_); (show _ = true; rfl)) | ((with_reducible refine go_f ?_ ?_); (show _ = false; rfl)) | (with_reducible refine go_ne ?_) | (with_reducible refine go_eq ?_) | (with_reducible refine go_fad ?_) | (with_reducible refine go_nil ?_))
    rfl
  have e10 := no_clone k h8
  unfold L_TagtreeNobody L_TagtreeNobody_b
  refine (e1 _ _).trans ?_
  repeat (first | (with_reducible refine (e2 _ _).trans ?_) | (with_reducible refine (e4 _ _).trans ?_) | (with_reducible refine (e5 _ _).trans ?_) | (with_reducible refine (e6 _ _).trans ?_) | (with_reducible refine (e7 _ _).trans ?_) | (with_reducible refine (e8 _ _).trans ?_) | (with_reducible refine (e9 _ _).trans ?_) | (with_reducible refine (e10 _ _).trans ?_) | ((with_reducible refine go_ip (x := ?_) ?_ ?_); rotate_left 1; (first  | rfl)) | ((with_reducible refine go_bp (x := ?_) ?_ ?_); rotate_left 1; (first  | rfl)) | ((with_reducible refine go_lp (x := ?_) (l := ?_) (c := ?_) ?_ ?_); rotate_left 3; (first  | rfl)) | ((with_reducible refine go_pp (x := ?_) ?_ ?_); rotate_left 1; (first  | rfl)) | ((with_reducible refine go_i (x := ?_) ?_ ?_); rotate_left 1; (first  | rfl)) | ((with_reducible refine go_b (x := ?_) ?_ ?_); rotate_left 1; (first  | rfl)) | ((with_reducible refine go_l (x := ?_) (l := ?_) (c := ?_) ?_ ?_); rotate_left 3; (first  | rfl)) | ((with_reducible refine go_p (x := ?_) ?_ ?_); rotate_left 1; (first  | rfl)) | ((with_reducible refine go_halst hH3 ?_ ?_ ?_); rfl; rfl) | (with_reducible refine go_halN hH3 ?_) | ((with_reducible refine go_t ?_ ?_); (show _ = true; rfl)) | ((with_reducible refine go_f ?_ ?_); (show _ = false; rfl)) | (with_reducible refine go_ne ?_) | (with_reducible refine go_eq ?_) | (with_reducible refine go_fad ?_) | (with_reducible refine go_nil ?_))
  rfl
theorem nobody_in (H : Heap) (us : List Value) (h : AllLies H [(.int .i64, false), (.int .i64, false), (.int .i64, false), (.bool, false)] us) : L_TagtreeNobody_c Bool 1000 us H asB = some true := by
  obtain ⟨x, vs, rfl, _, h1⟩ := lies_int h
  obtain ⟨y, vs, rfl, _, h2⟩ := lies_int h1
  obtain ⟨n, vs, rfl, _, h3⟩ := lies_int h2
  obtain ⟨z, vs, rfl, h4⟩ := lies_bool h3
  obtain rfl := lies_nil h4
  exact nobody_run _ x y n z H
end Go.Proofs.Ytblkejnciinaeaa.Sh
