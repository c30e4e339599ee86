/- PktheadNobody: the methods of nil, and of a State that New did not return. -/
import Derived.Test.YtmanlfonppfhaaaSh18
import Derived.Test.YtmanlfonppfhaaaFwY
import Derived.Test.YtmanlfonppfhaaaFwO
set_option linter.unusedVariables false
set_option linter.unusedSimpArgs false
namespace Go.Proofs.Ytmanlfonppfhaaa.Sh
open Go.Proofs.Ytmanlfonppfhaaa.FW
def stc : List Value := [.bool false, .bool false, .bool false, .bool false, .bool false, .bool false, .bool false, .bool false, .slice none 0 0, .slice none 0 0, .int .i64 0]
/-- A state that is nil or as Go makes it. -/
def NoS (H : Heap) (p : Option Addr) : Prop := p = none ∨ ∃ b, p = some ⟨b, 0, none⟩ ∧ ∀ i, hcell H b i = stc[i]?
theorem no_encode (k : Nat) {H : Heap} {p : Option Addr} (h : NoS H p) (q : Option Addr) (l c : Nat) (R : Type) (K : Option Addr → Nat → Nat → Int → Heap → Option R) : pkthead_State_Encode k p q l c H K = K none 0 0 6 H := by
  unfold pkthead_State_Encode pkthead_State_Encode_b pkthead_State_Encode_p0 pkthead_State_Encode_p0_b
  rcases h with rfl | ⟨b, rfl, m⟩
  · rfl
  · unfold stc at m
    repeat (first | ((with_reducible refine go_ip (x := ?_) ?_ ?_); rotate_left 1; (first | ((with_reducible refine (m _).trans ?_); rfl) | rfl)) | ((with_reducible refine go_bp (x := ?_) ?_ ?_); rotate_left 1; (first | ((with_reducible refine (m _).trans ?_); rfl) | rfl)) | ((with_reducible refine go_lp (x := ?_) (l := ?_) (c := ?_) ?_ ?_); rotate_left 3; (first | ((with_reducible refine (m _).trans ?_); rfl) | rfl)) | ((with_reducible refine go_pp (x := ?_) ?_ ?_); rotate_left 1; (first | ((with_reducible refine (m _).trans ?_); rfl) | rfl)) | ((with_reducible refine go_i (x := ?_) ?_ ?_); rotate_left 1; (first | ((with_reducible refine (m _).trans ?_); rfl) | rfl)) | ((with_reducible refine go_b (x := ?_) ?_ ?_); rotate_left 1; (first | ((with_reducible refine (m _).trans ?_); rfl) | rfl)) | ((with_reducible refine go_l (x := ?_) (l := ?_) (c := ?_) ?_ ?_); rotate_left 3; (first | ((with_reducible refine (m _).trans ?_); rfl) | rfl)) | ((with_reducible refine go_p (x := ?_) ?_ ?_); rotate_left 1; (first | ((with_reducible refine (m _).trans ?_); rfl) | rfl)) | ((with_reducible refine go_halst rfl ?_ ?_ ?_); rfl; rfl) | (with_reducible refine go_halN rfl ?_) | ((with_reducible refine go_t ?_ ?_); (show _ = true; rfl)) | ((with_reducible refine go_f ?_ ?_); (show _ = false; rfl)) | (with_reducible refine go_ne ?_) | (with_reducible refine go_eq ?_) | (with_reducible refine go_fad ?_) | (with_reducible refine go_nil ?_))
    rfl
theorem no_decode (k : Nat) {H : Heap} {p : Option Addr} (h : NoS H p) (q : Option Addr) (l c : Nat) (R : Type) (K : Option Addr → Nat → Nat → Int → Int → Heap → Option R) : pkthead_State_Decode k p q l c H K = K none 0 0 0 6 H := by
  unfold pkthead_State_Decode pkthead_State_Decode_b pkthead_State_Decode_p0 pkthead_State_Decode_p0_b
  rcases h with rfl | ⟨b, rfl, m⟩
  · rfl
  · unfold stc at m
    repeat (first | ((with_reducible refine go_ip (x := ?_) ?_ ?_); rotate_left 1; (first | ((with_reducible refine (m _).trans ?_); rfl) | rfl)) | ((with_reducible refine go_bp (x := ?_) ?_ ?_); rotate_left 1; (first | ((with_reducible refine (m _).trans ?_); rfl) | rfl)) | ((with_reducible refine go_lp (x := ?_) (l := ?_) (c := ?_) ?_ ?_); rotate_left 3; (first | ((with_reducible refine (m _).trans ?_); rfl) | rfl)) | ((with_reducible refine go_pp (x := ?_) ?_ ?_); rotate_left 1; (first | ((with_reducible refine (m _).trans ?_); rfl) | rfl)) | ((with_reducible refine go_i (x := ?_) ?_ ?_); rotate_left 1; (first | ((with_reducible refine (m _).trans ?_); rfl) | rfl)) | ((with_reducible refine go_b (x := ?_) ?_ ?_); rotate_left 1; (first | ((with_reducible refine (m _).trans ?_); rfl) | rfl)) | ((with_reducible refine go_l (x := ?_) (l := ?_) (c := ?_) ?_ ?_); rotate_left 3; (first | ((with_reducible refine (m _).trans ?_); rfl) | rfl)) | ((with_reducible refine go_p (x := ?_) ?_ ?_); rotate_left 1; (first | ((with_reducible refine (m _).trans ?_); rfl) | rfl)) | ((with_reducible refine go_halst rfl ?_ ?_ ?_); rfl; rfl) | (with_reducible refine go_halN rfl ?_) | ((with_reducible refine go_t ?_ ?_); (show _ = true; rfl)) | ((with_reducible refine go_f ?_ ?_); (show _ = false; rfl)) | (with_reducible refine go_ne ?_) | (with_reducible refine go_eq ?_) | (with_reducible refine go_fad ?_) | (with_reducible refine go_nil ?_))
    rfl
theorem no_plan (k : Nat) {H : Heap} {p : Option Addr} (h : NoS H p) (q : Option Addr) (l c : Nat) (q2 : Option Addr) (l2 c2 : Nat) (R : Type) (K : Int → Heap → Option R) : pkthead_State_Plan k p q l c q2 l2 c2 H K = K 6 H := by
  unfold pkthead_State_Plan pkthead_State_Plan_b pkthead_State_Plan_p0 pkthead_State_Plan_p0_b
  rcases h with rfl | ⟨b, rfl, m⟩
  · rfl
  · unfold stc at m
    repeat (first | ((with_reducible refine go_ip (x := ?_) ?_ ?_); rotate_left 1; (first | ((with_reducible refine (m _).trans ?_); rfl) | rfl)) | ((with_reducible refine go_bp (x := ?_) ?_ ?_); rotate_left 1; (first | ((with_reducible refine (m _).trans ?_); rfl) | rfl)) | ((with_reducible refine go_lp (x := ?_) (l := ?_) (c := ?_) ?_ ?_); rotate_left 3; (first | ((with_reducible refine (m _).trans ?_); rfl) | rfl)) | ((with_reducible refine go_pp (x := ?_) ?_ ?_); rotate_left 1; (first | ((with_reducible refine (m _).trans ?_); rfl) | rfl)) | ((with_reducible refine go_i (x := ?_) ?_ ?_); rotate_left 1; (first | ((with_reducible refine (m _).trans ?_); rfl) | rfl)) | ((with_reducible refine go_b (x := ?_) ?_ ?_); rotate_left 1; (first | ((with_reducible refine (m _).trans ?_); rfl) | rfl)) | ((with_reducible refine go_l (x := ?_) (l := ?_) (c := ?_) ?_ ?_); rotate_left 3; (first | ((with_reducible refine (m _).trans ?_); rfl) | rfl)) | ((with_reducible refine go_p (x := ?_) ?_ ?_); rotate_left 1; (first | ((with_reducible refine (m _).trans ?_); rfl) | rfl)) | ((with_reducible refine go_halst rfl ?_ ?_ ?_); rfl; rfl) | (with_reducible refine go_halN rfl ?_) | ((with_reducible refine go_t ?_ ?_); (show _ = true; rfl)) | ((with_reducible refine go_f ?_ ?_); (show _ = false; rfl)) | (with_reducible refine go_ne ?_) | (with_reducible refine go_eq ?_) | (with_reducible refine go_fad ?_) | (with_reducible refine go_nil ?_))
    rfl
theorem no_blocks {H : Heap} {p : Option Addr} (h : NoS H p) (R : Type) (K : Int → Option R) : pkthead_State_Blocks p H K = K 0 := by
  unfold pkthead_State_Blocks pkthead_State_Blocks_b
  rcases h with rfl | ⟨b, rfl, m⟩
  · rfl
  · unfold stc at m
    repeat (first | ((with_reducible refine go_ip (x := ?_) ?_ ?_); rotate_left 1; (first | ((with_reducible refine (m _).trans ?_); rfl) | rfl)) | ((with_reducible refine go_bp (x := ?_) ?_ ?_); rotate_left 1; (first | ((with_reducible refine (m _).trans ?_); rfl) | rfl)) | ((with_reducible refine go_lp (x := ?_) (l := ?_) (c := ?_) ?_ ?_); rotate_left 3; (first | ((with_reducible refine (m _).trans ?_); rfl) | rfl)) | ((with_reducible refine go_pp (x := ?_) ?_ ?_); rotate_left 1; (first | ((with_reducible refine (m _).trans ?_); rfl) | rfl)) | ((with_reducible refine go_i (x := ?_) ?_ ?_); rotate_left 1; (first | ((with_reducible refine (m _).trans ?_); rfl) | rfl)) | ((with_reducible refine go_b (x := ?_) ?_ ?_); rotate_left 1; (first | ((with_reducible refine (m _).trans ?_); rfl) | rfl)) | ((with_reducible refine go_l (x := ?_) (l := ?_) (c := ?_) ?_ ?_); rotate_left 3; (first | ((with_reducible refine (m _).trans ?_); rfl) | rfl)) | ((with_reducible refine go_p (x := ?_) ?_ ?_); rotate_left 1; (first | ((with_reducible refine (m _).trans ?_); rfl) | rfl)) | ((with_reducible refine go_halst rfl ?_ ?_ ?_); rfl; rfl) | (with_reducible refine go_halN rfl ?_) | ((with_reducible refine go_t ?_ ?_); (show _ = true; rfl)) | ((with_reducible refine go_f ?_ ?_); (show _ = false; rfl)) | (with_reducible refine go_ne ?_) | (with_reducible refine go_eq ?_) | (with_reducible refine go_fad ?_) | (with_reducible refine go_nil ?_))
    rfl
theorem no_passes (k : Nat) {H : Heap} {p : Option Addr} (h : NoS H p) (n : Int) (R : Type) (K : Int → Option R) : pkthead_State_Passes k p n H K = K 0 := by
  unfold pkthead_State_Passes pkthead_State_Passes_b pkthead_State_Passes_p0 pkthead_State_Passes_p0_b
  rcases h with rfl | ⟨b, rfl, m⟩
  · rfl
  · unfold stc at m
    by_cases c0 : n < 0
    · have d0 := decide_eq_true c0
      repeat (first | ((with_reducible refine go_ip (x := ?_) ?_ ?_); rotate_left 1; (first | ((with_reducible refine (m _).trans ?_); rfl) | rfl)) | ((with_reducible refine go_bp (x := ?_) ?_ ?_); rotate_left 1; (first | ((with_reducible refine (m _).trans ?_); rfl) | rfl)) | ((with_reducible refine go_lp (x := ?_) (l := ?_) (c := ?_) ?_ ?_); rotate_left 3; (first | ((with_reducible refine (m _).trans ?_); rfl) | rfl)) | ((with_reducible refine go_pp (x := ?_) ?_ ?_); rotate_left 1; (first | ((with_reducible refine (m _).trans ?_); rfl) | rfl)) | ((with_reducible refine go_i (x := ?_) ?_ ?_); rotate_left 1; (first | ((with_reducible refine (m _).trans ?_); rfl) | rfl)) | ((with_reducible refine go_b (x := ?_) ?_ ?_); rotate_left 1; (first | ((with_reducible refine (m _).trans ?_); rfl) | rfl)) | ((with_reducible refine go_l (x := ?_) (l := ?_) (c := ?_) ?_ ?_); rotate_left 3; (first | ((with_reducible refine (m _).trans ?_); rfl) | rfl)) | ((with_reducible refine go_p (x := ?_) ?_ ?_); rotate_left 1; (first | ((with_reducible refine (m _).trans ?_); rfl) | rfl)) | ((with_reducible refine go_halst rfl ?_ ?_ ?_); rfl; rfl) | (with_reducible refine go_halN rfl ?_) | (with_reducible refine go_t d0 ?_) | (with_reducible refine go_f d0 ?_) | ((with_reducible refine go_t ?_ ?_); (show _ = true; rfl)) | ((with_reducible refine go_f ?_ ?_); (show _ = false; rfl)) | (with_reducible refine go_ne ?_) | (with_reducible refine go_eq ?_) | (with_reducible refine go_fad ?_) | (with_reducible refine go_nil ?_))
      rfl
    · have d0 := decide_eq_false c0
      have d1 : decide (n ≥ ((0 : Nat) : Int)) = true := decide_eq_true (by omega)
      repeat (first | ((with_reducible refine go_ip (x := ?_) ?_ ?_); rotate_left 1; (first | ((with_reducible refine (m _).trans ?_); rfl) | rfl)) | ((with_reducible refine go_bp (x := ?_) ?_ ?_); rotate_left 1; (first | ((with_reducible refine (m _).trans ?_); rfl) | rfl)) | ((with_reducible refine go_lp (x := ?_) (l := ?_) (c := ?_) ?_ ?_); rotate_left 3; (first | ((with_reducible refine (m _).trans ?_); rfl) | rfl)) | ((with_reducible refine go_pp (x := ?_) ?_ ?_); rotate_left 1; (first | ((with_reducible refine (m _).trans ?_); rfl) | rfl)) | ((with_reducible refine go_i (x := ?_) ?_ ?_); rotate_left 1; (first | ((with_reducible refine (m _).trans ?_); rfl) | rfl)) | ((with_reducible refine go_b (x := ?_) ?_ ?_); rotate_left 1; (first | ((with_reducible refine (m _).trans ?_); rfl) | rfl)) | ((with_reducible refine go_l (x := ?_) (l := ?_) (c := ?_) ?_ ?_); rotate_left 3; (first | ((with_reducible refine (m _).trans ?_); rfl) | rfl)) | ((with_reducible refine go_p (x := ?_) ?_ ?_); rotate_left 1; (first | ((with_reducible refine (m _).trans ?_); rfl) | rfl)) | ((with_reducible refine go_halst rfl ?_ ?_ ?_); rfl; rfl) | (with_reducible refine go_halN rfl ?_) | (with_reducible refine go_t d0 ?_) | (with_reducible refine go_f d0 ?_) | (with_reducible refine go_t d1 ?_) | (with_reducible refine go_f d1 ?_) | ((with_reducible refine go_t ?_ ?_); (show _ = true; rfl)) | ((with_reducible refine go_f ?_ ?_); (show _ = false; rfl)) | (with_reducible refine go_ne ?_) | (with_reducible refine go_eq ?_) | (with_reducible refine go_fad ?_) | (with_reducible refine go_nil ?_))
      rfl
theorem no_clone (k : Nat) {H : Heap} {p : Option Addr} (h : NoS H p) (R : Type) (K : Option Addr → Heap → Option R) : pkthead_State_Clone k p H K = K none H := by
  unfold pkthead_State_Clone pkthead_State_Clone_b pkthead_State_Clone_p0 pkthead_State_Clone_p0_b
  rcases h with rfl | ⟨b, rfl, m⟩
  · rfl
  · unfold stc at m
    repeat (first | ((with_reducible refine go_ip (x := ?_) ?_ ?_); rotate_left 1; (first | ((with_reducible refine (m _).trans ?_); rfl) | rfl)) | ((with_reducible refine go_bp (x := ?_) ?_ ?_); rotate_left 1; (first | ((with_reducible refine (m _).trans ?_); rfl) | rfl)) | ((with_reducible refine go_lp (x := ?_) (l := ?_) (c := ?_) ?_ ?_); rotate_left 3; (first | ((with_reducible refine (m _).trans ?_); rfl) | rfl)) | ((with_reducible refine go_pp (x := ?_) ?_ ?_); rotate_left 1; (first | ((with_reducible refine (m _).trans ?_); rfl) | rfl)) | ((with_reducible refine go_i (x := ?_) ?_ ?_); rotate_left 1; (first | ((with_reducible refine (m _).trans ?_); rfl) | rfl)) | ((with_reducible refine go_b (x := ?_) ?_ ?_); rotate_left 1; (first | ((with_reducible refine (m _).trans ?_); rfl) | rfl)) | ((with_reducible refine go_l (x := ?_) (l := ?_) (c := ?_) ?_ ?_); rotate_left 3; (first | ((with_reducible refine (m _).trans ?_); rfl) | rfl)) | ((with_reducible refine go_p (x := ?_) ?_ ?_); rotate_left 1; (first | ((with_reducible refine (m _).trans ?_); rfl) | rfl)) | ((with_reducible refine go_halst rfl ?_ ?_ ?_); rfl; rfl) | (with_reducible refine go_halN rfl ?_) | ((with_reducible refine go_t ?_ ?_); (show _ = true; rfl)) | ((with_reducible refine go_f ?_ ?_); (show _ = false; rfl)) | (with_reducible refine go_ne ?_) | (with_reducible refine go_eq ?_) | (with_reducible refine go_fad ?_) | (with_reducible refine go_nil ?_))
    rfl
theorem nobody_run {k : Nat} (hk : 5 < k) (n : Int) (q1 : Option Addr) (l1 c1 : Nat) (q2 : Option Addr) (l2 c2 : Nat) (q3 : Option Addr) (l3 c3 : Nat) (q4 : Option Addr) (l4 c4 : Nat) (blk : Int) (H : Heap) : L_PktheadNobody k n q1 l1 c1 q2 l2 c2 q3 l3 c3 q4 l4 c4 blk H (fun t H => asB (.bool t) H) = some true := by
  obtain ⟨H1, hH1⟩ : ∃ H1, H1 = H ++ [some (⟨[.int .i64 n, .slice q1 l1 c1, .slice q2 l2 c2, .slice q3 l3 c3, .slice q4 l4 c4], false, 0⟩ : Blk)] := ⟨_, rfl⟩
  obtain ⟨H2, hH2⟩ : ∃ H2, H2 = H1 ++ [some (⟨stc, false, 0⟩ : Blk)] := ⟨_, rfl⟩
  obtain ⟨H3, hH3⟩ : ∃ H3, H3 = H2 ++ [some (⟨[.pointer none, .pointer (some ⟨H1.length, 0, none⟩)], false, 0⟩ : Blk)] := ⟨_, rfl⟩
  have O1 : Owns H1 H.length [.int .i64 n, .slice q1 l1 c1, .slice q2 l2 c2, .slice q3 l3 c3, .slice q4 l4 c4] 0 := by rw [hH1]; exact hblk_new H _
  have O2 : Owns H2 H1.length stc 0 := by rw [hH2]; exact hblk_new H1 _
  have O3 : Owns H3 H2.length [.pointer none, .pointer (some ⟨H1.length, 0, none⟩)] 0 := by rw [hH3]; exact hblk_new H2 _
  have o2 : Old H1.length H1 H2 := hH2 ▸ Old.app _ _
  have o3 : Old H2.length H2 H3 := hH3 ▸ Old.app _ _
  have n2 := o2.1
  have O1' := (O1.old o2 O1.lt).old o3 (by have := O1.lt; omega)
  have O2' := O2.old o3 O2.lt
  have m1 : ∀ i, hcell H3 H.length i = [Value.int .i64 n, .slice q1 l1 c1, .slice q2 l2 c2, .slice q3 l3 c3, .slice q4 l4 c4][i]? := fun i => O1'.sees.cell i
  have m3 : ∀ i, hcell H3 H2.length i = [Value.pointer none, .pointer (some ⟨H1.length, 0, none⟩)][i]? := fun i => O3.sees.cell i
  have step : ∀ (i : Nat) (p : Option Addr), i < 2 → NoS H3 p → hcell H3 H2.length i = some (.pointer p) → ∀ (R : Type) (KN : Int → Option Addr → Option Addr → Nat → Nat → Int → Int → Heap → Option R) (KR : Bool → Heap → Option R), L_PktheadNobody_p1 k blk (some ⟨H.length, 0, none⟩) (some ⟨H2.length, 0, none⟩) 2 2 ((2 : Nat) : Int) (i : Int) H3 KN KR = KN blk (some ⟨H.length, 0, none⟩) (some ⟨H2.length, 0, none⟩) 2 2 ((2 : Nat) : Int) (i : Int) H3 := by
    intro i p hi hp hm R KN KR
    have e0 : ∀ (R : Type) (K : Option Addr → Option R), hidx (some ⟨H2.length, 0, none⟩) 2 (i : Int) 1 K = K (some ⟨H2.length, i, none⟩) := fun R K => by rw [hidx_1 _ _ _ _ (by omega) (by omega), Int.toNat_natCast, Nat.zero_add]
    have e1 := no_encode k hp q3 l3 c3
    have e2 := no_decode k hp q4 l4 c4
    have e3 := no_plan k hp q1 l1 c1 q2 l2 c2
    have e4 := no_blocks hp
    have e5 := no_passes k hp blk
    have e6 := no_clone k hp
    unfold L_PktheadNobody_p1 L_PktheadNobody_p1_b
    repeat (first | (with_reducible refine (e0 _ _).trans ?_) | (with_reducible refine (e1 _ _).trans ?_) | (with_reducible refine (e2 _ _).trans ?_) | (with_reducible refine (e3 _ _).trans ?_) | (with_reducible refine (e4 _ _).trans ?_) | (with_reducible refine (e5 _ _).trans ?_) | (with_reducible refine (e6 _ _).trans ?_) | ((with_reducible refine go_ip (x := ?_) ?_ ?_); rotate_left 1; (first | ((with_reducible refine (m1 _).trans ?_); rfl) | exact hm | rfl)) | ((with_reducible refine go_bp (x := ?_) ?_ ?_); rotate_left 1; (first | ((with_reducible refine (m1 _).trans ?_); rfl) | exact hm | rfl)) | ((with_reducible refine go_lp (x := ?_) (l := ?_) (c := ?_) ?_ ?_); rotate_left 3; (first | ((with_reducible refine (m1 _).trans ?_); rfl) | exact hm | rfl)) | ((with_reducible refine go_pp (x := ?_) ?_ ?_); rotate_left 1; (first | ((with_reducible refine (m1 _).trans ?_); rfl) | exact hm | rfl)) | ((with_reducible refine go_i (x := ?_) ?_ ?_); rotate_left 1; (first | ((with_reducible refine (m1 _).trans ?_); rfl) | exact hm | rfl)) | ((with_reducible refine go_b (x := ?_) ?_ ?_); rotate_left 1; (first | ((with_reducible refine (m1 _).trans ?_); rfl) | exact hm | rfl)) | ((with_reducible refine go_l (x := ?_) (l := ?_) (c := ?_) ?_ ?_); rotate_left 3; (first | ((with_reducible refine (m1 _).trans ?_); rfl) | exact hm | rfl)) | ((with_reducible refine go_p (x := ?_) ?_ ?_); rotate_left 1; (first | ((with_reducible refine (m1 _).trans ?_); rfl) | exact hm | rfl)) | ((with_reducible refine go_halst rfl ?_ ?_ ?_); rfl; rfl) | (with_reducible refine go_halN rfl ?_) | ((with_reducible refine go_t ?_ ?_); (show _ = true; rfl)) | ((with_reducible refine go_f ?_ ?_); (show _ = false; rfl)) | (with_reducible refine go_ne ?_) | (with_reducible refine go_eq ?_) | (with_reducible refine go_fad ?_) | (with_reducible refine go_nil ?_))
    rfl
  have s0 := step 0 none (by omega) (.inl rfl) (m3 0)
  have s1 := step 1 (some ⟨H1.length, 0, none⟩) (by omega) (.inr ⟨_, rfl, fun i => O2'.sees.cell i⟩) (m3 1)
  obtain ⟨j, rfl⟩ : ∃ j, k = j + 1 + 1 + 1 := ⟨k - 3, by omega⟩
  have d0 : decide ((0 : Int) < ((2 : Nat) : Int)) = true := rfl
  have d1 : decide ((1 : Int) < ((2 : Nat) : Int)) = true := rfl
  have d2 : decide ((2 : Int) < ((2 : Nat) : Int)) = false := rfl
  have w0 : IntKind.wrap .i64 ((0 : Int) + 1) = 1 := IntWalk.i64_in _ ⟨by omega, by omega⟩
  have w1 : IntKind.wrap .i64 ((1 : Int) + 1) = 2 := IntWalk.i64_in _ ⟨by omega, by omega⟩
  unfold L_PktheadNobody L_PktheadNobody_b
  refine go_halN hH1 (go_halN hH2 (go_halN hH3 ?_))
  unfold L_PktheadNobody_l0 L_PktheadNobody_l0_b
  refine go_t d0 ((s0 _ _ _).trans ?_)
  try dsimp only
  have w0' : IntKind.wrap .i64 (((0 : Nat) : Int) + 1) = 1 := w0
  rw [w0']
  unfold L_PktheadNobody_l0 L_PktheadNobody_l0_b
  refine go_t d1 ((s1 _ _ _).trans ?_)
  try dsimp only
  have w1' : IntKind.wrap .i64 (((1 : Nat) : Int) + 1) = 2 := w1
  rw [w1']
  unfold L_PktheadNobody_l0 L_PktheadNobody_l0_b
  exact go_f d2 rfl
def dCon : D := .pair (.int .i64) (.pair (.int .i64) (.pair (.slc (.int .i64)) .nil))
def dOp : D := .pair (.int .i64) (.pair (.slc (.int .i64)) (.pair (.slc (.int .i64)) (.pair (.slc dCon) (.pair (.slc (.int .u8)) .nil))))
theorem nobody_in (H : Heap) (us : List Value) (h : AllLies H [(dOp, true), (.int .i64, false)] us) : L_PktheadNobody_c Bool 1000 us H asB = some true := by
  obtain ⟨cs, vs, rfl, hs, h2⟩ := lies_agg h
  obtain ⟨blk, vs2, rfl, _, h3⟩ := lies_int h2
  obtain rfl := lies_nil h3
  obtain ⟨x, y, rfl, ⟨a, rfl, ha⟩, x2, y2, rfl, ⟨q1, c1, e1, rfl, _, _, _, _⟩, x3, y3, rfl, ⟨q2, c2, e2, rfl, _, _, _, _⟩, x4, y4, rfl, ⟨q3, c3, e3, rfl, _, _, _, _⟩, x5, y5, rfl, ⟨q4, c4, e4, rfl, _, _, _, _⟩, hn⟩ := hs
  have hn' : y5 = [] := hn
  subst hn'
  exact nobody_run (by omega) a q1 _ c1 q2 _ c2 q3 _ c3 q4 _ c4 blk H
end Go.Proofs.Ytmanlfonppfhaaa.Sh
