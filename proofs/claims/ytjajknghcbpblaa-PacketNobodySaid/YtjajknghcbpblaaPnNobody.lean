/- PacketNobody: Read with a nil state, and with one that New did not return. -/
import Derived.Test.YtjajknghcbpblaaSh11
import Derived.Test.YtjajknghcbpblaaSh19
import Derived.Test.YtjajknghcbpblaaSh4
import Derived.Test.YtjajknghcbpblaaSh7
import Derived.Test.YtjajknghcbpblaaFwY
import Derived.Test.YtjajknghcbpblaaFwX
import Derived.Test.YtjajknghcbpblaaFwO
set_option linter.unusedVariables false
set_option linter.unusedSimpArgs false
namespace Go.Proofs.Ytjajknghcbpblaa.Sh
open Go.Proofs.Ytjajknghcbpblaa.FW
def stc : List Value := [.bool false, .bool false, .bool false, .bool false, .bool false, .bool false, .bool false, .bool false, .slice none 0 0, .slice none 0 0, .int .i64 0]
def NoS (H : Heap) (p : Option Addr) : Prop := p = none ∨ ∃ b, p = some ⟨b, 0, none⟩ ∧ b < H.length ∧ hcell H b 0 = some (.bool false)
theorem no_clone (k : Nat) {H : Heap} {p : Option Addr} (h : NoS H p) (R : Type) (K : Option Addr → Heap → Option R) : pkthead_State_Clone k p H K = K none H := by
  unfold pkthead_State_Clone pkthead_State_Clone_b pkthead_State_Clone_p0 pkthead_State_Clone_p0_b
  rcases h with rfl | ⟨b, rfl, _, m⟩
  · rfl
  · exact go_f rfl (go_nil (go_fad (go_b m (go_t rfl rfl))))
def pk6 : List Value := [.int .i64 0, .int .i64 0, .int .i64 0, .int .i64 0, .slice none 0 0, .slice none 0 0]
theorem sb_nil (H : Heap) (R : Type) (K : Bool → Option R) : R27_SameBytes none 0 0 none 0 0 H K = K true := by
  unfold R27_SameBytes R27_SameBytes_b
  have e : ∀ (K : ByteArray → Option R), hb2s H none 0 K = K (strOfNums []) := fun K => by
    unfold hb2s
    have : FW.hcells H none 0 = some [] := by unfold FW.hcells; rw [if_pos rfl]
    rw [this]; rfl
  rw [e, e]
  rw [show (strOfNums [] == strOfNums []) = true from by first | exact beq_self_eq_true _ | rfl | decide +kernel]
theorem sp_nil (H : Heap) : ∃ H', ∀ (R : Type) (K : Bool → Heap → Option R), R27_SamePacket 0 0 0 0 none 0 0 none 0 0 0 0 0 0 none 0 0 none 0 0 H K = K true H' := by
  obtain ⟨H1, hH1⟩ : ∃ H1, H1 = H ++ [some (⟨pk6, false, 0⟩ : Blk)] := ⟨_, rfl⟩
  have O1 : Owns H1 H.length pk6 0 := by rw [hH1]; exact hblk_new H _
  obtain ⟨H2, hH2⟩ : ∃ H2, H2 = H1 ++ [some (⟨pk6, false, 0⟩ : Blk)] := ⟨_, rfl⟩
  have o2 : Old H1.length H1 H2 := hH2 ▸ Old.app _ _
  have O2 : Owns H2 H1.length pk6 0 := by rw [hH2]; exact hblk_new H1 _
  have A := (O1.old o2 O1.lt).sees
  have B := O2.sees
  have a0 : hcell H2 H.length 0 = some (.int .i64 0) := A.cell 0
  have a1 : hcell H2 H.length 1 = some (.int .i64 0) := A.cell 1
  have a2 : hcell H2 H.length 2 = some (.int .i64 0) := A.cell 2
  have a3 : hcell H2 H.length 3 = some (.int .i64 0) := A.cell 3
  have a4 : hcell H2 H.length 4 = some (.slice none 0 0) := A.cell 4
  have a5 : hcell H2 H.length 5 = some (.slice none 0 0) := A.cell 5
  have b0 : hcell H2 H1.length 0 = some (.int .i64 0) := B.cell 0
  have b1 : hcell H2 H1.length 1 = some (.int .i64 0) := B.cell 1
  have b2 : hcell H2 H1.length 2 = some (.int .i64 0) := B.cell 2
  have b3 : hcell H2 H1.length 3 = some (.int .i64 0) := B.cell 3
  have b4 : hcell H2 H1.length 4 = some (.slice none 0 0) := B.cell 4
  have b5 : hcell H2 H1.length 5 = some (.slice none 0 0) := B.cell 5
  refine ⟨H2, fun R K => ?_⟩
  unfold R27_SamePacket R27_SamePacket_b
  refine go_halN hH1 (go_halN hH2 (go_fad (go_ip a0 (go_ip a1 (go_ip a2 (go_ip a3 (go_fad (go_ip b0 (go_ip b1 (go_ip b2 (go_ip b3 (go_t rfl ?_))))))))))))
  exact go_fad (go_l a4 (go_fad (go_l b4 ((sb_nil _ _ _).trans (go_t rfl (go_fad (go_l a5 (go_fad (go_l b5 ((sb_nil _ _ _).trans rfl))))))))))
theorem no_read (k : Nat) {H : Heap} {p : Option Addr} (h : NoS H p) (q : Option Addr) (l c : Nat) (at' seq : Int) : ∃ H', ∀ (R : Type) (K : Int → Int → Int → Int → Option Addr → Nat → Nat → Option Addr → Nat → Nat → Option Addr → Nat → Nat → Int → Int → Heap → Option R), packet_Read k q l c at' p 0 0 0 1 false false seq H K = K 0 0 0 0 none 0 0 none 0 0 none 0 0 0 6 H' := by
  obtain ⟨H1, hH1⟩ : ∃ H1, H1 = H ++ [some (⟨[.int .i64 0, .int .i64 0, .int .i64 0, .int .i64 1], false, 0⟩ : Blk)] := ⟨_, rfl⟩
  have o1 : Old H.length H H1 := hH1 ▸ Old.app _ _
  obtain ⟨H2, hH2⟩ : ∃ H2, H2 = H1 ++ [some (⟨pk6, false, 0⟩ : Blk)] := ⟨_, rfl⟩
  have o2 : Old H1.length H1 H2 := hH2 ▸ Old.app _ _
  have O2 : Owns H2 H1.length pk6 0 := by rw [hH2]; exact hblk_new H1 _
  have o02 : Old H.length H H2 := o1.trans (o2.mono o1.1)
  have h2 : NoS H2 p := h.imp id fun ⟨b, hb, hl, m⟩ => ⟨b, hb, Nat.lt_of_lt_of_le hl o02.1, by unfold hcell; rw [o02.2 b hl]; exact m⟩
  obtain ⟨H3, e3, O3, _, _⟩ := O2.st (vs := pk6) rfl rfl
  have B := O3.sees
  have b0 : hcell H3 H1.length 0 = some (.int .i64 0) := B.cell 0
  have b1 : hcell H3 H1.length 1 = some (.int .i64 0) := B.cell 1
  have b2 : hcell H3 H1.length 2 = some (.int .i64 0) := B.cell 2
  have b3 : hcell H3 H1.length 3 = some (.int .i64 0) := B.cell 3
  have b4 : hcell H3 H1.length 4 = some (.slice none 0 0) := B.cell 4
  have b5 : hcell H3 H1.length 5 = some (.slice none 0 0) := B.cell 5
  refine ⟨H3, fun R K => ?_⟩
  unfold packet_Read packet_Read_b
  refine go_halN hH1 (go_halN hH2 ((no_clone k h2 _ _).trans (go_t rfl ((e3 _ _).trans ?_))))
  exact go_ip b0 (go_ip b1 (go_ip b2 (go_ip b3 (go_lp b4 (go_lp b5 rfl)))))
theorem nobody_run (k : Nat) (q : Option Addr) (l c : Nat) (at' seq : Int) (z : Bool) (H : Heap) : L_PacketNobody k q l c at' seq z H (fun t H => asB (.bool t) H) = some true := by
  have key : ∀ (G : Heap) (p : Option Addr), NoS G p → (packet_Read k q l c at' p 0 0 0 1 false false seq G fun n21 n22 n23 n24 q25 l26 c27 q28 l29 c30 q31 l32 c33 n34 n35 H36 =>
    hal H36 [.int .i64 0,.int .i64 0,.int .i64 0,.int .i64 0,.slice none 0 0,.slice none 0 0] fun p37 H38 =>
    hst H38 p37 [.int .i64 n21,.int .i64 n22,.int .i64 n23,.int .i64 n24,.slice q25 l26 c27,.slice q28 l29 c30] fun H39 =>
    ldI .i64 H39 (pad p37 0) fun n40 => ldI .i64 H39 (pad p37 1) fun n41 => ldI .i64 H39 (pad p37 2) fun n42 => ldI .i64 H39 (pad p37 3) fun n43 => ldL H39 (pad p37 4) fun q44 l45 c46 => ldL H39 (pad p37 5) fun q47 l48 c49 =>
    R27_SamePacket n40 n41 n42 n43 q44 l45 c46 q47 l48 c49 0 0 0 0 none 0 0 none 0 0 H39 fun t50 H51 =>
    bif t50 then (bif (((l32 : Nat) : Int) == 0) then (bif (n34 == 0) then (bif (n35 == 6) then (L_exampleHoldsq fun t52 => asB (.bool t52) H51) else asB (.bool false) H51) else asB (.bool false) H51) else asB (.bool false) H51) else asB (.bool false) H51) = some true := fun G p h => by
    obtain ⟨H1, e1⟩ := no_read k h q l c at' seq
    obtain ⟨H2, hH2⟩ : ∃ H2, H2 = H1 ++ [some (⟨pk6, false, 0⟩ : Blk)] := ⟨_, rfl⟩
    have O2 : Owns H2 H1.length pk6 0 := by rw [hH2]; exact hblk_new H1 _
    have B := O2.sees
    have b0 : hcell H2 H1.length 0 = some (.int .i64 0) := B.cell 0
    have b1 : hcell H2 H1.length 1 = some (.int .i64 0) := B.cell 1
    have b2 : hcell H2 H1.length 2 = some (.int .i64 0) := B.cell 2
    have b3 : hcell H2 H1.length 3 = some (.int .i64 0) := B.cell 3
    have b4 : hcell H2 H1.length 4 = some (.slice none 0 0) := B.cell 4
    have b5 : hcell H2 H1.length 5 = some (.slice none 0 0) := B.cell 5
    obtain ⟨H3, e3⟩ := sp_nil H2
    refine (e1 _ _).trans (go_halst hH2 rfl rfl (go_ip b0 (go_ip b1 (go_ip b2 (go_ip b3 (go_lp b4 (go_lp b5 ((e3 _ _).trans ?_))))))))
    exact go_t rfl (go_t rfl (go_eq (go_eq rfl)))
  unfold L_PacketNobody L_PacketNobody_b L_PacketNobody_p0 L_PacketNobody_p0_b
  by_cases hl : l > 500
  · exact go_t (decide_eq_true (by omega)) rfl
  refine go_f (decide_eq_false (by omega)) ?_
  cases z with
  | false => exact go_f rfl (key H none (.inl rfl))
  | true =>
    obtain ⟨H1, hH1⟩ : ∃ H1, H1 = H ++ [some (⟨stc, false, 0⟩ : Blk)] := ⟨_, rfl⟩
    have O1 : Owns H1 H.length stc 0 := by rw [hH1]; exact hblk_new H _
    exact go_t rfl (go_halN hH1 (key H1 _ (.inr ⟨_, rfl, O1.lt, O1.sees.cell 0⟩)))
theorem nobody_in (H : Heap) (us : List Value) (h : AllLies H [(.slc (.int .u8), false), (.int .i64, false), (.int .i64, false), (.bool, false)] us) : L_PacketNobody_c Bool 1000 us H asB = some true := by
  obtain ⟨q, c, es, vs, rfl, _, _, _, _, h⟩ := lies_slc h
  obtain ⟨a, vs, rfl, _, h⟩ := lies_int h
  obtain ⟨s, vs, rfl, _, h⟩ := lies_int h
  obtain ⟨z, vs4, rfl, h4⟩ := lies_bool h
  obtain rfl := lies_nil h4
  exact nobody_run 1000 q es.length c a s z H
end Go.Proofs.Ytjajknghcbpblaa.Sh
