/- A packet and a row of bytes that came in, opened. -/
import Derived.Test.YtjajknghcbpblaaOpens
import Derived.Test.YtjajknghcbpblaaQx0
import Derived.Test.YtjajknghcbpblaaWSized
namespace Go.Proofs.Ytjajknghcbpblaa.Opens
open Go.RowKit Go.ChangeShapes Go.WideShapes Go.Proofs.YtjajknghcbpblaaW.PrintWords Go.Proofs.YtjajknghcbpblaaW.PrintLast Go.Proofs.YtjajknghcbpblaaW.PrintMore
theorem i1 : Op Try.prog 3 (Kd.int .i64) (fun n => (Lit.int .i64 n).wf = true) := op_int Try.underlying3 (by kernel_rfl)
theorem u1 : Op Try.prog 5 (Kd.int .u8) (fun n => (Lit.int .u8 n).wf = true) := op_int Try.underlying5 (by kernel_rfl)
theorem idOp : Op Try.prog 27 (Kd.pair (Kd.int .i64) (Kd.pair (Kd.int .i64) (Kd.pair (Kd.int .i64) (Kd.int .i64)))) (fun _ => True) :=
  (op_struct Try.underlying27 (by kernel_rfl) (opF_cons rfl i1 (opF_cons rfl i1 (opF_cons rfl i1 (opF_one rfl i1))))).mono (fun _ _ => trivial)
theorem bytesOp : Op Try.prog 22 (Kd.slice 5 (Kd.int .u8)) (fun xs => xs.length ≤ maxLen ∧ ∀ x ∈ xs, (Lit.int .u8 x).wf = true) := op_slice Try.underlying22 (by kernel_rfl) u1
theorem pktOp : Op Try.prog 29 (Kd.pair (Kd.pair (Kd.int .i64) (Kd.pair (Kd.int .i64) (Kd.pair (Kd.int .i64) (Kd.int .i64)))) (Kd.pair (Kd.slice 5 (Kd.int .u8)) (Kd.slice 5 (Kd.int .u8)))) (fun x => (∀ y ∈ x.2.1, (Lit.int .u8 y).wf = true) ∧ ∀ y ∈ x.2.2, (Lit.int .u8 y).wf = true) :=
  (op_struct Try.underlying29 (by kernel_rfl) (opF_cons rfl idOp (opF_cons rfl bytesOp (opF_one rfl bytesOp)))).mono (fun _ h => ⟨h.2.1.2, h.2.2.2⟩)
/-- A packet's rows are no longer than its weight allows. -/
theorem pkt_sized {H : Type} {enc : TypeId × Value → H} {W : World} {i0 i1 i2 i3 : Value} {A4 A5 : Option Addr} {l4 c4 l5 c5 : Nat} {d : DataW H} {ps : List MemPlace} {ts : List TypeId} {ds : List (DataW H)} {j : Nat}
    (hsz : (DataW.weightsEach Try.prog ts ds).all (· ≤ reachBytes) = true) (ht : ts[j]? = some 29) (hd : ds[j]? = some d)
    (h : DataW.Trod enc Try.prog W 0 (fun _ => true) true 29 (.agg #[i0, i1, i2, i3, .slice A4 l4 c4, .slice A5 l5 c5]) d ps) : l4 ≤ 140737488351232 ∧ l5 ≤ 140737488351232 := by
  obtain ⟨fuel, hf⟩ := h
  obtain ⟨xs, n, _, hx, _, hlen, he⟩ := DataW.trod_struct Try.underlying29 hf
  obtain ⟨rfl, _⟩ := Prod.mk.inj hx
  have hw : (DataW.weightsEach Try.prog [27, 22, 22] (xs.map (·.1))).all (· ≤ reachBytes) = true := by
    refine List.all_eq_true.2 fun x hxm => List.all_eq_true.1 hsz x (DataW.weights_mem_each ht hd x ?_)
    simp only [DataW.weights, Try.underlying29]
    exact hxm
  have h4 := he 1 _ rfl
  have h5 := he 2 _ rfl
  have e4 : ((Value.agg #[i0, i1, i2, i3, .slice A4 l4 c4, .slice A5 l5 c5]).cells.toList.drop 4).take (Try.prog.cellsOf 22) = [.slice A4 l4 c4] := by
    rw [show Try.prog.cellsOf 22 = 1 by kernel_rfl]
    rfl
  have e5 : ((Value.agg #[i0, i1, i2, i3, .slice A4 l4 c4, .slice A5 l5 c5]).cells.toList.drop 5).take (Try.prog.cellsOf 22) = [.slice A5 l5 c5] := by
    rw [show Try.prog.cellsOf 22 = 1 by kernel_rfl]
    rfl
  have hl : xs.length = 3 := hlen
  obtain ⟨x0, x1, x2, rfl⟩ : ∃ x0 x1 x2, xs = [x0, x1, x2] := by
    match xs, hl with
    | [x0, x1, x2], _ => exact ⟨_, _, _, rfl⟩
  have t4 : DataW.trod enc Try.prog W 0 (fun _ => true) true n 22 [.slice A4 l4 c4] = some x1 := by rw [← e4]; exact h4
  have t5 : DataW.trod enc Try.prog W 0 (fun _ => true) true n 22 [.slice A5 l5 c5] = some x2 := by rw [← e5]; exact h5
  have s4 := sized_ints hw (j := 1) (t := 22) (d := x1.1) (ps := x1.2) rfl rfl Try.underlying22 Try.underlying5 (by kernel_rfl) (by kernel_rfl : Try.prog.bytesOf 5 = 1) (a := A4) (len := l4) (cap := c4) ⟨n, t4⟩
  have s5 := sized_ints hw (j := 2) (t := 22) (d := x2.1) (ps := x2.2) rfl rfl Try.underlying22 Try.underlying5 (by kernel_rfl) (by kernel_rfl : Try.prog.bytesOf 5 = 1) (a := A5) (len := l5) (cap := c5) ⟨n, t5⟩
  omega
set_option maxRecDepth 100000 in
theorem pkt_open {H : Type} {enc : TypeId × Value → H} {W : World} {base : Nat} {v : Value} {dd : DataW H} {ps : List MemPlace} {ts : List TypeId} {ds : List (DataW H)} {j : Nat} (hsz : (DataW.weightsEach Try.prog ts ds).all (· ≤ reachBytes) = true) (ht : ts[j]? = some 29) (hd : ds[j]? = some dd)
    (hv : Value.okWide Try.prog W .any base 29 v) (h : DataW.Trod enc Try.prog W 0 (fun _ => true) true 29 v dd ps) :
    ∃ (a0 a1 a2 a3 : Int) (A : Option Addr) (c : Nat) (l : List Int) (A' : Option Addr) (c' : Nat) (l' : List Int), v = .agg #[.int .i64 a0, .int .i64 a1, .int .i64 a2, .int .i64 a3, .slice A l.length c, .slice A' l'.length c'] ∧ l.length ≤ c ∧ Kd.C (Kd.int .u8) W A l.length l ∧ l.length ≤ 140737488351232 ∧ (∀ y ∈ l, (Lit.int .u8 y).wf = true) ∧
      l'.length ≤ c' ∧ Kd.C (Kd.int .u8) W A' l'.length l' ∧ l'.length ≤ 140737488351232 ∧ (∀ y ∈ l', (Lit.int .u8 y).wf = true) := by
  obtain ⟨cs, rfl, _⟩ := okWide_struct Try.underlying29 hv
  have h0 := h
  obtain ⟨fuel, hf⟩ := h
  obtain ⟨⟨⟨x0, x1, x2, x3⟩, l, l'⟩, ⟨_, _, e, ⟨_, _, rfl, k0, _, _, rfl, k1, _, _, rfl, k2, k3⟩, _, _, rfl, ⟨A, c, rfl, hl, hr⟩, A', c', rfl, hl', hr'⟩, hw⟩ := pktOp.2 H enc W fuel _ _ hf
  have k0' : _ = [Value.int .i64 x0] := k0
  have k1' : _ = [Value.int .i64 x1] := k1
  have k2' : _ = [Value.int .i64 x2] := k2
  have k3' : _ = [Value.int .i64 x3] := k3
  subst k0' k1' k2' k3'
  have ev : Value.agg cs = .agg #[.int .i64 x0, .int .i64 x1, .int .i64 x2, .int .i64 x3, .slice A l.length c, .slice A' l'.length c'] := by
    congr 1
    apply Array.ext'
    exact e
  rw [ev] at h0
  obtain ⟨s, s'⟩ := pkt_sized hsz ht hd h0
  exact ⟨x0, x1, x2, x3, A, c, l, A', c', l', ev, hl, hr, s, hw.1, hl', hr', s', hw.2⟩
set_option maxRecDepth 100000 in
theorem bytes_open {H : Type} {enc : TypeId × Value → H} {W : World} {base : Nat} {v : Value} {dd : DataW H} {ps : List MemPlace} {ts : List TypeId} {ds : List (DataW H)} {j : Nat} (hsz : (DataW.weightsEach Try.prog ts ds).all (· ≤ reachBytes) = true) (ht : ts[j]? = some 22) (hd : ds[j]? = some dd)
    (hv : Value.okWide Try.prog W .any base 22 v) (h : DataW.Trod enc Try.prog W 0 (fun _ => true) true 22 v dd ps) :
    ∃ (A : Option Addr) (c : Nat) (l : List Int), v = .slice A l.length c ∧ l.length ≤ c ∧ Kd.C (Kd.int .u8) W A l.length l ∧ l.length ≤ 140737488351232 ∧ (∀ y ∈ l, (Lit.int .u8 y).wf = true) := by
  obtain ⟨A0, l0, c0, rfl⟩ := okWide_slice Try.underlying22 hv
  have s := sized_ints hsz ht hd Try.underlying22 Try.underlying5 (by kernel_rfl) (by kernel_rfl : Try.prog.bytesOf 5 = 1) h
  obtain ⟨fuel, hf⟩ := h
  obtain ⟨l, ⟨A, c, e, hl, hr⟩, hw⟩ := bytesOp.2 H enc W fuel _ _ hf
  have e' : [Value.slice A0 l0 c0] = [Value.slice A l.length c] := e
  obtain ⟨rfl, rfl, rfl⟩ : A0 = A ∧ l0 = l.length ∧ c0 = c := by simpa using e'
  exact ⟨_, _, l, rfl, hl, hr, by omega, hw.2⟩
end Go.Proofs.Ytjajknghcbpblaa.Opens
