-- Written for this claim with the kit's print.py (several laws of the seat in one namespace); some proofs were turned by hand.
import Derived.Test.YtjajknghcbpblaaQx0
import Derived.Test.YtjajknghcbpblaaQx2
namespace Go.Proofs.Ytjajknghcbpblaa.Q
open Go.RowKit Go.Proofs.YtjajknghcbpblaaW.PrintWords Go.Proofs.YtjajknghcbpblaaW.PrintLast Go.Proofs.YtjajknghcbpblaaW.PrintMore
attribute [local go_sem] max2_int min2_int max_two min_two max_three min_three max_four min_four   -- for this text's walks alone
set_option linter.unusedVariables false
set_option linter.unusedSimpArgs false

/-! ### packet_Append: function 13 -/
-- packet.Append, by hand: its blocks of bytes are known whole
/-- Block g holds just these bytes. -/
def BB (w : World) (g : Nat) (l : List Int) : Prop := w.heap[g]? = some (.cells (l.map (Value.int .u8)).toArray 5 (0, 0))
theorem BB.cell {w : World} {g : Nat} {l : List Int} (h : BB w g l) (i : Nat) (hi : i < l.length) : w.cell? ⟨g, i, none⟩ = some (.int .u8 (l.getD i 0)) := by
  unfold BB at h
  simp [World.cell?, h, hi, List.getD_eq_getElem?_getD]
theorem BB.free {w : World} {g : Nat} {l : List Int} (h : BB w g l) (i : Nat) : w.frozen? ⟨g, i, none⟩ = false := by
  unfold BB at h
  simp [World.frozen?, h]
theorem BB.set {w : World} {g : Nat} {l : List Int} (h : BB w g l) (i : Nat) (v : Int) : BB (w.setCell ⟨g, i, none⟩ (.int .u8 v)) g (l.set i v) := by
  unfold BB at h ⊢
  rw [setCell_eq_setRow w g i _ _ _ _ h, setRow_heap w g _ _ _ _ h]
  simp [List.map_set]
theorem BB.size {w : World} {g : Nat} {l : List Int} (h : BB w g l) : g < w.heap.size := by
  unfold BB at h
  exact (Array.getElem?_eq_some_iff.1 h).1
/-- The bytes behind i stores of put. -/
def putU (l : List Int) (off n : Nat) (v : Int) : Nat → List Int
  | 0 => l
  | i + 1 => (putU l off n v i).set (off + i) (v / 2 ^ (8 * (n - 1 - i)) % 256)
theorem putU_length (l : List Int) (off n : Nat) (v : Int) (i : Nat) : (putU l off n v i).length = l.length := by
  induction i with
  | zero => rfl
  | succ i ih => simp [putU, ih]
set_option maxHeartbeats 2000000 in
set_option maxRecDepth 100000 in
theorem put_sub (w0 w : World) (g off n c : Nat) (l : List Int) (v : Int) (hn : off + n ≤ l.length) (hn8 : n ≤ 8) (hB : Below w0.heap.size w0 w) (hg : w0.heap.size ≤ g) (hb : BB w g l) :
    Calls Try.prog 30 #[.slice (some ⟨g, off, none⟩) n c, .int .i64 v] w fun e w' => e = .returned (.tuple #[]) ∧ BB w' g (putU l off n v n) ∧ Below w0.heap.size w0 w' := by
  have H0 := Aside0.mk hb
  have HB := Aside0.mk hB
  clear hb hB
  go_enter Try.func30, Try.ntmps30
  go_wp2
  go_loopw [7] (fun v7 wr => ∃ i : Nat, i ≤ n ∧ v7 = .int .i64 i ∧ Aside0 (BB wr g (putU l off n v i)) ∧ Aside0 (Below w0.heap.size w0 wr)) (fun v7 _ => n - (intOf v7).toNat)
  case atStart => exact ⟨0, Nat.zero_le _, rfl, H0, HB⟩
  case round =>
    clear H0 HB
    obtain ⟨i, hi, rfl, H0, HB⟩ := hrel
    by_cases hlt : i < n
    · have hc := H0.out.cell (off + i) (by rw [putU_length]; omega)
      have hf := H0.out.free (off + i)
      go_wp2
      go_roundw
      case rel => exact ⟨i + 1, by omega, by go_num, ⟨H0.out.set (off + i) _⟩, ⟨below_set HB.out hg⟩⟩
      case measure => simp [intOf]; omega
    · obtain rfl : i = n := by omega
      go_wp2
      go_end0
      exact ⟨rfl, H0.out, HB.out⟩
theorem map_splice {α β : Type} (f : α → β) (L : List α) (off : Nat) (cs : List α) : Go.splice (L.map f) off (cs.map f) = (Go.splice L off cs).map f := by
  simp [Go.splice, List.map_take, List.map_drop]
theorem u8_size : (Try.prog.info? 5).map (·.size) = some 1 := by kernel_rfl
theorem BB.new (w : World) (n : Nat) : BB (w.alloc (.cells (madeCells #[.int .u8 0] n) 5)) w.heap.size (List.replicate n 0) := by
  unfold BB
  rw [heap_alloc_new]
  congr 2
  apply Array.ext
  · simp [madeCells]
  · intro i h1 h2
    simp [madeCells, Nat.mod_one]
theorem run_mk (n : Nat) (X : Int) (hX : X = (n : Int)) (hn : n ≤ 281474976710656) (W : World) : (Instr.makeSlice 22 (.int .i64 X) (.int .i64 X)).run Try.prog W = .ok (.slice (some ⟨W.heap.size, 0, none⟩) n n) (W.alloc (.cells (madeCells #[.int .u8 0] n) 5)) := by
  obtain ⟨i0, hi, hz0, hz1, hz2⟩ := info_parts info5
  subst hX
  have h := run_make W 22 5 i0 (.int .u8 0) Try.underlying22 hi hz0 .i64 .i64 (n : Int) (n : Int) (by omega) (by omega) (by rw [hz2]; omega) (by omega)
  rw [hz1] at h
  simpa [Value.cells] using h
theorem BB.C {w : World} {g : Nat} {l : List Int} (h : BB w g l) (off n : Nat) (A : Option Addr) (hn : off + n ≤ l.length) (hl : l.length ≤ 9223372036854775807) (hA : 0 < n → A = some ⟨g, off, none⟩) : Kd.C (Kd.int .u8) w A ((l.drop off).take n).length ((l.drop off).take n) := by
  have hlen : ((l.drop off).take n).length = n := by simp; omega
  refine ⟨rfl, by rw [hlen]; omega, fun h0 => ⟨_, hA (by omega), fun j p hj => ?_⟩⟩
  have hjn : j < n := by
    have := (List.getElem?_eq_some_iff.1 hj).1
    omega
  refine ⟨[.int .u8 p], rfl, rfl, fun i u hu => ?_⟩
  have hi : i = 0 := by
    have := (List.getElem?_eq_some_iff.1 hu).1
    simp at this
    omega
  subst hi
  have hu' : u = .int .u8 p := by simpa using hu.symm
  subst hu'
  have hc := h.cell (off + j) (by omega)
  have hg : l.getD (off + j) 0 = p := by
    rw [List.getElem?_take, if_pos hjn, List.getElem?_drop] at hj
    rw [List.getD_eq_getElem?_getD, hj]
    rfl
  rw [hg] at hc
  have ha : (⟨g, off, none⟩ : Addr).add (j * (Kd.int .u8).sz + 0) = ⟨g, off + j, none⟩ := by
    show (⟨g, off, none⟩ : Addr).add (j * 1 + 0) = _
    by_cases z : j = 0
    · subst z; rfl
    · simp [Addr.add, z]
  rw [ha]
  exact hc
/-- out[m:] of a block's whole slice. -/
theorem cut_from (g n m c : Nat) (mi : Int) (hmi : mi = (m : Int)) (hm : m ≤ n) : ∃ A' : Option Addr, (∀ W : World, (Instr.slice 22 (.slice (some ⟨g, 0, none⟩) n c) (some (.int .i64 mi)) none none).run Try.prog W = .ok (.slice A' (n - m) (c - m)) W) ∧ (m < c → A' = some ⟨g, m, none⟩) := by
  obtain ⟨i0, hi, hz0, hz1, hz2⟩ := info_parts info5
  subst hmi
  refine ⟨if c = m then some ⟨g, 0, none⟩ else some ((⟨g, 0, none⟩ : Addr).add m), fun W => ?_, fun hlt => ?_⟩
  · have hel : Try.prog.elem 22 = 5 := by simp [Program.elem, Try.underlying22]
    have hu : Try.prog.underlying 22 = some (.slice (Try.prog.elem 22)) := by rw [hel]; exact Try.underlying22
    rw [run_slice_l W 22 (some ⟨g, 0, none⟩) n c hu .i64 (m : Int) (by omega) (by omega), hel]
    simp [sizeOf, typeInfo, hi, hz1, sliced, Result.andThen]
  · rw [if_neg (by omega)]
    simp [Addr.add]
    intro h0
    exact h0.symm
/-- s[a:b] of a part of a block. -/
theorem cut_mid' (g off n c a b : Nat) (ai bi : Int) (hai : ai = (a : Int)) (hbi : bi = (b : Int)) (hab : a < b) (hb : b ≤ n) (hnc : n ≤ c) (W : World) : (Instr.slice 22 (.slice (some ⟨g, off, none⟩) n c) (some (.int .i64 ai)) (some (.int .i64 bi)) none).run Try.prog W = .ok (.slice (some ⟨g, off + a, none⟩) (b - a) (c - a)) W := by
  obtain ⟨i0, hi, hz0, hz1, hz2⟩ := info_parts info5
  subst hai hbi
  have hel : Try.prog.elem 22 = 5 := by simp [Program.elem, Try.underlying22]
  have hu : Try.prog.underlying 22 = some (.slice (Try.prog.elem 22)) := by rw [hel]; exact Try.underlying22
  rw [run_slice_lh W 22 (some ⟨g, off, none⟩) n c hu .i64 .i64 (a : Int) (b : Int) (by omega) (by omega) (by omega), hel]
  simp [sizeOf, typeInfo, hi, hz1, sliced, Result.andThen, Addr.add]
  rw [if_neg (by omega)]
  by_cases z : a = 0
  · subst z; simp
  · simp [z]
theorem src_of_C {W : World} {A : Option Addr} {xs : List Int} (h : Kd.C (Kd.int .u8) W A xs.length xs) (h0 : 0 < xs.length) : ∃ ad, A = some ad ∧ ∀ j v, (xs.map (Value.int .u8))[j]? = some v → W.cell? (ad.add j) = some v := by
  obtain ⟨_, _, h2⟩ := h
  obtain ⟨ad, e, hc⟩ := h2 h0
  refine ⟨ad, e, fun j v hj => ?_⟩
  rw [List.getElem?_map] at hj
  obtain ⟨p, hp, rfl⟩ := Option.map_eq_some_iff.1 hj
  obtain ⟨c, _, hk, hu⟩ := hc j p hp
  have hk' : c = [Value.int .u8 p] := hk
  subst hk'
  have := hu 0 _ rfl
  have e1 : j * (Kd.int .u8).sz + 0 = j := by show j * 1 + 0 = j; omega
  rwa [e1] at this
theorem one_u8 {xs : List Int} : ∀ v ∈ xs.map (Value.int .u8), v.oneCell' = true := by
  intro v hv
  obtain ⟨x, _, rfl⟩ := List.mem_map.1 hv
  rfl
section
variable {ops : Array Oper} {rest : List Oper} {o : Oper} {a : Act} {Q : Exit → Act → World → Prop}
theorem copy_bb {W : World} (w1 : World) (g off : Nat) (l xs : List Int) (hgd : o.guard = none) (d s : Operand) (ho : o.op = .call { callee := .builtin .copy, args := #[d, s], argTypes := #[22, 22] })
    (dp sp : Option Addr) (dLen dCap sCap : Nat) (hd : a.eval d = .slice dp dLen dCap) (hs : a.eval s = .slice sp xs.length sCap) (hn : xs.length ≤ dLen) (hdp : 0 < xs.length → dp = some ⟨g, off, none⟩)
    (hC : Kd.C (Kd.int .u8) W sp xs.length xs) (hB : BB W g l) (hfit : off + xs.length ≤ l.length) (hb : Below w1.heap.size w1 W) (hg : w1.heap.size ≤ g)
    (h : ∀ W', BB W' g (Go.splice l off xs) → Below w1.heap.size w1 W' → wpList Try.prog ops Q rest (a.put o.dst (goInt xs.length)) W') : wpList Try.prog ops Q (o :: rest) a W := by
  refine wpList_copy_splice hgd d s 22 22 ho 5 Try.underlying22 u8_size dp sp dLen dCap xs.length sCap hd hs g off (l.map (Value.int .u8)) 5 hB (xs.map (Value.int .u8)) (by rw [List.length_map]; exact (Nat.min_eq_left hn).symm)
    (fun h0 => by rw [List.length_map] at h0; exact ⟨hdp h0, src_of_C hC h0⟩) (by simpa using hfit) one_u8 w1.heap.size w1 hb hg ?_
  intro w' hh hb'
  rw [List.length_map]
  refine h w' ?_ hb'
  have := hh.out
  rw [map_splice] at this
  exact this
theorem copy_bb_step {W : World} {K : Act → World → Prop} {E : Prop} (w1 : World) (g off : Nat) (l xs : List Int) (hgd : o.guard = none) (d s : Operand) (ho : o.op = .call { callee := .builtin .copy, args := #[d, s], argTypes := #[22, 22] })
    (dp sp : Option Addr) (dLen dCap sCap : Nat) (hd : a.eval d = .slice dp dLen dCap) (hs : a.eval s = .slice sp xs.length sCap) (hn : xs.length ≤ dLen) (hdp : 0 < xs.length → dp = some ⟨g, off, none⟩)
    (hC : Kd.C (Kd.int .u8) W sp xs.length xs) (hB : BB W g l) (hfit : off + xs.length ≤ l.length) (hb : Below w1.heap.size w1 W) (hg : w1.heap.size ≤ g)
    (h : ∀ W', BB W' g (Go.splice l off xs) → Below w1.heap.size w1 W' → K (a.put o.dst (goInt xs.length)) W') : if Region.wanted o (yielded ops a.tmps) = true then Oper.wp Try.prog o a W K Q else E := by
  refine step_copy_splice hgd d s 22 22 ho 5 Try.underlying22 u8_size dp sp dLen dCap xs.length sCap hd hs g off (l.map (Value.int .u8)) 5 hB (xs.map (Value.int .u8)) (by rw [List.length_map]; exact (Nat.min_eq_left hn).symm)
    (fun h0 => by rw [List.length_map] at h0; exact ⟨hdp h0, src_of_C hC h0⟩) (by simpa using hfit) one_u8 w1.heap.size w1 hb hg ?_
  intro w' hh hb'
  rw [List.length_map]
  refine h w' ?_ hb'
  have := hh.out
  rw [map_splice] at this
  exact this
end
theorem splice_length {l : List Int} {off : Nat} {xs : List Int} (h : off + xs.length ≤ l.length) : (Go.splice l off xs).length = l.length := length_splice l off xs h
theorem cut_mid0 (g n a b : Nat) (ai bi : Int) (hai : ai = (a : Int)) (hbi : bi = (b : Int)) (hab : a < b) (hb : b ≤ n) (W : World) : (Instr.slice 22 (.slice (some ⟨g, 0, none⟩) n n) (some (.int .i64 ai)) (some (.int .i64 bi)) none).run Try.prog W = .ok (.slice (some ⟨g, a, none⟩) (b - a) (n - a)) W := by
  have := cut_mid' g 0 n n a b ai bi hai hbi hab hb (Nat.le_refl _) W
  rwa [Nat.zero_add] at this
theorem cut_upto (g off n c b : Nat) (hb : b ≤ n) (hnc : n ≤ c) (W : World) : (Instr.slice 22 (.slice (some ⟨g, off, none⟩) n c) none (some (.int .i64 (b : Int))) none).run Try.prog W = .ok (.slice (some ⟨g, off, none⟩) b c) W := by
  obtain ⟨i0, hi, hz0, hz1, hz2⟩ := info_parts info5
  have hel : Try.prog.elem 22 = 5 := by simp [Program.elem, Try.underlying22]
  have hu : Try.prog.underlying 22 = some (.slice (Try.prog.elem 22)) := by rw [hel]; exact Try.underlying22
  rw [run_slice_h W 22 (some ⟨g, off, none⟩) n c hu .i64 (b : Int) (by omega) (by omega), hel]
  simp [sizeOf, typeInfo, hi, hz1, sliced, Result.andThen, Addr.add]
/-- What Append makes, in the operations that make it. -/
def packet_Append.l_ff (b hd bd : List Int) : List Int := (Go.splice (Go.splice (Go.splice (List.replicate (b.length + (hd.length + bd.length)) (0 : Int)) 0 b) b.length hd) (b.length + hd.length) bd)
def packet_Append.l_ft (b hd bd : List Int) : List Int := (Go.splice (putU (Go.splice (Go.splice (List.replicate (b.length + (hd.length + bd.length + 2)) (0 : Int)) 0 b) b.length hd) (b.length + hd.length) 2 65460 2) (b.length + hd.length + 2) bd)
def packet_Append.m_tf (b hd bd : List Int) (seq : Int) : List Int := putU (putU (putU (Go.splice (Go.splice (Go.splice (List.replicate ((b.length + 11) + (hd.length + bd.length)) (0 : Int)) 0 b) (b.length + 11) hd) ((b.length + 11) + hd.length) bd) b.length 2 65459 2) (b.length + 2) 2 seq 2) (b.length + 4) 4 (((↑hd.length : Int) + ↑bd.length)) 4
def packet_Append.c_tf (b hd bd : List Int) (seq crc : Int) : List Int := putU (putU (putU (putU (Go.splice (Go.splice (Go.splice (List.replicate ((b.length + 11) + (hd.length + bd.length)) (0 : Int)) 0 b) (b.length + 11) hd) ((b.length + 11) + hd.length) bd) b.length 2 65459 2) (b.length + 2) 2 seq 2) (b.length + 4) 4 (((↑hd.length : Int) + ↑bd.length)) 4) (b.length + 8) 2 crc 2
def packet_Append.m_tt (b hd bd : List Int) (seq : Int) : List Int := putU (putU (putU (Go.splice (putU (Go.splice (Go.splice (List.replicate ((b.length + 11) + (hd.length + bd.length + 2)) (0 : Int)) 0 b) (b.length + 11) hd) ((b.length + 11) + hd.length) 2 65460 2) ((b.length + 11) + hd.length + 2) bd) b.length 2 65459 2) (b.length + 2) 2 seq 2) (b.length + 4) 4 (((↑hd.length : Int) + ↑bd.length + 2)) 4
def packet_Append.c_tt (b hd bd : List Int) (seq crc : Int) : List Int := putU (putU (putU (putU (Go.splice (putU (Go.splice (Go.splice (List.replicate ((b.length + 11) + (hd.length + bd.length + 2)) (0 : Int)) 0 b) (b.length + 11) hd) ((b.length + 11) + hd.length) 2 65460 2) ((b.length + 11) + hd.length + 2) bd) b.length 2 65459 2) (b.length + 2) 2 seq 2) (b.length + 4) 4 (((↑hd.length : Int) + ↑bd.length + 2)) 4) (b.length + 8) 2 crc 2
def packet_Append.f (k : Nat) (b : List Int) (h0 h1 h2 h3 : Int) (hd bd : List Int) (sync fence : Bool) (seq : Int) : Option (List Int × Int) :=
  if seq < 0 then some ([], 2) else if 65535 < seq then some ([], 2) else if 67108864 < (hd.length : Int) then some ([], 5) else if 67108864 - (hd.length : Int) < (bd.length : Int) then some ([], 5)
  else if b.length ≤ 70368744177664 then
    (if sync = true then
      (if fence = true then ((packet_Checksum.f k (((packet_Append.m_tt b hd bd seq).drop (b.length + 11)).take (hd.length + bd.length + 2))).bind fun crc => ((packet_check.f k (((packet_Append.c_tt b hd bd seq crc).drop b.length).take 11)).bind fun ck => some ((packet_Append.c_tt b hd bd seq crc).set (b.length + 10) ck, 0)))
      else ((packet_Checksum.f k (((packet_Append.m_tf b hd bd seq).drop (b.length + 11)).take (hd.length + bd.length))).bind fun crc => ((packet_check.f k (((packet_Append.c_tf b hd bd seq crc).drop b.length).take 11)).bind fun ck => some ((packet_Append.c_tf b hd bd seq crc).set (b.length + 10) ck, 0))))
    else (if fence = true then some (packet_Append.l_ft b hd bd, 0) else some (packet_Append.l_ff b hd bd, 0)))
  else none
theorem packet_Append.mono : ∀ a0 a1 a2 a3 a4 a5 a6 a7 a8 a9 k, LeO (packet_Append.f k a0 a1 a2 a3 a4 a5 a6 a7 a8 a9) (packet_Append.f (k + 1) a0 a1 a2 a3 a4 a5 a6 a7 a8 a9) := by
  intro a0 a1 a2 a3 a4 a5 a6 a7 a8 a9 k
  unfold packet_Append.f
  repeat' first
      | (with_reducible exact LeO.refl _)
      | (with_reducible exact packet_Checksum.mono _ _)
      | (with_reducible exact packet_check.mono _ _)
      | (with_reducible refine LeO.ite ?_ ?_)
      | (with_reducible refine LeO.bind ?_ (fun _ => ?_))
set_option maxHeartbeats 4000000 in
set_option maxRecDepth 100000 in
theorem append_ff (b hd bd : List Int) (h0 h1 h2 h3 seq : Int) (A0 A4 A5 : Option Addr) (c0 c4 c5 : Nat) (w : World) (hr0 : Kd.C (Kd.int .u8) w A0 b.length b) (hr4 : Kd.C (Kd.int .u8) w A4 hd.length hd) (hr5 : Kd.C (Kd.int .u8) w A5 bd.length bd)
    (hs0 : 0 ≤ seq) (hs1 : seq ≤ 65535) (hl4 : hd.length ≤ 67108864) (hl5 : (bd.length : Int) ≤ 67108864 - hd.length) (hl0 : b.length ≤ 70368744177664) :
    Calls Try.prog 13 #[.slice A0 b.length c0, .agg #[.int .i64 h0, .int .i64 h1, .int .i64 h2, .int .i64 h3, .slice A4 hd.length c4, .slice A5 bd.length c5], .bool false, .bool false, .int .i64 seq] w fun e w' => e = .returned (.tuple #[.slice (some ⟨w.heap.size + 1, 0, none⟩) (b.length + (hd.length + bd.length)) (b.length + (hd.length + bd.length)), .int .i64 0]) ∧ BB w' (w.heap.size + 1) (Go.splice (Go.splice (Go.splice (List.replicate (b.length + (hd.length + bd.length)) (0 : Int)) 0 b) b.length hd) (b.length + hd.length) bd) ∧ Below w.heap.size w w' := by
  have R0 := Aside0.mk hr0
  have R4 := Aside0.mk hr4
  have R5 := Aside0.mk hr5
  clear hr0 hr4 hr5
  have hmk := run_mk (b.length + (hd.length + bd.length)) ((↑b.length : Int) + ((↑hd.length : Int) + ↑bd.length)) (by omega) (by omega)
  go_enter Try.func13, Try.ntmps13
  go_upto_region 12 with (fail)
  clear hmk
  obtain ⟨w1, hw1⟩ : ∃ w1, w1 = w.alloc (Obj.cells #[Value.int IntKind.i64 h0, Value.int IntKind.i64 h1, Value.int IntKind.i64 h2, Value.int IntKind.i64 h3, Value.slice A4 hd.length c4, Value.slice A5 bd.length c5] 29) := ⟨_, rfl⟩
  rw [← hw1]
  have q4 : w1.cell? ⟨w.heap.size, 4, none⟩ = some (.slice A4 hd.length c4) := by rw [hw1]; simp
  have q5 : w1.cell? ⟨w.heap.size, 5, none⟩ = some (.slice A5 bd.length c5) := by rw [hw1]; simp
  have hsz : w1.heap.size = w.heap.size + 1 := by rw [hw1]; simp
  have b0 : Below w.heap.size w w1 := by rw [hw1]; exact below_alloc (Below.refl _ _) _
  have hBB := BB.new w1 (b.length + (hd.length + bd.length))
  have hBl := below_alloc (Below.refl w1.heap.size w1) (.cells (madeCells #[Value.int IntKind.u8 0] (b.length + (hd.length + bd.length))) 5)
  rw [hsz] at hBB
  clear hw1
  generalize w1.alloc (Obj.cells (madeCells #[Value.int IntKind.u8 0] (b.length + (hd.length + bd.length))) 5) = W at hBB hBl ⊢
  have HB := Aside0.mk hBl
  have HZ := Aside0.mk hsz
  have C0 := Aside0.mk (Kd.C_below R0.out b0)
  have C4 := Aside0.mk (Kd.C_below R4.out b0)
  have C5 := Aside0.mk (Kd.C_below R5.out b0)
  have B0 := Aside0.mk b0
  clear hBl b0 R0 R4 R5
  have H0 := Aside0.mk hBB
  clear hBB
  have hg1 : w1.heap.size ≤ w.heap.size + 1 := by rw [HZ.out]; omega
  have f1 : 0 + b.length ≤ (List.replicate (b.length + (hd.length + bd.length)) (0 : Int)).length := by rw [List.length_replicate]; omega
  go_wp2_with ((with_reducible refine copy_bb w1 (w.heap.size + 1) 0 _ b rfl (.tmp 56) (.tmp 57) rfl (some ⟨w.heap.size + 1, 0, none⟩) A0 _ _ c0 rfl rfl (by omega) (fun _ => rfl) (Kd.C_below C0.out HB.out) H0.out f1 HB.out hg1 ?_); intro W1 H1_ B1_)
  have H1 := Aside0.mk H1_
  have HB1 := Aside0.mk B1_
  clear H0 HB H1_ B1_
  have l1 : (Go.splice (List.replicate (b.length + (hd.length + bd.length)) (0 : Int)) 0 b).length = b.length + (hd.length + bd.length) := by rw [splice_length f1, List.length_replicate]
  obtain ⟨L1, hL1⟩ : ∃ L1, Go.splice (List.replicate (b.length + (hd.length + bd.length)) (0 : Int)) 0 b = L1 := ⟨_, rfl⟩
  rw [hL1] at H1 l1
  have HL1 := Aside0.mk hL1
  clear hL1 f1
  obtain ⟨A62, hcut, hA62⟩ := cut_from (w.heap.size + 1) (b.length + (hd.length + bd.length)) (b.length) (b.length + (hd.length + bd.length)) ((↑b.length : Int)) (by omega) (by omega)
  have HA62 := Aside0.mk hA62
  clear hA62
  have e1 : b.length + (hd.length + bd.length) - (b.length) = (hd.length + bd.length) := by omega
  rw [e1] at hcut
  have f2 : b.length + hd.length ≤ L1.length := by rw [l1]; omega
  have q4' : W1.cell? ⟨w.heap.size, 4, none⟩ = some (.slice A4 hd.length c4) := by rw [HB1.out.cell (p := ⟨w.heap.size, 4, none⟩) (by rw [HZ.out]; simp)]; exact q4
  have D1 : Below w1.heap.size w1 W1.drew := below_drew HB1.out
  have D2 : BB W1.drew (w.heap.size + 1) L1 := H1.out
  have D3 := Kd.C_below C4.out D1
  go_region_law (first | ((with_reducible refine copy_bb_step w1 (w.heap.size + 1) (b.length) L1 hd rfl (.tmp 62) (.tmp 64) rfl A62 A4 ((hd.length + bd.length)) ((hd.length + bd.length)) c4 rfl rfl (by omega) (fun h0 => HA62.out (by omega)) D3 D2 f2 D1 hg1 ?_); intro W2 H2_ B2_))
  have H2 := Aside0.mk H2_
  have HB2 := Aside0.mk B2_
  clear H1 HB1 H2_ B2_ D1 D2 D3 hcut q4'
  have l2 : (Go.splice L1 (b.length) hd).length = b.length + (hd.length + bd.length) := by rw [splice_length f2, l1]
  obtain ⟨L2, hL2⟩ : ∃ L2, Go.splice L1 (b.length) hd = L2 := ⟨_, rfl⟩
  rw [hL2] at H2 l2
  have HL2 := Aside0.mk hL2
  clear hL2 f2 l1
  go_upto_region 17 with (fail)
  obtain ⟨A78, hcut, hA78⟩ := cut_from (w.heap.size + 1) (b.length + (hd.length + bd.length)) (b.length + hd.length) (b.length + (hd.length + bd.length)) (((↑b.length : Int) + (↑hd.length : Int))) (by omega) (by omega)
  have HA78 := Aside0.mk hA78
  clear hA78
  have e2 : b.length + (hd.length + bd.length) - (b.length + hd.length) = bd.length := by omega
  rw [e2] at hcut
  have f4 : (b.length + hd.length) + bd.length ≤ L2.length := by rw [l2]; omega
  have q5' : W2.cell? ⟨w.heap.size, 5, none⟩ = some (.slice A5 bd.length c5) := by rw [HB2.out.cell (p := ⟨w.heap.size, 5, none⟩) (by rw [HZ.out]; simp)]; exact q5
  have D1 : Below w1.heap.size w1 W2.drew := below_drew HB2.out
  have D2 : BB W2.drew (w.heap.size + 1) L2 := H2.out
  have D3 := Kd.C_below C5.out D1
  go_region_law (first | ((with_reducible refine copy_bb_step w1 (w.heap.size + 1) (b.length + hd.length) L2 bd rfl (.tmp 78) (.tmp 80) rfl A78 A5 bd.length bd.length c5 rfl rfl (by omega) (fun h0 => HA78.out (by omega)) D3 D2 f4 D1 hg1 ?_); intro W4 H4_ B4_))
  have H4 := Aside0.mk H4_
  have HB4 := Aside0.mk B4_
  clear H2 HB2 H4_ B4_ D1 D2 D3 hcut q5'
  have l4 : (Go.splice L2 (b.length + hd.length) bd).length = b.length + (hd.length + bd.length) := by rw [splice_length f4, l2]
  obtain ⟨L4, hL4⟩ : ∃ L4, Go.splice L2 (b.length + hd.length) bd = L4 := ⟨_, rfl⟩
  rw [hL4] at H4 l4
  have HL4 := Aside0.mk hL4
  clear hL4 f4 l2
  go_wp2
  go_ret2
  rw [← HL4.out, ← HL2.out, ← HL1.out] at H4
  exact ⟨rfl, H4.out, below_step B0.out HB4.out⟩
set_option maxHeartbeats 4000000 in
set_option maxRecDepth 100000 in
theorem append_ft (b hd bd : List Int) (h0 h1 h2 h3 seq : Int) (A0 A4 A5 : Option Addr) (c0 c4 c5 : Nat) (w : World) (hr0 : Kd.C (Kd.int .u8) w A0 b.length b) (hr4 : Kd.C (Kd.int .u8) w A4 hd.length hd) (hr5 : Kd.C (Kd.int .u8) w A5 bd.length bd)
    (hs0 : 0 ≤ seq) (hs1 : seq ≤ 65535) (hl4 : hd.length ≤ 67108864) (hl5 : (bd.length : Int) ≤ 67108864 - hd.length) (hl0 : b.length ≤ 70368744177664) :
    Calls Try.prog 13 #[.slice A0 b.length c0, .agg #[.int .i64 h0, .int .i64 h1, .int .i64 h2, .int .i64 h3, .slice A4 hd.length c4, .slice A5 bd.length c5], .bool false, .bool true, .int .i64 seq] w fun e w' => e = .returned (.tuple #[.slice (some ⟨w.heap.size + 1, 0, none⟩) (b.length + (hd.length + bd.length + 2)) (b.length + (hd.length + bd.length + 2)), .int .i64 0]) ∧ BB w' (w.heap.size + 1) (Go.splice (putU (Go.splice (Go.splice (List.replicate (b.length + (hd.length + bd.length + 2)) (0 : Int)) 0 b) b.length hd) (b.length + hd.length) 2 65460 2) (b.length + hd.length + 2) bd) ∧ Below w.heap.size w w' := by
  have R0 := Aside0.mk hr0
  have R4 := Aside0.mk hr4
  have R5 := Aside0.mk hr5
  clear hr0 hr4 hr5
  have hmk := run_mk (b.length + (hd.length + bd.length + 2)) ((↑b.length : Int) + ((↑hd.length : Int) + ↑bd.length + 2)) (by omega) (by omega)
  go_enter Try.func13, Try.ntmps13
  go_upto_region 12 with (fail)
  clear hmk
  obtain ⟨w1, hw1⟩ : ∃ w1, w1 = w.alloc (Obj.cells #[Value.int IntKind.i64 h0, Value.int IntKind.i64 h1, Value.int IntKind.i64 h2, Value.int IntKind.i64 h3, Value.slice A4 hd.length c4, Value.slice A5 bd.length c5] 29) := ⟨_, rfl⟩
  rw [← hw1]
  have q4 : w1.cell? ⟨w.heap.size, 4, none⟩ = some (.slice A4 hd.length c4) := by rw [hw1]; simp
  have q5 : w1.cell? ⟨w.heap.size, 5, none⟩ = some (.slice A5 bd.length c5) := by rw [hw1]; simp
  have hsz : w1.heap.size = w.heap.size + 1 := by rw [hw1]; simp
  have b0 : Below w.heap.size w w1 := by rw [hw1]; exact below_alloc (Below.refl _ _) _
  have hBB := BB.new w1 (b.length + (hd.length + bd.length + 2))
  have hBl := below_alloc (Below.refl w1.heap.size w1) (.cells (madeCells #[Value.int IntKind.u8 0] (b.length + (hd.length + bd.length + 2))) 5)
  rw [hsz] at hBB
  clear hw1
  generalize w1.alloc (Obj.cells (madeCells #[Value.int IntKind.u8 0] (b.length + (hd.length + bd.length + 2))) 5) = W at hBB hBl ⊢
  have HB := Aside0.mk hBl
  have HZ := Aside0.mk hsz
  have C0 := Aside0.mk (Kd.C_below R0.out b0)
  have C4 := Aside0.mk (Kd.C_below R4.out b0)
  have C5 := Aside0.mk (Kd.C_below R5.out b0)
  have B0 := Aside0.mk b0
  clear hBl b0 R0 R4 R5
  have H0 := Aside0.mk hBB
  clear hBB
  have hg1 : w1.heap.size ≤ w.heap.size + 1 := by rw [HZ.out]; omega
  have f1 : 0 + b.length ≤ (List.replicate (b.length + (hd.length + bd.length + 2)) (0 : Int)).length := by rw [List.length_replicate]; omega
  go_wp2_with ((with_reducible refine copy_bb w1 (w.heap.size + 1) 0 _ b rfl (.tmp 56) (.tmp 57) rfl (some ⟨w.heap.size + 1, 0, none⟩) A0 _ _ c0 rfl rfl (by omega) (fun _ => rfl) (Kd.C_below C0.out HB.out) H0.out f1 HB.out hg1 ?_); intro W1 H1_ B1_)
  have H1 := Aside0.mk H1_
  have HB1 := Aside0.mk B1_
  clear H0 HB H1_ B1_
  have l1 : (Go.splice (List.replicate (b.length + (hd.length + bd.length + 2)) (0 : Int)) 0 b).length = b.length + (hd.length + bd.length + 2) := by rw [splice_length f1, List.length_replicate]
  obtain ⟨L1, hL1⟩ : ∃ L1, Go.splice (List.replicate (b.length + (hd.length + bd.length + 2)) (0 : Int)) 0 b = L1 := ⟨_, rfl⟩
  rw [hL1] at H1 l1
  have HL1 := Aside0.mk hL1
  clear hL1 f1
  obtain ⟨A62, hcut, hA62⟩ := cut_from (w.heap.size + 1) (b.length + (hd.length + bd.length + 2)) (b.length) (b.length + (hd.length + bd.length + 2)) ((↑b.length : Int)) (by omega) (by omega)
  have HA62 := Aside0.mk hA62
  clear hA62
  have e1 : b.length + (hd.length + bd.length + 2) - (b.length) = (hd.length + bd.length + 2) := by omega
  rw [e1] at hcut
  have f2 : b.length + hd.length ≤ L1.length := by rw [l1]; omega
  have q4' : W1.cell? ⟨w.heap.size, 4, none⟩ = some (.slice A4 hd.length c4) := by rw [HB1.out.cell (p := ⟨w.heap.size, 4, none⟩) (by rw [HZ.out]; simp)]; exact q4
  have D1 : Below w1.heap.size w1 W1.drew := below_drew HB1.out
  have D2 : BB W1.drew (w.heap.size + 1) L1 := H1.out
  have D3 := Kd.C_below C4.out D1
  go_region_law (first | ((with_reducible refine copy_bb_step w1 (w.heap.size + 1) (b.length) L1 hd rfl (.tmp 62) (.tmp 64) rfl A62 A4 ((hd.length + bd.length + 2)) ((hd.length + bd.length + 2)) c4 rfl rfl (by omega) (fun h0 => HA62.out (by omega)) D3 D2 f2 D1 hg1 ?_); intro W2 H2_ B2_))
  have H2 := Aside0.mk H2_
  have HB2 := Aside0.mk B2_
  clear H1 HB1 H2_ B2_ D1 D2 D3 hcut q4'
  have l2 : (Go.splice L1 (b.length) hd).length = b.length + (hd.length + bd.length + 2) := by rw [splice_length f2, l1]
  obtain ⟨L2, hL2⟩ : ∃ L2, Go.splice L1 (b.length) hd = L2 := ⟨_, rfl⟩
  rw [hL2] at H2 l2
  have HL2 := Aside0.mk hL2
  clear hL2 f2 l1
  have hcutF := cut_mid0 (w.heap.size + 1) (b.length + (hd.length + bd.length + 2)) (b.length + hd.length) ((b.length + hd.length) + 2) (((↑b.length : Int) + (↑hd.length : Int))) (((↑b.length : Int) + (↑hd.length : Int)) + 2) (by omega) (by omega) (by omega) (by omega)
  have e72 : (b.length + hd.length) + 2 - (b.length + hd.length) = 2 := by omega
  rw [e72] at hcutF
  have f3 : (b.length + hd.length) + 2 ≤ L2.length := by rw [l2]; omega
  go_wp2_with (go_at_call 30; (with_reducible refine (put_sub w1 _ (w.heap.size + 1) (b.length + hd.length) 2 _ L2 65460 f3 (by omega) HB2.out hg1 H2.out).mono ?_); rintro e W3 ⟨rfl, H3_, B3_⟩)
  have H3 := Aside0.mk H3_
  have HB3 := Aside0.mk B3_
  clear H2 HB2 H3_ B3_ hcutF e72
  have l3 : (putU L2 (b.length + hd.length) 2 65460 2).length = b.length + (hd.length + bd.length + 2) := by rw [putU_length, l2]
  obtain ⟨L3, hL3⟩ : ∃ L3, putU L2 (b.length + hd.length) 2 65460 2 = L3 := ⟨_, rfl⟩
  rw [hL3] at H3 l3
  have HL3 := Aside0.mk hL3
  clear hL3 f3 l2
  go_upto_region 17 with (fail)
  obtain ⟨A78, hcut, hA78⟩ := cut_from (w.heap.size + 1) (b.length + (hd.length + bd.length + 2)) (b.length + hd.length + 2) (b.length + (hd.length + bd.length + 2)) (((↑b.length : Int) + (↑hd.length : Int)) + 2) (by omega) (by omega)
  have HA78 := Aside0.mk hA78
  clear hA78
  have e2 : b.length + (hd.length + bd.length + 2) - (b.length + hd.length + 2) = bd.length := by omega
  rw [e2] at hcut
  have f4 : (b.length + hd.length + 2) + bd.length ≤ L3.length := by rw [l3]; omega
  have q5' : W3.cell? ⟨w.heap.size, 5, none⟩ = some (.slice A5 bd.length c5) := by rw [HB3.out.cell (p := ⟨w.heap.size, 5, none⟩) (by rw [HZ.out]; simp)]; exact q5
  have D1 : Below w1.heap.size w1 W3.drew := below_drew HB3.out
  have D2 : BB W3.drew (w.heap.size + 1) L3 := H3.out
  have D3 := Kd.C_below C5.out D1
  go_region_law (first | ((with_reducible refine copy_bb_step w1 (w.heap.size + 1) (b.length + hd.length + 2) L3 bd rfl (.tmp 78) (.tmp 80) rfl A78 A5 bd.length bd.length c5 rfl rfl (by omega) (fun h0 => HA78.out (by omega)) D3 D2 f4 D1 hg1 ?_); intro W4 H4_ B4_))
  have H4 := Aside0.mk H4_
  have HB4 := Aside0.mk B4_
  clear H3 HB3 H4_ B4_ D1 D2 D3 hcut q5'
  have l4 : (Go.splice L3 (b.length + hd.length + 2) bd).length = b.length + (hd.length + bd.length + 2) := by rw [splice_length f4, l3]
  obtain ⟨L4, hL4⟩ : ∃ L4, Go.splice L3 (b.length + hd.length + 2) bd = L4 := ⟨_, rfl⟩
  rw [hL4] at H4 l4
  have HL4 := Aside0.mk hL4
  clear hL4 f4 l3
  go_wp2
  go_ret2
  rw [← HL4.out, ← HL3.out, ← HL2.out, ← HL1.out] at H4
  exact ⟨rfl, H4.out, below_step B0.out HB4.out⟩
set_option maxHeartbeats 4000000 in
set_option maxRecDepth 100000 in
theorem append_tf (b hd bd : List Int) (h0 h1 h2 h3 seq : Int) (A0 A4 A5 : Option Addr) (c0 c4 c5 : Nat) (w : World) (hr0 : Kd.C (Kd.int .u8) w A0 b.length b) (hr4 : Kd.C (Kd.int .u8) w A4 hd.length hd) (hr5 : Kd.C (Kd.int .u8) w A5 bd.length bd)
    (hs0 : 0 ≤ seq) (hs1 : seq ≤ 65535) (hl4 : hd.length ≤ 67108864) (hl5 : (bd.length : Int) ≤ 67108864 - hd.length) (hl0 : b.length ≤ 70368744177664) (k : Nat) (crc : Int) (hcrc : ∀ L7, putU (putU (putU (Go.splice (Go.splice (Go.splice (List.replicate ((b.length + 11) + (hd.length + bd.length)) (0 : Int)) 0 b) (b.length + 11) hd) ((b.length + 11) + hd.length) bd) b.length 2 65459 2) (b.length + 2) 2 seq 2) (b.length + 4) 4 (((↑hd.length : Int) + ↑bd.length)) 4 = L7 → packet_Checksum.f k ((L7.drop ((b.length + 11))).take ((hd.length + bd.length))) = some crc) (ck : Int) (hck : ∀ L8, putU (putU (putU (putU (Go.splice (Go.splice (Go.splice (List.replicate ((b.length + 11) + (hd.length + bd.length)) (0 : Int)) 0 b) (b.length + 11) hd) ((b.length + 11) + hd.length) bd) b.length 2 65459 2) (b.length + 2) 2 seq 2) (b.length + 4) 4 (((↑hd.length : Int) + ↑bd.length)) 4) (b.length + 8) 2 crc 2 = L8 → packet_check.f k ((L8.drop b.length).take 11) = some ck) :
    Calls Try.prog 13 #[.slice A0 b.length c0, .agg #[.int .i64 h0, .int .i64 h1, .int .i64 h2, .int .i64 h3, .slice A4 hd.length c4, .slice A5 bd.length c5], .bool true, .bool false, .int .i64 seq] w fun e w' => e = .returned (.tuple #[.slice (some ⟨w.heap.size + 1, 0, none⟩) ((b.length + 11) + (hd.length + bd.length)) ((b.length + 11) + (hd.length + bd.length)), .int .i64 0]) ∧ BB w' (w.heap.size + 1) ((putU (putU (putU (putU (Go.splice (Go.splice (Go.splice (List.replicate ((b.length + 11) + (hd.length + bd.length)) (0 : Int)) 0 b) (b.length + 11) hd) ((b.length + 11) + hd.length) bd) b.length 2 65459 2) (b.length + 2) 2 seq 2) (b.length + 4) 4 (((↑hd.length : Int) + ↑bd.length)) 4) (b.length + 8) 2 crc 2).set (b.length + 10) ck) ∧ Below w.heap.size w w' := by
  have R0 := Aside0.mk hr0
  have R4 := Aside0.mk hr4
  have R5 := Aside0.mk hr5
  clear hr0 hr4 hr5
  have hmk := run_mk ((b.length + 11) + (hd.length + bd.length)) ((↑b.length : Int) + 11 + ((↑hd.length : Int) + ↑bd.length)) (by omega) (by omega)
  go_enter Try.func13, Try.ntmps13
  go_upto_region 12 with (fail)
  clear hmk
  obtain ⟨w1, hw1⟩ : ∃ w1, w1 = w.alloc (Obj.cells #[Value.int IntKind.i64 h0, Value.int IntKind.i64 h1, Value.int IntKind.i64 h2, Value.int IntKind.i64 h3, Value.slice A4 hd.length c4, Value.slice A5 bd.length c5] 29) := ⟨_, rfl⟩
  rw [← hw1]
  have q4 : w1.cell? ⟨w.heap.size, 4, none⟩ = some (.slice A4 hd.length c4) := by rw [hw1]; simp
  have q5 : w1.cell? ⟨w.heap.size, 5, none⟩ = some (.slice A5 bd.length c5) := by rw [hw1]; simp
  have hsz : w1.heap.size = w.heap.size + 1 := by rw [hw1]; simp
  have b0 : Below w.heap.size w w1 := by rw [hw1]; exact below_alloc (Below.refl _ _) _
  have hBB := BB.new w1 ((b.length + 11) + (hd.length + bd.length))
  have hBl := below_alloc (Below.refl w1.heap.size w1) (.cells (madeCells #[Value.int IntKind.u8 0] ((b.length + 11) + (hd.length + bd.length))) 5)
  rw [hsz] at hBB
  clear hw1
  generalize w1.alloc (Obj.cells (madeCells #[Value.int IntKind.u8 0] ((b.length + 11) + (hd.length + bd.length))) 5) = W at hBB hBl ⊢
  have HB := Aside0.mk hBl
  have HZ := Aside0.mk hsz
  have C0 := Aside0.mk (Kd.C_below R0.out b0)
  have C4 := Aside0.mk (Kd.C_below R4.out b0)
  have C5 := Aside0.mk (Kd.C_below R5.out b0)
  have B0 := Aside0.mk b0
  clear hBl b0 R0 R4 R5
  have H0 := Aside0.mk hBB
  clear hBB
  have hg1 : w1.heap.size ≤ w.heap.size + 1 := by rw [HZ.out]; omega
  have f1 : 0 + b.length ≤ (List.replicate ((b.length + 11) + (hd.length + bd.length)) (0 : Int)).length := by rw [List.length_replicate]; omega
  go_wp2_with ((with_reducible refine copy_bb w1 (w.heap.size + 1) 0 _ b rfl (.tmp 56) (.tmp 57) rfl (some ⟨w.heap.size + 1, 0, none⟩) A0 _ _ c0 rfl rfl (by omega) (fun _ => rfl) (Kd.C_below C0.out HB.out) H0.out f1 HB.out hg1 ?_); intro W1 H1_ B1_)
  have H1 := Aside0.mk H1_
  have HB1 := Aside0.mk B1_
  clear H0 HB H1_ B1_
  have l1 : (Go.splice (List.replicate ((b.length + 11) + (hd.length + bd.length)) (0 : Int)) 0 b).length = (b.length + 11) + (hd.length + bd.length) := by rw [splice_length f1, List.length_replicate]
  obtain ⟨L1, hL1⟩ : ∃ L1, Go.splice (List.replicate ((b.length + 11) + (hd.length + bd.length)) (0 : Int)) 0 b = L1 := ⟨_, rfl⟩
  rw [hL1] at H1 l1
  have HL1 := Aside0.mk hL1
  clear hL1 f1
  obtain ⟨A62, hcut, hA62⟩ := cut_from (w.heap.size + 1) ((b.length + 11) + (hd.length + bd.length)) ((b.length + 11)) ((b.length + 11) + (hd.length + bd.length)) ((↑b.length : Int) + 11) (by omega) (by omega)
  have HA62 := Aside0.mk hA62
  clear hA62
  have e1 : (b.length + 11) + (hd.length + bd.length) - ((b.length + 11)) = (hd.length + bd.length) := by omega
  rw [e1] at hcut
  have f2 : (b.length + 11) + hd.length ≤ L1.length := by rw [l1]; omega
  have q4' : W1.cell? ⟨w.heap.size, 4, none⟩ = some (.slice A4 hd.length c4) := by rw [HB1.out.cell (p := ⟨w.heap.size, 4, none⟩) (by rw [HZ.out]; simp)]; exact q4
  have D1 : Below w1.heap.size w1 W1.drew := below_drew HB1.out
  have D2 : BB W1.drew (w.heap.size + 1) L1 := H1.out
  have D3 := Kd.C_below C4.out D1
  go_region_law (first | ((with_reducible refine copy_bb_step w1 (w.heap.size + 1) ((b.length + 11)) L1 hd rfl (.tmp 62) (.tmp 64) rfl A62 A4 ((hd.length + bd.length)) ((hd.length + bd.length)) c4 rfl rfl (by omega) (fun h0 => HA62.out (by omega)) D3 D2 f2 D1 hg1 ?_); intro W2 H2_ B2_))
  have H2 := Aside0.mk H2_
  have HB2 := Aside0.mk B2_
  clear H1 HB1 H2_ B2_ D1 D2 D3 hcut q4'
  have l2 : (Go.splice L1 ((b.length + 11)) hd).length = (b.length + 11) + (hd.length + bd.length) := by rw [splice_length f2, l1]
  obtain ⟨L2, hL2⟩ : ∃ L2, Go.splice L1 ((b.length + 11)) hd = L2 := ⟨_, rfl⟩
  rw [hL2] at H2 l2
  have HL2 := Aside0.mk hL2
  clear hL2 f2 l1
  go_upto_region 17 with (fail)
  obtain ⟨A78, hcut, hA78⟩ := cut_from (w.heap.size + 1) ((b.length + 11) + (hd.length + bd.length)) ((b.length + 11) + hd.length) ((b.length + 11) + (hd.length + bd.length)) (((↑b.length : Int) + 11 + (↑hd.length : Int))) (by omega) (by omega)
  have HA78 := Aside0.mk hA78
  clear hA78
  have e2 : (b.length + 11) + (hd.length + bd.length) - ((b.length + 11) + hd.length) = bd.length := by omega
  rw [e2] at hcut
  have f4 : ((b.length + 11) + hd.length) + bd.length ≤ L2.length := by rw [l2]; omega
  have q5' : W2.cell? ⟨w.heap.size, 5, none⟩ = some (.slice A5 bd.length c5) := by rw [HB2.out.cell (p := ⟨w.heap.size, 5, none⟩) (by rw [HZ.out]; simp)]; exact q5
  have D1 : Below w1.heap.size w1 W2.drew := below_drew HB2.out
  have D2 : BB W2.drew (w.heap.size + 1) L2 := H2.out
  have D3 := Kd.C_below C5.out D1
  go_region_law (first | ((with_reducible refine copy_bb_step w1 (w.heap.size + 1) ((b.length + 11) + hd.length) L2 bd rfl (.tmp 78) (.tmp 80) rfl A78 A5 bd.length bd.length c5 rfl rfl (by omega) (fun h0 => HA78.out (by omega)) D3 D2 f4 D1 hg1 ?_); intro W4 H4_ B4_))
  have H4 := Aside0.mk H4_
  have HB4 := Aside0.mk B4_
  clear H2 HB2 H4_ B4_ D1 D2 D3 hcut q5'
  have l4 : (Go.splice L2 ((b.length + 11) + hd.length) bd).length = (b.length + 11) + (hd.length + bd.length) := by rw [splice_length f4, l2]
  obtain ⟨L4, hL4⟩ : ∃ L4, Go.splice L2 ((b.length + 11) + hd.length) bd = L4 := ⟨_, rfl⟩
  rw [hL4] at H4 l4
  have HL4 := Aside0.mk hL4
  clear hL4 f4 l2
  have hcutM := cut_mid0 (w.heap.size + 1) ((b.length + 11) + (hd.length + bd.length)) b.length (b.length + 11) (↑b.length : Int) ((↑b.length : Int) + 11) (by omega) (by omega) (by omega) (by omega)
  have e87 : b.length + 11 - b.length = 11 := by omega
  obtain ⟨cm, hcm⟩ : ∃ cm, (b.length + 11) + (hd.length + bd.length) - b.length = cm := ⟨_, rfl⟩
  rw [e87, hcm] at hcutM
  have hcm1 : 11 ≤ cm := by omega
  have hc1 := cut_upto (w.heap.size + 1) b.length 11 cm 2 (by omega) hcm1
  have hc2 := cut_mid' (w.heap.size + 1) b.length 11 cm 2 4 2 4 (by omega) (by omega) (by omega) (by omega) hcm1
  have hc3 := cut_mid' (w.heap.size + 1) b.length 11 cm 4 8 4 8 (by omega) (by omega) (by omega) (by omega) hcm1
  have hc4 := cut_mid' (w.heap.size + 1) b.length 11 cm 8 10 8 10 (by omega) (by omega) (by omega) (by omega) hcm1
  have g1 : b.length + 2 ≤ L4.length := by rw [l4]; omega
  have g2 : b.length + 2 + 2 ≤ (putU L4 b.length 2 65459 2).length := by rw [putU_length, l4]; omega
  have g3 : b.length + 4 + 4 ≤ (putU (putU L4 b.length 2 65459 2) (b.length + 2) 2 seq 2).length := by rw [putU_length, putU_length, l4]; omega
  go_wp2_with (first
    | (go_at_call 30; (with_reducible refine (put_sub w1 _ (w.heap.size + 1) b.length 2 _ L4 65459 g1 (by omega) HB4.out hg1 H4.out).mono ?_); rintro e W5 ⟨rfl, H5_, B5_⟩; have H5 := Aside0.mk H5_; have HB5 := Aside0.mk B5_; clear H5_ B5_ HB4)
    | (go_at_call 30; (with_reducible refine (put_sub w1 _ (w.heap.size + 1) (b.length + 2) 2 _ _ seq g2 (by omega) HB5.out hg1 H5.out).mono ?_); rintro e W6 ⟨rfl, H6_, B6_⟩; have H6 := Aside0.mk H6_; have HB6 := Aside0.mk B6_; clear H6_ B6_ HB5)
    | (go_at_call 30; (with_reducible refine (put_sub w1 _ (w.heap.size + 1) (b.length + 4) 4 _ _ (((↑hd.length : Int) + ↑bd.length)) g3 (by omega) HB6.out hg1 H6.out).mono ?_); rintro e W7 ⟨rfl, H7_, B7_⟩; have H7 := Aside0.mk H7_; have HB7 := Aside0.mk B7_; clear H7_ B7_ HB6))
  obtain ⟨L7, hL7⟩ : ∃ L7, putU (putU (putU L4 b.length 2 65459 2) (b.length + 2) 2 seq 2) (b.length + 4) 4 (((↑hd.length : Int) + ↑bd.length)) 4 = L7 := ⟨_, rfl⟩
  have l7 : L7.length = (b.length + 11) + (hd.length + bd.length) := by rw [← hL7, putU_length, putU_length, putU_length, l4]
  rw [hL7] at H7
  have HL7 := Aside0.mk hL7
  clear hL7 g1 g2 g3 l4
  obtain ⟨A103, hcut, hA103⟩ := cut_from (w.heap.size + 1) ((b.length + 11) + (hd.length + bd.length)) ((b.length + 11)) ((b.length + 11) + (hd.length + bd.length)) ((↑b.length : Int) + 11) (by omega) (by omega)
  have HA103 := Aside0.mk hA103
  clear hA103
  have e3 : (b.length + 11) + (hd.length + bd.length) - ((b.length + 11)) = (hd.length + bd.length) := by omega
  rw [e3] at hcut
  have hlen : ((L7.drop ((b.length + 11))).take ((hd.length + bd.length))).length = (hd.length + bd.length) := by rw [List.length_take, List.length_drop, l7]; omega
  have CS : ∀ W : World, BB W (w.heap.size + 1) L7 → Calls Try.prog 11 #[.slice A103 ((hd.length + bd.length)) ((hd.length + bd.length))] W fun e w' => e = .returned (.int .i64 crc) ∧ Drawn0 W w' := fun W hW => by
    have hC := hW.C ((b.length + 11)) ((hd.length + bd.length)) A103 (by rw [l7]; omega) (by rw [l7]; omega) (fun h0 => HA103.out (by omega))
    have := packet_Checksum.calls k A103 ((hd.length + bd.length)) ((L7.drop ((b.length + 11))).take ((hd.length + bd.length))) crc W hC (by rw [hlen]; exact Nat.le_refl _) (hcrc L7 (by rw [← HL7.out, ← HL4.out, ← HL2.out, ← HL1.out]))
    rwa [hlen] at this
  have g4 : b.length + 8 + 2 ≤ L7.length := by rw [l7]; omega
  have D1 : Below w1.heap.size w1 W7.drew := below_drew HB7.out
  have D2 : BB W7.drew (w.heap.size + 1) L7 := H7.out
  have D3 : ∀ n, Below w1.heap.size w1 (W7.drewN n) := fun n => pw_below_drewN HB7.out n
  have D4 : ∀ n, BB (W7.drewN n) (w.heap.size + 1) L7 := fun n => H7.out
  go_region_with (first | (go_at_call 11; (refine (CS _ D2).mono ?_); rintro e w' ⟨rfl, ⟨nd, rfl⟩⟩) | (go_at_call 30; (refine (put_sub w1 (W7.drewN _) (w.heap.size + 1) (b.length + 8) 2 _ L7 crc g4 (by omega) (D3 _) hg1 (D4 _)).mono ?_); rintro e W8 ⟨rfl, H8_, B8_⟩))
  have H8 := Aside0.mk H8_
  have HB8 := Aside0.mk B8_
  clear H8_ B8_ D1 D2 D3 D4 H7 HB7 hcut
  obtain ⟨L8, hL8⟩ : ∃ L8, putU L7 (b.length + 8) 2 crc 2 = L8 := ⟨_, rfl⟩
  have l8 : L8.length = (b.length + 11) + (hd.length + bd.length) := by rw [← hL8, putU_length, l7]
  rw [hL8] at H8
  have HL8 := Aside0.mk hL8
  clear hL8 g4 l7
  have hlen2 : ((L8.drop b.length).take 11).length = 11 := by rw [List.length_take, List.length_drop, l8]; omega
  have CK : Calls Try.prog 31 #[.slice (some ⟨w.heap.size + 1, b.length, none⟩) 11 cm] W8 fun e w' => e = .returned (.int .u8 ck) ∧ Drawn0 W8 w' := by
    have hC := H8.out.C b.length 11 (some ⟨w.heap.size + 1, b.length, none⟩) (by rw [l8]; omega) (by rw [l8]; omega) (fun _ => rfl)
    have := packet_check.calls k (some ⟨w.heap.size + 1, b.length, none⟩) cm ((L8.drop b.length).take 11) ck W8 hC (by rw [hlen2]; exact hcm1) (hck L8 (by rw [← HL8.out, ← HL7.out, ← HL4.out, ← HL2.out, ← HL1.out]))
    rwa [hlen2] at this
  have z1 : W8.cell? ⟨w.heap.size + 1, b.length + 10, none⟩ = some (.int .u8 (L8.getD (b.length + 10) 0)) := H8.out.cell (b.length + 10) (by rw [l8]; omega)
  have z2 : W8.frozen? ⟨w.heap.size + 1, b.length + 10, none⟩ = false := H8.out.free (b.length + 10)
  go_wp2_with (go_at_call 31; (with_reducible refine CK.mono ?_); rintro e w' ⟨rfl, ⟨nd2, rfl⟩⟩)
  go_ret2
  have H9 := H8.out.set (b.length + 10) ck
  rw [← HL8.out, ← HL7.out, ← HL4.out, ← HL2.out, ← HL1.out] at H9
  exact ⟨rfl, H9, below_step B0.out (below_set (pw_below_drewN HB8.out _) hg1)⟩
set_option maxHeartbeats 4000000 in
set_option maxRecDepth 100000 in
theorem append_tt (b hd bd : List Int) (h0 h1 h2 h3 seq : Int) (A0 A4 A5 : Option Addr) (c0 c4 c5 : Nat) (w : World) (hr0 : Kd.C (Kd.int .u8) w A0 b.length b) (hr4 : Kd.C (Kd.int .u8) w A4 hd.length hd) (hr5 : Kd.C (Kd.int .u8) w A5 bd.length bd)
    (hs0 : 0 ≤ seq) (hs1 : seq ≤ 65535) (hl4 : hd.length ≤ 67108864) (hl5 : (bd.length : Int) ≤ 67108864 - hd.length) (hl0 : b.length ≤ 70368744177664) (k : Nat) (crc : Int) (hcrc : ∀ L7, putU (putU (putU (Go.splice (putU (Go.splice (Go.splice (List.replicate ((b.length + 11) + (hd.length + bd.length + 2)) (0 : Int)) 0 b) (b.length + 11) hd) ((b.length + 11) + hd.length) 2 65460 2) ((b.length + 11) + hd.length + 2) bd) b.length 2 65459 2) (b.length + 2) 2 seq 2) (b.length + 4) 4 (((↑hd.length : Int) + ↑bd.length + 2)) 4 = L7 → packet_Checksum.f k ((L7.drop ((b.length + 11))).take ((hd.length + bd.length + 2))) = some crc) (ck : Int) (hck : ∀ L8, putU (putU (putU (putU (Go.splice (putU (Go.splice (Go.splice (List.replicate ((b.length + 11) + (hd.length + bd.length + 2)) (0 : Int)) 0 b) (b.length + 11) hd) ((b.length + 11) + hd.length) 2 65460 2) ((b.length + 11) + hd.length + 2) bd) b.length 2 65459 2) (b.length + 2) 2 seq 2) (b.length + 4) 4 (((↑hd.length : Int) + ↑bd.length + 2)) 4) (b.length + 8) 2 crc 2 = L8 → packet_check.f k ((L8.drop b.length).take 11) = some ck) :
    Calls Try.prog 13 #[.slice A0 b.length c0, .agg #[.int .i64 h0, .int .i64 h1, .int .i64 h2, .int .i64 h3, .slice A4 hd.length c4, .slice A5 bd.length c5], .bool true, .bool true, .int .i64 seq] w fun e w' => e = .returned (.tuple #[.slice (some ⟨w.heap.size + 1, 0, none⟩) ((b.length + 11) + (hd.length + bd.length + 2)) ((b.length + 11) + (hd.length + bd.length + 2)), .int .i64 0]) ∧ BB w' (w.heap.size + 1) ((putU (putU (putU (putU (Go.splice (putU (Go.splice (Go.splice (List.replicate ((b.length + 11) + (hd.length + bd.length + 2)) (0 : Int)) 0 b) (b.length + 11) hd) ((b.length + 11) + hd.length) 2 65460 2) ((b.length + 11) + hd.length + 2) bd) b.length 2 65459 2) (b.length + 2) 2 seq 2) (b.length + 4) 4 (((↑hd.length : Int) + ↑bd.length + 2)) 4) (b.length + 8) 2 crc 2).set (b.length + 10) ck) ∧ Below w.heap.size w w' := by
  have R0 := Aside0.mk hr0
  have R4 := Aside0.mk hr4
  have R5 := Aside0.mk hr5
  clear hr0 hr4 hr5
  have hmk := run_mk ((b.length + 11) + (hd.length + bd.length + 2)) ((↑b.length : Int) + 11 + ((↑hd.length : Int) + ↑bd.length + 2)) (by omega) (by omega)
  go_enter Try.func13, Try.ntmps13
  go_upto_region 12 with (fail)
  clear hmk
  obtain ⟨w1, hw1⟩ : ∃ w1, w1 = w.alloc (Obj.cells #[Value.int IntKind.i64 h0, Value.int IntKind.i64 h1, Value.int IntKind.i64 h2, Value.int IntKind.i64 h3, Value.slice A4 hd.length c4, Value.slice A5 bd.length c5] 29) := ⟨_, rfl⟩
  rw [← hw1]
  have q4 : w1.cell? ⟨w.heap.size, 4, none⟩ = some (.slice A4 hd.length c4) := by rw [hw1]; simp
  have q5 : w1.cell? ⟨w.heap.size, 5, none⟩ = some (.slice A5 bd.length c5) := by rw [hw1]; simp
  have hsz : w1.heap.size = w.heap.size + 1 := by rw [hw1]; simp
  have b0 : Below w.heap.size w w1 := by rw [hw1]; exact below_alloc (Below.refl _ _) _
  have hBB := BB.new w1 ((b.length + 11) + (hd.length + bd.length + 2))
  have hBl := below_alloc (Below.refl w1.heap.size w1) (.cells (madeCells #[Value.int IntKind.u8 0] ((b.length + 11) + (hd.length + bd.length + 2))) 5)
  rw [hsz] at hBB
  clear hw1
  generalize w1.alloc (Obj.cells (madeCells #[Value.int IntKind.u8 0] ((b.length + 11) + (hd.length + bd.length + 2))) 5) = W at hBB hBl ⊢
  have HB := Aside0.mk hBl
  have HZ := Aside0.mk hsz
  have C0 := Aside0.mk (Kd.C_below R0.out b0)
  have C4 := Aside0.mk (Kd.C_below R4.out b0)
  have C5 := Aside0.mk (Kd.C_below R5.out b0)
  have B0 := Aside0.mk b0
  clear hBl b0 R0 R4 R5
  have H0 := Aside0.mk hBB
  clear hBB
  have hg1 : w1.heap.size ≤ w.heap.size + 1 := by rw [HZ.out]; omega
  have f1 : 0 + b.length ≤ (List.replicate ((b.length + 11) + (hd.length + bd.length + 2)) (0 : Int)).length := by rw [List.length_replicate]; omega
  go_wp2_with ((with_reducible refine copy_bb w1 (w.heap.size + 1) 0 _ b rfl (.tmp 56) (.tmp 57) rfl (some ⟨w.heap.size + 1, 0, none⟩) A0 _ _ c0 rfl rfl (by omega) (fun _ => rfl) (Kd.C_below C0.out HB.out) H0.out f1 HB.out hg1 ?_); intro W1 H1_ B1_)
  have H1 := Aside0.mk H1_
  have HB1 := Aside0.mk B1_
  clear H0 HB H1_ B1_
  have l1 : (Go.splice (List.replicate ((b.length + 11) + (hd.length + bd.length + 2)) (0 : Int)) 0 b).length = (b.length + 11) + (hd.length + bd.length + 2) := by rw [splice_length f1, List.length_replicate]
  obtain ⟨L1, hL1⟩ : ∃ L1, Go.splice (List.replicate ((b.length + 11) + (hd.length + bd.length + 2)) (0 : Int)) 0 b = L1 := ⟨_, rfl⟩
  rw [hL1] at H1 l1
  have HL1 := Aside0.mk hL1
  clear hL1 f1
  obtain ⟨A62, hcut, hA62⟩ := cut_from (w.heap.size + 1) ((b.length + 11) + (hd.length + bd.length + 2)) ((b.length + 11)) ((b.length + 11) + (hd.length + bd.length + 2)) ((↑b.length : Int) + 11) (by omega) (by omega)
  have HA62 := Aside0.mk hA62
  clear hA62
  have e1 : (b.length + 11) + (hd.length + bd.length + 2) - ((b.length + 11)) = (hd.length + bd.length + 2) := by omega
  rw [e1] at hcut
  have f2 : (b.length + 11) + hd.length ≤ L1.length := by rw [l1]; omega
  have q4' : W1.cell? ⟨w.heap.size, 4, none⟩ = some (.slice A4 hd.length c4) := by rw [HB1.out.cell (p := ⟨w.heap.size, 4, none⟩) (by rw [HZ.out]; simp)]; exact q4
  have D1 : Below w1.heap.size w1 W1.drew := below_drew HB1.out
  have D2 : BB W1.drew (w.heap.size + 1) L1 := H1.out
  have D3 := Kd.C_below C4.out D1
  go_region_law (first | ((with_reducible refine copy_bb_step w1 (w.heap.size + 1) ((b.length + 11)) L1 hd rfl (.tmp 62) (.tmp 64) rfl A62 A4 ((hd.length + bd.length + 2)) ((hd.length + bd.length + 2)) c4 rfl rfl (by omega) (fun h0 => HA62.out (by omega)) D3 D2 f2 D1 hg1 ?_); intro W2 H2_ B2_))
  have H2 := Aside0.mk H2_
  have HB2 := Aside0.mk B2_
  clear H1 HB1 H2_ B2_ D1 D2 D3 hcut q4'
  have l2 : (Go.splice L1 ((b.length + 11)) hd).length = (b.length + 11) + (hd.length + bd.length + 2) := by rw [splice_length f2, l1]
  obtain ⟨L2, hL2⟩ : ∃ L2, Go.splice L1 ((b.length + 11)) hd = L2 := ⟨_, rfl⟩
  rw [hL2] at H2 l2
  have HL2 := Aside0.mk hL2
  clear hL2 f2 l1
  have hcutF := cut_mid0 (w.heap.size + 1) ((b.length + 11) + (hd.length + bd.length + 2)) ((b.length + 11) + hd.length) (((b.length + 11) + hd.length) + 2) (((↑b.length : Int) + 11 + (↑hd.length : Int))) (((↑b.length : Int) + 11 + (↑hd.length : Int)) + 2) (by omega) (by omega) (by omega) (by omega)
  have e72 : ((b.length + 11) + hd.length) + 2 - ((b.length + 11) + hd.length) = 2 := by omega
  rw [e72] at hcutF
  have f3 : ((b.length + 11) + hd.length) + 2 ≤ L2.length := by rw [l2]; omega
  go_wp2_with (go_at_call 30; (with_reducible refine (put_sub w1 _ (w.heap.size + 1) ((b.length + 11) + hd.length) 2 _ L2 65460 f3 (by omega) HB2.out hg1 H2.out).mono ?_); rintro e W3 ⟨rfl, H3_, B3_⟩)
  have H3 := Aside0.mk H3_
  have HB3 := Aside0.mk B3_
  clear H2 HB2 H3_ B3_ hcutF e72
  have l3 : (putU L2 ((b.length + 11) + hd.length) 2 65460 2).length = (b.length + 11) + (hd.length + bd.length + 2) := by rw [putU_length, l2]
  obtain ⟨L3, hL3⟩ : ∃ L3, putU L2 ((b.length + 11) + hd.length) 2 65460 2 = L3 := ⟨_, rfl⟩
  rw [hL3] at H3 l3
  have HL3 := Aside0.mk hL3
  clear hL3 f3 l2
  go_upto_region 17 with (fail)
  obtain ⟨A78, hcut, hA78⟩ := cut_from (w.heap.size + 1) ((b.length + 11) + (hd.length + bd.length + 2)) ((b.length + 11) + hd.length + 2) ((b.length + 11) + (hd.length + bd.length + 2)) (((↑b.length : Int) + 11 + (↑hd.length : Int)) + 2) (by omega) (by omega)
  have HA78 := Aside0.mk hA78
  clear hA78
  have e2 : (b.length + 11) + (hd.length + bd.length + 2) - ((b.length + 11) + hd.length + 2) = bd.length := by omega
  rw [e2] at hcut
  have f4 : ((b.length + 11) + hd.length + 2) + bd.length ≤ L3.length := by rw [l3]; omega
  have q5' : W3.cell? ⟨w.heap.size, 5, none⟩ = some (.slice A5 bd.length c5) := by rw [HB3.out.cell (p := ⟨w.heap.size, 5, none⟩) (by rw [HZ.out]; simp)]; exact q5
  have D1 : Below w1.heap.size w1 W3.drew := below_drew HB3.out
  have D2 : BB W3.drew (w.heap.size + 1) L3 := H3.out
  have D3 := Kd.C_below C5.out D1
  go_region_law (first | ((with_reducible refine copy_bb_step w1 (w.heap.size + 1) ((b.length + 11) + hd.length + 2) L3 bd rfl (.tmp 78) (.tmp 80) rfl A78 A5 bd.length bd.length c5 rfl rfl (by omega) (fun h0 => HA78.out (by omega)) D3 D2 f4 D1 hg1 ?_); intro W4 H4_ B4_))
  have H4 := Aside0.mk H4_
  have HB4 := Aside0.mk B4_
  clear H3 HB3 H4_ B4_ D1 D2 D3 hcut q5'
  have l4 : (Go.splice L3 ((b.length + 11) + hd.length + 2) bd).length = (b.length + 11) + (hd.length + bd.length + 2) := by rw [splice_length f4, l3]
  obtain ⟨L4, hL4⟩ : ∃ L4, Go.splice L3 ((b.length + 11) + hd.length + 2) bd = L4 := ⟨_, rfl⟩
  rw [hL4] at H4 l4
  have HL4 := Aside0.mk hL4
  clear hL4 f4 l3
  have hcutM := cut_mid0 (w.heap.size + 1) ((b.length + 11) + (hd.length + bd.length + 2)) b.length (b.length + 11) (↑b.length : Int) ((↑b.length : Int) + 11) (by omega) (by omega) (by omega) (by omega)
  have e87 : b.length + 11 - b.length = 11 := by omega
  obtain ⟨cm, hcm⟩ : ∃ cm, (b.length + 11) + (hd.length + bd.length + 2) - b.length = cm := ⟨_, rfl⟩
  rw [e87, hcm] at hcutM
  have hcm1 : 11 ≤ cm := by omega
  have hc1 := cut_upto (w.heap.size + 1) b.length 11 cm 2 (by omega) hcm1
  have hc2 := cut_mid' (w.heap.size + 1) b.length 11 cm 2 4 2 4 (by omega) (by omega) (by omega) (by omega) hcm1
  have hc3 := cut_mid' (w.heap.size + 1) b.length 11 cm 4 8 4 8 (by omega) (by omega) (by omega) (by omega) hcm1
  have hc4 := cut_mid' (w.heap.size + 1) b.length 11 cm 8 10 8 10 (by omega) (by omega) (by omega) (by omega) hcm1
  have g1 : b.length + 2 ≤ L4.length := by rw [l4]; omega
  have g2 : b.length + 2 + 2 ≤ (putU L4 b.length 2 65459 2).length := by rw [putU_length, l4]; omega
  have g3 : b.length + 4 + 4 ≤ (putU (putU L4 b.length 2 65459 2) (b.length + 2) 2 seq 2).length := by rw [putU_length, putU_length, l4]; omega
  go_wp2_with (first
    | (go_at_call 30; (with_reducible refine (put_sub w1 _ (w.heap.size + 1) b.length 2 _ L4 65459 g1 (by omega) HB4.out hg1 H4.out).mono ?_); rintro e W5 ⟨rfl, H5_, B5_⟩; have H5 := Aside0.mk H5_; have HB5 := Aside0.mk B5_; clear H5_ B5_ HB4)
    | (go_at_call 30; (with_reducible refine (put_sub w1 _ (w.heap.size + 1) (b.length + 2) 2 _ _ seq g2 (by omega) HB5.out hg1 H5.out).mono ?_); rintro e W6 ⟨rfl, H6_, B6_⟩; have H6 := Aside0.mk H6_; have HB6 := Aside0.mk B6_; clear H6_ B6_ HB5)
    | (go_at_call 30; (with_reducible refine (put_sub w1 _ (w.heap.size + 1) (b.length + 4) 4 _ _ (((↑hd.length : Int) + ↑bd.length + 2)) g3 (by omega) HB6.out hg1 H6.out).mono ?_); rintro e W7 ⟨rfl, H7_, B7_⟩; have H7 := Aside0.mk H7_; have HB7 := Aside0.mk B7_; clear H7_ B7_ HB6))
  obtain ⟨L7, hL7⟩ : ∃ L7, putU (putU (putU L4 b.length 2 65459 2) (b.length + 2) 2 seq 2) (b.length + 4) 4 (((↑hd.length : Int) + ↑bd.length + 2)) 4 = L7 := ⟨_, rfl⟩
  have l7 : L7.length = (b.length + 11) + (hd.length + bd.length + 2) := by rw [← hL7, putU_length, putU_length, putU_length, l4]
  rw [hL7] at H7
  have HL7 := Aside0.mk hL7
  clear hL7 g1 g2 g3 l4
  obtain ⟨A103, hcut, hA103⟩ := cut_from (w.heap.size + 1) ((b.length + 11) + (hd.length + bd.length + 2)) ((b.length + 11)) ((b.length + 11) + (hd.length + bd.length + 2)) ((↑b.length : Int) + 11) (by omega) (by omega)
  have HA103 := Aside0.mk hA103
  clear hA103
  have e3 : (b.length + 11) + (hd.length + bd.length + 2) - ((b.length + 11)) = (hd.length + bd.length + 2) := by omega
  rw [e3] at hcut
  have hlen : ((L7.drop ((b.length + 11))).take ((hd.length + bd.length + 2))).length = (hd.length + bd.length + 2) := by rw [List.length_take, List.length_drop, l7]; omega
  have CS : ∀ W : World, BB W (w.heap.size + 1) L7 → Calls Try.prog 11 #[.slice A103 ((hd.length + bd.length + 2)) ((hd.length + bd.length + 2))] W fun e w' => e = .returned (.int .i64 crc) ∧ Drawn0 W w' := fun W hW => by
    have hC := hW.C ((b.length + 11)) ((hd.length + bd.length + 2)) A103 (by rw [l7]; omega) (by rw [l7]; omega) (fun h0 => HA103.out (by omega))
    have := packet_Checksum.calls k A103 ((hd.length + bd.length + 2)) ((L7.drop ((b.length + 11))).take ((hd.length + bd.length + 2))) crc W hC (by rw [hlen]; exact Nat.le_refl _) (hcrc L7 (by rw [← HL7.out, ← HL4.out, ← HL3.out, ← HL2.out, ← HL1.out]))
    rwa [hlen] at this
  have g4 : b.length + 8 + 2 ≤ L7.length := by rw [l7]; omega
  have D1 : Below w1.heap.size w1 W7.drew := below_drew HB7.out
  have D2 : BB W7.drew (w.heap.size + 1) L7 := H7.out
  have D3 : ∀ n, Below w1.heap.size w1 (W7.drewN n) := fun n => pw_below_drewN HB7.out n
  have D4 : ∀ n, BB (W7.drewN n) (w.heap.size + 1) L7 := fun n => H7.out
  go_region_with (first | (go_at_call 11; (refine (CS _ D2).mono ?_); rintro e w' ⟨rfl, ⟨nd, rfl⟩⟩) | (go_at_call 30; (refine (put_sub w1 (W7.drewN _) (w.heap.size + 1) (b.length + 8) 2 _ L7 crc g4 (by omega) (D3 _) hg1 (D4 _)).mono ?_); rintro e W8 ⟨rfl, H8_, B8_⟩))
  have H8 := Aside0.mk H8_
  have HB8 := Aside0.mk B8_
  clear H8_ B8_ D1 D2 D3 D4 H7 HB7 hcut
  obtain ⟨L8, hL8⟩ : ∃ L8, putU L7 (b.length + 8) 2 crc 2 = L8 := ⟨_, rfl⟩
  have l8 : L8.length = (b.length + 11) + (hd.length + bd.length + 2) := by rw [← hL8, putU_length, l7]
  rw [hL8] at H8
  have HL8 := Aside0.mk hL8
  clear hL8 g4 l7
  have hlen2 : ((L8.drop b.length).take 11).length = 11 := by rw [List.length_take, List.length_drop, l8]; omega
  have CK : Calls Try.prog 31 #[.slice (some ⟨w.heap.size + 1, b.length, none⟩) 11 cm] W8 fun e w' => e = .returned (.int .u8 ck) ∧ Drawn0 W8 w' := by
    have hC := H8.out.C b.length 11 (some ⟨w.heap.size + 1, b.length, none⟩) (by rw [l8]; omega) (by rw [l8]; omega) (fun _ => rfl)
    have := packet_check.calls k (some ⟨w.heap.size + 1, b.length, none⟩) cm ((L8.drop b.length).take 11) ck W8 hC (by rw [hlen2]; exact hcm1) (hck L8 (by rw [← HL8.out, ← HL7.out, ← HL4.out, ← HL3.out, ← HL2.out, ← HL1.out]))
    rwa [hlen2] at this
  have z1 : W8.cell? ⟨w.heap.size + 1, b.length + 10, none⟩ = some (.int .u8 (L8.getD (b.length + 10) 0)) := H8.out.cell (b.length + 10) (by rw [l8]; omega)
  have z2 : W8.frozen? ⟨w.heap.size + 1, b.length + 10, none⟩ = false := H8.out.free (b.length + 10)
  go_wp2_with (go_at_call 31; (with_reducible refine CK.mono ?_); rintro e w' ⟨rfl, ⟨nd2, rfl⟩⟩)
  go_ret2
  have H9 := H8.out.set (b.length + 10) ck
  rw [← HL8.out, ← HL7.out, ← HL4.out, ← HL3.out, ← HL2.out, ← HL1.out] at H9
  exact ⟨rfl, H9, below_step B0.out (below_set (pw_below_drewN HB8.out _) hg1)⟩
set_option maxHeartbeats 2000000 in
set_option maxRecDepth 100000 in
theorem append_range (b hd bd : List Int) (h0 h1 h2 h3 seq : Int) (s f : Bool) (A0 A4 A5 : Option Addr) (c0 c4 c5 : Nat) (w : World) (hs : seq < 0 ∨ 65535 < seq) :
    Calls Try.prog 13 #[.slice A0 b.length c0, .agg #[.int .i64 h0, .int .i64 h1, .int .i64 h2, .int .i64 h3, .slice A4 hd.length c4, .slice A5 bd.length c5], .bool s, .bool f, .int .i64 seq] w fun e w' => e = .returned (.tuple #[.slice none 0 0, .int .i64 2]) ∧ Below w.heap.size w w' := by
  by_cases h : seq < 0
  · go_enter Try.func13, Try.ntmps13
    go_wp2
    go_ret2
    exact ⟨rfl, below_alloc (Below.refl _ _) _⟩
  · have h' : 65535 < seq := by omega
    clear hs
    go_enter Try.func13, Try.ntmps13
    go_wp2
    go_ret2
    exact ⟨rfl, below_alloc (Below.refl _ _) _⟩
set_option maxHeartbeats 2000000 in
set_option maxRecDepth 100000 in
theorem append_limit (b hd bd : List Int) (h0 h1 h2 h3 seq : Int) (s f : Bool) (A0 A4 A5 : Option Addr) (c0 c4 c5 : Nat) (w : World) (hs0 : 0 ≤ seq) (hs1 : seq ≤ 65535) (hl : 67108864 < (hd.length : Int) ∨ 67108864 - (hd.length : Int) < (bd.length : Int)) :
    Calls Try.prog 13 #[.slice A0 b.length c0, .agg #[.int .i64 h0, .int .i64 h1, .int .i64 h2, .int .i64 h3, .slice A4 hd.length c4, .slice A5 bd.length c5], .bool s, .bool f, .int .i64 seq] w fun e w' => e = .returned (.tuple #[.slice none 0 0, .int .i64 5]) ∧ Below w.heap.size w w' := by
  by_cases h : 67108864 < (hd.length : Int)
  · clear hl
    go_enter Try.func13, Try.ntmps13
    go_wp2
    go_ret2
    exact ⟨rfl, below_alloc (Below.refl _ _) _⟩
  · have h' : 67108864 - (hd.length : Int) < (bd.length : Int) := by omega
    clear hl
    go_enter Try.func13, Try.ntmps13
    go_wp2
    go_ret2
    exact ⟨rfl, below_alloc (Below.refl _ _) _⟩
theorem BB.R {w W : World} {g n : Nat} {l : List Int} (h : BB W g l) (hn : l.length = n) (hg : w.heap.size ≤ g) (hm : n ≤ 9223372036854775807) : Kd.R (Kd.int .u8) 5 W w.heap.size (fun _ => True) (.slice (some ⟨g, 0, none⟩) n n) l := by
  subst hn
  refine Kd.R_of_own (h1 := fun _ => rfl) ⟨by simp [encs], .inr ⟨g, l.length, _, rfl, hg, h, Nat.le_refl _, hm, by simp, ?_⟩⟩ (fun _ _ => trivial)
  simp only [encs]
  exact List.take_of_length_le (by simp)
set_option maxHeartbeats 2000000 in
theorem packet_Append.calls (k : Nat) (A0 : Option Addr) (c0 : Nat) (l0 : List Int) (a1_0 : Int) (a1_1 : Int) (a1_2 : Int) (a1_3 : Int) (A1_4 : Option Addr) (c1_4 : Nat) (l1_4 : List Int) (A1_5 : Option Addr) (c1_5 : Nat) (l1_5 : List Int) (a2 : Bool) (a3 : Bool) (a4 : Int) (r1 : List Int) (r2 : Int) (w : World) (hr0 : Kd.C (Kd.int .u8) w A0 l0.length l0) (hc0 : l0.length ≤ c0) (hr1_4 : Kd.C (Kd.int .u8) w A1_4 l1_4.length l1_4) (hc1_4 : l1_4.length ≤ c1_4) (hr1_5 : Kd.C (Kd.int .u8) w A1_5 l1_5.length l1_5) (hc1_5 : l1_5.length ≤ c1_5) (h : packet_Append.f k l0 a1_0 a1_1 a1_2 a1_3 l1_4 l1_5 a2 a3 a4 = some (r1, r2)) :
    Calls Try.prog 13 #[.slice A0 l0.length c0, .agg #[.int .i64 a1_0, .int .i64 a1_1, .int .i64 a1_2, .int .i64 a1_3, .slice A1_4 l1_4.length c1_4, .slice A1_5 l1_5.length c1_5], .bool a2, .bool a3, .int .i64 a4] w fun e w' => ∃ v0_ : Value, e = .returned (.tuple #[v0_, .int .i64 r2]) ∧ Kd.R (Kd.int .u8) 5 w' w.heap.size (fun _ => True) v0_ r1 ∧ Below w.heap.size w w' := by
  unfold packet_Append.f at h
  by_cases c1 : a4 < 0
  · rw [if_pos c1] at h
    obtain ⟨rfl, rfl⟩ := Prod.mk.inj (Option.some.inj h)
    exact (append_range l0 l1_4 l1_5 _ _ _ _ a4 a2 a3 A0 A1_4 A1_5 c0 c1_4 c1_5 w (.inl c1)).mono fun e w' ⟨he, hb⟩ => ⟨_, he, Kd.R_nil _ _ _ _ _, hb⟩
  · rw [if_neg c1] at h
    by_cases c2 : 65535 < a4
    · rw [if_pos c2] at h
      obtain ⟨rfl, rfl⟩ := Prod.mk.inj (Option.some.inj h)
      exact (append_range l0 l1_4 l1_5 _ _ _ _ a4 a2 a3 A0 A1_4 A1_5 c0 c1_4 c1_5 w (.inr c2)).mono fun e w' ⟨he, hb⟩ => ⟨_, he, Kd.R_nil _ _ _ _ _, hb⟩
    · rw [if_neg c2] at h
      by_cases c3 : 67108864 < (l1_4.length : Int)
      · rw [if_pos c3] at h
        obtain ⟨rfl, rfl⟩ := Prod.mk.inj (Option.some.inj h)
        exact (append_limit l0 l1_4 l1_5 _ _ _ _ a4 a2 a3 A0 A1_4 A1_5 c0 c1_4 c1_5 w (by omega) (by omega) (.inl c3)).mono fun e w' ⟨he, hb⟩ => ⟨_, he, Kd.R_nil _ _ _ _ _, hb⟩
      · rw [if_neg c3] at h
        by_cases c4 : 67108864 - (l1_4.length : Int) < (l1_5.length : Int)
        · rw [if_pos c4] at h
          obtain ⟨rfl, rfl⟩ := Prod.mk.inj (Option.some.inj h)
          exact (append_limit l0 l1_4 l1_5 _ _ _ _ a4 a2 a3 A0 A1_4 A1_5 c0 c1_4 c1_5 w (by omega) (by omega) (.inr c4)).mono fun e w' ⟨he, hb⟩ => ⟨_, he, Kd.R_nil _ _ _ _ _, hb⟩
        · rw [if_neg c4] at h
          by_cases c5 : l0.length ≤ 70368744177664
          · rw [if_pos c5] at h
            cases a2 with
            | false =>
              rw [if_neg (by decide)] at h
              cases a3 with
              | false =>
                rw [if_neg (by decide)] at h
                obtain ⟨rfl, rfl⟩ := Prod.mk.inj (Option.some.inj h)
                refine (append_ff l0 l1_4 l1_5 _ _ _ _ a4 A0 A1_4 A1_5 c0 c1_4 c1_5 w hr0 hr1_4 hr1_5 (by omega) (by omega) (by omega) (by omega) c5).mono fun e w' ⟨he, hB, hb⟩ => ⟨_, he, hB.R ?_ (by omega) (by omega), hb⟩
                rw [splice_length (by rw [splice_length (by rw [splice_length (by rw [List.length_replicate]; omega), List.length_replicate]; omega), splice_length (by rw [List.length_replicate]; omega), List.length_replicate]; omega), splice_length (by rw [splice_length (by rw [List.length_replicate]; omega), List.length_replicate]; omega), splice_length (by rw [List.length_replicate]; omega), List.length_replicate]
              | true =>
                rw [if_pos rfl] at h
                obtain ⟨rfl, rfl⟩ := Prod.mk.inj (Option.some.inj h)
                refine (append_ft l0 l1_4 l1_5 _ _ _ _ a4 A0 A1_4 A1_5 c0 c1_4 c1_5 w hr0 hr1_4 hr1_5 (by omega) (by omega) (by omega) (by omega) c5).mono fun e w' ⟨he, hB, hb⟩ => ⟨_, he, hB.R ?_ (by omega) (by omega), hb⟩
                rw [splice_length (by rw [putU_length, splice_length (by rw [splice_length (by rw [List.length_replicate]; omega), List.length_replicate]; omega), splice_length (by rw [List.length_replicate]; omega), List.length_replicate]; omega), putU_length, splice_length (by rw [splice_length (by rw [List.length_replicate]; omega), List.length_replicate]; omega), splice_length (by rw [List.length_replicate]; omega), List.length_replicate]
            | true =>
              rw [if_pos rfl] at h
              cases a3 with
              | false =>
                rw [if_neg (by decide)] at h
                obtain ⟨crc, hcrc, h⟩ := Option.bind_eq_some_iff.1 h
                obtain ⟨ck, hck, h⟩ := Option.bind_eq_some_iff.1 h
                obtain ⟨rfl, rfl⟩ := Prod.mk.inj (Option.some.inj h)
                refine (append_tf l0 l1_4 l1_5 _ _ _ _ a4 A0 A1_4 A1_5 c0 c1_4 c1_5 w hr0 hr1_4 hr1_5 (by omega) (by omega) (by omega) (by omega) c5 k crc (fun L e => by rw [← e]; exact hcrc) ck (fun L e => by rw [← e]; exact hck)).mono fun e w' ⟨he, hB, hb⟩ => ⟨_, he, hB.R ?_ (by omega) (by omega), hb⟩
                rw [List.length_set, putU_length, putU_length, putU_length, putU_length, splice_length (by rw [splice_length (by rw [splice_length (by rw [List.length_replicate]; omega), List.length_replicate]; omega), splice_length (by rw [List.length_replicate]; omega), List.length_replicate]; omega), splice_length (by rw [splice_length (by rw [List.length_replicate]; omega), List.length_replicate]; omega), splice_length (by rw [List.length_replicate]; omega), List.length_replicate]
              | true =>
                rw [if_pos rfl] at h
                obtain ⟨crc, hcrc, h⟩ := Option.bind_eq_some_iff.1 h
                obtain ⟨ck, hck, h⟩ := Option.bind_eq_some_iff.1 h
                obtain ⟨rfl, rfl⟩ := Prod.mk.inj (Option.some.inj h)
                refine (append_tt l0 l1_4 l1_5 _ _ _ _ a4 A0 A1_4 A1_5 c0 c1_4 c1_5 w hr0 hr1_4 hr1_5 (by omega) (by omega) (by omega) (by omega) c5 k crc (fun L e => by rw [← e]; exact hcrc) ck (fun L e => by rw [← e]; exact hck)).mono fun e w' ⟨he, hB, hb⟩ => ⟨_, he, hB.R ?_ (by omega) (by omega), hb⟩
                rw [List.length_set, putU_length, putU_length, putU_length, putU_length, splice_length (by rw [putU_length, splice_length (by rw [splice_length (by rw [List.length_replicate]; omega), List.length_replicate]; omega), splice_length (by rw [List.length_replicate]; omega), List.length_replicate]; omega), putU_length, splice_length (by rw [splice_length (by rw [List.length_replicate]; omega), List.length_replicate]; omega), splice_length (by rw [List.length_replicate]; omega), List.length_replicate]
          · rw [if_neg c5] at h
            cases h

/-! a literal of bytes that is converted to its own type (the front end's '[]byte("..")' of a constant) -/
section
variable {ops : Array Oper} {rest : List Oper} {o o2 : Oper} {a : Act} {Q : Exit → Act → World → Prop}
theorem lit_conv {W : World} (l : List Int) (hgd : o.guard = none) (hgd2 : o2.guard = none)
    (hrun : (execOp a.eval o).run Try.prog W = .ok (.value (.slice (some ⟨W.heap.size, 0, none⟩) l.length l.length)) (W.alloc (.cells (l.map (Value.int .u8)).toArray 5)))
    (hrun2 : ∀ v W2, (convert 22 22 (.slice (some ⟨W.heap.size, 0, none⟩) l.length l.length)).run Try.prog (W.alloc (.cells (l.map (Value.int .u8)).toArray 5)) = .ok v W2 → (execOp (a.put o.dst (.slice (some ⟨W.heap.size, 0, none⟩) l.length l.length)).eval o2).run Try.prog (W.alloc (.cells (l.map (Value.int .u8)).toArray 5)) = .ok (.value v) W2)
    (hl : l.length ≤ 9223372036854775807)
    (h : ∀ A w1, Kd.C (Kd.int .u8) w1 A l.length l → Below W.heap.size W w1 → wpList Try.prog ops Q rest ((a.put o.dst (.slice A l.length l.length)).put o2.dst (.slice A l.length l.length)) w1) : wpList Try.prog ops Q (o :: o2 :: rest) a W := by
  refine Kd.event_run hgd hrun (Kd.event_run hgd2 (hrun2 _ _ (Go.Lib.run_convert_bytes_const W 22 5 _ l.length l.length Try.underlying22 Try.underlying5)) (h _ _ ⟨rfl, by omega, fun h0 => ⟨_, rfl, fun j p hj => ⟨[.int .u8 p], rfl, rfl, fun i u hu => ?_⟩⟩⟩ (below_alloc (Below.refl _ _) _)))
  have hi : i = 0 := by
    have := (List.getElem?_eq_some_iff.1 hu).1
    simp at this
    omega
  subst hi
  have hu' : u = .int .u8 p := by simpa using hu.symm
  subst hu'
  have e : ((⟨W.heap.size, 0, none⟩ : Addr).add (j * (Kd.int .u8).sz + 0)) = ⟨W.heap.size, j, none⟩ := by
    simp [Addr.add, show (Kd.int .u8).sz = 1 from rfl]
    intro z; omega
  first | rw [e] | skip
  have hc := World.cell?_alloc_mark W (l.map (Value.int .u8)).toArray 5 ((l.map (Value.int .u8)).toArray.size, (l.map (Value.int .u8)).toArray.size + 1) j
  rw [hc]
  simp [hj]
end


/-! ### packet_get: function 40 -/
def packet_get.l0 : Nat → Int → List Int → Int → Int → Option (Int)
  | 0, _, _, _, _ => none
  | k + 1, x3, x6, x7, x8 => if x8 < x7 then (if 0 ≤ x8 then (if x8 < (x6.length : Int) then (packet_get.l0 k (Go.bits .or .i64 (wrap64 (x3 * 256)) (wrap64 (rd x6 x8))) x6 x7 (wrap64 (x8 + 1))) else (none)) else (none)) else (some x3)
def packet_get.f (k : Nat) (l0 : List Int) : Option (Int) := packet_get.l0 k 0 l0 (l0.length : Int) 0
theorem packet_get.mono_l : ∀ k, (∀ y0 y1 y2 y3, LeO (packet_get.l0 k y0 y1 y2 y3) (packet_get.l0 (k + 1) y0 y1 y2 y3))
  | 0 => fun _ _ _ _ r h => by simp [packet_get.l0] at h
  | k + 1 => by
    have ih0 := packet_get.mono_l k
    · intro y0 y1 y2 y3
      unfold packet_get.l0
      repeat' first
      | (with_reducible exact ih0 _ _ _ _)
      | (with_reducible exact LeO.refl _)
      | (with_reducible exact LeO.none _)
      | (with_reducible refine LeO.ite ?_ ?_)
      | (with_reducible refine LeO.bind ?_ (fun _ => ?_))
      | exact ih0 _ _ _ _
      | exact LeO.none _
      | refine LeO.ite ?_ ?_
      | refine LeO.bind ?_ (fun _ => ?_)
theorem packet_get.mono : ∀ a0 k, LeO (packet_get.f k a0) (packet_get.f (k + 1) a0) := by
  intro a0 k
  have ih0 := packet_get.mono_l k
  unfold packet_get.f
  repeat' first
      | (with_reducible exact ih0 _ _ _ _)
      | (with_reducible exact LeO.refl _)
      | (with_reducible exact LeO.none _)
      | (with_reducible refine LeO.ite ?_ ?_)
      | (with_reducible refine LeO.bind ?_ (fun _ => ?_))
      | exact ih0 _ _ _ _
      | exact LeO.none _
      | refine LeO.ite ?_ ?_
      | refine LeO.bind ?_ (fun _ => ?_)
set_option maxHeartbeats 8000000 in
set_option maxRecDepth 100000 in
theorem packet_get.calls (k : Nat) (A0 : Option Addr) (c0 : Nat) (l0 : List Int) (r : Int) (w : World) (hr0 : Kd.C (Kd.int .u8) w A0 l0.length l0) (hc0 : l0.length ≤ c0) (h : packet_get.f k l0 = some r) :
    Calls Try.prog 40 #[.slice A0 l0.length c0] w fun e w' => e = .returned (.int .i64 r) ∧ Drawn0 w w' := by
  have HR0 := Aside0.mk hr0
  have HC0 := Aside0.mk hc0
  clear hr0 hc0
  have H : (packet_get.l0 k 0 l0 (l0.length : Int) 0) = some r := h
  clear h
  have H' := Aside0.mk H
  clear H
  go_enter Try.func40, Try.ntmps40
  go_wp2
  go_loopg [3, 8] k (fun kq v3 v8 w' => ∃ (x3_1 : Int) (x8_1 : Int), v3 = .int .i64 x3_1 ∧ v8 = .int .i64 x8_1 ∧ Aside0 (packet_get.l0 kq x3_1 l0 (l0.length : Int) x8_1 = some r) ∧ Aside0 (kq ≤ k) ∧ Drawn0 w w')
  case atStart => exact ⟨(0), (0), (by first | rfl | (simp; done) | (simp [*]; done)), (by first | rfl | (simp; done) | (simp [*]; done)), H', ⟨Nat.le_refl _⟩, by repeat (first | exact Drawn0.refl _ | apply Drawn0.step)⟩
  case round =>
    clear H'
    obtain ⟨x3_1, x8_1, rfl, rfl, HA, HK1, ⟨m1, rfl⟩⟩ := hrel
    cases gk with
    | zero => exact absurd HA.out (by simp [packet_get.l0])
    | succ k1 =>
      have H := HA.out
      clear HA
      simp only [packet_get.l0] at H
      by_cases c2 : x8_1 < (l0.length : Int)
      · rw [if_pos c2] at H
        have c2b0 : decide (x8_1 < (l0.length : Int)) = true := decide_eq_true c2
        clear c2
        by_cases c3 : 0 ≤ x8_1
        · rw [if_pos c3] at H
          have c3b0 : decide (0 ≤ x8_1) = true := decide_eq_true c3
          clear c3
          by_cases c4 : x8_1 < (l0.length : Int)
          · rw [if_pos c4] at H
            have c4b0 : decide (x8_1 < (l0.length : Int)) = true := decide_eq_true c4
            clear c4
            have H' := Aside0.mk H
            clear H
            have p107 : 0 ≤ (x8_1 : Int) := of_decide_eq_true (by first | (with_reducible assumption) | assumption)
            have q107 : x8_1 < (l0.length : Int) := of_decide_eq_true (by first | (with_reducible assumption) | assumption)
            obtain ⟨ad107, e107, hx107_0⟩ := Kd.at_int HR0.out x8_1 p107 q107
            cases e107
            replace p107 := eq_true p107
            replace q107 := eq_true q107
            go_wp2
            go_roundg k1
            case measure => have := HK1.out; omega
            case rel => exact ⟨(Go.bits .or .i64 (wrap64 (x3_1 * 256)) (wrap64 (rd l0 x8_1))), (wrap64 (x8_1 + 1)), (by first | rfl | (simp; done) | (simp [*]; done)), (by first | rfl | (simp; done) | (simp [*]; done)), H', ⟨by have := HK1.out; omega⟩, by repeat (first | exact Drawn0.refl _ | apply Drawn0.step)⟩
          · rw [if_neg c4] at H
            exact absurd H (by simp)
        · rw [if_neg c3] at H
          exact absurd H (by simp)
      · rw [if_neg c2] at H
        have c2b0 : decide (x8_1 < (l0.length : Int)) = false := decide_eq_false c2
        clear c2
        obtain rfl := Option.some.inj H
        go_wp2
        go_ret
        exact ⟨by first | rfl | (simp; done) | (simp [*]; done), by repeat (first | exact Drawn0.refl _ | apply Drawn0.step)⟩

end Go.Proofs.Ytjajknghcbpblaa.Q
