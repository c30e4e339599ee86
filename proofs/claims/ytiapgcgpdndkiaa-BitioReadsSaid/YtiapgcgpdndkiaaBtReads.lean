/- BitioReads: the program's bit reader and the reference's return the same. -/
import Derived.Test.YtiapgcgpdndkiaaBtV
import Derived.Test.YtiapgcgpdndkiaaBtX
set_option linter.unusedVariables false
set_option linter.unusedSimpArgs false
namespace Go.Proofs.Ytiapgcgpdndkiaa.Sh
open Go.Proofs.Ytiapgcgpdndkiaa.FW Go.IntWalk
theorem reads_l {k : Nat} (hk : 100000 < k) {ops : List Op3} (c : Nat) {q0 : Option Addr} {H0 : Heap} {bs : List Int} (hS : Shows H0 q0 (ops.flatMap opc)) (hl : ops.length ≤ 200) {p p2 : Nat} {q q2 : Option Addr} (hp : H0.length ≤ p) (hp2 : H0.length ≤ p2) (hne : p ≠ p2) (hq : ∀ a, q = some a → a.block ≠ p2) (hq2 : ∀ a, q2 = some a → a.block ≠ p) : ∀ (m n i : Nat), m < n → ops.length = i + m → ∀ (H : Heap) (s : Nat × Nat), Rd H p q bs s → Rd H p2 q2 bs s → Old H0.length H0 H →
    ∃ H', (∀ (R : Type) (KE : Heap → Option R) (KR : Bool → Heap → Option R), L_BitioReads_l1 k KE KR n (some ⟨p, 0, none⟩) (some ⟨p2, 0, none⟩) q0 ops.length c ((ops.length : Nat) : Int) (i : Int) H = KE H') := by
  have hlow := shows_below hS
  intro m
  induction m with
  | zero =>
    intro n i hn hi H s r r2 hO
    obtain ⟨n, rfl⟩ : ∃ n', n = n' + 1 := ⟨n - 1, by omega⟩
    have ed : decide ((i : Int) < ((ops.length : Nat) : Int)) = false := decide_eq_false (by omega)
    refine ⟨H, fun R KE KR => ?_⟩
    unfold L_BitioReads_l1 L_BitioReads_l1_b
    exact go_f ed rfl
  | succ m ih =>
    intro n i hn hi H s r r2 hO
    obtain ⟨n, rfl⟩ : ∃ n', n = n' + 1 := ⟨n - 1, by omega⟩
    have ed : decide ((i : Int) < ((ops.length : Nat) : Int)) = true := decide_eq_true (by omega)
    obtain ⟨o, ho⟩ : ∃ o, ops[i]? = some o := ⟨_, List.getElem?_eq_getElem (by omega)⟩
    obtain ⟨b, f, e0, g0, g1, g2⟩ := op_at (hS.old hO hlow) ho
    have hN : H0.length ≤ H.length := by have := hO.1; omega
    obtain ⟨H2, hH2⟩ : ∃ H2, H2 = H ++ [some ⟨[.int .i64 o.1, .int .i64 o.2.1, .int .i64 o.2.2], false, 0⟩] := ⟨_, rfl⟩
    have o2 : Old H.length H H2 := hH2 ▸ Old.app _ _
    have O2 : Owns H2 H.length [.int .i64 o.1, .int .i64 o.2.1, .int .i64 o.2.2] 0 := by rw [hH2]; exact hblk_new H _
    have m2 : ∀ i, hcell H2 H.length i = [Value.int .i64 o.1, .int .i64 o.2.1, .int .i64 o.2.2][i]? := fun i => O2.sees.cell i
    obtain ⟨H4, e4, R4, b4⟩ := read_eq hk (r.keep o2) o
    have O4 := O2.but b4 (by have := r.lt; omega)
    have m4 : ∀ i, hcell H4 H.length i = [Value.int .i64 o.1, .int .i64 o.2.1, .int .i64 o.2.2][i]? := fun i => O4.sees.cell i
    obtain ⟨H5, e5, R5, b5⟩ := readRef_eq hk ((r2.keep o2).but b4 hne.symm hq2) o
    have w := w64 (n := (i : Int) + 1) (by omega) (by omega)
    have hN2 : H0.length ≤ H2.length := by have := o2.1; omega
    have O5 : Old H0.length H0 H5 := ((hO.trans (o2.mono hN)).trans (b4.old hp hN2)).trans (b5.old hp2 (by have := b4.1; omega))
    obtain ⟨H', e6⟩ := ih n (i + 1) (by omega) (by omega) H5 _ (R4.but b5 hne hq) R5 O5
    refine ⟨H', fun R KE KR => ?_⟩
    unfold L_BitioReads_l1 L_BitioReads_l1_b L_BitioReads_p2 L_BitioReads_p2_b
    repeat (first | (with_reducible refine (e0 _ _).trans ?_) | (with_reducible refine (e4 _ _).trans ?_) | (with_reducible refine (e5 _ _).trans ?_) | ((with_reducible refine go_ip (x := ?_) ?_ ?_); rotate_left 1; (first | ((with_reducible refine (m2 _).trans ?_); rfl) | ((with_reducible refine (m4 _).trans ?_); rfl) | exact g0 | exact g1 | exact g2 | rfl)) | ((with_reducible refine go_bp (x := ?_) ?_ ?_); rotate_left 1; (first | ((with_reducible refine (m2 _).trans ?_); rfl) | ((with_reducible refine (m4 _).trans ?_); rfl) | exact g0 | exact g1 | exact g2 | rfl)) | ((with_reducible refine go_lp (x := ?_) (l := ?_) (c := ?_) ?_ ?_); rotate_left 3; (first | ((with_reducible refine (m2 _).trans ?_); rfl) | ((with_reducible refine (m4 _).trans ?_); rfl) | exact g0 | exact g1 | exact g2 | rfl)) | ((with_reducible refine go_pp (x := ?_) ?_ ?_); rotate_left 1; (first | ((with_reducible refine (m2 _).trans ?_); rfl) | ((with_reducible refine (m4 _).trans ?_); rfl) | exact g0 | exact g1 | exact g2 | rfl)) | ((with_reducible refine go_i (x := ?_) ?_ ?_); rotate_left 1; (first | ((with_reducible refine (m2 _).trans ?_); rfl) | ((with_reducible refine (m4 _).trans ?_); rfl) | exact g0 | exact g1 | exact g2 | rfl)) | ((with_reducible refine go_b (x := ?_) ?_ ?_); rotate_left 1; (first | ((with_reducible refine (m2 _).trans ?_); rfl) | ((with_reducible refine (m4 _).trans ?_); rfl) | exact g0 | exact g1 | exact g2 | rfl)) | ((with_reducible refine go_l (x := ?_) (l := ?_) (c := ?_) ?_ ?_); rotate_left 3; (first | ((with_reducible refine (m2 _).trans ?_); rfl) | ((with_reducible refine (m4 _).trans ?_); rfl) | exact g0 | exact g1 | exact g2 | rfl)) | ((with_reducible refine go_p (x := ?_) ?_ ?_); rotate_left 1; (first | ((with_reducible refine (m2 _).trans ?_); rfl) | ((with_reducible refine (m4 _).trans ?_); rfl) | exact g0 | exact g1 | exact g2 | rfl)) | ((with_reducible refine go_halst hH2 ?_ ?_ ?_); rfl; rfl) | (with_reducible refine go_halN hH2 ?_) | (with_reducible refine go_t ed ?_) | (with_reducible refine go_f ed ?_) | ((with_reducible refine go_t ?_ ?_); (show _ = true; rfl)) | ((with_reducible refine go_f ?_ ?_); (show _ = false; rfl)) | (with_reducible refine go_ne ?_) | (with_reducible refine go_eq ?_) | (with_reducible refine go_fad ?_) | (with_reducible refine go_nil ?_))
    try dsimp only
    rw [w]
    exact e6 _ _ _
theorem reads_in (H : Heap) (us : List Value) (h : AllLies H [(.slc (.int .u8), false), (.slc dOp, false)] us) : L_BitioReads_c Bool 9223372036854777000 us H asB = some true := by
  obtain ⟨k, hk⟩ : ∃ k, k = 9223372036854777000 := ⟨_, rfl⟩
  rw [← hk]
  have hk1 : 1100000 < k := by omega
  clear hk
  obtain ⟨qb, cb, eb, vs, rfl, _, _, hsb, hSb, h⟩ := lies_slc h
  obtain ⟨q, c, es, vs, rfl, _, _, hsh, hS, h⟩ := lies_slc h
  obtain rfl := lies_nil h
  obtain ⟨ops, hl, hfl, hwf⟩ := ops_of es hsh
  obtain ⟨bs, hbl, hbf, hbw⟩ := bytes_of eb hsb
  rw [hfl] at hS
  rw [hbf] at hSb
  rw [← hl, ← hbl]
  show L_BitioReads k qb bs.length cb q ops.length c H (fun t H => asB (.bool t) H) = some true
  by_cases c1 : bs.length > 3000
  · have d1 : decide (((bs.length : Nat) : Int) > 3000) = true := decide_eq_true (by omega)
    unfold L_BitioReads L_BitioReads_b L_BitioReads_p0 L_BitioReads_p0_b
    repeat (first | ((with_reducible refine go_ip (x := ?_) ?_ ?_); rotate_left 1; (first  | rfl)) | ((with_reducible refine go_bp (x := ?_) ?_ ?_); rotate_left 1; (first  | rfl)) | ((with_reducible refine go_lp (x := ?_) (l := ?_) (c := ?_) ?_ ?_); rotate_left 3; (first  | rfl)) | ((with_reducible refine go_pp (x := ?_) ?_ ?_); rotate_left 1; (first  | rfl)) | ((with_reducible refine go_i (x := ?_) ?_ ?_); rotate_left 1; (first  | rfl)) | ((with_reducible refine go_b (x := ?_) ?_ ?_); rotate_left 1; (first  | rfl)) | ((with_reducible refine go_l (x := ?_) (l := ?_) (c := ?_) ?_ ?_); rotate_left 3; (first  | rfl)) | ((with_reducible refine go_p (x := ?_) ?_ ?_); rotate_left 1; (first  | rfl)) | ((with_reducible refine go_halst rfl ?_ ?_ ?_); rfl; rfl) | (with_reducible refine go_halN rfl ?_) | (with_reducible refine go_t d1 ?_) | (with_reducible refine go_f d1 ?_) | ((with_reducible refine go_t ?_ ?_); (show _ = true; rfl)) | ((with_reducible refine go_f ?_ ?_); (show _ = false; rfl)) | (with_reducible refine go_ne ?_) | (with_reducible refine go_eq ?_) | (with_reducible refine go_fad ?_) | (with_reducible refine go_nil ?_))
    rfl
  have d1 : decide (((bs.length : Nat) : Int) > 3000) = false := decide_eq_false (by omega)
  by_cases c2 : ops.length > 200
  · have d2 : decide (((ops.length : Nat) : Int) > 200) = true := decide_eq_true (by omega)
    unfold L_BitioReads L_BitioReads_b L_BitioReads_p0 L_BitioReads_p0_b
    repeat (first | ((with_reducible refine go_ip (x := ?_) ?_ ?_); rotate_left 1; (first  | rfl)) | ((with_reducible refine go_bp (x := ?_) ?_ ?_); rotate_left 1; (first  | rfl)) | ((with_reducible refine go_lp (x := ?_) (l := ?_) (c := ?_) ?_ ?_); rotate_left 3; (first  | rfl)) | ((with_reducible refine go_pp (x := ?_) ?_ ?_); rotate_left 1; (first  | rfl)) | ((with_reducible refine go_i (x := ?_) ?_ ?_); rotate_left 1; (first  | rfl)) | ((with_reducible refine go_b (x := ?_) ?_ ?_); rotate_left 1; (first  | rfl)) | ((with_reducible refine go_l (x := ?_) (l := ?_) (c := ?_) ?_ ?_); rotate_left 3; (first  | rfl)) | ((with_reducible refine go_p (x := ?_) ?_ ?_); rotate_left 1; (first  | rfl)) | ((with_reducible refine go_halst rfl ?_ ?_ ?_); rfl; rfl) | (with_reducible refine go_halN rfl ?_) | (with_reducible refine go_t d1 ?_) | (with_reducible refine go_f d1 ?_) | (with_reducible refine go_t d2 ?_) | (with_reducible refine go_f d2 ?_) | ((with_reducible refine go_t ?_ ?_); (show _ = true; rfl)) | ((with_reducible refine go_f ?_ ?_); (show _ = false; rfl)) | (with_reducible refine go_ne ?_) | (with_reducible refine go_eq ?_) | (with_reducible refine go_fad ?_) | (with_reducible refine go_nil ?_))
    rfl
  have d2 : decide (((ops.length : Nat) : Int) > 200) = false := decide_eq_false (by omega)
  have hB : Byts bs := ⟨hbw, by omega⟩
  obtain ⟨p, q1, H1, e1, R1, o1, hp, hq⟩ := nReader_eq cb hSb hB
  obtain ⟨p2, q2, H2, e2, R2, o2, hp2, hq2⟩ := uReader_eq cb (hSb.keep o1) hB
  have hlt1 := R1.lt
  have hlen := o1.1
  obtain ⟨H3, e3⟩ := reads_l (k := k) (by omega) c hS (by omega) hp (Nat.le_trans hlen hp2) (by omega) (fun a ha => by have := hq a ha; omega) (fun a ha => by have := hq2 a ha; omega) ops.length k 0 (by omega) (by omega) H2 (0, 0) (R1.keep o2) R2 (o1.trans (o2.mono hlen))
  simp only [Int.natCast_zero] at e3
  unfold L_BitioReads L_BitioReads_b L_BitioReads_p0 L_BitioReads_p0_b
  repeat (first | (with_reducible refine (e1 _ _).trans ?_) | (with_reducible refine (e2 _ _).trans ?_) | ((with_reducible refine go_ip (x := ?_) ?_ ?_); rotate_left 1; (first  | rfl)) | ((with_reducible refine go_bp (x := ?_) ?_ ?_); rotate_left 1; (first  | rfl)) | ((with_reducible refine go_lp (x := ?_) (l := ?_) (c := ?_) ?_ ?_); rotate_left 3; (first  | rfl)) | ((with_reducible refine go_pp (x := ?_) ?_ ?_); rotate_left 1; (first  | rfl)) | ((with_reducible refine go_i (x := ?_) ?_ ?_); rotate_left 1; (first  | rfl)) | ((with_reducible refine go_b (x := ?_) ?_ ?_); rotate_left 1; (first  | rfl)) | ((with_reducible refine go_l (x := ?_) (l := ?_) (c := ?_) ?_ ?_); rotate_left 3; (first  | rfl)) | ((with_reducible refine go_p (x := ?_) ?_ ?_); rotate_left 1; (first  | rfl)) | ((with_reducible refine go_halst rfl ?_ ?_ ?_); rfl; rfl) | (with_reducible refine go_halN rfl ?_) | (with_reducible refine go_t d1 ?_) | (with_reducible refine go_f d1 ?_) | (with_reducible refine go_t d2 ?_) | (with_reducible refine go_f d2 ?_) | ((with_reducible refine go_t ?_ ?_); (show _ = true; rfl)) | ((with_reducible refine go_f ?_ ?_); (show _ = false; rfl)) | (with_reducible refine go_ne ?_) | (with_reducible refine go_eq ?_) | (with_reducible refine go_fad ?_) | (with_reducible refine go_nil ?_))
  refine (e3 _ _ _).trans ?_
  rfl
end Go.Proofs.Ytiapgcgpdndkiaa.Sh
