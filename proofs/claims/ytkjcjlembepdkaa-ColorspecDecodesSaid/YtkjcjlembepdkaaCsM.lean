/- Colorspec: the program's Decode. -/
import Derived.Test.YtkjcjlembepdkaaSh10
import Derived.Test.YtkjcjlembepdkaaCsK
import Derived.Test.YtkjcjlembepdkaaCsL
set_option linter.unusedVariables false
set_option linter.unusedSimpArgs false
namespace Go.Proofs.Ytkjcjlembepdkaa.Sh
open Go.Proofs.Ytkjcjlembepdkaa.FW
def chunks (n : Nat) : Nat → List Int → List (List Int)
  | 0, _ => []
  | m + 1, l => l.take n :: chunks n m (l.drop n)
def okC (n : Nat) (xs : List Int) : Bool := decide (xs.length = n) && inB 0 255 xs
def vC (s : Int) (rs : List Int) (cs : List (List Int)) : Int := if kn s then (if rolesB s rs && depB cs.length && cs.all (okC rs.length) then 0 else 21) else 3
theorem valid_con (s : Int) (rs : List Int) (rows : List Rw) : validI s rs rows = vC s rs (cons rows) := by
  unfold validI vC
  have : okP rs.length rows = (cons rows).all (okC rs.length) := by
    unfold okP cons
    rw [List.all_map]; rfl
  rw [this, cons_len]
def dec2 (s : Int) (rs : List Int) (cs : List (List Int)) : Int × List Int × List (List Int) × Int := if vC s rs cs = 0 then (s, rs, cs, 0) else (0, [], [], vC s rs cs)
def dn (bs : List Int) : Nat := (bs.getD 1 0).toNat
def dm (bs : List Int) : Nat := (bs.getD (dn bs + 2) 0 * 256 + bs.getD (dn bs + 3) 0).toNat
def decR (bs : List Int) : Int × List Int × List (List Int) × Int :=
  if bs.length < 2 then (0, [], [], 7) else if bs.length < dn bs + 4 then (0, [], [], 7) else if bs.length < dn bs + 4 + dn bs * dm bs then (0, [], [], 7) else if bs.length > dn bs + 4 + dn bs * dm bs then (0, [], [], 9) else
  dec2 (bs.getD 0 0) ((bs.drop 2).take (dn bs)) (chunks (dn bs) (dm bs) (bs.drop (dn bs + 4)))
/-- A struct of three cells, stored and read. -/
theorem put3 {H : Heap} {b : Nat} {X : List Value} (O : Owns H b X 0) (hX : X.length = 3) (s : Int) (q : Option Addr) (l c : Nat) (q2 : Option Addr) (l2 c2 : Nat) :
    ∃ H', (∀ (R : Type) (K : Int → Option Addr → Nat → Nat → Option Addr → Nat → Nat → Heap → Option R), (hst H (some ⟨b, 0, none⟩) [.int .i64 s, .slice q l c, .slice q2 l2 c2] fun H6 => ldI .i64 H6 (pad (some ⟨b, 0, none⟩) 0) fun n7 => ldL H6 (pad (some ⟨b, 0, none⟩) 1) fun q8 l9 c10 => ldL H6 (pad (some ⟨b, 0, none⟩) 2) fun q11 l12 c13 => K n7 q8 l9 c10 q11 l12 c13 H6) = K s q l c q2 l2 c2 H') ∧ But b H H' ∧ H'.length = H.length := by
  obtain ⟨H', e, O', bt, n⟩ := O.st (vs := [.int .i64 s, .slice q l c, .slice q2 l2 c2]) (by rw [hX]; rfl) rfl
  have m0 : hcell H' b 0 = some (.int .i64 s) := O'.sees.cell 0
  have m1 : hcell H' b 1 = some (.slice q l c) := O'.sees.cell 1
  have m2 : hcell H' b 2 = some (.slice q2 l2 c2) := O'.sees.cell 2
  exact ⟨H', fun R K => (e _ _).trans (go_ip m0 (go_lp m1 (go_lp m2 rfl))), bt, n⟩
/-- A color specification that grows. -/
structure DecS (N b : Nat) (H : Heap) (s : Int) (rs : List Int) (rows : List Rw) (qr : Option Addr) (cr : Nat) (qp : Option Addr) (cp : Nat) : Prop where
  o : Owns H b [.int .i64 s, .slice qr rs.length cr, .slice qp rows.length cp] 0
  r : Shows H qr (ints rs)
  ra : ∀ a, qr = some a → a.block ≠ b ∧ a.block < H.length ∧ (∀ a', qp = some a' → a'.block ≠ a.block) ∧ N ≤ a.block
  p : Bld N 1 H qp rows.length cp (rows.map rc)
  pa : ∀ a, qp = some a → a.block ≠ b
  w : ∀ r ∈ rows, Shows H r.1 (ints r.2.2)
  wa : ∀ r ∈ rows, ∀ a, r.1 = some a → a.block ≠ b ∧ a.block < H.length ∧ (∀ a', qp = some a' → a'.block ≠ a.block) ∧ N ≤ a.block
theorem DecS.keep {N b : Nat} {H H' : Heap} {s : Int} {rs : List Int} {rows : List Rw} {qr : Option Addr} {cr : Nat} {qp : Option Addr} {cp : Nat} (D : DecS N b H s rs rows qr cr qp cp) (o : Old H.length H H') : DecS N b H' s rs rows qr cr qp cp := by
  have := o.1
  exact ⟨D.o.old o D.o.lt, D.r.keep o, fun a ha => ⟨(D.ra a ha).1, by have := (D.ra a ha).2.1; omega, (D.ra a ha).2.2⟩, D.p.old o (Nat.le_refl _), D.pa, fun r hr => (D.w r hr).keep o, fun r hr a ha => ⟨(D.wa r hr a ha).1, by have := (D.wa r hr a ha).2.1; omega, (D.wa r hr a ha).2.2⟩⟩
theorem Shows.same' {H H' : Heap} {q : Option Addr} {cs : List Value} (h : Shows H q cs) (e : ∀ a, q = some a → hblk H' a.block = hblk H a.block) : Shows H' q cs := by
  rcases h with h | ⟨b, o, full, rfl, ⟨B, g1, g2⟩, h2, h3⟩
  · exact .inl h
  · exact .inr ⟨b, o, full, rfl, ⟨B, by rw [e _ rfl]; exact g1, g2⟩, h2, h3⟩
/-- One row more. -/
theorem DecS.more {N b : Nat} {H : Heap} {s : Int} {rs : List Int} {rows : List Rw} {qr : Option Addr} {cr : Nat} {qp : Option Addr} {cp : Nat} (D : DecS N b H s rs rows qr cr qp cp) (hN : N ≤ H.length) (hb : N ≤ b) (hl : rows.length ≤ 100000) (r : Rw) (hr : Shows H r.1 (ints r.2.2)) (hra : ∀ a, r.1 = some a → a.block ≠ b ∧ a.block < H.length ∧ (∀ a', qp = some a' → a'.block ≠ a.block) ∧ N ≤ a.block) :
    ∃ H1 H2 H3 qn, H1 = H ++ [some (⟨[rc r], false, 0⟩ : Blk)] ∧ (∀ (R : Type) (K : Option Addr → Nat → Nat → Heap → Option R), happS 1 24 H1 qp rows.length cp (some ⟨H.length, 0, none⟩) 1 K = K qn (rows.length + 1) unk H2) ∧ (∀ (R : Type) (K : Heap → Option R), hst1 H2 (some ⟨b, 2, none⟩) (.slice qn (rows.length + 1) unk) K = K H3) ∧ DecS N b H3 s rs (rows ++ [r]) qr cr qn unk ∧ Old N H H3 := by
  obtain ⟨H1, hH1⟩ : ∃ H1, H1 = H ++ [some (⟨[rc r], false, 0⟩ : Blk)] := ⟨_, rfl⟩
  have o1 : Old H.length H H1 := hH1 ▸ Old.app _ _
  have O1 : Owns H1 H.length [rc r] 0 := by rw [hH1]; exact hblk_new H _
  have l1 : H1.length = H.length + 1 := by rw [hH1]; simp
  have D1 := D.keep o1
  have hbl := D.o.lt
  obtain ⟨H2, e2, O2, f2, l2, x2⟩ := Bld.app2 D1.p (bytes := 24) (n := 1) O1.sees.shows rfl (by omega) (by omega)
  have hpl : ∀ a, qp = some a → a.block < H.length := fun a ha => D.p.below a ha
  have Ob2 : Owns H2 b [.int .i64 s, .slice qr rs.length cr, .slice qp rows.length cp] 0 := by
    show hblk H2 b = _
    rw [f2 b (by omega) fun a ha => D.pa a ha]; exact D1.o
  obtain ⟨H3, e3, O3, b3, n3⟩ := Ob2.st1 (o := 2) (by simp) (.slice (some ⟨H1.length, 0, none⟩) (rows.length + 1) unk)
  have key : ∀ i, i < H.length → (∀ a, qp = some a → a.block ≠ i) → i ≠ b → hblk H3 i = hblk H i := fun i hi h1 h2 => by
    rw [b3.2 i (by omega) h2, f2 i (by omega) h1, o1.2 i hi]
  have hr1 : Shows H3 r.1 (ints r.2.2) := Shows.same' hr fun a ha => by have := hra a ha; exact key _ this.2.1 this.2.2.1 this.1
  refine ⟨H1, H2, H3, _, hH1, e2, e3, ⟨?_, Shows.same' D.r fun a ha => by have := D.ra a ha; exact key _ this.2.1 this.2.2.1 this.1, fun a ha => ?_, ?_, fun a ha => ?_, fun r' hr' => ?_, fun r' hr' a ha => ?_⟩, ⟨by omega, fun i hi => key i (by omega) (fun a ha => by
      rcases D.p with ⟨h, _⟩ | ⟨b', h, _, h3, _⟩
      · rw [h] at ha; cases ha
      · rw [h] at ha; cases ha; exact fun (h : b' = i) => by omega) (by omega)⟩⟩
  · have : [Value.int .i64 s, .slice qr rs.length cr, .slice qp rows.length cp].set 2 (.slice (some ⟨H1.length, 0, none⟩) (rows.length + 1) unk) = [.int .i64 s, .slice qr rs.length cr, .slice (some ⟨H1.length, 0, none⟩) (rows ++ [r]).length unk] := by simp
    rw [← this]; exact O3
  · have := D.ra a ha
    exact ⟨this.1, by omega, fun a' ha' => by cases ha'; simp only; omega, this.2.2.2⟩
  · refine .inr ⟨H1.length, rfl, rfl, by omega, ?_, by simp⟩
    have := O2.but b3 (by omega)
    simpa using this
  · cases ha; simp only; omega
  · rcases List.mem_append.1 hr' with h | h
    · exact Shows.same' (D.w r' h) fun a ha => by have := D.wa r' h a ha; exact key _ this.2.1 this.2.2.1 this.1
    · rw [List.mem_singleton] at h; subst h; exact hr1
  · rcases List.mem_append.1 hr' with h | h
    · have := D.wa r' h a ha
      exact ⟨this.1, by omega, fun a' ha' => by cases ha'; simp only; omega, this.2.2.2⟩
    · rw [List.mem_singleton] at h; subst h
      have := hra a ha
      exact ⟨this.1, by omega, fun a' ha' => by cases ha'; simp only; omega, this.2.2.2⟩
theorem cons_app (a b : List Rw) : cons (a ++ b) = cons a ++ cons b := by simp [cons]
theorem DecS.pal {N b : Nat} {H : Heap} {s : Int} {rs : List Int} {rows : List Rw} {qr : Option Addr} {cr : Nat} {qp : Option Addr} {cp : Nat} (D : DecS N b H s rs rows qr cr qp cp) : PalS H qp rows := ⟨D.p.shows.1, D.w⟩
theorem drow_l (k : Nat) (hk : 100000 < k) {N b : Nat} {s : Int} {rs : List Int} {qr : Option Addr} {cr : Nat} {q : Option Addr} {bs : List Int} {c : Nat} (p4 : Option Addr) (hb : N ≤ b) (hc : c = unk ∨ bs.length ≤ c ∧ c < unk) (hl : bs.length ≤ 100000) (hbs : ∀ x ∈ bs, 0 ≤ x ∧ x ≤ 255) (hq : bs = [] ∨ Below N q) {n : Nat} (hn1 : 1 ≤ n) : ∀ (m f a0 : Nat), m < f → bs.length = a0 + n * m → 4 ≤ a0 → ∀ (H : Heap) (rows : List Rw) (qp : Option Addr) (cp : Nat), DecS N b H s rs rows qr cr qp cp → N ≤ H.length → Shows H q (byt bs) → rows.length + m ≤ 100000 →
    ∃ H' rows' qp' cp', (∀ (R : Type) (KE : Option Addr → Option Addr → Heap → Option R), colorspec_Decode_l1 k KE f q bs.length c p4 (n : Int) (some ⟨b, 0, none⟩) (a0 : Int) H = KE p4 (some ⟨b, 0, none⟩) H') ∧ DecS N b H' s rs rows' qr cr qp' cp' ∧ cons rows' = cons rows ++ chunks n m (bs.drop a0) ∧ Old N H H' := by
  intro m
  induction m with
  | zero =>
    intro f a0 hf ha h4 H rows qp cp D hN hS hrl
    obtain ⟨f, rfl⟩ : ∃ n', f = n' + 1 := ⟨f - 1, by omega⟩
    refine ⟨H, rows, qp, cp, fun R KE => ?_, D, by simp [chunks], .refl _ _⟩
    unfold colorspec_Decode_l1 colorspec_Decode_l1_b
    exact go_f (decide_eq_false (by omega)) rfl
  | succ m ih =>
    intro f a0 hf ha h4 H rows qp cp D hN hS hrl
    obtain ⟨f, rfl⟩ : ∃ n', f = n' + 1 := ⟨f - 1, by omega⟩
    have hnm : n * (m + 1) = n * m + n := Nat.mul_succ n m
    obtain ⟨q5, c5, e5, S5⟩ := part_eq hS hc (by unfold unk; omega) (lo := a0) (hi := a0 + n) (by omega) (by omega) (by omega) (by omega)
    obtain ⟨xs, hxs⟩ : ∃ xs, xs = (bs.drop a0).take (a0 + n - a0) := ⟨_, rfl⟩
    rw [← hxs] at e5 S5
    have hxl : xs.length ≤ 100000 := by rw [hxs]; simp; omega
    have hxb : ∀ x ∈ xs, 0 ≤ x ∧ x ≤ 255 := fun x hx => hbs x (List.mem_of_mem_drop (List.mem_of_mem_take (hxs ▸ hx)))
    obtain ⟨H6, G, q6, c6, e6, hG, B6, o6⟩ := numbers_eq hk c5 S5 hxl hxb
    have D6 := D.keep o6
    have hG1 := o6.1
    obtain ⟨H7, H8, H9, qn, hH7, e8, e9, D9, o9⟩ := D6.more (by omega) hb (by omega) (q6, c6, xs) B6.shows.1 (fun a ha => by
      simp only at ha
      rcases B6 with ⟨h, _⟩ | ⟨b6, h, _, h6, h7, _⟩
      · rw [h] at ha; cases ha
      · rw [h] at ha; cases ha
        simp only
        have := D.o.lt
        exact ⟨by omega, h7.lt, fun a' ha' => by have := D.p.below a' ha'; omega, by omega⟩)
    have o09 : Old N H H9 := (o6.mono hN).trans o9
    obtain ⟨Ha, rows', qp', cp', ea, Da, ca, oa⟩ := ih f (a0 + n) (by omega) (by omega) (by omega) H9 _ qn unk D9 (by have := o09.1; omega) (hS.old o09 (by
      rcases hq with h | h
      · left; rw [h]; rfl
      · exact .inr h)) (by rw [List.length_append, List.length_singleton]; omega)
    refine ⟨Ha, rows', qp', cp', fun R KE => ?_, Da, ?_, o09.trans oa⟩
    · unfold colorspec_Decode_l1 colorspec_Decode_l1_b
      have m2 : hcell H b 2 = some (.slice qp rows.length cp) := D.o.sees.cell 2
      have hw : IntKind.wrap .i64 ((a0 : Int) + (n : Int)) = ((a0 + n : Nat) : Int) := by rw [w64 (by omega) (by omega)]; omega
      refine go_t (decide_eq_true (by omega)) (go_fad (go_l m2 ?_))
      rw [hw]
      refine (e5 _ _).trans ((e6 _ _).trans ?_)
      rw [← hG]
      refine go_halN hH7 ((e8 _ _).trans (go_fad ((e9 _ _).trans ?_)))
      exact ea R KE
    · rw [ca, cons_app, List.append_assoc]
      congr 1
      show [xs] ++ _ = (bs.drop a0).take n :: chunks n m ((bs.drop a0).drop n)
      rw [hxs, List.drop_drop, show a0 + n - a0 = n from by omega]
      rfl
end Go.Proofs.Ytkjcjlembepdkaa.Sh
