/- Tagtree: Decode. -/
import Derived.Test.YtblkejnciinaeaaTtFd
import Derived.Test.YtblkejnciinaeaaTtG
import Derived.Test.YtblkejnciinaeaaBtT
set_option linter.unusedVariables false
set_option linter.unusedSimpArgs false
namespace Go.Proofs.Ytblkejnciinaeaa.Sh
open Go.Proofs.Ytblkejnciinaeaa.FW Go.IntWalk
def rcode (bs : List Int) : Cod (Nat × Nat) := fun s _ => rget bs s
theorem Rd.same {H H' : Heap} {p : Nat} {q : Option Addr} {bs : List Int} {s : Nat × Nat} (h : Rd H p q bs s) (h1 : hblk H' p = hblk H p) (h2 : ∀ a, q = some a → hblk H' a.block = hblk H a.block) : Rd H' p q bs s := by
  obtain ⟨c, hc⟩ := h.c
  exact ⟨⟨c, hc.same h1⟩, h.sh.same h2, h.ap, h.ok, h.by_⟩
def rDev (bs : List Int) (p : Nat) (qw : Option Addr) : Dev (Nat × Nat) := ⟨p, fun s q H => q = qw ∧ Rd H p qw bs s ∧ ∀ a, qw = some a → a.block < H.length, fun _ _ => True⟩
theorem rOk (k : Nat) (bs : List Int) (p : Nat) (qw : Option Addr) : DevOk (rDev bs p qw) (rcode bs) (fun R => @tagtree_Tree_Decode_1 R k) where
  lt h := h.2.1.lt
  qlt h a ha := h.2.2 a (h.1 ▸ ha)
  same h hl h1 h2 := ⟨h.1, h.2.1.same h1 fun a ha => h2 a (h.1.trans ha), fun a ha => Nat.lt_of_lt_of_le (h.2.2 a ha) hl⟩
  mono _ _ := trivial
  run := by
    intro s q H m pb hi hr hp n
    obtain ⟨rfl, W, hN⟩ := hi
    simp only [rDev] at hp
    obtain ⟨Hn, hHn⟩ : ∃ Hn, Hn = H ++ [some (⟨[.int .i64 n.1, .int .i64 n.2.1, .bool n.2.2], false, 0⟩ : Blk)] := ⟨_, rfl⟩
    have on : Old H.length H Hn := hHn ▸ Old.app _ _
    have W1 : Rd Hn p q bs s := W.same (on.2 _ W.lt) fun a ha => on.2 _ (hN a ha)
    have cp : hcell Hn pb 0 = some (.pointer (some ⟨p, 0, none⟩)) := (hp.old on hp.lt).sees.cell 0
    obtain ⟨H', e1, W2, S⟩ := pGet_eq k W1
    refine ⟨q, H', fun R K => ?_, ⟨rfl, W2, fun a ha => by have := hN a ha; have := on.1; have := S.1; omega⟩, trivial, (Stp.of_old on).trans (.of_but S)⟩
    unfold tagtree_Tree_Decode_1 tagtree_Tree_Decode_1_b
    exact go_halN hHn (go_p cp (e1 _ _))
/-- A call of Decode: the answer, the error, the sign, the nodes, the reader. -/
def decW (bs : List Int) (a L : Nat) (g : Nat → Nat → Nd) (x y : Nat) (t : Int) (s : Nat × Nat) : Int × (Nat × Nat) × (Nat → Nd) := wkr (rcode bs) t g a x y L s
def decR (bs : List Int) (a b L : Nat) (e d : Bool) (g : Nat → Nat → Nd) (x y t : Int) (s : Nat × Nat) : (Bool × Int) × Bool × (Nat → Nat → Nd) × (Nat × Nat) :=
  if e = true then ((false, 6), d, g, s) else if ins a b x y = true ∧ 0 ≤ t ∧ t ≤ 65536 then
    (if (decW bs a L g x.toNat y.toNat t s).1 = 0 then ((((decW bs a L g x.toNat y.toNat t s).2.2 0).2.2 && decide (((decW bs a L g x.toNat y.toNat t s).2.2 0).2.1 < t), 0), true, gw a x.toNat y.toNat g (decW bs a L g x.toNat y.toNat t s).2.2 L, (decW bs a L g x.toNat y.toNat t s).2.1)
     else ((false, (decW bs a L g x.toNat y.toNat t s).1), d, g, (decW bs a L g x.toNat y.toNat t s).2.1))
  else ((false, 2), d, g, s)
theorem decR_ok {bs : List Int} {a b L : Nat} {e d : Bool} {g : Nat → Nat → Nd} (h : Gok g) (x y t : Int) (s : Nat × Nat) : Gok (decR bs a b L e d g x y t s).2.2.1 := by
  unfold decR
  split
  · exact h
  · split
    · split
      · exact gw_ok h (wkr_ok _ _ h _ _ _ _ _)
      · exact h
    · exact h
theorem Decode_eq {k : Nat} (hk : 70000 < k) {N : Nat} {H : Heap} {p : Nat} {q : Option Addr} {c : Nat} {l : List Lv} {e d : Bool} {g : Nat → Nat → Nd} (T : Tn N H p q c l e d g) {a b : Nat} (G : Geo a b l) (hg : Gok g) {pw : Nat} {qw : Option Addr} {bs : List Int} {s : Nat × Nat} (W : Rd H pw qw bs s) (hql : ∀ a, qw = some a → a.block < H.length) (hD : Off p q l pw) (hq : ∀ a, qw = some a → Off p q l a.block) (x y t : Int) :
    ∃ H', (∀ (R : Type) (K : Bool → Int → Heap → Option R), tagtree_Tree_Decode k (some ⟨p, 0, none⟩) (some ⟨pw, 0, none⟩) x y t H K = K (decR bs a b l.length e d g x y t s).1.1 (decR bs a b l.length e d g x y t s).1.2 H') ∧ Tn N H' p q c l e (decR bs a b l.length e d g x y t s).2.1 (decR bs a b l.length e d g x y t s).2.2.1 ∧ Rd H' pw qw bs (decR bs a b l.length e d g x y t s).2.2.2 ∧ Ch p l pw qw H qw H' := by
  obtain ⟨Hb, hHb⟩ : ∃ Hb, Hb = H ++ [some (⟨[.pointer (some ⟨pw, 0, none⟩)], false, 0⟩ : Blk)] := ⟨_, rfl⟩
  have ob : Old H.length H Hb := hHb ▸ Old.app _ _
  have hpb : Owns Hb H.length [.pointer (some ⟨pw, 0, none⟩)] 0 := by rw [hHb]; exact hblk_new H _
  have mp : hcell Hb H.length 0 = some (.pointer (some ⟨pw, 0, none⟩)) := hpb.sees.cell 0
  have Tb := T.old ob (Nat.le_refl _)
  have Wb : Rd Hb pw qw bs s := W.same (ob.2 _ W.lt) fun a ha => ob.2 _ (hql a ha)
  have ok := tok_eq Tb G.pos
  have m1 : hcell Hb p 1 = some (.bool e) := Tb.o.sees.cell 1
  have hWl := W.lt
  have hlb : Hb.length = H.length + 1 := by rw [hHb]; simp
  cases he : e
  case true =>
    have er : decR bs a b l.length true d g x y t s = ((false, 6), d, g, s) := by unfold decR; rw [if_pos rfl]
    rw [er]
    rw [he] at Tb m1
    refine ⟨Hb, fun R K => ?_, Tb, Wb, .of_old ob⟩
    unfold tagtree_Tree_Decode tagtree_Tree_Decode_b tagtree_Tree_Decode_p0 tagtree_Tree_Decode_p0_b
    exact go_halN hHb ((ok _ _).trans (go_f rfl (go_nil (go_fad (go_b m1 (go_t rfl rfl))))))
  case false =>
    rw [he] at Tb m1
    obtain ⟨Hc, ec, Wc, Sc⟩ := pBitsR_eq (k := k) (by omega) Wb 0
    have ew : rB bs 0 s = ((0, 0), s) := by unfold rB; rw [if_pos ⟨by omega, by omega⟩]; rfl
    rw [ew] at ec Wc
    have Cc : Ch p l pw qw H qw Hc := (Ch.of_old ob).trans (.of_stp (.of_but Sc))
    have Tc1 : Tn N Hc p q c l false d g := Tb.fr (p2 := pw) (b := pw) (q2 := none) (q2' := none) (.of_but Sc) hD (fun a ha => by cases ha) hD
    have hpc : Owns Hc H.length [.pointer (some ⟨pw, 0, none⟩)] 0 := hpb.but Sc (by omega)
    have hqc : ∀ a, qw = some a → a.block < Hc.length := fun a ha => by have := hql a ha; have := Sc.1; omega
    obtain ⟨Hd, ed, od⟩ := has_eq Tc1 G x y
    have Td := Tc1.old od (Nat.le_refl _)
    have Wd : Rd Hd pw qw bs s := Wc.same (od.2 _ Wc.lt) fun a ha => od.2 _ (hqc a ha)
    have Cd : Ch p l pw qw H qw Hd := Cc.trans (.of_old od)
    have hpd : Owns Hd H.length [.pointer (some ⟨pw, 0, none⟩)] 0 := hpc.old od hpc.lt
    have start : ∀ (R : Type) (K : Bool → Int → Heap → Option R) (rr : Option R), (bif !(ins a b x y) then K false 2 Hd else bif decide (t < 0) then K false 2 Hd else bif decide (t > 65536) then K false 2 Hd else tagtree_Tree_walk_v53 k (some ⟨p, 0, none⟩) x y t (some ⟨H.length, 0, none⟩) Hd fun n541 H542 => bif (n541 != 0) then (K false n541 H542) else (hnil (some ⟨p, 0, none⟩) fun p543 => hfad 2 p543 fun p544 => hst1 H542 p544 (.bool true) fun H545 => tagtree_Tree_at (some ⟨p, 0, none⟩) 0 x y H545 fun p546 => hnil p546 fun p547 => hfad 2 p547 fun p548 => ldB H545 p548 fun t549 => bif t549 then (hnil p546 fun p550 => hfad 1 p550 fun p551 => ldI .i64 H545 p551 fun n552 => K (decide (n552 < t)) 0 H545) else (K false 0 H545))) = rr → tagtree_Tree_Decode k (some ⟨p, 0, none⟩) (some ⟨pw, 0, none⟩) x y t H K = rr := by
      intro R K rr h
      unfold tagtree_Tree_Decode tagtree_Tree_Decode_b tagtree_Tree_Decode_p0 tagtree_Tree_Decode_p0_b tagtree_Tree_Decode_p1 tagtree_Tree_Decode_p1_b
      refine go_halN hHb ((ok _ _).trans (go_f rfl (go_nil (go_fad (go_b m1 (go_f rfl (go_p mp ((ec _ _).trans ?_))))))))
      exact go_f rfl ((ed _ _).trans h)
    by_cases hgd : ins a b x y = true ∧ 0 ≤ t ∧ t ≤ 65536
    · have hi := hgd.1
      obtain ⟨u, w, rfl, rfl, hu, hw⟩ := ins_t hi
      obtain ⟨q2, Hg, eg, ig, _, Tg, lg, sg, ng⟩ := walk_eq_d (k := k) hk (rOk k bs pw qw) (t := t) (by omega) G hu hw hg (pb := H.length) (show H.length ≠ pw by omega) hD (r := 0) (s := s) (q2 := qw) (H := Hd) ⟨rfl, Wd, fun a ha => by have := hqc a ha; have := od.1; omega⟩ trivial Td hpd (fun a ha => ⟨by have := hql a ha; omega, hq a ha⟩)
      obtain ⟨rfl, Wg, hqg⟩ := ig
      have Cg : Ch p l pw q2 H q2 Hg := Cd.trans ⟨lg, fun i hi h1 h2 _ h4 => sg i hi h1 h2 h4, .inl rfl⟩
      obtain ⟨W0, hW0⟩ : ∃ W0, W0 = wkr (rcode bs) t g a u w l.length s := ⟨_, rfl⟩
      rw [← hW0] at eg Wg Tg
      have eW : decW bs a l.length g u w t s = W0 := hW0.symm
      have sr : ∀ (R : Type) (K : Bool → Int → Heap → Option R) (rr : Option R), (bif (W0.1 != 0) then (K false W0.1 Hg) else (hnil (some ⟨p, 0, none⟩) fun p543 => hfad 2 p543 fun p544 => hst1 Hg p544 (.bool true) fun H545 => tagtree_Tree_at (some ⟨p, 0, none⟩) 0 (u : Int) (w : Int) H545 fun p546 => hnil p546 fun p547 => hfad 2 p547 fun p548 => ldB H545 p548 fun t549 => bif t549 then (hnil p546 fun p550 => hfad 1 p550 fun p551 => ldI .i64 H545 p551 fun n552 => K (decide (n552 < t)) 0 H545) else (K false 0 H545))) = rr → tagtree_Tree_Decode k (some ⟨p, 0, none⟩) (some ⟨pw, 0, none⟩) (u : Int) (w : Int) t H K = rr := by
        intro R K rr h
        refine start R K _ ?_
        rw [hi]
        refine go_f rfl (go_f (decide_eq_false (by omega)) (go_f (decide_eq_false (by omega)) ((eg _ _).trans h)))
      by_cases herr : W0.1 = 0
      · have er : decR bs a b l.length false d g (u : Int) (w : Int) t s = (((W0.2.2 0).2.2 && decide ((W0.2.2 0).2.1 < t), 0), true, gw a u w g W0.2.2 l.length, W0.2.1) := by
          unfold decR
          rw [if_neg (by simp), if_pos hgd, Int.toNat_natCast, Int.toNat_natCast, eW, if_pos herr]
        rw [er]
        rw [if_pos herr] at Tg
        obtain ⟨Hh, eh, Oh, Bh, nh⟩ := Owns.st1 (o := 2) Tg.o (by simp) (.bool true)
        have Th : Tn N Hh p q c l false true (gw a u w g W0.2.2 l.length) := Tg.flag Oh Bh
        have Wh : Rd Hh pw q2 bs W0.2.1 := Wg.same (Bh.2 _ Wg.lt hD.1) fun a ha => Bh.2 _ (hqg a ha) (hq a ha).1
        obtain ⟨v0, hl0, e1, e2⟩ := G.lv0
        have hj := ix_lt hu hw 0
        have hat : ∀ (R : Type) (K : Option Addr → Option R), tagtree_Tree_at (some ⟨p, 0, none⟩) 0 (u : Int) (w : Int) Hh K = K (some ⟨v0.b, ix a u w 0 * 3, none⟩) := Th.at G hl0 hu hw
        have eg0 : gw a u w g W0.2.2 l.length 0 (ix a u w 0) = W0.2.2 0 := by unfold gw; rw [if_pos (show 0 < l.length from G.pos), upd_at]
        have n1 : hcell Hh v0.b (ix a u w 0 * 3 + 1) = some (.int .i64 (W0.2.2 0).2.1) := by have := Th.cell G hl0 hj (o := 1) (by omega); rw [eg0] at this; exact this
        have n2 : hcell Hh v0.b (ix a u w 0 * 3 + 2) = some (.bool (W0.2.2 0).2.2) := by have := Th.cell G hl0 hj (o := 2) (by omega); rw [eg0] at this; exact this
        refine ⟨Hh, fun R K => sr R K _ ?_, Th, Wh, Cg.trans (.of_but Bh)⟩
        refine go_f (by rw [herr]; rfl) (go_nil (go_fad ((eh _ _).trans ((hat _ _).trans (go_nil (go_fad (go_b n2 ?_)))))))
        cases hk : (W0.2.2 0).2.2
        · rfl
        · exact go_t rfl (go_nil (go_fad (go_i n1 rfl)))
      · have er : decR bs a b l.length false d g (u : Int) (w : Int) t s = ((false, W0.1), d, g, W0.2.1) := by
          unfold decR
          rw [if_neg (by simp), if_pos hgd, Int.toNat_natCast, Int.toNat_natCast, eW, if_neg herr]
        rw [er]
        rw [if_neg herr] at Tg
        refine ⟨Hg, fun R K => sr R K _ ?_, Tg, Wg, Cg⟩
        exact go_t (by rw [bne_iff_ne]; exact herr) rfl
    · have er : decR bs a b l.length false d g x y t s = ((false, 2), d, g, s) := by unfold decR; rw [if_neg (by simp), if_neg hgd]
      rw [er]
      refine ⟨Hd, fun R K => start R K _ ?_, Td, Wd, Cd⟩
      cases hi : ins a b x y
      · rfl
      · refine go_f rfl ?_
        by_cases h0 : t < 0
        · exact go_t (decide_eq_true h0) rfl
        · exact go_f (decide_eq_false h0) (go_t (decide_eq_true (by rw [hi] at hgd; simp at hgd; omega)) rfl)
end Go.Proofs.Ytblkejnciinaeaa.Sh
