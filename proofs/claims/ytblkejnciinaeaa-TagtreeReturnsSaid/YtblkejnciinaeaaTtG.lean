/- Tagtree: Encode. -/
import Derived.Test.YtblkejnciinaeaaTtFe
import Derived.Test.YtblkejnciinaeaaBtE
set_option linter.unusedVariables false
set_option linter.unusedSimpArgs false
namespace Go.Proofs.Ytblkejnciinaeaa.FW
theorem Shows.same {H H' : Heap} {q : Option Addr} {cs : List Value} (h : Shows H q cs) (e : ∀ a, q = some a → hblk H' a.block = hblk H a.block) : Shows H' q cs := by
  rcases h with h | ⟨b, o, full, rfl, ⟨B, h1, h2⟩, h3⟩
  · exact .inl h
  · exact .inr ⟨b, o, full, rfl, ⟨B, by rw [e _ rfl]; exact h1, h2⟩, h3⟩
end Go.Proofs.Ytblkejnciinaeaa.FW
namespace Go.Proofs.Ytblkejnciinaeaa.Sh
open Go.Proofs.Ytblkejnciinaeaa.FW Go.IntWalk
def Gok (g : Nat → Nat → Nd) : Prop := ∀ i j, 0 ≤ (g i j).2.1
theorem nlp_ok {S : Type} (code : Cod S) : ∀ (m : Nat) (s : S) (n : Nd), 0 ≤ n.2.1 → 0 ≤ (nlp code m s n).2.2.2.1 := by
  intro m
  induction m with
  | zero => intro s n h; exact h
  | succ m ih =>
    intro s n h
    rw [nlp]
    split
    · exact h
    · split
      · exact h
      · split
        · exact h
        · exact ih _ _ (by simp only; omega)
theorem wk_ok {S : Type} (code : Cod S) (t : Int) (f : Nat → Nd) (hf : ∀ i, 0 ≤ (f i).2.1) : ∀ (m : Nat) (low : Int) (s : S) (pf : Nat → Nd), (∀ i, 0 ≤ (pf i).2.1) → ∀ i, 0 ≤ ((wk code t f m low s pf).2.2 i).2.1 := by
  intro m
  induction m with
  | zero => intro low s pf h; exact h
  | succ m ih =>
    intro low s pf h
    rw [wk]
    split
    · exact h
    · refine ih _ _ _ fun i => ?_
      by_cases hi : i = m
      · rw [hi, upd_at]
        exact nlp_ok _ _ _ _ (by have := hf m; simp only [imx]; split <;> omega)
      · rw [upd_ne _ _ hi]; exact h i
theorem gw_ok {a x y : Nat} {g : Nat → Nat → Nd} {pf : Nat → Nd} {n : Nat} (h : Gok g) (hp : ∀ i, 0 ≤ (pf i).2.1) : Gok (gw a x y g pf n) := by
  intro i j
  unfold gw
  split
  · show 0 ≤ (upd _ _ _ j).2.1
    unfold upd
    split
    · exact hp i
    · exact h i j
  · exact h i j
theorem wkr_ok {S : Type} (code : Cod S) (t : Int) {g : Nat → Nat → Nd} (h : Gok g) (a x y L : Nat) (s : S) : ∀ i, 0 ≤ ((wkr code t g a x y L s).2.2 i).2.1 :=
  wk_ok code t _ (fun i => h _ _) L 0 s _ (fun _ => Int.le_refl 0)
theorem mst_two (w w' : Nat) (fb : Nat → Nd) : ∀ (k : Nat) (f : Nat → Nd) (j : Nat), (mst w w' fb k f j).2 = (f j).2 := by
  intro k
  induction k with
  | zero => intro f j; rfl
  | succ k ih =>
    intro f j
    rw [mst]
    by_cases h : j = par w w' k
    · rw [h, upd_at]; exact ih f _
    · rw [upd_ne _ _ h]; exact ih f j
theorem mlf_two (a b i : Nat) (g : Nat → Nat → Nd) (j : Nat) : (mlf a b i g j).2 = (g i j).2 := by
  unfold mlf
  rw [mst_two]
  unfold rsl
  split <;> rfl
theorem mins_two (a b : Nat) : ∀ (m i : Nat) (g : Nat → Nat → Nd) (u j : Nat), (mins a b m i g u j).2 = (g u j).2 := by
  intro m
  induction m with
  | zero => intro i g u j; rfl
  | succ m ih =>
    intro i g u j
    rw [mins, ih]
    by_cases h : u = i
    · rw [h, lset_at, mlf_two]
    · rw [lset_ne _ _ h]
theorem mins_ok {a b m i : Nat} {g : Nat → Nat → Nd} (h : Gok g) : Gok (mins a b m i g) := fun u j => by rw [mins_two]; exact h u j
/-- The writer's bits. -/
def wcode : Cod (List Int) := fun s n => ((if n.1 = n.2.1 then 1 else 0, 0), s ++ [if n.1 = n.2.1 then 1 else 0])
theorem nlp_ws (m : Nat) (s : List Int) (n : Nd) : nlp wcode (m + 1) s n = if n.2.2 = true then (0, s, n) else if n.1 = n.2.1 then (0, s ++ [1], n.1, n.2.1, true) else nlp wcode m (s ++ [0]) (n.1, n.2.1 + 1, n.2.2) := by
  rw [nlp]
  simp only [wcode]
  by_cases h : n.1 = n.2.1 <;> simp [h]
theorem nlp_w : ∀ (m : Nat) (s : List Int) (n : Nd), nlp wcode m s n = (0, s ++ (nlp wcode m [] n).2.1, (nlp wcode m [] n).2.2) := by
  intro m
  induction m with
  | zero => intro s n; simp [nlp]
  | succ m ih =>
    intro s n
    rw [nlp_ws m s, nlp_ws m []]
    split
    · simp
    · split
      · simp
      · rw [ih (s ++ [0]), ih ([] ++ [0])]; simp [List.append_assoc]
theorem wk_ws (t : Int) (f : Nat → Nd) (m : Nat) (low : Int) (s : List Int) (pf : Nat → Nd) : wk wcode t f (m + 1) low s pf = wk wcode t f m (nl wcode t [] ((f m).1, imx (f m).2.1 low, (f m).2.2)).2.2.2.1 (s ++ (nl wcode t [] ((f m).1, imx (f m).2.1 low, (f m).2.2)).2.1) (upd pf m (nl wcode t [] ((f m).1, imx (f m).2.1 low, (f m).2.2)).2.2) := by
  have e : nl wcode t s ((f m).1, imx (f m).2.1 low, (f m).2.2) = (0, s ++ (nl wcode t [] ((f m).1, imx (f m).2.1 low, (f m).2.2)).2.1, (nl wcode t [] ((f m).1, imx (f m).2.1 low, (f m).2.2)).2.2) := nlp_w _ _ _
  rw [wk, if_neg (by rw [e]; simp), e]
theorem wk_w (t : Int) (f : Nat → Nd) : ∀ (m : Nat) (low : Int) (s : List Int) (pf : Nat → Nd), wk wcode t f m low s pf = (0, s ++ (wk wcode t f m low [] pf).2.1, (wk wcode t f m low [] pf).2.2) := by
  intro m
  induction m with
  | zero => intro low s pf; simp [wk]
  | succ m ih =>
    intro low s pf
    rw [wk_ws, wk_ws t f m low [], ih _ (s ++ _), ih _ ([] ++ _)]
    simp [List.append_assoc]
theorem wkr_w (t : Int) (g : Nat → Nat → Nd) (a x y L : Nat) (s : List Int) : wkr wcode t g a x y L s = (0, s ++ (wkr wcode t g a x y L []).2.1, (wkr wcode t g a x y L []).2.2) := wk_w _ _ _ _ _ _
/-- What a call of a tree with a device leaves alone. -/
structure Ch (p : Nat) (l : List Lv) (pw : Nat) (q : Option Addr) (H : Heap) (q' : Option Addr) (H' : Heap) : Prop where
  len : H.length ≤ H'.length
  old : ∀ i, i < H.length → i ≠ pw → (∀ a, q = some a → a.block ≠ i) → i ≠ p → (∀ (j : Nat) (v : Lv), l[j]? = some v → v.b ≠ i) → hblk H' i = hblk H i
  new : q' = q ∨ ∀ a, q' = some a → H.length ≤ a.block
theorem Ch.trans {p : Nat} {l : List Lv} {pw : Nat} {q q1 q2 : Option Addr} {H H1 H2 : Heap} (x : Ch p l pw q H q1 H1) (y : Ch p l pw q1 H1 q2 H2) : Ch p l pw q H q2 H2 := by
  refine ⟨Nat.le_trans x.len y.len, fun i hi h1 h2 h3 h4 => (y.old i (Nat.lt_of_lt_of_le hi x.len) h1 (fun a ha => ?_) h3 h4).trans (x.old i hi h1 h2 h3 h4), ?_⟩
  · rcases x.new with h | h
    · subst h; exact h2 a ha
    · have := h a ha; omega
  · rcases y.new with h | h
    · subst h; exact x.new
    · exact .inr fun a ha => Nat.le_trans x.len (h a ha)
theorem Ch.of_old {p : Nat} {l : List Lv} {pw : Nat} {q : Option Addr} {H H' : Heap} (o : Old H.length H H') : Ch p l pw q H q H' := ⟨o.1, fun i hi _ _ _ _ => o.2 i hi, .inl rfl⟩
theorem Ch.of_tc {p : Nat} {l : List Lv} {pw : Nat} {q : Option Addr} {H H' : Heap} (o : Tc l H H') : Ch p l pw q H q H' := ⟨o.1, fun i hi _ _ _ h => o.2 i hi h, .inl rfl⟩
theorem Ch.of_but {p : Nat} {l : List Lv} {pw : Nat} {q : Option Addr} {H H' : Heap} (o : But p H H') : Ch p l pw q H q H' := ⟨o.1, fun i hi _ _ h _ => o.2 i hi h, .inl rfl⟩
theorem Ch.of_stp {p : Nat} {l : List Lv} {pw : Nat} {q q' : Option Addr} {H H' : Heap} (o : Stp pw q H q' H') : Ch p l pw q H q' H' := ⟨o.len, fun i hi h1 h2 _ _ => o.old i hi h1 h2, o.new⟩
theorem Ch.off {N : Nat} {H : Heap} {p : Nat} {q : Option Addr} {c : Nat} {l : List Lv} {e d : Bool} {g : Nat → Nat → Nd} (T : Tn N H p q c l e d g) {pw : Nat} {q1 q2 : Option Addr} {H' : Heap} (s : Ch p l pw q1 H q2 H') (h : ∀ a, q1 = some a → Off p q l a.block) : ∀ a, q2 = some a → Off p q l a.block := by
  intro a ha
  rcases s.new with h1 | h1
  · subst h1; exact h a ha
  · exact T.fresh (h1 a ha)
/-- A tree apart from the tree that was called. -/
theorem Tn.ch {N : Nat} {H H' : Heap} {p : Nat} {q : Option Addr} {c : Nat} {l : List Lv} {e d : Bool} {g : Nat → Nat → Nd} (T : Tn N H p q c l e d g) {p2 : Nat} {l2 : List Lv} {pw : Nat} {q1 q2 : Option Addr} (s : Ch p2 l2 pw q1 H q2 H') (h1 : Off p q l pw) (h2 : ∀ a, q1 = some a → Off p q l a.block) (h3 : Off p q l p2) (h4 : ∀ (j : Nat) (v : Lv), l2[j]? = some v → Off p q l v.b) : Tn N H' p q c l e d g :=
  T.same fun i hi hn => s.old i hi (fun h => hn (h ▸ h1)) (fun a ha h => hn (h ▸ h2 a ha)) (fun h => hn (h ▸ h3)) fun j v hv h => hn (h ▸ h4 j v hv)
theorem Wr.same {N : Nat} {H H' : Heap} {p : Nat} {q : Option Addr} {l : List Int} (h : Wr N H p q l) (h1 : hblk H' p = hblk H p) (h2 : ∀ a, q = some a → hblk H' a.block = hblk H a.block) : Wr N H' p q l := by
  obtain ⟨c, b, pre, t, e1, e2, e3, h3, h4, e4⟩ := h.c
  exact ⟨⟨c, b, pre, t, e1, e2, e3, h3.same h1, h4.same h2, e4⟩, h.low, h.apt, h.b01⟩
def wDev (N p : Nat) : Dev (List Int) := ⟨p, fun s q H => Wr N H p q s ∧ N ≤ H.length, fun s m => s.length + m < 1000000⟩
theorem wOk (k N p : Nat) : DevOk (wDev N p) wcode (fun R => @tagtree_Tree_Encode_1 R k) where
  lt h := h.1.lt
  qlt h := h.1.qlt
  same h hl h1 h2 := ⟨h.1.same h1 h2, Nat.le_trans h.2 hl⟩
  mono h hm := by simp only [wDev] at *; omega
  run := by
    intro s q H m pb hi hr hp n
    obtain ⟨W, hN⟩ := hi
    simp only [wDev] at hr hp
    obtain ⟨Hn, hHn⟩ : ∃ Hn, Hn = H ++ [some (⟨[.int .i64 n.1, .int .i64 n.2.1, .bool n.2.2], false, 0⟩ : Blk)] := ⟨_, rfl⟩
    have on : Old H.length H Hn := hHn ▸ Old.app _ _
    have W1 : Wr N Hn p q s := W.same (on.2 _ W.lt) fun a ha => on.2 _ (W.qlt a ha)
    have c0 : hcell Hn H.length 0 = some (.int .i64 n.1) := by rw [hHn]; exact hcell_new _ _ _
    have c1 : hcell Hn H.length 1 = some (.int .i64 n.2.1) := by rw [hHn]; exact hcell_new _ _ _
    have cp : hcell Hn pb 0 = some (.pointer (some ⟨p, 0, none⟩)) := (hp.old on hp.lt).sees.cell 0
    have hb : (if n.1 = n.2.1 then (1 : Int) else 0) = 0 ∨ (if n.1 = n.2.1 then (1 : Int) else 0) = 1 := by split <;> simp
    obtain ⟨q', H', e1, W2, S⟩ := pPut_eq k W1 (by have := on.1; omega) (by omega) (if n.1 = n.2.1 then 1 else 0)
    have ew : wP (if n.1 = n.2.1 then (1 : Int) else 0) = (0, [if n.1 = n.2.1 then (1 : Int) else 0]) := if_pos hb
    rw [ew] at e1 W2
    refine ⟨q', H', fun R K => ?_, ⟨W2, by have := on.1; have := S.len; omega⟩, by simp only [wDev, wcode, List.length_append, List.length_cons, List.length_nil]; omega, (Stp.of_old on).trans S⟩
    simp only [wcode]
    unfold tagtree_Tree_Encode_1 tagtree_Tree_Encode_1_b tagtree_Tree_Encode_1_p0 tagtree_Tree_Encode_1_p0_b
    refine go_halN hHn (go_fad (go_i c0 (go_fad (go_i c1 ?_))))
    by_cases h : n.1 = n.2.1
    · rw [if_pos h] at e1 ⊢
      exact go_t (by rw [h]; exact beq_self_eq_true _) (go_p cp (e1 _ _))
    · rw [if_neg h] at e1 ⊢
      exact go_f (by rw [beq_eq_false_iff_ne]; exact h) (go_p cp (e1 _ _))
theorem Tn.flag {N : Nat} {H H' : Heap} {p : Nat} {q : Option Addr} {c : Nat} {l : List Lv} {e d e' d' : Bool} {g : Nat → Nat → Nd} (T : Tn N H p q c l e d g) (ho : Owns H' p [.slice q l.length c, .bool e', .bool d'] 0) (hb : But p H H') : Tn N H' p q c l e' d' g := by
  refine ⟨ho, Bld.but2 T.b hb T.ap, T.low, T.ap, fun i v hv => ?_, T.d⟩
  obtain ⟨g1, g2, g3, g4⟩ := T.n i v hv
  exact ⟨g1.but hb g3, g2, g3, g4⟩
/-- A call of Encode: the error, the sign, the nodes, the bits. -/
def encM (a b L : Nat) (e : Bool) (g : Nat → Nat → Nd) : Nat → Nat → Nd := if e = true then g else mins a b (L - 1) 1 g
def encG (a b L : Nat) (e : Bool) (g : Nat → Nat → Nd) (x y : Nat) (t : Int) : Nat → Nat → Nd := gw a x y (encM a b L e g) (wkr wcode t (encM a b L e g) a x y L []).2.2 L
def encB (a b L : Nat) (e : Bool) (g : Nat → Nat → Nd) (x y : Nat) (t : Int) : List Int := (wkr wcode t (encM a b L e g) a x y L []).2.1
def encR (a b L : Nat) (e d : Bool) (g : Nat → Nat → Nd) (x y t : Int) : Int × Bool × (Nat → Nat → Nd) × List Int :=
  if d = true then (6, e, g, []) else if ins a b x y = true ∧ 0 ≤ t ∧ t ≤ 65536 then (0, true, encG a b L e g x.toNat y.toNat t, encB a b L e g x.toNat y.toNat t) else (2, e, g, [])
theorem encM_ok {a b L : Nat} {e : Bool} {g : Nat → Nat → Nd} (h : Gok g) : Gok (encM a b L e g) := by
  unfold encM; split
  · exact h
  · exact mins_ok h
theorem encR_ok {a b L : Nat} {e d : Bool} {g : Nat → Nat → Nd} (h : Gok g) (x y t : Int) : Gok (encR a b L e d g x y t).2.2.1 := by
  unfold encR
  split
  · exact h
  · split
    · exact gw_ok (encM_ok h) (wkr_ok _ _ (encM_ok h) _ _ _ _ _)
    · exact h
theorem Encode_eq {k : Nat} (hk : 70000 < k) {N M : Nat} {H : Heap} {p : Nat} {q : Option Addr} {c : Nat} {l : List Lv} {e d : Bool} {g : Nat → Nat → Nd} (T : Tn N H p q c l e d g) (hN : N ≤ H.length) {a b : Nat} (G : Geo a b l) (hg : Gok g) {pw : Nat} {qw : Option Addr} {s : List Int} (W : Wr M H pw qw s) (hM : M ≤ H.length) (hD : Off p q l pw) (hq : ∀ a, qw = some a → Off p q l a.block) (x y t : Int) (hs : s.length < 800000) :
    ∃ q' H', (∀ (R : Type) (K : Int → Heap → Option R), tagtree_Tree_Encode k (some ⟨p, 0, none⟩) (some ⟨pw, 0, none⟩) x y t H K = K (encR a b l.length e d g x y t).1 H') ∧ Tn N H' p q c l (encR a b l.length e d g x y t).2.1 d (encR a b l.length e d g x y t).2.2.1 ∧ Wr M H' pw q' (s ++ (encR a b l.length e d g x y t).2.2.2) ∧ Ch p l pw qw H q' H' ∧ (∀ a, q' = some a → Off p q l a.block) := by
  obtain ⟨Hb, hHb⟩ : ∃ Hb, Hb = H ++ [some (⟨[.pointer (some ⟨pw, 0, none⟩)], false, 0⟩ : Blk)] := ⟨_, rfl⟩
  have ob : Old H.length H Hb := hHb ▸ Old.app _ _
  have hpb : Owns Hb H.length [.pointer (some ⟨pw, 0, none⟩)] 0 := by rw [hHb]; exact hblk_new H _
  have mp : hcell Hb H.length 0 = some (.pointer (some ⟨pw, 0, none⟩)) := hpb.sees.cell 0
  have Tb := T.old ob (Nat.le_refl _)
  have Wb : Wr M Hb pw qw s := W.same (ob.2 _ W.lt) fun a ha => ob.2 _ (W.qlt a ha)
  have ok := tok_eq Tb G.pos
  have m1 : hcell Hb p 2 = some (.bool d) := Tb.o.sees.cell 2
  have hWl := W.lt
  have hql := W.qlt
  cases hd : d
  case true =>
    have er : encR a b l.length e true g x y t = (6, e, g, []) := by unfold encR; rw [if_pos rfl]
    rw [er]
    rw [hd] at Tb m1
    refine ⟨qw, Hb, fun R K => ?_, Tb, by simpa using Wb, .of_old ob, hq⟩
    unfold tagtree_Tree_Encode tagtree_Tree_Encode_b tagtree_Tree_Encode_p0 tagtree_Tree_Encode_p0_b
    exact go_halN hHb ((ok _ _).trans (go_f rfl (go_nil (go_fad (go_b m1 (go_t rfl rfl))))))
  case false =>
    rw [hd] at Tb m1
    obtain ⟨q1, Hc, ec, Wc, Sc⟩ := pBits_eq (k := k) (by omega) Wb (by have := ob.1; omega) (by omega) 0 0 (by omega)
    have ew : wB 0 0 = (0, []) := by unfold wB; rw [if_pos ⟨by omega, by omega, by omega, by decide⟩]; rfl
    rw [ew] at ec Wc
    simp only [List.append_nil] at Wc
    have hlb : Hb.length = H.length + 1 := by rw [hHb]; simp
    have Cc : Ch p l pw qw H q1 Hc := (Ch.of_old ob).trans (.of_stp Sc)
    have Tc1 : Tn N Hc p q c l e false g := Tb.fr (.of_stp (b := pw) Sc) hD hq hD
    have hpc : Owns Hc H.length [.pointer (some ⟨pw, 0, none⟩)] 0 := hpb.same (Sc.old _ (by omega) (by omega) fun a ha => by have := hql a ha; omega)
    have hq1 := Ch.off T Cc hq
    obtain ⟨Hd, ed, od⟩ := has_eq Tc1 G x y
    have Td := Tc1.old od (Nat.le_refl _)
    have Wd : Wr M Hd pw q1 s := Wc.same (od.2 _ Wc.lt) fun a ha => od.2 _ (Wc.qlt a ha)
    have Cd : Ch p l pw qw H q1 Hd := Cc.trans (.of_old od)
    have hpd : Owns Hd H.length [.pointer (some ⟨pw, 0, none⟩)] 0 := hpc.old od hpc.lt
    have start : ∀ (R : Type) (K : Int → Heap → Option R) (rr : Option R), (bif !(ins a b x y) then K 2 Hd else bif decide (t < 0) then K 2 Hd else bif decide (t > 65536) then K 2 Hd else tagtree_Tree_Encode_p2 k (some ⟨p, 0, none⟩) x y t (some ⟨H.length, 0, none⟩) Hd (fun p260 n261 n262 n263 p264 H265 => tagtree_Tree_walk_v45 k p260 n261 n262 n263 p264 H265 fun n266 H267 => K n266 H267)) = rr → tagtree_Tree_Encode k (some ⟨p, 0, none⟩) (some ⟨pw, 0, none⟩) x y t H K = rr := by
      intro R K rr h
      unfold tagtree_Tree_Encode tagtree_Tree_Encode_b tagtree_Tree_Encode_p0 tagtree_Tree_Encode_p0_b tagtree_Tree_Encode_p1 tagtree_Tree_Encode_p1_b
      refine go_halN hHb ((ok _ _).trans (go_f rfl (go_nil (go_fad (go_b m1 (go_f rfl (go_p mp ((ec _ _).trans ?_))))))))
      exact go_f rfl ((ed _ _).trans h)
    by_cases hgd : ins a b x y = true ∧ 0 ≤ t ∧ t ≤ 65536
    · have er : encR a b l.length e false g x y t = (0, true, encG a b l.length e g x.toNat y.toNat t, encB a b l.length e g x.toNat y.toNat t) := by unfold encR; rw [if_neg (by simp), if_pos hgd]
      rw [er]
      obtain ⟨hi, ht0, ht1⟩ := hgd
      obtain ⟨u, w, rfl, rfl, hu, hw⟩ := ins_t hi
      rw [Int.toNat_natCast, Int.toNat_natCast]
      have hoff : Off p q l H.length := T.fresh (Nat.le_refl _)
      obtain ⟨Hf, ef, Tf, Cf, Wf, hpf⟩ : ∃ Hf, (∀ (R : Type) (KN : Option Addr → Int → Int → Int → Option Addr → Heap → Option R), tagtree_Tree_Encode_p2 k (some ⟨p, 0, none⟩) (u : Int) (w : Int) t (some ⟨H.length, 0, none⟩) Hd KN = KN (some ⟨p, 0, none⟩) (u : Int) (w : Int) t (some ⟨H.length, 0, none⟩) Hf) ∧ Tn N Hf p q c l true false (encM a b l.length e g) ∧ Ch p l pw qw H q1 Hf ∧ Wr M Hf pw q1 s ∧ Owns Hf H.length [.pointer (some ⟨pw, 0, none⟩)] 0 := by
        have m2 : hcell Hd p 1 = some (.bool e) := Td.o.sees.cell 1
        cases he : e
        case true =>
          rw [he] at m2 Td
          refine ⟨Hd, fun R KN => ?_, by unfold encM; rw [if_pos rfl]; exact Td, Cd, Wd, hpd⟩
          unfold tagtree_Tree_Encode_p2 tagtree_Tree_Encode_p2_b
          exact go_nil (go_fad (go_b m2 (go_f rfl rfl)))
        case false =>
          rw [he] at m2
          obtain ⟨He, ee, Oe, Be, ne⟩ := Owns.st1 (o := 1) Td.o (by simp) (.bool true)
          have Te : Tn N He p q c l true false g := Td.flag Oe Be
          have hNd : N ≤ He.length := by have := Be.1; have := Cd.len; omega
          obtain ⟨Hf, ef, Tf, tf⟩ := minima_eq (k := k) hk G hNd Te
          have hpl := Wd.lt
          have We : Wr M He pw q1 s := Wd.same (Be.2 _ Wd.lt hD.1) fun a ha => Be.2 _ (Wd.qlt a ha) (hq1 a ha).1
          have Wf : Wr M Hf pw q1 s := We.same (tf.2 _ We.lt hD.2.2) fun a ha => tf.2 _ (We.qlt a ha) (hq1 a ha).2.2
          refine ⟨Hf, fun R KN => ?_, by unfold encM; rw [if_neg (by simp)]; exact Tf, (Cd.trans (.of_but Be)).trans (.of_tc tf), Wf, ?_⟩
          · unfold tagtree_Tree_Encode_p2 tagtree_Tree_Encode_p2_b
            refine go_nil (go_fad (go_b m2 (go_t rfl (go_nil (go_fad ((ee _ _).trans ?_))))))
            exact ef _ _
          · have h1 := hpd.but Be hoff.1
            exact h1.same (tf.2 _ h1.lt hoff.2.2)
      obtain ⟨q2, Hg, eg, ig, _, Tg, lg, sg, ng⟩ := walk_eq_e (k := k) hk (wOk k M pw) (t := t) (by omega) G hu hw (encM_ok hg) (pb := H.length) (show H.length ≠ pw by omega) hD (r := 0) (s := s) (q2 := q1) ⟨Wf, by have := Cf.len; omega⟩ (by simp only [wDev]; have := G.len; omega) Tf hpf (fun a ha => ⟨by
        rcases Cf.new with h | h
        · subst h; have := hql a ha; omega
        · rcases Sc.new with h2 | h2
          · subst h2; have := hql a ha; omega
          · have := h2 a ha; omega, hq1 a ha⟩)
      rw [wkr_w] at eg ig Tg
      simp only [if_true] at eg ig Tg
      have Cg : Ch p l pw qw H q2 Hg := Cf.trans ⟨lg, fun i hi h1 h2 _ h4 => sg i hi h1 h2 h4, ng⟩
      refine ⟨q2, Hg, fun R K => start R K _ ?_, Tg, ig.1, Cg, Ch.off T Cg hq⟩
      rw [hi]
      refine go_f rfl (go_f (decide_eq_false (by omega)) (go_f (decide_eq_false (by omega)) ((ef _ _).trans ?_)))
      exact eg _ _
    · have er : encR a b l.length e false g x y t = (2, e, g, []) := by unfold encR; rw [if_neg (by simp), if_neg hgd]
      rw [er]
      refine ⟨q1, Hd, fun R K => start R K _ ?_, Td, by simpa using Wd, Cd, hq1⟩
      cases hi : ins a b x y
      · rfl
      · refine go_f rfl ?_
        by_cases h0 : t < 0
        · exact go_t (decide_eq_true h0) rfl
        · exact go_f (decide_eq_false h0) (go_t (decide_eq_true (by rw [hi] at hgd; simp at hgd; omega)) rfl)
end Go.Proofs.Ytblkejnciinaeaa.Sh
