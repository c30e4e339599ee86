/- TtReads. -/
import Derived.Test.YtblkejnciinaeaaReTt
import Derived.Test.YtblkejnciinaeaaReBt
/- Tagtree: L_TagtreeReads answers true. -/
set_option linter.unusedVariables false
set_option linter.unusedSimpArgs false
namespace Go.Proofs.Ytblkejnciinaeaa.Sh
open Go.Proofs.Ytblkejnciinaeaa.FW Go.IntWalk
/-- A call decoded in both trees. -/
theorem Bth.dec {k : Nat} (hk : 70000 < k) {N p : Nat} {q0 : Option Addr} {c : Nat} {l : List Lv} {a b pw : Nat} {p' bn nn cap z pu : Nat} {H : Heap} {d : Bool} {g : Nat → Nat → Nd} {F : Nat → Nd} {qw qu : Option Addr} {bs : List Int} {s : Nat × Nat} (G : Geo a b l) (RGg : RG a b l.length) (hnn : nn = base a b l.length) (B : Bth N p q0 c l a b pw p' bn nn cap z pu H false d g F qw qu) (W : Rd H pw qw bs s) (U : Rd H pu qu bs s) (x y t : Int) :
    ∃ H1 H2 bn2 cap2 z2 F', (∀ (R : Type) (K : Bool → Int → Heap → Option R), tagtree_Tree_Decode k (some ⟨p, 0, none⟩) (some ⟨pw, 0, none⟩) x y t H K = K (decR bs a b l.length false d g x y t s).1.1 (decR bs a b l.length false d g x y t s).1.2 H1) ∧ (∀ (R : Type) (K : Bool → Int → Heap → Option R), R10_Tree_Decode k (some ⟨p', 0, none⟩) (some ⟨pu, 0, none⟩) x y t H1 K = K (decR bs a b l.length false d g x y t s).1.1 (decR bs a b l.length false d g x y t s).1.2 H2) ∧ Bth N p q0 c l a b pw p' bn2 nn cap2 z2 pu H2 false (decR bs a b l.length false d g x y t s).2.1 (decR bs a b l.length false d g x y t s).2.2.1 F' qw qu ∧ Rd H2 pw qw bs (decR bs a b l.length false d g x y t s).2.2.2 ∧ Rd H2 pu qu bs (decR bs a b l.length false d g x y t s).2.2.2 ∧ Old N H H2 ∧ (∀ i, i < H.length → Off p q0 l i → i ≠ pw → (∀ a, qw = some a → a.block ≠ i) → hblk H1 i = hblk H i) := by
  obtain ⟨H1, e1, T1, W1, C1⟩ := Decode_eq hk B.T G B.ok W (fun a ha => (B.offq a ha).2.2) B.offw (fun a ha => (B.offq a ha).1) x y t
  have l1 := C1.len
  obtain ⟨s1, s2, s3, s4⟩ := B.stepA (e' := false) (d' := d) (g' := g) C1 (fun a ha => by have := (B.offq a ha).2.2; omega)
  have R1 := B.R.same (s1 _ (.inl rfl)) (s1 _ (.inr (.inl rfl)))
  have U1 := U.same (s1 _ (.inr (.inr (.inl rfl)))) (fun a ha => s1 _ (.inr (.inr (.inr ⟨a, ha, rfl⟩))))
  have huq : ∀ a, qu = some a → a.block < H1.length := fun a ha => (s3 a.block (.inr (.inr (.inr ⟨a, ha, rfl⟩)))).2.2.2.1
  obtain ⟨H2, bn2, cap2, z2, F', e2, U2, R2, rel2, hbn, l2, f2⟩ := rDecode_eq hk RGg hnn B.ok R1 B.rel (by have := B.N0; omega) U1 huq B.pu1 B.pu2 B.quo x y t
  have C2 : Rc p' bn pu qu H1 qu H2 := ⟨l2, fun i hi h1 _ h3 _ => f2 i hi h3 h1, .inl rfl⟩
  obtain ⟨t1, t2, t3, t4, t5⟩ := Bth.stepB T1 (fun a ha => (s2 a ha).2.2) (by have := B.pwl; omega) (by have := B.N0; omega) s3 C2 (fun a ha => by have := huq a ha; omega)
  have hbl := R2.n.lt
  have hpw := B.pwl
  have hpu := (s3 pu (.inr (.inr (.inl rfl)))).2.2.2.1
  refine ⟨H1, H2, bn2, cap2, z2, F', e1, e2, ⟨t1, decR_ok B.ok _ _ _ _, fun _ => decR_vb (B.vb rfl), R2, rel2, B.offw, fun a ha => by have := s2 a ha; exact ⟨this.1, this.2.1, by omega⟩, fun i hi => ?_, B.pu1, ?_, fun a ha => ⟨(B.quo a ha).1, ?_⟩, B.pwn, by omega, by have := B.N0; omega⟩, W1.same t2 t3, U2, s4.trans t5, fun i hi h1 h2 h3 => C1.old i hi h2 h3 h1.1 h1.2.2⟩
  · rcases hi with h | h | h | h
    · exact t4 i (.inl h)
    · rcases hbn with hb | hb
      · exact t4 i (.inr (.inl (h.trans hb)))
      · subst h
        exact ⟨T1.fresh hb, by omega, fun a ha => by have := (s2 a ha).2.2; omega, hbl, by have := B.N0; omega⟩
    · exact t4 i (.inr (.inr (.inl h)))
    · exact t4 i (.inr (.inr (.inr h)))
  · rcases hbn with hb | hb
    · rw [hb]; exact B.pu2
    · omega
  · rcases hbn with hb | hb
    · rw [hb]; exact (B.quo a ha).2
    · have := huq a ha; omega
/-- A heap laid behind another one. -/
theorem lay_blk {H H4 : Heap} {i : Nat} (h : H.length ≤ i) : hblk (H ++ H4.drop H.length) i = hblk H4 i := by
  rw [hblk_get, hblk_get, List.getElem?_append_right h, List.getElem?_drop, show H.length + (i - H.length) = i from by omega]
theorem reads_l {k : Nat} (hk : 70000 < k) {N p : Nat} {q0 : Option Addr} {c : Nat} {l : List Lv} {a b pw : Nat} {p' nn pu : Nat} (G : Geo a b l) (RGg : RG a b l.length) (hnn : nn = base a b l.length) {ops : List Op4} (hlen : ops.length ≤ 100) {qo : Option Addr} (co : Nat) (hb : ops.flatMap opc = [] ∨ Below N qo) {bs : List Int} {qw qu : Option Addr} :
    ∀ (m n i : Nat), m < n → ops.length = i + m → ∀ (H : Heap) (d : Bool) (g : Nat → Nat → Nd) (F : Nat → Nd) (bn cap z : Nat) (s : Nat × Nat), Bth N p q0 c l a b pw p' bn nn cap z pu H false d g F qw qu → Rd H pw qw bs s → Rd H pu qu bs s → Shows H qo (ops.flatMap opc) →
    ∃ H', (∀ (R : Type) (KE : Heap → Option R) (KR : Bool → Heap → Option R), L_TagtreeReads_l1 k KE KR n (some ⟨p, 0, none⟩) (some ⟨p', 0, none⟩) (some ⟨pw, 0, none⟩) (some ⟨pu, 0, none⟩) qo ops.length co ((ops.length : Nat) : Int) (i : Int) H = KE H') := by
  intro m
  induction m with
  | zero =>
    intro n i hn hi H d g F bn cap z s B W U hS
    obtain ⟨n, rfl⟩ : ∃ n', n = n' + 1 := ⟨n - 1, by omega⟩
    refine ⟨H, fun R KE KR => ?_⟩
    unfold L_TagtreeReads_l1 L_TagtreeReads_l1_b
    exact go_f (decide_eq_false (by omega)) rfl
  | succ m ih =>
    intro n i hn hi H d g F bn cap z s B W U hS
    obtain ⟨n, rfl⟩ : ∃ n', n = n' + 1 := ⟨n - 1, by omega⟩
    obtain ⟨o, ho⟩ : ∃ o, ops[i]? = some o := ⟨_, List.getElem?_eq_getElem (by omega)⟩
    obtain ⟨H1, e0, o1, O1, l1⟩ := op_box hS ho
    obtain ⟨m0, m1, m2, m3⟩ := op_cells O1
    obtain ⟨H3, d3, g3, F3, bn3, cap3, z3, s3, e3, B3, W3, U3, o3⟩ : ∃ H3 d3 g3 F3 bn3 cap3 z3 s3, (∀ (R : Type) (KN : Option Addr → Option Addr → Option Addr → Option Addr → Option Addr → Nat → Nat → Int → Int → Heap → Option R) (KR : Bool → Heap → Option R), L_TagtreeReads_p2 k (some ⟨p, 0, none⟩) (some ⟨p', 0, none⟩) (some ⟨pw, 0, none⟩) (some ⟨pu, 0, none⟩) qo ops.length co ((ops.length : Nat) : Int) (i : Int) H KN KR = KN (some ⟨p, 0, none⟩) (some ⟨p', 0, none⟩) (some ⟨pw, 0, none⟩) (some ⟨pu, 0, none⟩) qo ops.length co ((ops.length : Nat) : Int) (i : Int) H3) ∧ Bth N p q0 c l a b pw p' bn3 nn cap3 z3 pu H3 false d3 g3 F3 qw qu ∧ Rd H3 pw qw bs s3 ∧ Rd H3 pu qu bs s3 ∧ Old N H H3 := by
      by_cases k0 : o.1 = 0
      · obtain ⟨Hf, ef, cf, rf, bf, lf⟩ := frz_own (o := 0) (s := none) O1
        have of : Old H.length H Hf := o1.trans (bf.old (Nat.le_refl _) o1.1)
        have c1 : hcell Hf H.length 1 = some (.int .i64 o.2.1) := cf 1
        have c2 : hcell Hf H.length 2 = some (.int .i64 o.2.2.1) := cf 2
        have c3 : hcell Hf H.length 3 = some (.int .i64 o.2.2.2) := cf 3
        obtain ⟨Ha, Hb, F', ea, eb, B2, o2, w1, w2, u1, u2⟩ := Bth.set (k := k) G hnn (B.keep of) o.2.1 o.2.2.1 o.2.2.2
        have Wf := W.keep of
        have Uf := U.keep of
        refine ⟨Hb, d, _, F', bn, cap, z, s, fun R KN KR => ?_, B2, Wf.same w1 w2, Uf.same u1 u2, (of.mono B.N0).trans o2⟩
        unfold L_TagtreeReads_p2 L_TagtreeReads_p2_b
        refine (e0 _ _).trans (go_fad (go_i m0 (go_t (by rw [k0]; rfl) ((ef _ _).trans ?_))))
        refine go_fad (go_i c1 (go_fad (go_i c2 (go_fad (go_i c3 ((ea _ _).trans ?_))))))
        refine go_fad (go_t (rf _ _) (go_i c1 (go_fad (go_t (rf _ _) (go_i c2 (go_fad (go_t (rf _ _) (go_i c3 ((eb _ _).trans ?_)))))))))
        exact go_ne rfl
      by_cases k2 : o.1 = 2
      · have B1 := B.keep o1
        obtain ⟨H2, e2, o2⟩ := Value_eq (k := k) B1.T G o.2.1 o.2.2.1
        have B2 := B1.keep o2
        obtain ⟨j0, j1, j2, j3⟩ := op_cells (O1.old o2 O1.lt)
        have e4 := rValue_eq (k := k) B2.R hnn B2.rel G.a1 G.b1 G.ab G.pos o.2.1 o.2.2.1
        refine ⟨H2, d, g, F, bn, cap, z, s, fun R KN KR => ?_, B2, (W.keep o1).keep o2, (U.keep o1).keep o2, (o1.mono B.N0).trans (o2.mono (by have := B1.N0; omega))⟩
        unfold L_TagtreeReads_p2 L_TagtreeReads_p2_b
        refine (e0 _ _).trans (go_fad (go_i m0 (go_f (by rw [k2]; rfl) (go_t (by rw [k2]; rfl) ?_))))
        refine go_fad (go_i m1 (go_fad (go_i m2 ((e2 _ _).trans (go_fad (go_i j1 (go_fad (go_i j2 ((e4 _ _).trans ?_)))))))))
        exact go_ne (go_f (by rw [beq_self_eq_true]; rfl) rfl)
      by_cases k3 : o.1 = 3
      · have B1 := B.keep o1
        obtain ⟨H2, H3, bn2, cap2, z2, F', e2, e4, B4, W4, U4, o4, f4⟩ := Bth.dec hk G RGg hnn B1 (W.keep o1) (U.keep o1) o.2.1 o.2.2.1 o.2.2.2
        have hs := f4 H.length (by omega) (B.T.fresh (Nat.le_refl _)) (by have := B.pwl; omega) (fun a ha => by have := (B.offq a ha).2.2; omega)
        obtain ⟨j0, j1, j2, j3⟩ := op_cells (show Owns H2 H.length (opc o) 0 from hs.trans O1)
        refine ⟨H3, _, _, F', bn2, cap2, z2, _, fun R KN KR => ?_, B4, W4, U4, (o1.mono B.N0).trans o4⟩
        unfold L_TagtreeReads_p2 L_TagtreeReads_p2_b
        refine (e0 _ _).trans (go_fad (go_i m0 (go_f (by rw [k3]; rfl) (go_f (by rw [k3]; rfl) (go_t (by rw [k3]; rfl) ?_)))))
        refine go_fad (go_i m1 (go_fad (go_i m2 (go_fad (go_i m3 ((e2 _ _).trans ?_))))))
        refine go_fad (go_i j1 (go_fad (go_i j2 (go_fad (go_i j3 ((e4 _ _).trans ?_))))))
        exact go_f (by rw [beq_self_eq_true]; rfl) (go_ne rfl)
      refine ⟨H1, d, g, F, bn, cap, z, s, fun R KN KR => ?_, B.keep o1, W.keep o1, U.keep o1, o1.mono B.N0⟩
      unfold L_TagtreeReads_p2 L_TagtreeReads_p2_b
      exact (e0 _ _).trans (go_fad (go_i m0 (go_f (by rw [beq_eq_false_iff_ne]; exact k0) (go_f (by rw [beq_eq_false_iff_ne]; exact k2) (go_f (by rw [beq_eq_false_iff_ne]; exact k3) rfl)))))
    obtain ⟨H4, e4⟩ := ih n (i + 1) (by omega) (by omega) H3 d3 g3 F3 bn3 cap3 z3 s3 B3 W3 U3 (hS.old o3 hb)
    refine ⟨H4, fun R KE KR => ?_⟩
    unfold L_TagtreeReads_l1 L_TagtreeReads_l1_b
    refine go_t (decide_eq_true (by omega)) ((e3 _ _ _).trans ?_)
    try dsimp only
    rw [w64 (n := (i : Int) + 1) (by omega) (by omega)]
    exact e4 R KE KR
/-- Without trees. -/
theorem reads_nil (k : Nat) {ops : List Op4} (hlen : ops.length ≤ 100) {qo : Option Addr} (co : Nat) {pw pu : Option Addr} :
    ∀ (m n i : Nat), m < n → ops.length = i + m → ∀ (H : Heap), Shows H qo (ops.flatMap opc) →
    ∃ H', (∀ (R : Type) (KE : Heap → Option R) (KR : Bool → Heap → Option R), L_TagtreeReads_l1 k KE KR n none none pw pu qo ops.length co ((ops.length : Nat) : Int) (i : Int) H = KE H') := by
  intro m
  induction m with
  | zero =>
    intro n i hn hi H hS
    obtain ⟨n, rfl⟩ : ∃ n', n = n' + 1 := ⟨n - 1, by omega⟩
    refine ⟨H, fun R KE KR => ?_⟩
    unfold L_TagtreeReads_l1 L_TagtreeReads_l1_b
    exact go_f (decide_eq_false (by omega)) rfl
  | succ m ih =>
    intro n i hn hi H hS
    obtain ⟨n, rfl⟩ : ∃ n', n = n' + 1 := ⟨n - 1, by omega⟩
    obtain ⟨o, ho⟩ : ∃ o, ops[i]? = some o := ⟨_, List.getElem?_eq_getElem (by omega)⟩
    obtain ⟨H1, e0, o1, O1, l1⟩ := op_box hS ho
    obtain ⟨m0, m1, m2, m3⟩ := op_cells O1
    obtain ⟨H3, e3, o3⟩ : ∃ H3, (∀ (R : Type) (KN : Option Addr → Option Addr → Option Addr → Option Addr → Option Addr → Nat → Nat → Int → Int → Heap → Option R) (KR : Bool → Heap → Option R), L_TagtreeReads_p2 k none none pw pu qo ops.length co ((ops.length : Nat) : Int) (i : Int) H KN KR = KN none none pw pu qo ops.length co ((ops.length : Nat) : Int) (i : Int) H3) ∧ Old H.length H H3 := by
      by_cases k0 : o.1 = 0
      · obtain ⟨Hf, ef, cf, rf, bf, lf⟩ := frz_own (o := 0) (s := none) O1
        have of : Old H.length H Hf := o1.trans (bf.old (Nat.le_refl _) o1.1)
        have c1 : hcell Hf H.length 1 = some (.int .i64 o.2.1) := cf 1
        have c2 : hcell Hf H.length 2 = some (.int .i64 o.2.2.1) := cf 2
        have c3 : hcell Hf H.length 3 = some (.int .i64 o.2.2.2) := cf 3
        have es : ∀ (R : Type) (K : Int → Heap → Option R), tagtree_Tree_Set k none o.2.1 o.2.2.1 o.2.2.2 Hf K = K 6 Hf := fun R K => rfl
        have er : ∀ (R : Type) (K : Int → Heap → Option R), R10_Tree_Set k none o.2.1 o.2.2.1 o.2.2.2 Hf K = K 6 Hf := fun R K => rfl
        refine ⟨Hf, fun R KN KR => ?_, of⟩
        unfold L_TagtreeReads_p2 L_TagtreeReads_p2_b
        refine (e0 _ _).trans (go_fad (go_i m0 (go_t (by rw [k0]; rfl) ((ef _ _).trans ?_))))
        refine go_fad (go_i c1 (go_fad (go_i c2 (go_fad (go_i c3 ((es _ _).trans ?_))))))
        refine go_fad (go_t (rf _ _) (go_i c1 (go_fad (go_t (rf _ _) (go_i c2 (go_fad (go_t (rf _ _) (go_i c3 ((er _ _).trans ?_)))))))))
        exact go_ne rfl
      by_cases k2 : o.1 = 2
      · have es : ∀ (R : Type) (K : Int → Bool → Heap → Option R), tagtree_Tree_Value k none o.2.1 o.2.2.1 H1 K = K 0 false H1 := fun R K => rfl
        have er : ∀ (R : Type) (K : Int → Bool → Option R), R10_Tree_Value k none o.2.1 o.2.2.1 H1 K = K 0 false := fun R K => rfl
        refine ⟨H1, fun R KN KR => ?_, o1⟩
        unfold L_TagtreeReads_p2 L_TagtreeReads_p2_b
        refine (e0 _ _).trans (go_fad (go_i m0 (go_f (by rw [k2]; rfl) (go_t (by rw [k2]; rfl) ?_))))
        refine go_fad (go_i m1 (go_fad (go_i m2 ((es _ _).trans (go_fad (go_i m1 (go_fad (go_i m2 ((er _ _).trans ?_)))))))))
        exact go_ne rfl
      by_cases k3 : o.1 = 3
      · obtain ⟨Hg, hHg⟩ : ∃ Hg, Hg = H1 ++ [some (⟨[.pointer pw], false, 0⟩ : Blk)] := ⟨_, rfl⟩
        have og : Old H1.length H1 Hg := hHg ▸ Old.app _ _
        have es : ∀ (R : Type) (K : Bool → Int → Heap → Option R), tagtree_Tree_Decode k none pw o.2.1 o.2.2.1 o.2.2.2 H1 K = K false 6 Hg := fun R K => by rw [hHg]; rfl
        have er : ∀ (R : Type) (K : Bool → Int → Heap → Option R), R10_Tree_Decode k none pu o.2.1 o.2.2.1 o.2.2.2 Hg K = K false 6 Hg := fun R K => rfl
        obtain ⟨j0, j1, j2, j3⟩ := op_cells (O1.old og O1.lt)
        refine ⟨Hg, fun R KN KR => ?_, o1.trans (og.mono o1.1)⟩
        unfold L_TagtreeReads_p2 L_TagtreeReads_p2_b
        refine (e0 _ _).trans (go_fad (go_i m0 (go_f (by rw [k3]; rfl) (go_f (by rw [k3]; rfl) (go_t (by rw [k3]; rfl) ?_)))))
        refine go_fad (go_i m1 (go_fad (go_i m2 (go_fad (go_i m3 ((es _ _).trans ?_))))))
        refine go_fad (go_i j1 (go_fad (go_i j2 (go_fad (go_i j3 ((er _ _).trans ?_))))))
        exact go_f rfl (go_ne rfl)
      refine ⟨H1, fun R KN KR => ?_, o1⟩
      unfold L_TagtreeReads_p2 L_TagtreeReads_p2_b
      exact (e0 _ _).trans (go_fad (go_i m0 (go_f (by rw [beq_eq_false_iff_ne]; exact k0) (go_f (by rw [beq_eq_false_iff_ne]; exact k2) (go_f (by rw [beq_eq_false_iff_ne]; exact k3) rfl)))))
    obtain ⟨H4, e4⟩ := ih n (i + 1) (by omega) (by omega) H3 (hS.keep o3)
    refine ⟨H4, fun R KE KR => ?_⟩
    unfold L_TagtreeReads_l1 L_TagtreeReads_l1_b
    refine go_t (decide_eq_true (by omega)) ((e3 _ _ _).trans ?_)
    try dsimp only
    rw [w64 (n := (i : Int) + 1) (by omega) (by omega)]
    exact e4 R KE KR
/-- The bytes' readers: one made apart, one behind. -/
theorem readers_eq {H : Heap} {q : Option Addr} {bs : List Int} (c : Nat) (hS : Shows H q (byt bs)) (hb : Byts bs) : ∃ p qw p2 qu H1 G H2, (∀ (R : Type) (K : Option Addr → Heap → Option R), bitio_NewReader q bs.length c (roH H) K = K (some ⟨p, 0, none⟩) H1) ∧ G = H ++ H1.drop H.length ∧ (∀ (R : Type) (K : Option Addr → Heap → Option R), R09_NewReader q bs.length c G K = K (some ⟨p2, 0, none⟩) H2) ∧ Old H.length H G ∧ Old H.length H H2 ∧ Rd H2 p qw bs (0, 0) ∧ Rd H2 p2 qu bs (0, 0) ∧ H.length ≤ p ∧ (∀ a, qw = some a → H.length ≤ a.block ∧ a.block < p) ∧ p < p2 ∧ (∀ a, qu = some a → p < a.block ∧ a.block < p2) ∧ p2 < H2.length := by
  obtain ⟨p, qw, H1, e1, W1, o1, hp, hq⟩ := nReader_eq c hS.ro hb
  rw [roH_length] at hp hq o1
  obtain ⟨G, hG⟩ : ∃ G, G = H ++ H1.drop H.length := ⟨_, rfl⟩
  have oG : Old H.length H G := hG ▸ Old.app _ _
  have hl1 := o1.1
  rw [roH_length] at hl1
  have lG : G.length = H1.length := by rw [hG, List.length_append, List.length_drop]; omega
  have WG : Rd G p qw bs (0, 0) := W1.same (by rw [hG]; exact lay_blk hp) (fun a ha => by rw [hG]; exact lay_blk (hq a ha).1)
  obtain ⟨p2, qu, H2, e2, U2, o2, hp2, hq2⟩ := uReader_eq c (hS.keep oG) hb
  have hpl := WG.lt
  exact ⟨p, qw, p2, qu, H1, G, H2, e1, hG, e2, oG, oG.trans (o2.mono oG.1), WG.keep o2, U2, hp, hq, by omega, fun a ha => by have := hq2 a ha; omega, U2.lt⟩
theorem reads_in (H : Heap) (us : List Value) (h : AllLies H [(.pair (.int .i64) (.pair (.int .i64) (.pair (.slc (.int .u8)) (.pair (.slc dOp) .nil))), true)] us) : L_TagtreeReads_c Bool 9223372036854777000 us H asB = some true := by
  obtain ⟨k, hk⟩ : ∃ k, k = 9223372036854777000 := ⟨_, rfl⟩
  rw [← hk]
  have hk1 : 1100000 < k := by omega
  clear hk
  obtain ⟨cs, vs, rfl, hs, h⟩ := lies_agg h
  obtain rfl := lies_nil h
  obtain ⟨c1, r1, rfl, ⟨w, rfl, _⟩, c2, r2, rfl, ⟨hh, rfl, _⟩, c3, r3, rfl, ⟨qb, cb, eb, rfl, _, _, hsb, hSb⟩, c4, r4, rfl, ⟨q, c, es, rfl, _, _, hsh, hS⟩, rfl⟩ := hs
  obtain ⟨ops, hl, hfl⟩ := ops_of es hsh
  obtain ⟨bs, hbl, hbf, hbw⟩ := bytes_of eb hsb
  rw [hfl] at hS
  rw [hbf] at hSb
  rw [← hl, ← hbl]
  show L_TagtreeReads k w hh qb bs.length cb q ops.length c H (fun t H => asB (.bool t) H) = some true
  obtain ⟨Hn, hHn⟩ : ∃ Hn, Hn = H ++ [some (⟨[.int .i64 w, .int .i64 hh, .slice qb bs.length cb, .slice q ops.length c], false, 0⟩ : Blk)] := ⟨_, rfl⟩
  have on : Old H.length H Hn := hHn ▸ Old.app _ _
  have On : Owns Hn H.length [.int .i64 w, .int .i64 hh, .slice qb bs.length cb, .slice q ops.length c] 0 := by rw [hHn]; exact hblk_new H _
  have ln : Hn.length = H.length + 1 := by rw [hHn]; simp
  have hSn := hS.keep on
  obtain ⟨H1, e1, o1⟩ := small_eq (k := k) (by omega) c hSn w hh
  have m0 : hcell Hn H.length 0 = some (.int .i64 w) := On.sees.cell 0
  have m1 : hcell Hn H.length 1 = some (.int .i64 hh) := On.sees.cell 1
  have m3 : hcell Hn H.length 3 = some (.slice q ops.length c) := On.sees.cell 3
  have O1 := On.old o1 On.lt
  have j2 : hcell H1 H.length 2 = some (.slice qb bs.length cb) := O1.sees.cell 2
  unfold L_TagtreeReads L_TagtreeReads_b L_TagtreeReads_p0 L_TagtreeReads_p0_b
  refine go_halN hHn (go_fad (go_i m0 (go_fad (go_i m1 (go_fad (go_l m3 ((e1 _ _).trans ?_)))))))
  cases hsm : smallB w hh ops
  · exact go_t rfl rfl
  obtain ⟨s1, s2, s3, s4⟩ := small_of hsm
  refine go_f rfl (go_fad (go_l j2 ?_))
  by_cases cb300 : bs.length > 300
  · exact go_t (decide_eq_true (by omega)) rfl
  refine go_f (decide_eq_false (by omega)) ?_
  have hB : Byts bs := ⟨hbw, by omega⟩
  have j0 : hcell H1 H.length 0 = some (.int .i64 w) := O1.sees.cell 0
  have j1 : hcell H1 H.length 1 = some (.int .i64 hh) := O1.sees.cell 1
  have hS1 := hSn.keep o1
  have hSb1 := (hSb.keep on).keep o1
  have hb := shows_below hS1
  refine go_fad (go_i j0 (go_fad (go_i j1 ?_)))
  rcases New_eq (k := k) (by omega) H1 w hh with ⟨hv, e2⟩ | ⟨hv, a, b, H2, q2, c2, l, hwa, hhb, a1, b1, am, bm, ab, e2, T, hll, o2⟩
  · rcases rNew_eq (k := k) (by omega) H1 w hh with ⟨_, e3⟩ | ⟨hv', _⟩
    · obtain ⟨p, qw, p2, qu, Hx, Gx, H4, e4, hGx, e5, oG, o4, W4, U4, _⟩ := readers_eq cb hSb1 hB
      have O4 := O1.old o4 O1.lt
      have OG := O1.old oG O1.lt
      have g2 : hcell Gx H.length 2 = some (.slice qb bs.length cb) := OG.sees.cell 2
      have g3 : hcell H4 H.length 3 = some (.slice q ops.length c) := O4.sees.cell 3
      obtain ⟨H6, e6⟩ := reads_nil k s3 c (pw := some ⟨p, 0, none⟩) (pu := some ⟨p2, 0, none⟩) ops.length k 0 (by omega) (by omega) H4 (hS1.keep o4)
      simp only [Int.natCast_zero] at e6
      refine (e2 _ _).trans (go_fad (go_i j0 (go_fad (go_i j1 ((e3 _ _).trans (go_ne (go_fad (go_l j2 ((e4 _ _).trans ?_)))))))))
      rw [← hGx]
      exact go_fad (go_l g2 ((e5 _ _).trans (go_fad (go_l g3 ((e6 _ _ _).trans rfl)))))
    · exact (hv hv').elim
  · have O2 := O1.old o2 O1.lt
    have x0 : hcell H2 H.length 0 = some (.int .i64 w) := O2.sees.cell 0
    have x1 : hcell H2 H.length 1 = some (.int .i64 hh) := O2.sees.cell 1
    rcases rNew_eq (k := k) (by omega) H2 w hh with ⟨hv', _⟩ | ⟨_, hr⟩
    · exact (hv' hv).elim
    · obtain ⟨H3, e3, R3, o3, n3⟩ := hr a b hwa hhb
      have G := geo_of a1 b1 am bm ab hll
      obtain ⟨glast, gbase⟩ := geo_last G hll
      have htl := tot_le 16 a b a1 b1 ab
      have RGg : RG a b l.length := ⟨a1, b1, ab, am, bm, G.pos, G.len, G.wh, by rw [gbase]; omega, glast⟩
      have l1 := o1.1
      have l2 := o2.1
      have l3 := o3.1
      have O3 := O2.old o3 O2.lt
      have y2 : hcell H3 H.length 2 = some (.slice qb bs.length cb) := O3.sees.cell 2
      have hSb3 := (hSb1.keep o2).keep o3
      obtain ⟨p, qw, p2, qu, Hx, Gx, H4, e4, hGx, e5, oG, o4, W4, U4, hp, hqw, hpp, hqu, hp2⟩ := readers_eq cb hSb3 hB
      have l4 := o4.1
      have O4 := O3.old o4 O3.lt
      have OG := O3.old oG O3.lt
      have g2 : hcell Gx H.length 2 = some (.slice qb bs.length cb) := OG.sees.cell 2
      have g3 : hcell H4 H.length 3 = some (.slice q ops.length c) := O4.sees.cell 3
      have T3 := T.old o3 (Nat.le_refl _)
      have T4 := T3.old o4 (Nat.le_refl _)
      have R4' := R3.keep o4
      have R4 : Rt H1.length H4 (H2.length + 1) H2.length (a * b + tot 16 a b) (a * b + tot 16 a b) 0 a b false false (fun _ => nz) := ⟨R4'.o, R4'.n, R4'.ne, by omega, by omega⟩
      have rel0 : Rel a b l.length (fun _ => nz) (fun _ _ => nz) := fun _ _ _ _ => rfl
      have B4 : Bth H1.length H1.length q2 c2 l a b p (H2.length + 1) H2.length (a * b + tot 16 a b) (a * b + tot 16 a b) 0 p2 H4 false false (fun _ _ => nz) (fun _ => nz) qw qu := by
        refine ⟨T4, fun _ _ => Int.le_refl 0, fun _ _ => by simp [nz], R4, rel0, T3.fresh hp, (fun a ha => by have := hqw a ha; exact ⟨T3.fresh this.1, by omega, by omega⟩), fun i hi => ?_, by omega, by omega, (fun a ha => by have := hqu a ha; omega), by omega, by omega, by omega⟩
        rcases hi with h | h | h | ⟨a, ha, h⟩
        · subst h; exact ⟨T.fresh (by omega), by omega, (fun a ha => by have := hqw a ha; omega), by omega, by omega⟩
        · subst h; exact ⟨T.fresh (by omega), by omega, (fun a ha => by have := hqw a ha; omega), by omega, by omega⟩
        · subst h; exact ⟨T3.fresh (by omega), by omega, (fun a ha => by have := hqw a ha; omega), by omega, by omega⟩
        · subst h
          have := hqu a ha
          exact ⟨T3.fresh (by omega), by omega, (fun a' ha' => by have := hqw a' ha'; omega), by omega, by omega⟩
      have hS4 := ((hS1.keep o2).keep o3).keep o4
      obtain ⟨H6, e6⟩ := reads_l (k := k) (by omega) G RGg gbase.symm s3 c hb ops.length k 0 (by omega) (by omega) H4 false (fun _ _ => nz) (fun _ => nz) _ _ _ (0, 0) B4 W4 U4 hS4
      simp only [Int.natCast_zero] at e6
      refine (e2 _ _).trans (go_fad (go_i x0 (go_fad (go_i x1 ((e3 _ _).trans (go_ne (go_fad (go_l y2 ((e4 _ _).trans ?_)))))))))
      rw [← hGx]
      exact go_fad (go_l g2 ((e5 _ _).trans (go_fad (go_l g3 ((e6 _ _ _).trans rfl)))))
end Go.Proofs.Ytblkejnciinaeaa.Sh
