/- Pkthead: new states: trees, slices that grow within a struct. -/
import Derived.Test.YtmanlfonppfhaaaSh1
import Derived.Test.YtmanlfonppfhaaaTtA
import Derived.Test.YtmanlfonppfhaaaFwM
import Derived.Test.YtmanlfonppfhaaaFwN
set_option linter.unusedVariables false
set_option linter.unusedSimpArgs false
namespace Go.Proofs.Ytmanlfonppfhaaa.Sh
open Go.Proofs.Ytmanlfonppfhaaa.FW Go.IntWalk
def ints (l : List Int) : List Value := l.map (.int .i64)
theorem ints_len (l : List Int) : (ints l).length = l.length := by simp [ints]
theorem ints_get {l : List Int} {i : Nat} {x : Int} (h : l[i]? = some x) : (ints l)[i]? = some (.int .i64 x) := by simp [ints, h]
theorem int_at {H : Heap} {q : Option Addr} {xs : List Int} (h : Shows H q (ints xs)) {i : Nat} {x : Int} (hi : xs[i]? = some x) :
    ∃ p, (∀ (R : Type) (K : Option Addr → Option R), hidx q xs.length (i : Int) 1 K = K p) ∧ ∀ (R : Type) (K : Int → Option R), ldI .i64 H p K = K x := by
  have hlt : i < xs.length := (List.getElem?_eq_some_iff.1 hi).1
  obtain ⟨p, e, _, m⟩ := h.idx (l := xs.length) (size := 1) (by rw [ints_len]; omega) (i := (i : Int)) (by omega) (by omega) (by omega)
  exact ⟨p, e, fun R K => ldI_of (m _ (by rw [Int.toNat_natCast, Nat.mul_one]; exact ints_get hi)) rfl K⟩
theorem drop_cons {α : Type} {l : List α} {i : Nat} {x : α} (h : l[i]? = some x) : l.drop i = x :: l.drop (i + 1) := by
  obtain ⟨h1, h2⟩ := List.getElem?_eq_some_iff.1 h
  rw [List.drop_eq_getElem_cons h1, h2]
theorem take_snoc {α : Type} {l : List α} {i : Nat} {x : α} (h : l[i]? = some x) : l.take (i + 1) = l.take i ++ [x] := by rw [List.take_add_one, h]; rfl
theorem ex_get {α : Type} {l : List α} {i : Nat} (h : i < l.length) : ∃ x, l[i]? = some x := ⟨_, List.getElem?_eq_getElem h⟩
theorem Shows.same' {H H' : Heap} {q : Option Addr} {cs : List Value} (h : Shows H q cs) (e : ∀ a, q = some a → hblk H' a.block = hblk H a.block) : Shows H' q cs := by
  rcases h with h | ⟨b, o, full, rfl, ⟨B, g1, g2⟩, h2, h3⟩
  · exact .inl h
  · exact .inr ⟨b, o, full, rfl, ⟨B, by rw [e _ rfl]; exact g1, g2⟩, h2, h3⟩
theorem Bld.app2 {N size bytes : Nat} {H : Heap} {q p : Option Addr} {l c n : Nat} {cs xs : List Value} (h : Bld N size H q l c cs) (hp : Shows H p xs) (hx : xs.length = n * size) (hb : (l + n) * bytes ≤ 35184372088832) (hn : 0 < n) :
    ∃ H', (∀ (R : Type) (K : Option Addr → Nat → Nat → Heap → Option R), happS size bytes H q l c p n K = K (some ⟨H.length, 0, none⟩) (l + n) unk H') ∧ Owns H' H.length (cs ++ xs) size ∧ (∀ i, i < H.length → (∀ a, q = some a → a.block ≠ i) → hblk H' i = hblk H i) ∧ H'.length = H.length + 1 ∧ (l + n) * size = (cs ++ xs).length := by
  have hc := hp.hcells
  rw [hx] at hc
  rcases h with ⟨rfl, rfl, rfl, rfl⟩ | ⟨b, rfl, rfl, h3, h4, h5⟩
  · refine ⟨H ++ [some ⟨xs, false, size⟩], fun R K => ?_, (show hblk _ _ = _ from app_new H (some ⟨xs, false, size⟩) []), fun i hi _ => app_old hi, by simp, by simp [hx]⟩
    unfold happS happ
    rw [hc]
    simp only
    rw [if_neg (by unfold unk; omega), if_neg (by omega), if_pos hb]
    simp [FW.hcells]
  · have hblt := h4.sees.lt
    have h4' : hblk H b = some ⟨cs, false, size⟩ := h4
    refine ⟨hset H b none ++ [some ⟨cs ++ xs, false, size⟩], fun R K => ?_, ?_, fun i hi hne => ?_, by simp [hset_length], by rw [Nat.add_mul, h5, List.length_append, hx]⟩
    · unfold happS happ
      rw [hc]
      simp only [if_true, h4', cond_false, h5, hb, true_and, and_self]
    · have := app_new (hset H b none) (some ⟨cs ++ xs, false, size⟩) []
      rwa [hset_length] at this
    · rw [app_old (by rw [hset_length]; omega), hset_get, if_neg (fun hh => hne _ rfl hh.1.symm)]
def OldX (N b : Nat) (H H' : Heap) : Prop := H.length ≤ H'.length ∧ ∀ i, i < N → i ≠ b → hblk H' i = hblk H i
theorem OldX.old {N b : Nat} {H H' : Heap} (h : OldX N b H H') (hb : N ≤ b) : Old N H H' := ⟨h.1, fun i hi => h.2 i hi (by omega)⟩
theorem OldX.low {N b : Nat} {H H' : Heap} (h : OldX N b H H') (hb : b ≤ N) : Old b H H' := ⟨h.1, fun i hi => h.2 i (by omega) (by omega)⟩
theorem Old.x {N : Nat} {H H' : Heap} (b : Nat) (h : Old N H H') : OldX N b H H' := ⟨h.1, fun i hi _ => h.2 i hi⟩
theorem OldX.trans {N b : Nat} {H1 H2 H3 : Heap} (h : OldX N b H1 H2) (g : OldX N b H2 H3) : OldX N b H1 H3 := ⟨Nat.le_trans h.1 g.1, fun i hi hn => (g.2 i hi hn).trans (h.2 i hi hn)⟩
theorem grow1 {N b sz bytes o : Nat} {H : Heap} {X : List Value} {qp : Option Addr} {l cp : Nat} {cells ec : List Value} (O : Owns H b X 0) (hX : o < X.length) (B : Bld N sz H qp l cp cells) (hpa : ∀ a, qp = some a → a.block ≠ b) (hsz : ec.length = sz) (hl : (l + 1) * bytes ≤ 35184372088832) (hN : N ≤ H.length) :
    ∃ H1 H2 H3, H1 = H ++ [some (⟨ec, false, 0⟩ : Blk)] ∧ (∀ (R : Type) (K : Option Addr → Nat → Nat → Heap → Option R), happS sz bytes H1 qp l cp (some ⟨H.length, 0, none⟩) 1 K = K (some ⟨H.length + 1, 0, none⟩) (l + 1) unk H2) ∧ (∀ (R : Type) (K : Heap → Option R), hst1 H2 (some ⟨b, o, none⟩) (.slice (some ⟨H.length + 1, 0, none⟩) (l + 1) unk) K = K H3) ∧ Owns H3 b (X.set o (.slice (some ⟨H.length + 1, 0, none⟩) (l + 1) unk)) 0 ∧ Bld N sz H3 (some ⟨H.length + 1, 0, none⟩) (l + 1) unk (cells ++ ec) ∧ (∀ i, i < H.length → (∀ a, qp = some a → a.block ≠ i) → i ≠ b → hblk H3 i = hblk H i) ∧ OldX N b H H3 ∧ H3.length = H.length + 2 := by
  obtain ⟨H1, hH1⟩ : ∃ H1, H1 = H ++ [some (⟨ec, false, 0⟩ : Blk)] := ⟨_, rfl⟩
  have o1 : Old H.length H H1 := hH1 ▸ Old.app _ _
  have O1 : Owns H1 H.length ec 0 := by rw [hH1]; exact hblk_new H _
  have l1 : H1.length = H.length + 1 := by rw [hH1]; simp
  have hbl := O.lt
  have B1 := B.old o1 (Nat.le_refl _)
  obtain ⟨H2, e2, O2, f2, l2, x2⟩ := Bld.app2 B1 (bytes := bytes) (n := 1) O1.sees.shows (by rw [hsz, Nat.one_mul]) hl (by omega)
  rw [l1] at e2 O2
  have Ob2 : Owns H2 b X 0 := by
    show hblk H2 b = _
    rw [f2 b (by omega) hpa]; exact O.old o1 hbl
  obtain ⟨H3, e3, O3, b3, n3⟩ := Ob2.st1 (o := o) hX (.slice (some ⟨H.length + 1, 0, none⟩) (l + 1) unk)
  have key : ∀ i, i < H.length → (∀ a, qp = some a → a.block ≠ i) → i ≠ b → hblk H3 i = hblk H i := fun i hi h1 h2 => by
    rw [b3.2 i (by omega) h2, f2 i (by omega) h1, o1.2 i hi]
  refine ⟨H1, H2, H3, hH1, e2, e3, O3, .inr ⟨_, rfl, rfl, by omega, O2.but b3 (by omega), x2⟩, key, ⟨by omega, fun i hi hn => key i (by omega) (fun a ha => ?_) hn⟩, by omega⟩
  rcases B with ⟨h, _⟩ | ⟨b', h, _, h3, _⟩
  · rw [h] at ha; cases ha
  · rw [h] at ha; cases ha; exact fun (h : b' = i) => by omega
theorem fm_get {α : Type} (f : α → List Value) (sz : Nat) (hf : ∀ a, (f a).length = sz) : ∀ (l : List α) (i : Nat) (x : α), l[i]? = some x → ∀ j, j < sz → (l.flatMap f)[i * sz + j]? = (f x)[j]? := by
  intro l
  induction l with
  | nil => intro i x h; simp at h
  | cons y l ih =>
    intro i x h j hj
    rw [List.flatMap_cons]
    cases i with
    | zero => simp at h; subst h; rw [Nat.zero_mul, Nat.zero_add, List.getElem?_append_left (by rw [hf]; exact hj)]
    | succ i =>
      simp only [List.getElem?_cons_succ] at h
      rw [List.getElem?_append_right (by rw [hf, Nat.succ_mul]; omega), hf, show (i + 1) * sz + j - sz = i * sz + j from by rw [Nat.succ_mul]; omega]
      exact ih i x h j hj
theorem el_at {α : Type} {f : α → List Value} {sz : Nat} (hf : ∀ a, (f a).length = sz) (h0 : 0 < sz) {H : Heap} {q : Option Addr} {l : List α} (h : Shows H q (l.flatMap f)) (hlen : (l.flatMap f).length = l.length * sz) {i : Nat} {x : α} (hi : l[i]? = some x) :
    ∃ b o, (∀ (R : Type) (K : Option Addr → Option R), hidx q l.length (i : Int) sz K = K (some ⟨b, o, none⟩)) ∧ ∀ j, j < sz → hcell H b (o + j) = (f x)[j]? := by
  have hlt : i < l.length := (List.getElem?_eq_some_iff.1 hi).1
  have hmul : i * sz + sz ≤ l.length * sz := by
    have := Nat.mul_le_mul_right sz (show i + 1 ≤ l.length from hlt)
    rwa [Nat.add_mul, Nat.one_mul] at this
  rcases h with h | ⟨b, o, full, rfl, hs, h1, h2⟩
  · rw [h] at hlen; simp at hlen; omega
  · refine ⟨b, o + i * sz, fun R K => ?_, fun j hj => ?_⟩
    · simp only [hidx]; rw [if_pos ⟨by omega, by omega⟩, Int.toNat_natCast]
    · rw [hs.cell, ← fm_get f sz hf l i x hi j hj, ← h2, List.getElem?_take, if_pos (by omega), List.getElem?_drop, Nat.add_assoc]
def tot : Nat → Nat → Nat → Nat
  | 0, _, _ => 0
  | m + 1, w, h => if w = 1 ∧ h = 1 then 0 else (w + 1) / 2 * ((h + 1) / 2) + tot m ((w + 1) / 2) ((h + 1) / 2)
theorem tot_le : ∀ (m w h : Nat), 1 ≤ w → 1 ≤ h → w * h ≤ 65536 → tot m w h ≤ m * 65536 := by
  intro m
  induction m with
  | zero => intro w h _ _ _; simp [tot]
  | succ m ih =>
    intro w h h1 h2 h3
    have := half_mul h1 h2 h3
    have := ih ((w + 1) / 2) ((h + 1) / 2) (by omega) (by omega) this
    unfold tot; split <;> omega
theorem one_of {w h : Nat} (h1 : 1 ≤ w) (h2 : 1 ≤ h) : w * h > 1 ↔ ¬ (w = 1 ∧ h = 1) := by
  constructor
  · rintro h3 ⟨rfl, rfl⟩; omega
  · intro h3
    by_cases c : w = 1
    · subst c
      have : h ≠ 1 := fun e => h3 ⟨rfl, e⟩
      omega
    · have := Nat.mul_le_mul (show 2 ≤ w by omega) h2
      omega
theorem rnew_l (k : Nat) (x y : Int) : ∀ (m n w h t : Nat), m < n → 1 ≤ w → 1 ≤ h → w ≤ 2 ^ m → h ≤ 2 ^ m → m ≤ 16 → t + m * 65536 ≤ 10000000 → w * h ≤ 65536 → ∀ (R : Type) (KE : Int → Int → Int → Option R), R10_New_l2 k KE n x y (t : Int) (w : Int) (h : Int) = KE x y ((t + tot m w h : Nat) : Int) := by
  intro m
  induction m with
  | zero =>
    intro n w h t hn hw hh hw2 hh2 hm ht hwh R KE
    obtain ⟨n, rfl⟩ : ∃ n', n = n' + 1 := ⟨n - 1, by omega⟩
    simp only [Nat.pow_zero] at hw2 hh2
    obtain rfl : w = 1 := by omega
    obtain rfl : h = 1 := by omega
    have w1 : IntKind.wrap .i64 (((1 : Nat) : Int) * ((1 : Nat) : Int)) = ((1 * 1 : Nat) : Int) := mulw (by omega)
    unfold R10_New_l2 R10_New_l2_b
    rw [w1]
    rfl
  | succ m ih =>
    intro n w h t hn hw hh hw2 hh2 hm ht hwh R KE
    obtain ⟨n, rfl⟩ : ∃ n', n = n' + 1 := ⟨n - 1, by omega⟩
    have p16 : 2 ^ (m + 1) ≤ 2 ^ 16 := Nat.pow_le_pow_right (by omega) hm
    have hp : 2 ^ (m + 1) = 2 * 2 ^ m := Nat.pow_succ'
    have w1 : IntKind.wrap .i64 ((w : Int) * (h : Int)) = ((w * h : Nat) : Int) := mulw hwh
    by_cases hone : w = 1 ∧ h = 1
    · obtain ⟨rfl, rfl⟩ := hone
      have : tot (m + 1) 1 1 = 0 := by unfold tot; rw [if_pos ⟨rfl, rfl⟩]
      rw [this]
      unfold R10_New_l2 R10_New_l2_b
      rw [w1]; rfl
    · have e1 : tot (m + 1) w h = (w + 1) / 2 * ((h + 1) / 2) + tot m ((w + 1) / 2) ((h + 1) / 2) := by rw [tot, if_neg hone]
      have hw1 := half_w (w := w) (by omega)
      have hh1 := half_w (w := h) (by omega)
      have hm2 := half_mul hw hh hwh
      have w2 : IntKind.wrap .i64 ((((w + 1) / 2 : Nat) : Int) * (((h + 1) / 2 : Nat) : Int)) = (((w + 1) / 2 * ((h + 1) / 2) : Nat) : Int) := mulw hm2
      have w3 : IntKind.wrap .i64 ((t : Int) + (((w + 1) / 2 * ((h + 1) / 2) : Nat) : Int)) = ((t + (w + 1) / 2 * ((h + 1) / 2) : Nat) : Int) := by rw [w64 (by omega) (by omega)]; omega
      have r := ih n ((w + 1) / 2) ((h + 1) / 2) (t + (w + 1) / 2 * ((h + 1) / 2)) (by omega) (by omega) (by omega) (by omega) (by omega) (by omega) (by omega) hm2 R KE
      have h1 := (one_of hw hh).2 hone
      have d1 : decide (((w * h : Nat) : Int) > 1) = true := decide_eq_true (by omega)
      rw [e1, ← Nat.add_assoc, ← r]
      unfold R10_New_l2 R10_New_l2_b
      rw [w1]
      refine go_t d1 ?_
      rw [hw1, hh1, w2, w3]
      cases n <;> rfl
theorem rNew_eq {k : Nat} (hk : 100 < k) (H : Heap) (w h : Int) : ∃ p H', (∀ (R : Type) (K : Option Addr → Int → Heap → Option R), R10_New k w h H K = K p (vld w h) H') ∧ Old H.length H H' := by
  by_cases hv : vld w h = 0
  · have hv2 := hv
    unfold vld at hv2
    split at hv2
    · omega
    split at hv2
    · omega
    rename_i c1 c2
    obtain ⟨a, rfl⟩ : ∃ a : Nat, w = a := ⟨w.toNat, by omega⟩
    obtain ⟨b, rfl⟩ : ∃ b : Nat, h = b := ⟨h.toNat, by omega⟩
    have hab : a * b ≤ 65536 := by rw [← Int.natCast_mul] at c2; omega
    have w1 : IntKind.wrap .i64 ((a : Int) * (b : Int)) = ((a * b : Nat) : Int) := mulw hab
    have hl := rnew_l k (a : Int) (b : Int) 16 k a b (a * b) (by omega) (by omega) (by omega) (by omega) (by omega) (by omega) (by omega) hab
    have htl := tot_le 16 a b (by omega) (by omega) hab
    obtain ⟨Ha, hHa⟩ : ∃ Ha, Ha = H ++ [some (⟨mkCells [.int .i64 0, .int .i64 0, .bool false] (a * b + tot 16 a b), false, 0⟩ : Blk)] := ⟨_, rfl⟩
    obtain ⟨Hb, hHb⟩ : ∃ Hb, Hb = Ha ++ [some (⟨[.bool true, .int .i64 (a : Int), .int .i64 (b : Int), .slice (some ⟨H.length, 0, none⟩) (a * b + tot 16 a b) (a * b + tot 16 a b), .bool false, .bool false], false, 0⟩ : Blk)] := ⟨_, rfl⟩
    have em : ∀ (R : Type) (K : Option Addr → Nat → Nat → Heap → Option R), hmk [.int .i64 0, .int .i64 0, .bool false] 24 H ((a * b + tot 16 a b : Nat) : Int) ((a * b + tot 16 a b : Nat) : Int) K = K (some ⟨H.length, 0, none⟩) (a * b + tot 16 a b) (a * b + tot 16 a b) Ha := fun R K => by
      unfold hmk
      rw [if_pos ⟨by omega, by omega, by omega, by omega⟩, hHa]; rfl
    have d1 : decide ((a : Int) < 1) = false := decide_eq_false (by omega)
    have d2 : decide ((b : Int) < 1) = false := decide_eq_false (by omega)
    have d3 : decide ((a : Int) > 65536) = false := decide_eq_false (by omega)
    have d4 : decide ((b : Int) > 65536) = false := decide_eq_false (by omega)
    have d5 : decide (((a * b : Nat) : Int) > 65536) = false := decide_eq_false (by omega)
    have oa : Old H.length H Ha := hHa ▸ Old.app _ _
    have ob : Old Ha.length Ha Hb := hHb ▸ Old.app _ _
    refine ⟨some ⟨Ha.length, 0, none⟩, Hb, fun R K => ?_, oa.trans (ob.mono oa.1)⟩
    rw [hv]
    unfold R10_New R10_New_b R10_New_p0 R10_New_p0_b R10_New_p1 R10_New_p1_b
    refine go_f d1 (go_f d2 (go_f d3 (go_f d4 ?_)))
    try dsimp only
    rw [w1]
    refine go_f d5 ?_
    refine (hl _ _).trans ((em _ _).trans ?_)
    exact go_halN hHb rfl
  · refine ⟨none, H, fun R K => ?_, .refl _ _⟩
    unfold R10_New R10_New_b R10_New_p0 R10_New_p0_b R10_New_p1 R10_New_p1_b
    unfold vld at hv ⊢
    by_cases c1 : w < 1
    · rw [if_pos (.inl c1), decide_eq_true c1]; rfl
    by_cases c2 : h < 1
    · rw [if_pos (.inr c2), decide_eq_false c1, decide_eq_true c2]; rfl
    rw [if_neg (by omega)] at hv ⊢
    refine go_f (decide_eq_false c1) (go_f (decide_eq_false c2) ?_)
    by_cases c3 : w > 65536
    · rw [if_pos (.inl c3)]; exact go_t (decide_eq_true c3) rfl
    by_cases c4 : h > 65536
    · rw [if_pos (.inr (.inl c4))]; exact go_f (decide_eq_false c3) (go_t (decide_eq_true c4) rfl)
    have hm := mul_le (w := w) (h := h) (by omega) (by omega) (by omega) (by omega)
    refine go_f (decide_eq_false c3) (go_f (decide_eq_false c4) ?_)
    by_cases c5 : w * h > 65536
    · rw [if_pos (.inr (.inr c5))]
      try dsimp only
      rw [w64 (by omega) (by omega)]
      exact go_t (decide_eq_true c5) rfl
    · rw [if_neg (by omega)] at hv; exact (hv rfl).elim
/-- A slice that a struct holds: its place there, the size of an element, where it lies, what it shows. -/
structure Sl where
  o : Nat
  sz : Nat
  q : Option Addr
  l : Nat
  c : Nat
  xs : List Value
/-- A struct of one's own with slices that grow. -/
structure Gw (N b : Nat) (H : Heap) (X : List Value) (S : List Sl) : Prop where
  o : Owns H b X 0
  m : ∀ s ∈ S, X[s.o]? = some (.slice s.q s.l s.c)
  f : ∀ s ∈ S, Bld N s.sz H s.q s.l s.c s.xs
  a : ∀ s ∈ S, ∀ a, s.q = some a → a.block ≠ b
  d : S.Pairwise fun s t => ∀ a a', s.q = some a → t.q = some a' → a.block ≠ a'.block
/-- What a struct with slices does not touch. -/
def Ot (b : Nat) (S : List Sl) (i : Nat) : Prop := i ≠ b ∧ ∀ s ∈ S, ∀ a, s.q = some a → a.block ≠ i
theorem Gw.keep {N b : Nat} {H H' : Heap} {X : List Value} {S : List Sl} (G : Gw N b H X S) (o : Old H.length H H') : Gw N b H' X S := ⟨G.o.old o G.o.lt, G.m, fun s hs => (G.f s hs).old o (Nat.le_refl _), G.a, G.d⟩
theorem Gw.grow {N b : Nat} {H : Heap} {X : List Value} {A B : List Sl} {s : Sl} {bytes : Nat} {ec : List Value} (G : Gw N b H X (A ++ s :: B)) (hA : ∀ t ∈ A, t.o ≠ s.o) (hB : ∀ t ∈ B, t.o ≠ s.o) (hsz : ec.length = s.sz) (hl : (s.l + 1) * bytes ≤ 35184372088832) (hN : N ≤ H.length) :
    ∃ H1 H2 H3, H1 = H ++ [some (⟨ec, false, 0⟩ : Blk)] ∧ (∀ (R : Type) (K : Option Addr → Nat → Nat → Heap → Option R), happS s.sz bytes H1 s.q s.l s.c (some ⟨H.length, 0, none⟩) 1 K = K (some ⟨H.length + 1, 0, none⟩) (s.l + 1) unk H2) ∧ (∀ (R : Type) (K : Heap → Option R), hst1 H2 (some ⟨b, s.o, none⟩) (.slice (some ⟨H.length + 1, 0, none⟩) (s.l + 1) unk) K = K H3) ∧ Gw N b H3 (X.set s.o (.slice (some ⟨H.length + 1, 0, none⟩) (s.l + 1) unk)) (A ++ ⟨s.o, s.sz, some ⟨H.length + 1, 0, none⟩, s.l + 1, unk, s.xs ++ ec⟩ :: B) ∧ (∀ i, i < H.length → Ot b (A ++ s :: B) i → hblk H3 i = hblk H i) ∧ OldX N b H H3 ∧ H3.length = H.length + 2 := by
  have hs : s ∈ A ++ s :: B := by simp
  have hm := G.m s hs
  have hlt := (List.getElem?_eq_some_iff.1 hm).1
  obtain ⟨H1, H2, H3, hH1, e2, e3, O3, B3, key, o3, n3⟩ := grow1 (bytes := bytes) (o := s.o) (ec := ec) G.o hlt (G.f s hs) (G.a s hs) hsz hl hN
  have hd := G.d
  rw [List.pairwise_append, List.pairwise_cons] at hd
  obtain ⟨d1, ⟨d2, d3⟩, d4⟩ := hd
  have apart : ∀ t, t ∈ A ∨ t ∈ B → ∀ a a', s.q = some a → t.q = some a' → a.block ≠ a'.block := fun t ht a a' h1 h2 => by
    rcases ht with ht | ht
    · exact (d4 t ht s (by simp) a' a h2 h1).symm
    · exact d2 t ht a a' h1 h2
  have low : ∀ t ∈ A ++ s :: B, ∀ a, t.q = some a → a.block < H.length := fun t ht a ha => (G.f t ht).below a ha
  have other : ∀ t, t ∈ A ∨ t ∈ B → t ∈ A ++ s :: B := fun t ht => by
    rcases ht with ht | ht
    · exact List.mem_append_left _ ht
    · exact List.mem_append_right _ (List.mem_cons_of_mem _ ht)
  have kb : ∀ t, t ∈ A ∨ t ∈ B → Bld N t.sz H3 t.q t.l t.c t.xs := fun t ht => by
    have ht' := other t ht
    rcases G.f t ht' with h | ⟨b', h1, h2, h3, h4, h5⟩
    · exact .inl h
    · refine .inr ⟨b', h1, h2, h3, ?_, h5⟩
      show hblk H3 b' = _
      rw [key b' h4.lt (fun a ha => apart t ht a _ ha h1) (G.a t ht' _ h1)]; exact h4
  refine ⟨H1, H2, H3, hH1, e2, e3, ⟨O3, fun t ht => ?_, fun t ht => ?_, fun t ht a ha => ?_, ?_⟩, fun i hi ho => key i hi (ho.2 s hs) ho.1, o3, n3⟩
  · rcases List.mem_append.1 ht with h | h
    · rw [List.getElem?_set_ne (fun hh => hA t h hh.symm)]; exact G.m t (other t (.inl h))
    · rcases List.mem_cons.1 h with rfl | h
      · simp [hlt]
      · rw [List.getElem?_set_ne (fun hh => hB t h hh.symm)]; exact G.m t (other t (.inr h))
  · rcases List.mem_append.1 ht with h | h
    · exact kb t (.inl h)
    · rcases List.mem_cons.1 h with rfl | h
      · exact B3
      · exact kb t (.inr h)
  · have hbl := G.o.lt
    rcases List.mem_append.1 ht with h | h
    · exact G.a t (other t (.inl h)) a ha
    · rcases List.mem_cons.1 h with rfl | h
      · cases ha; simp only; omega
      · exact G.a t (other t (.inr h)) a ha
  · rw [List.pairwise_append, List.pairwise_cons]
    refine ⟨d1, ⟨fun t ht a a' h1 h2 => ?_, d3⟩, fun t ht u hu a a' h1 h2 => ?_⟩
    · have := low t (other t (.inr ht)) a' h2
      cases h1; simp only; omega
    · rcases List.mem_cons.1 hu with rfl | hu
      · have := low t (other t (.inl ht)) a h1
        cases h2; simp only; omega
      · exact d4 t ht u (List.mem_cons_of_mem _ hu) a a' h1 h2
/-- A new tree of the program, as far as it can be seen from outside. -/
theorem tNew_eq {k : Nat} (hk : 100 < k) (H : Heap) (w h : Int) : ∃ p H', (∀ (R : Type) (K : Option Addr → Int → Heap → Option R), tagtree_New k w h H K = K p (vld w h) H') ∧ Old H.length H H' := by
  rcases New_eq hk H w h with ⟨hv, e⟩ | ⟨hv, a, b, H', q, c, l, _, _, _, _, _, _, _, e, _, _, o⟩
  · exact ⟨none, H, e, .refl _ _⟩
  · exact ⟨_, H', fun R K => by rw [hv]; exact e R K, o⟩
end Go.Proofs.Ytmanlfonppfhaaa.Sh
