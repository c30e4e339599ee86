/- Colorspec: bytes; the program's and the reference's Encode. -/
import Derived.Test.YtkjcjlembepdkaaSh14
import Derived.Test.YtkjcjlembepdkaaSh9
import Derived.Test.YtkjcjlembepdkaaCsH
set_option linter.unusedVariables false
set_option linter.unusedSimpArgs false
namespace Go.Proofs.Ytkjcjlembepdkaa.Sh
open Go.Proofs.Ytkjcjlembepdkaa.FW
def byt (l : List Int) : List Value := l.map (.int .u8)
theorem byt_len (l : List Int) : (byt l).length = l.length := by simp [byt]
theorem byt_app (a b : List Int) : byt (a ++ b) = byt a ++ byt b := by simp [byt]
theorem nums_byt (l : List Int) : nums (byt l) = some l := by
  induction l with
  | nil => rfl
  | cons x l ih => show (match nums (byt l) with | some xs => some (x :: xs) | none => none) = _; rw [ih]
theorem b2s_eq {H : Heap} {q : Option Addr} {l : List Int} (h : Shows H q (byt l)) (R : Type) (K : ByteArray → Option R) : hb2s H q l.length K = K (strOfNums l) := by
  unfold hb2s
  have := h.hcells
  rw [byt_len] at this
  rw [this]
  simp only [nums_byt]
theorem ba_beq (s : ByteArray) : (s == s) = true := by
  show (s.data == s.data) = true
  exact beq_self_eq_true _
def w8 (n : Int) : Int := IntKind.wrap .u8 n
theorem w8_in {n : Int} (h0 : 0 ≤ n) (h1 : n ≤ 255) : w8 n = n := IntWalk.u8_in n ⟨h0, h1⟩
/-- A row that has grown, or is full. -/
def Grw (N size : Nat) (H : Heap) (q : Option Addr) (l c : Nat) (cs : List Value) : Prop := Bld N size H q l c cs ∨ (l = c ∧ c < unk ∧ Shows H q cs ∧ l * size = cs.length)
theorem Grw.shows {N size : Nat} {H : Heap} {q : Option Addr} {l c : Nat} {cs : List Value} (h : Grw N size H q l c cs) : Shows H q cs ∧ l * size = cs.length := by
  rcases h with h | ⟨_, _, h, e⟩
  · exact h.shows
  · exact ⟨h, e⟩
theorem Grw.keep {N size : Nat} {H H' : Heap} {q : Option Addr} {l c : Nat} {cs : List Value} (h : Grw N size H q l c cs) (o : Old H.length H H') : Grw N size H' q l c cs := by
  rcases h with h | ⟨e1, e2, h, e⟩
  · exact .inl (h.old o (Nat.le_refl _))
  · exact .inr ⟨e1, e2, h.keep o, e⟩
theorem Grw.app {N size bytes : Nat} {H : Heap} {q p : Option Addr} {l c n : Nat} {cs xs : List Value} (h : Grw N size H q l c cs) (hN : N ≤ H.length) (hp : Shows H p xs) (hx : xs.length = n * size) (hb : (l + n) * bytes ≤ 35184372088832) (hn : 0 < n) :
    ∃ q' H', (∀ (R : Type) (K : Option Addr → Nat → Nat → Heap → Option R), happS size bytes H q l c p n K = K q' (l + n) unk H') ∧ Grw N size H' q' (l + n) unk (cs ++ xs) ∧ Old N H H' ∧ H'.length = H.length + 1 := by
  rcases h with h | ⟨rfl, e2, h, e⟩
  · obtain ⟨q', H', e1, B, o, l'⟩ := h.app hN hp hx hb hn
    exact ⟨q', H', e1, .inl B, o, l'⟩
  · have hc := hp.hcells
    rw [hx] at hc
    have ho := h.hcells
    rw [← e] at ho
    refine ⟨some ⟨H.length, 0, none⟩, H ++ [some ⟨cs ++ xs, false, size⟩], fun R K => ?_, .inl (.inr ⟨H.length, rfl, rfl, hN, (show hblk _ _ = _ from app_new H (some ⟨cs ++ xs, false, size⟩) []), by rw [Nat.add_mul, List.length_append, e, hx]⟩), (Old.app _ _).mono hN, by simp⟩
    unfold happS happ
    rw [hc]
    dsimp only
    rw [if_neg (by omega), if_neg (by omega), if_pos hb, ho]
/-- A byte appended. -/
theorem Grw.one {N : Nat} {H : Heap} {q : Option Addr} {c : Nat} {xs : List Int} (h : Grw N 1 H q xs.length c (byt xs)) (hN : N ≤ H.length) (hl : xs.length ≤ 100000000) (x : Int) :
    ∃ H1 q' H', H1 = H ++ [some (⟨[.int .u8 x], false, 0⟩ : Blk)] ∧ (∀ (R : Type) (K : Option Addr → Nat → Nat → Heap → Option R), happS 1 1 H1 q xs.length c (some ⟨H.length, 0, none⟩) 1 K = K q' (xs.length + 1) unk H') ∧ Grw N 1 H' q' (xs ++ [x]).length unk (byt (xs ++ [x])) ∧ Old N H H' ∧ H.length ≤ H'.length := by
  obtain ⟨H1, hH1⟩ : ∃ H1, H1 = H ++ [some (⟨[.int .u8 x], false, 0⟩ : Blk)] := ⟨_, rfl⟩
  have o1 : Old H.length H H1 := hH1 ▸ Old.app _ _
  have O1 : Owns H1 H.length (byt [x]) 0 := by rw [hH1]; exact hblk_new H _
  have l1 : H1.length = H.length + 1 := by rw [hH1]; simp
  obtain ⟨q', H', e, G, o, l'⟩ := (h.keep o1).app (bytes := 1) (n := 1) (by omega) O1.sees.shows rfl (by omega) (by omega)
  refine ⟨H1, q', H', hH1, e, ?_, (o1.mono hN).trans o, by omega⟩
  rw [List.length_append, byt_app]
  exact G
theorem enc0_l (k : Nat) (p : Option Addr) {N : Nat} {q : Option Addr} {rs : List Int} (c : Nat) (hl : rs.length ≤ 1000) : ∀ (m n i : Nat), m < n → rs.length = i + m → ∀ (H : Heap) (q1 : Option Addr) (c1 : Nat) (bs : List Int), Grw N 1 H q1 bs.length c1 (byt bs) → N ≤ H.length → (∀ a, q = some a → a.block < N) → Shows H q (ints rs) → bs.length + m ≤ 10000000 →
    ∃ H' q' c', (∀ (R : Type) (KE : Option Addr → Option Addr → Nat → Nat → Heap → Option R), colorspec_Encode_l0 k KE n p q1 bs.length c1 q rs.length c ((rs.length : Nat) : Int) (i : Int) H = KE p q' (bs ++ (rs.drop i).map w8).length c' H') ∧ Grw N 1 H' q' (bs ++ (rs.drop i).map w8).length c' (byt (bs ++ (rs.drop i).map w8)) ∧ Old N H H' := by
  intro m
  induction m with
  | zero =>
    intro n i hn hj H q1 c1 bs G hN hq hS hbl
    obtain ⟨n, rfl⟩ : ∃ n', n = n' + 1 := ⟨n - 1, by omega⟩
    have : bs ++ (rs.drop i).map w8 = bs := by rw [List.drop_eq_nil_of_le (by omega)]; simp
    rw [this]
    refine ⟨H, q1, c1, fun R KE => ?_, G, .refl _ _⟩
    unfold colorspec_Encode_l0 colorspec_Encode_l0_b
    exact go_f (decide_eq_false (by omega)) rfl
  | succ m ih =>
    intro n i hn hj H q1 c1 bs G hN hq hS hbl
    obtain ⟨n, rfl⟩ : ∃ n', n = n' + 1 := ⟨n - 1, by omega⟩
    obtain ⟨x, hx⟩ := ex_get (l := rs) (i := i) (by omega)
    obtain ⟨p', e1, e2⟩ := int_at hS hx
    obtain ⟨H1, q2, H2, hH1, e3, G2, o2, l2⟩ := G.one hN (by omega) (w8 x)
    have hS2 := hS.old o2 (.inr hq)
    obtain ⟨H3, q3, c3, e4, G3, o3⟩ := ih n (i + 1) (by omega) (by omega) H2 q2 unk _ G2 (by omega) hq hS2 (by rw [List.length_append, List.length_singleton]; omega)
    have he : bs ++ (rs.drop i).map w8 = bs ++ [w8 x] ++ (rs.drop (i + 1)).map w8 := by rw [drop_cons hx]; simp
    rw [he]
    refine ⟨H3, q3, c3, fun R KE => ?_, G3, o2.trans o3⟩
    unfold colorspec_Encode_l0 colorspec_Encode_l0_b
    refine go_t (decide_eq_true (by omega)) ((e1 _ _).trans ((e2 _ _).trans (go_halN hH1 ((e3 _ _).trans ?_))))
    rw [w64 (n := (i : Int) + 1) (by omega) (by omega)]
    have := e4 R KE
    rw [List.length_append] at this
    exact this
theorem enc2_l (k : Nat) {N : Nat} {q : Option Addr} {rs : List Int} (c : Nat) (hl : rs.length ≤ 1000) (qp : Option Addr) (lp cp : Nat) (np ip : Int) : ∀ (m n i : Nat), m < n → rs.length = i + m → ∀ (H : Heap) (q1 : Option Addr) (c1 : Nat) (bs : List Int), Grw N 1 H q1 bs.length c1 (byt bs) → N ≤ H.length → (∀ a, q = some a → a.block < N) → Shows H q (ints rs) → bs.length + m ≤ 80000000 →
    ∃ H' q' c', (∀ (R : Type) (KE : Option Addr → Nat → Nat → Option Addr → Nat → Nat → Int → Int → Heap → Option R), colorspec_Encode_l2 k KE n q1 bs.length c1 qp lp cp np ip q rs.length c ((rs.length : Nat) : Int) (i : Int) H = KE q' (bs ++ (rs.drop i).map w8).length c' qp lp cp np ip H') ∧ Grw N 1 H' q' (bs ++ (rs.drop i).map w8).length c' (byt (bs ++ (rs.drop i).map w8)) ∧ Old N H H' := by
  intro m
  induction m with
  | zero =>
    intro n i hn hj H q1 c1 bs G hN hq hS hbl
    obtain ⟨n, rfl⟩ : ∃ n', n = n' + 1 := ⟨n - 1, by omega⟩
    have : bs ++ (rs.drop i).map w8 = bs := by rw [List.drop_eq_nil_of_le (by omega)]; simp
    rw [this]
    refine ⟨H, q1, c1, fun R KE => ?_, G, .refl _ _⟩
    unfold colorspec_Encode_l2 colorspec_Encode_l2_b
    exact go_f (decide_eq_false (by omega)) rfl
  | succ m ih =>
    intro n i hn hj H q1 c1 bs G hN hq hS hbl
    obtain ⟨n, rfl⟩ : ∃ n', n = n' + 1 := ⟨n - 1, by omega⟩
    obtain ⟨x, hx⟩ := ex_get (l := rs) (i := i) (by omega)
    obtain ⟨p', e1, e2⟩ := int_at hS hx
    obtain ⟨H1, q2, H2, hH1, e3, G2, o2, l2⟩ := G.one hN (by omega) (w8 x)
    have hS2 := hS.old o2 (.inr hq)
    obtain ⟨H3, q3, c3, e4, G3, o3⟩ := ih n (i + 1) (by omega) (by omega) H2 q2 unk _ G2 (by omega) hq hS2 (by rw [List.length_append, List.length_singleton]; omega)
    have he : bs ++ (rs.drop i).map w8 = bs ++ [w8 x] ++ (rs.drop (i + 1)).map w8 := by rw [drop_cons hx]; simp
    rw [he]
    refine ⟨H3, q3, c3, fun R KE => ?_, G3, o2.trans o3⟩
    unfold colorspec_Encode_l2 colorspec_Encode_l2_b
    refine go_t (decide_eq_true (by omega)) ((e1 _ _).trans ((e2 _ _).trans (go_halN hH1 ((e3 _ _).trans ?_))))
    rw [w64 (n := (i : Int) + 1) (by omega) (by omega)]
    have := e4 R KE
    rw [List.length_append] at this
    exact this
theorem ints_below {H : Heap} {q : Option Addr} {xs : List Int} (h : Shows H q (ints xs)) : xs = [] ∨ Below H.length q := by
  rcases h with h | ⟨b, o, full, rfl, h1, _⟩
  · left; have := congrArg List.length h; rw [ints_len] at this; exact List.eq_nil_of_length_eq_zero (by simpa using this)
  · exact .inr fun a ha => by cases ha; exact h1.lt
def rcon (r : Rw) : List Int := r.2.2.map w8
/-- A palette that lies below a bound. -/
structure PalB (N : Nat) (H : Heap) (q : Option Addr) (rows : List Rw) : Prop where
  p : PalS H q rows
  a : rows = [] ∨ Below N q
  b : ∀ r ∈ rows, r.2.2 = [] ∨ Below N r.1
theorem PalS.below {H : Heap} {q : Option Addr} {rows : List Rw} (h : PalS H q rows) : PalB H.length H q rows := by
  refine ⟨h, ?_, fun r hr => ints_below (h.rw r hr)⟩
  rcases h.sh with h | ⟨b, o, full, rfl, h1, _⟩
  · left; have := congrArg List.length h; exact List.eq_nil_of_length_eq_zero (by simpa using this)
  · exact .inr fun a ha => by cases ha; exact h1.lt
theorem PalB.old {N : Nat} {H H' : Heap} {q : Option Addr} {rows : List Rw} (h : PalB N H q rows) (o : Old N H H') : PalB N H' q rows := by
  refine ⟨⟨h.p.sh.old o ?_, fun r hr => (h.p.rw r hr).old o ?_⟩, h.a, h.b⟩
  · rcases h.a with h | h
    · left; rw [h]; rfl
    · exact .inr h
  · rcases h.b r hr with h | h
    · left; rw [h]; rfl
    · exact .inr h
theorem enc1_l (k : Nat) (hk : 80000 < k) {N : Nat} {q : Option Addr} {rows : List Rw} (c : Nat) (hl : rows.length ≤ 70000) (hr : ∀ r ∈ rows, r.2.2.length ≤ 1000) : ∀ (m n i : Nat), m < n → rows.length = i + m → ∀ (H : Heap) (q1 : Option Addr) (c1 : Nat) (bs : List Int), Grw N 1 H q1 bs.length c1 (byt bs) → N ≤ H.length → PalB N H q rows → bs.length + m * 1000 ≤ 79000000 →
    ∃ H' q' c', (∀ (R : Type) (KE : Option Addr → Nat → Nat → Heap → Option R), colorspec_Encode_l1 k KE n q1 bs.length c1 q rows.length c ((rows.length : Nat) : Int) (i : Int) H = KE q' (bs ++ (rows.drop i).flatMap rcon).length c' H') ∧ Grw N 1 H' q' (bs ++ (rows.drop i).flatMap rcon).length c' (byt (bs ++ (rows.drop i).flatMap rcon)) ∧ Old N H H' := by
  intro m
  induction m with
  | zero =>
    intro n i hn hj H q1 c1 bs G hN hP hbl
    obtain ⟨n, rfl⟩ : ∃ n', n = n' + 1 := ⟨n - 1, by omega⟩
    have : bs ++ (rows.drop i).flatMap rcon = bs := by rw [List.drop_eq_nil_of_le (by omega)]; simp
    rw [this]
    refine ⟨H, q1, c1, fun R KE => ?_, G, .refl _ _⟩
    unfold colorspec_Encode_l1 colorspec_Encode_l1_b
    exact go_f (decide_eq_false (by omega)) rfl
  | succ m ih =>
    intro n i hn hj H q1 c1 bs G hN hP hbl
    obtain ⟨n, rfl⟩ : ∃ n', n = n' + 1 := ⟨n - 1, by omega⟩
    obtain ⟨r, hx⟩ := ex_get (l := rows) (i := i) (by omega)
    obtain ⟨p', e1, e2⟩ := row_at hP.p hx
    have hm := List.mem_of_getElem? hx
    have hrl := hr r hm
    have he : bs ++ (rows.drop i).flatMap rcon = bs ++ r.2.2.map w8 ++ (rows.drop (i + 1)).flatMap rcon := by rw [drop_cons hx]; simp [rcon]
    obtain ⟨H2, q2, c2, e3, G2, o2⟩ : ∃ H' q' c', (∀ (R : Type) (KE : Option Addr → Nat → Nat → Option Addr → Nat → Nat → Int → Int → Heap → Option R), colorspec_Encode_l2 k KE k q1 bs.length c1 q rows.length c ((rows.length : Nat) : Int) (i : Int) r.1 r.2.2.length r.2.1 ((r.2.2.length : Nat) : Int) 0 H = KE q' (bs ++ r.2.2.map w8).length c' q rows.length c ((rows.length : Nat) : Int) (i : Int) H') ∧ Grw N 1 H' q' (bs ++ r.2.2.map w8).length c' (byt (bs ++ r.2.2.map w8)) ∧ Old N H H' := by
      rcases hP.b r hm with hz | hz
      · obtain ⟨k', rfl⟩ : ∃ k', k = k' + 1 := ⟨k - 1, by omega⟩
        rw [hz]
        refine ⟨H, q1, c1, fun R KE => ?_, by simpa using G, .refl _ _⟩
        unfold colorspec_Encode_l2 colorspec_Encode_l2_b
        exact (go_f (decide_eq_false (by simp)) rfl).trans (by simp)
      · have := enc2_l k (q := r.1) (rs := r.2.2) r.2.1 hrl q rows.length c ((rows.length : Nat) : Int) (i : Int) r.2.2.length k 0 (by omega) (by omega) H q1 c1 bs G hN hz (hP.p.rw r hm) (by omega)
        rw [List.drop_zero] at this
        exact this
    obtain ⟨H3, q3, c3, e4, G3, o3⟩ := ih n (i + 1) (by omega) (by omega) H2 q2 c2 _ G2 (by have := o2.1; omega) (hP.old o2) (by rw [List.length_append, List.length_map]; omega)
    rw [he]
    refine ⟨H3, q3, c3, fun R KE => ?_, G3, o2.trans o3⟩
    unfold colorspec_Encode_l1 colorspec_Encode_l1_b
    refine go_t (decide_eq_true (by omega)) ((e1 _ _).trans ((e2 _ _).trans ((e3 _ _).trans ?_)))
    try dsimp only
    rw [w64 (n := (i : Int) + 1) (by omega) (by omega)]
    exact e4 R KE
/-- The bytes of a color specification. -/
def encB (s : Int) (rs : List Int) (rows : List Rw) : List Int := [w8 s, w8 ((rs.length : Nat) : Int)] ++ rs.map w8 ++ [w8 (Int.fdiv ((rows.length : Nat) : Int) 256), w8 ((rows.length : Nat) : Int)] ++ rows.flatMap rcon
def encR (s : Int) (rs : List Int) (rows : List Rw) : List Int := if validI s rs rows = 0 then encB s rs rows else []
theorem valid_few {s : Int} {rs : List Int} {rows : List Rw} (h : validI s rs rows = 0) : 1 ≤ rs.length ∧ rs.length ≤ 4 := by
  unfold validI at h
  split at h
  · split at h
    · rename_i h2
      simp only [Bool.and_eq_true, rolesB, decide_eq_true_eq] at h2
      omega
    · cases h
  · cases h
--BEGIN
theorem encode_eq {k : Nat} (hk : 80000 < k) {H : Heap} {q q2 : Option Addr} {rs : List Int} {rows : List Rw} (s : Int) (c c2 : Nat) (h : Shows H q (ints rs)) (hp : PalS H q2 rows) (F : FewC rs rows) :
    ∃ H' q' c', (∀ (R : Type) (K : Option Addr → Nat → Nat → Int → Heap → Option R), colorspec_Encode k s q rs.length c q2 rows.length c2 H K = K q' (encR s rs rows).length c' (validI s rs rows) H') ∧ Old H.length H H' ∧ Shows H' q' (byt (encR s rs rows)) := by
  have fb := F.b
  have fa := F.a
  obtain ⟨H1, hH1⟩ : ∃ H1, H1 = H ++ [some (⟨[.int .i64 s, .slice q rs.length c, .slice q2 rows.length c2], false, 0⟩ : Blk)] := ⟨_, rfl⟩
  have o1 : Old H.length H H1 := hH1 ▸ Old.app _ _
  have O1 : Owns H1 H.length [.int .i64 s, .slice q rs.length c, .slice q2 rows.length c2] 0 := by rw [hH1]; exact hblk_new H _
  have l1 : H1.length = H.length + 1 := by rw [hH1]; simp
  have A := at3 O1
  obtain ⟨H2, e2, o2⟩ := validate_eq (k := k) hk s c c2 (h.keep o1) (hp.keep o1) F
  have oo : Old H.length H H2 := o1.trans (o2.mono (by omega))
  have l2 := o2.1
  by_cases hv : validI s rs rows = 0
  case neg =>
    have he : encR s rs rows = [] := by unfold encR; rw [if_neg hv]
    rw [he]
    refine ⟨H2, none, 0, fun R K => ?_, oo, .inl rfl⟩
    unfold colorspec_Encode colorspec_Encode_b
    exact go_halN hH1 (go_ip A.a (go_lp A.b' (go_lp A.c' ((e2 _ _).trans (go_t (by rw [bne_iff_ne]; exact hv) rfl)))))
  have he : encR s rs rows = encB s rs rows := by unfold encR; rw [if_pos hv]
  rw [he, hv]
  have B := at3 (O1.old o2 (by omega))
  obtain ⟨H3, hH3⟩ : ∃ H3, H3 = H2 ++ [some (⟨[.int .u8 (w8 s), .int .u8 (w8 ((rs.length : Nat) : Int))], false, 0⟩ : Blk)] := ⟨_, rfl⟩
  have o3 : Old H2.length H2 H3 := hH3 ▸ Old.app _ _
  have O3 : Owns H3 H2.length (byt [w8 s, w8 ((rs.length : Nat) : Int)]) 0 := by rw [hH3]; exact hblk_new H2 _
  have l3 : H3.length = H2.length + 1 := by rw [hH3]; simp
  have C3 := at3 ((O1.old o2 (by omega)).old o3 (by omega))
  have o03 := oo.trans (o3.mono (by omega))
  have G3 : Grw H2.length 1 H3 (some ⟨H2.length, 0, none⟩) [w8 s, w8 ((rs.length : Nat) : Int)].length 2 (byt [w8 s, w8 ((rs.length : Nat) : Int)]) := .inr ⟨rfl, by unfold unk; omega, O3.sees.shows, rfl⟩
  have hne := valid_few hv
  have hq2 : ∀ a, q = some a → a.block < H2.length := by
    intro a ha
    rcases ints_below h with h | h
    · rw [h] at hne; simp at hne
    · have := h a ha; omega
  --E0
  obtain ⟨H4, q4, c4, e4, G4, o4⟩ := enc0_l k (some ⟨H.length, 0, none⟩) c fa rs.length k 0 (by omega) (by omega) H3 _ 2 _ G3 (by omega) hq2 (h.keep o03) (by simp; omega)
  --E0end
  rw [List.drop_zero] at e4 G4
  have l4 := o4.1
  have o04 : Old H.length H H4 := o03.trans (o4.mono (by omega))
  have O4 : Owns H4 H.length [.int .i64 s, .slice q rs.length c, .slice q2 rows.length c2] 0 := by
    have := (O1.old o2 (by omega)).old o3 (by omega)
    exact this.old o4 (by omega)
  have D4 := at3 O4
  obtain ⟨H5, hH5⟩ : ∃ H5, H5 = H4 ++ [some (⟨[.int .u8 (w8 (Int.fdiv ((rows.length : Nat) : Int) 256)), .int .u8 (w8 ((rows.length : Nat) : Int))], false, 0⟩ : Blk)] := ⟨_, rfl⟩
  have o5 : Old H4.length H4 H5 := hH5 ▸ Old.app _ _
  have O5 : Owns H5 H4.length (byt [w8 (Int.fdiv ((rows.length : Nat) : Int) 256), w8 ((rows.length : Nat) : Int)]) 0 := by rw [hH5]; exact hblk_new H4 _
  have l5 : H5.length = H4.length + 1 := by rw [hH5]; simp
  obtain ⟨q6, H6, e6, G6, o6, l6⟩ := (G4.keep o5).app (bytes := 1) (n := 2) (by omega) O5.sees.shows rfl (by simp; omega) (by omega)
  have o56 : Old H2.length H4 H6 := (o5.mono (by omega)).trans o6
  have o06 : Old H.length H H6 := o04.trans (o56.mono (by omega))
  have E6 := at3 (O4.old o56 (by omega))
  have G6' : Grw H2.length 1 H6 q6 ([w8 s, w8 ((rs.length : Nat) : Int)] ++ rs.map w8 ++ [w8 (Int.fdiv ((rows.length : Nat) : Int) 256), w8 ((rows.length : Nat) : Int)]).length unk (byt ([w8 s, w8 ((rs.length : Nat) : Int)] ++ rs.map w8 ++ [w8 (Int.fdiv ((rows.length : Nat) : Int) 256), w8 ((rows.length : Nat) : Int)])) := by
    rw [List.length_append, byt_app]
    exact G6
  have P6 : PalB H2.length H6 q2 rows := by
    have := (hp.keep oo).below
    exact this.old ((o3.mono (by omega)).trans (o4.trans o56))
  --E1
  obtain ⟨H7, q7, c7, e7, G7, o7⟩ := enc1_l k hk c2 fb F.c rows.length k 0 (by omega) (by omega) H6 q6 unk _ G6' (by omega) P6 (by simp; omega)
  --E1end
  rw [List.drop_zero] at e7 G7
  refine ⟨H7, q7, c7, fun R K => ?_, o06.trans (o7.mono (by omega)), G7.shows.1⟩
  have e5 : colorspec_Encode k s q rs.length c q2 rows.length c2 H K = happS 1 1 H5 q4 ([w8 s, w8 ((rs.length : Nat) : Int)] ++ rs.map w8).length c4 (some ⟨H4.length, 0, none⟩) 2 fun q50 l51 c52 H53 => hfad 2 (some ⟨H.length, 0, none⟩) fun p54 => ldL H53 p54 fun q55 l56 c57 => colorspec_Encode_l1 k (fun q61 l62 c63 H64 => K q61 l62 c63 0 H64) k q50 l51 c52 q55 l56 c57 ((l56 : Nat) : Int) 0 H53 := by
    unfold colorspec_Encode colorspec_Encode_b
    refine go_halN hH1 (go_ip A.a (go_lp A.b' (go_lp A.c' ((e2 _ _).trans (go_f (by rw [hv]; rfl) (go_fad (go_i B.a (go_fad (go_l B.b' (go_halN hH3 (go_fad (go_l C3.b' ((e4 _ _).trans ?_)))))))))))))
    exact go_fad (go_l D4.c' (go_fad (go_l D4.c' (go_halN hH5 rfl))))
  rw [e5]
  refine (e6 _ _).trans (go_fad (go_l E6.c' ?_))
  have := e7 R (fun q61 l62 c63 H64 => K q61 l62 c63 0 H64)
  rw [List.length_append (bs := [_, _])] at this
  exact this
--END
end Go.Proofs.Ytkjcjlembepdkaa.Sh
