/- Tagtree: where a node lies; its change. -/
import Derived.Test.YtblkejnciinaeaaTtA
import Derived.Test.YtblkejnciinaeaaBtB
set_option linter.unusedVariables false
set_option linter.unusedSimpArgs false
namespace Go.Proofs.Ytblkejnciinaeaa.Sh
open Go.Proofs.Ytblkejnciinaeaa.FW Go.IntWalk
/-- The size of a level. -/
def wl (a i : Nat) : Nat := (a - 1) / 2 ^ i + 1
theorem wl_zero {a : Nat} (h : 1 ≤ a) : wl a 0 = a := by unfold wl; simp; omega
theorem wl_succ {a : Nat} (h : 1 ≤ a) (i : Nat) : wl ((a + 1) / 2) i = wl a (i + 1) := by
  unfold wl
  rw [show (a + 1) / 2 - 1 = (a - 1) / 2 from by omega, Nat.div_div_eq_div_mul, Nat.pow_succ', Nat.mul_comm]
theorem lvs_get : ∀ (n a b i : Nat) (v : Nat × Nat), 1 ≤ a → 1 ≤ b → (lvs n a b)[i]? = some v → v = (wl a i, wl b i) := by
  intro n
  induction n with
  | zero => intro a b i v _ _ h; simp [lvs] at h
  | succ n ih =>
    intro a b i v ha hb h
    rw [lvs] at h
    cases i with
    | zero => simp at h; rw [wl_zero ha, wl_zero hb]; exact h.symm
    | succ i =>
      rw [List.getElem?_cons_succ] at h
      by_cases h1 : a = 1 ∧ b = 1
      · rw [if_pos h1] at h; simp at h
      · rw [if_neg h1] at h
        have := ih _ _ i v (by omega) (by omega) h
        rw [wl_succ ha, wl_succ hb] at this; exact this
theorem lvs_len : ∀ (n a b : Nat), (lvs n a b).length ≤ n := by
  intro n
  induction n with
  | zero => intro a b; simp [lvs]
  | succ n ih =>
    intro a b
    rw [lvs]
    split
    · simp
    · have := ih ((a + 1) / 2) ((b + 1) / 2); simp; omega
/-- The shape of a tree. -/
structure Geo (a b : Nat) (l : List Lv) : Prop where
  a1 : 1 ≤ a
  b1 : 1 ≤ b
  ab : a * b ≤ 65536
  am : a ≤ 65536
  bm : b ≤ 65536
  pos : 1 ≤ l.length
  len : l.length ≤ 17
  lv : ∀ i v, l[i]? = some v → v.w = wl a i ∧ v.h = wl b i
theorem geo_of {a b : Nat} {l : List Lv} (a1 : 1 ≤ a) (b1 : 1 ≤ b) (am : a ≤ 65536) (bm : b ≤ 65536) (ab : a * b ≤ 65536) (h : l.map (fun v => (v.w, v.h)) = lvs 17 a b) : Geo a b l := by
  have hl : l.length = (lvs 17 a b).length := by rw [← h, List.length_map]
  refine ⟨a1, b1, ab, am, bm, ?_, ?_, fun i v hv => ?_⟩
  · rw [hl, lvs]; simp
  · rw [hl]; exact lvs_len _ _ _
  · have : (lvs 17 a b)[i]? = some (v.w, v.h) := by rw [← h, List.getElem?_map, hv]; rfl
    have := lvs_get _ _ _ _ _ a1 b1 this
    exact ⟨congrArg Prod.fst this, congrArg Prod.snd this⟩
theorem wl_le (a i : Nat) : wl a i ≤ a - 1 + 1 := by unfold wl; have := Nat.div_le_self (a - 1) (2 ^ i); omega
theorem wl_pos (a i : Nat) : 1 ≤ wl a i := Nat.le_add_left 1 _
/-- The node above a leaf. -/
def ix (a x y i : Nat) : Nat := y / 2 ^ i * wl a i + x / 2 ^ i
theorem ix_lt {a b x y : Nat} (hx : x < a) (hy : y < b) (i : Nat) : ix a x y i < wl a i * wl b i := by
  have h1 : x / 2 ^ i < wl a i := by unfold wl; have : x / 2 ^ i ≤ (a - 1) / 2 ^ i := Nat.div_le_div_right (by omega); omega
  have h2 : y / 2 ^ i + 1 ≤ wl b i := by unfold wl; have : y / 2 ^ i ≤ (b - 1) / 2 ^ i := Nat.div_le_div_right (by omega); omega
  have := Nat.mul_le_mul_right (wl a i) h2
  unfold ix
  rw [Nat.add_mul] at this
  rw [Nat.mul_comm (wl a i)]; omega
theorem Geo.wh {a b : Nat} {l : List Lv} (G : Geo a b l) (i : Nat) : wl a i * wl b i ≤ 65536 := by
  have h1 := wl_le a i
  have h2 := wl_le b i
  have := G.a1; have := G.b1
  exact Nat.le_trans (Nat.mul_le_mul (by omega : wl a i ≤ a) (by omega : wl b i ≤ b)) G.ab
theorem fm3 {α : Type} (f : α → List Value) (hf : ∀ x, (f x).length = 3) : ∀ (l : List α) (i : Nat) (x : α), l[i]? = some x → ∀ j, j < 3 → (l.flatMap f)[i * 3 + j]? = (f x)[j]? := by
  intro l
  induction l with
  | nil => intro i x h; simp at h
  | cons y l ih =>
    intro i x h j hj
    rw [List.flatMap_cons]
    cases i with
    | zero => simp at h; subst h; rw [List.getElem?_append_left (by rw [hf]; omega)]; simp
    | succ i =>
      rw [List.getElem?_append_right (by rw [hf]; omega), hf, show (i + 1) * 3 + j - 3 = i * 3 + j from by omega]
      exact ih i x (by simpa using h) j hj
theorem nds_at {n i : Nat} (f : Nat → Nd) (hi : i < n) {j : Nat} (hj : j < 3) : (nds n f)[i * 3 + j]? = (nd (f i))[j]? :=
  fm3 (fun i => nd (f i)) (fun _ => rfl) (List.range n) i i (by simp [hi]) j hj
def upd (f : Nat → Nd) (i : Nat) (x : Nd) : Nat → Nd := fun j => if j = i then x else f j
theorem upd_at (f : Nat → Nd) (i : Nat) (x : Nd) : upd f i x i = x := by unfold upd; rw [if_pos rfl]
theorem upd_ne (f : Nat → Nd) {i j : Nat} (x : Nd) (h : j ≠ i) : upd f i x j = f j := by unfold upd; rw [if_neg h]
theorem nds_congr {n : Nat} {f g : Nat → Nd} (h : ∀ i, i < n → f i = g i) : nds n f = nds n g := by
  unfold nds
  rw [List.flatMap_def, List.flatMap_def]
  congr 1
  exact List.map_congr_left fun i hi => by rw [h i (List.mem_range.1 hi)]
theorem nds_get (n : Nat) (f : Nat → Nd) (m : Nat) : (nds n f)[m]? = if m < n * 3 then (nd (f (m / 3)))[m % 3]? else none := by
  split
  · rename_i h
    have := nds_at (n := n) (i := m / 3) f (by omega) (j := m % 3) (by omega)
    rwa [show m / 3 * 3 + m % 3 = m from by omega] at this
  · rename_i h
    exact List.getElem?_eq_none (by rw [nds_len]; omega)
theorem nds_set {n i : Nat} (f : Nat → Nd) (hi : i < n) {j : Nat} (hj : j < 3) (x : Nd) (v : Value) (hx : (nd (f i)).set j v = nd x) : (nds n f).set (i * 3 + j) v = nds n (upd f i x) := by
  apply List.ext_getElem?
  intro m
  rw [List.getElem?_set, nds_get, nds_get, nds_len]
  by_cases hm : m < n * 3
  · rw [if_pos hm, if_pos hm]
    by_cases hmi : m / 3 = i
    · rw [hmi, upd_at, ← hx, List.getElem?_set]
      have hl : (nd (f i)).length = 3 := rfl
      rw [hl]
      by_cases hmj : m % 3 = j
      · rw [if_pos (by omega), if_pos (by omega), if_pos hmj.symm, if_pos (by omega)]
      · rw [if_neg (by omega), if_neg (fun h => hmj h.symm)]
    · rw [upd_ne _ _ hmi, if_neg (by omega)]
  · rw [if_neg hm, if_neg hm, if_neg (by omega)]
theorem nds_splice {n i : Nat} (f : Nat → Nd) (hi : i < n) (x : Nd) : splice (nds n f) (i * 3) (nd x) = nds n (upd f i x) := by
  have hl := nds_len n f
  apply List.ext_getElem?
  intro m
  rw [nds_get]
  unfold splice
  have h3 : (nd x).length = 3 := rfl
  have ht : ((nds n f).take (i * 3)).length = i * 3 := by rw [List.length_take, hl]; omega
  by_cases h1 : m < i * 3
  · rw [List.append_assoc, List.getElem?_append_left (by omega), List.getElem?_take, if_pos h1, nds_get, upd_ne _ _ (by omega)]
  · by_cases h2 : m < i * 3 + 3
    · rw [List.getElem?_append_left (by rw [List.length_append, ht, h3]; omega), List.getElem?_append_right (by omega), ht, if_pos (by omega), show m / 3 = i from by omega, upd_at, show m - i * 3 = m % 3 from by omega]
    · rw [List.getElem?_append_right (by rw [List.length_append, ht, h3]; omega), List.length_append, ht, h3, List.getElem?_drop, show i * 3 + 3 + (m - (i * 3 + 3)) = m from by omega, nds_get, upd_ne _ _ (by omega)]
/-- The node of a leaf at a level. -/
theorem at_eq {a b x y i : Nat} {H : Heap} {p bq : Nat} {l : List Lv} {c : Nat} {z : List Value} {v : Lv} (G : Geo a b l) (hp : Sees H p (.slice (some ⟨bq, 0, none⟩) l.length c :: z)) (hq : Sees H bq (lcs l)) (hv : l[i]? = some v) (hx : x < a) (hy : y < b) :
    ∀ (R : Type) (K : Option Addr → Option R), tagtree_Tree_at (some ⟨p, 0, none⟩) (i : Int) (x : Int) (y : Int) H K = K (some ⟨v.b, ix a x y i * 3, none⟩) := by
  intro R K
  have hi : i < l.length := (List.getElem?_eq_some_iff.1 hv).1
  have hlen := G.len
  obtain ⟨e1, e2⟩ := G.lv i v hv
  have hxm := G.am
  have hym := G.bm
  have hlt := ix_lt hx hy i
  have hwh := G.wh i
  have m0 : hcell H p 0 = some (.slice (some ⟨bq, 0, none⟩) l.length c) := hp.cell 0
  have mq : ∀ j, j < 3 → hcell H bq (i * 3 + j) = (lvc v)[j]? := fun j hj => by rw [hq.cell]; exact fm3 lvc (fun _ => rfl) l i v hv j hj
  have mq2 : hcell H bq (i * 3 + 2) = some (.slice (some ⟨v.b, 0, none⟩) (v.w * v.h) v.c) := mq 2 (by omega)
  have mq0 : hcell H bq (i * 3 + 0) = some (.int .i64 (v.w : Int)) := mq 0 (by omega)
  have hid : hidx (R := R) (some ⟨bq, 0, none⟩) l.length (i : Int) 3 = fun K => K (some ⟨bq, i * 3, none⟩) := by
    funext K; unfold hidx; simp only; rw [if_pos ⟨by omega, by omega⟩, Int.toNat_natCast, Nat.zero_add]
  have s1 : ∀ (K : Int → Option R), hbin .shr .i64 (y : Int) (IntKind.wrap .u64 (i : Int)) K = K ((y / 2 ^ i : Nat) : Int) := fun K => shr64 (by omega) K
  have s2 : ∀ (K : Int → Option R), hbin .shr .i64 (x : Int) (IntKind.wrap .u64 (i : Int)) K = K ((x / 2 ^ i : Nat) : Int) := fun K => shr64 (by omega) K
  have hmul : y / 2 ^ i * wl a i ≤ ix a x y i := Nat.le_add_right _ _
  have w1 : IntKind.wrap .i64 (IntKind.wrap .i64 (((y / 2 ^ i : Nat) : Int) * (v.w : Int)) + ((x / 2 ^ i : Nat) : Int)) = ((ix a x y i : Nat) : Int) := by
    have hix : ix a x y i = y / 2 ^ i * wl a i + x / 2 ^ i := rfl
    rw [e1, ← Int.natCast_mul]
    generalize y / 2 ^ i * wl a i = Y at hix hmul ⊢
    generalize x / 2 ^ i = X at hix ⊢
    rw [w64 (n := (Y : Int)) (by omega) (by omega), w64 (by omega) (by omega)]
    omega
  have hid2 : ∀ (K : Option Addr → Option R), hidx (some ⟨v.b, 0, none⟩) (v.w * v.h) ((ix a x y i : Nat) : Int) 3 K = K (some ⟨v.b, ix a x y i * 3, none⟩) := by
    intro K; unfold hidx; simp only; rw [if_pos ⟨by omega, by rw [e1, e2]; omega⟩, Int.toNat_natCast, Nat.zero_add]
  unfold tagtree_Tree_at tagtree_Tree_at_b
  refine go_nil (go_fad (go_l m0 ?_))
  rw [hid]
  refine go_nil (go_fad (go_l mq2 ?_))
  rw [s1]
  refine go_nil (go_fad (go_i mq0 ?_))
  rw [s2, w1, hid2]
/-- The row of the levels. -/
theorem Tn.row {N : Nat} {H : Heap} {p : Nat} {q : Option Addr} {c : Nat} {l : List Lv} {e d : Bool} {g : Nat → Nat → Nd} (T : Tn N H p q c l e d g) (hl : 1 ≤ l.length) : ∃ bq, q = some ⟨bq, 0, none⟩ ∧ Owns H bq (lcs l) 3 ∧ N ≤ bq := by
  rcases T.b with ⟨_, h2, _⟩ | ⟨b, h1, _, h3, h4, _⟩
  · omega
  · exact ⟨b, h1, h4, h3⟩
theorem Tn.at {N : Nat} {H : Heap} {p : Nat} {q : Option Addr} {c : Nat} {l : List Lv} {e d : Bool} {g : Nat → Nat → Nd} (T : Tn N H p q c l e d g) {a b x y i : Nat} (G : Geo a b l) {v : Lv} (hv : l[i]? = some v) (hx : x < a) (hy : y < b) :
    ∀ (R : Type) (K : Option Addr → Option R), tagtree_Tree_at (some ⟨p, 0, none⟩) (i : Int) (x : Int) (y : Int) H K = K (some ⟨v.b, ix a x y i * 3, none⟩) := by
  obtain ⟨bq, rfl, h1, _⟩ := T.row G.pos
  exact at_eq G T.o.sees h1.sees hv hx hy
/-- The cells of a node. -/
theorem Tn.cell {N : Nat} {H : Heap} {p : Nat} {q : Option Addr} {c : Nat} {l : List Lv} {e d : Bool} {g : Nat → Nat → Nd} (T : Tn N H p q c l e d g) {a b : Nat} (G : Geo a b l) {v : Lv} {i : Nat} (hv : l[i]? = some v) {j : Nat} (hj : j < wl a i * wl b i) {o : Nat} (ho : o < 3) : hcell H v.b (j * 3 + o) = (nd (g i j))[o]? := by
  obtain ⟨h1, _⟩ := T.n i v hv
  obtain ⟨e1, e2⟩ := G.lv i v hv
  rw [h1.sees.cell]
  exact nds_at _ (by rw [e1, e2]; exact hj) ho
/-- A tree that others left alone. -/
theorem Tn.stp {N : Nat} {H H' : Heap} {p : Nat} {q : Option Addr} {c : Nat} {l : List Lv} {e d : Bool} {g : Nat → Nat → Nd} (T : Tn N H p q c l e d g) {p2 : Nat} {q2 q2' : Option Addr} (s : Stp p2 q2 H q2' H') (h1 : p2 < N) (h2 : ∀ a, q2 = some a → a.block < N) : Tn N H' p q c l e d g := by
  refine ⟨Owns.stp s T.o (by have := T.low; omega) (fun a ha => by have := h2 a ha; have := T.low; omega), Bld.stp s T.b (fun a ha => ?_) (fun a b ha hb => ?_), T.low, T.ap, fun i v hv => ?_, T.d⟩
  · have := T.b
    rcases this with ⟨rfl, _⟩ | ⟨b, rfl, _, h3, _⟩
    · cases ha
    · cases ha; simp only; omega
  · have := h2 a ha
    rcases T.b with ⟨rfl, _⟩ | ⟨b2, rfl, _, h3, _⟩
    · cases hb
    · cases hb; simp only; omega
  · obtain ⟨g1, g2, g3, g4⟩ := T.n i v hv
    exact ⟨Owns.stp s g1 (by omega) (fun a ha => by have := h2 a ha; omega), g2, g3, g4⟩
theorem Tn.old {N M : Nat} {H H' : Heap} {p : Nat} {q : Option Addr} {c : Nat} {l : List Lv} {e d : Bool} {g : Nat → Nat → Nd} (T : Tn N H p q c l e d g) (s : Old M H H') (hM : H.length ≤ M) : Tn N H' p q c l e d g := by
  refine ⟨Owns.old T.o (s.mono hM) T.o.lt, Bld.old T.b s hM, T.low, T.ap, fun i v hv => ?_, T.d⟩
  obtain ⟨g1, g2, g3, g4⟩ := T.n i v hv
  exact ⟨Owns.old g1 (s.mono hM) g1.lt, g2, g3, g4⟩
end Go.Proofs.Ytblkejnciinaeaa.Sh
