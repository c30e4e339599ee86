/- The own machine's heap operations on heaps that are written out: for functions without loops. -/
import Derived.Test.YtjajknghcbpblaaFwN
set_option linter.unusedVariables false
set_option linter.unusedSimpArgs false
namespace Go.Proofs.Ytjajknghcbpblaa.FW
variable {R : Type}
theorem hal_x (H : Heap) (cs : List Value) (K : Option Addr → Heap → Option R) : hal H cs K = K (some ⟨H.length, 0, none⟩) (H ++ [some ⟨cs, false, 0⟩]) := rfl
theorem hcell_new (H : Heap) (B : Blk) (o : Nat) : hcell (H ++ [some B]) H.length o = B.cells[o]? := by
  unfold hcell; rw [app_new]
theorem hcell_old {H J : Heap} {b : Nat} (h : b < H.length) (o : Nat) : hcell (H ++ J) b o = hcell H b o := by
  unfold hcell; rw [app_old h]
theorem hfad_x (off b o : Nat) (s : Option _) (K : Option Addr → Option R) : hfad off (some ⟨b, o, s⟩) K = K (some ⟨b, o + off, none⟩) := rfl
theorem hnil_x (a : Addr) (K : Option Addr → Option R) : hnil (some a) K = K (some a) := rfl
theorem ldI_x (k : IntKind) (H : Heap) (b o : Nat) (s : Option _) (K : Int → Option R) : ldI k H (some ⟨b, o, s⟩) K = match hcell H b o with | some (.int k' n) => bif ikeq k k' then K n else none | _ => none := rfl
theorem ldB_x (H : Heap) (b o : Nat) (s : Option _) (K : Bool → Option R) : ldB H (some ⟨b, o, s⟩) K = match hcell H b o with | some (.bool n) => K n | _ => none := rfl
theorem ldP_x (H : Heap) (b o : Nat) (s : Option _) (K : Option Addr → Option R) : ldP H (some ⟨b, o, s⟩) K = match hcell H b o with | some (.pointer n) => K n | _ => none := rfl
theorem ldL_x (H : Heap) (b o : Nat) (s : Option _) (K : Option Addr → Nat → Nat → Option R) : ldL H (some ⟨b, o, s⟩) K = match hcell H b o with | some (.slice p l c) => K p l c | _ => none := rfl
theorem hst_new (H : Heap) (cs : List Value) (sz o : Nat) (s : Option _) (vs : List Value) (K : Heap → Option R) (h1 : o + vs.length ≤ cs.length) : hst (H ++ [some ⟨cs, false, sz⟩]) (some ⟨H.length, o, s⟩) vs K = bif vs.all oneC then K (H ++ [some ⟨splice cs o vs, false, sz⟩]) else none := by
  have e : hblk (H ++ [some (⟨cs, false, sz⟩ : Blk)]) H.length = some ⟨cs, false, sz⟩ := app_new H _ []
  have e2 : ∀ (H : Heap) (x y : Option Blk), hset (H ++ [x]) H.length y = H ++ [y] := by
    intro H x y
    induction H with
    | nil => rfl
    | cons z H ih => show z :: hset (H ++ [x]) H.length y = _; rw [ih]; rfl
  unfold hst
  simp only [e, cond_false]
  rw [if_pos h1, e2]
theorem hset_app {H J : Heap} {b : Nat} (h : b < H.length) (y : Option Blk) : hset (H ++ J) b y = hset H b y ++ J := by
  induction H generalizing b with
  | nil => simp at h
  | cons z H ih =>
    cases b with
    | zero => rfl
    | succ b => show z :: hset (H ++ J) b y = _; rw [ih (by simpa using h)]; rfl
theorem hst_old {H J : Heap} {b : Nat} (h : b < H.length) (o : Nat) (s : Option _) (vs : List Value) (K : Heap → Option R) : hst (H ++ J) (some ⟨b, o, s⟩) vs K = hst H (some ⟨b, o, s⟩) vs (fun H' => K (H' ++ J)) := by
  unfold hst
  simp only [app_old h, hset_app h]
theorem hst1_old {H J : Heap} {b : Nat} (h : b < H.length) (o : Nat) (s : Option _) (v : Value) (K : Heap → Option R) : hst1 (H ++ J) (some ⟨b, o, s⟩) v K = hst1 H (some ⟨b, o, s⟩) v (fun H' => K (H' ++ J)) := by
  unfold hst1
  simp only [app_old h, hset_app h]
theorem hidx_x (b o l : Nat) (s : Option _) (n : Int) (size : Nat) (K : Option Addr → Option R) (h : 0 ≤ n ∧ n < l) : hidx (some ⟨b, o, s⟩) l n size K = K (some ⟨b, o + n.toNat * size, none⟩) := by
  simp only [hidx]; rw [if_pos h]
theorem ik64 : ikeq .i64 .i64 = true := rfl
theorem ik8 : ikeq .u8 .u8 = true := rfl
theorem ik32 : ikeq .u32 .u32 = true := rfl
theorem iku64 : ikeq .u64 .u64 = true := rfl
theorem tn2 : Int.toNat 2 = 2 := rfl
theorem tn3 : Int.toNat 3 = 3 := rfl
theorem one_n : List.all [] oneC = true := rfl
theorem one_i (k : IntKind) (n : Int) (l : List Value) : List.all (.int k n :: l) oneC = List.all l oneC := rfl
theorem one_b (n : Bool) (l : List Value) : List.all (.bool n :: l) oneC = List.all l oneC := rfl
theorem one_p (n : Option Addr) (l : List Value) : List.all (.pointer n :: l) oneC = List.all l oneC := rfl
theorem one_s (q : Option Addr) (a b : Nat) (l : List Value) : List.all (.slice q a b :: l) oneC = List.all l oneC := rfl
theorem one_t (s : ByteArray) (l : List Value) : List.all (.string s :: l) oneC = List.all l oneC := rfl
theorem get0 (v : Value) (l : List Value) : (v :: l)[0]? = some v := rfl
theorem gets (v : Value) (l : List Value) (n : Nat) : (v :: l)[n + 1]? = l[n]? := rfl
theorem len_lt (H J : Heap) (x : Option Blk) : H.length < (H ++ x :: J).length := by simp
theorem splice_all (cs vs : List Value) (h : cs.length = vs.length) : splice cs 0 vs = vs := by unfold splice; rw [Nat.zero_add, ← h]; simp
theorem splice_nn (cs : List Value) : splice cs 0 [] = cs := by unfold splice; simp
theorem splice_cc (c v : Value) (cs vs : List Value) : splice (c :: cs) 0 (v :: vs) = v :: splice cs 0 vs := by unfold splice; simp [Nat.add_comm]
theorem hmk_x {bytes n : Nat} (H : Heap) (z : Value) (K : Option Addr → Nat → Nat → Heap → Option R) (h : n * bytes ≤ 140737488355328) (h2 : n ≤ 140737488355328) : hmk [z] bytes H (n : Int) (n : Int) K = K (some ⟨H.length, 0, none⟩) n n (H ++ [some ⟨vcells n (fun _ => z), false, 0⟩]) := by
  have h3 : ((n * bytes : Nat) : Int) ≤ 140737488355328 := by omega
  rw [Int.natCast_mul] at h3
  unfold hmk
  rw [if_pos ⟨by omega, by omega, h3, by omega⟩, ← mkCells_v]
  rfl
theorem hblk_new (H : Heap) (x : Option Blk) : hblk (H ++ [x]) H.length = x := app_new H x []
theorem hblk_old {H J : Heap} {b : Nat} (h : b < H.length) : hblk (H ++ J) b = hblk H b := app_old h
theorem Bld.but {N size b : Nat} {H H' : Heap} {q : Option Addr} {l c : Nat} {cs : List Value} (h : Bld N size H q l c cs) (o : But b H H') (hb : b < N) : Bld N size H' q l c cs := by
  rcases h with h | ⟨b2, h1, h2, h3, h4, h5⟩
  · exact .inl h
  · exact .inr ⟨b2, h1, h2, h3, Owns.but h4 o (by omega), h5⟩
theorem Shows.but {H H' : Heap} {q : Option Addr} {b : Nat} {cs : List Value} (h : Shows H q cs) (o : But b H H') (hb : ∀ a, q = some a → a.block ≠ b) : Shows H' q cs := by
  rcases h with h | ⟨b2, o', full, rfl, h1, h2, h3⟩
  · exact .inl h
  · exact .inr ⟨b2, o', full, rfl, Sees.but h1 o (hb _ rfl), h2, h3⟩
theorem Owns.st {H : Heap} {b sz : Nat} {cs vs : List Value} (h : Owns H b cs sz) (hl : vs.length = cs.length) (hone : vs.all oneC = true) :
    ∃ H', (∀ (R : Type) (K : Heap → Option R), hst H (some ⟨b, 0, none⟩) vs K = K H') ∧ Owns H' b vs sz ∧ But b H H' ∧ H'.length = H.length := by
  obtain ⟨H', e, o, n, s⟩ := hst_own (o := 0) h (by omega) hone
  rw [splice_all _ _ hl.symm] at o
  exact ⟨H', e, o, ⟨by omega, fun i _ hne => s i hne⟩, n⟩
theorem Owns.st1 {H : Heap} {b sz o : Nat} {cs : List Value} (h : Owns H b cs sz) (hl : o < cs.length) (v : Value) :
    ∃ H', (∀ (R : Type) (K : Heap → Option R), hst1 H (some ⟨b, o, none⟩) v K = K H') ∧ Owns H' b (cs.set o v) sz ∧ But b H H' ∧ H'.length = H.length := by
  obtain ⟨H', e, o, n, s⟩ := hst1_own (o := o) h hl v
  exact ⟨H', e, o, ⟨by omega, fun i _ hne => s i hne⟩, n⟩
theorem oldx (H J : Heap) : Old H.length H (H ++ J) := Old.app H J
end Go.Proofs.Ytjajknghcbpblaa.FW
