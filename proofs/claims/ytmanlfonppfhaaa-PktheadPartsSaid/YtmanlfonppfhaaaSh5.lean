/- Lean functions that stand for Go's,over an explicit heap,and the proofs that they do (written by this claim's program shallow.py). -/
import Derived.Test.YtmanlfonppfhaaaSh0
import Derived.Test.YtmanlfonppfhaaaSh4
set_option maxRecDepth 100000
set_option linter.unusedVariables false
set_option linter.unusedSimpArgs false
namespace Go.Proofs.Ytmanlfonppfhaaa.Sh
open Go.Proofs.Ytmanlfonppfhaaa.FW
abbrev bitio_Reader_Bits_1_t (R:Type):Type:=Oa → Oa → Heap → (Int → Int → Heap → Option R) → Option R
def bitio_Reader_Bits_1_b {R:Type} (bitio_Reader_bits:bitio_Reader_bits_t R) (k:Nat) (p899:Oa) (p900:Oa) (H:Heap) (K:Int → Int → Heap → Option R):Option R :=
ldP H p899 fun p901 =>
ldI .i64 H p900 fun n902 =>
bitio_Reader_bits p901 n902 H fun n903 n904 H905 =>
K n903 n904 H905
def bitio_Reader_Bits_1 {R:Type} (k:Nat) (p899:Oa) (p900:Oa) (H:Heap) (K:Int → Int → Heap → Option R):Option R:=bitio_Reader_Bits_1_b (bitio_Reader_bits k) k p899 p900 H K
def bitio_Reader_Bits_1_Ct {R:Type} (bitio_Reader_bits:bitio_Reader_bits_t R):Tab R:=tcons 89 (bitio_Reader_bits_ca bitio_Reader_bits) <| fun _ _ _ _ => none
def bitio_Reader_Bits_1_C (R:Type) (k:Nat):Tab R:=bitio_Reader_Bits_1_Ct (bitio_Reader_bits k)
theorem bitio_Reader_Bits_1_S (R:Type) (k:Nat):CSound Try.prog (bitio_Reader_Bits_1_C R k):=csound_cons (bitio_Reader_bits_cs R k) <| csound_nil
def bitio_Reader_Bits_1_Jt {R:Type} (k:Nat):JTab R:=fun _ _ _ _ => none
def bitio_Reader_Bits_1_J (R:Type) (k:Nat):JTab R:=bitio_Reader_Bits_1_Jt k
def bitio_Reader_Bits_1_at:AT:=(.seq (.reg [0,1] []) (.seq (.reg [2,3] []) .leaf))
def bitio_Reader_Bits_1_f:IFn:=⟨9,[.t 2,.t 3],(.seq (.reg [⟨some 2,.mov (.c (Go.Value.int Go.IntKind.i64 0)),none⟩,
⟨some 3,.mov (.c (Go.Value.int Go.IntKind.i64 0)),none⟩] [0,1]) (.seq (.reg [⟨some 4,.ld (.sc .ptr) (.t 0),none⟩,
⟨some 5,.ld (.sc (.int .i64)) (.t 1),none⟩,
⟨some 6,.call 89 [(.t 4),(.t 5)] (.tup [(.sc (.int .i64)),(.sc (.int .i64))]),none⟩,
⟨some 7,.ext 0 (.t 6),none⟩,
⟨some 8,.ext 1 (.t 6),none⟩,
⟨some 2,.mov (.t 7),none⟩,
⟨some 3,.mov (.t 8),none⟩] [2,3]) .ret))⟩
def bitio_Reader_Bits_1_ca {R:Type} (f:bitio_Reader_Bits_1_t R) (args:List Value) (H:Heap) (K:Value → Heap → Option R):Option R :=
  match args with
  | [.pointer p899,.pointer p900] => f p899 p900 H (fun n1563 n1564 H => K (.tuple ⟨[.int .i64 n1563,.int .i64 n1564]⟩) H)
  | _ => none
def bitio_Reader_Bits_1_c (R:Type) (k:Nat) (args:List Value) (H:Heap) (K:Value → Heap → Option R):Option R:=bitio_Reader_Bits_1_ca (bitio_Reader_Bits_1 k) args H K
theorem bitio_Reader_Bits_1_e {R:Type} (bitio_Reader_bits:bitio_Reader_bits_t R) (k:Nat) (p899:Oa) (p900:Oa) (H:Heap) (K:Value → Heap → Option R):evF (bitio_Reader_Bits_1_Ct bitio_Reader_bits) (bitio_Reader_Bits_1_Jt k) bitio_Reader_Bits_1_f [.pointer p899,.pointer p900] H K = bitio_Reader_Bits_1_b bitio_Reader_bits k p899 p900 H (fun n1563 n1564 H => K (.tuple ⟨[.int .i64 n1563,.int .i64 n1564]⟩) H):=by kernel_rfl
theorem bitio_Reader_Bits_1_cs (R:Type) (k:Nat):∀ args H K r,bitio_Reader_Bits_1_c R k args H K = some r → ∃ v H',Tri Try.prog 91 args H v H' ∧ K v H' = some r:=by
  intro args H K r h
  unfold bitio_Reader_Bits_1_c bitio_Reader_Bits_1_ca at h
  split at h
  · exact evF_ok (C:=bitio_Reader_Bits_1_C R k) (an:=An) (t:=bitio_Reader_Bits_1_at) (fn:=Try.f91) (c:=(Try.f91.body.getD .skip)) (ifn:=bitio_Reader_Bits_1_f) (bitio_Reader_Bits_1_S R k) (bitio_Reader_Bits_1_J R k) Try.func91 (by kernel_rfl) (by kernel_rfl) (And.intro True.intro (And.intro True.intro True.intro)) rfl (Eq.trans (bitio_Reader_Bits_1_e (bitio_Reader_bits k) k _ _ H K) h)
  · cases h
abbrev bitio_Reader_whole_v91_t (R:Type):Type:=Oa → Oa → Oa → Heap → (Int → Int → Heap → Option R) → Option R
def bitio_Reader_whole_v91_b {R:Type} (bitio_Reader_Bits_1:bitio_Reader_Bits_1_t R) (k:Nat) (p890:Oa) (p891:Oa) (p892:Oa) (H:Heap) (K:Int → Int → Heap → Option R):Option R :=
hnil p890 fun p893 =>
hfad 2 p893 fun p894 =>
ldI .i64 H p894 fun n895 =>
hnil p890 fun p896 =>
hfad 3 p896 fun p897 =>
ldI .i64 H p897 fun n898 =>
bitio_Reader_Bits_1 p891 p892 H fun n899 n900 H901 =>
bif (n900 != 0) then (hnil p890 fun p902 =>
hfad 2 p902 fun p903 =>
hst1 H901 p903 (.int .i64 n895) fun H904 =>
hnil p890 fun p905 =>
hfad 3 p905 fun p906 =>
hst1 H904 p906 (.int .i64 n898) fun H907 =>
K 0 n900 H907)
 else (K n899 0 H901)
def bitio_Reader_whole_v91 {R:Type} (k:Nat) (p890:Oa) (p891:Oa) (p892:Oa) (H:Heap) (K:Int → Int → Heap → Option R):Option R:=bitio_Reader_whole_v91_b (bitio_Reader_Bits_1 k) k p890 p891 p892 H K
def bitio_Reader_whole_v91_Ct {R:Type} (bitio_Reader_Bits_1:bitio_Reader_Bits_1_t R):Tab R:=tcons 91 (bitio_Reader_Bits_1_ca bitio_Reader_Bits_1) <| fun _ _ _ _ => none
def bitio_Reader_whole_v91_C (R:Type) (k:Nat):Tab R:=bitio_Reader_whole_v91_Ct (bitio_Reader_Bits_1 k)
theorem bitio_Reader_whole_v91_S (R:Type) (k:Nat):CSound Try.prog (bitio_Reader_whole_v91_C R k):=csound_cons (bitio_Reader_Bits_1_cs R k) <| csound_nil
def bitio_Reader_whole_v91_Jt {R:Type} (k:Nat):JTab R:=fun _ _ _ _ => none
def bitio_Reader_whole_v91_J (R:Type) (k:Nat):JTab R:=bitio_Reader_whole_v91_Jt k
def bitio_Reader_whole_v91_at:AT:=(.seq (.reg [0,1] []) (.seq (.reg [0,1,6,7] [[],[0],[0,1],[0,1,2],[],[4],[4,5],[4,5,6],[0,1,2,3],[0,1,2,3,4,5,6,7,8]]) (.seq (.reg [0,6,7,8,9] []) (.seq (.seq (.reg [0,6,7,8,9,24] []) (.cond (.seq (.reg [9] []) (.seq (.reg [4,5] []) .leaf)) .leaf)) (.seq (.reg [4,5] []) .leaf)))))
def bitio_Reader_whole_v91_f:IFn:=⟨35,[.t 4,.t 5],(.seq (.reg [⟨some 4,.mov (.c (Go.Value.int Go.IntKind.i64 0)),none⟩,
⟨some 5,.mov (.c (Go.Value.int Go.IntKind.i64 0)),none⟩] [0,1]) (.seq (.reg [⟨some 10,.mov (.t 0),none⟩,
⟨some 11,.nilc (.t 10),none⟩,
⟨some 12,.fad 2 (.t 11),none⟩,
⟨some 13,.ld (.sc (.int .i64)) (.t 12),none⟩,
⟨some 14,.mov (.t 0),none⟩,
⟨some 15,.nilc (.t 14),none⟩,
⟨some 16,.fad 3 (.t 15),none⟩,
⟨some 17,.ld (.sc (.int .i64)) (.t 16),none⟩,
⟨some 6,.mov (.t 13),none⟩,
⟨some 7,.mov (.t 17),none⟩] [0,1,6,7]) (.seq (.reg [⟨some 19,.mov (.t 1),none⟩,
⟨some 20,.calv (.t 19) [] (.tup [(.sc (.int .i64)),(.sc (.int .i64))]),none⟩,
⟨some 18,.mov (.t 20),none⟩,
⟨some 21,.ext 0 (.t 18),none⟩,
⟨some 22,.ext 1 (.t 18),none⟩,
⟨some 8,.mov (.t 21),none⟩,
⟨some 9,.mov (.t 22),none⟩] [0,6,7,8,9]) (.seq (.seq (.reg [⟨some 23,.mov (.t 9),none⟩,
⟨some 24,.cmp .neq (.t 23) (.c (Go.Value.int Go.IntKind.i64 0)),none⟩] [0,6,7,8,9,24]) (.cond (.t 24) (.seq (.reg [⟨some 25,.mov (.t 0),none⟩,
⟨some 26,.mov (.t 0),none⟩,
⟨some 27,.mov (.t 6),none⟩,
⟨some 28,.mov (.t 7),none⟩,
⟨some 29,.nilc (.t 25),none⟩,
⟨some 30,.fad 2 (.t 29),none⟩,
⟨none,.st 1 (.t 30) (.t 27),none⟩,
⟨some 31,.nilc (.t 26),none⟩,
⟨some 32,.fad 3 (.t 31),none⟩,
⟨none,.st 1 (.t 32) (.t 28),none⟩] [9]) (.seq (.reg [⟨some 33,.mov (.t 9),none⟩,
⟨some 4,.mov (.c (Go.Value.int Go.IntKind.i64 0)),none⟩,
⟨some 5,.mov (.t 33),none⟩] [4,5]) .ret)) .skip)) (.seq (.reg [⟨some 34,.mov (.t 8),none⟩,
⟨some 4,.mov (.t 34),none⟩,
⟨some 5,.mov (.c (Go.Value.int Go.IntKind.i64 0)),none⟩] [4,5]) .ret)))))⟩
def bitio_Reader_whole_v91_ca {R:Type} (f:bitio_Reader_whole_v91_t R) (args:List Value) (H:Heap) (K:Value → Heap → Option R):Option R :=
  match args with
  | [.pointer p890,.func (.func 91) ⟨[]⟩ ⟨[.pointer p891,.pointer p892]⟩] => f p890 p891 p892 H (fun n1565 n1566 H => K (.tuple ⟨[.int .i64 n1565,.int .i64 n1566]⟩) H)
  | _ => none
def bitio_Reader_whole_v91_c (R:Type) (k:Nat) (args:List Value) (H:Heap) (K:Value → Heap → Option R):Option R:=bitio_Reader_whole_v91_ca (bitio_Reader_whole_v91 k) args H K
theorem bitio_Reader_whole_v91_e {R:Type} (bitio_Reader_Bits_1:bitio_Reader_Bits_1_t R) (k:Nat) (p890:Oa) (p891:Oa) (p892:Oa) (H:Heap) (K:Value → Heap → Option R):evF (bitio_Reader_whole_v91_Ct bitio_Reader_Bits_1) (bitio_Reader_whole_v91_Jt k) bitio_Reader_whole_v91_f [.pointer p890,.func (.func 91) ⟨[]⟩ ⟨[.pointer p891,.pointer p892]⟩] H K = bitio_Reader_whole_v91_b bitio_Reader_Bits_1 k p890 p891 p892 H (fun n1565 n1566 H => K (.tuple ⟨[.int .i64 n1565,.int .i64 n1566]⟩) H):=by kernel_rfl
theorem bitio_Reader_whole_v91_cs (R:Type) (k:Nat):∀ args H K r,bitio_Reader_whole_v91_c R k args H K = some r → ∃ v H',Tri Try.prog 86 args H v H' ∧ K v H' = some r:=by
  intro args H K r h
  unfold bitio_Reader_whole_v91_c bitio_Reader_whole_v91_ca at h
  split at h
  · exact evF_ok (C:=bitio_Reader_whole_v91_C R k) (an:=An) (t:=bitio_Reader_whole_v91_at) (fn:=Try.f86) (c:=(Try.f86.body.getD .skip)) (ifn:=bitio_Reader_whole_v91_f) (bitio_Reader_whole_v91_S R k) (bitio_Reader_whole_v91_J R k) Try.func86 (by kernel_rfl) (by kernel_rfl) (And.intro True.intro (And.intro True.intro (And.intro True.intro (And.intro (And.intro True.intro (And.intro (And.intro True.intro (And.intro True.intro True.intro)) True.intro)) (And.intro True.intro True.intro))))) rfl (Eq.trans (bitio_Reader_whole_v91_e (bitio_Reader_Bits_1 k) k _ _ _ H K) h)
  · cases h
abbrev bitio_Reader_Bits_p0_t (R:Type):Type:=Oa → Oa → Heap → (Oa → Oa → Option R) → (Int → Int → Option R) → Option R
def bitio_Reader_Bits_p0_b {R:Type} (k:Nat) (p879:Oa) (p880:Oa) (H:Heap) (KN:Oa → Oa → Option R) (KR:Int → Int → Option R):Option R :=
ldI .i64 H p880 fun n881 =>
bif decide (n881 < 0) then (KR 0 1)
 else (ldI .i64 H p880 fun n882 =>
bif decide (n882 > 32) then (KR 0 1)
 else (KN p879 p880))
def bitio_Reader_Bits_p0 {R:Type} (k:Nat) (p879:Oa) (p880:Oa) (H:Heap) (KN:Oa → Oa → Option R) (KR:Int → Int → Option R):Option R:=bitio_Reader_Bits_p0_b k p879 p880 H KN KR
abbrev bitio_Reader_Bits_t (R:Type):Type:=Oa → Int → Heap → (Int → Int → Heap → Option R) → Option R
def bitio_Reader_Bits_b {R:Type} (bitio_Reader_ok:bitio_Reader_ok_t R) (bitio_Reader_Bits_p0:bitio_Reader_Bits_p0_t R) (bitio_Reader_whole_v91:bitio_Reader_whole_v91_t R) (k:Nat) (p871:Oa) (n872:Int) (H:Heap) (K:Int → Int → Heap → Option R):Option R :=
hal H [.pointer p871] fun p873 H874 =>
hal H874 [.int .i64 n872] fun p875 H876 =>
ldP H876 p873 fun p877 =>
bitio_Reader_ok p877 H876 fun t878 =>
bif (!t878) then (K 0 6 H876)
 else (bitio_Reader_Bits_p0 p873 p875 H876 (fun p887 p888 =>
ldP H876 p887 fun p889 =>
bitio_Reader_whole_v91 p889 p887 p888 H876 fun n890 n891 H892 =>
K n890 n891 H892) (fun n893 n894 =>
K n893 n894 H876))
def bitio_Reader_Bits {R:Type} (k:Nat) (p871:Oa) (n872:Int) (H:Heap) (K:Int → Int → Heap → Option R):Option R:=bitio_Reader_Bits_b bitio_Reader_ok (bitio_Reader_Bits_p0 k) (bitio_Reader_whole_v91 k) k p871 n872 H K
def bitio_Reader_Bits_Ct {R:Type} (bitio_Reader_ok:bitio_Reader_ok_t R) (bitio_Reader_whole_v91:bitio_Reader_whole_v91_t R):Tab R:=tcons 66 (bitio_Reader_ok_ca bitio_Reader_ok) <| tcons 86 (bitio_Reader_whole_v91_ca bitio_Reader_whole_v91) <| fun _ _ _ _ => none
def bitio_Reader_Bits_C (R:Type) (k:Nat):Tab R:=bitio_Reader_Bits_Ct bitio_Reader_ok (bitio_Reader_whole_v91 k)
theorem bitio_Reader_Bits_S (R:Type) (k:Nat):CSound Try.prog (bitio_Reader_Bits_C R k):=csound_cons (bitio_Reader_ok_cs R k) <| csound_cons (bitio_Reader_whole_v91_cs R k) <| csound_nil
def bitio_Reader_Bits_aa0 {R:Type} (f:bitio_Reader_Bits_p0_t R) (n:Nat) (vals:List Value) (H:Heap) (K:Xit → Env → Heap → Option R):Option R :=
  match vals with
  | [.pointer p879,.pointer p880] => f p879 p880 H (fun p1567 p1568 => K .normal [(2,.pointer p1567),(3,.pointer p1568)] H) (fun n1569 n1570 => K .ret [(4,.int .i64 n1569),(5,.int .i64 n1570)] H)
  | _ => none
def bitio_Reader_Bits_a0 (R:Type) (k n:Nat) (vals:List Value) (H:Heap) (K:Xit → Env → Heap → Option R):Option R:=bitio_Reader_Bits_aa0 (bitio_Reader_Bits_p0 k) n vals H K
def bitio_Reader_Bits_Jt {R:Type} (k:Nat) (bitio_Reader_Bits_p0:bitio_Reader_Bits_p0_t R):JTab R:=tcons 0 (bitio_Reader_Bits_aa0 bitio_Reader_Bits_p0 k) <| fun _ _ _ _ => none
def bitio_Reader_Bits_J (R:Type) (k:Nat):JTab R:=bitio_Reader_Bits_Jt k (bitio_Reader_Bits_p0 k)
def bitio_Reader_Bits_at:AT:=(.seq (.reg [2,3] []) (.seq (.seq (.reg [2,3,8] []) (.cond (.seq (.reg [4,5] []) .leaf) .leaf)) (.seq (.opq 0 [2,3] ⟨[2,3],[],[4,5]⟩ (.seq (.reg [2,3,14] []) (.cond (.seq (.reg [4,5] []) .leaf) .leaf))) (.seq (.reg [4,5] []) .leaf))))
def bitio_Reader_Bits_i0:IC:=(.seq (.reg [⟨some 9,.ld (.sc (.int .i64)) (.t 3),none⟩,
⟨some 10,.cmp .lss (.t 9) (.c (Go.Value.int Go.IntKind.i64 0)),none⟩,
⟨some 11,.mov (.t 10),none⟩,
⟨some 12,.ld (.sc (.int .i64)) (.t 3),some (11,false)⟩,
⟨some 13,.cmp .gtr (.t 12) (.c (Go.Value.int Go.IntKind.i64 32)),some (11,false)⟩,
⟨some 14,.pick (.t 11) (.c (Go.Value.bool true)) (.t 13),none⟩] [2,3,14]) (.cond (.t 14) (.seq (.reg [⟨some 4,.mov (.c (Go.Value.int Go.IntKind.i64 0)),none⟩,
⟨some 5,.mov (.c (Go.Value.int Go.IntKind.i64 1)),none⟩] [4,5]) .ret) .skip))
def bitio_Reader_Bits_f:IFn:=⟨20,[.t 4,.t 5],(.seq (.reg [⟨some 2,.box (.t 0),none⟩,
⟨some 3,.box (.t 1),none⟩,
⟨some 4,.mov (.c (Go.Value.int Go.IntKind.i64 0)),none⟩,
⟨some 5,.mov (.c (Go.Value.int Go.IntKind.i64 0)),none⟩] [2,3]) (.seq (.seq (.reg [⟨some 6,.ld (.sc .ptr) (.t 2),none⟩,
⟨some 7,.call 66 [(.t 6)] (.one (.sc .bool)),none⟩,
⟨some 8,.lnot (.t 7),none⟩] [2,3,8]) (.cond (.t 8) (.seq (.reg [⟨some 4,.mov (.c (Go.Value.int Go.IntKind.i64 0)),none⟩,
⟨some 5,.mov (.c (Go.Value.int Go.IntKind.i64 6)),none⟩] [4,5]) .ret) .skip)) (.seq (.opq 0 [2,3] bitio_Reader_Bits_i0) (.seq (.reg [⟨some 15,.ld (.sc .ptr) (.t 2),none⟩,
⟨some 16,.mkf 91 [(.t 2),(.t 3)],none⟩,
⟨some 17,.call 86 [(.t 15),(.t 16)] (.tup [(.sc (.int .i64)),(.sc (.int .i64))]),none⟩,
⟨some 18,.ext 0 (.t 17),none⟩,
⟨some 19,.ext 1 (.t 17),none⟩,
⟨some 4,.mov (.t 18),none⟩,
⟨some 5,.mov (.t 19),none⟩] [4,5]) .ret))))⟩
theorem bitio_Reader_Bits_e0 {R:Type} (bitio_Reader_ok:bitio_Reader_ok_t R) (bitio_Reader_whole_v91:bitio_Reader_whole_v91_t R) (bitio_Reader_Bits_p0:bitio_Reader_Bits_p0_t R) (k:Nat) (p879:Oa) (p880:Oa) (H:Heap) (K:Xit → Env → Heap → Option R):evJ (bitio_Reader_Bits_Ct bitio_Reader_ok bitio_Reader_whole_v91) (bitio_Reader_Bits_Jt k bitio_Reader_Bits_p0) bitio_Reader_Bits_i0 (List.zip [2,3] [.pointer p879,.pointer p880]) H (fun x e' H' => K x (clean e' ((⟨[2,3],[],[4,5]⟩:Out).of x)) H') = bitio_Reader_Bits_p0_b k p879 p880 H (fun p1567 p1568 => K .normal [(2,.pointer p1567),(3,.pointer p1568)] H) (fun n1569 n1570 => K .ret [(4,.int .i64 n1569),(5,.int .i64 n1570)] H):=by kernel_rfl
theorem bitio_Reader_Bits_j0 {R:Type} (k:Nat):JS Try.prog 20 (bitio_Reader_Bits_a0 R k k) [2,3] ⟨[2,3],[],[4,5]⟩ (sel [1,1,0] (Try.f73.body.getD .skip)) :=
  piece_ok (nt:=20) (c:=(sel [1,1,0] (Try.f73.body.getD .skip))) (C:=bitio_Reader_Bits_C R k) (an:=An) (t:=(.seq (.reg [2,3,14] []) (.cond (.seq (.reg [4,5] []) .leaf) .leaf))) (ic:=bitio_Reader_Bits_i0) (bitio_Reader_Bits_S R k) (bitio_Reader_Bits_J R k) (by kernel_rfl) (And.intro True.intro (And.intro (And.intro True.intro True.intro) True.intro)) (bitio_Reader_Bits_a0 R k k)
    (fun vals H K r h => by
      unfold bitio_Reader_Bits_a0 bitio_Reader_Bits_aa0 at h
      split at h <;> first | (cases h; done) | exact Eq.trans (bitio_Reader_Bits_e0 bitio_Reader_ok (bitio_Reader_whole_v91 k) (bitio_Reader_Bits_p0 k) k _ _ H K) h)
def bitio_Reader_Bits_ca {R:Type} (f:bitio_Reader_Bits_t R) (args:List Value) (H:Heap) (K:Value → Heap → Option R):Option R :=
  match args with
  | [.pointer p871,.int .i64 n872] => f p871 n872 H (fun n1571 n1572 H => K (.tuple ⟨[.int .i64 n1571,.int .i64 n1572]⟩) H)
  | _ => none
def bitio_Reader_Bits_c (R:Type) (k:Nat) (args:List Value) (H:Heap) (K:Value → Heap → Option R):Option R:=bitio_Reader_Bits_ca (bitio_Reader_Bits k) args H K
theorem bitio_Reader_Bits_e {R:Type} (bitio_Reader_ok:bitio_Reader_ok_t R) (bitio_Reader_whole_v91:bitio_Reader_whole_v91_t R) (bitio_Reader_Bits_p0:bitio_Reader_Bits_p0_t R) (k:Nat) (p871:Oa) (n872:Int) (H:Heap) (K:Value → Heap → Option R):evF (bitio_Reader_Bits_Ct bitio_Reader_ok bitio_Reader_whole_v91) (bitio_Reader_Bits_Jt k bitio_Reader_Bits_p0) bitio_Reader_Bits_f [.pointer p871,.int .i64 n872] H K = bitio_Reader_Bits_b bitio_Reader_ok bitio_Reader_Bits_p0 bitio_Reader_whole_v91 k p871 n872 H (fun n1571 n1572 H => K (.tuple ⟨[.int .i64 n1571,.int .i64 n1572]⟩) H):=by kernel_rfl
theorem bitio_Reader_Bits_cs (R:Type) (k:Nat):∀ args H K r,bitio_Reader_Bits_c R k args H K = some r → ∃ v H',Tri Try.prog 73 args H v H' ∧ K v H' = some r:=by
  intro args H K r h
  unfold bitio_Reader_Bits_c bitio_Reader_Bits_ca at h
  split at h
  · exact evF_ok (C:=bitio_Reader_Bits_C R k) (an:=An) (t:=bitio_Reader_Bits_at) (fn:=Try.f73) (c:=(Try.f73.body.getD .skip)) (ifn:=bitio_Reader_Bits_f) (bitio_Reader_Bits_S R k) (bitio_Reader_Bits_J R k) Try.func73 (by kernel_rfl) (by kernel_rfl) (And.intro True.intro (And.intro (And.intro True.intro (And.intro (And.intro True.intro True.intro) True.intro)) (And.intro (bitio_Reader_Bits_j0 k) (And.intro True.intro True.intro)))) rfl (Eq.trans (bitio_Reader_Bits_e bitio_Reader_ok (bitio_Reader_whole_v91 k) (bitio_Reader_Bits_p0 k) k _ _ H K) h)
  · cases h
abbrev tagtree_Tree_Decode_1_t (R:Type):Type:=Int → Int → Bool → Oa → Heap → (Int → Int → Heap → Option R) → Option R
def tagtree_Tree_Decode_1_b {R:Type} (bitio_Reader_Get:bitio_Reader_Get_t R) (k:Nat) (n1028:Int) (n1029:Int) (t1030:Bool) (p1031:Oa) (H:Heap) (K:Int → Int → Heap → Option R):Option R :=
hal H [.int .i64 n1028,.int .i64 n1029,.bool t1030] fun p1032 H1033 =>
ldP H1033 p1031 fun p1034 =>
bitio_Reader_Get p1034 H1033 fun n1035 n1036 H1037 =>
K n1035 n1036 H1037
def tagtree_Tree_Decode_1 {R:Type} (k:Nat) (n1028:Int) (n1029:Int) (t1030:Bool) (p1031:Oa) (H:Heap) (K:Int → Int → Heap → Option R):Option R:=tagtree_Tree_Decode_1_b (bitio_Reader_Get k) k n1028 n1029 t1030 p1031 H K
def tagtree_Tree_Decode_1_Ct {R:Type} (bitio_Reader_Get:bitio_Reader_Get_t R):Tab R:=tcons 45 (bitio_Reader_Get_ca bitio_Reader_Get) <| fun _ _ _ _ => none
def tagtree_Tree_Decode_1_C (R:Type) (k:Nat):Tab R:=tagtree_Tree_Decode_1_Ct (bitio_Reader_Get k)
theorem tagtree_Tree_Decode_1_S (R:Type) (k:Nat):CSound Try.prog (tagtree_Tree_Decode_1_C R k):=csound_cons (bitio_Reader_Get_cs R k) <| csound_nil
def tagtree_Tree_Decode_1_Jt {R:Type} (k:Nat):JTab R:=fun _ _ _ _ => none
def tagtree_Tree_Decode_1_J (R:Type) (k:Nat):JTab R:=tagtree_Tree_Decode_1_Jt k
def tagtree_Tree_Decode_1_at:AT:=(.seq (.reg [1] []) (.seq (.reg [3,4] []) .leaf))
def tagtree_Tree_Decode_1_f:IFn:=⟨9,[.t 3,.t 4],(.seq (.reg [⟨some 2,.box (.t 0),none⟩,
⟨some 3,.mov (.c (Go.Value.int Go.IntKind.i64 0)),none⟩,
⟨some 4,.mov (.c (Go.Value.int Go.IntKind.i64 0)),none⟩] [1]) (.seq (.reg [⟨some 5,.ld (.sc .ptr) (.t 1),none⟩,
⟨some 6,.call 45 [(.t 5)] (.tup [(.sc (.int .i64)),(.sc (.int .i64))]),none⟩,
⟨some 7,.ext 0 (.t 6),none⟩,
⟨some 8,.ext 1 (.t 6),none⟩,
⟨some 3,.mov (.t 7),none⟩,
⟨some 4,.mov (.t 8),none⟩] [3,4]) .ret))⟩
def tagtree_Tree_Decode_1_ca {R:Type} (f:tagtree_Tree_Decode_1_t R) (args:List Value) (H:Heap) (K:Value → Heap → Option R):Option R :=
  match args with
  | [.agg ⟨[.int .i64 n1028,.int .i64 n1029,.bool t1030]⟩,.pointer p1031] => f n1028 n1029 t1030 p1031 H (fun n1573 n1574 H => K (.tuple ⟨[.int .i64 n1573,.int .i64 n1574]⟩) H)
  | _ => none
def tagtree_Tree_Decode_1_c (R:Type) (k:Nat) (args:List Value) (H:Heap) (K:Value → Heap → Option R):Option R:=tagtree_Tree_Decode_1_ca (tagtree_Tree_Decode_1 k) args H K
theorem tagtree_Tree_Decode_1_e {R:Type} (bitio_Reader_Get:bitio_Reader_Get_t R) (k:Nat) (n1028:Int) (n1029:Int) (t1030:Bool) (p1031:Oa) (H:Heap) (K:Value → Heap → Option R):evF (tagtree_Tree_Decode_1_Ct bitio_Reader_Get) (tagtree_Tree_Decode_1_Jt k) tagtree_Tree_Decode_1_f [.agg ⟨[.int .i64 n1028,.int .i64 n1029,.bool t1030]⟩,.pointer p1031] H K = tagtree_Tree_Decode_1_b bitio_Reader_Get k n1028 n1029 t1030 p1031 H (fun n1573 n1574 H => K (.tuple ⟨[.int .i64 n1573,.int .i64 n1574]⟩) H):=by kernel_rfl
theorem tagtree_Tree_Decode_1_cs (R:Type) (k:Nat):∀ args H K r,tagtree_Tree_Decode_1_c R k args H K = some r → ∃ v H',Tri Try.prog 85 args H v H' ∧ K v H' = some r:=by
  intro args H K r h
  unfold tagtree_Tree_Decode_1_c tagtree_Tree_Decode_1_ca at h
  split at h
  · exact evF_ok (C:=tagtree_Tree_Decode_1_C R k) (an:=An) (t:=tagtree_Tree_Decode_1_at) (fn:=Try.f85) (c:=(Try.f85.body.getD .skip)) (ifn:=tagtree_Tree_Decode_1_f) (tagtree_Tree_Decode_1_S R k) (tagtree_Tree_Decode_1_J R k) Try.func85 (by kernel_rfl) (by kernel_rfl) (And.intro True.intro (And.intro True.intro True.intro)) rfl (Eq.trans (tagtree_Tree_Decode_1_e (bitio_Reader_Get k) k _ _ _ _ H K) h)
  · cases h
abbrev tagtree_Tree_walk_v85_p2_t (R:Type):Type:=Oa → Int → Int → Int → Oa → Oa → Nat → Nat → Int → Oa → Heap → (Oa → Int → Int → Int → Oa → Oa → Nat → Nat → Int → Oa → Option R) → (Oa → Int → Int → Int → Oa → Oa → Nat → Nat → Int → Oa → Option R) → Option R
def tagtree_Tree_walk_v85_p2_b {R:Type} (k:Nat) (p971:Oa) (n972:Int) (n973:Int) (n974:Int) (p975:Oa) (q976:Oa) (l977:Nat) (c978:Nat) (n979:Int) (p980:Oa) (H:Heap) (KE2:Oa → Int → Int → Int → Oa → Oa → Nat → Nat → Int → Oa → Option R) (KN:Oa → Int → Int → Int → Oa → Oa → Nat → Nat → Int → Oa → Option R):Option R :=
hfad 1 p980 fun p981 =>
ldI .i64 H p981 fun n982 =>
bif decide (n982 < n974) then (hfad 2 p980 fun p983 =>
ldB H p983 fun t984 =>
bif (!t984) then (KN p971 n972 n973 n974 p975 q976 l977 c978 n979 p980)
 else (KE2 p971 n972 n973 n974 p975 q976 l977 c978 n979 p980))
 else (KE2 p971 n972 n973 n974 p975 q976 l977 c978 n979 p980)
def tagtree_Tree_walk_v85_p2 {R:Type} (k:Nat) (p971:Oa) (n972:Int) (n973:Int) (n974:Int) (p975:Oa) (q976:Oa) (l977:Nat) (c978:Nat) (n979:Int) (p980:Oa) (H:Heap) (KE2:Oa → Int → Int → Int → Oa → Oa → Nat → Nat → Int → Oa → Option R) (KN:Oa → Int → Int → Int → Oa → Oa → Nat → Nat → Int → Oa → Option R):Option R:=tagtree_Tree_walk_v85_p2_b k p971 n972 n973 n974 p975 q976 l977 c978 n979 p980 H KE2 KN
abbrev tagtree_Tree_walk_v85_l1_t (R:Type):Type:=(Oa → Int → Int → Int → Oa → Oa → Nat → Nat → Int → Oa → Heap → Option R) → (Int → Heap → Option R) → Nat → Oa → Int → Int → Int → Oa → Oa → Nat → Nat → Int → Oa → Heap → Option R
def tagtree_Tree_walk_v85_l1_b {R:Type} (tagtree_Tree_walk_v85_p2:tagtree_Tree_walk_v85_p2_t R) (tagtree_Tree_Decode_1:tagtree_Tree_Decode_1_t R) (rec:Oa → Int → Int → Int → Oa → Oa → Nat → Nat → Int → Oa → Heap → Option R) (KE2:Oa → Int → Int → Int → Oa → Oa → Nat → Nat → Int → Oa → Heap → Option R) (KR:Int → Heap → Option R) (k:Nat) (p961:Oa) (n962:Int) (n963:Int) (n964:Int) (p965:Oa) (q966:Oa) (l967:Nat) (c968:Nat) (n969:Int) (p970:Oa) (H:Heap):Option R :=
tagtree_Tree_walk_v85_p2 p961 n962 n963 n964 p965 q966 l967 c968 n969 p970 H (fun p1005 n1006 n1007 n1008 p1009 q1010 l1011 c1012 n1013 p1014 =>
KE2 p1005 n1006 n1007 n1008 p1009 q1010 l1011 c1012 n1013 p1014 H) (fun p1015 n1016 n1017 n1018 p1019 q1020 l1021 c1022 n1023 p1024 =>
ldI .i64 H (pad p1024 0) fun n1025 =>
ldI .i64 H (pad p1024 1) fun n1026 =>
ldB H (pad p1024 2) fun t1027 =>
tagtree_Tree_Decode_1 n1025 n1026 t1027 p1019 H fun n1028 n1029 H1030 =>
bif (n1029 != 0) then (KR n1029 H1030)
 else (bif (n1028 == 1) then (hfad 2 p1024 fun p1031 =>
hst1 H1030 p1031 (.bool true) fun H1032 =>
rec p1015 n1016 n1017 n1018 p1019 q1020 l1021 c1022 n1023 p1024 H1032)
 else (hfad 1 p1024 fun p1033 =>
ldI .i64 H1030 p1033 fun n1034 =>
hfad 1 p1024 fun p1035 =>
hst1 H1030 p1035 (.int .i64 (IntKind.wrap .i64 (n1034 + 1))) fun H1036 =>
rec p1015 n1016 n1017 n1018 p1019 q1020 l1021 c1022 n1023 p1024 H1036)))
def tagtree_Tree_walk_v85_l1 {R:Type} (k:Nat) (KE2:Oa → Int → Int → Int → Oa → Oa → Nat → Nat → Int → Oa → Heap → Option R) (KR:Int → Heap → Option R):Nat → Oa → Int → Int → Int → Oa → Oa → Nat → Nat → Int → Oa → Heap → Option R
  | 0,_,_,_,_,_,_,_,_,_,_,_ => none
  | n + 1,p961,n962,n963,n964,p965,q966,l967,c968,n969,p970,H => tagtree_Tree_walk_v85_l1_b (tagtree_Tree_walk_v85_p2 k) (tagtree_Tree_Decode_1 k) (tagtree_Tree_walk_v85_l1 k KE2 KR n) KE2 KR k p961 n962 n963 n964 p965 q966 l967 c968 n969 p970 H
abbrev tagtree_Tree_walk_v85_l0_t (R:Type):Type:=(Oa → Int → Int → Oa → Nat → Nat → Heap → Option R) → (Int → Heap → Option R) → Nat → Oa → Int → Int → Int → Oa → Oa → Nat → Nat → Int → Int → Heap → Option R
def tagtree_Tree_walk_v85_l0_b {R:Type} (tagtree_Tree_at:tagtree_Tree_at_t R) (tagtree_Tree_walk_v85_l1:tagtree_Tree_walk_v85_l1_t R) (rec:Oa → Int → Int → Int → Oa → Oa → Nat → Nat → Int → Int → Heap → Option R) (KE0:Oa → Int → Int → Oa → Nat → Nat → Heap → Option R) (KR:Int → Heap → Option R) (k:Nat) (p939:Oa) (n940:Int) (n941:Int) (n942:Int) (p943:Oa) (q944:Oa) (l945:Nat) (c946:Nat) (n947:Int) (n948:Int) (H:Heap):Option R :=
bif decide (n948 ≥ 0) then (tagtree_Tree_at p939 n948 n940 n941 H fun p949 =>
hnil p949 fun p950 =>
ldI .i64 H (pad p950 0) fun n951 =>
ldI .i64 H (pad p950 1) fun n952 =>
ldB H (pad p950 2) fun t953 =>
hal H [.int .i64 0,.int .i64 0,.bool false] fun p954 H955 =>
hst H955 p954 [.int .i64 n951,.int .i64 n952,.bool t953] fun H956 =>
hfad 1 p954 fun p957 =>
ldI .i64 H956 p957 fun n958 =>
hfad 1 p954 fun p959 =>
hst1 H956 p959 (.int .i64 (imx n958 n947)) fun H960 =>
tagtree_Tree_walk_v85_l1 (fun p1048 n1049 n1050 n1051 p1052 q1053 l1054 c1055 n1056 p1057 H1058 =>
hfad 1 p1057 fun p1059 =>
ldI .i64 H1058 p1059 fun n1060 =>
ldI .i64 H1058 (pad p1057 0) fun n1061 =>
ldI .i64 H1058 (pad p1057 1) fun n1062 =>
ldB H1058 (pad p1057 2) fun t1063 =>
hidx q1053 l1054 n1056 3 fun p1064 =>
hst H1058 p1064 [.int .i64 n1061,.int .i64 n1062,.bool t1063] fun H1065 =>
rec p1048 n1049 n1050 n1051 p1052 q1053 l1054 c1055 n1060 (IntKind.wrap .i64 (n1056 - 1)) H1065) (fun n1066 H1067 =>
KR n1066 H1067) k p939 n940 n941 n942 p943 q944 l945 c946 n948 p954 H960)
 else (KE0 p939 n940 n941 q944 l945 c946 H)
def tagtree_Tree_walk_v85_l0 {R:Type} (k:Nat) (KE0:Oa → Int → Int → Oa → Nat → Nat → Heap → Option R) (KR:Int → Heap → Option R):Nat → Oa → Int → Int → Int → Oa → Oa → Nat → Nat → Int → Int → Heap → Option R
  | 0,_,_,_,_,_,_,_,_,_,_,_ => none
  | n + 1,p939,n940,n941,n942,p943,q944,l945,c946,n947,n948,H => tagtree_Tree_walk_v85_l0_b tagtree_Tree_at (tagtree_Tree_walk_v85_l1 k) (tagtree_Tree_walk_v85_l0 k KE0 KR n) KE0 KR k p939 n940 n941 n942 p943 q944 l945 c946 n947 n948 H
abbrev tagtree_Tree_walk_v85_l3_t (R:Type):Type:=(Heap → Option R) → Nat → Oa → Int → Int → Oa → Nat → Nat → Int → Int → Heap → Option R
def tagtree_Tree_walk_v85_l3_b {R:Type} (tagtree_Tree_at:tagtree_Tree_at_t R) (rec:Oa → Int → Int → Oa → Nat → Nat → Int → Int → Heap → Option R) (KE4:Heap → Option R) (k:Nat) (p1082:Oa) (n1083:Int) (n1084:Int) (q1085:Oa) (l1086:Nat) (c1087:Nat) (n1088:Int) (n1089:Int) (H:Heap):Option R :=
bif decide (n1089 < n1088) then (hidx q1085 l1086 n1089 3 fun p1090 =>
ldI .i64 H (pad p1090 0) fun n1091 =>
ldI .i64 H (pad p1090 1) fun n1092 =>
ldB H (pad p1090 2) fun t1093 =>
hal H [.int .i64 0,.int .i64 0,.bool false] fun p1094 H1095 =>
hst H1095 p1094 [.int .i64 n1091,.int .i64 n1092,.bool t1093] fun H1096 =>
tagtree_Tree_at p1082 n1089 n1083 n1084 (roH H1096) fun p1097 =>
ldI .i64 (H1096 ++ (roH H1096).drop H1096.length) (pad p1094 0) fun n1098 =>
ldI .i64 (H1096 ++ (roH H1096).drop H1096.length) (pad p1094 1) fun n1099 =>
ldB (H1096 ++ (roH H1096).drop H1096.length) (pad p1094 2) fun t1100 =>
hnil p1097 fun p1101 =>
hst (H1096 ++ (roH H1096).drop H1096.length) p1101 [.int .i64 n1098,.int .i64 n1099,.bool t1100] fun H1102 =>
rec p1082 n1083 n1084 q1085 l1086 c1087 n1088 (IntKind.wrap .i64 (n1089 + 1)) H1102)
 else (KE4 H)
def tagtree_Tree_walk_v85_l3 {R:Type} (k:Nat) (KE4:Heap → Option R):Nat → Oa → Int → Int → Oa → Nat → Nat → Int → Int → Heap → Option R
  | 0,_,_,_,_,_,_,_,_,_ => none
  | n + 1,p1082,n1083,n1084,q1085,l1086,c1087,n1088,n1089,H => tagtree_Tree_walk_v85_l3_b tagtree_Tree_at (tagtree_Tree_walk_v85_l3 k KE4 n) KE4 k p1082 n1083 n1084 q1085 l1086 c1087 n1088 n1089 H
abbrev tagtree_Tree_walk_v85_t (R:Type):Type:=Oa → Int → Int → Int → Oa → Heap → (Int → Heap → Option R) → Option R
def tagtree_Tree_walk_v85_b {R:Type} (tagtree_Tree_walk_v85_l0:tagtree_Tree_walk_v85_l0_t R) (tagtree_Tree_walk_v85_l3:tagtree_Tree_walk_v85_l3_t R) (k:Nat) (p920:Oa) (n921:Int) (n922:Int) (n923:Int) (p924:Oa) (H:Heap) (K:Int → Heap → Option R):Option R :=
hnil p920 fun p925 =>
hfad 0 p925 fun p926 =>
ldL H p926 fun q927 l928 c929 =>
hmk [.int .i64 0,.int .i64 0,.bool false] 24 H ((l928:Nat):Int) ((l928:Nat):Int) fun q930 l931 c932 H933 =>
hnil p920 fun p934 =>
hfad 0 p934 fun p935 =>
ldL H933 p935 fun q936 l937 c938 =>
tagtree_Tree_walk_v85_l0 (fun p1075 n1076 n1077 q1078 l1079 c1080 H1081 =>
tagtree_Tree_walk_v85_l3 (fun H1103 =>
K 0 H1103) k p1075 n1076 n1077 q1078 l1079 c1080 ((l1079:Nat):Int) 0 H1081) (fun n1104 H1105 =>
K n1104 H1105) k p920 n921 n922 n923 p924 q930 l931 c932 0 (IntKind.wrap .i64 (((l937:Nat):Int) - 1)) H933
def tagtree_Tree_walk_v85 {R:Type} (k:Nat) (p920:Oa) (n921:Int) (n922:Int) (n923:Int) (p924:Oa) (H:Heap) (K:Int → Heap → Option R):Option R:=tagtree_Tree_walk_v85_b (tagtree_Tree_walk_v85_l0 k) (tagtree_Tree_walk_v85_l3 k) k p920 n921 n922 n923 p924 H K
def tagtree_Tree_walk_v85_Ct {R:Type} (tagtree_Tree_at:tagtree_Tree_at_t R) (tagtree_Tree_Decode_1:tagtree_Tree_Decode_1_t R):Tab R:=tcons 56 (tagtree_Tree_at_ca tagtree_Tree_at) <| tcons 85 (tagtree_Tree_Decode_1_ca tagtree_Tree_Decode_1) <| fun _ _ _ _ => none
def tagtree_Tree_walk_v85_C (R:Type) (k:Nat):Tab R:=tagtree_Tree_walk_v85_Ct tagtree_Tree_at (tagtree_Tree_Decode_1 k)
theorem tagtree_Tree_walk_v85_S (R:Type) (k:Nat):CSound Try.prog (tagtree_Tree_walk_v85_C R k):=csound_cons (tagtree_Tree_at_cs R k) <| csound_cons (tagtree_Tree_Decode_1_cs R k) <| csound_nil
def tagtree_Tree_walk_v85_aa0 {R:Type} (f:tagtree_Tree_walk_v85_l0_t R) (n:Nat) (vals:List Value) (H:Heap) (K:Xit → Env → Heap → Option R):Option R :=
  match vals with
  | [.pointer p939,.int .i64 n940,.int .i64 n941,.int .i64 n942,.func (.func 85) ⟨[]⟩ ⟨[.pointer p943]⟩,.slice q944 l945 c946,.int .i64 n947,.int .i64 n948] => f (fun p1575 n1576 n1577 q1578 l1579 c1580 H => K (.exit 0) [(0,.pointer p1575),(1,.int .i64 n1576),(2,.int .i64 n1577),(11,.slice q1578 l1579 c1580)] H) (fun n1581 H => K .ret [(10,.int .i64 n1581)] H) n p939 n940 n941 n942 p943 q944 l945 c946 n947 n948 H
  | _ => none
def tagtree_Tree_walk_v85_a0 (R:Type) (k n:Nat) (vals:List Value) (H:Heap) (K:Xit → Env → Heap → Option R):Option R:=tagtree_Tree_walk_v85_aa0 (tagtree_Tree_walk_v85_l0 k) n vals H K
def tagtree_Tree_walk_v85_aa1 {R:Type} (f:tagtree_Tree_walk_v85_l1_t R) (n:Nat) (vals:List Value) (H:Heap) (K:Xit → Env → Heap → Option R):Option R :=
  match vals with
  | [.pointer p961,.int .i64 n962,.int .i64 n963,.int .i64 n964,.func (.func 85) ⟨[]⟩ ⟨[.pointer p965]⟩,.slice q966 l967 c968,.int .i64 n969,.pointer p970] => f (fun p1582 n1583 n1584 n1585 p1586 q1587 l1588 c1589 n1590 p1591 H => K (.exit 2) [(0,.pointer p1582),(1,.int .i64 n1583),(2,.int .i64 n1584),(3,.int .i64 n1585),(4,.func (.func 85) #[] ⟨[.pointer p1586]⟩),(11,.slice q1587 l1588 c1589),(13,.int .i64 n1590),(14,.pointer p1591)] H) (fun n1592 H => K .ret [(10,.int .i64 n1592)] H) n p961 n962 n963 n964 p965 q966 l967 c968 n969 p970 H
  | _ => none
def tagtree_Tree_walk_v85_a1 (R:Type) (k n:Nat) (vals:List Value) (H:Heap) (K:Xit → Env → Heap → Option R):Option R:=tagtree_Tree_walk_v85_aa1 (tagtree_Tree_walk_v85_l1 k) n vals H K
def tagtree_Tree_walk_v85_aa2 {R:Type} (f:tagtree_Tree_walk_v85_p2_t R) (n:Nat) (vals:List Value) (H:Heap) (K:Xit → Env → Heap → Option R):Option R :=
  match vals with
  | [.pointer p971,.int .i64 n972,.int .i64 n973,.int .i64 n974,.func (.func 85) ⟨[]⟩ ⟨[.pointer p975]⟩,.slice q976 l977 c978,.int .i64 n979,.pointer p980] => f p971 n972 n973 n974 p975 q976 l977 c978 n979 p980 H (fun p1593 n1594 n1595 n1596 p1597 q1598 l1599 c1600 n1601 p1602 => K (.exit 2) [(0,.pointer p1593),(1,.int .i64 n1594),(2,.int .i64 n1595),(3,.int .i64 n1596),(4,.func (.func 85) #[] ⟨[.pointer p1597]⟩),(11,.slice q1598 l1599 c1600),(13,.int .i64 n1601),(14,.pointer p1602)] H) (fun p1603 n1604 n1605 n1606 p1607 q1608 l1609 c1610 n1611 p1612 => K .normal [(0,.pointer p1603),(1,.int .i64 n1604),(2,.int .i64 n1605),(3,.int .i64 n1606),(4,.func (.func 85) #[] ⟨[.pointer p1607]⟩),(11,.slice q1608 l1609 c1610),(13,.int .i64 n1611),(14,.pointer p1612)] H)
  | _ => none
def tagtree_Tree_walk_v85_a2 (R:Type) (k n:Nat) (vals:List Value) (H:Heap) (K:Xit → Env → Heap → Option R):Option R:=tagtree_Tree_walk_v85_aa2 (tagtree_Tree_walk_v85_p2 k) n vals H K
def tagtree_Tree_walk_v85_aa3 {R:Type} (f:tagtree_Tree_walk_v85_l3_t R) (n:Nat) (vals:List Value) (H:Heap) (K:Xit → Env → Heap → Option R):Option R :=
  match vals with
  | [.pointer p1082,.int .i64 n1083,.int .i64 n1084,.slice q1085 l1086 c1087,.int .i64 n1088,.int .i64 n1089] => f (fun H => K (.exit 4) [] H) n p1082 n1083 n1084 q1085 l1086 c1087 n1088 n1089 H
  | _ => none
def tagtree_Tree_walk_v85_a3 (R:Type) (k n:Nat) (vals:List Value) (H:Heap) (K:Xit → Env → Heap → Option R):Option R:=tagtree_Tree_walk_v85_aa3 (tagtree_Tree_walk_v85_l3 k) n vals H K
def tagtree_Tree_walk_v85_Jt {R:Type} (k:Nat) (tagtree_Tree_walk_v85_l0:tagtree_Tree_walk_v85_l0_t R) (tagtree_Tree_walk_v85_l1:tagtree_Tree_walk_v85_l1_t R) (tagtree_Tree_walk_v85_p2:tagtree_Tree_walk_v85_p2_t R) (tagtree_Tree_walk_v85_l3:tagtree_Tree_walk_v85_l3_t R):JTab R:=tcons 0 (tagtree_Tree_walk_v85_aa0 tagtree_Tree_walk_v85_l0 k) <| tcons 1 (tagtree_Tree_walk_v85_aa1 tagtree_Tree_walk_v85_l1 k) <| tcons 2 (tagtree_Tree_walk_v85_aa2 tagtree_Tree_walk_v85_p2 k) <| tcons 3 (tagtree_Tree_walk_v85_aa3 tagtree_Tree_walk_v85_l3 k) <| fun _ _ _ _ => none
def tagtree_Tree_walk_v85_J (R:Type) (k:Nat):JTab R:=tagtree_Tree_walk_v85_Jt k (tagtree_Tree_walk_v85_l0 k) (tagtree_Tree_walk_v85_l1 k) (tagtree_Tree_walk_v85_p2 k) (tagtree_Tree_walk_v85_l3 k)
def tagtree_Tree_walk_v85_at:AT:=(.seq (.reg [0,1,2,3,4] []) (.seq (.reg [0,1,2,3,4,11] []) (.seq (.reg [0,1,2,3,4,11,12] []) (.seq (.seq (.reg [0,1,2,3,4,11,12,13] []) (.node (.opq 0 [0,1,2,3,4,11,12,13] ⟨[],[(0,[0,1,2,11])],[10]⟩ (.node (.seq (.seq (.reg [0,1,2,3,4,11,12,13,32] []) (.cond .leaf .leaf)) (.seq (.node (.seq (.reg [0,1,2,3,4,11,12,13,14] []) (.seq (.reg [0,1,2,3,4,11,13,14] []) (.seq (.node (.opq 1 [0,1,2,3,4,11,13,14] ⟨[],[(2,[0,1,2,3,4,11,13,14])],[10]⟩ (.node (.seq (.opq 2 [0,1,2,3,4,11,13,14] ⟨[0,1,2,3,4,11,13,14],[(2,[0,1,2,3,4,11,13,14])],[]⟩ (.seq (.reg [0,1,2,3,4,11,13,14,55] []) (.cond .leaf .leaf))) (.node (.seq (.reg [0,1,2,3,4,11,13,14,15,16] []) (.seq (.seq (.reg [0,1,2,3,4,11,13,14,15,16,63] []) (.cond (.seq (.reg [10] []) .leaf) .leaf)) (.seq (.reg [0,1,2,3,4,11,13,14,66] []) (.cond (.reg [0,1,2,3,4,11,13,14] []) (.reg [0,1,2,3,4,11,13,14] [])))))))))) (.reg [0,1,2,3,4,11,12,13] [[],[],[],[2],[],[2,3],[0,1,2,3,4,5],[0,1,2,3,4,5,6]]))))) (.reg [0,1,2,3,4,11,12,13] []))))))) (.seq (.seq (.reg [0,1,2,78,79,80] []) (.node (.opq 3 [0,1,2,78,79,80] ⟨[],[(4,[])],[]⟩ (.node (.seq (.reg [0,1,2,78,79,80,81] []) (.seq (.cond .leaf .leaf) (.seq (.node (.seq (.reg [0,1,2,17,18,78,79,80] []) (.reg [0,1,2,78,79,80] [[],[],[],[],[0,1,2,3],[],[0,1,2,3,4,5],[0,1,2,3,4,5,6]]))) (.reg [0,1,2,78,79,80] [])))))))) (.seq (.reg [10] []) .leaf))))))
def tagtree_Tree_walk_v85_i3:IC:=(.seq (.reg [⟨some 81,.cmp .lss (.t 80) (.t 79),none⟩] [0,1,2,78,79,80,81]) (.seq (.cond (.t 81) .skip (.exit 4)) (.seq (.block 5 (.seq (.reg [⟨some 82,.mov (.t 80),none⟩,
⟨some 83,.ids 3 (.t 78) (.t 80),none⟩,
⟨some 84,.ld (.agg [(.int .i64),(.int .i64),.bool]) (.t 83),none⟩,
⟨some 18,.alc [.int .i64 0,.int .i64 0,.bool false],none⟩,
⟨some 17,.mov (.t 82),none⟩,
⟨none,.st 3 (.t 18) (.t 84),none⟩] [0,1,2,17,18,78,79,80]) (.reg [⟨some 85,.mov (.t 0),none⟩,
⟨some 86,.mov (.t 17),none⟩,
⟨some 87,.mov (.t 1),none⟩,
⟨some 88,.mov (.t 2),none⟩,
⟨some 89,.calf 56 [(.t 85),(.t 86),(.t 87),(.t 88)] [] (.one (.sc .ptr)),none⟩,
⟨some 90,.ld (.agg [(.int .i64),(.int .i64),.bool]) (.t 18),none⟩,
⟨some 91,.nilc (.t 89),none⟩,
⟨none,.st 3 (.t 91) (.t 90),none⟩] [0,1,2,78,79,80]))) (.reg [⟨some 92,.bin .add .i64 (.t 80) (.c (Go.Value.int Go.IntKind.i64 1)),none⟩,
⟨some 80,.mov (.t 92),none⟩] [0,1,2,78,79,80]))))
def tagtree_Tree_walk_v85_i2:IC:=(.seq (.reg [⟨some 47,.fad 1 (.t 14),none⟩,
⟨some 48,.ld (.sc (.int .i64)) (.t 47),none⟩,
⟨some 49,.mov (.t 3),none⟩,
⟨some 50,.cmp .lss (.t 48) (.t 49),none⟩,
⟨some 51,.mov (.t 50),none⟩,
⟨some 52,.fad 2 (.t 14),some (51,true)⟩,
⟨some 53,.ld (.sc .bool) (.t 52),some (51,true)⟩,
⟨some 54,.lnot (.t 53),some (51,true)⟩,
⟨some 55,.pick (.t 51) (.t 54) (.c (Go.Value.bool false)),none⟩] [0,1,2,3,4,11,13,14,55]) (.cond (.t 55) .skip (.exit 2)))
def tagtree_Tree_walk_v85_i1:IC:=(.seq (.opq 2 [0,1,2,3,4,11,13,14] tagtree_Tree_walk_v85_i2) (.block 3 (.seq (.reg [⟨some 57,.mov (.t 4),none⟩,
⟨some 58,.ld (.agg [(.int .i64),(.int .i64),.bool]) (.t 14),none⟩,
⟨some 59,.calv (.t 57) [(.t 58)] (.tup [(.sc (.int .i64)),(.sc (.int .i64))]),none⟩,
⟨some 56,.mov (.t 59),none⟩,
⟨some 60,.ext 0 (.t 56),none⟩,
⟨some 61,.ext 1 (.t 56),none⟩,
⟨some 15,.mov (.t 60),none⟩,
⟨some 16,.mov (.t 61),none⟩] [0,1,2,3,4,11,13,14,15,16]) (.seq (.seq (.reg [⟨some 62,.mov (.t 16),none⟩,
⟨some 63,.cmp .neq (.t 62) (.c (Go.Value.int Go.IntKind.i64 0)),none⟩] [0,1,2,3,4,11,13,14,15,16,63]) (.cond (.t 63) (.seq (.reg [⟨some 64,.mov (.t 16),none⟩,
⟨some 10,.mov (.t 64),none⟩] [10]) .ret) .skip)) (.seq (.reg [⟨some 65,.mov (.t 15),none⟩,
⟨some 66,.cmp .eql (.t 65) (.c (Go.Value.int Go.IntKind.i64 1)),none⟩] [0,1,2,3,4,11,13,14,66]) (.cond (.t 66) (.reg [⟨some 67,.fad 2 (.t 14),none⟩,
⟨none,.st 1 (.t 67) (.c (Go.Value.bool true)),none⟩] [0,1,2,3,4,11,13,14]) (.reg [⟨some 68,.fad 1 (.t 14),none⟩,
⟨some 69,.ld (.sc (.int .i64)) (.t 68),none⟩,
⟨some 70,.bin .add .i64 (.t 69) (.c (Go.Value.int Go.IntKind.i64 1)),none⟩,
⟨some 71,.fad 1 (.t 14),none⟩,
⟨none,.st 1 (.t 71) (.t 70),none⟩] [0,1,2,3,4,11,13,14])))))))
def tagtree_Tree_walk_v85_i0:IC:=(.seq (.seq (.reg [⟨some 31,.mov (.t 13),none⟩,
⟨some 32,.cmp .geq (.t 31) (.c (Go.Value.int Go.IntKind.i64 0)),none⟩] [0,1,2,3,4,11,12,13,32]) (.cond (.t 32) .skip (.exit 0))) (.seq (.block 1 (.seq (.reg [⟨some 35,.mov (.t 0),none⟩,
⟨some 36,.mov (.t 13),none⟩,
⟨some 37,.mov (.t 1),none⟩,
⟨some 38,.mov (.t 2),none⟩,
⟨some 39,.call 56 [(.t 35),(.t 36),(.t 37),(.t 38)] (.one (.sc .ptr)),none⟩,
⟨some 40,.nilc (.t 39),none⟩,
⟨some 41,.ld (.agg [(.int .i64),(.int .i64),.bool]) (.t 40),none⟩,
⟨some 14,.alc [.int .i64 0,.int .i64 0,.bool false],none⟩,
⟨none,.st 3 (.t 14) (.t 41),none⟩] [0,1,2,3,4,11,12,13,14]) (.seq (.reg [⟨some 42,.fad 1 (.t 14),none⟩,
⟨some 43,.ld (.sc (.int .i64)) (.t 42),none⟩,
⟨some 44,.mov (.t 12),none⟩,
⟨some 45,.mx (.t 43) (.t 44),none⟩,
⟨some 46,.fad 1 (.t 14),none⟩,
⟨none,.st 1 (.t 46) (.t 45),none⟩] [0,1,2,3,4,11,13,14]) (.seq (.block 2 (.opq 1 [0,1,2,3,4,11,13,14] (.loop tagtree_Tree_walk_v85_i1))) (.reg [⟨some 72,.mov (.t 11),none⟩,
⟨some 73,.mov (.t 13),none⟩,
⟨some 74,.fad 1 (.t 14),none⟩,
⟨some 75,.ld (.sc (.int .i64)) (.t 74),none⟩,
⟨some 76,.ld (.agg [(.int .i64),(.int .i64),.bool]) (.t 14),none⟩,
⟨some 12,.mov (.t 75),none⟩,
⟨some 77,.ids 3 (.t 72) (.t 73),none⟩,
⟨none,.st 3 (.t 77) (.t 76),none⟩] [0,1,2,3,4,11,12,13]))))) (.reg [⟨some 33,.mov (.t 13),none⟩,
⟨some 34,.bin .sub .i64 (.t 33) (.c (Go.Value.int Go.IntKind.i64 1)),none⟩,
⟨some 13,.mov (.t 34),none⟩] [0,1,2,3,4,11,12,13])))
def tagtree_Tree_walk_v85_f:IFn:=⟨93,[.t 10],(.seq (.reg [⟨some 10,.mov (.c (Go.Value.int Go.IntKind.i64 0)),none⟩] [0,1,2,3,4]) (.seq (.reg [⟨some 19,.mov (.t 0),none⟩,
⟨some 20,.nilc (.t 19),none⟩,
⟨some 21,.fad 0 (.t 20),none⟩,
⟨some 22,.ld (.sc .slc) (.t 21),none⟩,
⟨some 23,.len false (.t 22),none⟩,
⟨some 24,.mks [.int .i64 0,.int .i64 0,.bool false] 24 (.t 23) (.t 23),none⟩,
⟨some 11,.mov (.t 24),none⟩] [0,1,2,3,4,11]) (.seq (.reg [⟨some 12,.mov (.c (Go.Value.int Go.IntKind.i64 0)),none⟩] [0,1,2,3,4,11,12]) (.seq (.seq (.reg [⟨some 25,.mov (.t 0),none⟩,
⟨some 26,.nilc (.t 25),none⟩,
⟨some 27,.fad 0 (.t 26),none⟩,
⟨some 28,.ld (.sc .slc) (.t 27),none⟩,
⟨some 29,.len false (.t 28),none⟩,
⟨some 30,.bin .sub .i64 (.t 29) (.c (Go.Value.int Go.IntKind.i64 1)),none⟩,
⟨some 13,.mov (.t 30),none⟩] [0,1,2,3,4,11,12,13]) (.block 0 (.opq 0 [0,1,2,3,4,11,12,13] (.loop tagtree_Tree_walk_v85_i0)))) (.seq (.seq (.reg [⟨some 78,.mov (.t 11),none⟩,
⟨some 79,.len false (.t 78),none⟩,
⟨some 80,.mov (.c (Go.Value.int Go.IntKind.i64 0)),none⟩] [0,1,2,78,79,80]) (.block 4 (.opq 3 [0,1,2,78,79,80] (.loop tagtree_Tree_walk_v85_i3)))) (.seq (.reg [⟨some 10,.mov (.c (Go.Value.int Go.IntKind.i64 0)),none⟩] [10]) .ret))))))⟩
theorem tagtree_Tree_walk_v85_e3 {R:Type} (tagtree_Tree_at:tagtree_Tree_at_t R) (tagtree_Tree_Decode_1:tagtree_Tree_Decode_1_t R) (tagtree_Tree_walk_v85_l0:tagtree_Tree_walk_v85_l0_t R) (tagtree_Tree_walk_v85_l1:tagtree_Tree_walk_v85_l1_t R) (tagtree_Tree_walk_v85_p2:tagtree_Tree_walk_v85_p2_t R) (tagtree_Tree_walk_v85_l3:tagtree_Tree_walk_v85_l3_t R) (k n:Nat) (p1082:Oa) (n1083:Int) (n1084:Int) (q1085:Oa) (l1086:Nat) (c1087:Nat) (n1088:Int) (n1089:Int) (H:Heap) (K:Xit → Env → Heap → Option R):evJ (tagtree_Tree_walk_v85_Ct tagtree_Tree_at tagtree_Tree_Decode_1) (tagtree_Tree_walk_v85_Jt k tagtree_Tree_walk_v85_l0 tagtree_Tree_walk_v85_l1 tagtree_Tree_walk_v85_p2 tagtree_Tree_walk_v85_l3) tagtree_Tree_walk_v85_i3 (List.zip [0,1,2,78,79,80] [.pointer p1082,.int .i64 n1083,.int .i64 n1084,.slice q1085 l1086 c1087,.int .i64 n1088,.int .i64 n1089]) H (fun x e' H' => match x with | .normal => tagtree_Tree_walk_v85_aa3 tagtree_Tree_walk_v85_l3 n ((clean e' [0,1,2,78,79,80]).map (·.2)) H' K | x => K x (clean e' ((⟨[],[(4,[])],[]⟩:Out).of x)) H') = tagtree_Tree_walk_v85_l3_b tagtree_Tree_at (tagtree_Tree_walk_v85_l3 (fun H => K (.exit 4) [] H) n) (fun H => K (.exit 4) [] H) k p1082 n1083 n1084 q1085 l1086 c1087 n1088 n1089 H:=by kernel_rfl
theorem tagtree_Tree_walk_v85_j3 {R:Type} (k:Nat):JS Try.prog 93 (tagtree_Tree_walk_v85_a3 R k k) [0,1,2,78,79,80] ⟨[],[(4,[])],[]⟩ (.loop (sel [1,1,1,1,0,1,0,0] (Try.f82.body.getD .skip))) :=
  loop_ok (nt:=93) (c:=(sel [1,1,1,1,0,1,0,0] (Try.f82.body.getD .skip))) (C:=tagtree_Tree_walk_v85_C R k) (an:=An) (t:=(.seq (.reg [0,1,2,78,79,80,81] []) (.seq (.cond .leaf .leaf) (.seq (.node (.seq (.reg [0,1,2,17,18,78,79,80] []) (.reg [0,1,2,78,79,80] [[],[],[],[],[0,1,2,3],[],[0,1,2,3,4,5],[0,1,2,3,4,5,6]]))) (.reg [0,1,2,78,79,80] []))))) (ic:=tagtree_Tree_walk_v85_i3) (tagtree_Tree_walk_v85_S R k) (tagtree_Tree_walk_v85_J R k) (by kernel_rfl) (And.intro True.intro (And.intro (And.intro True.intro True.intro) (And.intro (And.intro True.intro True.intro) True.intro))) (tagtree_Tree_walk_v85_a3 R k) (fun vals H K => by unfold tagtree_Tree_walk_v85_a3 tagtree_Tree_walk_v85_aa3; split <;> rfl)
    (fun n vals H K r h => by
      unfold tagtree_Tree_walk_v85_a3 tagtree_Tree_walk_v85_aa3 at h
      split at h <;> first | (cases h; done) | exact Eq.trans (tagtree_Tree_walk_v85_e3 tagtree_Tree_at (tagtree_Tree_Decode_1 k) (tagtree_Tree_walk_v85_l0 k) (tagtree_Tree_walk_v85_l1 k) (tagtree_Tree_walk_v85_p2 k) (tagtree_Tree_walk_v85_l3 k) k n _ _ _ _ _ _ _ _ H K) h) k
theorem tagtree_Tree_walk_v85_e2 {R:Type} (tagtree_Tree_at:tagtree_Tree_at_t R) (tagtree_Tree_Decode_1:tagtree_Tree_Decode_1_t R) (tagtree_Tree_walk_v85_l0:tagtree_Tree_walk_v85_l0_t R) (tagtree_Tree_walk_v85_l1:tagtree_Tree_walk_v85_l1_t R) (tagtree_Tree_walk_v85_p2:tagtree_Tree_walk_v85_p2_t R) (tagtree_Tree_walk_v85_l3:tagtree_Tree_walk_v85_l3_t R) (k:Nat) (p971:Oa) (n972:Int) (n973:Int) (n974:Int) (p975:Oa) (q976:Oa) (l977:Nat) (c978:Nat) (n979:Int) (p980:Oa) (H:Heap) (K:Xit → Env → Heap → Option R):evJ (tagtree_Tree_walk_v85_Ct tagtree_Tree_at tagtree_Tree_Decode_1) (tagtree_Tree_walk_v85_Jt k tagtree_Tree_walk_v85_l0 tagtree_Tree_walk_v85_l1 tagtree_Tree_walk_v85_p2 tagtree_Tree_walk_v85_l3) tagtree_Tree_walk_v85_i2 (List.zip [0,1,2,3,4,11,13,14] [.pointer p971,.int .i64 n972,.int .i64 n973,.int .i64 n974,.func (.func 85) ⟨[]⟩ ⟨[.pointer p975]⟩,.slice q976 l977 c978,.int .i64 n979,.pointer p980]) H (fun x e' H' => K x (clean e' ((⟨[0,1,2,3,4,11,13,14],[(2,[0,1,2,3,4,11,13,14])],[]⟩:Out).of x)) H') = tagtree_Tree_walk_v85_p2_b k p971 n972 n973 n974 p975 q976 l977 c978 n979 p980 H (fun p1593 n1594 n1595 n1596 p1597 q1598 l1599 c1600 n1601 p1602 => K (.exit 2) [(0,.pointer p1593),(1,.int .i64 n1594),(2,.int .i64 n1595),(3,.int .i64 n1596),(4,.func (.func 85) #[] ⟨[.pointer p1597]⟩),(11,.slice q1598 l1599 c1600),(13,.int .i64 n1601),(14,.pointer p1602)] H) (fun p1603 n1604 n1605 n1606 p1607 q1608 l1609 c1610 n1611 p1612 => K .normal [(0,.pointer p1603),(1,.int .i64 n1604),(2,.int .i64 n1605),(3,.int .i64 n1606),(4,.func (.func 85) #[] ⟨[.pointer p1607]⟩),(11,.slice q1608 l1609 c1610),(13,.int .i64 n1611),(14,.pointer p1612)] H):=by kernel_rfl
theorem tagtree_Tree_walk_v85_j2 {R:Type} (k:Nat):JS Try.prog 93 (tagtree_Tree_walk_v85_a2 R k k) [0,1,2,3,4,11,13,14] ⟨[0,1,2,3,4,11,13,14],[(2,[0,1,2,3,4,11,13,14])],[]⟩ (sel [1,1,1,0,1,0,0,1,0,0,1,1,0,0,0,0] (Try.f82.body.getD .skip)) :=
  piece_ok (nt:=93) (c:=(sel [1,1,1,0,1,0,0,1,0,0,1,1,0,0,0,0] (Try.f82.body.getD .skip))) (C:=tagtree_Tree_walk_v85_C R k) (an:=An) (t:=(.seq (.reg [0,1,2,3,4,11,13,14,55] []) (.cond .leaf .leaf))) (ic:=tagtree_Tree_walk_v85_i2) (tagtree_Tree_walk_v85_S R k) (tagtree_Tree_walk_v85_J R k) (by kernel_rfl) (And.intro True.intro (And.intro True.intro True.intro)) (tagtree_Tree_walk_v85_a2 R k k)
    (fun vals H K r h => by
      unfold tagtree_Tree_walk_v85_a2 tagtree_Tree_walk_v85_aa2 at h
      split at h <;> first | (cases h; done) | exact Eq.trans (tagtree_Tree_walk_v85_e2 tagtree_Tree_at (tagtree_Tree_Decode_1 k) (tagtree_Tree_walk_v85_l0 k) (tagtree_Tree_walk_v85_l1 k) (tagtree_Tree_walk_v85_p2 k) (tagtree_Tree_walk_v85_l3 k) k _ _ _ _ _ _ _ _ _ _ H K) h)
theorem tagtree_Tree_walk_v85_e1 {R:Type} (tagtree_Tree_at:tagtree_Tree_at_t R) (tagtree_Tree_Decode_1:tagtree_Tree_Decode_1_t R) (tagtree_Tree_walk_v85_l0:tagtree_Tree_walk_v85_l0_t R) (tagtree_Tree_walk_v85_l1:tagtree_Tree_walk_v85_l1_t R) (tagtree_Tree_walk_v85_p2:tagtree_Tree_walk_v85_p2_t R) (tagtree_Tree_walk_v85_l3:tagtree_Tree_walk_v85_l3_t R) (k n:Nat) (p961:Oa) (n962:Int) (n963:Int) (n964:Int) (p965:Oa) (q966:Oa) (l967:Nat) (c968:Nat) (n969:Int) (p970:Oa) (H:Heap) (K:Xit → Env → Heap → Option R):evJ (tagtree_Tree_walk_v85_Ct tagtree_Tree_at tagtree_Tree_Decode_1) (tagtree_Tree_walk_v85_Jt k tagtree_Tree_walk_v85_l0 tagtree_Tree_walk_v85_l1 tagtree_Tree_walk_v85_p2 tagtree_Tree_walk_v85_l3) tagtree_Tree_walk_v85_i1 (List.zip [0,1,2,3,4,11,13,14] [.pointer p961,.int .i64 n962,.int .i64 n963,.int .i64 n964,.func (.func 85) ⟨[]⟩ ⟨[.pointer p965]⟩,.slice q966 l967 c968,.int .i64 n969,.pointer p970]) H (fun x e' H' => match x with | .normal => tagtree_Tree_walk_v85_aa1 tagtree_Tree_walk_v85_l1 n ((clean e' [0,1,2,3,4,11,13,14]).map (·.2)) H' K | x => K x (clean e' ((⟨[],[(2,[0,1,2,3,4,11,13,14])],[10]⟩:Out).of x)) H') = tagtree_Tree_walk_v85_l1_b tagtree_Tree_walk_v85_p2 tagtree_Tree_Decode_1 (tagtree_Tree_walk_v85_l1 (fun p1582 n1583 n1584 n1585 p1586 q1587 l1588 c1589 n1590 p1591 H => K (.exit 2) [(0,.pointer p1582),(1,.int .i64 n1583),(2,.int .i64 n1584),(3,.int .i64 n1585),(4,.func (.func 85) #[] ⟨[.pointer p1586]⟩),(11,.slice q1587 l1588 c1589),(13,.int .i64 n1590),(14,.pointer p1591)] H) (fun n1592 H => K .ret [(10,.int .i64 n1592)] H) n) (fun p1582 n1583 n1584 n1585 p1586 q1587 l1588 c1589 n1590 p1591 H => K (.exit 2) [(0,.pointer p1582),(1,.int .i64 n1583),(2,.int .i64 n1584),(3,.int .i64 n1585),(4,.func (.func 85) #[] ⟨[.pointer p1586]⟩),(11,.slice q1587 l1588 c1589),(13,.int .i64 n1590),(14,.pointer p1591)] H) (fun n1592 H => K .ret [(10,.int .i64 n1592)] H) k p961 n962 n963 n964 p965 q966 l967 c968 n969 p970 H:=by kernel_rfl
theorem tagtree_Tree_walk_v85_j1 {R:Type} (k:Nat):JS Try.prog 93 (tagtree_Tree_walk_v85_a1 R k k) [0,1,2,3,4,11,13,14] ⟨[],[(2,[0,1,2,3,4,11,13,14])],[10]⟩ (.loop (sel [1,1,1,0,1,0,0,1,0,0,1,1,0,0,0] (Try.f82.body.getD .skip))) :=
  loop_ok (nt:=93) (c:=(sel [1,1,1,0,1,0,0,1,0,0,1,1,0,0,0] (Try.f82.body.getD .skip))) (C:=tagtree_Tree_walk_v85_C R k) (an:=An) (t:=(.seq (.opq 2 [0,1,2,3,4,11,13,14] ⟨[0,1,2,3,4,11,13,14],[(2,[0,1,2,3,4,11,13,14])],[]⟩ (.seq (.reg [0,1,2,3,4,11,13,14,55] []) (.cond .leaf .leaf))) (.node (.seq (.reg [0,1,2,3,4,11,13,14,15,16] []) (.seq (.seq (.reg [0,1,2,3,4,11,13,14,15,16,63] []) (.cond (.seq (.reg [10] []) .leaf) .leaf)) (.seq (.reg [0,1,2,3,4,11,13,14,66] []) (.cond (.reg [0,1,2,3,4,11,13,14] []) (.reg [0,1,2,3,4,11,13,14] [])))))))) (ic:=tagtree_Tree_walk_v85_i1) (tagtree_Tree_walk_v85_S R k) (tagtree_Tree_walk_v85_J R k) (by kernel_rfl) (And.intro (tagtree_Tree_walk_v85_j2 k) (And.intro True.intro (And.intro (And.intro True.intro (And.intro (And.intro True.intro True.intro) True.intro)) (And.intro True.intro (And.intro True.intro True.intro))))) (tagtree_Tree_walk_v85_a1 R k) (fun vals H K => by unfold tagtree_Tree_walk_v85_a1 tagtree_Tree_walk_v85_aa1; split <;> rfl)
    (fun n vals H K r h => by
      unfold tagtree_Tree_walk_v85_a1 tagtree_Tree_walk_v85_aa1 at h
      split at h <;> first | (cases h; done) | exact Eq.trans (tagtree_Tree_walk_v85_e1 tagtree_Tree_at (tagtree_Tree_Decode_1 k) (tagtree_Tree_walk_v85_l0 k) (tagtree_Tree_walk_v85_l1 k) (tagtree_Tree_walk_v85_p2 k) (tagtree_Tree_walk_v85_l3 k) k n _ _ _ _ _ _ _ _ _ _ H K) h) k
theorem tagtree_Tree_walk_v85_e0 {R:Type} (tagtree_Tree_at:tagtree_Tree_at_t R) (tagtree_Tree_Decode_1:tagtree_Tree_Decode_1_t R) (tagtree_Tree_walk_v85_l0:tagtree_Tree_walk_v85_l0_t R) (tagtree_Tree_walk_v85_l1:tagtree_Tree_walk_v85_l1_t R) (tagtree_Tree_walk_v85_p2:tagtree_Tree_walk_v85_p2_t R) (tagtree_Tree_walk_v85_l3:tagtree_Tree_walk_v85_l3_t R) (k n:Nat) (p939:Oa) (n940:Int) (n941:Int) (n942:Int) (p943:Oa) (q944:Oa) (l945:Nat) (c946:Nat) (n947:Int) (n948:Int) (H:Heap) (K:Xit → Env → Heap → Option R):evJ (tagtree_Tree_walk_v85_Ct tagtree_Tree_at tagtree_Tree_Decode_1) (tagtree_Tree_walk_v85_Jt k tagtree_Tree_walk_v85_l0 tagtree_Tree_walk_v85_l1 tagtree_Tree_walk_v85_p2 tagtree_Tree_walk_v85_l3) tagtree_Tree_walk_v85_i0 (List.zip [0,1,2,3,4,11,12,13] [.pointer p939,.int .i64 n940,.int .i64 n941,.int .i64 n942,.func (.func 85) ⟨[]⟩ ⟨[.pointer p943]⟩,.slice q944 l945 c946,.int .i64 n947,.int .i64 n948]) H (fun x e' H' => match x with | .normal => tagtree_Tree_walk_v85_aa0 tagtree_Tree_walk_v85_l0 n ((clean e' [0,1,2,3,4,11,12,13]).map (·.2)) H' K | x => K x (clean e' ((⟨[],[(0,[0,1,2,11])],[10]⟩:Out).of x)) H') = tagtree_Tree_walk_v85_l0_b tagtree_Tree_at tagtree_Tree_walk_v85_l1 (tagtree_Tree_walk_v85_l0 (fun p1575 n1576 n1577 q1578 l1579 c1580 H => K (.exit 0) [(0,.pointer p1575),(1,.int .i64 n1576),(2,.int .i64 n1577),(11,.slice q1578 l1579 c1580)] H) (fun n1581 H => K .ret [(10,.int .i64 n1581)] H) n) (fun p1575 n1576 n1577 q1578 l1579 c1580 H => K (.exit 0) [(0,.pointer p1575),(1,.int .i64 n1576),(2,.int .i64 n1577),(11,.slice q1578 l1579 c1580)] H) (fun n1581 H => K .ret [(10,.int .i64 n1581)] H) k p939 n940 n941 n942 p943 q944 l945 c946 n947 n948 H:=by kernel_rfl
theorem tagtree_Tree_walk_v85_j0 {R:Type} (k:Nat):JS Try.prog 93 (tagtree_Tree_walk_v85_a0 R k k) [0,1,2,3,4,11,12,13] ⟨[],[(0,[0,1,2,11])],[10]⟩ (.loop (sel [1,1,1,0,1,0,0] (Try.f82.body.getD .skip))) :=
  loop_ok (nt:=93) (c:=(sel [1,1,1,0,1,0,0] (Try.f82.body.getD .skip))) (C:=tagtree_Tree_walk_v85_C R k) (an:=An) (t:=(.seq (.seq (.reg [0,1,2,3,4,11,12,13,32] []) (.cond .leaf .leaf)) (.seq (.node (.seq (.reg [0,1,2,3,4,11,12,13,14] []) (.seq (.reg [0,1,2,3,4,11,13,14] []) (.seq (.node (.opq 1 [0,1,2,3,4,11,13,14] ⟨[],[(2,[0,1,2,3,4,11,13,14])],[10]⟩ (.node (.seq (.opq 2 [0,1,2,3,4,11,13,14] ⟨[0,1,2,3,4,11,13,14],[(2,[0,1,2,3,4,11,13,14])],[]⟩ (.seq (.reg [0,1,2,3,4,11,13,14,55] []) (.cond .leaf .leaf))) (.node (.seq (.reg [0,1,2,3,4,11,13,14,15,16] []) (.seq (.seq (.reg [0,1,2,3,4,11,13,14,15,16,63] []) (.cond (.seq (.reg [10] []) .leaf) .leaf)) (.seq (.reg [0,1,2,3,4,11,13,14,66] []) (.cond (.reg [0,1,2,3,4,11,13,14] []) (.reg [0,1,2,3,4,11,13,14] [])))))))))) (.reg [0,1,2,3,4,11,12,13] [[],[],[],[2],[],[2,3],[0,1,2,3,4,5],[0,1,2,3,4,5,6]]))))) (.reg [0,1,2,3,4,11,12,13] [])))) (ic:=tagtree_Tree_walk_v85_i0) (tagtree_Tree_walk_v85_S R k) (tagtree_Tree_walk_v85_J R k) (by kernel_rfl) (And.intro (And.intro True.intro (And.intro True.intro True.intro)) (And.intro (And.intro True.intro (And.intro True.intro (And.intro (tagtree_Tree_walk_v85_j1 k) True.intro))) True.intro)) (tagtree_Tree_walk_v85_a0 R k) (fun vals H K => by unfold tagtree_Tree_walk_v85_a0 tagtree_Tree_walk_v85_aa0; split <;> rfl)
    (fun n vals H K r h => by
      unfold tagtree_Tree_walk_v85_a0 tagtree_Tree_walk_v85_aa0 at h
      split at h <;> first | (cases h; done) | exact Eq.trans (tagtree_Tree_walk_v85_e0 tagtree_Tree_at (tagtree_Tree_Decode_1 k) (tagtree_Tree_walk_v85_l0 k) (tagtree_Tree_walk_v85_l1 k) (tagtree_Tree_walk_v85_p2 k) (tagtree_Tree_walk_v85_l3 k) k n _ _ _ _ _ _ _ _ _ _ H K) h) k
def tagtree_Tree_walk_v85_ca {R:Type} (f:tagtree_Tree_walk_v85_t R) (args:List Value) (H:Heap) (K:Value → Heap → Option R):Option R :=
  match args with
  | [.pointer p920,.int .i64 n921,.int .i64 n922,.int .i64 n923,.func (.func 85) ⟨[]⟩ ⟨[.pointer p924]⟩] => f p920 n921 n922 n923 p924 H (fun n1613 H => K (.int .i64 n1613) H)
  | _ => none
def tagtree_Tree_walk_v85_c (R:Type) (k:Nat) (args:List Value) (H:Heap) (K:Value → Heap → Option R):Option R:=tagtree_Tree_walk_v85_ca (tagtree_Tree_walk_v85 k) args H K
theorem tagtree_Tree_walk_v85_e {R:Type} (tagtree_Tree_at:tagtree_Tree_at_t R) (tagtree_Tree_Decode_1:tagtree_Tree_Decode_1_t R) (tagtree_Tree_walk_v85_l0:tagtree_Tree_walk_v85_l0_t R) (tagtree_Tree_walk_v85_l1:tagtree_Tree_walk_v85_l1_t R) (tagtree_Tree_walk_v85_p2:tagtree_Tree_walk_v85_p2_t R) (tagtree_Tree_walk_v85_l3:tagtree_Tree_walk_v85_l3_t R) (k:Nat) (p920:Oa) (n921:Int) (n922:Int) (n923:Int) (p924:Oa) (H:Heap) (K:Value → Heap → Option R):evF (tagtree_Tree_walk_v85_Ct tagtree_Tree_at tagtree_Tree_Decode_1) (tagtree_Tree_walk_v85_Jt k tagtree_Tree_walk_v85_l0 tagtree_Tree_walk_v85_l1 tagtree_Tree_walk_v85_p2 tagtree_Tree_walk_v85_l3) tagtree_Tree_walk_v85_f [.pointer p920,.int .i64 n921,.int .i64 n922,.int .i64 n923,.func (.func 85) ⟨[]⟩ ⟨[.pointer p924]⟩] H K = tagtree_Tree_walk_v85_b tagtree_Tree_walk_v85_l0 tagtree_Tree_walk_v85_l3 k p920 n921 n922 n923 p924 H (fun n1613 H => K (.int .i64 n1613) H):=by kernel_rfl
theorem tagtree_Tree_walk_v85_cs (R:Type) (k:Nat):∀ args H K r,tagtree_Tree_walk_v85_c R k args H K = some r → ∃ v H',Tri Try.prog 82 args H v H' ∧ K v H' = some r:=by
  intro args H K r h
  unfold tagtree_Tree_walk_v85_c tagtree_Tree_walk_v85_ca at h
  split at h
  · exact evF_ok (C:=tagtree_Tree_walk_v85_C R k) (an:=An) (t:=tagtree_Tree_walk_v85_at) (fn:=Try.f82) (c:=(Try.f82.body.getD .skip)) (ifn:=tagtree_Tree_walk_v85_f) (tagtree_Tree_walk_v85_S R k) (tagtree_Tree_walk_v85_J R k) Try.func82 (by kernel_rfl) (by kernel_rfl) (And.intro True.intro (And.intro True.intro (And.intro True.intro (And.intro (And.intro True.intro (tagtree_Tree_walk_v85_j0 k)) (And.intro (And.intro True.intro (tagtree_Tree_walk_v85_j3 k)) (And.intro True.intro True.intro)))))) rfl (Eq.trans (tagtree_Tree_walk_v85_e tagtree_Tree_at (tagtree_Tree_Decode_1 k) (tagtree_Tree_walk_v85_l0 k) (tagtree_Tree_walk_v85_l1 k) (tagtree_Tree_walk_v85_p2 k) (tagtree_Tree_walk_v85_l3 k) k _ _ _ _ _ H K) h)
  · cases h
abbrev tagtree_Tree_Decode_p0_t (R:Type):Type:=Oa → Int → Int → Int → Oa → Heap → (Oa → Int → Int → Int → Oa → Option R) → (Bool → Int → Option R) → Option R
def tagtree_Tree_Decode_p0_b {R:Type} (tagtree_Tree_ok:tagtree_Tree_ok_t R) (k:Nat) (p849:Oa) (n850:Int) (n851:Int) (n852:Int) (p853:Oa) (H:Heap) (KN:Oa → Int → Int → Int → Oa → Option R) (KR:Bool → Int → Option R):Option R :=
tagtree_Tree_ok p849 H fun t854 =>
bif (!t854) then (KR false 6)
 else (hnil p849 fun p855 =>
hfad 1 p855 fun p856 =>
ldB H p856 fun t857 =>
bif t857 then (KR false 6)
 else (KN p849 n850 n851 n852 p853))
def tagtree_Tree_Decode_p0 {R:Type} (k:Nat) (p849:Oa) (n850:Int) (n851:Int) (n852:Int) (p853:Oa) (H:Heap) (KN:Oa → Int → Int → Int → Oa → Option R) (KR:Bool → Int → Option R):Option R:=tagtree_Tree_Decode_p0_b tagtree_Tree_ok k p849 n850 n851 n852 p853 H KN KR
abbrev tagtree_Tree_Decode_p1_t (R:Type):Type:=Oa → Int → Int → Int → Oa → Heap → (Oa → Int → Int → Int → Oa → Heap → Option R) → (Bool → Int → Heap → Option R) → Option R
def tagtree_Tree_Decode_p1_b {R:Type} (tagtree_Tree_has:tagtree_Tree_has_t R) (k:Nat) (p874:Oa) (n875:Int) (n876:Int) (n877:Int) (p878:Oa) (H:Heap) (KN:Oa → Int → Int → Int → Oa → Heap → Option R) (KR:Bool → Int → Heap → Option R):Option R :=
tagtree_Tree_has p874 n875 n876 H fun t879 H880 =>
bif (!t879) then (KR false 2 H880)
 else (bif decide (n877 < 0) then (KR false 2 H880)
 else (bif decide (n877 > 65536) then (KR false 2 H880)
 else (KN p874 n875 n876 n877 p878 H880)))
def tagtree_Tree_Decode_p1 {R:Type} (k:Nat) (p874:Oa) (n875:Int) (n876:Int) (n877:Int) (p878:Oa) (H:Heap) (KN:Oa → Int → Int → Int → Oa → Heap → Option R) (KR:Bool → Int → Heap → Option R):Option R:=tagtree_Tree_Decode_p1_b tagtree_Tree_has k p874 n875 n876 n877 p878 H KN KR
abbrev tagtree_Tree_Decode_t (R:Type):Type:=Oa → Oa → Int → Int → Int → Heap → (Bool → Int → Heap → Option R) → Option R
def tagtree_Tree_Decode_b {R:Type} (tagtree_Tree_Decode_p0:tagtree_Tree_Decode_p0_t R) (bitio_Reader_Bits:bitio_Reader_Bits_t R) (tagtree_Tree_Decode_p1:tagtree_Tree_Decode_p1_t R) (tagtree_Tree_walk_v85:tagtree_Tree_walk_v85_t R) (tagtree_Tree_at:tagtree_Tree_at_t R) (k:Nat) (p842:Oa) (p843:Oa) (n844:Int) (n845:Int) (n846:Int) (H:Heap) (K:Bool → Int → Heap → Option R):Option R :=
hal H [.pointer p843] fun p847 H848 =>
tagtree_Tree_Decode_p0 p842 n844 n845 n846 p847 H848 (fun p865 n866 n867 n868 p869 =>
ldP H848 p869 fun p870 =>
bitio_Reader_Bits p870 0 H848 fun n871 n872 H873 =>
bif (n872 != 0) then (K false 6 H873)
 else (tagtree_Tree_Decode_p1 p865 n866 n867 n868 p869 H873 (fun p888 n889 n890 n891 p892 H893 =>
tagtree_Tree_walk_v85 p888 n889 n890 n891 p892 H893 fun n894 H895 =>
bif (n894 != 0) then (K false n894 H895)
 else (hnil p888 fun p896 =>
hfad 2 p896 fun p897 =>
hst1 H895 p897 (.bool true) fun H898 =>
tagtree_Tree_at p888 0 n889 n890 H898 fun p899 =>
hnil p899 fun p900 =>
hfad 2 p900 fun p901 =>
ldB H898 p901 fun t902 =>
bif t902 then (hnil p899 fun p903 =>
hfad 1 p903 fun p904 =>
ldI .i64 H898 p904 fun n905 =>
K (decide (n905 < n891)) 0 H898)
 else (K false 0 H898))) (fun t906 n907 H908 =>
K t906 n907 H908))) (fun t909 n910 =>
K t909 n910 H848)
def tagtree_Tree_Decode {R:Type} (k:Nat) (p842:Oa) (p843:Oa) (n844:Int) (n845:Int) (n846:Int) (H:Heap) (K:Bool → Int → Heap → Option R):Option R:=tagtree_Tree_Decode_b (tagtree_Tree_Decode_p0 k) (bitio_Reader_Bits k) (tagtree_Tree_Decode_p1 k) (tagtree_Tree_walk_v85 k) tagtree_Tree_at k p842 p843 n844 n845 n846 H K
def tagtree_Tree_Decode_Ct {R:Type} (tagtree_Tree_ok:tagtree_Tree_ok_t R) (bitio_Reader_Bits:bitio_Reader_Bits_t R) (tagtree_Tree_has:tagtree_Tree_has_t R) (tagtree_Tree_walk_v85:tagtree_Tree_walk_v85_t R) (tagtree_Tree_at:tagtree_Tree_at_t R):Tab R:=tcons 54 (tagtree_Tree_ok_ca tagtree_Tree_ok) <| tcons 73 (bitio_Reader_Bits_ca bitio_Reader_Bits) <| tcons 55 (tagtree_Tree_has_ca tagtree_Tree_has) <| tcons 82 (tagtree_Tree_walk_v85_ca tagtree_Tree_walk_v85) <| tcons 56 (tagtree_Tree_at_ca tagtree_Tree_at) <| fun _ _ _ _ => none
def tagtree_Tree_Decode_C (R:Type) (k:Nat):Tab R:=tagtree_Tree_Decode_Ct tagtree_Tree_ok (bitio_Reader_Bits k) tagtree_Tree_has (tagtree_Tree_walk_v85 k) tagtree_Tree_at
theorem tagtree_Tree_Decode_S (R:Type) (k:Nat):CSound Try.prog (tagtree_Tree_Decode_C R k):=csound_cons (tagtree_Tree_ok_cs R k) <| csound_cons (bitio_Reader_Bits_cs R k) <| csound_cons (tagtree_Tree_has_cs R k) <| csound_cons (tagtree_Tree_walk_v85_cs R k) <| csound_cons (tagtree_Tree_at_cs R k) <| csound_nil
def tagtree_Tree_Decode_aa0 {R:Type} (f:tagtree_Tree_Decode_p0_t R) (n:Nat) (vals:List Value) (H:Heap) (K:Xit → Env → Heap → Option R):Option R :=
  match vals with
  | [.pointer p849,.int .i64 n850,.int .i64 n851,.int .i64 n852,.pointer p853] => f p849 n850 n851 n852 p853 H (fun p1614 n1615 n1616 n1617 p1618 => K .normal [(0,.pointer p1614),(2,.int .i64 n1615),(3,.int .i64 n1616),(4,.int .i64 n1617),(6,.pointer p1618)] H) (fun t1619 n1620 => K .ret [(10,.bool t1619),(11,.int .i64 n1620)] H)
  | _ => none
def tagtree_Tree_Decode_a0 (R:Type) (k n:Nat) (vals:List Value) (H:Heap) (K:Xit → Env → Heap → Option R):Option R:=tagtree_Tree_Decode_aa0 (tagtree_Tree_Decode_p0 k) n vals H K
def tagtree_Tree_Decode_aa1 {R:Type} (f:tagtree_Tree_Decode_p1_t R) (n:Nat) (vals:List Value) (H:Heap) (K:Xit → Env → Heap → Option R):Option R :=
  match vals with
  | [.pointer p874,.int .i64 n875,.int .i64 n876,.int .i64 n877,.pointer p878] => f p874 n875 n876 n877 p878 H (fun p1621 n1622 n1623 n1624 p1625 H => K .normal [(0,.pointer p1621),(2,.int .i64 n1622),(3,.int .i64 n1623),(4,.int .i64 n1624),(6,.pointer p1625)] H) (fun t1626 n1627 H => K .ret [(10,.bool t1626),(11,.int .i64 n1627)] H)
  | _ => none
def tagtree_Tree_Decode_a1 (R:Type) (k n:Nat) (vals:List Value) (H:Heap) (K:Xit → Env → Heap → Option R):Option R:=tagtree_Tree_Decode_aa1 (tagtree_Tree_Decode_p1 k) n vals H K
def tagtree_Tree_Decode_Jt {R:Type} (k:Nat) (tagtree_Tree_Decode_p0:tagtree_Tree_Decode_p0_t R) (tagtree_Tree_Decode_p1:tagtree_Tree_Decode_p1_t R):JTab R:=tcons 0 (tagtree_Tree_Decode_aa0 tagtree_Tree_Decode_p0 k) <| tcons 1 (tagtree_Tree_Decode_aa1 tagtree_Tree_Decode_p1 k) <| fun _ _ _ _ => none
def tagtree_Tree_Decode_J (R:Type) (k:Nat):JTab R:=tagtree_Tree_Decode_Jt k (tagtree_Tree_Decode_p0 k) (tagtree_Tree_Decode_p1 k)
def tagtree_Tree_Decode_at:AT:=(.seq (.reg [0,2,3,4,6] []) (.seq (.opq 0 [0,2,3,4,6] ⟨[0,2,3,4,6],[],[10,11]⟩ (.seq (.reg [0,2,3,4,6,24] []) (.cond (.seq (.reg [10,11] []) .leaf) .leaf))) (.seq (.seq (.reg [0,2,3,4,6,13] []) (.seq (.reg [0,2,3,4,6,31] []) (.cond (.seq (.reg [10,11] []) .leaf) .leaf))) (.seq (.opq 1 [0,2,3,4,6] ⟨[0,2,3,4,6],[],[10,11]⟩ (.seq (.reg [0,2,3,4,6,44] []) (.cond (.seq (.reg [10,11] []) .leaf) .leaf))) (.seq (.reg [0,2,3,4,14] []) (.seq (.seq (.reg [0,2,3,4,14,52] []) (.cond (.seq (.reg [10,11] []) .leaf) .leaf)) (.seq (.reg [0,2,3,4] []) (.seq (.reg [4,15] []) (.seq (.reg [10,11] []) .leaf)))))))))
def tagtree_Tree_Decode_i1:IC:=(.seq (.reg [⟨some 32,.mov (.t 0),none⟩,
⟨some 33,.mov (.t 2),none⟩,
⟨some 34,.mov (.t 3),none⟩,
⟨some 35,.call 55 [(.t 32),(.t 33),(.t 34)] (.one (.sc .bool)),none⟩,
⟨some 36,.lnot (.t 35),none⟩,
⟨some 37,.mov (.t 36),none⟩,
⟨some 38,.mov (.t 4),some (37,false)⟩,
⟨some 39,.cmp .lss (.t 38) (.c (Go.Value.int Go.IntKind.i64 0)),some (37,false)⟩,
⟨some 40,.pick (.t 37) (.c (Go.Value.bool true)) (.t 39),none⟩,
⟨some 41,.mov (.t 40),none⟩,
⟨some 42,.mov (.t 4),some (41,false)⟩,
⟨some 43,.cmp .gtr (.t 42) (.c (Go.Value.int Go.IntKind.i64 65536)),some (41,false)⟩,
⟨some 44,.pick (.t 41) (.c (Go.Value.bool true)) (.t 43),none⟩] [0,2,3,4,6,44]) (.cond (.t 44) (.seq (.reg [⟨some 10,.mov (.c (Go.Value.bool false)),none⟩,
⟨some 11,.mov (.c (Go.Value.int Go.IntKind.i64 2)),none⟩] [10,11]) .ret) .skip))
def tagtree_Tree_Decode_i0:IC:=(.seq (.reg [⟨some 16,.mov (.t 0),none⟩,
⟨some 17,.call 54 [(.t 16)] (.one (.sc .bool)),none⟩,
⟨some 18,.lnot (.t 17),none⟩,
⟨some 19,.mov (.t 18),none⟩,
⟨some 20,.mov (.t 0),some (19,false)⟩,
⟨some 21,.nilc (.t 20),some (19,false)⟩,
⟨some 22,.fad 1 (.t 21),some (19,false)⟩,
⟨some 23,.ld (.sc .bool) (.t 22),some (19,false)⟩,
⟨some 24,.pick (.t 19) (.c (Go.Value.bool true)) (.t 23),none⟩] [0,2,3,4,6,24]) (.cond (.t 24) (.seq (.reg [⟨some 10,.mov (.c (Go.Value.bool false)),none⟩,
⟨some 11,.mov (.c (Go.Value.int Go.IntKind.i64 6)),none⟩] [10,11]) .ret) .skip))
def tagtree_Tree_Decode_f:IFn:=⟨73,[.t 10,.t 11],(.seq (.reg [⟨some 6,.box (.t 1),none⟩,
⟨some 10,.mov (.c (Go.Value.bool false)),none⟩,
⟨some 11,.mov (.c (Go.Value.int Go.IntKind.i64 0)),none⟩] [0,2,3,4,6]) (.seq (.opq 0 [0,2,3,4,6] tagtree_Tree_Decode_i0) (.seq (.seq (.reg [⟨some 26,.ld (.sc .ptr) (.t 6),none⟩,
⟨some 27,.call 73 [(.t 26),(.c (Go.Value.int Go.IntKind.i64 0))] (.tup [(.sc (.int .i64)),(.sc (.int .i64))]),none⟩,
⟨some 25,.mov (.t 27),none⟩,
⟨some 28,.ext 0 (.t 25),none⟩,
⟨some 29,.ext 1 (.t 25),none⟩,
⟨some 12,.mov (.t 28),none⟩,
⟨some 13,.mov (.t 29),none⟩] [0,2,3,4,6,13]) (.seq (.reg [⟨some 30,.mov (.t 13),none⟩,
⟨some 31,.cmp .neq (.t 30) (.c (Go.Value.int Go.IntKind.i64 0)),none⟩] [0,2,3,4,6,31]) (.cond (.t 31) (.seq (.reg [⟨some 10,.mov (.c (Go.Value.bool false)),none⟩,
⟨some 11,.mov (.c (Go.Value.int Go.IntKind.i64 6)),none⟩] [10,11]) .ret) .skip))) (.seq (.opq 1 [0,2,3,4,6] tagtree_Tree_Decode_i1) (.seq (.reg [⟨some 45,.mov (.t 0),none⟩,
⟨some 46,.mov (.t 2),none⟩,
⟨some 47,.mov (.t 3),none⟩,
⟨some 48,.mov (.t 4),none⟩,
⟨some 49,.mkf 85 [(.t 6)],none⟩,
⟨some 50,.call 82 [(.t 45),(.t 46),(.t 47),(.t 48),(.t 49)] (.one (.sc (.int .i64))),none⟩,
⟨some 14,.mov (.t 50),none⟩] [0,2,3,4,14]) (.seq (.seq (.reg [⟨some 51,.mov (.t 14),none⟩,
⟨some 52,.cmp .neq (.t 51) (.c (Go.Value.int Go.IntKind.i64 0)),none⟩] [0,2,3,4,14,52]) (.cond (.t 52) (.seq (.reg [⟨some 53,.mov (.t 14),none⟩,
⟨some 10,.mov (.c (Go.Value.bool false)),none⟩,
⟨some 11,.mov (.t 53),none⟩] [10,11]) .ret) .skip)) (.seq (.reg [⟨some 54,.mov (.t 0),none⟩,
⟨some 55,.nilc (.t 54),none⟩,
⟨some 56,.fad 2 (.t 55),none⟩,
⟨none,.st 1 (.t 56) (.c (Go.Value.bool true)),none⟩] [0,2,3,4]) (.seq (.reg [⟨some 57,.mov (.t 0),none⟩,
⟨some 58,.mov (.t 2),none⟩,
⟨some 59,.mov (.t 3),none⟩,
⟨some 60,.call 56 [(.t 57),(.c (Go.Value.int Go.IntKind.i64 0)),(.t 58),(.t 59)] (.one (.sc .ptr)),none⟩,
⟨some 15,.mov (.t 60),none⟩] [4,15]) (.seq (.reg [⟨some 61,.mov (.t 15),none⟩,
⟨some 62,.nilc (.t 61),none⟩,
⟨some 63,.fad 2 (.t 62),none⟩,
⟨some 64,.ld (.sc .bool) (.t 63),none⟩,
⟨some 65,.mov (.t 64),none⟩,
⟨some 66,.mov (.t 15),some (65,true)⟩,
⟨some 67,.nilc (.t 66),some (65,true)⟩,
⟨some 68,.fad 1 (.t 67),some (65,true)⟩,
⟨some 69,.ld (.sc (.int .i64)) (.t 68),some (65,true)⟩,
⟨some 70,.mov (.t 4),some (65,true)⟩,
⟨some 71,.cmp .lss (.t 69) (.t 70),some (65,true)⟩,
⟨some 72,.pick (.t 65) (.t 71) (.c (Go.Value.bool false)),none⟩,
⟨some 10,.mov (.t 72),none⟩,
⟨some 11,.mov (.c (Go.Value.int Go.IntKind.i64 0)),none⟩] [10,11]) .ret)))))))))⟩
theorem tagtree_Tree_Decode_e1 {R:Type} (tagtree_Tree_ok:tagtree_Tree_ok_t R) (bitio_Reader_Bits:bitio_Reader_Bits_t R) (tagtree_Tree_has:tagtree_Tree_has_t R) (tagtree_Tree_walk_v85:tagtree_Tree_walk_v85_t R) (tagtree_Tree_at:tagtree_Tree_at_t R) (tagtree_Tree_Decode_p0:tagtree_Tree_Decode_p0_t R) (tagtree_Tree_Decode_p1:tagtree_Tree_Decode_p1_t R) (k:Nat) (p874:Oa) (n875:Int) (n876:Int) (n877:Int) (p878:Oa) (H:Heap) (K:Xit → Env → Heap → Option R):evJ (tagtree_Tree_Decode_Ct tagtree_Tree_ok bitio_Reader_Bits tagtree_Tree_has tagtree_Tree_walk_v85 tagtree_Tree_at) (tagtree_Tree_Decode_Jt k tagtree_Tree_Decode_p0 tagtree_Tree_Decode_p1) tagtree_Tree_Decode_i1 (List.zip [0,2,3,4,6] [.pointer p874,.int .i64 n875,.int .i64 n876,.int .i64 n877,.pointer p878]) H (fun x e' H' => K x (clean e' ((⟨[0,2,3,4,6],[],[10,11]⟩:Out).of x)) H') = tagtree_Tree_Decode_p1_b tagtree_Tree_has k p874 n875 n876 n877 p878 H (fun p1621 n1622 n1623 n1624 p1625 H => K .normal [(0,.pointer p1621),(2,.int .i64 n1622),(3,.int .i64 n1623),(4,.int .i64 n1624),(6,.pointer p1625)] H) (fun t1626 n1627 H => K .ret [(10,.bool t1626),(11,.int .i64 n1627)] H):=by kernel_rfl
theorem tagtree_Tree_Decode_j1 {R:Type} (k:Nat):JS Try.prog 73 (tagtree_Tree_Decode_a1 R k k) [0,2,3,4,6] ⟨[0,2,3,4,6],[],[10,11]⟩ (sel [1,1,1,0] (Try.f68.body.getD .skip)) :=
  piece_ok (nt:=73) (c:=(sel [1,1,1,0] (Try.f68.body.getD .skip))) (C:=tagtree_Tree_Decode_C R k) (an:=An) (t:=(.seq (.reg [0,2,3,4,6,44] []) (.cond (.seq (.reg [10,11] []) .leaf) .leaf))) (ic:=tagtree_Tree_Decode_i1) (tagtree_Tree_Decode_S R k) (tagtree_Tree_Decode_J R k) (by kernel_rfl) (And.intro True.intro (And.intro (And.intro True.intro True.intro) True.intro)) (tagtree_Tree_Decode_a1 R k k)
    (fun vals H K r h => by
      unfold tagtree_Tree_Decode_a1 tagtree_Tree_Decode_aa1 at h
      split at h <;> first | (cases h; done) | exact Eq.trans (tagtree_Tree_Decode_e1 tagtree_Tree_ok (bitio_Reader_Bits k) tagtree_Tree_has (tagtree_Tree_walk_v85 k) tagtree_Tree_at (tagtree_Tree_Decode_p0 k) (tagtree_Tree_Decode_p1 k) k _ _ _ _ _ H K) h)
theorem tagtree_Tree_Decode_e0 {R:Type} (tagtree_Tree_ok:tagtree_Tree_ok_t R) (bitio_Reader_Bits:bitio_Reader_Bits_t R) (tagtree_Tree_has:tagtree_Tree_has_t R) (tagtree_Tree_walk_v85:tagtree_Tree_walk_v85_t R) (tagtree_Tree_at:tagtree_Tree_at_t R) (tagtree_Tree_Decode_p0:tagtree_Tree_Decode_p0_t R) (tagtree_Tree_Decode_p1:tagtree_Tree_Decode_p1_t R) (k:Nat) (p849:Oa) (n850:Int) (n851:Int) (n852:Int) (p853:Oa) (H:Heap) (K:Xit → Env → Heap → Option R):evJ (tagtree_Tree_Decode_Ct tagtree_Tree_ok bitio_Reader_Bits tagtree_Tree_has tagtree_Tree_walk_v85 tagtree_Tree_at) (tagtree_Tree_Decode_Jt k tagtree_Tree_Decode_p0 tagtree_Tree_Decode_p1) tagtree_Tree_Decode_i0 (List.zip [0,2,3,4,6] [.pointer p849,.int .i64 n850,.int .i64 n851,.int .i64 n852,.pointer p853]) H (fun x e' H' => K x (clean e' ((⟨[0,2,3,4,6],[],[10,11]⟩:Out).of x)) H') = tagtree_Tree_Decode_p0_b tagtree_Tree_ok k p849 n850 n851 n852 p853 H (fun p1614 n1615 n1616 n1617 p1618 => K .normal [(0,.pointer p1614),(2,.int .i64 n1615),(3,.int .i64 n1616),(4,.int .i64 n1617),(6,.pointer p1618)] H) (fun t1619 n1620 => K .ret [(10,.bool t1619),(11,.int .i64 n1620)] H):=by kernel_rfl
theorem tagtree_Tree_Decode_j0 {R:Type} (k:Nat):JS Try.prog 73 (tagtree_Tree_Decode_a0 R k k) [0,2,3,4,6] ⟨[0,2,3,4,6],[],[10,11]⟩ (sel [1,0] (Try.f68.body.getD .skip)) :=
  piece_ok (nt:=73) (c:=(sel [1,0] (Try.f68.body.getD .skip))) (C:=tagtree_Tree_Decode_C R k) (an:=An) (t:=(.seq (.reg [0,2,3,4,6,24] []) (.cond (.seq (.reg [10,11] []) .leaf) .leaf))) (ic:=tagtree_Tree_Decode_i0) (tagtree_Tree_Decode_S R k) (tagtree_Tree_Decode_J R k) (by kernel_rfl) (And.intro True.intro (And.intro (And.intro True.intro True.intro) True.intro)) (tagtree_Tree_Decode_a0 R k k)
    (fun vals H K r h => by
      unfold tagtree_Tree_Decode_a0 tagtree_Tree_Decode_aa0 at h
      split at h <;> first | (cases h; done) | exact Eq.trans (tagtree_Tree_Decode_e0 tagtree_Tree_ok (bitio_Reader_Bits k) tagtree_Tree_has (tagtree_Tree_walk_v85 k) tagtree_Tree_at (tagtree_Tree_Decode_p0 k) (tagtree_Tree_Decode_p1 k) k _ _ _ _ _ H K) h)
def tagtree_Tree_Decode_ca {R:Type} (f:tagtree_Tree_Decode_t R) (args:List Value) (H:Heap) (K:Value → Heap → Option R):Option R :=
  match args with
  | [.pointer p842,.pointer p843,.int .i64 n844,.int .i64 n845,.int .i64 n846] => f p842 p843 n844 n845 n846 H (fun t1628 n1629 H => K (.tuple ⟨[.bool t1628,.int .i64 n1629]⟩) H)
  | _ => none
def tagtree_Tree_Decode_c (R:Type) (k:Nat) (args:List Value) (H:Heap) (K:Value → Heap → Option R):Option R:=tagtree_Tree_Decode_ca (tagtree_Tree_Decode k) args H K
theorem tagtree_Tree_Decode_e {R:Type} (tagtree_Tree_ok:tagtree_Tree_ok_t R) (bitio_Reader_Bits:bitio_Reader_Bits_t R) (tagtree_Tree_has:tagtree_Tree_has_t R) (tagtree_Tree_walk_v85:tagtree_Tree_walk_v85_t R) (tagtree_Tree_at:tagtree_Tree_at_t R) (tagtree_Tree_Decode_p0:tagtree_Tree_Decode_p0_t R) (tagtree_Tree_Decode_p1:tagtree_Tree_Decode_p1_t R) (k:Nat) (p842:Oa) (p843:Oa) (n844:Int) (n845:Int) (n846:Int) (H:Heap) (K:Value → Heap → Option R):evF (tagtree_Tree_Decode_Ct tagtree_Tree_ok bitio_Reader_Bits tagtree_Tree_has tagtree_Tree_walk_v85 tagtree_Tree_at) (tagtree_Tree_Decode_Jt k tagtree_Tree_Decode_p0 tagtree_Tree_Decode_p1) tagtree_Tree_Decode_f [.pointer p842,.pointer p843,.int .i64 n844,.int .i64 n845,.int .i64 n846] H K = tagtree_Tree_Decode_b tagtree_Tree_Decode_p0 bitio_Reader_Bits tagtree_Tree_Decode_p1 tagtree_Tree_walk_v85 tagtree_Tree_at k p842 p843 n844 n845 n846 H (fun t1628 n1629 H => K (.tuple ⟨[.bool t1628,.int .i64 n1629]⟩) H):=by kernel_rfl
theorem tagtree_Tree_Decode_cs (R:Type) (k:Nat):∀ args H K r,tagtree_Tree_Decode_c R k args H K = some r → ∃ v H',Tri Try.prog 68 args H v H' ∧ K v H' = some r:=by
  intro args H K r h
  unfold tagtree_Tree_Decode_c tagtree_Tree_Decode_ca at h
  split at h
  · exact evF_ok (C:=tagtree_Tree_Decode_C R k) (an:=An) (t:=tagtree_Tree_Decode_at) (fn:=Try.f68) (c:=(Try.f68.body.getD .skip)) (ifn:=tagtree_Tree_Decode_f) (tagtree_Tree_Decode_S R k) (tagtree_Tree_Decode_J R k) Try.func68 (by kernel_rfl) (by kernel_rfl) (And.intro True.intro (And.intro (tagtree_Tree_Decode_j0 k) (And.intro (And.intro True.intro (And.intro True.intro (And.intro (And.intro True.intro True.intro) True.intro))) (And.intro (tagtree_Tree_Decode_j1 k) (And.intro True.intro (And.intro (And.intro True.intro (And.intro (And.intro True.intro True.intro) True.intro)) (And.intro True.intro (And.intro True.intro (And.intro True.intro True.intro))))))))) rfl (Eq.trans (tagtree_Tree_Decode_e tagtree_Tree_ok (bitio_Reader_Bits k) tagtree_Tree_has (tagtree_Tree_walk_v85 k) tagtree_Tree_at (tagtree_Tree_Decode_p0 k) (tagtree_Tree_Decode_p1 k) k _ _ _ _ _ H K) h)
  · cases h
abbrev tagtree_Tree_Value_p0_t (R:Type):Type:=Oa → Int → Int → Heap → (Oa → Int → Int → Heap → Option R) → (Int → Bool → Heap → Option R) → Option R
def tagtree_Tree_Value_p0_b {R:Type} (tagtree_Tree_ok:tagtree_Tree_ok_t R) (tagtree_Tree_has:tagtree_Tree_has_t R) (tagtree_Tree_at:tagtree_Tree_at_t R) (k:Nat) (p947:Oa) (n948:Int) (n949:Int) (H:Heap) (KN:Oa → Int → Int → Heap → Option R) (KR:Int → Bool → Heap → Option R):Option R :=
tagtree_Tree_ok p947 H fun t950 =>
bif (!t950) then (KR 0 false H)
 else (tagtree_Tree_has p947 n948 n949 H fun t951 H952 =>
bif (!t951) then (KR 0 false H952)
 else (tagtree_Tree_at p947 0 n948 n949 H952 fun p953 =>
hnil p953 fun p954 =>
hfad 2 p954 fun p955 =>
ldB H952 p955 fun t956 =>
bif (!t956) then (KR 0 false H952)
 else (KN p947 n948 n949 H952)))
def tagtree_Tree_Value_p0 {R:Type} (k:Nat) (p947:Oa) (n948:Int) (n949:Int) (H:Heap) (KN:Oa → Int → Int → Heap → Option R) (KR:Int → Bool → Heap → Option R):Option R:=tagtree_Tree_Value_p0_b tagtree_Tree_ok tagtree_Tree_has tagtree_Tree_at k p947 n948 n949 H KN KR
abbrev tagtree_Tree_Value_t (R:Type):Type:=Oa → Int → Int → Heap → (Int → Bool → Heap → Option R) → Option R
def tagtree_Tree_Value_b {R:Type} (tagtree_Tree_Value_p0:tagtree_Tree_Value_p0_t R) (tagtree_Tree_at:tagtree_Tree_at_t R) (k:Nat) (p944:Oa) (n945:Int) (n946:Int) (H:Heap) (K:Int → Bool → Heap → Option R):Option R :=
tagtree_Tree_Value_p0 p944 n945 n946 H (fun p962 n963 n964 H965 =>
tagtree_Tree_at p962 0 n963 n964 H965 fun p966 =>
hnil p966 fun p967 =>
hfad 1 p967 fun p968 =>
ldI .i64 H965 p968 fun n969 =>
K n969 true H965) (fun n970 t971 H972 =>
K n970 t971 H972)
def tagtree_Tree_Value {R:Type} (k:Nat) (p944:Oa) (n945:Int) (n946:Int) (H:Heap) (K:Int → Bool → Heap → Option R):Option R:=tagtree_Tree_Value_b (tagtree_Tree_Value_p0 k) tagtree_Tree_at k p944 n945 n946 H K
def tagtree_Tree_Value_Ct {R:Type} (tagtree_Tree_ok:tagtree_Tree_ok_t R) (tagtree_Tree_has:tagtree_Tree_has_t R) (tagtree_Tree_at:tagtree_Tree_at_t R):Tab R:=tcons 54 (tagtree_Tree_ok_ca tagtree_Tree_ok) <| tcons 55 (tagtree_Tree_has_ca tagtree_Tree_has) <| tcons 56 (tagtree_Tree_at_ca tagtree_Tree_at) <| fun _ _ _ _ => none
def tagtree_Tree_Value_C (R:Type) (k:Nat):Tab R:=tagtree_Tree_Value_Ct tagtree_Tree_ok tagtree_Tree_has tagtree_Tree_at
theorem tagtree_Tree_Value_S (R:Type) (k:Nat):CSound Try.prog (tagtree_Tree_Value_C R k):=csound_cons (tagtree_Tree_ok_cs R k) <| csound_cons (tagtree_Tree_has_cs R k) <| csound_cons (tagtree_Tree_at_cs R k) <| csound_nil
def tagtree_Tree_Value_aa0 {R:Type} (f:tagtree_Tree_Value_p0_t R) (n:Nat) (vals:List Value) (H:Heap) (K:Xit → Env → Heap → Option R):Option R :=
  match vals with
  | [.pointer p947,.int .i64 n948,.int .i64 n949] => f p947 n948 n949 H (fun p1630 n1631 n1632 H => K .normal [(0,.pointer p1630),(1,.int .i64 n1631),(2,.int .i64 n1632)] H) (fun n1633 t1634 H => K .ret [(6,.int .i64 n1633),(7,.bool t1634)] H)
  | _ => none
def tagtree_Tree_Value_a0 (R:Type) (k n:Nat) (vals:List Value) (H:Heap) (K:Xit → Env → Heap → Option R):Option R:=tagtree_Tree_Value_aa0 (tagtree_Tree_Value_p0 k) n vals H K
def tagtree_Tree_Value_Jt {R:Type} (k:Nat) (tagtree_Tree_Value_p0:tagtree_Tree_Value_p0_t R):JTab R:=tcons 0 (tagtree_Tree_Value_aa0 tagtree_Tree_Value_p0 k) <| fun _ _ _ _ => none
def tagtree_Tree_Value_J (R:Type) (k:Nat):JTab R:=tagtree_Tree_Value_Jt k (tagtree_Tree_Value_p0 k)
def tagtree_Tree_Value_at:AT:=(.seq (.reg [0,1,2] []) (.seq (.opq 0 [0,1,2] ⟨[0,1,2],[],[6,7]⟩ (.seq (.reg [0,1,2,27] []) (.cond (.seq (.reg [6,7] []) .leaf) .leaf))) (.seq (.reg [6,7] []) .leaf)))
def tagtree_Tree_Value_i0:IC:=(.seq (.reg [⟨some 8,.mov (.t 0),none⟩,
⟨some 9,.call 54 [(.t 8)] (.one (.sc .bool)),none⟩,
⟨some 10,.lnot (.t 9),none⟩,
⟨some 11,.mov (.t 10),none⟩,
⟨some 12,.mov (.t 0),some (11,false)⟩,
⟨some 13,.mov (.t 1),some (11,false)⟩,
⟨some 14,.mov (.t 2),some (11,false)⟩,
⟨some 15,.call 55 [(.t 12),(.t 13),(.t 14)] (.one (.sc .bool)),some (11,false)⟩,
⟨some 16,.lnot (.t 15),some (11,false)⟩,
⟨some 17,.pick (.t 11) (.c (Go.Value.bool true)) (.t 16),none⟩,
⟨some 18,.mov (.t 17),none⟩,
⟨some 19,.mov (.t 0),some (18,false)⟩,
⟨some 20,.mov (.t 1),some (18,false)⟩,
⟨some 21,.mov (.t 2),some (18,false)⟩,
⟨some 22,.call 56 [(.t 19),(.c (Go.Value.int Go.IntKind.i64 0)),(.t 20),(.t 21)] (.one (.sc .ptr)),some (18,false)⟩,
⟨some 23,.nilc (.t 22),some (18,false)⟩,
⟨some 24,.fad 2 (.t 23),some (18,false)⟩,
⟨some 25,.ld (.sc .bool) (.t 24),some (18,false)⟩,
⟨some 26,.lnot (.t 25),some (18,false)⟩,
⟨some 27,.pick (.t 18) (.c (Go.Value.bool true)) (.t 26),none⟩] [0,1,2,27]) (.cond (.t 27) (.seq (.reg [⟨some 6,.mov (.c (Go.Value.int Go.IntKind.i64 0)),none⟩,
⟨some 7,.mov (.c (Go.Value.bool false)),none⟩] [6,7]) .ret) .skip))
def tagtree_Tree_Value_f:IFn:=⟨35,[.t 6,.t 7],(.seq (.reg [⟨some 6,.mov (.c (Go.Value.int Go.IntKind.i64 0)),none⟩,
⟨some 7,.mov (.c (Go.Value.bool false)),none⟩] [0,1,2]) (.seq (.opq 0 [0,1,2] tagtree_Tree_Value_i0) (.seq (.reg [⟨some 28,.mov (.t 0),none⟩,
⟨some 29,.mov (.t 1),none⟩,
⟨some 30,.mov (.t 2),none⟩,
⟨some 31,.call 56 [(.t 28),(.c (Go.Value.int Go.IntKind.i64 0)),(.t 29),(.t 30)] (.one (.sc .ptr)),none⟩,
⟨some 32,.nilc (.t 31),none⟩,
⟨some 33,.fad 1 (.t 32),none⟩,
⟨some 34,.ld (.sc (.int .i64)) (.t 33),none⟩,
⟨some 6,.mov (.t 34),none⟩,
⟨some 7,.mov (.c (Go.Value.bool true)),none⟩] [6,7]) .ret)))⟩
theorem tagtree_Tree_Value_e0 {R:Type} (tagtree_Tree_ok:tagtree_Tree_ok_t R) (tagtree_Tree_has:tagtree_Tree_has_t R) (tagtree_Tree_at:tagtree_Tree_at_t R) (tagtree_Tree_Value_p0:tagtree_Tree_Value_p0_t R) (k:Nat) (p947:Oa) (n948:Int) (n949:Int) (H:Heap) (K:Xit → Env → Heap → Option R):evJ (tagtree_Tree_Value_Ct tagtree_Tree_ok tagtree_Tree_has tagtree_Tree_at) (tagtree_Tree_Value_Jt k tagtree_Tree_Value_p0) tagtree_Tree_Value_i0 (List.zip [0,1,2] [.pointer p947,.int .i64 n948,.int .i64 n949]) H (fun x e' H' => K x (clean e' ((⟨[0,1,2],[],[6,7]⟩:Out).of x)) H') = tagtree_Tree_Value_p0_b tagtree_Tree_ok tagtree_Tree_has tagtree_Tree_at k p947 n948 n949 H (fun p1630 n1631 n1632 H => K .normal [(0,.pointer p1630),(1,.int .i64 n1631),(2,.int .i64 n1632)] H) (fun n1633 t1634 H => K .ret [(6,.int .i64 n1633),(7,.bool t1634)] H):=by kernel_rfl
theorem tagtree_Tree_Value_j0 {R:Type} (k:Nat):JS Try.prog 35 (tagtree_Tree_Value_a0 R k k) [0,1,2] ⟨[0,1,2],[],[6,7]⟩ (sel [1,0] (Try.f69.body.getD .skip)) :=
  piece_ok (nt:=35) (c:=(sel [1,0] (Try.f69.body.getD .skip))) (C:=tagtree_Tree_Value_C R k) (an:=An) (t:=(.seq (.reg [0,1,2,27] []) (.cond (.seq (.reg [6,7] []) .leaf) .leaf))) (ic:=tagtree_Tree_Value_i0) (tagtree_Tree_Value_S R k) (tagtree_Tree_Value_J R k) (by kernel_rfl) (And.intro True.intro (And.intro (And.intro True.intro True.intro) True.intro)) (tagtree_Tree_Value_a0 R k k)
    (fun vals H K r h => by
      unfold tagtree_Tree_Value_a0 tagtree_Tree_Value_aa0 at h
      split at h <;> first | (cases h; done) | exact Eq.trans (tagtree_Tree_Value_e0 tagtree_Tree_ok tagtree_Tree_has tagtree_Tree_at (tagtree_Tree_Value_p0 k) k _ _ _ H K) h)
def tagtree_Tree_Value_ca {R:Type} (f:tagtree_Tree_Value_t R) (args:List Value) (H:Heap) (K:Value → Heap → Option R):Option R :=
  match args with
  | [.pointer p944,.int .i64 n945,.int .i64 n946] => f p944 n945 n946 H (fun n1635 t1636 H => K (.tuple ⟨[.int .i64 n1635,.bool t1636]⟩) H)
  | _ => none
def tagtree_Tree_Value_c (R:Type) (k:Nat) (args:List Value) (H:Heap) (K:Value → Heap → Option R):Option R:=tagtree_Tree_Value_ca (tagtree_Tree_Value k) args H K
theorem tagtree_Tree_Value_e {R:Type} (tagtree_Tree_ok:tagtree_Tree_ok_t R) (tagtree_Tree_has:tagtree_Tree_has_t R) (tagtree_Tree_at:tagtree_Tree_at_t R) (tagtree_Tree_Value_p0:tagtree_Tree_Value_p0_t R) (k:Nat) (p944:Oa) (n945:Int) (n946:Int) (H:Heap) (K:Value → Heap → Option R):evF (tagtree_Tree_Value_Ct tagtree_Tree_ok tagtree_Tree_has tagtree_Tree_at) (tagtree_Tree_Value_Jt k tagtree_Tree_Value_p0) tagtree_Tree_Value_f [.pointer p944,.int .i64 n945,.int .i64 n946] H K = tagtree_Tree_Value_b tagtree_Tree_Value_p0 tagtree_Tree_at k p944 n945 n946 H (fun n1635 t1636 H => K (.tuple ⟨[.int .i64 n1635,.bool t1636]⟩) H):=by kernel_rfl
theorem tagtree_Tree_Value_cs (R:Type) (k:Nat):∀ args H K r,tagtree_Tree_Value_c R k args H K = some r → ∃ v H',Tri Try.prog 69 args H v H' ∧ K v H' = some r:=by
  intro args H K r h
  unfold tagtree_Tree_Value_c tagtree_Tree_Value_ca at h
  split at h
  · exact evF_ok (C:=tagtree_Tree_Value_C R k) (an:=An) (t:=tagtree_Tree_Value_at) (fn:=Try.f69) (c:=(Try.f69.body.getD .skip)) (ifn:=tagtree_Tree_Value_f) (tagtree_Tree_Value_S R k) (tagtree_Tree_Value_J R k) Try.func69 (by kernel_rfl) (by kernel_rfl) (And.intro True.intro (And.intro (tagtree_Tree_Value_j0 k) (And.intro True.intro True.intro))) rfl (Eq.trans (tagtree_Tree_Value_e tagtree_Tree_ok tagtree_Tree_has tagtree_Tree_at (tagtree_Tree_Value_p0 k) k _ _ _ H K) h)
  · cases h
abbrev pkthead_State_contributes_p0_t (R:Type):Type:=Oa → Oa → Oa → Oa → Bool → Int → (Oa → Oa → Oa → Oa → Option R) → (Bool → Int → Option R) → Option R
def pkthead_State_contributes_p0_b {R:Type} (k:Nat) (p845:Oa) (p846:Oa) (p847:Oa) (p848:Oa) (t849:Bool) (n850:Int) (KN:Oa → Oa → Oa → Oa → Option R) (KR:Bool → Int → Option R):Option R :=
bif (n850 != 0) then (KR false n850)
 else (bif (!t849) then (KR false n850)
 else (KN p845 p846 p847 p848))
def pkthead_State_contributes_p0 {R:Type} (k:Nat) (p845:Oa) (p846:Oa) (p847:Oa) (p848:Oa) (t849:Bool) (n850:Int) (KN:Oa → Oa → Oa → Oa → Option R) (KR:Bool → Int → Option R):Option R:=pkthead_State_contributes_p0_b k p845 p846 p847 p848 t849 n850 KN KR
abbrev pkthead_State_contributes_p1_t (R:Type):Type:=Oa → Oa → Oa → Oa → Heap → (Oa → Oa → Oa → Heap → Option R) → (Bool → Int → Heap → Option R) → Option R
def pkthead_State_contributes_p1_b {R:Type} (tagtree_Tree_Value:tagtree_Tree_Value_t R) (k:Nat) (p861:Oa) (p862:Oa) (p863:Oa) (p864:Oa) (H:Heap) (KN:Oa → Oa → Oa → Heap → Option R) (KR:Bool → Int → Heap → Option R):Option R :=
hfad 1 p864 fun p865 =>
ldP H p865 fun p866 =>
hnil p863 fun p867 =>
hfad 1 p867 fun p868 =>
ldI .i64 H p868 fun n869 =>
hnil p863 fun p870 =>
hfad 2 p870 fun p871 =>
ldI .i64 H p871 fun n872 =>
tagtree_Tree_Value p866 n869 n872 H fun n873 t874 H875 =>
bif t874 then (hnil p861 fun p876 =>
hfad 10 p876 fun p877 =>
ldI .i64 H875 p877 fun n878 =>
bif decide (n873 < n878) then (KR false 15 H875)
 else (KN p862 p863 p864 H875))
 else (KN p862 p863 p864 H875)
def pkthead_State_contributes_p1 {R:Type} (k:Nat) (p861:Oa) (p862:Oa) (p863:Oa) (p864:Oa) (H:Heap) (KN:Oa → Oa → Oa → Heap → Option R) (KR:Bool → Int → Heap → Option R):Option R:=pkthead_State_contributes_p1_b (tagtree_Tree_Value k) k p861 p862 p863 p864 H KN KR
abbrev pkthead_State_contributes_l2_t (R:Type):Type:=(Heap → Option R) → (Bool → Int → Heap → Option R) → Nat → Oa → Oa → Oa → Int → Heap → Option R
def pkthead_State_contributes_l2_b {R:Type} (tagtree_Tree_Decode:tagtree_Tree_Decode_t R) (tagtree_Tree_Value:tagtree_Tree_Value_t R) (rec:Oa → Oa → Oa → Int → Heap → Option R) (KE0:Heap → Option R) (KR:Bool → Int → Heap → Option R) (k:Nat) (p888:Oa) (p889:Oa) (p890:Oa) (n891:Int) (H:Heap):Option R :=
hfad 0 p890 fun p892 =>
ldI .i64 H p892 fun n893 =>
bif decide (n891 ≤ n893) then (hfad 2 p890 fun p894 =>
ldP H p894 fun p895 =>
hnil p889 fun p896 =>
hfad 1 p896 fun p897 =>
ldI .i64 H p897 fun n898 =>
hnil p889 fun p899 =>
hfad 2 p899 fun p900 =>
ldI .i64 H p900 fun n901 =>
tagtree_Tree_Decode p895 p888 n898 n901 n891 H fun t902 n903 H904 =>
bif (n903 != 0) then (KR false n903 H904)
 else (bif t902 then (hfad 2 p890 fun p905 =>
ldP H904 p905 fun p906 =>
hnil p889 fun p907 =>
hfad 1 p907 fun p908 =>
ldI .i64 H904 p908 fun n909 =>
hnil p889 fun p910 =>
hfad 2 p910 fun p911 =>
ldI .i64 H904 p911 fun n912 =>
tagtree_Tree_Value p906 n909 n912 H904 fun n913 t914 H915 =>
hfrz H915 p890 fun H916 =>
hfad 0 p890 fun p917 =>
bif isRo H916 p917 then (ldI .i64 H916 p917 fun n918 =>
hnil p889 fun p919 =>
hfad 3 p919 fun p920 =>
hst1 H916 p920 (.bool true) fun H921 =>
hnil p889 fun p922 =>
hfad 4 p922 fun p923 =>
hst1 H921 p923 (.int .i64 (IntKind.wrap .i64 (n918 - n913))) fun H924 =>
KR true 0 H924)
 else none)
 else (rec p888 p889 p890 (IntKind.wrap .i64 (n891 + 1)) H904)))
 else (KE0 H)
def pkthead_State_contributes_l2 {R:Type} (k:Nat) (KE0:Heap → Option R) (KR:Bool → Int → Heap → Option R):Nat → Oa → Oa → Oa → Int → Heap → Option R
  | 0,_,_,_,_,_ => none
  | n + 1,p888,p889,p890,n891,H => pkthead_State_contributes_l2_b (tagtree_Tree_Decode k) (tagtree_Tree_Value k) (pkthead_State_contributes_l2 k KE0 KR n) KE0 KR k p888 p889 p890 n891 H
abbrev pkthead_State_contributes_t (R:Type):Type:=Oa → Oa → Oa → Heap → (Bool → Int → Heap → Option R) → Option R
def pkthead_State_contributes_b {R:Type} (bitio_Reader_Get:bitio_Reader_Get_t R) (tagtree_Tree_Decode:tagtree_Tree_Decode_t R) (pkthead_State_contributes_p0:pkthead_State_contributes_p0_t R) (pkthead_State_contributes_p1:pkthead_State_contributes_p1_t R) (pkthead_State_contributes_l2:pkthead_State_contributes_l2_t R) (k:Nat) (p807:Oa) (p808:Oa) (p809:Oa) (H:Heap) (K:Bool → Int → Heap → Option R):Option R :=
hnil p809 fun p810 =>
hfad 3 p810 fun p811 =>
ldB H p811 fun t812 =>
bif t812 then (bitio_Reader_Get p808 H fun n813 n814 H815 =>
K (n813 == 1) n814 H815)
 else (hnil p807 fun p816 =>
hfad 8 p816 fun p817 =>
ldL H p817 fun q818 l819 c820 =>
hnil p809 fun p821 =>
hfad 0 p821 fun p822 =>
ldI .i64 H p822 fun n823 =>
hidx q818 l819 n823 3 fun p824 =>
ldI .i64 H (pad p824 0) fun n825 =>
ldP H (pad p824 1) fun p826 =>
ldP H (pad p824 2) fun p827 =>
hal H [.int .i64 0,.pointer none,.pointer none] fun p828 H829 =>
hst H829 p828 [.int .i64 n825,.pointer p826,.pointer p827] fun H830 =>
hfad 1 p828 fun p831 =>
ldP H830 p831 fun p832 =>
hnil p809 fun p833 =>
hfad 1 p833 fun p834 =>
ldI .i64 H830 p834 fun n835 =>
hnil p809 fun p836 =>
hfad 2 p836 fun p837 =>
ldI .i64 H830 p837 fun n838 =>
hnil p807 fun p839 =>
hfad 10 p839 fun p840 =>
ldI .i64 H830 p840 fun n841 =>
tagtree_Tree_Decode p832 p808 n835 n838 (IntKind.wrap .i64 (n841 + 1)) H830 fun t842 n843 H844 =>
pkthead_State_contributes_p0 p807 p808 p809 p828 t842 n843 (fun p857 p858 p859 p860 =>
pkthead_State_contributes_p1 p857 p858 p859 p860 H844 (fun p884 p885 p886 H887 =>
pkthead_State_contributes_l2 (fun H927 =>
K false 15 H927) (fun t928 n929 H930 =>
K t928 n929 H930) k p884 p885 p886 1 H887) (fun t931 n932 H933 =>
K t931 n932 H933)) (fun t934 n935 =>
K t934 n935 H844))
def pkthead_State_contributes {R:Type} (k:Nat) (p807:Oa) (p808:Oa) (p809:Oa) (H:Heap) (K:Bool → Int → Heap → Option R):Option R:=pkthead_State_contributes_b (bitio_Reader_Get k) (tagtree_Tree_Decode k) (pkthead_State_contributes_p0 k) (pkthead_State_contributes_p1 k) (pkthead_State_contributes_l2 k) k p807 p808 p809 H K
def pkthead_State_contributes_Ct {R:Type} (bitio_Reader_Get:bitio_Reader_Get_t R) (tagtree_Tree_Decode:tagtree_Tree_Decode_t R) (tagtree_Tree_Value:tagtree_Tree_Value_t R):Tab R:=tcons 45 (bitio_Reader_Get_ca bitio_Reader_Get) <| tcons 68 (tagtree_Tree_Decode_ca tagtree_Tree_Decode) <| tcons 69 (tagtree_Tree_Value_ca tagtree_Tree_Value) <| fun _ _ _ _ => none
def pkthead_State_contributes_C (R:Type) (k:Nat):Tab R:=pkthead_State_contributes_Ct (bitio_Reader_Get k) (tagtree_Tree_Decode k) (tagtree_Tree_Value k)
theorem pkthead_State_contributes_S (R:Type) (k:Nat):CSound Try.prog (pkthead_State_contributes_C R k):=csound_cons (bitio_Reader_Get_cs R k) <| csound_cons (tagtree_Tree_Decode_cs R k) <| csound_cons (tagtree_Tree_Value_cs R k) <| csound_nil
def pkthead_State_contributes_aa0 {R:Type} (f:pkthead_State_contributes_p0_t R) (n:Nat) (vals:List Value) (H:Heap) (K:Xit → Env → Heap → Option R):Option R :=
  match vals with
  | [.pointer p845,.pointer p846,.pointer p847,.pointer p848,.bool t849,.int .i64 n850] => f p845 p846 p847 p848 t849 n850 (fun p1637 p1638 p1639 p1640 => K .normal [(0,.pointer p1637),(1,.pointer p1638),(2,.pointer p1639),(10,.pointer p1640)] H) (fun t1641 n1642 => K .ret [(6,.bool t1641),(7,.int .i64 n1642)] H)
  | _ => none
def pkthead_State_contributes_a0 (R:Type) (k n:Nat) (vals:List Value) (H:Heap) (K:Xit → Env → Heap → Option R):Option R:=pkthead_State_contributes_aa0 (pkthead_State_contributes_p0 k) n vals H K
def pkthead_State_contributes_aa1 {R:Type} (f:pkthead_State_contributes_p1_t R) (n:Nat) (vals:List Value) (H:Heap) (K:Xit → Env → Heap → Option R):Option R :=
  match vals with
  | [.pointer p861,.pointer p862,.pointer p863,.pointer p864] => f p861 p862 p863 p864 H (fun p1643 p1644 p1645 H => K .normal [(1,.pointer p1643),(2,.pointer p1644),(10,.pointer p1645)] H) (fun t1646 n1647 H => K .ret [(6,.bool t1646),(7,.int .i64 n1647)] H)
  | _ => none
def pkthead_State_contributes_a1 (R:Type) (k n:Nat) (vals:List Value) (H:Heap) (K:Xit → Env → Heap → Option R):Option R:=pkthead_State_contributes_aa1 (pkthead_State_contributes_p1 k) n vals H K
def pkthead_State_contributes_aa2 {R:Type} (f:pkthead_State_contributes_l2_t R) (n:Nat) (vals:List Value) (H:Heap) (K:Xit → Env → Heap → Option R):Option R :=
  match vals with
  | [.pointer p888,.pointer p889,.pointer p890,.int .i64 n891] => f (fun H => K (.exit 0) [] H) (fun t1648 n1649 H => K .ret [(6,.bool t1648),(7,.int .i64 n1649)] H) n p888 p889 p890 n891 H
  | _ => none
def pkthead_State_contributes_a2 (R:Type) (k n:Nat) (vals:List Value) (H:Heap) (K:Xit → Env → Heap → Option R):Option R:=pkthead_State_contributes_aa2 (pkthead_State_contributes_l2 k) n vals H K
def pkthead_State_contributes_Jt {R:Type} (k:Nat) (pkthead_State_contributes_p0:pkthead_State_contributes_p0_t R) (pkthead_State_contributes_p1:pkthead_State_contributes_p1_t R) (pkthead_State_contributes_l2:pkthead_State_contributes_l2_t R):JTab R:=tcons 0 (pkthead_State_contributes_aa0 pkthead_State_contributes_p0 k) <| tcons 1 (pkthead_State_contributes_aa1 pkthead_State_contributes_p1 k) <| tcons 2 (pkthead_State_contributes_aa2 pkthead_State_contributes_l2 k) <| fun _ _ _ _ => none
def pkthead_State_contributes_J (R:Type) (k:Nat):JTab R:=pkthead_State_contributes_Jt k (pkthead_State_contributes_p0 k) (pkthead_State_contributes_p1 k) (pkthead_State_contributes_l2 k)
def pkthead_State_contributes_at:AT:=(.seq (.reg [0,1,2] []) (.seq (.seq (.reg [0,1,2,23] []) (.cond (.seq (.reg [8,9] []) (.seq (.reg [6,7] []) .leaf)) .leaf)) (.seq (.reg [0,1,2,10] [[],[0],[0,1],[0,1,2],[],[4],[4,5],[4,5,6],[0,1,2,3,4,5,6,7],[0,1,2,3,4,5,6,7,8],[],[0,1,2,3,4,5,6,7,8,9,10]]) (.seq (.reg [0,1,2,10,11,12] [[],[0],[],[],[3],[3,4],[3,4,5],[],[7],[7,8],[7,8,9],[],[11],[11,12],[11,12,13],[11,12,13,14],[0,1,2,3,4,5,6,7,8,9,10,11,12,13,14,15],[0,1,2,3,4,5,6,7,8,9,10,11,12,13,14,15,16],[0,1,2,3,4,5,6,7,8,9,10,11,12,13,14,15,16,17],[0,1,2,3,4,5,6,7,8,9,10,11,12,13,14,15,16,17],[0,1,2,3,4,5,6,7,8,9,10,11,12,13,14,15,16,17,18],[0,1,2,3,4,5,6,7,8,9,10,11,12,13,14,15,16,17,18,19,20]]) (.seq (.opq 0 [0,1,2,10,11,12] ⟨[0,1,2,10],[],[6,7]⟩ (.seq (.reg [0,1,2,10,12,67] []) (.cond (.seq (.reg [6,7] []) .leaf) .leaf))) (.seq (.opq 1 [0,1,2,10] ⟨[1,2,10],[],[6,7]⟩ (.seq (.reg [0,1,2,10,13,14] [[],[0],[],[2],[2,3],[2,3,4],[],[6],[6,7],[6,7,8],[0,1,2,3,4,5,6,7,8,9],[0,1,2,3,4,5,6,7,8,9,10],[0,1,2,3,4,5,6,7,8,9,10,11],[0,1,2,3,4,5,6,7,8,9,10,11],[0,1,2,3,4,5,6,7,8,9,10,11,12],[0,1,2,3,4,5,6,7,8,9,10,11,12,13,14]]) (.seq (.reg [1,2,10,91] []) (.cond (.seq (.reg [6,7] []) .leaf) .leaf)))) (.seq (.seq (.reg [1,2,10,15] []) (.node (.opq 2 [1,2,10,15] ⟨[],[(0,[])],[6,7]⟩ (.node (.seq (.seq (.reg [1,2,10,15,95] []) (.cond .leaf .leaf)) (.seq (.node (.seq (.reg [1,2,10,15,16,17] [[],[0],[],[],[3],[3,4],[3,4,5],[],[7],[7,8],[7,8,9],[],[0,1,2,3,4,5,6,7,8,9,10,11],[0,1,2,3,4,5,6,7,8,9,10,11,12],[0,1,2,3,4,5,6,7,8,9,10,11,12,13],[0,1,2,3,4,5,6,7,8,9,10,11,12,13],[0,1,2,3,4,5,6,7,8,9,10,11,12,13,14],[0,1,2,3,4,5,6,7,8,9,10,11,12,13,14,15,16]]) (.seq (.seq (.reg [1,2,10,15,16,17,115] []) (.cond (.seq (.reg [6,7] []) .leaf) .leaf)) (.seq (.reg [1,2,10,15,117] []) (.cond (.seq (.reg [2,10,18] [[],[0],[],[2],[2,3],[2,3,4],[],[6],[6,7],[6,7,8],[0,1,2,3,4,5,6,7,8,9],[0,1,2,3,4,5,6,7,8,9,10],[0,1,2,3,4,5,6,7,8,9,10,11],[0,1,2,3,4,5,6,7,8,9,10,11],[0,1,2,3,4,5,6,7,8,9,10,11,12],[0,1,2,3,4,5,6,7,8,9,10,11,12,13,14]]) (.seq (.frz 10 (.reg [] [[],[],[],[2],[],[2,3,4],[0],[0,6],[0,6,7],[0,1,2,3,4,5,6,7,8],[0,1,2,3,4,5,6,7,8,9],[0,1,2,3,4,5,6,7,8,9,10]])) (.seq (.reg [6,7] []) .leaf))) .leaf))))) (.reg [1,2,10,15] []))))))) (.seq (.reg [6,7] []) .leaf))))))))
def pkthead_State_contributes_i2:IC:=(.seq (.seq (.reg [⟨some 92,.mov (.t 15),none⟩,
⟨some 93,.fad 0 (.t 10),none⟩,
⟨some 94,.ld (.sc (.int .i64)) (.t 93),none⟩,
⟨some 95,.cmp .leq (.t 92) (.t 94),none⟩] [1,2,10,15,95]) (.cond (.t 95) .skip (.exit 0))) (.seq (.block 1 (.seq (.reg [⟨some 99,.fad 2 (.t 10),none⟩,
⟨some 100,.ld (.sc .ptr) (.t 99),none⟩,
⟨some 101,.mov (.t 1),none⟩,
⟨some 102,.mov (.t 2),none⟩,
⟨some 103,.nilc (.t 102),none⟩,
⟨some 104,.fad 1 (.t 103),none⟩,
⟨some 105,.ld (.sc (.int .i64)) (.t 104),none⟩,
⟨some 106,.mov (.t 2),none⟩,
⟨some 107,.nilc (.t 106),none⟩,
⟨some 108,.fad 2 (.t 107),none⟩,
⟨some 109,.ld (.sc (.int .i64)) (.t 108),none⟩,
⟨some 110,.mov (.t 15),none⟩,
⟨some 111,.call 68 [(.t 100),(.t 101),(.t 105),(.t 109),(.t 110)] (.tup [(.sc .bool),(.sc (.int .i64))]),none⟩,
⟨some 98,.mov (.t 111),none⟩,
⟨some 112,.ext 0 (.t 98),none⟩,
⟨some 113,.ext 1 (.t 98),none⟩,
⟨some 16,.mov (.t 112),none⟩,
⟨some 17,.mov (.t 113),none⟩] [1,2,10,15,16,17]) (.seq (.seq (.reg [⟨some 114,.mov (.t 17),none⟩,
⟨some 115,.cmp .neq (.t 114) (.c (Go.Value.int Go.IntKind.i64 0)),none⟩] [1,2,10,15,16,17,115]) (.cond (.t 115) (.seq (.reg [⟨some 116,.mov (.t 17),none⟩,
⟨some 6,.mov (.c (Go.Value.bool false)),none⟩,
⟨some 7,.mov (.t 116),none⟩] [6,7]) .ret) .skip)) (.seq (.reg [⟨some 117,.mov (.t 16),none⟩] [1,2,10,15,117]) (.cond (.t 117) (.seq (.reg [⟨some 119,.fad 2 (.t 10),none⟩,
⟨some 120,.ld (.sc .ptr) (.t 119),none⟩,
⟨some 121,.mov (.t 2),none⟩,
⟨some 122,.nilc (.t 121),none⟩,
⟨some 123,.fad 1 (.t 122),none⟩,
⟨some 124,.ld (.sc (.int .i64)) (.t 123),none⟩,
⟨some 125,.mov (.t 2),none⟩,
⟨some 126,.nilc (.t 125),none⟩,
⟨some 127,.fad 2 (.t 126),none⟩,
⟨some 128,.ld (.sc (.int .i64)) (.t 127),none⟩,
⟨some 129,.call 69 [(.t 120),(.t 124),(.t 128)] (.tup [(.sc (.int .i64)),(.sc .bool)]),none⟩,
⟨some 118,.mov (.t 129),none⟩,
⟨some 130,.ext 0 (.t 118),none⟩,
⟨some 131,.ext 1 (.t 118),none⟩,
⟨some 18,.mov (.t 130),none⟩,
⟨some 19,.mov (.t 131),none⟩] [2,10,18]) (.seq (.frz 10 (.reg [⟨some 132,.mov (.t 2),none⟩,
⟨some 133,.mov (.t 2),none⟩,
⟨some 134,.fad 0 (.t 10),none⟩,
⟨some 135,.ldr (.sc (.int .i64)) (.t 134),none⟩,
⟨some 136,.mov (.t 18),none⟩,
⟨some 137,.bin .sub .i64 (.t 135) (.t 136),none⟩,
⟨some 138,.nilc (.t 132),none⟩,
⟨some 139,.fad 3 (.t 138),none⟩,
⟨none,.st 1 (.t 139) (.c (Go.Value.bool true)),none⟩,
⟨some 140,.nilc (.t 133),none⟩,
⟨some 141,.fad 4 (.t 140),none⟩,
⟨none,.st 1 (.t 141) (.t 137),none⟩] [])) (.seq (.reg [⟨some 6,.mov (.c (Go.Value.bool true)),none⟩,
⟨some 7,.mov (.c (Go.Value.int Go.IntKind.i64 0)),none⟩] [6,7]) .ret))) .skip))))) (.reg [⟨some 96,.mov (.t 15),none⟩,
⟨some 97,.bin .add .i64 (.t 96) (.c (Go.Value.int Go.IntKind.i64 1)),none⟩,
⟨some 15,.mov (.t 97),none⟩] [1,2,10,15])))
def pkthead_State_contributes_i1:IC:=(.seq (.reg [⟨some 70,.fad 1 (.t 10),none⟩,
⟨some 71,.ld (.sc .ptr) (.t 70),none⟩,
⟨some 72,.mov (.t 2),none⟩,
⟨some 73,.nilc (.t 72),none⟩,
⟨some 74,.fad 1 (.t 73),none⟩,
⟨some 75,.ld (.sc (.int .i64)) (.t 74),none⟩,
⟨some 76,.mov (.t 2),none⟩,
⟨some 77,.nilc (.t 76),none⟩,
⟨some 78,.fad 2 (.t 77),none⟩,
⟨some 79,.ld (.sc (.int .i64)) (.t 78),none⟩,
⟨some 80,.call 69 [(.t 71),(.t 75),(.t 79)] (.tup [(.sc (.int .i64)),(.sc .bool)]),none⟩,
⟨some 69,.mov (.t 80),none⟩,
⟨some 81,.ext 0 (.t 69),none⟩,
⟨some 82,.ext 1 (.t 69),none⟩,
⟨some 13,.mov (.t 81),none⟩,
⟨some 14,.mov (.t 82),none⟩] [0,1,2,10,13,14]) (.seq (.reg [⟨some 83,.mov (.t 14),none⟩,
⟨some 84,.mov (.t 83),none⟩,
⟨some 85,.mov (.t 13),some (84,true)⟩,
⟨some 86,.mov (.t 0),some (84,true)⟩,
⟨some 87,.nilc (.t 86),some (84,true)⟩,
⟨some 88,.fad 10 (.t 87),some (84,true)⟩,
⟨some 89,.ld (.sc (.int .i64)) (.t 88),some (84,true)⟩,
⟨some 90,.cmp .lss (.t 85) (.t 89),some (84,true)⟩,
⟨some 91,.pick (.t 84) (.t 90) (.c (Go.Value.bool false)),none⟩] [1,2,10,91]) (.cond (.t 91) (.seq (.reg [⟨some 6,.mov (.c (Go.Value.bool false)),none⟩,
⟨some 7,.mov (.c (Go.Value.int Go.IntKind.i64 15)),none⟩] [6,7]) .ret) .skip)))
def pkthead_State_contributes_i0:IC:=(.seq (.reg [⟨some 62,.mov (.t 12),none⟩,
⟨some 63,.cmp .neq (.t 62) (.c (Go.Value.int Go.IntKind.i64 0)),none⟩,
⟨some 64,.mov (.t 63),none⟩,
⟨some 65,.mov (.t 11),some (64,false)⟩,
⟨some 66,.lnot (.t 65),some (64,false)⟩,
⟨some 67,.pick (.t 64) (.c (Go.Value.bool true)) (.t 66),none⟩] [0,1,2,10,12,67]) (.cond (.t 67) (.seq (.reg [⟨some 68,.mov (.t 12),none⟩,
⟨some 6,.mov (.c (Go.Value.bool false)),none⟩,
⟨some 7,.mov (.t 68),none⟩] [6,7]) .ret) .skip))
def pkthead_State_contributes_f:IFn:=⟨142,[.t 6,.t 7],(.seq (.reg [⟨some 6,.mov (.c (Go.Value.bool false)),none⟩,
⟨some 7,.mov (.c (Go.Value.int Go.IntKind.i64 0)),none⟩] [0,1,2]) (.seq (.seq (.reg [⟨some 20,.mov (.t 2),none⟩,
⟨some 21,.nilc (.t 20),none⟩,
⟨some 22,.fad 3 (.t 21),none⟩,
⟨some 23,.ld (.sc .bool) (.t 22),none⟩] [0,1,2,23]) (.cond (.t 23) (.seq (.reg [⟨some 25,.mov (.t 1),none⟩,
⟨some 26,.call 45 [(.t 25)] (.tup [(.sc (.int .i64)),(.sc (.int .i64))]),none⟩,
⟨some 24,.mov (.t 26),none⟩,
⟨some 27,.ext 0 (.t 24),none⟩,
⟨some 28,.ext 1 (.t 24),none⟩,
⟨some 8,.mov (.t 27),none⟩,
⟨some 9,.mov (.t 28),none⟩] [8,9]) (.seq (.reg [⟨some 29,.mov (.t 8),none⟩,
⟨some 30,.cmp .eql (.t 29) (.c (Go.Value.int Go.IntKind.i64 1)),none⟩,
⟨some 31,.mov (.t 9),none⟩,
⟨some 6,.mov (.t 30),none⟩,
⟨some 7,.mov (.t 31),none⟩] [6,7]) .ret)) .skip)) (.seq (.reg [⟨some 32,.mov (.t 0),none⟩,
⟨some 33,.nilc (.t 32),none⟩,
⟨some 34,.fad 8 (.t 33),none⟩,
⟨some 35,.ld (.sc .slc) (.t 34),none⟩,
⟨some 36,.mov (.t 2),none⟩,
⟨some 37,.nilc (.t 36),none⟩,
⟨some 38,.fad 0 (.t 37),none⟩,
⟨some 39,.ld (.sc (.int .i64)) (.t 38),none⟩,
⟨some 40,.ids 3 (.t 35) (.t 39),none⟩,
⟨some 41,.ld (.agg [(.int .i64),.ptr,.ptr]) (.t 40),none⟩,
⟨some 10,.alc [.int .i64 0,.pointer none,.pointer none],none⟩,
⟨none,.st 3 (.t 10) (.t 41),none⟩] [0,1,2,10]) (.seq (.reg [⟨some 43,.fad 1 (.t 10),none⟩,
⟨some 44,.ld (.sc .ptr) (.t 43),none⟩,
⟨some 45,.mov (.t 1),none⟩,
⟨some 46,.mov (.t 2),none⟩,
⟨some 47,.nilc (.t 46),none⟩,
⟨some 48,.fad 1 (.t 47),none⟩,
⟨some 49,.ld (.sc (.int .i64)) (.t 48),none⟩,
⟨some 50,.mov (.t 2),none⟩,
⟨some 51,.nilc (.t 50),none⟩,
⟨some 52,.fad 2 (.t 51),none⟩,
⟨some 53,.ld (.sc (.int .i64)) (.t 52),none⟩,
⟨some 54,.mov (.t 0),none⟩,
⟨some 55,.nilc (.t 54),none⟩,
⟨some 56,.fad 10 (.t 55),none⟩,
⟨some 57,.ld (.sc (.int .i64)) (.t 56),none⟩,
⟨some 58,.bin .add .i64 (.t 57) (.c (Go.Value.int Go.IntKind.i64 1)),none⟩,
⟨some 59,.call 68 [(.t 44),(.t 45),(.t 49),(.t 53),(.t 58)] (.tup [(.sc .bool),(.sc (.int .i64))]),none⟩,
⟨some 42,.mov (.t 59),none⟩,
⟨some 60,.ext 0 (.t 42),none⟩,
⟨some 61,.ext 1 (.t 42),none⟩,
⟨some 11,.mov (.t 60),none⟩,
⟨some 12,.mov (.t 61),none⟩] [0,1,2,10,11,12]) (.seq (.opq 0 [0,1,2,10,11,12] pkthead_State_contributes_i0) (.seq (.opq 1 [0,1,2,10] pkthead_State_contributes_i1) (.seq (.seq (.reg [⟨some 15,.mov (.c (Go.Value.int Go.IntKind.i64 1)),none⟩] [1,2,10,15]) (.block 0 (.opq 2 [1,2,10,15] (.loop pkthead_State_contributes_i2)))) (.seq (.reg [⟨some 6,.mov (.c (Go.Value.bool false)),none⟩,
⟨some 7,.mov (.c (Go.Value.int Go.IntKind.i64 15)),none⟩] [6,7]) .ret))))))))⟩
theorem pkthead_State_contributes_e2 {R:Type} (bitio_Reader_Get:bitio_Reader_Get_t R) (tagtree_Tree_Decode:tagtree_Tree_Decode_t R) (tagtree_Tree_Value:tagtree_Tree_Value_t R) (pkthead_State_contributes_p0:pkthead_State_contributes_p0_t R) (pkthead_State_contributes_p1:pkthead_State_contributes_p1_t R) (pkthead_State_contributes_l2:pkthead_State_contributes_l2_t R) (k n:Nat) (p888:Oa) (p889:Oa) (p890:Oa) (n891:Int) (H:Heap) (K:Xit → Env → Heap → Option R):evJ (pkthead_State_contributes_Ct bitio_Reader_Get tagtree_Tree_Decode tagtree_Tree_Value) (pkthead_State_contributes_Jt k pkthead_State_contributes_p0 pkthead_State_contributes_p1 pkthead_State_contributes_l2) pkthead_State_contributes_i2 (List.zip [1,2,10,15] [.pointer p888,.pointer p889,.pointer p890,.int .i64 n891]) H (fun x e' H' => match x with | .normal => pkthead_State_contributes_aa2 pkthead_State_contributes_l2 n ((clean e' [1,2,10,15]).map (·.2)) H' K | x => K x (clean e' ((⟨[],[(0,[])],[6,7]⟩:Out).of x)) H') = pkthead_State_contributes_l2_b tagtree_Tree_Decode tagtree_Tree_Value (pkthead_State_contributes_l2 (fun H => K (.exit 0) [] H) (fun t1648 n1649 H => K .ret [(6,.bool t1648),(7,.int .i64 n1649)] H) n) (fun H => K (.exit 0) [] H) (fun t1648 n1649 H => K .ret [(6,.bool t1648),(7,.int .i64 n1649)] H) k p888 p889 p890 n891 H:=by kernel_rfl
theorem pkthead_State_contributes_j2 {R:Type} (k:Nat):JS Try.prog 142 (pkthead_State_contributes_a2 R k k) [1,2,10,15] ⟨[],[(0,[])],[6,7]⟩ (.loop (sel [1,1,1,1,1,1,0,1,0,0] (Try.f46.body.getD .skip))) :=
  loop_ok (nt:=142) (c:=(sel [1,1,1,1,1,1,0,1,0,0] (Try.f46.body.getD .skip))) (C:=pkthead_State_contributes_C R k) (an:=An) (t:=(.seq (.seq (.reg [1,2,10,15,95] []) (.cond .leaf .leaf)) (.seq (.node (.seq (.reg [1,2,10,15,16,17] [[],[0],[],[],[3],[3,4],[3,4,5],[],[7],[7,8],[7,8,9],[],[0,1,2,3,4,5,6,7,8,9,10,11],[0,1,2,3,4,5,6,7,8,9,10,11,12],[0,1,2,3,4,5,6,7,8,9,10,11,12,13],[0,1,2,3,4,5,6,7,8,9,10,11,12,13],[0,1,2,3,4,5,6,7,8,9,10,11,12,13,14],[0,1,2,3,4,5,6,7,8,9,10,11,12,13,14,15,16]]) (.seq (.seq (.reg [1,2,10,15,16,17,115] []) (.cond (.seq (.reg [6,7] []) .leaf) .leaf)) (.seq (.reg [1,2,10,15,117] []) (.cond (.seq (.reg [2,10,18] [[],[0],[],[2],[2,3],[2,3,4],[],[6],[6,7],[6,7,8],[0,1,2,3,4,5,6,7,8,9],[0,1,2,3,4,5,6,7,8,9,10],[0,1,2,3,4,5,6,7,8,9,10,11],[0,1,2,3,4,5,6,7,8,9,10,11],[0,1,2,3,4,5,6,7,8,9,10,11,12],[0,1,2,3,4,5,6,7,8,9,10,11,12,13,14]]) (.seq (.frz 10 (.reg [] [[],[],[],[2],[],[2,3,4],[0],[0,6],[0,6,7],[0,1,2,3,4,5,6,7,8],[0,1,2,3,4,5,6,7,8,9],[0,1,2,3,4,5,6,7,8,9,10]])) (.seq (.reg [6,7] []) .leaf))) .leaf))))) (.reg [1,2,10,15] [])))) (ic:=pkthead_State_contributes_i2) (pkthead_State_contributes_S R k) (pkthead_State_contributes_J R k) (by kernel_rfl) (And.intro (And.intro True.intro (And.intro True.intro True.intro)) (And.intro (And.intro True.intro (And.intro (And.intro True.intro (And.intro (And.intro True.intro True.intro) True.intro)) (And.intro True.intro (And.intro (And.intro True.intro (And.intro True.intro (And.intro True.intro True.intro))) True.intro)))) True.intro)) (pkthead_State_contributes_a2 R k) (fun vals H K => by unfold pkthead_State_contributes_a2 pkthead_State_contributes_aa2; split <;> rfl)
    (fun n vals H K r h => by
      unfold pkthead_State_contributes_a2 pkthead_State_contributes_aa2 at h
      split at h <;> first | (cases h; done) | exact Eq.trans (pkthead_State_contributes_e2 (bitio_Reader_Get k) (tagtree_Tree_Decode k) (tagtree_Tree_Value k) (pkthead_State_contributes_p0 k) (pkthead_State_contributes_p1 k) (pkthead_State_contributes_l2 k) k n _ _ _ _ H K) h) k
theorem pkthead_State_contributes_e1 {R:Type} (bitio_Reader_Get:bitio_Reader_Get_t R) (tagtree_Tree_Decode:tagtree_Tree_Decode_t R) (tagtree_Tree_Value:tagtree_Tree_Value_t R) (pkthead_State_contributes_p0:pkthead_State_contributes_p0_t R) (pkthead_State_contributes_p1:pkthead_State_contributes_p1_t R) (pkthead_State_contributes_l2:pkthead_State_contributes_l2_t R) (k:Nat) (p861:Oa) (p862:Oa) (p863:Oa) (p864:Oa) (H:Heap) (K:Xit → Env → Heap → Option R):evJ (pkthead_State_contributes_Ct bitio_Reader_Get tagtree_Tree_Decode tagtree_Tree_Value) (pkthead_State_contributes_Jt k pkthead_State_contributes_p0 pkthead_State_contributes_p1 pkthead_State_contributes_l2) pkthead_State_contributes_i1 (List.zip [0,1,2,10] [.pointer p861,.pointer p862,.pointer p863,.pointer p864]) H (fun x e' H' => K x (clean e' ((⟨[1,2,10],[],[6,7]⟩:Out).of x)) H') = pkthead_State_contributes_p1_b tagtree_Tree_Value k p861 p862 p863 p864 H (fun p1643 p1644 p1645 H => K .normal [(1,.pointer p1643),(2,.pointer p1644),(10,.pointer p1645)] H) (fun t1646 n1647 H => K .ret [(6,.bool t1646),(7,.int .i64 n1647)] H):=by kernel_rfl
theorem pkthead_State_contributes_j1 {R:Type} (k:Nat):JS Try.prog 142 (pkthead_State_contributes_a1 R k k) [0,1,2,10] ⟨[1,2,10],[],[6,7]⟩ (sel [1,1,1,1,1,0] (Try.f46.body.getD .skip)) :=
  piece_ok (nt:=142) (c:=(sel [1,1,1,1,1,0] (Try.f46.body.getD .skip))) (C:=pkthead_State_contributes_C R k) (an:=An) (t:=(.seq (.reg [0,1,2,10,13,14] [[],[0],[],[2],[2,3],[2,3,4],[],[6],[6,7],[6,7,8],[0,1,2,3,4,5,6,7,8,9],[0,1,2,3,4,5,6,7,8,9,10],[0,1,2,3,4,5,6,7,8,9,10,11],[0,1,2,3,4,5,6,7,8,9,10,11],[0,1,2,3,4,5,6,7,8,9,10,11,12],[0,1,2,3,4,5,6,7,8,9,10,11,12,13,14]]) (.seq (.reg [1,2,10,91] []) (.cond (.seq (.reg [6,7] []) .leaf) .leaf)))) (ic:=pkthead_State_contributes_i1) (pkthead_State_contributes_S R k) (pkthead_State_contributes_J R k) (by kernel_rfl) (And.intro True.intro (And.intro True.intro (And.intro (And.intro True.intro True.intro) True.intro))) (pkthead_State_contributes_a1 R k k)
    (fun vals H K r h => by
      unfold pkthead_State_contributes_a1 pkthead_State_contributes_aa1 at h
      split at h <;> first | (cases h; done) | exact Eq.trans (pkthead_State_contributes_e1 (bitio_Reader_Get k) (tagtree_Tree_Decode k) (tagtree_Tree_Value k) (pkthead_State_contributes_p0 k) (pkthead_State_contributes_p1 k) (pkthead_State_contributes_l2 k) k _ _ _ _ H K) h)
theorem pkthead_State_contributes_e0 {R:Type} (bitio_Reader_Get:bitio_Reader_Get_t R) (tagtree_Tree_Decode:tagtree_Tree_Decode_t R) (tagtree_Tree_Value:tagtree_Tree_Value_t R) (pkthead_State_contributes_p0:pkthead_State_contributes_p0_t R) (pkthead_State_contributes_p1:pkthead_State_contributes_p1_t R) (pkthead_State_contributes_l2:pkthead_State_contributes_l2_t R) (k:Nat) (p845:Oa) (p846:Oa) (p847:Oa) (p848:Oa) (t849:Bool) (n850:Int) (H:Heap) (K:Xit → Env → Heap → Option R):evJ (pkthead_State_contributes_Ct bitio_Reader_Get tagtree_Tree_Decode tagtree_Tree_Value) (pkthead_State_contributes_Jt k pkthead_State_contributes_p0 pkthead_State_contributes_p1 pkthead_State_contributes_l2) pkthead_State_contributes_i0 (List.zip [0,1,2,10,11,12] [.pointer p845,.pointer p846,.pointer p847,.pointer p848,.bool t849,.int .i64 n850]) H (fun x e' H' => K x (clean e' ((⟨[0,1,2,10],[],[6,7]⟩:Out).of x)) H') = pkthead_State_contributes_p0_b k p845 p846 p847 p848 t849 n850 (fun p1637 p1638 p1639 p1640 => K .normal [(0,.pointer p1637),(1,.pointer p1638),(2,.pointer p1639),(10,.pointer p1640)] H) (fun t1641 n1642 => K .ret [(6,.bool t1641),(7,.int .i64 n1642)] H):=by kernel_rfl
theorem pkthead_State_contributes_j0 {R:Type} (k:Nat):JS Try.prog 142 (pkthead_State_contributes_a0 R k k) [0,1,2,10,11,12] ⟨[0,1,2,10],[],[6,7]⟩ (sel [1,1,1,1,0] (Try.f46.body.getD .skip)) :=
  piece_ok (nt:=142) (c:=(sel [1,1,1,1,0] (Try.f46.body.getD .skip))) (C:=pkthead_State_contributes_C R k) (an:=An) (t:=(.seq (.reg [0,1,2,10,12,67] []) (.cond (.seq (.reg [6,7] []) .leaf) .leaf))) (ic:=pkthead_State_contributes_i0) (pkthead_State_contributes_S R k) (pkthead_State_contributes_J R k) (by kernel_rfl) (And.intro True.intro (And.intro (And.intro True.intro True.intro) True.intro)) (pkthead_State_contributes_a0 R k k)
    (fun vals H K r h => by
      unfold pkthead_State_contributes_a0 pkthead_State_contributes_aa0 at h
      split at h <;> first | (cases h; done) | exact Eq.trans (pkthead_State_contributes_e0 (bitio_Reader_Get k) (tagtree_Tree_Decode k) (tagtree_Tree_Value k) (pkthead_State_contributes_p0 k) (pkthead_State_contributes_p1 k) (pkthead_State_contributes_l2 k) k _ _ _ _ _ _ H K) h)
def pkthead_State_contributes_ca {R:Type} (f:pkthead_State_contributes_t R) (args:List Value) (H:Heap) (K:Value → Heap → Option R):Option R :=
  match args with
  | [.pointer p807,.pointer p808,.pointer p809] => f p807 p808 p809 H (fun t1650 n1651 H => K (.tuple ⟨[.bool t1650,.int .i64 n1651]⟩) H)
  | _ => none
def pkthead_State_contributes_c (R:Type) (k:Nat) (args:List Value) (H:Heap) (K:Value → Heap → Option R):Option R:=pkthead_State_contributes_ca (pkthead_State_contributes k) args H K
theorem pkthead_State_contributes_e {R:Type} (bitio_Reader_Get:bitio_Reader_Get_t R) (tagtree_Tree_Decode:tagtree_Tree_Decode_t R) (tagtree_Tree_Value:tagtree_Tree_Value_t R) (pkthead_State_contributes_p0:pkthead_State_contributes_p0_t R) (pkthead_State_contributes_p1:pkthead_State_contributes_p1_t R) (pkthead_State_contributes_l2:pkthead_State_contributes_l2_t R) (k:Nat) (p807:Oa) (p808:Oa) (p809:Oa) (H:Heap) (K:Value → Heap → Option R):evF (pkthead_State_contributes_Ct bitio_Reader_Get tagtree_Tree_Decode tagtree_Tree_Value) (pkthead_State_contributes_Jt k pkthead_State_contributes_p0 pkthead_State_contributes_p1 pkthead_State_contributes_l2) pkthead_State_contributes_f [.pointer p807,.pointer p808,.pointer p809] H K = pkthead_State_contributes_b bitio_Reader_Get tagtree_Tree_Decode pkthead_State_contributes_p0 pkthead_State_contributes_p1 pkthead_State_contributes_l2 k p807 p808 p809 H (fun t1650 n1651 H => K (.tuple ⟨[.bool t1650,.int .i64 n1651]⟩) H):=by kernel_rfl
theorem pkthead_State_contributes_cs (R:Type) (k:Nat):∀ args H K r,pkthead_State_contributes_c R k args H K = some r → ∃ v H',Tri Try.prog 46 args H v H' ∧ K v H' = some r:=by
  intro args H K r h
  unfold pkthead_State_contributes_c pkthead_State_contributes_ca at h
  split at h
  · exact evF_ok (C:=pkthead_State_contributes_C R k) (an:=An) (t:=pkthead_State_contributes_at) (fn:=Try.f46) (c:=(Try.f46.body.getD .skip)) (ifn:=pkthead_State_contributes_f) (pkthead_State_contributes_S R k) (pkthead_State_contributes_J R k) Try.func46 (by kernel_rfl) (by kernel_rfl) (And.intro True.intro (And.intro (And.intro True.intro (And.intro (And.intro True.intro (And.intro True.intro True.intro)) True.intro)) (And.intro True.intro (And.intro True.intro (And.intro (pkthead_State_contributes_j0 k) (And.intro (pkthead_State_contributes_j1 k) (And.intro (And.intro True.intro (pkthead_State_contributes_j2 k)) (And.intro True.intro True.intro)))))))) rfl (Eq.trans (pkthead_State_contributes_e (bitio_Reader_Get k) (tagtree_Tree_Decode k) (tagtree_Tree_Value k) (pkthead_State_contributes_p0 k) (pkthead_State_contributes_p1 k) (pkthead_State_contributes_l2 k) k _ _ _ H K) h)
  · cases h
end Go.Proofs.Ytmanlfonppfhaaa.Sh
