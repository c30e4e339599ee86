/- Lean functions that stand for Go's,over an explicit heap,and the proofs that they do (written by this claim's program shallow.py). -/
import Derived.Test.YtmanlfonppfhaaaSh0
set_option maxRecDepth 100000
set_option linter.unusedVariables false
set_option linter.unusedSimpArgs false
namespace Go.Proofs.Ytmanlfonppfhaaa.Sh
open Go.Proofs.Ytmanlfonppfhaaa.FW
abbrev R14_Segments_p0_t (R:Type):Type:=Int → Oa → (Int → Oa → Option R) → (Oa → Nat → Nat → Option R) → Option R
def R14_Segments_p0_b {R:Type} (k:Nat) (n856:Int) (p857:Oa) (KN:Int → Oa → Option R) (KR:Oa → Nat → Nat → Option R):Option R :=
bif decide (n856 < 1) then (KR none 0 0)
 else (bif decide (n856 > 178) then (KR none 0 0)
 else (KN n856 p857))
def R14_Segments_p0 {R:Type} (k:Nat) (n856:Int) (p857:Oa) (KN:Int → Oa → Option R) (KR:Oa → Nat → Nat → Option R):Option R:=R14_Segments_p0_b k n856 p857 KN KR
abbrev R14_Segments_p3_t (R:Type):Type:=Oa → Oa → Nat → Nat → Int → Int → Heap → (Oa → Oa → Nat → Nat → Int → Int → Bool → Option R) → Option R
def R14_Segments_p3_b {R:Type} (k:Nat) (p878:Oa) (q879:Oa) (l880:Nat) (c881:Nat) (n882:Int) (n883:Int) (H:Heap) (KN:Oa → Oa → Nat → Nat → Int → Int → Bool → Option R):Option R :=
hfad 0 p878 fun p884 =>
ldB H p884 fun t885 =>
bif t885 then (KN p878 q879 l880 c881 n882 n883 (((l880:Nat):Int) == 0))
 else (KN p878 q879 l880 c881 n882 n883 false)
def R14_Segments_p3 {R:Type} (k:Nat) (p878:Oa) (q879:Oa) (l880:Nat) (c881:Nat) (n882:Int) (n883:Int) (H:Heap) (KN:Oa → Oa → Nat → Nat → Int → Int → Bool → Option R):Option R:=R14_Segments_p3_b k p878 q879 l880 c881 n882 n883 H KN
abbrev R14_Segments_p2_t (R:Type):Type:=Oa → Oa → Nat → Nat → Int → Int → Heap → (Oa → Oa → Nat → Nat → Int → Int → Option R) → Option R
def R14_Segments_p2_b {R:Type} (R14_Segments_p3:R14_Segments_p3_t R) (k:Nat) (p870:Oa) (q871:Oa) (l872:Nat) (c873:Nat) (n874:Int) (n875:Int) (H:Heap) (KN:Oa → Oa → Nat → Nat → Int → Int → Option R):Option R :=
hfad 1 p870 fun p876 =>
ldB H p876 fun t877 =>
bif t877 then (KN p870 q871 l872 c873 n874 1)
 else (R14_Segments_p3 p870 q871 l872 c873 n874 n875 H (fun p893 q894 l895 c896 n897 n898 t899 =>
bif t899 then (KN p893 q894 l895 c896 n897 (imn n897 10))
 else (hfad 0 p893 fun p900 =>
ldB H p900 fun t901 =>
bif t901 then (KN p893 q894 l895 c896 n897 (imn n897 (IntKind.wrap .i64 (1 + (Int.tmod ((l895:Nat):Int) 2)))))
 else (KN p893 q894 l895 c896 n897 n898))))
def R14_Segments_p2 {R:Type} (k:Nat) (p870:Oa) (q871:Oa) (l872:Nat) (c873:Nat) (n874:Int) (n875:Int) (H:Heap) (KN:Oa → Oa → Nat → Nat → Int → Int → Option R):Option R:=R14_Segments_p2_b (R14_Segments_p3 k) k p870 q871 l872 c873 n874 n875 H KN
abbrev R14_Segments_l1_t (R:Type):Type:=(Oa → Nat → Nat → Heap → Option R) → Nat → Oa → Oa → Nat → Nat → Int → Heap → Option R
def R14_Segments_l1_b {R:Type} (R14_Segments_p2:R14_Segments_p2_t R) (rec:Oa → Oa → Nat → Nat → Int → Heap → Option R) (KE0:Oa → Nat → Nat → Heap → Option R) (k:Nat) (p865:Oa) (q866:Oa) (l867:Nat) (c868:Nat) (n869:Int) (H:Heap):Option R :=
bif decide (n869 > 0) then (R14_Segments_p2 p865 q866 l867 c868 n869 n869 H (fun p908 q909 l910 c911 n912 n913 =>
hal H [.int .i64 n913] fun p914 H915 =>
happS 1 8 H915 q909 l910 c911 p914 1 fun q916 l917 c918 H919 =>
rec p908 q916 l917 c918 (IntKind.wrap .i64 (n912 - n913)) H919))
 else (KE0 q866 l867 c868 H)
def R14_Segments_l1 {R:Type} (k:Nat) (KE0:Oa → Nat → Nat → Heap → Option R):Nat → Oa → Oa → Nat → Nat → Int → Heap → Option R
  | 0,_,_,_,_,_,_ => none
  | n + 1,p865,q866,l867,c868,n869,H => R14_Segments_l1_b (R14_Segments_p2 k) (R14_Segments_l1 k KE0 n) KE0 k p865 q866 l867 c868 n869 H
abbrev R14_Segments_t (R:Type):Type:=Int → Bool → Bool → Bool → Bool → Bool → Heap → (Oa → Nat → Nat → Heap → Option R) → Option R
def R14_Segments_b {R:Type} (R14_Segments_p0:R14_Segments_p0_t R) (R14_Segments_l1:R14_Segments_l1_t R) (k:Nat) (n848:Int) (t849:Bool) (t850:Bool) (t851:Bool) (t852:Bool) (t853:Bool) (H:Heap) (K:Oa → Nat → Nat → Heap → Option R):Option R :=
hal H [.bool t849,.bool t850,.bool t851,.bool t852,.bool t853] fun p854 H855 =>
R14_Segments_p0 n848 p854 (fun n863 p864 =>
R14_Segments_l1 (fun q923 l924 c925 H926 =>
K q923 l924 c925 H926) k p864 none 0 0 n863 H855) (fun q927 l928 c929 =>
K q927 l928 c929 H855)
def R14_Segments {R:Type} (k:Nat) (n848:Int) (t849:Bool) (t850:Bool) (t851:Bool) (t852:Bool) (t853:Bool) (H:Heap) (K:Oa → Nat → Nat → Heap → Option R):Option R:=R14_Segments_b (R14_Segments_p0 k) (R14_Segments_l1 k) k n848 t849 t850 t851 t852 t853 H K
def R14_Segments_Ct {R:Type}:Tab R:=fun _ _ _ _ => none
def R14_Segments_C (R:Type) (k:Nat):Tab R:=R14_Segments_Ct
theorem R14_Segments_S (R:Type) (k:Nat):CSound Try.prog (R14_Segments_C R k):=csound_nil
def R14_Segments_aa0 {R:Type} (f:R14_Segments_p0_t R) (n:Nat) (vals:List Value) (H:Heap) (K:Xit → Env → Heap → Option R):Option R :=
  match vals with
  | [.int .i64 n856,.pointer p857] => f n856 p857 (fun n1853 p1854 => K .normal [(0,.int .i64 n1853),(3,.pointer p1854)] H) (fun q1855 l1856 c1857 => K .ret [(4,.slice q1855 l1856 c1857)] H)
  | _ => none
def R14_Segments_a0 (R:Type) (k n:Nat) (vals:List Value) (H:Heap) (K:Xit → Env → Heap → Option R):Option R:=R14_Segments_aa0 (R14_Segments_p0 k) n vals H K
def R14_Segments_aa1 {R:Type} (f:R14_Segments_l1_t R) (n:Nat) (vals:List Value) (H:Heap) (K:Xit → Env → Heap → Option R):Option R :=
  match vals with
  | [.pointer p865,.slice q866 l867 c868,.int .i64 n869] => f (fun q1858 l1859 c1860 H => K (.exit 0) [(5,.slice q1858 l1859 c1860)] H) n p865 q866 l867 c868 n869 H
  | _ => none
def R14_Segments_a1 (R:Type) (k n:Nat) (vals:List Value) (H:Heap) (K:Xit → Env → Heap → Option R):Option R:=R14_Segments_aa1 (R14_Segments_l1 k) n vals H K
def R14_Segments_aa2 {R:Type} (f:R14_Segments_p2_t R) (n:Nat) (vals:List Value) (H:Heap) (K:Xit → Env → Heap → Option R):Option R :=
  match vals with
  | [.pointer p870,.slice q871 l872 c873,.int .i64 n874,.int .i64 n875] => f p870 q871 l872 c873 n874 n875 H (fun p1861 q1862 l1863 c1864 n1865 n1866 => K .normal [(3,.pointer p1861),(5,.slice q1862 l1863 c1864),(6,.int .i64 n1865),(7,.int .i64 n1866)] H)
  | _ => none
def R14_Segments_a2 (R:Type) (k n:Nat) (vals:List Value) (H:Heap) (K:Xit → Env → Heap → Option R):Option R:=R14_Segments_aa2 (R14_Segments_p2 k) n vals H K
def R14_Segments_aa3 {R:Type} (f:R14_Segments_p3_t R) (n:Nat) (vals:List Value) (H:Heap) (K:Xit → Env → Heap → Option R):Option R :=
  match vals with
  | [.pointer p878,.slice q879 l880 c881,.int .i64 n882,.int .i64 n883] => f p878 q879 l880 c881 n882 n883 H (fun p1867 q1868 l1869 c1870 n1871 n1872 t1873 => K .normal [(3,.pointer p1867),(5,.slice q1868 l1869 c1870),(6,.int .i64 n1871),(7,.int .i64 n1872),(26,.bool t1873)] H)
  | _ => none
def R14_Segments_a3 (R:Type) (k n:Nat) (vals:List Value) (H:Heap) (K:Xit → Env → Heap → Option R):Option R:=R14_Segments_aa3 (R14_Segments_p3 k) n vals H K
def R14_Segments_Jt {R:Type} (k:Nat) (R14_Segments_p0:R14_Segments_p0_t R) (R14_Segments_l1:R14_Segments_l1_t R) (R14_Segments_p2:R14_Segments_p2_t R) (R14_Segments_p3:R14_Segments_p3_t R):JTab R:=tcons 0 (R14_Segments_aa0 R14_Segments_p0 k) <| tcons 1 (R14_Segments_aa1 R14_Segments_l1 k) <| tcons 2 (R14_Segments_aa2 R14_Segments_p2 k) <| tcons 3 (R14_Segments_aa3 R14_Segments_p3 k) <| fun _ _ _ _ => none
def R14_Segments_J (R:Type) (k:Nat):JTab R:=R14_Segments_Jt k (R14_Segments_p0 k) (R14_Segments_l1 k) (R14_Segments_p2 k) (R14_Segments_p3 k)
def R14_Segments_at:AT:=(.seq (.reg [0,3] []) (.seq (.opq 0 [0,3] ⟨[0,3],[],[4]⟩ (.seq (.reg [0,3,13] []) (.cond (.seq (.reg [4] []) .leaf) .leaf))) (.seq (.reg [0,3,5] []) (.seq (.reg [3,5,6] []) (.seq (.node (.opq 1 [3,5,6] ⟨[],[(0,[5])],[]⟩ (.node (.seq (.seq (.reg [3,5,6,16] []) (.cond .leaf .leaf)) (.node (.seq (.reg [3,5,6,7] []) (.seq (.opq 2 [3,5,6,7] ⟨[3,5,6,7],[],[]⟩ (.seq (.reg [3,5,6,7,19] []) (.cond (.reg [3,5,6,7] []) (.seq (.opq 3 [3,5,6,7] ⟨[3,5,6,7,26],[],[]⟩ (.reg [3,5,6,7,26] [])) (.cond (.reg [3,5,6,7] []) (.seq (.reg [3,5,6,7,30] []) (.cond (.reg [3,5,6,7] []) .leaf))))))) (.seq (.reg [3,5,6,7] []) (.reg [3,5,6] []))))))))) (.seq (.reg [4] []) .leaf))))))
def R14_Segments_i3:IC:=(.reg [⟨some 20,.fad 0 (.t 3),none⟩,
⟨some 21,.ld (.sc .bool) (.t 20),none⟩,
⟨some 22,.mov (.t 21),none⟩,
⟨some 23,.mov (.t 5),some (22,true)⟩,
⟨some 24,.len false (.t 23),some (22,true)⟩,
⟨some 25,.cmp .eql (.t 24) (.c (Go.Value.int Go.IntKind.i64 0)),some (22,true)⟩,
⟨some 26,.pick (.t 22) (.t 25) (.c (Go.Value.bool false)),none⟩] [3,5,6,7,26])
def R14_Segments_i2:IC:=(.seq (.reg [⟨some 18,.fad 1 (.t 3),none⟩,
⟨some 19,.ld (.sc .bool) (.t 18),none⟩] [3,5,6,7,19]) (.cond (.t 19) (.reg [⟨some 7,.mov (.c (Go.Value.int Go.IntKind.i64 1)),none⟩] [3,5,6,7]) (.seq (.opq 3 [3,5,6,7] R14_Segments_i3) (.cond (.t 26) (.reg [⟨some 27,.mov (.t 6),none⟩,
⟨some 28,.mn (.t 27) (.c (Go.Value.int Go.IntKind.i64 10)),none⟩,
⟨some 7,.mov (.t 28),none⟩] [3,5,6,7]) (.seq (.reg [⟨some 29,.fad 0 (.t 3),none⟩,
⟨some 30,.ld (.sc .bool) (.t 29),none⟩] [3,5,6,7,30]) (.cond (.t 30) (.reg [⟨some 31,.mov (.t 6),none⟩,
⟨some 32,.mov (.t 5),none⟩,
⟨some 33,.len false (.t 32),none⟩,
⟨some 34,.bin .rem .i64 (.t 33) (.c (Go.Value.int Go.IntKind.i64 2)),none⟩,
⟨some 35,.bin .add .i64 (.c (Go.Value.int Go.IntKind.i64 1)) (.t 34),none⟩,
⟨some 36,.mn (.t 31) (.t 35),none⟩,
⟨some 7,.mov (.t 36),none⟩] [3,5,6,7]) .skip))))))
def R14_Segments_i1:IC:=(.seq (.seq (.reg [⟨some 15,.mov (.t 6),none⟩,
⟨some 16,.cmp .gtr (.t 15) (.c (Go.Value.int Go.IntKind.i64 0)),none⟩] [3,5,6,16]) (.cond (.t 16) .skip (.exit 0))) (.block 1 (.seq (.reg [⟨some 17,.mov (.t 6),none⟩,
⟨some 7,.mov (.t 17),none⟩] [3,5,6,7]) (.seq (.opq 2 [3,5,6,7] R14_Segments_i2) (.seq (.reg [⟨some 37,.mov (.t 5),none⟩,
⟨some 38,.mov (.t 7),none⟩,
⟨some 39,.bls 1 [.int .i64 0] [(0,1,(.t 38))],none⟩,
⟨some 40,.app [.int .i64 0] 8 (.t 37) (.t 39),none⟩,
⟨some 5,.mov (.t 40),none⟩] [3,5,6,7]) (.reg [⟨some 41,.mov (.t 6),none⟩,
⟨some 42,.mov (.t 7),none⟩,
⟨some 43,.bin .sub .i64 (.t 41) (.t 42),none⟩,
⟨some 6,.mov (.t 43),none⟩] [3,5,6]))))))
def R14_Segments_i0:IC:=(.seq (.reg [⟨some 8,.mov (.t 0),none⟩,
⟨some 9,.cmp .lss (.t 8) (.c (Go.Value.int Go.IntKind.i64 1)),none⟩,
⟨some 10,.mov (.t 9),none⟩,
⟨some 11,.mov (.t 0),some (10,false)⟩,
⟨some 12,.cmp .gtr (.t 11) (.c (Go.Value.int Go.IntKind.i64 178)),some (10,false)⟩,
⟨some 13,.pick (.t 10) (.c (Go.Value.bool true)) (.t 12),none⟩] [0,3,13]) (.cond (.t 13) (.seq (.reg [⟨some 4,.mov (.c (Go.Value.slice none 0 0)),none⟩] [4]) .ret) .skip))
def R14_Segments_f:IFn:=⟨45,[.t 4],(.seq (.reg [⟨some 3,.box (.t 1),none⟩,
⟨some 4,.mov (.c (Go.Value.slice none 0 0)),none⟩] [0,3]) (.seq (.opq 0 [0,3] R14_Segments_i0) (.seq (.reg [⟨some 5,.mov (.c (Go.Value.slice none 0 0)),none⟩] [0,3,5]) (.seq (.reg [⟨some 14,.mov (.t 0),none⟩,
⟨some 6,.mov (.t 14),none⟩] [3,5,6]) (.seq (.block 0 (.opq 1 [3,5,6] (.loop R14_Segments_i1))) (.seq (.reg [⟨some 44,.mov (.t 5),none⟩,
⟨some 4,.mov (.t 44),none⟩] [4]) .ret))))))⟩
theorem R14_Segments_e3 {R:Type} (R14_Segments_p0:R14_Segments_p0_t R) (R14_Segments_l1:R14_Segments_l1_t R) (R14_Segments_p2:R14_Segments_p2_t R) (R14_Segments_p3:R14_Segments_p3_t R) (k:Nat) (p878:Oa) (q879:Oa) (l880:Nat) (c881:Nat) (n882:Int) (n883:Int) (H:Heap) (K:Xit → Env → Heap → Option R):evJ (R14_Segments_Ct) (R14_Segments_Jt k R14_Segments_p0 R14_Segments_l1 R14_Segments_p2 R14_Segments_p3) R14_Segments_i3 (List.zip [3,5,6,7] [.pointer p878,.slice q879 l880 c881,.int .i64 n882,.int .i64 n883]) H (fun x e' H' => K x (clean e' ((⟨[3,5,6,7,26],[],[]⟩:Out).of x)) H') = R14_Segments_p3_b k p878 q879 l880 c881 n882 n883 H (fun p1867 q1868 l1869 c1870 n1871 n1872 t1873 => K .normal [(3,.pointer p1867),(5,.slice q1868 l1869 c1870),(6,.int .i64 n1871),(7,.int .i64 n1872),(26,.bool t1873)] H):=by kernel_rfl
theorem R14_Segments_j3 {R:Type} (k:Nat):JS Try.prog 45 (R14_Segments_a3 R k k) [3,5,6,7] ⟨[3,5,6,7,26],[],[]⟩ (sel [1,1,1,1,0,0,0,1,0,1,0,1,1,0] (Try.f36.body.getD .skip)) :=
  piece_ok (nt:=45) (c:=(sel [1,1,1,1,0,0,0,1,0,1,0,1,1,0] (Try.f36.body.getD .skip))) (C:=R14_Segments_C R k) (an:=An) (t:=(.reg [3,5,6,7,26] [])) (ic:=R14_Segments_i3) (R14_Segments_S R k) (R14_Segments_J R k) (by kernel_rfl) True.intro (R14_Segments_a3 R k k)
    (fun vals H K r h => by
      unfold R14_Segments_a3 R14_Segments_aa3 at h
      split at h <;> first | (cases h; done) | exact Eq.trans (R14_Segments_e3 (R14_Segments_p0 k) (R14_Segments_l1 k) (R14_Segments_p2 k) (R14_Segments_p3 k) k _ _ _ _ _ _ H K) h)
theorem R14_Segments_e2 {R:Type} (R14_Segments_p0:R14_Segments_p0_t R) (R14_Segments_l1:R14_Segments_l1_t R) (R14_Segments_p2:R14_Segments_p2_t R) (R14_Segments_p3:R14_Segments_p3_t R) (k:Nat) (p870:Oa) (q871:Oa) (l872:Nat) (c873:Nat) (n874:Int) (n875:Int) (H:Heap) (K:Xit → Env → Heap → Option R):evJ (R14_Segments_Ct) (R14_Segments_Jt k R14_Segments_p0 R14_Segments_l1 R14_Segments_p2 R14_Segments_p3) R14_Segments_i2 (List.zip [3,5,6,7] [.pointer p870,.slice q871 l872 c873,.int .i64 n874,.int .i64 n875]) H (fun x e' H' => K x (clean e' ((⟨[3,5,6,7],[],[]⟩:Out).of x)) H') = R14_Segments_p2_b R14_Segments_p3 k p870 q871 l872 c873 n874 n875 H (fun p1861 q1862 l1863 c1864 n1865 n1866 => K .normal [(3,.pointer p1861),(5,.slice q1862 l1863 c1864),(6,.int .i64 n1865),(7,.int .i64 n1866)] H):=by kernel_rfl
theorem R14_Segments_j2 {R:Type} (k:Nat):JS Try.prog 45 (R14_Segments_a2 R k k) [3,5,6,7] ⟨[3,5,6,7],[],[]⟩ (sel [1,1,1,1,0,0,0,1,0,1,0] (Try.f36.body.getD .skip)) :=
  piece_ok (nt:=45) (c:=(sel [1,1,1,1,0,0,0,1,0,1,0] (Try.f36.body.getD .skip))) (C:=R14_Segments_C R k) (an:=An) (t:=(.seq (.reg [3,5,6,7,19] []) (.cond (.reg [3,5,6,7] []) (.seq (.opq 3 [3,5,6,7] ⟨[3,5,6,7,26],[],[]⟩ (.reg [3,5,6,7,26] [])) (.cond (.reg [3,5,6,7] []) (.seq (.reg [3,5,6,7,30] []) (.cond (.reg [3,5,6,7] []) .leaf))))))) (ic:=R14_Segments_i2) (R14_Segments_S R k) (R14_Segments_J R k) (by kernel_rfl) (And.intro True.intro (And.intro True.intro (And.intro (R14_Segments_j3 k) (And.intro True.intro (And.intro True.intro (And.intro True.intro True.intro)))))) (R14_Segments_a2 R k k)
    (fun vals H K r h => by
      unfold R14_Segments_a2 R14_Segments_aa2 at h
      split at h <;> first | (cases h; done) | exact Eq.trans (R14_Segments_e2 (R14_Segments_p0 k) (R14_Segments_l1 k) (R14_Segments_p2 k) (R14_Segments_p3 k) k _ _ _ _ _ _ H K) h)
theorem R14_Segments_e1 {R:Type} (R14_Segments_p0:R14_Segments_p0_t R) (R14_Segments_l1:R14_Segments_l1_t R) (R14_Segments_p2:R14_Segments_p2_t R) (R14_Segments_p3:R14_Segments_p3_t R) (k n:Nat) (p865:Oa) (q866:Oa) (l867:Nat) (c868:Nat) (n869:Int) (H:Heap) (K:Xit → Env → Heap → Option R):evJ (R14_Segments_Ct) (R14_Segments_Jt k R14_Segments_p0 R14_Segments_l1 R14_Segments_p2 R14_Segments_p3) R14_Segments_i1 (List.zip [3,5,6] [.pointer p865,.slice q866 l867 c868,.int .i64 n869]) H (fun x e' H' => match x with | .normal => R14_Segments_aa1 R14_Segments_l1 n ((clean e' [3,5,6]).map (·.2)) H' K | x => K x (clean e' ((⟨[],[(0,[5])],[]⟩:Out).of x)) H') = R14_Segments_l1_b R14_Segments_p2 (R14_Segments_l1 (fun q1858 l1859 c1860 H => K (.exit 0) [(5,.slice q1858 l1859 c1860)] H) n) (fun q1858 l1859 c1860 H => K (.exit 0) [(5,.slice q1858 l1859 c1860)] H) k p865 q866 l867 c868 n869 H:=by kernel_rfl
theorem R14_Segments_j1 {R:Type} (k:Nat):JS Try.prog 45 (R14_Segments_a1 R k k) [3,5,6] ⟨[],[(0,[5])],[]⟩ (.loop (sel [1,1,1,1,0,0,0] (Try.f36.body.getD .skip))) :=
  loop_ok (nt:=45) (c:=(sel [1,1,1,1,0,0,0] (Try.f36.body.getD .skip))) (C:=R14_Segments_C R k) (an:=An) (t:=(.seq (.seq (.reg [3,5,6,16] []) (.cond .leaf .leaf)) (.node (.seq (.reg [3,5,6,7] []) (.seq (.opq 2 [3,5,6,7] ⟨[3,5,6,7],[],[]⟩ (.seq (.reg [3,5,6,7,19] []) (.cond (.reg [3,5,6,7] []) (.seq (.opq 3 [3,5,6,7] ⟨[3,5,6,7,26],[],[]⟩ (.reg [3,5,6,7,26] [])) (.cond (.reg [3,5,6,7] []) (.seq (.reg [3,5,6,7,30] []) (.cond (.reg [3,5,6,7] []) .leaf))))))) (.seq (.reg [3,5,6,7] []) (.reg [3,5,6] []))))))) (ic:=R14_Segments_i1) (R14_Segments_S R k) (R14_Segments_J R k) (by kernel_rfl) (And.intro (And.intro True.intro (And.intro True.intro True.intro)) (And.intro True.intro (And.intro (R14_Segments_j2 k) (And.intro True.intro True.intro)))) (R14_Segments_a1 R k) (fun vals H K => by unfold R14_Segments_a1 R14_Segments_aa1; split <;> rfl)
    (fun n vals H K r h => by
      unfold R14_Segments_a1 R14_Segments_aa1 at h
      split at h <;> first | (cases h; done) | exact Eq.trans (R14_Segments_e1 (R14_Segments_p0 k) (R14_Segments_l1 k) (R14_Segments_p2 k) (R14_Segments_p3 k) k n _ _ _ _ _ H K) h) k
theorem R14_Segments_e0 {R:Type} (R14_Segments_p0:R14_Segments_p0_t R) (R14_Segments_l1:R14_Segments_l1_t R) (R14_Segments_p2:R14_Segments_p2_t R) (R14_Segments_p3:R14_Segments_p3_t R) (k:Nat) (n856:Int) (p857:Oa) (H:Heap) (K:Xit → Env → Heap → Option R):evJ (R14_Segments_Ct) (R14_Segments_Jt k R14_Segments_p0 R14_Segments_l1 R14_Segments_p2 R14_Segments_p3) R14_Segments_i0 (List.zip [0,3] [.int .i64 n856,.pointer p857]) H (fun x e' H' => K x (clean e' ((⟨[0,3],[],[4]⟩:Out).of x)) H') = R14_Segments_p0_b k n856 p857 (fun n1853 p1854 => K .normal [(0,.int .i64 n1853),(3,.pointer p1854)] H) (fun q1855 l1856 c1857 => K .ret [(4,.slice q1855 l1856 c1857)] H):=by kernel_rfl
theorem R14_Segments_j0 {R:Type} (k:Nat):JS Try.prog 45 (R14_Segments_a0 R k k) [0,3] ⟨[0,3],[],[4]⟩ (sel [1,0] (Try.f36.body.getD .skip)) :=
  piece_ok (nt:=45) (c:=(sel [1,0] (Try.f36.body.getD .skip))) (C:=R14_Segments_C R k) (an:=An) (t:=(.seq (.reg [0,3,13] []) (.cond (.seq (.reg [4] []) .leaf) .leaf))) (ic:=R14_Segments_i0) (R14_Segments_S R k) (R14_Segments_J R k) (by kernel_rfl) (And.intro True.intro (And.intro (And.intro True.intro True.intro) True.intro)) (R14_Segments_a0 R k k)
    (fun vals H K r h => by
      unfold R14_Segments_a0 R14_Segments_aa0 at h
      split at h <;> first | (cases h; done) | exact Eq.trans (R14_Segments_e0 (R14_Segments_p0 k) (R14_Segments_l1 k) (R14_Segments_p2 k) (R14_Segments_p3 k) k _ _ H K) h)
def R14_Segments_ca {R:Type} (f:R14_Segments_t R) (args:List Value) (H:Heap) (K:Value → Heap → Option R):Option R :=
  match args with
  | [.int .i64 n848,.agg ⟨[.bool t849,.bool t850,.bool t851,.bool t852,.bool t853]⟩] => f n848 t849 t850 t851 t852 t853 H (fun q1874 l1875 c1876 H => K (.slice q1874 l1875 c1876) H)
  | _ => none
def R14_Segments_c (R:Type) (k:Nat) (args:List Value) (H:Heap) (K:Value → Heap → Option R):Option R:=R14_Segments_ca (R14_Segments k) args H K
theorem R14_Segments_e {R:Type} (R14_Segments_p0:R14_Segments_p0_t R) (R14_Segments_l1:R14_Segments_l1_t R) (R14_Segments_p2:R14_Segments_p2_t R) (R14_Segments_p3:R14_Segments_p3_t R) (k:Nat) (n848:Int) (t849:Bool) (t850:Bool) (t851:Bool) (t852:Bool) (t853:Bool) (H:Heap) (K:Value → Heap → Option R):evF (R14_Segments_Ct) (R14_Segments_Jt k R14_Segments_p0 R14_Segments_l1 R14_Segments_p2 R14_Segments_p3) R14_Segments_f [.int .i64 n848,.agg ⟨[.bool t849,.bool t850,.bool t851,.bool t852,.bool t853]⟩] H K = R14_Segments_b R14_Segments_p0 R14_Segments_l1 k n848 t849 t850 t851 t852 t853 H (fun q1874 l1875 c1876 H => K (.slice q1874 l1875 c1876) H):=by kernel_rfl
theorem R14_Segments_cs (R:Type) (k:Nat):∀ args H K r,R14_Segments_c R k args H K = some r → ∃ v H',Tri Try.prog 36 args H v H' ∧ K v H' = some r:=by
  intro args H K r h
  unfold R14_Segments_c R14_Segments_ca at h
  split at h
  · exact evF_ok (C:=R14_Segments_C R k) (an:=An) (t:=R14_Segments_at) (fn:=Try.f36) (c:=(Try.f36.body.getD .skip)) (ifn:=R14_Segments_f) (R14_Segments_S R k) (R14_Segments_J R k) Try.func36 (by kernel_rfl) (by kernel_rfl) (And.intro True.intro (And.intro (R14_Segments_j0 k) (And.intro True.intro (And.intro True.intro (And.intro (R14_Segments_j1 k) (And.intro True.intro True.intro)))))) rfl (Eq.trans (R14_Segments_e (R14_Segments_p0 k) (R14_Segments_l1 k) (R14_Segments_p2 k) (R14_Segments_p3 k) k _ _ _ _ _ _ H K) h)
  · cases h
abbrev R26_Parts_p0_t (R:Type):Type:=Int → Int → Oa → (Int → Int → Oa → Option R) → (Oa → Nat → Nat → Option R) → Option R
def R26_Parts_p0_b {R:Type} (k:Nat) (n831:Int) (n832:Int) (p833:Oa) (KN:Int → Int → Oa → Option R) (KR:Oa → Nat → Nat → Option R):Option R :=
bif decide (n831 < 0) then (KR none 0 0)
 else (bif decide (n832 < 1) then (KR none 0 0)
 else (bif decide (n831 > 178) then (KR none 0 0)
 else (bif decide (n832 > (IntKind.wrap .i64 (178 - n831))) then (KR none 0 0)
 else (KN n831 n832 p833))))
def R26_Parts_p0 {R:Type} (k:Nat) (n831:Int) (n832:Int) (p833:Oa) (KN:Int → Int → Oa → Option R) (KR:Oa → Nat → Nat → Option R):Option R:=R26_Parts_p0_b k n831 n832 p833 KN KR
abbrev R26_Parts_p2_t (R:Type):Type:=Int → Int → Oa → Nat → Nat → Int → Oa → Nat → Nat → Int → Heap → (Int → Int → Oa → Nat → Nat → Int → Oa → Nat → Nat → Int → Heap → Option R) → Option R
def R26_Parts_p2_b {R:Type} (k:Nat) (n862:Int) (n863:Int) (q864:Oa) (l865:Nat) (c866:Nat) (n867:Int) (q868:Oa) (l869:Nat) (c870:Nat) (n871:Int) (H:Heap) (KN:Int → Int → Oa → Nat → Nat → Int → Oa → Nat → Nat → Int → Heap → Option R):Option R :=
hidx q868 l869 n871 1 fun p872 =>
ldI .i64 H p872 fun n873 =>
bif decide ((IntKind.wrap .i64 ((imn (IntKind.wrap .i64 (n867 + n873)) (IntKind.wrap .i64 (n862 + n863))) - (imx n867 n862))) > 0) then (hal H [.int .i64 (IntKind.wrap .i64 ((imn (IntKind.wrap .i64 (n867 + n873)) (IntKind.wrap .i64 (n862 + n863))) - (imx n867 n862)))] fun p874 H875 =>
happS 1 8 H875 q864 l865 c866 p874 1 fun q876 l877 c878 H879 =>
KN n862 n863 q876 l877 c878 (IntKind.wrap .i64 (n867 + n873)) q868 l869 c870 n871 H879)
 else (KN n862 n863 q864 l865 c866 (IntKind.wrap .i64 (n867 + n873)) q868 l869 c870 n871 H)
def R26_Parts_p2 {R:Type} (k:Nat) (n862:Int) (n863:Int) (q864:Oa) (l865:Nat) (c866:Nat) (n867:Int) (q868:Oa) (l869:Nat) (c870:Nat) (n871:Int) (H:Heap) (KN:Int → Int → Oa → Nat → Nat → Int → Oa → Nat → Nat → Int → Heap → Option R):Option R:=R26_Parts_p2_b k n862 n863 q864 l865 c866 n867 q868 l869 c870 n871 H KN
abbrev R26_Parts_l1_t (R:Type):Type:=(Oa → Nat → Nat → Heap → Option R) → Nat → Int → Int → Oa → Nat → Nat → Int → Oa → Nat → Nat → Int → Heap → Option R
def R26_Parts_l1_b {R:Type} (R26_Parts_p2:R26_Parts_p2_t R) (rec:Int → Int → Oa → Nat → Nat → Int → Oa → Nat → Nat → Int → Heap → Option R) (KE0:Oa → Nat → Nat → Heap → Option R) (k:Nat) (n852:Int) (n853:Int) (q854:Oa) (l855:Nat) (c856:Nat) (n857:Int) (q858:Oa) (l859:Nat) (c860:Nat) (n861:Int) (H:Heap):Option R :=
bif decide (n861 < ((l859:Nat):Int)) then (R26_Parts_p2 n852 n853 q854 l855 c856 n857 q858 l859 c860 n861 H (fun n890 n891 q892 l893 c894 n895 q896 l897 c898 n899 H900 =>
rec n890 n891 q892 l893 c894 n895 q896 l897 c898 (IntKind.wrap .i64 (n899 + 1)) H900))
 else (KE0 q854 l855 c856 H)
def R26_Parts_l1 {R:Type} (k:Nat) (KE0:Oa → Nat → Nat → Heap → Option R):Nat → Int → Int → Oa → Nat → Nat → Int → Oa → Nat → Nat → Int → Heap → Option R
  | 0,_,_,_,_,_,_,_,_,_,_,_ => none
  | n + 1,n852,n853,q854,l855,c856,n857,q858,l859,c860,n861,H => R26_Parts_l1_b (R26_Parts_p2 k) (R26_Parts_l1 k KE0 n) KE0 k n852 n853 q854 l855 c856 n857 q858 l859 c860 n861 H
abbrev R26_Parts_t (R:Type):Type:=Int → Int → Bool → Bool → Bool → Bool → Bool → Heap → (Oa → Nat → Nat → Heap → Option R) → Option R
def R26_Parts_b {R:Type} (R26_Parts_p0:R26_Parts_p0_t R) (R14_Segments:R14_Segments_t R) (R26_Parts_l1:R26_Parts_l1_t R) (k:Nat) (n822:Int) (n823:Int) (t824:Bool) (t825:Bool) (t826:Bool) (t827:Bool) (t828:Bool) (H:Heap) (K:Oa → Nat → Nat → Heap → Option R):Option R :=
hal H [.bool t824,.bool t825,.bool t826,.bool t827,.bool t828] fun p829 H830 =>
R26_Parts_p0 n822 n823 p829 (fun n840 n841 p842 =>
ldB H830 (pad p842 0) fun t843 =>
ldB H830 (pad p842 1) fun t844 =>
ldB H830 (pad p842 2) fun t845 =>
ldB H830 (pad p842 3) fun t846 =>
ldB H830 (pad p842 4) fun t847 =>
R14_Segments 178 t843 t844 t845 t846 t847 H830 fun q848 l849 c850 H851 =>
R26_Parts_l1 (fun q904 l905 c906 H907 =>
K q904 l905 c906 H907) k n840 n841 none 0 0 0 q848 l849 c850 0 H851) (fun q908 l909 c910 =>
K q908 l909 c910 H830)
def R26_Parts {R:Type} (k:Nat) (n822:Int) (n823:Int) (t824:Bool) (t825:Bool) (t826:Bool) (t827:Bool) (t828:Bool) (H:Heap) (K:Oa → Nat → Nat → Heap → Option R):Option R:=R26_Parts_b (R26_Parts_p0 k) (R14_Segments k) (R26_Parts_l1 k) k n822 n823 t824 t825 t826 t827 t828 H K
def R26_Parts_Ct {R:Type} (R14_Segments:R14_Segments_t R):Tab R:=tcons 36 (R14_Segments_ca R14_Segments) <| fun _ _ _ _ => none
def R26_Parts_C (R:Type) (k:Nat):Tab R:=R26_Parts_Ct (R14_Segments k)
theorem R26_Parts_S (R:Type) (k:Nat):CSound Try.prog (R26_Parts_C R k):=csound_cons (R14_Segments_cs R k) <| csound_nil
def R26_Parts_aa0 {R:Type} (f:R26_Parts_p0_t R) (n:Nat) (vals:List Value) (H:Heap) (K:Xit → Env → Heap → Option R):Option R :=
  match vals with
  | [.int .i64 n831,.int .i64 n832,.pointer p833] => f n831 n832 p833 (fun n1877 n1878 p1879 => K .normal [(0,.int .i64 n1877),(1,.int .i64 n1878),(5,.pointer p1879)] H) (fun q1880 l1881 c1882 => K .ret [(6,.slice q1880 l1881 c1882)] H)
  | _ => none
def R26_Parts_a0 (R:Type) (k n:Nat) (vals:List Value) (H:Heap) (K:Xit → Env → Heap → Option R):Option R:=R26_Parts_aa0 (R26_Parts_p0 k) n vals H K
def R26_Parts_aa1 {R:Type} (f:R26_Parts_l1_t R) (n:Nat) (vals:List Value) (H:Heap) (K:Xit → Env → Heap → Option R):Option R :=
  match vals with
  | [.int .i64 n852,.int .i64 n853,.slice q854 l855 c856,.int .i64 n857,.slice q858 l859 c860,.int .i64 n861] => f (fun q1883 l1884 c1885 H => K (.exit 0) [(7,.slice q1883 l1884 c1885)] H) n n852 n853 q854 l855 c856 n857 q858 l859 c860 n861 H
  | _ => none
def R26_Parts_a1 (R:Type) (k n:Nat) (vals:List Value) (H:Heap) (K:Xit → Env → Heap → Option R):Option R:=R26_Parts_aa1 (R26_Parts_l1 k) n vals H K
def R26_Parts_aa2 {R:Type} (f:R26_Parts_p2_t R) (n:Nat) (vals:List Value) (H:Heap) (K:Xit → Env → Heap → Option R):Option R :=
  match vals with
  | [.int .i64 n862,.int .i64 n863,.slice q864 l865 c866,.int .i64 n867,.slice q868 l869 c870,.int .i64 n871] => f n862 n863 q864 l865 c866 n867 q868 l869 c870 n871 H (fun n1886 n1887 q1888 l1889 c1890 n1891 q1892 l1893 c1894 n1895 H => K .normal [(0,.int .i64 n1886),(1,.int .i64 n1887),(7,.slice q1888 l1889 c1890),(8,.int .i64 n1891),(9,.slice q1892 l1893 c1894),(10,.int .i64 n1895)] H)
  | _ => none
def R26_Parts_a2 (R:Type) (k n:Nat) (vals:List Value) (H:Heap) (K:Xit → Env → Heap → Option R):Option R:=R26_Parts_aa2 (R26_Parts_p2 k) n vals H K
def R26_Parts_Jt {R:Type} (k:Nat) (R26_Parts_p0:R26_Parts_p0_t R) (R26_Parts_l1:R26_Parts_l1_t R) (R26_Parts_p2:R26_Parts_p2_t R):JTab R:=tcons 0 (R26_Parts_aa0 R26_Parts_p0 k) <| tcons 1 (R26_Parts_aa1 R26_Parts_l1 k) <| tcons 2 (R26_Parts_aa2 R26_Parts_p2 k) <| fun _ _ _ _ => none
def R26_Parts_J (R:Type) (k:Nat):JTab R:=R26_Parts_Jt k (R26_Parts_p0 k) (R26_Parts_l1 k) (R26_Parts_p2 k)
def R26_Parts_at:AT:=(.seq (.reg [0,1,5] []) (.seq (.opq 0 [0,1,5] ⟨[0,1,5],[],[6]⟩ (.seq (.reg [0,1,5,28] []) (.cond (.seq (.reg [6] []) .leaf) .leaf))) (.seq (.reg [0,1,5,7] []) (.seq (.reg [0,1,5,7,8] []) (.seq (.reg [0,1,7,8,9] []) (.seq (.seq (.reg [0,1,7,8,9,10] []) (.node (.opq 1 [0,1,7,8,9,10] ⟨[],[(0,[7])],[]⟩ (.node (.seq (.seq (.reg [0,1,7,8,9,10,34] []) (.cond .leaf .leaf)) (.seq (.opq 2 [0,1,7,8,9,10] ⟨[0,1,7,8,9,10],[],[]⟩ (.node (.seq (.reg [0,1,7,8,9,10,11] []) (.seq (.reg [0,1,7,8,9,10,11] []) (.seq (.reg [0,1,7,8,9,10,12] []) (.seq (.reg [0,1,7,8,9,10,12,54] []) (.cond (.reg [0,1,7,8,9,10] []) .leaf))))))) (.reg [0,1,7,8,9,10] []))))))) (.seq (.reg [6] []) .leaf)))))))
def R26_Parts_i2:IC:=(.block 1 (.seq (.reg [⟨some 37,.mov (.t 8),none⟩,
⟨some 11,.mov (.t 37),none⟩] [0,1,7,8,9,10,11]) (.seq (.reg [⟨some 38,.mov (.t 8),none⟩,
⟨some 39,.mov (.t 9),none⟩,
⟨some 40,.mov (.t 10),none⟩,
⟨some 41,.ids 1 (.t 39) (.t 40),none⟩,
⟨some 42,.ld (.sc (.int .i64)) (.t 41),none⟩,
⟨some 43,.bin .add .i64 (.t 38) (.t 42),none⟩,
⟨some 8,.mov (.t 43),none⟩] [0,1,7,8,9,10,11]) (.seq (.reg [⟨some 44,.mov (.t 8),none⟩,
⟨some 45,.mov (.t 0),none⟩,
⟨some 46,.mov (.t 1),none⟩,
⟨some 47,.bin .add .i64 (.t 45) (.t 46),none⟩,
⟨some 48,.mn (.t 44) (.t 47),none⟩,
⟨some 49,.mov (.t 11),none⟩,
⟨some 50,.mov (.t 0),none⟩,
⟨some 51,.mx (.t 49) (.t 50),none⟩,
⟨some 52,.bin .sub .i64 (.t 48) (.t 51),none⟩,
⟨some 12,.mov (.t 52),none⟩] [0,1,7,8,9,10,12]) (.seq (.reg [⟨some 53,.mov (.t 12),none⟩,
⟨some 54,.cmp .gtr (.t 53) (.c (Go.Value.int Go.IntKind.i64 0)),none⟩] [0,1,7,8,9,10,12,54]) (.cond (.t 54) (.reg [⟨some 55,.mov (.t 7),none⟩,
⟨some 56,.mov (.t 12),none⟩,
⟨some 57,.bls 1 [.int .i64 0] [(0,1,(.t 56))],none⟩,
⟨some 58,.app [.int .i64 0] 8 (.t 55) (.t 57),none⟩,
⟨some 7,.mov (.t 58),none⟩] [0,1,7,8,9,10]) .skip))))))
def R26_Parts_i1:IC:=(.seq (.seq (.reg [⟨some 31,.mov (.t 10),none⟩,
⟨some 32,.mov (.t 9),none⟩,
⟨some 33,.len false (.t 32),none⟩,
⟨some 34,.cmp .lss (.t 31) (.t 33),none⟩] [0,1,7,8,9,10,34]) (.cond (.t 34) .skip (.exit 0))) (.seq (.opq 2 [0,1,7,8,9,10] R26_Parts_i2) (.reg [⟨some 35,.mov (.t 10),none⟩,
⟨some 36,.bin .add .i64 (.t 35) (.c (Go.Value.int Go.IntKind.i64 1)),none⟩,
⟨some 10,.mov (.t 36),none⟩] [0,1,7,8,9,10])))
def R26_Parts_i0:IC:=(.seq (.reg [⟨some 13,.mov (.t 0),none⟩,
⟨some 14,.cmp .lss (.t 13) (.c (Go.Value.int Go.IntKind.i64 0)),none⟩,
⟨some 15,.mov (.t 14),none⟩,
⟨some 16,.mov (.t 1),some (15,false)⟩,
⟨some 17,.cmp .lss (.t 16) (.c (Go.Value.int Go.IntKind.i64 1)),some (15,false)⟩,
⟨some 18,.pick (.t 15) (.c (Go.Value.bool true)) (.t 17),none⟩,
⟨some 19,.mov (.t 18),none⟩,
⟨some 20,.mov (.t 0),some (19,false)⟩,
⟨some 21,.cmp .gtr (.t 20) (.c (Go.Value.int Go.IntKind.i64 178)),some (19,false)⟩,
⟨some 22,.pick (.t 19) (.c (Go.Value.bool true)) (.t 21),none⟩,
⟨some 23,.mov (.t 22),none⟩,
⟨some 24,.mov (.t 1),some (23,false)⟩,
⟨some 25,.mov (.t 0),some (23,false)⟩,
⟨some 26,.bin .sub .i64 (.c (Go.Value.int Go.IntKind.i64 178)) (.t 25),some (23,false)⟩,
⟨some 27,.cmp .gtr (.t 24) (.t 26),some (23,false)⟩,
⟨some 28,.pick (.t 23) (.c (Go.Value.bool true)) (.t 27),none⟩] [0,1,5,28]) (.cond (.t 28) (.seq (.reg [⟨some 6,.mov (.c (Go.Value.slice none 0 0)),none⟩] [6]) .ret) .skip))
def R26_Parts_f:IFn:=⟨60,[.t 6],(.seq (.reg [⟨some 5,.box (.t 2),none⟩,
⟨some 6,.mov (.c (Go.Value.slice none 0 0)),none⟩] [0,1,5]) (.seq (.opq 0 [0,1,5] R26_Parts_i0) (.seq (.reg [⟨some 7,.mov (.c (Go.Value.slice none 0 0)),none⟩] [0,1,5,7]) (.seq (.reg [⟨some 8,.mov (.c (Go.Value.int Go.IntKind.i64 0)),none⟩] [0,1,5,7,8]) (.seq (.reg [⟨some 29,.ld (.agg [.bool,.bool,.bool,.bool,.bool]) (.t 5),none⟩,
⟨some 30,.call 36 [(.c (Go.Value.int Go.IntKind.i64 178)),(.t 29)] (.one (.sc .slc)),none⟩,
⟨some 9,.mov (.t 30),none⟩] [0,1,7,8,9]) (.seq (.seq (.reg [⟨some 10,.mov (.c (Go.Value.int Go.IntKind.i64 0)),none⟩] [0,1,7,8,9,10]) (.block 0 (.opq 1 [0,1,7,8,9,10] (.loop R26_Parts_i1)))) (.seq (.reg [⟨some 59,.mov (.t 7),none⟩,
⟨some 6,.mov (.t 59),none⟩] [6]) .ret)))))))⟩
theorem R26_Parts_e2 {R:Type} (R14_Segments:R14_Segments_t R) (R26_Parts_p0:R26_Parts_p0_t R) (R26_Parts_l1:R26_Parts_l1_t R) (R26_Parts_p2:R26_Parts_p2_t R) (k:Nat) (n862:Int) (n863:Int) (q864:Oa) (l865:Nat) (c866:Nat) (n867:Int) (q868:Oa) (l869:Nat) (c870:Nat) (n871:Int) (H:Heap) (K:Xit → Env → Heap → Option R):evJ (R26_Parts_Ct R14_Segments) (R26_Parts_Jt k R26_Parts_p0 R26_Parts_l1 R26_Parts_p2) R26_Parts_i2 (List.zip [0,1,7,8,9,10] [.int .i64 n862,.int .i64 n863,.slice q864 l865 c866,.int .i64 n867,.slice q868 l869 c870,.int .i64 n871]) H (fun x e' H' => K x (clean e' ((⟨[0,1,7,8,9,10],[],[]⟩:Out).of x)) H') = R26_Parts_p2_b k n862 n863 q864 l865 c866 n867 q868 l869 c870 n871 H (fun n1886 n1887 q1888 l1889 c1890 n1891 q1892 l1893 c1894 n1895 H => K .normal [(0,.int .i64 n1886),(1,.int .i64 n1887),(7,.slice q1888 l1889 c1890),(8,.int .i64 n1891),(9,.slice q1892 l1893 c1894),(10,.int .i64 n1895)] H):=by kernel_rfl
theorem R26_Parts_j2 {R:Type} (k:Nat):JS Try.prog 60 (R26_Parts_a2 R k k) [0,1,7,8,9,10] ⟨[0,1,7,8,9,10],[],[]⟩ (sel [1,1,1,1,1,0,1,0,0,1,0] (Try.f21.body.getD .skip)) :=
  piece_ok (nt:=60) (c:=(sel [1,1,1,1,1,0,1,0,0,1,0] (Try.f21.body.getD .skip))) (C:=R26_Parts_C R k) (an:=An) (t:=(.node (.seq (.reg [0,1,7,8,9,10,11] []) (.seq (.reg [0,1,7,8,9,10,11] []) (.seq (.reg [0,1,7,8,9,10,12] []) (.seq (.reg [0,1,7,8,9,10,12,54] []) (.cond (.reg [0,1,7,8,9,10] []) .leaf))))))) (ic:=R26_Parts_i2) (R26_Parts_S R k) (R26_Parts_J R k) (by kernel_rfl) (And.intro True.intro (And.intro True.intro (And.intro True.intro (And.intro True.intro (And.intro True.intro True.intro))))) (R26_Parts_a2 R k k)
    (fun vals H K r h => by
      unfold R26_Parts_a2 R26_Parts_aa2 at h
      split at h <;> first | (cases h; done) | exact Eq.trans (R26_Parts_e2 (R14_Segments k) (R26_Parts_p0 k) (R26_Parts_l1 k) (R26_Parts_p2 k) k _ _ _ _ _ _ _ _ _ _ H K) h)
theorem R26_Parts_e1 {R:Type} (R14_Segments:R14_Segments_t R) (R26_Parts_p0:R26_Parts_p0_t R) (R26_Parts_l1:R26_Parts_l1_t R) (R26_Parts_p2:R26_Parts_p2_t R) (k n:Nat) (n852:Int) (n853:Int) (q854:Oa) (l855:Nat) (c856:Nat) (n857:Int) (q858:Oa) (l859:Nat) (c860:Nat) (n861:Int) (H:Heap) (K:Xit → Env → Heap → Option R):evJ (R26_Parts_Ct R14_Segments) (R26_Parts_Jt k R26_Parts_p0 R26_Parts_l1 R26_Parts_p2) R26_Parts_i1 (List.zip [0,1,7,8,9,10] [.int .i64 n852,.int .i64 n853,.slice q854 l855 c856,.int .i64 n857,.slice q858 l859 c860,.int .i64 n861]) H (fun x e' H' => match x with | .normal => R26_Parts_aa1 R26_Parts_l1 n ((clean e' [0,1,7,8,9,10]).map (·.2)) H' K | x => K x (clean e' ((⟨[],[(0,[7])],[]⟩:Out).of x)) H') = R26_Parts_l1_b R26_Parts_p2 (R26_Parts_l1 (fun q1883 l1884 c1885 H => K (.exit 0) [(7,.slice q1883 l1884 c1885)] H) n) (fun q1883 l1884 c1885 H => K (.exit 0) [(7,.slice q1883 l1884 c1885)] H) k n852 n853 q854 l855 c856 n857 q858 l859 c860 n861 H:=by kernel_rfl
theorem R26_Parts_j1 {R:Type} (k:Nat):JS Try.prog 60 (R26_Parts_a1 R k k) [0,1,7,8,9,10] ⟨[],[(0,[7])],[]⟩ (.loop (sel [1,1,1,1,1,0,1,0,0] (Try.f21.body.getD .skip))) :=
  loop_ok (nt:=60) (c:=(sel [1,1,1,1,1,0,1,0,0] (Try.f21.body.getD .skip))) (C:=R26_Parts_C R k) (an:=An) (t:=(.seq (.seq (.reg [0,1,7,8,9,10,34] []) (.cond .leaf .leaf)) (.seq (.opq 2 [0,1,7,8,9,10] ⟨[0,1,7,8,9,10],[],[]⟩ (.node (.seq (.reg [0,1,7,8,9,10,11] []) (.seq (.reg [0,1,7,8,9,10,11] []) (.seq (.reg [0,1,7,8,9,10,12] []) (.seq (.reg [0,1,7,8,9,10,12,54] []) (.cond (.reg [0,1,7,8,9,10] []) .leaf))))))) (.reg [0,1,7,8,9,10] [])))) (ic:=R26_Parts_i1) (R26_Parts_S R k) (R26_Parts_J R k) (by kernel_rfl) (And.intro (And.intro True.intro (And.intro True.intro True.intro)) (And.intro (R26_Parts_j2 k) True.intro)) (R26_Parts_a1 R k) (fun vals H K => by unfold R26_Parts_a1 R26_Parts_aa1; split <;> rfl)
    (fun n vals H K r h => by
      unfold R26_Parts_a1 R26_Parts_aa1 at h
      split at h <;> first | (cases h; done) | exact Eq.trans (R26_Parts_e1 (R14_Segments k) (R26_Parts_p0 k) (R26_Parts_l1 k) (R26_Parts_p2 k) k n _ _ _ _ _ _ _ _ _ _ H K) h) k
theorem R26_Parts_e0 {R:Type} (R14_Segments:R14_Segments_t R) (R26_Parts_p0:R26_Parts_p0_t R) (R26_Parts_l1:R26_Parts_l1_t R) (R26_Parts_p2:R26_Parts_p2_t R) (k:Nat) (n831:Int) (n832:Int) (p833:Oa) (H:Heap) (K:Xit → Env → Heap → Option R):evJ (R26_Parts_Ct R14_Segments) (R26_Parts_Jt k R26_Parts_p0 R26_Parts_l1 R26_Parts_p2) R26_Parts_i0 (List.zip [0,1,5] [.int .i64 n831,.int .i64 n832,.pointer p833]) H (fun x e' H' => K x (clean e' ((⟨[0,1,5],[],[6]⟩:Out).of x)) H') = R26_Parts_p0_b k n831 n832 p833 (fun n1877 n1878 p1879 => K .normal [(0,.int .i64 n1877),(1,.int .i64 n1878),(5,.pointer p1879)] H) (fun q1880 l1881 c1882 => K .ret [(6,.slice q1880 l1881 c1882)] H):=by kernel_rfl
theorem R26_Parts_j0 {R:Type} (k:Nat):JS Try.prog 60 (R26_Parts_a0 R k k) [0,1,5] ⟨[0,1,5],[],[6]⟩ (sel [1,0] (Try.f21.body.getD .skip)) :=
  piece_ok (nt:=60) (c:=(sel [1,0] (Try.f21.body.getD .skip))) (C:=R26_Parts_C R k) (an:=An) (t:=(.seq (.reg [0,1,5,28] []) (.cond (.seq (.reg [6] []) .leaf) .leaf))) (ic:=R26_Parts_i0) (R26_Parts_S R k) (R26_Parts_J R k) (by kernel_rfl) (And.intro True.intro (And.intro (And.intro True.intro True.intro) True.intro)) (R26_Parts_a0 R k k)
    (fun vals H K r h => by
      unfold R26_Parts_a0 R26_Parts_aa0 at h
      split at h <;> first | (cases h; done) | exact Eq.trans (R26_Parts_e0 (R14_Segments k) (R26_Parts_p0 k) (R26_Parts_l1 k) (R26_Parts_p2 k) k _ _ _ H K) h)
def R26_Parts_ca {R:Type} (f:R26_Parts_t R) (args:List Value) (H:Heap) (K:Value → Heap → Option R):Option R :=
  match args with
  | [.int .i64 n822,.int .i64 n823,.agg ⟨[.bool t824,.bool t825,.bool t826,.bool t827,.bool t828]⟩] => f n822 n823 t824 t825 t826 t827 t828 H (fun q1896 l1897 c1898 H => K (.slice q1896 l1897 c1898) H)
  | _ => none
def R26_Parts_c (R:Type) (k:Nat) (args:List Value) (H:Heap) (K:Value → Heap → Option R):Option R:=R26_Parts_ca (R26_Parts k) args H K
theorem R26_Parts_e {R:Type} (R14_Segments:R14_Segments_t R) (R26_Parts_p0:R26_Parts_p0_t R) (R26_Parts_l1:R26_Parts_l1_t R) (R26_Parts_p2:R26_Parts_p2_t R) (k:Nat) (n822:Int) (n823:Int) (t824:Bool) (t825:Bool) (t826:Bool) (t827:Bool) (t828:Bool) (H:Heap) (K:Value → Heap → Option R):evF (R26_Parts_Ct R14_Segments) (R26_Parts_Jt k R26_Parts_p0 R26_Parts_l1 R26_Parts_p2) R26_Parts_f [.int .i64 n822,.int .i64 n823,.agg ⟨[.bool t824,.bool t825,.bool t826,.bool t827,.bool t828]⟩] H K = R26_Parts_b R26_Parts_p0 R14_Segments R26_Parts_l1 k n822 n823 t824 t825 t826 t827 t828 H (fun q1896 l1897 c1898 H => K (.slice q1896 l1897 c1898) H):=by kernel_rfl
theorem R26_Parts_cs (R:Type) (k:Nat):∀ args H K r,R26_Parts_c R k args H K = some r → ∃ v H',Tri Try.prog 21 args H v H' ∧ K v H' = some r:=by
  intro args H K r h
  unfold R26_Parts_c R26_Parts_ca at h
  split at h
  · exact evF_ok (C:=R26_Parts_C R k) (an:=An) (t:=R26_Parts_at) (fn:=Try.f21) (c:=(Try.f21.body.getD .skip)) (ifn:=R26_Parts_f) (R26_Parts_S R k) (R26_Parts_J R k) Try.func21 (by kernel_rfl) (by kernel_rfl) (And.intro True.intro (And.intro (R26_Parts_j0 k) (And.intro True.intro (And.intro True.intro (And.intro True.intro (And.intro (And.intro True.intro (R26_Parts_j1 k)) (And.intro True.intro True.intro))))))) rfl (Eq.trans (R26_Parts_e (R14_Segments k) (R26_Parts_p0 k) (R26_Parts_l1 k) (R26_Parts_p2 k) k _ _ _ _ _ _ _ H K) h)
  · cases h
end Go.Proofs.Ytmanlfonppfhaaa.Sh
