/- Lean functions that stand for Go's, over an explicit heap, and the proofs that they do (written by this claim's program shallow.py). -/
import Derived.Test.YtiapgcgpdndkiaaSh0
set_option maxRecDepth 100000
set_option linter.unusedVariables false
set_option linter.unusedSimpArgs false
namespace Go.Proofs.Ytiapgcgpdndkiaa.Sh
open Go.Proofs.Ytiapgcgpdndkiaa.FW
/-! ### R09_NewReader: function 25 -/
def R09_NewReader_b {R : Type} (k : Nat) (q282 : Option Addr) (l283 : Nat) (c284 : Nat) (H : Heap) (K : Option Addr → Heap → Option R) : Option R :=
hal H [] fun p285 H286 =>
happS 1 1 H286 p285 0 0 q282 l283 fun q287 l288 c289 H290 =>
hal H290 [.bool true, .slice q287 l288 c289, .int .i64 0, .int .i64 0] fun p291 H292 =>
K p291 H292

def R09_NewReader {R : Type} (q282 : Option Addr) (l283 : Nat) (c284 : Nat) (H : Heap) (K : Option Addr → Heap → Option R) : Option R := R09_NewReader_b 0 q282 l283 c284 H K

def R09_NewReader_Ct {R : Type} : Tab R := fun _ _ _ _ => none
def R09_NewReader_C (R : Type) (k : Nat) : Tab R := R09_NewReader_Ct
theorem R09_NewReader_S (R : Type) (k : Nat) : CSound Try.prog (R09_NewReader_C R k) := csound_nil
def R09_NewReader_Jt {R : Type} (k : Nat) : JTab R := fun _ _ _ _ => none
def R09_NewReader_J (R : Type) (k : Nat) : JTab R := R09_NewReader_Jt k
def R09_NewReader_at : AT := (.seq (.reg [0] []) (.seq (.reg [2] []) .leaf))
def R09_NewReader_f : IFn := ⟨8, [.t 2], (.seq (.reg [⟨some 2, .mov (.c (Go.Value.pointer none)), none⟩] [0]) (.seq (.reg [⟨some 3, .bls 0 [] [], none⟩,
 ⟨some 4, .mov (.t 0), none⟩,
 ⟨some 5, .app [.int .u8 0] 1 (.t 3) (.t 4), none⟩,
 ⟨some 6, .bld [.bool false, .slice none 0 0, .int .i64 0, .int .i64 0] [(0, 1, (.c (Go.Value.bool true))), (1, 1, (.t 5))], none⟩,
 ⟨some 7, .box (.t 6), none⟩,
 ⟨some 2, .mov (.t 7), none⟩] [2]) .ret))⟩
def R09_NewReader_ca {R : Type} (f : Option Addr → Nat → Nat → Heap → (Option Addr → Heap → Option R) → Option R) (args : List Value) (H : Heap) (K : Value → Heap → Option R) : Option R :=
  match args with
  | [.slice q282 l283 c284] => f q282 l283 c284 H (fun p1061 H => K (.pointer p1061) H)
  | _ => none
def R09_NewReader_c (R : Type) (k : Nat) (args : List Value) (H : Heap) (K : Value → Heap → Option R) : Option R := R09_NewReader_ca R09_NewReader args H K
theorem R09_NewReader_e {R : Type} (k : Nat) (q282 : Option Addr) (l283 : Nat) (c284 : Nat) (H : Heap) (K : Value → Heap → Option R) : evF (R09_NewReader_Ct) (R09_NewReader_Jt k) R09_NewReader_f [.slice q282 l283 c284] H K = R09_NewReader_b k q282 l283 c284 H (fun p1061 H => K (.pointer p1061) H) := by kernel_rfl
theorem R09_NewReader_cs (R : Type) (k : Nat) : ∀ args H K r, R09_NewReader_c R k args H K = some r → ∃ v H', Tri Try.prog 25 args H v H' ∧ K v H' = some r := by
  intro args H K r h
  unfold R09_NewReader_c R09_NewReader_ca at h
  split at h
  · exact evF_ok (C := R09_NewReader_C R 0) (an := An) (t := R09_NewReader_at) (fn := Try.f25) (c := (Try.f25.body.getD .skip)) (ifn := R09_NewReader_f) (R09_NewReader_S R 0) (R09_NewReader_J R 0) Try.func25 (by kernel_rfl) (by kernel_rfl) (And.intro True.intro (And.intro True.intro True.intro)) rfl (Eq.trans (R09_NewReader_e 0 _ _ _ H K) h)
  · cases h
/-! ### R09_Reader_Get: function 26 -/
def R09_Reader_Get_p0_b {R : Type} (k : Nat) (p338 : Option Addr) (H : Heap) (KN : Option Addr → Option R) (KR : Int → Int → Option R) : Option R :=
bif p338.isNone then (KR 0 6)
 else (hnil p338 fun p339 =>
hfad 0 p339 fun p340 =>
ldB H p340 fun t341 =>
bif (!t341) then (KR 0 6)
 else (KN p338))
def R09_Reader_Get_p0 {R : Type} (k : Nat) (p338 : Option Addr) (H : Heap) (KN : Option Addr → Option R) (KR : Int → Int → Option R) : Option R := R09_Reader_Get_p0_b k p338 H KN KR

def R09_Reader_Get_p3_b {R : Type} (k : Nat) (p360 : Option Addr) (n361 : Int) (H : Heap) (KN : Option Addr → Int → Bool → Option R) : Option R :=
hnil p360 fun p362 =>
hfad 2 p362 fun p363 =>
ldI .i64 H p363 fun n364 =>
bif decide (n364 > 0) then (hnil p360 fun p365 =>
hfad 1 p365 fun p366 =>
ldL H p366 fun q367 l368 c369 =>
hnil p360 fun p370 =>
hfad 2 p370 fun p371 =>
ldI .i64 H p371 fun n372 =>
hidx q367 l368 (IntKind.wrap .i64 (n372 - 1)) 1 fun p373 =>
ldI .u8 H p373 fun n374 =>
KN p360 n361 (n374 == 255))
 else (KN p360 n361 false)
def R09_Reader_Get_p3 {R : Type} (k : Nat) (p360 : Option Addr) (n361 : Int) (H : Heap) (KN : Option Addr → Int → Bool → Option R) : Option R := R09_Reader_Get_p3_b k p360 n361 H KN

def R09_Reader_Get_p2_b {R : Type} (R09_Reader_Get_p3 : Option Addr → Int → Heap → (Option Addr → Int → Bool → Option R) → Option R) (k : Nat) (p358 : Option Addr) (n359 : Int) (H : Heap) (KN : Option Addr → Int → Option R) (KR : Int → Int → Option R) : Option R :=
R09_Reader_Get_p3 p358 n359 H (fun p378 n379 t380 =>
bif t380 then (hnil p378 fun p381 =>
hfad 1 p381 fun p382 =>
ldL H p382 fun q383 l384 c385 =>
hnil p378 fun p386 =>
hfad 2 p386 fun p387 =>
ldI .i64 H p387 fun n388 =>
hidx q383 l384 n388 1 fun p389 =>
ldI .u8 H p389 fun n390 =>
bif decide (n390 ≥ 128) then (KR 0 8)
 else (KN p378 7))
 else (KN p378 n379))
def R09_Reader_Get_p2 {R : Type} (k : Nat) (p358 : Option Addr) (n359 : Int) (H : Heap) (KN : Option Addr → Int → Option R) (KR : Int → Int → Option R) : Option R := R09_Reader_Get_p2_b (R09_Reader_Get_p3 k) k p358 n359 H KN KR

def R09_Reader_Get_p1_b {R : Type} (R09_Reader_Get_p2 : Option Addr → Int → Heap → (Option Addr → Int → Option R) → (Int → Int → Option R) → Option R) (k : Nat) (p346 : Option Addr) (H : Heap) (KN : Option Addr → Heap → Option R) (KR : Int → Int → Heap → Option R) : Option R :=
hnil p346 fun p347 =>
hfad 3 p347 fun p348 =>
ldI .i64 H p348 fun n349 =>
bif (n349 == 0) then (hnil p346 fun p350 =>
hfad 2 p350 fun p351 =>
ldI .i64 H p351 fun n352 =>
hnil p346 fun p353 =>
hfad 1 p353 fun p354 =>
ldL H p354 fun q355 l356 c357 =>
bif decide (n352 ≥ ((l356 : Nat) : Int)) then (KR 0 7 H)
 else (R09_Reader_Get_p2 p346 8 H (fun p395 n396 =>
hnil p395 fun p397 =>
hfad 2 p397 fun p398 =>
ldI .i64 H p398 fun n399 =>
hnil p395 fun p400 =>
hfad 2 p400 fun p401 =>
hst1 H p401 (.int .i64 (IntKind.wrap .i64 (n399 + 1))) fun H402 =>
hnil p395 fun p403 =>
hfad 3 p403 fun p404 =>
hst1 H402 p404 (.int .i64 n396) fun H405 =>
KN p395 H405) (fun n406 n407 =>
KR n406 n407 H)))
 else (KN p346 H)
def R09_Reader_Get_p1 {R : Type} (k : Nat) (p346 : Option Addr) (H : Heap) (KN : Option Addr → Heap → Option R) (KR : Int → Int → Heap → Option R) : Option R := R09_Reader_Get_p1_b (R09_Reader_Get_p2 k) k p346 H KN KR

def R09_Reader_Get_b {R : Type} (R09_Reader_Get_p0 : Option Addr → Heap → (Option Addr → Option R) → (Int → Int → Option R) → Option R) (R09_Reader_Get_p1 : Option Addr → Heap → (Option Addr → Heap → Option R) → (Int → Int → Heap → Option R) → Option R) (k : Nat) (p337 : Option Addr) (H : Heap) (K : Int → Int → Heap → Option R) : Option R :=
R09_Reader_Get_p0 p337 H (fun p345 =>
R09_Reader_Get_p1 p345 H (fun p411 H412 =>
hnil p411 fun p413 =>
hfad 3 p413 fun p414 =>
ldI .i64 H412 p414 fun n415 =>
hnil p411 fun p416 =>
hfad 3 p416 fun p417 =>
hst1 H412 p417 (.int .i64 (IntKind.wrap .i64 (n415 - 1))) fun H418 =>
hnil p411 fun p419 =>
hfad 1 p419 fun p420 =>
ldL H418 p420 fun q421 l422 c423 =>
hnil p411 fun p424 =>
hfad 2 p424 fun p425 =>
ldI .i64 H418 p425 fun n426 =>
hidx q421 l422 (IntKind.wrap .i64 (n426 - 1)) 1 fun p427 =>
ldI .u8 H418 p427 fun n428 =>
hnil p411 fun p429 =>
hfad 3 p429 fun p430 =>
ldI .i64 H418 p430 fun n431 =>
hbin .shr .i64 (IntKind.wrap .i64 n428) (IntKind.wrap .u64 n431) fun n432 =>
hbin .and .i64 n432 1 fun n433 =>
K n433 0 H418) (fun n434 n435 H436 =>
K n434 n435 H436)) (fun n437 n438 =>
K n437 n438 H)

def R09_Reader_Get {R : Type} (k : Nat) (p337 : Option Addr) (H : Heap) (K : Int → Int → Heap → Option R) : Option R := R09_Reader_Get_b (R09_Reader_Get_p0 k) (R09_Reader_Get_p1 k) k p337 H K

def R09_Reader_Get_Ct {R : Type} : Tab R := fun _ _ _ _ => none
def R09_Reader_Get_C (R : Type) (k : Nat) : Tab R := R09_Reader_Get_Ct
theorem R09_Reader_Get_S (R : Type) (k : Nat) : CSound Try.prog (R09_Reader_Get_C R k) := csound_nil
def R09_Reader_Get_aa0 {R : Type} (f : Option Addr → Heap → (Option Addr → Option R) → (Int → Int → Option R) → Option R) (n : Nat) (vals : List Value) (H : Heap) (K : Xit → Env → Heap → Option R) : Option R :=
  match vals with
  | [.pointer p338] => f p338 H (fun p1062 => K .normal [(0, .pointer p1062)] H) (fun n1063 n1064 => K .ret [(2, .int .i64 n1063), (3, .int .i64 n1064)] H)
  | _ => none
def R09_Reader_Get_a0 (R : Type) (k n : Nat) (vals : List Value) (H : Heap) (K : Xit → Env → Heap → Option R) : Option R := R09_Reader_Get_aa0 (R09_Reader_Get_p0 k) n vals H K
def R09_Reader_Get_aa1 {R : Type} (f : Option Addr → Heap → (Option Addr → Heap → Option R) → (Int → Int → Heap → Option R) → Option R) (n : Nat) (vals : List Value) (H : Heap) (K : Xit → Env → Heap → Option R) : Option R :=
  match vals with
  | [.pointer p346] => f p346 H (fun p1065 H => K .normal [(0, .pointer p1065)] H) (fun n1066 n1067 H => K .ret [(2, .int .i64 n1066), (3, .int .i64 n1067)] H)
  | _ => none
def R09_Reader_Get_a1 (R : Type) (k n : Nat) (vals : List Value) (H : Heap) (K : Xit → Env → Heap → Option R) : Option R := R09_Reader_Get_aa1 (R09_Reader_Get_p1 k) n vals H K
def R09_Reader_Get_aa2 {R : Type} (f : Option Addr → Int → Heap → (Option Addr → Int → Option R) → (Int → Int → Option R) → Option R) (n : Nat) (vals : List Value) (H : Heap) (K : Xit → Env → Heap → Option R) : Option R :=
  match vals with
  | [.pointer p358, .int .i64 n359] => f p358 n359 H (fun p1068 n1069 => K .normal [(0, .pointer p1068), (4, .int .i64 n1069)] H) (fun n1070 n1071 => K .ret [(2, .int .i64 n1070), (3, .int .i64 n1071)] H)
  | _ => none
def R09_Reader_Get_a2 (R : Type) (k n : Nat) (vals : List Value) (H : Heap) (K : Xit → Env → Heap → Option R) : Option R := R09_Reader_Get_aa2 (R09_Reader_Get_p2 k) n vals H K
def R09_Reader_Get_aa3 {R : Type} (f : Option Addr → Int → Heap → (Option Addr → Int → Bool → Option R) → Option R) (n : Nat) (vals : List Value) (H : Heap) (K : Xit → Env → Heap → Option R) : Option R :=
  match vals with
  | [.pointer p360, .int .i64 n361] => f p360 n361 H (fun p1072 n1073 t1074 => K .normal [(0, .pointer p1072), (4, .int .i64 n1073), (47, .bool t1074)] H)
  | _ => none
def R09_Reader_Get_a3 (R : Type) (k n : Nat) (vals : List Value) (H : Heap) (K : Xit → Env → Heap → Option R) : Option R := R09_Reader_Get_aa3 (R09_Reader_Get_p3 k) n vals H K
def R09_Reader_Get_Jt {R : Type} (k : Nat) (R09_Reader_Get_p0 : Option Addr → Heap → (Option Addr → Option R) → (Int → Int → Option R) → Option R) (R09_Reader_Get_p1 : Option Addr → Heap → (Option Addr → Heap → Option R) → (Int → Int → Heap → Option R) → Option R) (R09_Reader_Get_p2 : Option Addr → Int → Heap → (Option Addr → Int → Option R) → (Int → Int → Option R) → Option R) (R09_Reader_Get_p3 : Option Addr → Int → Heap → (Option Addr → Int → Bool → Option R) → Option R) : JTab R := tcons 0 (R09_Reader_Get_aa0 R09_Reader_Get_p0 k) <| tcons 1 (R09_Reader_Get_aa1 R09_Reader_Get_p1 k) <| tcons 2 (R09_Reader_Get_aa2 R09_Reader_Get_p2 k) <| tcons 3 (R09_Reader_Get_aa3 R09_Reader_Get_p3 k) <| fun _ _ _ _ => none
def R09_Reader_Get_J (R : Type) (k : Nat) : JTab R := R09_Reader_Get_Jt k (R09_Reader_Get_p0 k) (R09_Reader_Get_p1 k) (R09_Reader_Get_p2 k) (R09_Reader_Get_p3 k)
def R09_Reader_Get_at : AT := (.seq (.reg [0] []) (.seq (.opq 0 [0] ⟨[0], [], [2, 3]⟩ (.seq (.reg [0, 13] []) (.cond (.seq (.reg [2, 3] []) .leaf) .leaf))) (.seq (.opq 1 [0] ⟨[0], [], [2, 3]⟩ (.seq (.reg [0, 18] []) (.cond (.seq (.seq (.reg [0, 28] [[], [0], [0, 1], [0, 1, 2], [], [4], [4, 5], [4, 5, 6], [4, 5, 6, 7], [0, 1, 2, 3, 4, 5, 6, 7, 8]]) (.cond (.seq (.reg [2, 3] []) .leaf) .leaf)) (.seq (.reg [0, 4] []) (.seq (.opq 2 [0, 4] ⟨[0, 4], [], [2, 3]⟩ (.seq (.opq 3 [0, 4] ⟨[0, 4, 47], [], []⟩ (.reg [0, 4, 47] [[], [0], [0, 1], [0, 1, 2], [0, 1, 2, 3], [0, 1, 2, 3, 4], [0, 1, 2, 3, 4, 5], [0, 1, 2, 3, 4, 5, 6], [0, 1, 2, 3, 4, 5, 6, 7], [0, 1, 2, 3, 4, 5, 6, 7, 8], [0, 1, 2, 3, 4, 5], [0, 1, 2, 3, 4, 5, 10], [0, 1, 2, 3, 4, 5, 10, 11], [0, 1, 2, 3, 4, 5, 10, 11, 12], [0, 1, 2, 3, 4, 5, 10, 11, 12, 13], [0, 1, 2, 3, 4, 5, 6, 7, 8, 9, 10, 11, 12, 13, 14], [0, 1, 2, 3, 4, 5, 6, 7, 8, 9, 10, 11, 12, 13, 14, 15], [0, 1, 2, 3, 4, 5, 6, 7, 8, 9, 10, 11, 12, 13, 14, 15, 16], [0, 1, 2, 3, 4, 5, 6, 7, 8, 9, 10, 11, 12, 13, 14, 15, 16, 17]])) (.cond (.seq (.seq (.reg [0, 58] [[], [0], [0, 1], [0, 1, 2], [], [4], [4, 5], [4, 5, 6], [0, 1, 2, 3, 4, 5, 6, 7], [0, 1, 2, 3, 4, 5, 6, 7, 8], [0, 1, 2, 3, 4, 5, 6, 7, 8, 9]]) (.cond (.seq (.reg [2, 3] []) .leaf) .leaf)) (.reg [0, 4] [])) .leaf))) (.seq (.reg [0, 4] []) (.reg [0] []))))) .leaf))) (.seq (.reg [0] []) (.seq (.reg [2, 3] [[], [0], [0, 1], [0, 1, 2], [], [4], [4, 5], [4, 5, 6], [4, 5, 6, 7], [0, 1, 2, 3, 4, 5, 6, 7, 8], [0, 1, 2, 3, 4, 5, 6, 7, 8, 9], [0, 1, 2, 3, 4, 5, 6, 7, 8, 9, 10], [], [12], [12, 13], [12, 13, 14], [12, 13, 14, 15], [0, 1, 2, 3, 4, 5, 6, 7, 8, 9, 10, 11, 12, 13, 14, 15, 16], [0, 1, 2, 3, 4, 5, 6, 7, 8, 9, 10, 11, 12, 13, 14, 15, 16, 17], [0, 1, 2, 3, 4, 5, 6, 7, 8, 9, 10, 11, 12, 13, 14, 15, 16, 17, 18], [0, 1, 2, 3, 4, 5, 6, 7, 8, 9, 10, 11, 12, 13, 14, 15, 16, 17, 18, 19]]) .leaf)))))
def R09_Reader_Get_i3 : IC := (.reg [⟨some 29, .mov (.t 0), none⟩,
 ⟨some 30, .nilc (.t 29), none⟩,
 ⟨some 31, .fad 2 (.t 30), none⟩,
 ⟨some 32, .ld (.sc (.int .i64)) (.t 31), none⟩,
 ⟨some 33, .cmp .gtr (.t 32) (.c (Go.Value.int Go.IntKind.i64 0)), none⟩,
 ⟨some 34, .mov (.t 33), none⟩,
 ⟨some 35, .mov (.t 0), some (34, true)⟩,
 ⟨some 36, .nilc (.t 35), some (34, true)⟩,
 ⟨some 37, .fad 1 (.t 36), some (34, true)⟩,
 ⟨some 38, .ld (.sc .slc) (.t 37), some (34, true)⟩,
 ⟨some 39, .mov (.t 0), some (34, true)⟩,
 ⟨some 40, .nilc (.t 39), some (34, true)⟩,
 ⟨some 41, .fad 2 (.t 40), some (34, true)⟩,
 ⟨some 42, .ld (.sc (.int .i64)) (.t 41), some (34, true)⟩,
 ⟨some 43, .bin .sub .i64 (.t 42) (.c (Go.Value.int Go.IntKind.i64 1)), some (34, true)⟩,
 ⟨some 44, .ids 1 (.t 38) (.t 43), some (34, true)⟩,
 ⟨some 45, .ld (.sc (.int .u8)) (.t 44), some (34, true)⟩,
 ⟨some 46, .cmp .eql (.t 45) (.c (Go.Value.int Go.IntKind.u8 255)), some (34, true)⟩,
 ⟨some 47, .pick (.t 34) (.t 46) (.c (Go.Value.bool false)), none⟩] [0, 4, 47])
def R09_Reader_Get_i2 : IC := (.seq (.opq 3 [0, 4] R09_Reader_Get_i3) (.cond (.t 47) (.seq (.seq (.reg [⟨some 48, .mov (.t 0), none⟩,
 ⟨some 49, .nilc (.t 48), none⟩,
 ⟨some 50, .fad 1 (.t 49), none⟩,
 ⟨some 51, .ld (.sc .slc) (.t 50), none⟩,
 ⟨some 52, .mov (.t 0), none⟩,
 ⟨some 53, .nilc (.t 52), none⟩,
 ⟨some 54, .fad 2 (.t 53), none⟩,
 ⟨some 55, .ld (.sc (.int .i64)) (.t 54), none⟩,
 ⟨some 56, .ids 1 (.t 51) (.t 55), none⟩,
 ⟨some 57, .ld (.sc (.int .u8)) (.t 56), none⟩,
 ⟨some 58, .cmp .geq (.t 57) (.c (Go.Value.int Go.IntKind.u8 128)), none⟩] [0, 58]) (.cond (.t 58) (.seq (.reg [⟨some 2, .mov (.c (Go.Value.int Go.IntKind.i64 0)), none⟩,
 ⟨some 3, .mov (.c (Go.Value.int Go.IntKind.i64 8)), none⟩] [2, 3]) .ret) .skip)) (.reg [⟨some 4, .mov (.c (Go.Value.int Go.IntKind.i64 7)), none⟩] [0, 4])) .skip))
def R09_Reader_Get_i1 : IC := (.seq (.reg [⟨some 14, .mov (.t 0), none⟩,
 ⟨some 15, .nilc (.t 14), none⟩,
 ⟨some 16, .fad 3 (.t 15), none⟩,
 ⟨some 17, .ld (.sc (.int .i64)) (.t 16), none⟩,
 ⟨some 18, .cmp .eql (.t 17) (.c (Go.Value.int Go.IntKind.i64 0)), none⟩] [0, 18]) (.cond (.t 18) (.seq (.seq (.reg [⟨some 19, .mov (.t 0), none⟩,
 ⟨some 20, .nilc (.t 19), none⟩,
 ⟨some 21, .fad 2 (.t 20), none⟩,
 ⟨some 22, .ld (.sc (.int .i64)) (.t 21), none⟩,
 ⟨some 23, .mov (.t 0), none⟩,
 ⟨some 24, .nilc (.t 23), none⟩,
 ⟨some 25, .fad 1 (.t 24), none⟩,
 ⟨some 26, .ld (.sc .slc) (.t 25), none⟩,
 ⟨some 27, .len false (.t 26), none⟩,
 ⟨some 28, .cmp .geq (.t 22) (.t 27), none⟩] [0, 28]) (.cond (.t 28) (.seq (.reg [⟨some 2, .mov (.c (Go.Value.int Go.IntKind.i64 0)), none⟩,
 ⟨some 3, .mov (.c (Go.Value.int Go.IntKind.i64 7)), none⟩] [2, 3]) .ret) .skip)) (.seq (.reg [⟨some 4, .mov (.c (Go.Value.int Go.IntKind.i64 8)), none⟩] [0, 4]) (.seq (.opq 2 [0, 4] R09_Reader_Get_i2) (.seq (.reg [⟨some 59, .mov (.t 0), none⟩,
 ⟨some 60, .nilc (.t 59), none⟩,
 ⟨some 61, .fad 2 (.t 60), none⟩,
 ⟨some 62, .ld (.sc (.int .i64)) (.t 61), none⟩,
 ⟨some 63, .bin .add .i64 (.t 62) (.c (Go.Value.int Go.IntKind.i64 1)), none⟩,
 ⟨some 64, .nilc (.t 59), none⟩,
 ⟨some 65, .fad 2 (.t 64), none⟩,
 ⟨none, .st 1 (.t 65) (.t 63), none⟩] [0, 4]) (.reg [⟨some 66, .mov (.t 0), none⟩,
 ⟨some 67, .mov (.t 4), none⟩,
 ⟨some 68, .nilc (.t 66), none⟩,
 ⟨some 69, .fad 3 (.t 68), none⟩,
 ⟨none, .st 1 (.t 69) (.t 67), none⟩] [0]))))) .skip))
def R09_Reader_Get_i0 : IC := (.seq (.reg [⟨some 5, .mov (.t 0), none⟩,
 ⟨some 6, .eqnil (.t 5) false 0, none⟩,
 ⟨some 7, .mov (.t 6), none⟩,
 ⟨some 8, .mov (.t 0), some (7, false)⟩,
 ⟨some 9, .nilc (.t 8), some (7, false)⟩,
 ⟨some 10, .fad 0 (.t 9), some (7, false)⟩,
 ⟨some 11, .ld (.sc .bool) (.t 10), some (7, false)⟩,
 ⟨some 12, .lnot (.t 11), some (7, false)⟩,
 ⟨some 13, .pick (.t 7) (.c (Go.Value.bool true)) (.t 12), none⟩] [0, 13]) (.cond (.t 13) (.seq (.reg [⟨some 2, .mov (.c (Go.Value.int Go.IntKind.i64 0)), none⟩,
 ⟨some 3, .mov (.c (Go.Value.int Go.IntKind.i64 6)), none⟩] [2, 3]) .ret) .skip))
def R09_Reader_Get_f : IFn := ⟨96, [.t 2, .t 3], (.seq (.reg [⟨some 2, .mov (.c (Go.Value.int Go.IntKind.i64 0)), none⟩,
 ⟨some 3, .mov (.c (Go.Value.int Go.IntKind.i64 0)), none⟩] [0]) (.seq (.opq 0 [0] R09_Reader_Get_i0) (.seq (.opq 1 [0] R09_Reader_Get_i1) (.seq (.reg [⟨some 70, .mov (.t 0), none⟩,
 ⟨some 71, .nilc (.t 70), none⟩,
 ⟨some 72, .fad 3 (.t 71), none⟩,
 ⟨some 73, .ld (.sc (.int .i64)) (.t 72), none⟩,
 ⟨some 74, .bin .sub .i64 (.t 73) (.c (Go.Value.int Go.IntKind.i64 1)), none⟩,
 ⟨some 75, .nilc (.t 70), none⟩,
 ⟨some 76, .fad 3 (.t 75), none⟩,
 ⟨none, .st 1 (.t 76) (.t 74), none⟩] [0]) (.seq (.reg [⟨some 77, .mov (.t 0), none⟩,
 ⟨some 78, .nilc (.t 77), none⟩,
 ⟨some 79, .fad 1 (.t 78), none⟩,
 ⟨some 80, .ld (.sc .slc) (.t 79), none⟩,
 ⟨some 81, .mov (.t 0), none⟩,
 ⟨some 82, .nilc (.t 81), none⟩,
 ⟨some 83, .fad 2 (.t 82), none⟩,
 ⟨some 84, .ld (.sc (.int .i64)) (.t 83), none⟩,
 ⟨some 85, .bin .sub .i64 (.t 84) (.c (Go.Value.int Go.IntKind.i64 1)), none⟩,
 ⟨some 86, .ids 1 (.t 80) (.t 85), none⟩,
 ⟨some 87, .ld (.sc (.int .u8)) (.t 86), none⟩,
 ⟨some 88, .cnv .i64 (.t 87), none⟩,
 ⟨some 89, .mov (.t 0), none⟩,
 ⟨some 90, .nilc (.t 89), none⟩,
 ⟨some 91, .fad 3 (.t 90), none⟩,
 ⟨some 92, .ld (.sc (.int .i64)) (.t 91), none⟩,
 ⟨some 93, .cnv .u64 (.t 92), none⟩,
 ⟨some 94, .bin .shr .i64 (.t 88) (.t 93), none⟩,
 ⟨some 95, .bin .and .i64 (.t 94) (.c (Go.Value.int Go.IntKind.i64 1)), none⟩,
 ⟨some 2, .mov (.t 95), none⟩,
 ⟨some 3, .mov (.c (Go.Value.int Go.IntKind.i64 0)), none⟩] [2, 3]) .ret)))))⟩
theorem R09_Reader_Get_e3 {R : Type} (R09_Reader_Get_p0 : Option Addr → Heap → (Option Addr → Option R) → (Int → Int → Option R) → Option R) (R09_Reader_Get_p1 : Option Addr → Heap → (Option Addr → Heap → Option R) → (Int → Int → Heap → Option R) → Option R) (R09_Reader_Get_p2 : Option Addr → Int → Heap → (Option Addr → Int → Option R) → (Int → Int → Option R) → Option R) (R09_Reader_Get_p3 : Option Addr → Int → Heap → (Option Addr → Int → Bool → Option R) → Option R) (k : Nat) (p360 : Option Addr) (n361 : Int) (H : Heap) (K : Xit → Env → Heap → Option R) : evJ (R09_Reader_Get_Ct) (R09_Reader_Get_Jt k R09_Reader_Get_p0 R09_Reader_Get_p1 R09_Reader_Get_p2 R09_Reader_Get_p3) R09_Reader_Get_i3 (List.zip [0, 4] [.pointer p360, .int .i64 n361]) H (fun x e' H' => K x (clean e' ((⟨[0, 4, 47], [], []⟩ : Out).of x)) H') = R09_Reader_Get_p3_b k p360 n361 H (fun p1072 n1073 t1074 => K .normal [(0, .pointer p1072), (4, .int .i64 n1073), (47, .bool t1074)] H) := by kernel_rfl
theorem R09_Reader_Get_j3 {R : Type} (k : Nat) : JS Try.prog 96 (R09_Reader_Get_a3 R k k) [0, 4] ⟨[0, 4, 47], [], []⟩ (sel [1, 1, 0, 1, 0, 1, 1, 0, 0] (Try.f26.body.getD .skip)) :=
  piece_ok (nt := 96) (c := (sel [1, 1, 0, 1, 0, 1, 1, 0, 0] (Try.f26.body.getD .skip))) (C := R09_Reader_Get_C R k) (an := An) (t := (.reg [0, 4, 47] [[], [0], [0, 1], [0, 1, 2], [0, 1, 2, 3], [0, 1, 2, 3, 4], [0, 1, 2, 3, 4, 5], [0, 1, 2, 3, 4, 5, 6], [0, 1, 2, 3, 4, 5, 6, 7], [0, 1, 2, 3, 4, 5, 6, 7, 8], [0, 1, 2, 3, 4, 5], [0, 1, 2, 3, 4, 5, 10], [0, 1, 2, 3, 4, 5, 10, 11], [0, 1, 2, 3, 4, 5, 10, 11, 12], [0, 1, 2, 3, 4, 5, 10, 11, 12, 13], [0, 1, 2, 3, 4, 5, 6, 7, 8, 9, 10, 11, 12, 13, 14], [0, 1, 2, 3, 4, 5, 6, 7, 8, 9, 10, 11, 12, 13, 14, 15], [0, 1, 2, 3, 4, 5, 6, 7, 8, 9, 10, 11, 12, 13, 14, 15, 16], [0, 1, 2, 3, 4, 5, 6, 7, 8, 9, 10, 11, 12, 13, 14, 15, 16, 17]])) (ic := R09_Reader_Get_i3) (R09_Reader_Get_S R k) (R09_Reader_Get_J R k) (by kernel_rfl) True.intro (R09_Reader_Get_a3 R k k)
    (fun vals H K r h => by
      unfold R09_Reader_Get_a3 R09_Reader_Get_aa3 at h
      split at h <;> first | (cases h; done) | exact Eq.trans (R09_Reader_Get_e3 (R09_Reader_Get_p0 k) (R09_Reader_Get_p1 k) (R09_Reader_Get_p2 k) (R09_Reader_Get_p3 k) k _ _ H K) h)
theorem R09_Reader_Get_e2 {R : Type} (R09_Reader_Get_p0 : Option Addr → Heap → (Option Addr → Option R) → (Int → Int → Option R) → Option R) (R09_Reader_Get_p1 : Option Addr → Heap → (Option Addr → Heap → Option R) → (Int → Int → Heap → Option R) → Option R) (R09_Reader_Get_p2 : Option Addr → Int → Heap → (Option Addr → Int → Option R) → (Int → Int → Option R) → Option R) (R09_Reader_Get_p3 : Option Addr → Int → Heap → (Option Addr → Int → Bool → Option R) → Option R) (k : Nat) (p358 : Option Addr) (n359 : Int) (H : Heap) (K : Xit → Env → Heap → Option R) : evJ (R09_Reader_Get_Ct) (R09_Reader_Get_Jt k R09_Reader_Get_p0 R09_Reader_Get_p1 R09_Reader_Get_p2 R09_Reader_Get_p3) R09_Reader_Get_i2 (List.zip [0, 4] [.pointer p358, .int .i64 n359]) H (fun x e' H' => K x (clean e' ((⟨[0, 4], [], [2, 3]⟩ : Out).of x)) H') = R09_Reader_Get_p2_b R09_Reader_Get_p3 k p358 n359 H (fun p1068 n1069 => K .normal [(0, .pointer p1068), (4, .int .i64 n1069)] H) (fun n1070 n1071 => K .ret [(2, .int .i64 n1070), (3, .int .i64 n1071)] H) := by kernel_rfl
theorem R09_Reader_Get_j2 {R : Type} (k : Nat) : JS Try.prog 96 (R09_Reader_Get_a2 R k k) [0, 4] ⟨[0, 4], [], [2, 3]⟩ (sel [1, 1, 0, 1, 0, 1, 1, 0] (Try.f26.body.getD .skip)) :=
  piece_ok (nt := 96) (c := (sel [1, 1, 0, 1, 0, 1, 1, 0] (Try.f26.body.getD .skip))) (C := R09_Reader_Get_C R k) (an := An) (t := (.seq (.opq 3 [0, 4] ⟨[0, 4, 47], [], []⟩ (.reg [0, 4, 47] [[], [0], [0, 1], [0, 1, 2], [0, 1, 2, 3], [0, 1, 2, 3, 4], [0, 1, 2, 3, 4, 5], [0, 1, 2, 3, 4, 5, 6], [0, 1, 2, 3, 4, 5, 6, 7], [0, 1, 2, 3, 4, 5, 6, 7, 8], [0, 1, 2, 3, 4, 5], [0, 1, 2, 3, 4, 5, 10], [0, 1, 2, 3, 4, 5, 10, 11], [0, 1, 2, 3, 4, 5, 10, 11, 12], [0, 1, 2, 3, 4, 5, 10, 11, 12, 13], [0, 1, 2, 3, 4, 5, 6, 7, 8, 9, 10, 11, 12, 13, 14], [0, 1, 2, 3, 4, 5, 6, 7, 8, 9, 10, 11, 12, 13, 14, 15], [0, 1, 2, 3, 4, 5, 6, 7, 8, 9, 10, 11, 12, 13, 14, 15, 16], [0, 1, 2, 3, 4, 5, 6, 7, 8, 9, 10, 11, 12, 13, 14, 15, 16, 17]])) (.cond (.seq (.seq (.reg [0, 58] [[], [0], [0, 1], [0, 1, 2], [], [4], [4, 5], [4, 5, 6], [0, 1, 2, 3, 4, 5, 6, 7], [0, 1, 2, 3, 4, 5, 6, 7, 8], [0, 1, 2, 3, 4, 5, 6, 7, 8, 9]]) (.cond (.seq (.reg [2, 3] []) .leaf) .leaf)) (.reg [0, 4] [])) .leaf))) (ic := R09_Reader_Get_i2) (R09_Reader_Get_S R k) (R09_Reader_Get_J R k) (by kernel_rfl) (And.intro (R09_Reader_Get_j3 k) (And.intro (And.intro (And.intro True.intro (And.intro (And.intro True.intro True.intro) True.intro)) True.intro) True.intro)) (R09_Reader_Get_a2 R k k)
    (fun vals H K r h => by
      unfold R09_Reader_Get_a2 R09_Reader_Get_aa2 at h
      split at h <;> first | (cases h; done) | exact Eq.trans (R09_Reader_Get_e2 (R09_Reader_Get_p0 k) (R09_Reader_Get_p1 k) (R09_Reader_Get_p2 k) (R09_Reader_Get_p3 k) k _ _ H K) h)
theorem R09_Reader_Get_e1 {R : Type} (R09_Reader_Get_p0 : Option Addr → Heap → (Option Addr → Option R) → (Int → Int → Option R) → Option R) (R09_Reader_Get_p1 : Option Addr → Heap → (Option Addr → Heap → Option R) → (Int → Int → Heap → Option R) → Option R) (R09_Reader_Get_p2 : Option Addr → Int → Heap → (Option Addr → Int → Option R) → (Int → Int → Option R) → Option R) (R09_Reader_Get_p3 : Option Addr → Int → Heap → (Option Addr → Int → Bool → Option R) → Option R) (k : Nat) (p346 : Option Addr) (H : Heap) (K : Xit → Env → Heap → Option R) : evJ (R09_Reader_Get_Ct) (R09_Reader_Get_Jt k R09_Reader_Get_p0 R09_Reader_Get_p1 R09_Reader_Get_p2 R09_Reader_Get_p3) R09_Reader_Get_i1 (List.zip [0] [.pointer p346]) H (fun x e' H' => K x (clean e' ((⟨[0], [], [2, 3]⟩ : Out).of x)) H') = R09_Reader_Get_p1_b R09_Reader_Get_p2 k p346 H (fun p1065 H => K .normal [(0, .pointer p1065)] H) (fun n1066 n1067 H => K .ret [(2, .int .i64 n1066), (3, .int .i64 n1067)] H) := by kernel_rfl
theorem R09_Reader_Get_j1 {R : Type} (k : Nat) : JS Try.prog 96 (R09_Reader_Get_a1 R k k) [0] ⟨[0], [], [2, 3]⟩ (sel [1, 1, 0] (Try.f26.body.getD .skip)) :=
  piece_ok (nt := 96) (c := (sel [1, 1, 0] (Try.f26.body.getD .skip))) (C := R09_Reader_Get_C R k) (an := An) (t := (.seq (.reg [0, 18] []) (.cond (.seq (.seq (.reg [0, 28] [[], [0], [0, 1], [0, 1, 2], [], [4], [4, 5], [4, 5, 6], [4, 5, 6, 7], [0, 1, 2, 3, 4, 5, 6, 7, 8]]) (.cond (.seq (.reg [2, 3] []) .leaf) .leaf)) (.seq (.reg [0, 4] []) (.seq (.opq 2 [0, 4] ⟨[0, 4], [], [2, 3]⟩ (.seq (.opq 3 [0, 4] ⟨[0, 4, 47], [], []⟩ (.reg [0, 4, 47] [[], [0], [0, 1], [0, 1, 2], [0, 1, 2, 3], [0, 1, 2, 3, 4], [0, 1, 2, 3, 4, 5], [0, 1, 2, 3, 4, 5, 6], [0, 1, 2, 3, 4, 5, 6, 7], [0, 1, 2, 3, 4, 5, 6, 7, 8], [0, 1, 2, 3, 4, 5], [0, 1, 2, 3, 4, 5, 10], [0, 1, 2, 3, 4, 5, 10, 11], [0, 1, 2, 3, 4, 5, 10, 11, 12], [0, 1, 2, 3, 4, 5, 10, 11, 12, 13], [0, 1, 2, 3, 4, 5, 6, 7, 8, 9, 10, 11, 12, 13, 14], [0, 1, 2, 3, 4, 5, 6, 7, 8, 9, 10, 11, 12, 13, 14, 15], [0, 1, 2, 3, 4, 5, 6, 7, 8, 9, 10, 11, 12, 13, 14, 15, 16], [0, 1, 2, 3, 4, 5, 6, 7, 8, 9, 10, 11, 12, 13, 14, 15, 16, 17]])) (.cond (.seq (.seq (.reg [0, 58] [[], [0], [0, 1], [0, 1, 2], [], [4], [4, 5], [4, 5, 6], [0, 1, 2, 3, 4, 5, 6, 7], [0, 1, 2, 3, 4, 5, 6, 7, 8], [0, 1, 2, 3, 4, 5, 6, 7, 8, 9]]) (.cond (.seq (.reg [2, 3] []) .leaf) .leaf)) (.reg [0, 4] [])) .leaf))) (.seq (.reg [0, 4] []) (.reg [0] []))))) .leaf))) (ic := R09_Reader_Get_i1) (R09_Reader_Get_S R k) (R09_Reader_Get_J R k) (by kernel_rfl) (And.intro True.intro (And.intro (And.intro (And.intro True.intro (And.intro (And.intro True.intro True.intro) True.intro)) (And.intro True.intro (And.intro (R09_Reader_Get_j2 k) (And.intro True.intro True.intro)))) True.intro)) (R09_Reader_Get_a1 R k k)
    (fun vals H K r h => by
      unfold R09_Reader_Get_a1 R09_Reader_Get_aa1 at h
      split at h <;> first | (cases h; done) | exact Eq.trans (R09_Reader_Get_e1 (R09_Reader_Get_p0 k) (R09_Reader_Get_p1 k) (R09_Reader_Get_p2 k) (R09_Reader_Get_p3 k) k _ H K) h)
theorem R09_Reader_Get_e0 {R : Type} (R09_Reader_Get_p0 : Option Addr → Heap → (Option Addr → Option R) → (Int → Int → Option R) → Option R) (R09_Reader_Get_p1 : Option Addr → Heap → (Option Addr → Heap → Option R) → (Int → Int → Heap → Option R) → Option R) (R09_Reader_Get_p2 : Option Addr → Int → Heap → (Option Addr → Int → Option R) → (Int → Int → Option R) → Option R) (R09_Reader_Get_p3 : Option Addr → Int → Heap → (Option Addr → Int → Bool → Option R) → Option R) (k : Nat) (p338 : Option Addr) (H : Heap) (K : Xit → Env → Heap → Option R) : evJ (R09_Reader_Get_Ct) (R09_Reader_Get_Jt k R09_Reader_Get_p0 R09_Reader_Get_p1 R09_Reader_Get_p2 R09_Reader_Get_p3) R09_Reader_Get_i0 (List.zip [0] [.pointer p338]) H (fun x e' H' => K x (clean e' ((⟨[0], [], [2, 3]⟩ : Out).of x)) H') = R09_Reader_Get_p0_b k p338 H (fun p1062 => K .normal [(0, .pointer p1062)] H) (fun n1063 n1064 => K .ret [(2, .int .i64 n1063), (3, .int .i64 n1064)] H) := by kernel_rfl
theorem R09_Reader_Get_j0 {R : Type} (k : Nat) : JS Try.prog 96 (R09_Reader_Get_a0 R k k) [0] ⟨[0], [], [2, 3]⟩ (sel [1, 0] (Try.f26.body.getD .skip)) :=
  piece_ok (nt := 96) (c := (sel [1, 0] (Try.f26.body.getD .skip))) (C := R09_Reader_Get_C R k) (an := An) (t := (.seq (.reg [0, 13] []) (.cond (.seq (.reg [2, 3] []) .leaf) .leaf))) (ic := R09_Reader_Get_i0) (R09_Reader_Get_S R k) (R09_Reader_Get_J R k) (by kernel_rfl) (And.intro True.intro (And.intro (And.intro True.intro True.intro) True.intro)) (R09_Reader_Get_a0 R k k)
    (fun vals H K r h => by
      unfold R09_Reader_Get_a0 R09_Reader_Get_aa0 at h
      split at h <;> first | (cases h; done) | exact Eq.trans (R09_Reader_Get_e0 (R09_Reader_Get_p0 k) (R09_Reader_Get_p1 k) (R09_Reader_Get_p2 k) (R09_Reader_Get_p3 k) k _ H K) h)
def R09_Reader_Get_ca {R : Type} (f : Option Addr → Heap → (Int → Int → Heap → Option R) → Option R) (args : List Value) (H : Heap) (K : Value → Heap → Option R) : Option R :=
  match args with
  | [.pointer p337] => f p337 H (fun n1075 n1076 H => K (.tuple ⟨[.int .i64 n1075, .int .i64 n1076]⟩) H)
  | _ => none
def R09_Reader_Get_c (R : Type) (k : Nat) (args : List Value) (H : Heap) (K : Value → Heap → Option R) : Option R := R09_Reader_Get_ca (R09_Reader_Get k) args H K
theorem R09_Reader_Get_e {R : Type} (R09_Reader_Get_p0 : Option Addr → Heap → (Option Addr → Option R) → (Int → Int → Option R) → Option R) (R09_Reader_Get_p1 : Option Addr → Heap → (Option Addr → Heap → Option R) → (Int → Int → Heap → Option R) → Option R) (R09_Reader_Get_p2 : Option Addr → Int → Heap → (Option Addr → Int → Option R) → (Int → Int → Option R) → Option R) (R09_Reader_Get_p3 : Option Addr → Int → Heap → (Option Addr → Int → Bool → Option R) → Option R) (k : Nat) (p337 : Option Addr) (H : Heap) (K : Value → Heap → Option R) : evF (R09_Reader_Get_Ct) (R09_Reader_Get_Jt k R09_Reader_Get_p0 R09_Reader_Get_p1 R09_Reader_Get_p2 R09_Reader_Get_p3) R09_Reader_Get_f [.pointer p337] H K = R09_Reader_Get_b R09_Reader_Get_p0 R09_Reader_Get_p1 k p337 H (fun n1075 n1076 H => K (.tuple ⟨[.int .i64 n1075, .int .i64 n1076]⟩) H) := by kernel_rfl
theorem R09_Reader_Get_cs (R : Type) (k : Nat) : ∀ args H K r, R09_Reader_Get_c R k args H K = some r → ∃ v H', Tri Try.prog 26 args H v H' ∧ K v H' = some r := by
  intro args H K r h
  unfold R09_Reader_Get_c R09_Reader_Get_ca at h
  split at h
  · exact evF_ok (C := R09_Reader_Get_C R k) (an := An) (t := R09_Reader_Get_at) (fn := Try.f26) (c := (Try.f26.body.getD .skip)) (ifn := R09_Reader_Get_f) (R09_Reader_Get_S R k) (R09_Reader_Get_J R k) Try.func26 (by kernel_rfl) (by kernel_rfl) (And.intro True.intro (And.intro (R09_Reader_Get_j0 k) (And.intro (R09_Reader_Get_j1 k) (And.intro True.intro (And.intro True.intro True.intro))))) rfl (Eq.trans (R09_Reader_Get_e (R09_Reader_Get_p0 k) (R09_Reader_Get_p1 k) (R09_Reader_Get_p2 k) (R09_Reader_Get_p3 k) k _ H K) h)
  · cases h
end Go.Proofs.Ytiapgcgpdndkiaa.Sh
