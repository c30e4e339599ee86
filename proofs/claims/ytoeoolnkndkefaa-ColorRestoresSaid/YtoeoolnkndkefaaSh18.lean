/- Lean functions that stand for Go's, over an explicit heap, and the proofs that they do (written by this claim's program shallow.py). -/
import Derived.Test.YtoeoolnkndkefaaSh0
import Derived.Test.YtoeoolnkndkefaaSh2
import Derived.Test.YtoeoolnkndkefaaSh10
set_option maxRecDepth 100000
set_option linter.unusedVariables false
set_option linter.unusedSimpArgs false
namespace Go.Proofs.Ytoeoolnkndkefaa.Sh
open Go.Proofs.Ytoeoolnkndkefaa.FW
/-! ### L_ColorRestores: function 7 -/
def L_ColorRestores_p0_b {R : Type} (L_bounded : Int → Int → Int → Int → (Bool → Option R) → Option R) (k : Nat) (n302 : Int) (n303 : Int) (p304 : Option Addr) (H : Heap) (KN : Int → Int → Option Addr → Bool → Option R) : Option R :=
hidx p304 3 0 1 fun p305 =>
ldI .i64 H p305 fun n306 =>
hidx p304 3 1 1 fun p307 =>
ldI .i64 H p307 fun n308 =>
hidx p304 3 2 1 fun p309 =>
ldI .i64 H p309 fun n310 =>
L_bounded n306 n308 n310 1048576 fun t311 =>
bif (!t311) then (KN n302 n303 p304 true)
 else (L_bounded n303 n303 n303 1048576 fun t312 =>
KN n302 n303 p304 (!t312))
def L_ColorRestores_p0 {R : Type} (k : Nat) (n302 : Int) (n303 : Int) (p304 : Option Addr) (H : Heap) (KN : Int → Int → Option Addr → Bool → Option R) : Option R := L_ColorRestores_p0_b L_bounded k n302 n303 p304 H KN

def L_ColorRestores_p1_b {R : Type} (k : Nat) (n336 : Int) (n337 : Int) (p338 : Option Addr) (n339 : Int) (n340 : Int) (n341 : Int) (n342 : Int) (n343 : Int) (n344 : Int) (H : Heap) (KN : Int → Int → Option Addr → Int → Int → Int → Option R) (KR : Bool → Option R) : Option R :=
hidx p338 3 0 1 fun p345 =>
ldI .i64 H p345 fun n346 =>
bif (n342 != n346) then (KR false)
 else (hidx p338 3 1 1 fun p347 =>
ldI .i64 H p347 fun n348 =>
bif (n343 != n348) then (KR false)
 else (hidx p338 3 2 1 fun p349 =>
ldI .i64 H p349 fun n350 =>
bif (n344 != n350) then (KR false)
 else (KN n336 n337 p338 n339 n340 n341)))
def L_ColorRestores_p1 {R : Type} (k : Nat) (n336 : Int) (n337 : Int) (p338 : Option Addr) (n339 : Int) (n340 : Int) (n341 : Int) (n342 : Int) (n343 : Int) (n344 : Int) (H : Heap) (KN : Int → Int → Option Addr → Int → Int → Int → Option R) (KR : Bool → Option R) : Option R := L_ColorRestores_p1_b k n336 n337 p338 n339 n340 n341 n342 n343 n344 H KN KR

def L_ColorRestores_p2_b {R : Type} (k : Nat) (n378 : Int) (n379 : Int) (p380 : Option Addr) (n381 : Int) (n382 : Int) (n383 : Int) (n384 : Int) (n385 : Int) (n386 : Int) (H : Heap) (KN : Int → Int → Option Addr → Int → Int → Int → Option R) (KR : Bool → Option R) : Option R :=
hidx p380 3 0 1 fun p387 =>
ldI .i64 H p387 fun n388 =>
bif (n384 != n388) then (KR false)
 else (hidx p380 3 1 1 fun p389 =>
ldI .i64 H p389 fun n390 =>
bif (n385 != n390) then (KR false)
 else (hidx p380 3 2 1 fun p391 =>
ldI .i64 H p391 fun n392 =>
bif (n386 != n392) then (KR false)
 else (KN n378 n379 p380 n381 n382 n383)))
def L_ColorRestores_p2 {R : Type} (k : Nat) (n378 : Int) (n379 : Int) (p380 : Option Addr) (n381 : Int) (n382 : Int) (n383 : Int) (n384 : Int) (n385 : Int) (n386 : Int) (H : Heap) (KN : Int → Int → Option Addr → Int → Int → Int → Option R) (KR : Bool → Option R) : Option R := L_ColorRestores_p2_b k n378 n379 p380 n381 n382 n383 n384 n385 n386 H KN KR

def L_ColorRestores_p3_b {R : Type} (k : Nat) (n406 : Int) (n407 : Int) (p408 : Option Addr) (n409 : Int) (n410 : Int) (n411 : Int) (KN : Int → Int → Option Addr → Int → Int → Int → Bool → Option R) : Option R :=
bif (n406 != 1) then (KN n406 n407 p408 n409 n410 n411 (n406 != 2))
 else (KN n406 n407 p408 n409 n410 n411 false)
def L_ColorRestores_p3 {R : Type} (k : Nat) (n406 : Int) (n407 : Int) (p408 : Option Addr) (n409 : Int) (n410 : Int) (n411 : Int) (KN : Int → Int → Option Addr → Int → Int → Int → Bool → Option R) : Option R := L_ColorRestores_p3_b k n406 n407 p408 n409 n410 n411 KN

def L_ColorRestores_p4_b {R : Type} (k : Nat) (n431 : Int) (n432 : Int) (p433 : Option Addr) (n434 : Int) (n435 : Int) (n436 : Int) (n437 : Int) (n438 : Int) (n439 : Int) (KN : Int → Int → Option Addr → Int → Int → Int → Option R) (KR : Bool → Option R) : Option R :=
bif (n437 != n432) then (KR false)
 else (bif (n438 != 0) then (KR false)
 else (bif (n439 != 0) then (KR false)
 else (KN n431 n432 p433 n434 n435 n436)))
def L_ColorRestores_p4 {R : Type} (k : Nat) (n431 : Int) (n432 : Int) (p433 : Option Addr) (n434 : Int) (n435 : Int) (n436 : Int) (n437 : Int) (n438 : Int) (n439 : Int) (KN : Int → Int → Option Addr → Int → Int → Int → Option R) (KR : Bool → Option R) : Option R := L_ColorRestores_p4_b k n431 n432 p433 n434 n435 n436 n437 n438 n439 KN KR

def L_ColorRestores_b {R : Type} (L_ColorRestores_p0 : Int → Int → Option Addr → Heap → (Int → Int → Option Addr → Bool → Option R) → Option R) (L_exampleHoldsq : (Bool → Option R) → Option R) (color_Forward : Int → Int → Int → Int → Heap → (Int → Int → Int → Heap → Option R) → Option R) (color_Inverse : Int → Int → Int → Int → Heap → (Int → Int → Int → Heap → Option R) → Option R) (L_ColorRestores_p1 : Int → Int → Option Addr → Int → Int → Int → Int → Int → Int → Heap → (Int → Int → Option Addr → Int → Int → Int → Option R) → (Bool → Option R) → Option R) (L_ColorRestores_p2 : Int → Int → Option Addr → Int → Int → Int → Int → Int → Int → Heap → (Int → Int → Option Addr → Int → Int → Int → Option R) → (Bool → Option R) → Option R) (L_ColorRestores_p3 : Int → Int → Option Addr → Int → Int → Int → (Int → Int → Option Addr → Int → Int → Int → Bool → Option R) → Option R) (L_ColorRestores_p4 : Int → Int → Option Addr → Int → Int → Int → Int → Int → Int → (Int → Int → Option Addr → Int → Int → Int → Option R) → (Bool → Option R) → Option R) (k : Nat) (n295 : Int) (n296 : Int) (n297 : Int) (n298 : Int) (n299 : Int) (H : Heap) (K : Bool → Heap → Option R) : Option R :=
hal H [.int .i64 n296, .int .i64 n297, .int .i64 n298] fun p300 H301 =>
L_ColorRestores_p0 n295 n299 p300 H301 (fun n317 n318 p319 t320 =>
bif t320 then (L_exampleHoldsq fun t321 =>
K t321 H301)
 else (hidx p319 3 0 1 fun p322 =>
ldI .i64 H301 p322 fun n323 =>
hidx p319 3 1 1 fun p324 =>
ldI .i64 H301 p324 fun n325 =>
hidx p319 3 2 1 fun p326 =>
ldI .i64 H301 p326 fun n327 =>
color_Forward n317 n323 n325 n327 H301 fun n328 n329 n330 H331 =>
color_Inverse n317 n328 n329 n330 H331 fun n332 n333 n334 H335 =>
L_ColorRestores_p1 n317 n318 p319 n328 n329 n330 n332 n333 n334 H335 (fun n358 n359 p360 n361 n362 n363 =>
hidx p360 3 0 1 fun p364 =>
ldI .i64 H335 p364 fun n365 =>
hidx p360 3 1 1 fun p366 =>
ldI .i64 H335 p366 fun n367 =>
hidx p360 3 2 1 fun p368 =>
ldI .i64 H335 p368 fun n369 =>
color_Inverse n358 n365 n367 n369 H335 fun n370 n371 n372 H373 =>
color_Forward n358 n370 n371 n372 H373 fun n374 n375 n376 H377 =>
L_ColorRestores_p2 n358 n359 p360 n361 n362 n363 n374 n375 n376 H377 (fun n400 n401 p402 n403 n404 n405 =>
L_ColorRestores_p3 n400 n401 p402 n403 n404 n405 (fun n419 n420 p421 n422 n423 n424 t425 =>
bif t425 then (L_exampleHoldsq fun t426 =>
K t426 H377)
 else (color_Forward n419 n420 n420 n420 H377 fun n427 n428 n429 H430 =>
L_ColorRestores_p4 n419 n420 p421 n422 n423 n424 n427 n428 n429 (fun n447 n448 p449 n450 n451 n452 =>
hidx p449 3 0 1 fun p453 =>
ldI .i64 H430 p453 fun n454 =>
hidx p449 3 1 1 fun p455 =>
ldI .i64 H430 p455 fun n456 =>
hidx p449 3 2 1 fun p457 =>
ldI .i64 H430 p457 fun n458 =>
color_Forward n447 (IntKind.wrap .i64 (n454 + n448)) (IntKind.wrap .i64 (n456 + n448)) (IntKind.wrap .i64 (n458 + n448)) H430 fun n459 n460 n461 H462 =>
bif (n459 == (IntKind.wrap .i64 (n450 + n448))) then (bif (n460 == n451) then (bif (n461 == n452) then (L_exampleHoldsq fun t463 =>
K t463 H462)
 else (K false H462))
 else (K false H462))
 else (K false H462)) (fun t464 =>
K t464 H430)))) (fun t465 =>
K t465 H377)) (fun t466 =>
K t466 H335)))

def L_ColorRestores {R : Type} (k : Nat) (n295 : Int) (n296 : Int) (n297 : Int) (n298 : Int) (n299 : Int) (H : Heap) (K : Bool → Heap → Option R) : Option R := L_ColorRestores_b (L_ColorRestores_p0 k) L_exampleHoldsq color_Forward color_Inverse (L_ColorRestores_p1 k) (L_ColorRestores_p2 k) (L_ColorRestores_p3 k) (L_ColorRestores_p4 k) k n295 n296 n297 n298 n299 H K

def L_ColorRestores_Ct {R : Type} (L_bounded : Int → Int → Int → Int → (Bool → Option R) → Option R) (L_exampleHoldsq : (Bool → Option R) → Option R) (color_Forward : Int → Int → Int → Int → Heap → (Int → Int → Int → Heap → Option R) → Option R) (color_Inverse : Int → Int → Int → Int → Heap → (Int → Int → Int → Heap → Option R) → Option R) : Tab R := tcons 11 (L_bounded_ca L_bounded) <| tcons 12 (L_exampleHoldsq_ca L_exampleHoldsq) <| tcons 13 (color_Forward_ca color_Forward) <| tcons 15 (color_Inverse_ca color_Inverse) <| fun _ _ _ _ => none
def L_ColorRestores_C (R : Type) (k : Nat) : Tab R := L_ColorRestores_Ct L_bounded L_exampleHoldsq color_Forward color_Inverse
theorem L_ColorRestores_S (R : Type) (k : Nat) : CSound Try.prog (L_ColorRestores_C R k) := csound_cons (L_bounded_cs R k) <| csound_cons (L_exampleHoldsq_cs R k) <| csound_cons (color_Forward_cs R k) <| csound_cons (color_Inverse_cs R k) <| csound_nil
def L_ColorRestores_aa0 {R : Type} (f : Int → Int → Option Addr → Heap → (Int → Int → Option Addr → Bool → Option R) → Option R) (n : Nat) (vals : List Value) (H : Heap) (K : Xit → Env → Heap → Option R) : Option R :=
  match vals with
  | [.int .i64 n302, .int .i64 n303, .pointer p304] => f n302 n303 p304 H (fun n1292 n1293 p1294 t1295 => K .normal [(0, .int .i64 n1292), (2, .int .i64 n1293), (4, .pointer p1294), (30, .bool t1295)] H)
  | _ => none
def L_ColorRestores_a0 (R : Type) (k n : Nat) (vals : List Value) (H : Heap) (K : Xit → Env → Heap → Option R) : Option R := L_ColorRestores_aa0 (L_ColorRestores_p0 k) n vals H K
def L_ColorRestores_aa1 {R : Type} (f : Int → Int → Option Addr → Int → Int → Int → Int → Int → Int → Heap → (Int → Int → Option Addr → Int → Int → Int → Option R) → (Bool → Option R) → Option R) (n : Nat) (vals : List Value) (H : Heap) (K : Xit → Env → Heap → Option R) : Option R :=
  match vals with
  | [.int .i64 n336, .int .i64 n337, .pointer p338, .int .i64 n339, .int .i64 n340, .int .i64 n341, .int .i64 n342, .int .i64 n343, .int .i64 n344] => f n336 n337 p338 n339 n340 n341 n342 n343 n344 H (fun n1296 n1297 p1298 n1299 n1300 n1301 => K .normal [(0, .int .i64 n1296), (2, .int .i64 n1297), (4, .pointer p1298), (7, .int .i64 n1299), (8, .int .i64 n1300), (9, .int .i64 n1301)] H) (fun t1302 => K .ret [(6, .bool t1302)] H)
  | _ => none
def L_ColorRestores_a1 (R : Type) (k n : Nat) (vals : List Value) (H : Heap) (K : Xit → Env → Heap → Option R) : Option R := L_ColorRestores_aa1 (L_ColorRestores_p1 k) n vals H K
def L_ColorRestores_aa2 {R : Type} (f : Int → Int → Option Addr → Int → Int → Int → Int → Int → Int → Heap → (Int → Int → Option Addr → Int → Int → Int → Option R) → (Bool → Option R) → Option R) (n : Nat) (vals : List Value) (H : Heap) (K : Xit → Env → Heap → Option R) : Option R :=
  match vals with
  | [.int .i64 n378, .int .i64 n379, .pointer p380, .int .i64 n381, .int .i64 n382, .int .i64 n383, .int .i64 n384, .int .i64 n385, .int .i64 n386] => f n378 n379 p380 n381 n382 n383 n384 n385 n386 H (fun n1303 n1304 p1305 n1306 n1307 n1308 => K .normal [(0, .int .i64 n1303), (2, .int .i64 n1304), (4, .pointer p1305), (7, .int .i64 n1306), (8, .int .i64 n1307), (9, .int .i64 n1308)] H) (fun t1309 => K .ret [(6, .bool t1309)] H)
  | _ => none
def L_ColorRestores_a2 (R : Type) (k n : Nat) (vals : List Value) (H : Heap) (K : Xit → Env → Heap → Option R) : Option R := L_ColorRestores_aa2 (L_ColorRestores_p2 k) n vals H K
def L_ColorRestores_aa3 {R : Type} (f : Int → Int → Option Addr → Int → Int → Int → (Int → Int → Option Addr → Int → Int → Int → Bool → Option R) → Option R) (n : Nat) (vals : List Value) (H : Heap) (K : Xit → Env → Heap → Option R) : Option R :=
  match vals with
  | [.int .i64 n406, .int .i64 n407, .pointer p408, .int .i64 n409, .int .i64 n410, .int .i64 n411] => f n406 n407 p408 n409 n410 n411 (fun n1310 n1311 p1312 n1313 n1314 n1315 t1316 => K .normal [(0, .int .i64 n1310), (2, .int .i64 n1311), (4, .pointer p1312), (7, .int .i64 n1313), (8, .int .i64 n1314), (9, .int .i64 n1315), (111, .bool t1316)] H)
  | _ => none
def L_ColorRestores_a3 (R : Type) (k n : Nat) (vals : List Value) (H : Heap) (K : Xit → Env → Heap → Option R) : Option R := L_ColorRestores_aa3 (L_ColorRestores_p3 k) n vals H K
def L_ColorRestores_aa4 {R : Type} (f : Int → Int → Option Addr → Int → Int → Int → Int → Int → Int → (Int → Int → Option Addr → Int → Int → Int → Option R) → (Bool → Option R) → Option R) (n : Nat) (vals : List Value) (H : Heap) (K : Xit → Env → Heap → Option R) : Option R :=
  match vals with
  | [.int .i64 n431, .int .i64 n432, .pointer p433, .int .i64 n434, .int .i64 n435, .int .i64 n436, .int .i64 n437, .int .i64 n438, .int .i64 n439] => f n431 n432 p433 n434 n435 n436 n437 n438 n439 (fun n1317 n1318 p1319 n1320 n1321 n1322 => K .normal [(0, .int .i64 n1317), (2, .int .i64 n1318), (4, .pointer p1319), (7, .int .i64 n1320), (8, .int .i64 n1321), (9, .int .i64 n1322)] H) (fun t1323 => K .ret [(6, .bool t1323)] H)
  | _ => none
def L_ColorRestores_a4 (R : Type) (k n : Nat) (vals : List Value) (H : Heap) (K : Xit → Env → Heap → Option R) : Option R := L_ColorRestores_aa4 (L_ColorRestores_p4 k) n vals H K
def L_ColorRestores_Jt {R : Type} (k : Nat) (L_ColorRestores_p0 : Int → Int → Option Addr → Heap → (Int → Int → Option Addr → Bool → Option R) → Option R) (L_ColorRestores_p1 : Int → Int → Option Addr → Int → Int → Int → Int → Int → Int → Heap → (Int → Int → Option Addr → Int → Int → Int → Option R) → (Bool → Option R) → Option R) (L_ColorRestores_p2 : Int → Int → Option Addr → Int → Int → Int → Int → Int → Int → Heap → (Int → Int → Option Addr → Int → Int → Int → Option R) → (Bool → Option R) → Option R) (L_ColorRestores_p3 : Int → Int → Option Addr → Int → Int → Int → (Int → Int → Option Addr → Int → Int → Int → Bool → Option R) → Option R) (L_ColorRestores_p4 : Int → Int → Option Addr → Int → Int → Int → Int → Int → Int → (Int → Int → Option Addr → Int → Int → Int → Option R) → (Bool → Option R) → Option R) : JTab R := tcons 0 (L_ColorRestores_aa0 L_ColorRestores_p0 k) <| tcons 1 (L_ColorRestores_aa1 L_ColorRestores_p1 k) <| tcons 2 (L_ColorRestores_aa2 L_ColorRestores_p2 k) <| tcons 3 (L_ColorRestores_aa3 L_ColorRestores_p3 k) <| tcons 4 (L_ColorRestores_aa4 L_ColorRestores_p4 k) <| fun _ _ _ _ => none
def L_ColorRestores_J (R : Type) (k : Nat) : JTab R := L_ColorRestores_Jt k (L_ColorRestores_p0 k) (L_ColorRestores_p1 k) (L_ColorRestores_p2 k) (L_ColorRestores_p3 k) (L_ColorRestores_p4 k)
def L_ColorRestores_at : AT := (.seq (.reg [0, 2, 4] []) (.seq (.seq (.opq 0 [0, 2, 4] ⟨[0, 2, 4, 30], [], []⟩ (.reg [0, 2, 4, 30] [])) (.cond (.seq (.reg [6] []) .leaf) .leaf)) (.seq (.reg [0, 2, 4, 7, 8, 9] []) (.seq (.reg [0, 2, 4, 7, 8, 9, 10, 11, 12] []) (.seq (.opq 1 [0, 2, 4, 7, 8, 9, 10, 11, 12] ⟨[0, 2, 4, 7, 8, 9], [], [6]⟩ (.seq (.reg [0, 2, 4, 7, 8, 9, 68] []) (.cond (.seq (.reg [6] []) .leaf) .leaf))) (.seq (.reg [0, 2, 4, 7, 8, 9, 10, 11, 12] []) (.seq (.reg [0, 2, 4, 7, 8, 9, 13, 14, 15] []) (.seq (.opq 2 [0, 2, 4, 7, 8, 9, 13, 14, 15] ⟨[0, 2, 4, 7, 8, 9], [], [6]⟩ (.seq (.reg [0, 2, 4, 7, 8, 9, 105] []) (.cond (.seq (.reg [6] []) .leaf) .leaf))) (.seq (.seq (.opq 3 [0, 2, 4, 7, 8, 9] ⟨[0, 2, 4, 7, 8, 9, 111], [], []⟩ (.reg [0, 2, 4, 7, 8, 9, 111] [])) (.cond (.seq (.reg [6] []) .leaf) .leaf)) (.seq (.reg [0, 2, 4, 7, 8, 9, 13, 14, 15] []) (.seq (.opq 4 [0, 2, 4, 7, 8, 9, 13, 14, 15] ⟨[0, 2, 4, 7, 8, 9], [], [6]⟩ (.seq (.reg [0, 2, 4, 7, 8, 9, 132] []) (.cond (.seq (.reg [6] []) .leaf) .leaf))) (.seq (.reg [2, 7, 8, 9, 13, 14, 15] []) (.seq (.reg [6] []) .leaf)))))))))))))
def L_ColorRestores_i4 : IC := (.seq (.reg [⟨some 122, .mov (.t 13), none⟩,
 ⟨some 123, .mov (.t 2), none⟩,
 ⟨some 124, .cmp .neq (.t 122) (.t 123), none⟩,
 ⟨some 125, .mov (.t 124), none⟩,
 ⟨some 126, .mov (.t 14), some (125, false)⟩,
 ⟨some 127, .cmp .neq (.t 126) (.c (Go.Value.int Go.IntKind.i64 0)), some (125, false)⟩,
 ⟨some 128, .pick (.t 125) (.c (Go.Value.bool true)) (.t 127), none⟩,
 ⟨some 129, .mov (.t 128), none⟩,
 ⟨some 130, .mov (.t 15), some (129, false)⟩,
 ⟨some 131, .cmp .neq (.t 130) (.c (Go.Value.int Go.IntKind.i64 0)), some (129, false)⟩,
 ⟨some 132, .pick (.t 129) (.c (Go.Value.bool true)) (.t 131), none⟩] [0, 2, 4, 7, 8, 9, 132]) (.cond (.t 132) (.seq (.reg [⟨some 6, .mov (.c (Go.Value.bool false)), none⟩] [6]) .ret) .skip))
def L_ColorRestores_i3 : IC := (.reg [⟨some 106, .mov (.t 0), none⟩,
 ⟨some 107, .cmp .neq (.t 106) (.c (Go.Value.int Go.IntKind.i64 1)), none⟩,
 ⟨some 108, .mov (.t 107), none⟩,
 ⟨some 109, .mov (.t 0), some (108, true)⟩,
 ⟨some 110, .cmp .neq (.t 109) (.c (Go.Value.int Go.IntKind.i64 2)), some (108, true)⟩,
 ⟨some 111, .pick (.t 108) (.t 110) (.c (Go.Value.bool false)), none⟩] [0, 2, 4, 7, 8, 9, 111])
def L_ColorRestores_i2 : IC := (.seq (.reg [⟨some 90, .mov (.t 13), none⟩,
 ⟨some 91, .ida 3 1 (.t 4) (.c (Go.Value.int Go.IntKind.i64 0)), none⟩,
 ⟨some 92, .ld (.sc (.int .i64)) (.t 91), none⟩,
 ⟨some 93, .cmp .neq (.t 90) (.t 92), none⟩,
 ⟨some 94, .mov (.t 93), none⟩,
 ⟨some 95, .mov (.t 14), some (94, false)⟩,
 ⟨some 96, .ida 3 1 (.t 4) (.c (Go.Value.int Go.IntKind.i64 1)), some (94, false)⟩,
 ⟨some 97, .ld (.sc (.int .i64)) (.t 96), some (94, false)⟩,
 ⟨some 98, .cmp .neq (.t 95) (.t 97), some (94, false)⟩,
 ⟨some 99, .pick (.t 94) (.c (Go.Value.bool true)) (.t 98), none⟩,
 ⟨some 100, .mov (.t 99), none⟩,
 ⟨some 101, .mov (.t 15), some (100, false)⟩,
 ⟨some 102, .ida 3 1 (.t 4) (.c (Go.Value.int Go.IntKind.i64 2)), some (100, false)⟩,
 ⟨some 103, .ld (.sc (.int .i64)) (.t 102), some (100, false)⟩,
 ⟨some 104, .cmp .neq (.t 101) (.t 103), some (100, false)⟩,
 ⟨some 105, .pick (.t 100) (.c (Go.Value.bool true)) (.t 104), none⟩] [0, 2, 4, 7, 8, 9, 105]) (.cond (.t 105) (.seq (.reg [⟨some 6, .mov (.c (Go.Value.bool false)), none⟩] [6]) .ret) .skip))
def L_ColorRestores_i1 : IC := (.seq (.reg [⟨some 53, .mov (.t 10), none⟩,
 ⟨some 54, .ida 3 1 (.t 4) (.c (Go.Value.int Go.IntKind.i64 0)), none⟩,
 ⟨some 55, .ld (.sc (.int .i64)) (.t 54), none⟩,
 ⟨some 56, .cmp .neq (.t 53) (.t 55), none⟩,
 ⟨some 57, .mov (.t 56), none⟩,
 ⟨some 58, .mov (.t 11), some (57, false)⟩,
 ⟨some 59, .ida 3 1 (.t 4) (.c (Go.Value.int Go.IntKind.i64 1)), some (57, false)⟩,
 ⟨some 60, .ld (.sc (.int .i64)) (.t 59), some (57, false)⟩,
 ⟨some 61, .cmp .neq (.t 58) (.t 60), some (57, false)⟩,
 ⟨some 62, .pick (.t 57) (.c (Go.Value.bool true)) (.t 61), none⟩,
 ⟨some 63, .mov (.t 62), none⟩,
 ⟨some 64, .mov (.t 12), some (63, false)⟩,
 ⟨some 65, .ida 3 1 (.t 4) (.c (Go.Value.int Go.IntKind.i64 2)), some (63, false)⟩,
 ⟨some 66, .ld (.sc (.int .i64)) (.t 65), some (63, false)⟩,
 ⟨some 67, .cmp .neq (.t 64) (.t 66), some (63, false)⟩,
 ⟨some 68, .pick (.t 63) (.c (Go.Value.bool true)) (.t 67), none⟩] [0, 2, 4, 7, 8, 9, 68]) (.cond (.t 68) (.seq (.reg [⟨some 6, .mov (.c (Go.Value.bool false)), none⟩] [6]) .ret) .skip))
def L_ColorRestores_i0 : IC := (.reg [⟨some 16, .ida 3 1 (.t 4) (.c (Go.Value.int Go.IntKind.i64 0)), none⟩,
 ⟨some 17, .ld (.sc (.int .i64)) (.t 16), none⟩,
 ⟨some 18, .ida 3 1 (.t 4) (.c (Go.Value.int Go.IntKind.i64 1)), none⟩,
 ⟨some 19, .ld (.sc (.int .i64)) (.t 18), none⟩,
 ⟨some 20, .ida 3 1 (.t 4) (.c (Go.Value.int Go.IntKind.i64 2)), none⟩,
 ⟨some 21, .ld (.sc (.int .i64)) (.t 20), none⟩,
 ⟨some 22, .call 11 [(.t 17), (.t 19), (.t 21), (.c (Go.Value.int Go.IntKind.i64 1048576))] (.one (.sc .bool)), none⟩,
 ⟨some 23, .lnot (.t 22), none⟩,
 ⟨some 24, .mov (.t 23), none⟩,
 ⟨some 25, .mov (.t 2), some (24, false)⟩,
 ⟨some 26, .mov (.t 2), some (24, false)⟩,
 ⟨some 27, .mov (.t 2), some (24, false)⟩,
 ⟨some 28, .call 11 [(.t 25), (.t 26), (.t 27), (.c (Go.Value.int Go.IntKind.i64 1048576))] (.one (.sc .bool)), some (24, false)⟩,
 ⟨some 29, .lnot (.t 28), some (24, false)⟩,
 ⟨some 30, .pick (.t 24) (.c (Go.Value.bool true)) (.t 29), none⟩] [0, 2, 4, 30])
def L_ColorRestores_f : IFn := ⟨169, [.t 6], (.seq (.reg [⟨some 4, .box (.t 1), none⟩,
 ⟨some 6, .mov (.c (Go.Value.bool false)), none⟩] [0, 2, 4]) (.seq (.seq (.opq 0 [0, 2, 4] L_ColorRestores_i0) (.cond (.t 30) (.seq (.reg [⟨some 31, .call 12 [] (.one (.sc .bool)), none⟩,
 ⟨some 6, .mov (.t 31), none⟩] [6]) .ret) .skip)) (.seq (.reg [⟨some 33, .mov (.t 0), none⟩,
 ⟨some 34, .ida 3 1 (.t 4) (.c (Go.Value.int Go.IntKind.i64 0)), none⟩,
 ⟨some 35, .ld (.sc (.int .i64)) (.t 34), none⟩,
 ⟨some 36, .ida 3 1 (.t 4) (.c (Go.Value.int Go.IntKind.i64 1)), none⟩,
 ⟨some 37, .ld (.sc (.int .i64)) (.t 36), none⟩,
 ⟨some 38, .ida 3 1 (.t 4) (.c (Go.Value.int Go.IntKind.i64 2)), none⟩,
 ⟨some 39, .ld (.sc (.int .i64)) (.t 38), none⟩,
 ⟨some 40, .call 13 [(.t 33), (.t 35), (.t 37), (.t 39)] (.tup [(.sc (.int .i64)), (.sc (.int .i64)), (.sc (.int .i64))]), none⟩,
 ⟨some 32, .mov (.t 40), none⟩,
 ⟨some 41, .ext 0 (.t 32), none⟩,
 ⟨some 42, .ext 1 (.t 32), none⟩,
 ⟨some 43, .ext 2 (.t 32), none⟩,
 ⟨some 7, .mov (.t 41), none⟩,
 ⟨some 8, .mov (.t 42), none⟩,
 ⟨some 9, .mov (.t 43), none⟩] [0, 2, 4, 7, 8, 9]) (.seq (.reg [⟨some 45, .mov (.t 0), none⟩,
 ⟨some 46, .mov (.t 7), none⟩,
 ⟨some 47, .mov (.t 8), none⟩,
 ⟨some 48, .mov (.t 9), none⟩,
 ⟨some 49, .call 15 [(.t 45), (.t 46), (.t 47), (.t 48)] (.tup [(.sc (.int .i64)), (.sc (.int .i64)), (.sc (.int .i64))]), none⟩,
 ⟨some 44, .mov (.t 49), none⟩,
 ⟨some 50, .ext 0 (.t 44), none⟩,
 ⟨some 51, .ext 1 (.t 44), none⟩,
 ⟨some 52, .ext 2 (.t 44), none⟩,
 ⟨some 10, .mov (.t 50), none⟩,
 ⟨some 11, .mov (.t 51), none⟩,
 ⟨some 12, .mov (.t 52), none⟩] [0, 2, 4, 7, 8, 9, 10, 11, 12]) (.seq (.opq 1 [0, 2, 4, 7, 8, 9, 10, 11, 12] L_ColorRestores_i1) (.seq (.reg [⟨some 70, .mov (.t 0), none⟩,
 ⟨some 71, .ida 3 1 (.t 4) (.c (Go.Value.int Go.IntKind.i64 0)), none⟩,
 ⟨some 72, .ld (.sc (.int .i64)) (.t 71), none⟩,
 ⟨some 73, .ida 3 1 (.t 4) (.c (Go.Value.int Go.IntKind.i64 1)), none⟩,
 ⟨some 74, .ld (.sc (.int .i64)) (.t 73), none⟩,
 ⟨some 75, .ida 3 1 (.t 4) (.c (Go.Value.int Go.IntKind.i64 2)), none⟩,
 ⟨some 76, .ld (.sc (.int .i64)) (.t 75), none⟩,
 ⟨some 77, .call 15 [(.t 70), (.t 72), (.t 74), (.t 76)] (.tup [(.sc (.int .i64)), (.sc (.int .i64)), (.sc (.int .i64))]), none⟩,
 ⟨some 69, .mov (.t 77), none⟩,
 ⟨some 78, .ext 0 (.t 69), none⟩,
 ⟨some 79, .ext 1 (.t 69), none⟩,
 ⟨some 80, .ext 2 (.t 69), none⟩,
 ⟨some 10, .mov (.t 78), none⟩,
 ⟨some 11, .mov (.t 79), none⟩,
 ⟨some 12, .mov (.t 80), none⟩] [0, 2, 4, 7, 8, 9, 10, 11, 12]) (.seq (.reg [⟨some 82, .mov (.t 0), none⟩,
 ⟨some 83, .mov (.t 10), none⟩,
 ⟨some 84, .mov (.t 11), none⟩,
 ⟨some 85, .mov (.t 12), none⟩,
 ⟨some 86, .call 13 [(.t 82), (.t 83), (.t 84), (.t 85)] (.tup [(.sc (.int .i64)), (.sc (.int .i64)), (.sc (.int .i64))]), none⟩,
 ⟨some 81, .mov (.t 86), none⟩,
 ⟨some 87, .ext 0 (.t 81), none⟩,
 ⟨some 88, .ext 1 (.t 81), none⟩,
 ⟨some 89, .ext 2 (.t 81), none⟩,
 ⟨some 13, .mov (.t 87), none⟩,
 ⟨some 14, .mov (.t 88), none⟩,
 ⟨some 15, .mov (.t 89), none⟩] [0, 2, 4, 7, 8, 9, 13, 14, 15]) (.seq (.opq 2 [0, 2, 4, 7, 8, 9, 13, 14, 15] L_ColorRestores_i2) (.seq (.seq (.opq 3 [0, 2, 4, 7, 8, 9] L_ColorRestores_i3) (.cond (.t 111) (.seq (.reg [⟨some 112, .call 12 [] (.one (.sc .bool)), none⟩,
 ⟨some 6, .mov (.t 112), none⟩] [6]) .ret) .skip)) (.seq (.reg [⟨some 114, .mov (.t 0), none⟩,
 ⟨some 115, .mov (.t 2), none⟩,
 ⟨some 116, .mov (.t 2), none⟩,
 ⟨some 117, .mov (.t 2), none⟩,
 ⟨some 118, .call 13 [(.t 114), (.t 115), (.t 116), (.t 117)] (.tup [(.sc (.int .i64)), (.sc (.int .i64)), (.sc (.int .i64))]), none⟩,
 ⟨some 113, .mov (.t 118), none⟩,
 ⟨some 119, .ext 0 (.t 113), none⟩,
 ⟨some 120, .ext 1 (.t 113), none⟩,
 ⟨some 121, .ext 2 (.t 113), none⟩,
 ⟨some 13, .mov (.t 119), none⟩,
 ⟨some 14, .mov (.t 120), none⟩,
 ⟨some 15, .mov (.t 121), none⟩] [0, 2, 4, 7, 8, 9, 13, 14, 15]) (.seq (.opq 4 [0, 2, 4, 7, 8, 9, 13, 14, 15] L_ColorRestores_i4) (.seq (.reg [⟨some 134, .mov (.t 0), none⟩,
 ⟨some 135, .ida 3 1 (.t 4) (.c (Go.Value.int Go.IntKind.i64 0)), none⟩,
 ⟨some 136, .ld (.sc (.int .i64)) (.t 135), none⟩,
 ⟨some 137, .mov (.t 2), none⟩,
 ⟨some 138, .bin .add .i64 (.t 136) (.t 137), none⟩,
 ⟨some 139, .ida 3 1 (.t 4) (.c (Go.Value.int Go.IntKind.i64 1)), none⟩,
 ⟨some 140, .ld (.sc (.int .i64)) (.t 139), none⟩,
 ⟨some 141, .mov (.t 2), none⟩,
 ⟨some 142, .bin .add .i64 (.t 140) (.t 141), none⟩,
 ⟨some 143, .ida 3 1 (.t 4) (.c (Go.Value.int Go.IntKind.i64 2)), none⟩,
 ⟨some 144, .ld (.sc (.int .i64)) (.t 143), none⟩,
 ⟨some 145, .mov (.t 2), none⟩,
 ⟨some 146, .bin .add .i64 (.t 144) (.t 145), none⟩,
 ⟨some 147, .call 13 [(.t 134), (.t 138), (.t 142), (.t 146)] (.tup [(.sc (.int .i64)), (.sc (.int .i64)), (.sc (.int .i64))]), none⟩,
 ⟨some 133, .mov (.t 147), none⟩,
 ⟨some 148, .ext 0 (.t 133), none⟩,
 ⟨some 149, .ext 1 (.t 133), none⟩,
 ⟨some 150, .ext 2 (.t 133), none⟩,
 ⟨some 13, .mov (.t 148), none⟩,
 ⟨some 14, .mov (.t 149), none⟩,
 ⟨some 15, .mov (.t 150), none⟩] [2, 7, 8, 9, 13, 14, 15]) (.seq (.reg [⟨some 151, .mov (.t 13), none⟩,
 ⟨some 152, .mov (.t 7), none⟩,
 ⟨some 153, .mov (.t 2), none⟩,
 ⟨some 154, .bin .add .i64 (.t 152) (.t 153), none⟩,
 ⟨some 155, .cmp .eql (.t 151) (.t 154), none⟩,
 ⟨some 156, .mov (.t 155), none⟩,
 ⟨some 157, .mov (.t 14), some (156, true)⟩,
 ⟨some 158, .mov (.t 8), some (156, true)⟩,
 ⟨some 159, .cmp .eql (.t 157) (.t 158), some (156, true)⟩,
 ⟨some 160, .pick (.t 156) (.t 159) (.c (Go.Value.bool false)), none⟩,
 ⟨some 161, .mov (.t 160), none⟩,
 ⟨some 162, .mov (.t 15), some (161, true)⟩,
 ⟨some 163, .mov (.t 9), some (161, true)⟩,
 ⟨some 164, .cmp .eql (.t 162) (.t 163), some (161, true)⟩,
 ⟨some 165, .pick (.t 161) (.t 164) (.c (Go.Value.bool false)), none⟩,
 ⟨some 166, .mov (.t 165), none⟩,
 ⟨some 167, .call 12 [] (.one (.sc .bool)), some (166, true)⟩,
 ⟨some 168, .pick (.t 166) (.t 167) (.c (Go.Value.bool false)), none⟩,
 ⟨some 6, .mov (.t 168), none⟩] [6]) .ret)))))))))))))⟩
theorem L_ColorRestores_e4 {R : Type} (L_bounded : Int → Int → Int → Int → (Bool → Option R) → Option R) (L_exampleHoldsq : (Bool → Option R) → Option R) (color_Forward : Int → Int → Int → Int → Heap → (Int → Int → Int → Heap → Option R) → Option R) (color_Inverse : Int → Int → Int → Int → Heap → (Int → Int → Int → Heap → Option R) → Option R) (L_ColorRestores_p0 : Int → Int → Option Addr → Heap → (Int → Int → Option Addr → Bool → Option R) → Option R) (L_ColorRestores_p1 : Int → Int → Option Addr → Int → Int → Int → Int → Int → Int → Heap → (Int → Int → Option Addr → Int → Int → Int → Option R) → (Bool → Option R) → Option R) (L_ColorRestores_p2 : Int → Int → Option Addr → Int → Int → Int → Int → Int → Int → Heap → (Int → Int → Option Addr → Int → Int → Int → Option R) → (Bool → Option R) → Option R) (L_ColorRestores_p3 : Int → Int → Option Addr → Int → Int → Int → (Int → Int → Option Addr → Int → Int → Int → Bool → Option R) → Option R) (L_ColorRestores_p4 : Int → Int → Option Addr → Int → Int → Int → Int → Int → Int → (Int → Int → Option Addr → Int → Int → Int → Option R) → (Bool → Option R) → Option R) (k : Nat) (n431 : Int) (n432 : Int) (p433 : Option Addr) (n434 : Int) (n435 : Int) (n436 : Int) (n437 : Int) (n438 : Int) (n439 : Int) (H : Heap) (K : Xit → Env → Heap → Option R) : evJ (L_ColorRestores_Ct L_bounded L_exampleHoldsq color_Forward color_Inverse) (L_ColorRestores_Jt k L_ColorRestores_p0 L_ColorRestores_p1 L_ColorRestores_p2 L_ColorRestores_p3 L_ColorRestores_p4) L_ColorRestores_i4 (List.zip [0, 2, 4, 7, 8, 9, 13, 14, 15] [.int .i64 n431, .int .i64 n432, .pointer p433, .int .i64 n434, .int .i64 n435, .int .i64 n436, .int .i64 n437, .int .i64 n438, .int .i64 n439]) H (fun x e' H' => K x (clean e' ((⟨[0, 2, 4, 7, 8, 9], [], [6]⟩ : Out).of x)) H') = L_ColorRestores_p4_b k n431 n432 p433 n434 n435 n436 n437 n438 n439 (fun n1317 n1318 p1319 n1320 n1321 n1322 => K .normal [(0, .int .i64 n1317), (2, .int .i64 n1318), (4, .pointer p1319), (7, .int .i64 n1320), (8, .int .i64 n1321), (9, .int .i64 n1322)] H) (fun t1323 => K .ret [(6, .bool t1323)] H) := by kernel_rfl
theorem L_ColorRestores_j4 {R : Type} (k : Nat) : JS Try.prog 169 (L_ColorRestores_a4 R k k) [0, 2, 4, 7, 8, 9, 13, 14, 15] ⟨[0, 2, 4, 7, 8, 9], [], [6]⟩ (sel [1, 1, 1, 1, 1, 1, 1, 1, 1, 1, 0] (Try.f7.body.getD .skip)) :=
  piece_ok (nt := 169) (c := (sel [1, 1, 1, 1, 1, 1, 1, 1, 1, 1, 0] (Try.f7.body.getD .skip))) (C := L_ColorRestores_C R k) (an := An) (t := (.seq (.reg [0, 2, 4, 7, 8, 9, 132] []) (.cond (.seq (.reg [6] []) .leaf) .leaf))) (ic := L_ColorRestores_i4) (L_ColorRestores_S R k) (L_ColorRestores_J R k) (by kernel_rfl) (And.intro True.intro (And.intro (And.intro True.intro True.intro) True.intro)) (L_ColorRestores_a4 R k k)
    (fun vals H K r h => by
      unfold L_ColorRestores_a4 L_ColorRestores_aa4 at h
      split at h <;> first | (cases h; done) | exact Eq.trans (L_ColorRestores_e4 L_bounded L_exampleHoldsq color_Forward color_Inverse (L_ColorRestores_p0 k) (L_ColorRestores_p1 k) (L_ColorRestores_p2 k) (L_ColorRestores_p3 k) (L_ColorRestores_p4 k) k _ _ _ _ _ _ _ _ _ H K) h)
theorem L_ColorRestores_e3 {R : Type} (L_bounded : Int → Int → Int → Int → (Bool → Option R) → Option R) (L_exampleHoldsq : (Bool → Option R) → Option R) (color_Forward : Int → Int → Int → Int → Heap → (Int → Int → Int → Heap → Option R) → Option R) (color_Inverse : Int → Int → Int → Int → Heap → (Int → Int → Int → Heap → Option R) → Option R) (L_ColorRestores_p0 : Int → Int → Option Addr → Heap → (Int → Int → Option Addr → Bool → Option R) → Option R) (L_ColorRestores_p1 : Int → Int → Option Addr → Int → Int → Int → Int → Int → Int → Heap → (Int → Int → Option Addr → Int → Int → Int → Option R) → (Bool → Option R) → Option R) (L_ColorRestores_p2 : Int → Int → Option Addr → Int → Int → Int → Int → Int → Int → Heap → (Int → Int → Option Addr → Int → Int → Int → Option R) → (Bool → Option R) → Option R) (L_ColorRestores_p3 : Int → Int → Option Addr → Int → Int → Int → (Int → Int → Option Addr → Int → Int → Int → Bool → Option R) → Option R) (L_ColorRestores_p4 : Int → Int → Option Addr → Int → Int → Int → Int → Int → Int → (Int → Int → Option Addr → Int → Int → Int → Option R) → (Bool → Option R) → Option R) (k : Nat) (n406 : Int) (n407 : Int) (p408 : Option Addr) (n409 : Int) (n410 : Int) (n411 : Int) (H : Heap) (K : Xit → Env → Heap → Option R) : evJ (L_ColorRestores_Ct L_bounded L_exampleHoldsq color_Forward color_Inverse) (L_ColorRestores_Jt k L_ColorRestores_p0 L_ColorRestores_p1 L_ColorRestores_p2 L_ColorRestores_p3 L_ColorRestores_p4) L_ColorRestores_i3 (List.zip [0, 2, 4, 7, 8, 9] [.int .i64 n406, .int .i64 n407, .pointer p408, .int .i64 n409, .int .i64 n410, .int .i64 n411]) H (fun x e' H' => K x (clean e' ((⟨[0, 2, 4, 7, 8, 9, 111], [], []⟩ : Out).of x)) H') = L_ColorRestores_p3_b k n406 n407 p408 n409 n410 n411 (fun n1310 n1311 p1312 n1313 n1314 n1315 t1316 => K .normal [(0, .int .i64 n1310), (2, .int .i64 n1311), (4, .pointer p1312), (7, .int .i64 n1313), (8, .int .i64 n1314), (9, .int .i64 n1315), (111, .bool t1316)] H) := by kernel_rfl
theorem L_ColorRestores_j3 {R : Type} (k : Nat) : JS Try.prog 169 (L_ColorRestores_a3 R k k) [0, 2, 4, 7, 8, 9] ⟨[0, 2, 4, 7, 8, 9, 111], [], []⟩ (sel [1, 1, 1, 1, 1, 1, 1, 1, 0, 0] (Try.f7.body.getD .skip)) :=
  piece_ok (nt := 169) (c := (sel [1, 1, 1, 1, 1, 1, 1, 1, 0, 0] (Try.f7.body.getD .skip))) (C := L_ColorRestores_C R k) (an := An) (t := (.reg [0, 2, 4, 7, 8, 9, 111] [])) (ic := L_ColorRestores_i3) (L_ColorRestores_S R k) (L_ColorRestores_J R k) (by kernel_rfl) True.intro (L_ColorRestores_a3 R k k)
    (fun vals H K r h => by
      unfold L_ColorRestores_a3 L_ColorRestores_aa3 at h
      split at h <;> first | (cases h; done) | exact Eq.trans (L_ColorRestores_e3 L_bounded L_exampleHoldsq color_Forward color_Inverse (L_ColorRestores_p0 k) (L_ColorRestores_p1 k) (L_ColorRestores_p2 k) (L_ColorRestores_p3 k) (L_ColorRestores_p4 k) k _ _ _ _ _ _ H K) h)
theorem L_ColorRestores_e2 {R : Type} (L_bounded : Int → Int → Int → Int → (Bool → Option R) → Option R) (L_exampleHoldsq : (Bool → Option R) → Option R) (color_Forward : Int → Int → Int → Int → Heap → (Int → Int → Int → Heap → Option R) → Option R) (color_Inverse : Int → Int → Int → Int → Heap → (Int → Int → Int → Heap → Option R) → Option R) (L_ColorRestores_p0 : Int → Int → Option Addr → Heap → (Int → Int → Option Addr → Bool → Option R) → Option R) (L_ColorRestores_p1 : Int → Int → Option Addr → Int → Int → Int → Int → Int → Int → Heap → (Int → Int → Option Addr → Int → Int → Int → Option R) → (Bool → Option R) → Option R) (L_ColorRestores_p2 : Int → Int → Option Addr → Int → Int → Int → Int → Int → Int → Heap → (Int → Int → Option Addr → Int → Int → Int → Option R) → (Bool → Option R) → Option R) (L_ColorRestores_p3 : Int → Int → Option Addr → Int → Int → Int → (Int → Int → Option Addr → Int → Int → Int → Bool → Option R) → Option R) (L_ColorRestores_p4 : Int → Int → Option Addr → Int → Int → Int → Int → Int → Int → (Int → Int → Option Addr → Int → Int → Int → Option R) → (Bool → Option R) → Option R) (k : Nat) (n378 : Int) (n379 : Int) (p380 : Option Addr) (n381 : Int) (n382 : Int) (n383 : Int) (n384 : Int) (n385 : Int) (n386 : Int) (H : Heap) (K : Xit → Env → Heap → Option R) : evJ (L_ColorRestores_Ct L_bounded L_exampleHoldsq color_Forward color_Inverse) (L_ColorRestores_Jt k L_ColorRestores_p0 L_ColorRestores_p1 L_ColorRestores_p2 L_ColorRestores_p3 L_ColorRestores_p4) L_ColorRestores_i2 (List.zip [0, 2, 4, 7, 8, 9, 13, 14, 15] [.int .i64 n378, .int .i64 n379, .pointer p380, .int .i64 n381, .int .i64 n382, .int .i64 n383, .int .i64 n384, .int .i64 n385, .int .i64 n386]) H (fun x e' H' => K x (clean e' ((⟨[0, 2, 4, 7, 8, 9], [], [6]⟩ : Out).of x)) H') = L_ColorRestores_p2_b k n378 n379 p380 n381 n382 n383 n384 n385 n386 H (fun n1303 n1304 p1305 n1306 n1307 n1308 => K .normal [(0, .int .i64 n1303), (2, .int .i64 n1304), (4, .pointer p1305), (7, .int .i64 n1306), (8, .int .i64 n1307), (9, .int .i64 n1308)] H) (fun t1309 => K .ret [(6, .bool t1309)] H) := by kernel_rfl
theorem L_ColorRestores_j2 {R : Type} (k : Nat) : JS Try.prog 169 (L_ColorRestores_a2 R k k) [0, 2, 4, 7, 8, 9, 13, 14, 15] ⟨[0, 2, 4, 7, 8, 9], [], [6]⟩ (sel [1, 1, 1, 1, 1, 1, 1, 0] (Try.f7.body.getD .skip)) :=
  piece_ok (nt := 169) (c := (sel [1, 1, 1, 1, 1, 1, 1, 0] (Try.f7.body.getD .skip))) (C := L_ColorRestores_C R k) (an := An) (t := (.seq (.reg [0, 2, 4, 7, 8, 9, 105] []) (.cond (.seq (.reg [6] []) .leaf) .leaf))) (ic := L_ColorRestores_i2) (L_ColorRestores_S R k) (L_ColorRestores_J R k) (by kernel_rfl) (And.intro True.intro (And.intro (And.intro True.intro True.intro) True.intro)) (L_ColorRestores_a2 R k k)
    (fun vals H K r h => by
      unfold L_ColorRestores_a2 L_ColorRestores_aa2 at h
      split at h <;> first | (cases h; done) | exact Eq.trans (L_ColorRestores_e2 L_bounded L_exampleHoldsq color_Forward color_Inverse (L_ColorRestores_p0 k) (L_ColorRestores_p1 k) (L_ColorRestores_p2 k) (L_ColorRestores_p3 k) (L_ColorRestores_p4 k) k _ _ _ _ _ _ _ _ _ H K) h)
theorem L_ColorRestores_e1 {R : Type} (L_bounded : Int → Int → Int → Int → (Bool → Option R) → Option R) (L_exampleHoldsq : (Bool → Option R) → Option R) (color_Forward : Int → Int → Int → Int → Heap → (Int → Int → Int → Heap → Option R) → Option R) (color_Inverse : Int → Int → Int → Int → Heap → (Int → Int → Int → Heap → Option R) → Option R) (L_ColorRestores_p0 : Int → Int → Option Addr → Heap → (Int → Int → Option Addr → Bool → Option R) → Option R) (L_ColorRestores_p1 : Int → Int → Option Addr → Int → Int → Int → Int → Int → Int → Heap → (Int → Int → Option Addr → Int → Int → Int → Option R) → (Bool → Option R) → Option R) (L_ColorRestores_p2 : Int → Int → Option Addr → Int → Int → Int → Int → Int → Int → Heap → (Int → Int → Option Addr → Int → Int → Int → Option R) → (Bool → Option R) → Option R) (L_ColorRestores_p3 : Int → Int → Option Addr → Int → Int → Int → (Int → Int → Option Addr → Int → Int → Int → Bool → Option R) → Option R) (L_ColorRestores_p4 : Int → Int → Option Addr → Int → Int → Int → Int → Int → Int → (Int → Int → Option Addr → Int → Int → Int → Option R) → (Bool → Option R) → Option R) (k : Nat) (n336 : Int) (n337 : Int) (p338 : Option Addr) (n339 : Int) (n340 : Int) (n341 : Int) (n342 : Int) (n343 : Int) (n344 : Int) (H : Heap) (K : Xit → Env → Heap → Option R) : evJ (L_ColorRestores_Ct L_bounded L_exampleHoldsq color_Forward color_Inverse) (L_ColorRestores_Jt k L_ColorRestores_p0 L_ColorRestores_p1 L_ColorRestores_p2 L_ColorRestores_p3 L_ColorRestores_p4) L_ColorRestores_i1 (List.zip [0, 2, 4, 7, 8, 9, 10, 11, 12] [.int .i64 n336, .int .i64 n337, .pointer p338, .int .i64 n339, .int .i64 n340, .int .i64 n341, .int .i64 n342, .int .i64 n343, .int .i64 n344]) H (fun x e' H' => K x (clean e' ((⟨[0, 2, 4, 7, 8, 9], [], [6]⟩ : Out).of x)) H') = L_ColorRestores_p1_b k n336 n337 p338 n339 n340 n341 n342 n343 n344 H (fun n1296 n1297 p1298 n1299 n1300 n1301 => K .normal [(0, .int .i64 n1296), (2, .int .i64 n1297), (4, .pointer p1298), (7, .int .i64 n1299), (8, .int .i64 n1300), (9, .int .i64 n1301)] H) (fun t1302 => K .ret [(6, .bool t1302)] H) := by kernel_rfl
theorem L_ColorRestores_j1 {R : Type} (k : Nat) : JS Try.prog 169 (L_ColorRestores_a1 R k k) [0, 2, 4, 7, 8, 9, 10, 11, 12] ⟨[0, 2, 4, 7, 8, 9], [], [6]⟩ (sel [1, 1, 1, 1, 0] (Try.f7.body.getD .skip)) :=
  piece_ok (nt := 169) (c := (sel [1, 1, 1, 1, 0] (Try.f7.body.getD .skip))) (C := L_ColorRestores_C R k) (an := An) (t := (.seq (.reg [0, 2, 4, 7, 8, 9, 68] []) (.cond (.seq (.reg [6] []) .leaf) .leaf))) (ic := L_ColorRestores_i1) (L_ColorRestores_S R k) (L_ColorRestores_J R k) (by kernel_rfl) (And.intro True.intro (And.intro (And.intro True.intro True.intro) True.intro)) (L_ColorRestores_a1 R k k)
    (fun vals H K r h => by
      unfold L_ColorRestores_a1 L_ColorRestores_aa1 at h
      split at h <;> first | (cases h; done) | exact Eq.trans (L_ColorRestores_e1 L_bounded L_exampleHoldsq color_Forward color_Inverse (L_ColorRestores_p0 k) (L_ColorRestores_p1 k) (L_ColorRestores_p2 k) (L_ColorRestores_p3 k) (L_ColorRestores_p4 k) k _ _ _ _ _ _ _ _ _ H K) h)
theorem L_ColorRestores_e0 {R : Type} (L_bounded : Int → Int → Int → Int → (Bool → Option R) → Option R) (L_exampleHoldsq : (Bool → Option R) → Option R) (color_Forward : Int → Int → Int → Int → Heap → (Int → Int → Int → Heap → Option R) → Option R) (color_Inverse : Int → Int → Int → Int → Heap → (Int → Int → Int → Heap → Option R) → Option R) (L_ColorRestores_p0 : Int → Int → Option Addr → Heap → (Int → Int → Option Addr → Bool → Option R) → Option R) (L_ColorRestores_p1 : Int → Int → Option Addr → Int → Int → Int → Int → Int → Int → Heap → (Int → Int → Option Addr → Int → Int → Int → Option R) → (Bool → Option R) → Option R) (L_ColorRestores_p2 : Int → Int → Option Addr → Int → Int → Int → Int → Int → Int → Heap → (Int → Int → Option Addr → Int → Int → Int → Option R) → (Bool → Option R) → Option R) (L_ColorRestores_p3 : Int → Int → Option Addr → Int → Int → Int → (Int → Int → Option Addr → Int → Int → Int → Bool → Option R) → Option R) (L_ColorRestores_p4 : Int → Int → Option Addr → Int → Int → Int → Int → Int → Int → (Int → Int → Option Addr → Int → Int → Int → Option R) → (Bool → Option R) → Option R) (k : Nat) (n302 : Int) (n303 : Int) (p304 : Option Addr) (H : Heap) (K : Xit → Env → Heap → Option R) : evJ (L_ColorRestores_Ct L_bounded L_exampleHoldsq color_Forward color_Inverse) (L_ColorRestores_Jt k L_ColorRestores_p0 L_ColorRestores_p1 L_ColorRestores_p2 L_ColorRestores_p3 L_ColorRestores_p4) L_ColorRestores_i0 (List.zip [0, 2, 4] [.int .i64 n302, .int .i64 n303, .pointer p304]) H (fun x e' H' => K x (clean e' ((⟨[0, 2, 4, 30], [], []⟩ : Out).of x)) H') = L_ColorRestores_p0_b L_bounded k n302 n303 p304 H (fun n1292 n1293 p1294 t1295 => K .normal [(0, .int .i64 n1292), (2, .int .i64 n1293), (4, .pointer p1294), (30, .bool t1295)] H) := by kernel_rfl
theorem L_ColorRestores_j0 {R : Type} (k : Nat) : JS Try.prog 169 (L_ColorRestores_a0 R k k) [0, 2, 4] ⟨[0, 2, 4, 30], [], []⟩ (sel [1, 0, 0] (Try.f7.body.getD .skip)) :=
  piece_ok (nt := 169) (c := (sel [1, 0, 0] (Try.f7.body.getD .skip))) (C := L_ColorRestores_C R k) (an := An) (t := (.reg [0, 2, 4, 30] [])) (ic := L_ColorRestores_i0) (L_ColorRestores_S R k) (L_ColorRestores_J R k) (by kernel_rfl) True.intro (L_ColorRestores_a0 R k k)
    (fun vals H K r h => by
      unfold L_ColorRestores_a0 L_ColorRestores_aa0 at h
      split at h <;> first | (cases h; done) | exact Eq.trans (L_ColorRestores_e0 L_bounded L_exampleHoldsq color_Forward color_Inverse (L_ColorRestores_p0 k) (L_ColorRestores_p1 k) (L_ColorRestores_p2 k) (L_ColorRestores_p3 k) (L_ColorRestores_p4 k) k _ _ _ H K) h)
def L_ColorRestores_ca {R : Type} (f : Int → Int → Int → Int → Int → Heap → (Bool → Heap → Option R) → Option R) (args : List Value) (H : Heap) (K : Value → Heap → Option R) : Option R :=
  match args with
  | [.int .i64 n295, .agg ⟨[.int .i64 n296, .int .i64 n297, .int .i64 n298]⟩, .int .i64 n299] => f n295 n296 n297 n298 n299 H (fun t1324 H => K (.bool t1324) H)
  | _ => none
def L_ColorRestores_c (R : Type) (k : Nat) (args : List Value) (H : Heap) (K : Value → Heap → Option R) : Option R := L_ColorRestores_ca (L_ColorRestores k) args H K
theorem L_ColorRestores_e {R : Type} (L_bounded : Int → Int → Int → Int → (Bool → Option R) → Option R) (L_exampleHoldsq : (Bool → Option R) → Option R) (color_Forward : Int → Int → Int → Int → Heap → (Int → Int → Int → Heap → Option R) → Option R) (color_Inverse : Int → Int → Int → Int → Heap → (Int → Int → Int → Heap → Option R) → Option R) (L_ColorRestores_p0 : Int → Int → Option Addr → Heap → (Int → Int → Option Addr → Bool → Option R) → Option R) (L_ColorRestores_p1 : Int → Int → Option Addr → Int → Int → Int → Int → Int → Int → Heap → (Int → Int → Option Addr → Int → Int → Int → Option R) → (Bool → Option R) → Option R) (L_ColorRestores_p2 : Int → Int → Option Addr → Int → Int → Int → Int → Int → Int → Heap → (Int → Int → Option Addr → Int → Int → Int → Option R) → (Bool → Option R) → Option R) (L_ColorRestores_p3 : Int → Int → Option Addr → Int → Int → Int → (Int → Int → Option Addr → Int → Int → Int → Bool → Option R) → Option R) (L_ColorRestores_p4 : Int → Int → Option Addr → Int → Int → Int → Int → Int → Int → (Int → Int → Option Addr → Int → Int → Int → Option R) → (Bool → Option R) → Option R) (k : Nat) (n295 : Int) (n296 : Int) (n297 : Int) (n298 : Int) (n299 : Int) (H : Heap) (K : Value → Heap → Option R) : evF (L_ColorRestores_Ct L_bounded L_exampleHoldsq color_Forward color_Inverse) (L_ColorRestores_Jt k L_ColorRestores_p0 L_ColorRestores_p1 L_ColorRestores_p2 L_ColorRestores_p3 L_ColorRestores_p4) L_ColorRestores_f [.int .i64 n295, .agg ⟨[.int .i64 n296, .int .i64 n297, .int .i64 n298]⟩, .int .i64 n299] H K = L_ColorRestores_b L_ColorRestores_p0 L_exampleHoldsq color_Forward color_Inverse L_ColorRestores_p1 L_ColorRestores_p2 L_ColorRestores_p3 L_ColorRestores_p4 k n295 n296 n297 n298 n299 H (fun t1324 H => K (.bool t1324) H) := by kernel_rfl
theorem L_ColorRestores_cs (R : Type) (k : Nat) : ∀ args H K r, L_ColorRestores_c R k args H K = some r → ∃ v H', Tri Try.prog 7 args H v H' ∧ K v H' = some r := by
  intro args H K r h
  unfold L_ColorRestores_c L_ColorRestores_ca at h
  split at h
  · exact evF_ok (C := L_ColorRestores_C R k) (an := An) (t := L_ColorRestores_at) (fn := Try.f7) (c := (Try.f7.body.getD .skip)) (ifn := L_ColorRestores_f) (L_ColorRestores_S R k) (L_ColorRestores_J R k) Try.func7 (by kernel_rfl) (by kernel_rfl) (And.intro True.intro (And.intro (And.intro (L_ColorRestores_j0 k) (And.intro (And.intro True.intro True.intro) True.intro)) (And.intro True.intro (And.intro True.intro (And.intro (L_ColorRestores_j1 k) (And.intro True.intro (And.intro True.intro (And.intro (L_ColorRestores_j2 k) (And.intro (And.intro (L_ColorRestores_j3 k) (And.intro (And.intro True.intro True.intro) True.intro)) (And.intro True.intro (And.intro (L_ColorRestores_j4 k) (And.intro True.intro (And.intro True.intro True.intro))))))))))))) rfl (Eq.trans (L_ColorRestores_e L_bounded L_exampleHoldsq color_Forward color_Inverse (L_ColorRestores_p0 k) (L_ColorRestores_p1 k) (L_ColorRestores_p2 k) (L_ColorRestores_p3 k) (L_ColorRestores_p4 k) k _ _ _ _ _ H K) h)
  · cases h
end Go.Proofs.Ytoeoolnkndkefaa.Sh
