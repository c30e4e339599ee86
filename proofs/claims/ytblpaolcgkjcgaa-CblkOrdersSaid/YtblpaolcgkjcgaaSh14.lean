/- Lean functions that stand for Go's, over an explicit heap, and the proofs that they do (written by this claim's program shallow.py). -/
import Derived.Test.YtblpaolcgkjcgaaSh0
import Derived.Test.YtblpaolcgkjcgaaSh1
import Derived.Test.YtblpaolcgkjcgaaSh2
set_option maxRecDepth 100000
set_option linter.unusedVariables false
set_option linter.unusedSimpArgs false
namespace Go.Proofs.Ytblpaolcgkjcgaa.Sh
open Go.Proofs.Ytblpaolcgkjcgaa.FW
/-! ### L_CblkOrders: function 5 -/
def L_CblkOrders_p1_b {R : Type} (k : Nat) (n102 : Int) (p103 : Option Addr) (n104 : Int) (n105 : Int) (q106 : Option Addr) (l107 : Nat) (c108 : Nat) (q109 : Option Addr) (l110 : Nat) (c111 : Nat) (n112 : Int) (p113 : Option Addr) (H : Heap) (KN : Int → Option Addr → Int → Int → Option Addr → Nat → Nat → Option Addr → Nat → Nat → Int → Option Addr → Option R) (KR : Bool → Option R) : Option R :=
hfad 0 p113 fun p114 =>
ldI .i64 H p114 fun n115 =>
bif decide (n115 < 0) then (KR false)
 else (hfad 0 p113 fun p116 =>
ldI .i64 H p116 fun n117 =>
bif decide (n117 ≥ n104) then (KR false)
 else (hfad 1 p113 fun p118 =>
ldI .i64 H p118 fun n119 =>
bif decide (n119 < 0) then (KR false)
 else (hfad 1 p113 fun p120 =>
ldI .i64 H p120 fun n121 =>
bif decide (n121 ≥ n105) then (KR false)
 else (hfad 1 p113 fun p122 =>
ldI .i64 H p122 fun n123 =>
hfad 0 p113 fun p124 =>
ldI .i64 H p124 fun n125 =>
hidx q109 l110 (IntKind.wrap .i64 ((IntKind.wrap .i64 (n123 * n104)) + n125)) 1 fun p126 =>
ldB H p126 fun t127 =>
bif t127 then (KR false)
 else (KN n102 p103 n104 n105 q106 l107 c108 q109 l110 c111 n112 p113)))))
def L_CblkOrders_p1 {R : Type} (k : Nat) (n102 : Int) (p103 : Option Addr) (n104 : Int) (n105 : Int) (q106 : Option Addr) (l107 : Nat) (c108 : Nat) (q109 : Option Addr) (l110 : Nat) (c111 : Nat) (n112 : Int) (p113 : Option Addr) (H : Heap) (KN : Int → Option Addr → Int → Int → Option Addr → Nat → Nat → Option Addr → Nat → Nat → Int → Option Addr → Option R) (KR : Bool → Option R) : Option R := L_CblkOrders_p1_b k n102 p103 n104 n105 q106 l107 c108 q109 l110 c111 n112 p113 H KN KR

def L_CblkOrders_l0_b {R : Type} (L_CblkOrders_p1 : Int → Option Addr → Int → Int → Option Addr → Nat → Nat → Option Addr → Nat → Nat → Int → Option Addr → Heap → (Int → Option Addr → Int → Int → Option Addr → Nat → Nat → Option Addr → Nat → Nat → Int → Option Addr → Option R) → (Bool → Option R) → Option R) (rec : Int → Option Addr → Int → Int → Option Addr → Nat → Nat → Option Addr → Nat → Nat → Int → Heap → Option R) (KE0 : Int → Option Addr → Int → Int → Option Addr → Nat → Nat → Heap → Option R) (KR : Bool → Heap → Option R) (k : Nat) (n85 : Int) (p86 : Option Addr) (n87 : Int) (n88 : Int) (q89 : Option Addr) (l90 : Nat) (c91 : Nat) (q92 : Option Addr) (l93 : Nat) (c94 : Nat) (n95 : Int) (H : Heap) : Option R :=
bif decide (n95 < ((l90 : Nat) : Int)) then (hidx q89 l90 n95 2 fun p96 =>
ldI .i64 H (pad p96 0) fun n97 =>
ldI .i64 H (pad p96 1) fun n98 =>
hal H [.int .i64 0, .int .i64 0] fun p99 H100 =>
hst H100 p99 [.int .i64 n97, .int .i64 n98] fun H101 =>
L_CblkOrders_p1 n85 p86 n87 n88 q89 l90 c91 q92 l93 c94 n95 p99 H101 (fun n141 p142 n143 n144 q145 l146 c147 q148 l149 c150 n151 p152 =>
hfad 1 p152 fun p153 =>
ldI .i64 H101 p153 fun n154 =>
hfad 0 p152 fun p155 =>
ldI .i64 H101 p155 fun n156 =>
hidx q148 l149 (IntKind.wrap .i64 ((IntKind.wrap .i64 (n154 * n143)) + n156)) 1 fun p157 =>
hst1 H101 p157 (.bool true) fun H158 =>
rec n141 p142 n143 n144 q145 l146 c147 q148 l149 c150 (IntKind.wrap .i64 (n151 + 1)) H158) (fun t159 =>
KR t159 H101))
 else (KE0 n85 p86 n87 n88 q89 l90 c91 H)
def L_CblkOrders_l0 {R : Type} (k : Nat) (KE0 : Int → Option Addr → Int → Int → Option Addr → Nat → Nat → Heap → Option R) (KR : Bool → Heap → Option R) : Nat → Int → Option Addr → Int → Int → Option Addr → Nat → Nat → Option Addr → Nat → Nat → Int → Heap → Option R
  | 0, _, _, _, _, _, _, _, _, _, _, _, _ => none
  | n + 1, n85, p86, n87, n88, q89, l90, c91, q92, l93, c94, n95, H => L_CblkOrders_l0_b (L_CblkOrders_p1 k) (L_CblkOrders_l0 k KE0 KR n) KE0 KR k n85 p86 n87 n88 q89 l90 c91 q92 l93 c94 n95 H

def L_CblkOrders_p3_b {R : Type} (k : Nat) (p197 : Option Addr) (n198 : Int) (n199 : Int) (q200 : Option Addr) (l201 : Nat) (c202 : Nat) (n203 : Int) (q204 : Option Addr) (l205 : Nat) (c206 : Nat) (n207 : Int) (n208 : Int) (H : Heap) (KN : Option Addr → Int → Int → Option Addr → Nat → Nat → Int → Option Addr → Nat → Nat → Int → Int → Option R) (KR : Bool → Option R) : Option R :=
hidx q204 l205 n208 1 fun p209 =>
ldI .i64 H p209 fun n210 =>
bif decide (n210 < 1) then (KR false)
 else (hidx q204 l205 n208 1 fun p211 =>
ldI .i64 H p211 fun n212 =>
bif decide ((IntKind.wrap .i64 (n207 + n212)) > n203) then (KR false)
 else (KN p197 n198 n199 q200 l201 c202 n203 q204 l205 c206 n207 n208))
def L_CblkOrders_p3 {R : Type} (k : Nat) (p197 : Option Addr) (n198 : Int) (n199 : Int) (q200 : Option Addr) (l201 : Nat) (c202 : Nat) (n203 : Int) (q204 : Option Addr) (l205 : Nat) (c206 : Nat) (n207 : Int) (n208 : Int) (H : Heap) (KN : Option Addr → Int → Int → Option Addr → Nat → Nat → Int → Option Addr → Nat → Nat → Int → Int → Option R) (KR : Bool → Option R) : Option R := L_CblkOrders_p3_b k p197 n198 n199 q200 l201 c202 n203 q204 l205 c206 n207 n208 H KN KR

def L_CblkOrders_l4_b {R : Type} (cblk_Raw : Int → Bool → Bool → Bool → Bool → Bool → Heap → (Bool → Heap → Option R) → Option R) (rec : Option Addr → Int → Int → Option Addr → Nat → Nat → Int → Option Addr → Nat → Nat → Int → Int → Int → Heap → Option R) (KE4 : Option Addr → Int → Int → Option Addr → Nat → Nat → Int → Option Addr → Nat → Nat → Int → Int → Heap → Option R) (KR : Bool → Heap → Option R) (k : Nat) (p238 : Option Addr) (n239 : Int) (n240 : Int) (q241 : Option Addr) (l242 : Nat) (c243 : Nat) (n244 : Int) (q245 : Option Addr) (l246 : Nat) (c247 : Nat) (n248 : Int) (n249 : Int) (n250 : Int) (H : Heap) : Option R :=
hidx q245 l246 n249 1 fun p251 =>
ldI .i64 H p251 fun n252 =>
bif decide (n250 < (IntKind.wrap .i64 (n248 + n252))) then (ldB H (pad p238 0) fun t253 =>
ldB H (pad p238 1) fun t254 =>
ldB H (pad p238 2) fun t255 =>
ldB H (pad p238 3) fun t256 =>
ldB H (pad p238 4) fun t257 =>
cblk_Raw n250 t253 t254 t255 t256 t257 (roH H) fun t258 H259 =>
ldB H (pad p238 0) fun t260 =>
ldB H (pad p238 1) fun t261 =>
ldB H (pad p238 2) fun t262 =>
ldB H (pad p238 3) fun t263 =>
ldB H (pad p238 4) fun t264 =>
cblk_Raw n248 t260 t261 t262 t263 t264 H fun t265 H266 =>
bif !(t258 == t265) then (KR false H266)
 else (rec p238 n239 n240 q241 l242 c243 n244 q245 l246 c247 n248 n249 (IntKind.wrap .i64 (n250 + 1)) H266))
 else (KE4 p238 n239 n240 q241 l242 c243 n244 q245 l246 c247 n248 n249 H)
def L_CblkOrders_l4 {R : Type} (k : Nat) (KE4 : Option Addr → Int → Int → Option Addr → Nat → Nat → Int → Option Addr → Nat → Nat → Int → Int → Heap → Option R) (KR : Bool → Heap → Option R) : Nat → Option Addr → Int → Int → Option Addr → Nat → Nat → Int → Option Addr → Nat → Nat → Int → Int → Int → Heap → Option R
  | 0, _, _, _, _, _, _, _, _, _, _, _, _, _, _ => none
  | n + 1, p238, n239, n240, q241, l242, c243, n244, q245, l246, c247, n248, n249, n250, H => L_CblkOrders_l4_b (cblk_Raw k) (L_CblkOrders_l4 k KE4 KR n) KE4 KR k p238 n239 n240 q241 l242 c243 n244 q245 l246 c247 n248 n249 n250 H

def L_CblkOrders_l2_b {R : Type} (L_CblkOrders_p3 : Option Addr → Int → Int → Option Addr → Nat → Nat → Int → Option Addr → Nat → Nat → Int → Int → Heap → (Option Addr → Int → Int → Option Addr → Nat → Nat → Int → Option Addr → Nat → Nat → Int → Int → Option R) → (Bool → Option R) → Option R) (L_CblkOrders_l4 : (Option Addr → Int → Int → Option Addr → Nat → Nat → Int → Option Addr → Nat → Nat → Int → Int → Heap → Option R) → (Bool → Heap → Option R) → Nat → Option Addr → Int → Int → Option Addr → Nat → Nat → Int → Option Addr → Nat → Nat → Int → Int → Int → Heap → Option R) (rec : Option Addr → Int → Int → Option Addr → Nat → Nat → Int → Option Addr → Nat → Nat → Int → Int → Heap → Option R) (KE2 : Option Addr → Int → Int → Option Addr → Nat → Nat → Int → Option Addr → Nat → Nat → Int → Heap → Option R) (KR : Bool → Heap → Option R) (k : Nat) (p185 : Option Addr) (n186 : Int) (n187 : Int) (q188 : Option Addr) (l189 : Nat) (c190 : Nat) (n191 : Int) (q192 : Option Addr) (l193 : Nat) (c194 : Nat) (n195 : Int) (n196 : Int) (H : Heap) : Option R :=
bif decide (n196 < ((l193 : Nat) : Int)) then (L_CblkOrders_p3 p185 n186 n187 q188 l189 c190 n191 q192 l193 c194 n195 n196 H (fun p226 n227 n228 q229 l230 c231 n232 q233 l234 c235 n236 n237 =>
L_CblkOrders_l4 (fun p280 n281 n282 q283 l284 c285 n286 q287 l288 c289 n290 n291 H292 =>
hidx q287 l288 n291 1 fun p293 =>
ldI .i64 H292 p293 fun n294 =>
rec p280 n281 n282 q283 l284 c285 n286 q287 l288 c289 (IntKind.wrap .i64 (n290 + n294)) (IntKind.wrap .i64 (n291 + 1)) H292) (fun t295 H296 =>
KR t295 H296) k p226 n227 n228 q229 l230 c231 n232 q233 l234 c235 n236 n237 n236 H) (fun t297 =>
KR t297 H))
 else (KE2 p185 n186 n187 q188 l189 c190 n191 q192 l193 c194 n195 H)
def L_CblkOrders_l2 {R : Type} (k : Nat) (KE2 : Option Addr → Int → Int → Option Addr → Nat → Nat → Int → Option Addr → Nat → Nat → Int → Heap → Option R) (KR : Bool → Heap → Option R) : Nat → Option Addr → Int → Int → Option Addr → Nat → Nat → Int → Option Addr → Nat → Nat → Int → Int → Heap → Option R
  | 0, _, _, _, _, _, _, _, _, _, _, _, _, _ => none
  | n + 1, p185, n186, n187, q188, l189, c190, n191, q192, l193, c194, n195, n196, H => L_CblkOrders_l2_b (L_CblkOrders_p3 k) (L_CblkOrders_l4 k) (L_CblkOrders_l2 k KE2 KR n) KE2 KR k p185 n186 n187 q188 l189 c190 n191 q192 l193 c194 n195 n196 H

def L_CblkOrders_p5_b {R : Type} (k : Nat) (p322 : Option Addr) (n323 : Int) (n324 : Int) (q325 : Option Addr) (l326 : Nat) (c327 : Nat) (n328 : Int) (q329 : Option Addr) (l330 : Nat) (c331 : Nat) (n332 : Int) (KN : Option Addr → Int → Option Addr → Nat → Nat → Option R) (KR : Bool → Option R) : Option R :=
bif (n332 != n328) then (KR false)
 else (bif (((l326 : Nat) : Int) != (IntKind.wrap .i64 (n323 * n324))) then (KR false)
 else (KN p322 n328 q329 l330 c331))
def L_CblkOrders_p5 {R : Type} (k : Nat) (p322 : Option Addr) (n323 : Int) (n324 : Int) (q325 : Option Addr) (l326 : Nat) (c327 : Nat) (n328 : Int) (q329 : Option Addr) (l330 : Nat) (c331 : Nat) (n332 : Int) (KN : Option Addr → Int → Option Addr → Nat → Nat → Option R) (KR : Bool → Option R) : Option R := L_CblkOrders_p5_b k p322 n323 n324 q325 l326 c327 n328 q329 l330 c331 n332 KN KR

def L_CblkOrders_p7_b {R : Type} (k : Nat) (n361 : Int) (q362 : Option Addr) (l363 : Nat) (c364 : Nat) (q365 : Option Addr) (l366 : Nat) (c367 : Nat) (n368 : Int) (H : Heap) (KN : Int → Option Addr → Nat → Nat → Option Addr → Nat → Nat → Int → Option R) (KR : Bool → Option R) : Option R :=
bif decide (n368 ≥ ((l366 : Nat) : Int)) then (KR false)
 else (hidx q365 l366 n368 1 fun p369 =>
ldI .i64 H p369 fun n370 =>
hidx q362 l363 n368 1 fun p371 =>
ldI .i64 H p371 fun n372 =>
bif (n370 != n372) then (KR false)
 else (KN n361 q362 l363 c364 q365 l366 c367 n368))
def L_CblkOrders_p7 {R : Type} (k : Nat) (n361 : Int) (q362 : Option Addr) (l363 : Nat) (c364 : Nat) (q365 : Option Addr) (l366 : Nat) (c367 : Nat) (n368 : Int) (H : Heap) (KN : Int → Option Addr → Nat → Nat → Option Addr → Nat → Nat → Int → Option R) (KR : Bool → Option R) : Option R := L_CblkOrders_p7_b k n361 q362 l363 c364 q365 l366 c367 n368 H KN KR

def L_CblkOrders_l6_b {R : Type} (L_CblkOrders_p7 : Int → Option Addr → Nat → Nat → Option Addr → Nat → Nat → Int → Heap → (Int → Option Addr → Nat → Nat → Option Addr → Nat → Nat → Int → Option R) → (Bool → Option R) → Option R) (rec : Int → Option Addr → Nat → Nat → Option Addr → Nat → Nat → Int → Heap → Option R) (KE6 : Int → Option R) (KR : Bool → Option R) (k : Nat) (n353 : Int) (q354 : Option Addr) (l355 : Nat) (c356 : Nat) (q357 : Option Addr) (l358 : Nat) (c359 : Nat) (n360 : Int) (H : Heap) : Option R :=
bif decide ((IntKind.wrap .i64 (n360 + 1)) < ((l355 : Nat) : Int)) then (L_CblkOrders_p7 n353 q354 l355 c356 q357 l358 c359 n360 H (fun n382 q383 l384 c385 q386 l387 c388 n389 =>
rec n382 q383 l384 c385 q386 l387 c388 (IntKind.wrap .i64 (n389 + 1)) H) (fun t390 =>
KR t390))
 else (KE6 n353)
def L_CblkOrders_l6 {R : Type} (k : Nat) (KE6 : Int → Option R) (KR : Bool → Option R) : Nat → Int → Option Addr → Nat → Nat → Option Addr → Nat → Nat → Int → Heap → Option R
  | 0, _, _, _, _, _, _, _, _, _ => none
  | n + 1, n353, q354, l355, c356, q357, l358, c359, n360, H => L_CblkOrders_l6_b (L_CblkOrders_p7 k) (L_CblkOrders_l6 k KE6 KR n) KE6 KR k n353 q354 l355 c356 q357 l358 c359 n360 H

def L_CblkOrders_b {R : Type} (cblk_Scan : Int → Int → Heap → (Option Addr → Nat → Nat → Heap → Option R) → Option R) (L_CblkOrders_l0 : (Int → Option Addr → Int → Int → Option Addr → Nat → Nat → Heap → Option R) → (Bool → Heap → Option R) → Nat → Int → Option Addr → Int → Int → Option Addr → Nat → Nat → Option Addr → Nat → Nat → Int → Heap → Option R) (cblk_Segments : Int → Bool → Bool → Bool → Bool → Bool → Heap → (Option Addr → Nat → Nat → Heap → Option R) → Option R) (L_CblkOrders_l2 : (Option Addr → Int → Int → Option Addr → Nat → Nat → Int → Option Addr → Nat → Nat → Int → Heap → Option R) → (Bool → Heap → Option R) → Nat → Option Addr → Int → Int → Option Addr → Nat → Nat → Int → Option Addr → Nat → Nat → Int → Int → Heap → Option R) (L_CblkOrders_p5 : Option Addr → Int → Int → Option Addr → Nat → Nat → Int → Option Addr → Nat → Nat → Int → (Option Addr → Int → Option Addr → Nat → Nat → Option R) → (Bool → Option R) → Option R) (L_CblkOrders_l6 : (Int → Option R) → (Bool → Option R) → Nat → Int → Option Addr → Nat → Nat → Option Addr → Nat → Nat → Int → Heap → Option R) (cblk_Pass : Int → (Int → Int → Option R) → Option R) (L_exampleHoldsq : (Bool → Option R) → Option R) (k : Nat) (n61 : Int) (n62 : Int) (n63 : Int) (t64 : Bool) (t65 : Bool) (t66 : Bool) (t67 : Bool) (t68 : Bool) (H : Heap) (K : Bool → Heap → Option R) : Option R :=
hal H [.int .u8 n61, .int .u8 n62] fun p69 H70 =>
hal H70 [.bool t64, .bool t65, .bool t66, .bool t67, .bool t68] fun p71 H72 =>
hidx p69 2 0 1 fun p73 =>
ldI .u8 H72 p73 fun n74 =>
hidx p69 2 1 1 fun p75 =>
ldI .u8 H72 p75 fun n76 =>
cblk_Scan (IntKind.wrap .i64 ((Int.tmod (IntKind.wrap .i64 n74) 64) + 1)) (IntKind.wrap .i64 ((Int.tmod (IntKind.wrap .i64 n76) 64) + 1)) H72 fun q77 l78 c79 H80 =>
hmk [.bool false] 1 H80 (IntKind.wrap .i64 ((IntKind.wrap .i64 ((Int.tmod (IntKind.wrap .i64 n74) 64) + 1)) * (IntKind.wrap .i64 ((Int.tmod (IntKind.wrap .i64 n76) 64) + 1)))) (IntKind.wrap .i64 ((IntKind.wrap .i64 ((Int.tmod (IntKind.wrap .i64 n74) 64) + 1)) * (IntKind.wrap .i64 ((Int.tmod (IntKind.wrap .i64 n76) 64) + 1)))) fun q81 l82 c83 H84 =>
L_CblkOrders_l0 (fun n168 p169 n170 n171 q172 l173 c174 H175 =>
ldB H175 (pad p169 0) fun t176 =>
ldB H175 (pad p169 1) fun t177 =>
ldB H175 (pad p169 2) fun t178 =>
ldB H175 (pad p169 3) fun t179 =>
ldB H175 (pad p169 4) fun t180 =>
cblk_Segments (IntKind.wrap .i64 ((Int.tmod (IntKind.wrap .i64 n168) 178) + 1)) t176 t177 t178 t179 t180 H175 fun q181 l182 c183 H184 =>
L_CblkOrders_l2 (fun p310 n311 n312 q313 l314 c315 n316 q317 l318 c319 n320 H321 =>
L_CblkOrders_p5 p310 n311 n312 q313 l314 c315 n316 q317 l318 c319 n320 (fun p339 n340 q341 l342 c343 =>
ldB H321 (pad p339 0) fun t344 =>
ldB H321 (pad p339 1) fun t345 =>
ldB H321 (pad p339 2) fun t346 =>
ldB H321 (pad p339 3) fun t347 =>
ldB H321 (pad p339 4) fun t348 =>
cblk_Segments (imn (IntKind.wrap .i64 (n340 + 1)) 178) t344 t345 t346 t347 t348 H321 fun q349 l350 c351 H352 =>
L_CblkOrders_l6 (fun n393 =>
cblk_Pass (IntKind.wrap .i64 (3 * (Int.tmod n393 60))) fun n394 n395 =>
cblk_Pass (IntKind.wrap .i64 ((IntKind.wrap .i64 (3 * (Int.tmod n393 60))) + 1)) fun n396 n397 =>
bif (n394 == (Int.tmod n393 60)) then (bif (n395 == 2) then (bif (n396 == (IntKind.wrap .i64 ((Int.tmod n393 60) + 1))) then (bif (n397 == 0) then (L_exampleHoldsq fun t398 =>
K t398 H352)
 else (K false H352))
 else (K false H352))
 else (K false H352))
 else (K false H352)) (fun t399 =>
K t399 H352) k n340 q341 l342 c343 q349 l350 c351 0 H352) (fun t400 =>
K t400 H321)) (fun t401 H402 =>
K t401 H402) k p169 n170 n171 q172 l173 c174 (IntKind.wrap .i64 ((Int.tmod (IntKind.wrap .i64 n168) 178) + 1)) q181 l182 c183 0 0 H184) (fun t403 H404 =>
K t403 H404) k n63 p71 (IntKind.wrap .i64 ((Int.tmod (IntKind.wrap .i64 n74) 64) + 1)) (IntKind.wrap .i64 ((Int.tmod (IntKind.wrap .i64 n76) 64) + 1)) q77 l78 c79 q81 l82 c83 0 H84

def L_CblkOrders {R : Type} (k : Nat) (n61 : Int) (n62 : Int) (n63 : Int) (t64 : Bool) (t65 : Bool) (t66 : Bool) (t67 : Bool) (t68 : Bool) (H : Heap) (K : Bool → Heap → Option R) : Option R := L_CblkOrders_b (cblk_Scan k) (L_CblkOrders_l0 k) (cblk_Segments k) (L_CblkOrders_l2 k) (L_CblkOrders_p5 k) (L_CblkOrders_l6 k) cblk_Pass L_exampleHoldsq k n61 n62 n63 t64 t65 t66 t67 t68 H K

def L_CblkOrders_Ct {R : Type} (cblk_Scan : Int → Int → Heap → (Option Addr → Nat → Nat → Heap → Option R) → Option R) (cblk_Segments : Int → Bool → Bool → Bool → Bool → Bool → Heap → (Option Addr → Nat → Nat → Heap → Option R) → Option R) (cblk_Raw : Int → Bool → Bool → Bool → Bool → Bool → Heap → (Bool → Heap → Option R) → Option R) (cblk_Pass : Int → (Int → Int → Option R) → Option R) (L_exampleHoldsq : (Bool → Option R) → Option R) : Tab R := tcons 12 (cblk_Scan_ca cblk_Scan) <| tcons 20 (cblk_Segments_ca cblk_Segments) <| tcons 17 (cblk_Raw_ca cblk_Raw) <| tcons 15 (cblk_Pass_ca cblk_Pass) <| tcons 14 (L_exampleHoldsq_ca L_exampleHoldsq) <| fun _ _ _ _ => none
def L_CblkOrders_C (R : Type) (k : Nat) : Tab R := L_CblkOrders_Ct (cblk_Scan k) (cblk_Segments k) (cblk_Raw k) cblk_Pass L_exampleHoldsq
theorem L_CblkOrders_S (R : Type) (k : Nat) : CSound Try.prog (L_CblkOrders_C R k) := csound_cons (cblk_Scan_cs R k) <| csound_cons (cblk_Segments_cs R k) <| csound_cons (cblk_Raw_cs R k) <| csound_cons (cblk_Pass_cs R k) <| csound_cons (L_exampleHoldsq_cs R k) <| csound_nil
def L_CblkOrders_aa0 {R : Type} (f : (Int → Option Addr → Int → Int → Option Addr → Nat → Nat → Heap → Option R) → (Bool → Heap → Option R) → Nat → Int → Option Addr → Int → Int → Option Addr → Nat → Nat → Option Addr → Nat → Nat → Int → Heap → Option R) (n : Nat) (vals : List Value) (H : Heap) (K : Xit → Env → Heap → Option R) : Option R :=
  match vals with
  | [.int .u8 n85, .pointer p86, .int .i64 n87, .int .i64 n88, .slice q89 l90 c91, .slice q92 l93 c94, .int .i64 n95] => f (fun n1254 p1255 n1256 n1257 q1258 l1259 c1260 H => K (.exit 0) [(1, .int .u8 n1254), (5, .pointer p1255), (7, .int .i64 n1256), (8, .int .i64 n1257), (9, .slice q1258 l1259 c1260)] H) (fun t1261 H => K .ret [(6, .bool t1261)] H) n n85 p86 n87 n88 q89 l90 c91 q92 l93 c94 n95 H
  | _ => none
def L_CblkOrders_a0 (R : Type) (k n : Nat) (vals : List Value) (H : Heap) (K : Xit → Env → Heap → Option R) : Option R := L_CblkOrders_aa0 (L_CblkOrders_l0 k) n vals H K
def L_CblkOrders_aa1 {R : Type} (f : Int → Option Addr → Int → Int → Option Addr → Nat → Nat → Option Addr → Nat → Nat → Int → Option Addr → Heap → (Int → Option Addr → Int → Int → Option Addr → Nat → Nat → Option Addr → Nat → Nat → Int → Option Addr → Option R) → (Bool → Option R) → Option R) (n : Nat) (vals : List Value) (H : Heap) (K : Xit → Env → Heap → Option R) : Option R :=
  match vals with
  | [.int .u8 n102, .pointer p103, .int .i64 n104, .int .i64 n105, .slice q106 l107 c108, .slice q109 l110 c111, .int .i64 n112, .pointer p113] => f n102 p103 n104 n105 q106 l107 c108 q109 l110 c111 n112 p113 H (fun n1262 p1263 n1264 n1265 q1266 l1267 c1268 q1269 l1270 c1271 n1272 p1273 => K .normal [(1, .int .u8 n1262), (5, .pointer p1263), (7, .int .i64 n1264), (8, .int .i64 n1265), (9, .slice q1266 l1267 c1268), (10, .slice q1269 l1270 c1271), (11, .int .i64 n1272), (12, .pointer p1273)] H) (fun t1274 => K .ret [(6, .bool t1274)] H)
  | _ => none
def L_CblkOrders_a1 (R : Type) (k n : Nat) (vals : List Value) (H : Heap) (K : Xit → Env → Heap → Option R) : Option R := L_CblkOrders_aa1 (L_CblkOrders_p1 k) n vals H K
def L_CblkOrders_aa2 {R : Type} (f : (Option Addr → Int → Int → Option Addr → Nat → Nat → Int → Option Addr → Nat → Nat → Int → Heap → Option R) → (Bool → Heap → Option R) → Nat → Option Addr → Int → Int → Option Addr → Nat → Nat → Int → Option Addr → Nat → Nat → Int → Int → Heap → Option R) (n : Nat) (vals : List Value) (H : Heap) (K : Xit → Env → Heap → Option R) : Option R :=
  match vals with
  | [.pointer p185, .int .i64 n186, .int .i64 n187, .slice q188 l189 c190, .int .i64 n191, .slice q192 l193 c194, .int .i64 n195, .int .i64 n196] => f (fun p1275 n1276 n1277 q1278 l1279 c1280 n1281 q1282 l1283 c1284 n1285 H => K (.exit 2) [(5, .pointer p1275), (7, .int .i64 n1276), (8, .int .i64 n1277), (9, .slice q1278 l1279 c1280), (13, .int .i64 n1281), (14, .slice q1282 l1283 c1284), (15, .int .i64 n1285)] H) (fun t1286 H => K .ret [(6, .bool t1286)] H) n p185 n186 n187 q188 l189 c190 n191 q192 l193 c194 n195 n196 H
  | _ => none
def L_CblkOrders_a2 (R : Type) (k n : Nat) (vals : List Value) (H : Heap) (K : Xit → Env → Heap → Option R) : Option R := L_CblkOrders_aa2 (L_CblkOrders_l2 k) n vals H K
def L_CblkOrders_aa3 {R : Type} (f : Option Addr → Int → Int → Option Addr → Nat → Nat → Int → Option Addr → Nat → Nat → Int → Int → Heap → (Option Addr → Int → Int → Option Addr → Nat → Nat → Int → Option Addr → Nat → Nat → Int → Int → Option R) → (Bool → Option R) → Option R) (n : Nat) (vals : List Value) (H : Heap) (K : Xit → Env → Heap → Option R) : Option R :=
  match vals with
  | [.pointer p197, .int .i64 n198, .int .i64 n199, .slice q200 l201 c202, .int .i64 n203, .slice q204 l205 c206, .int .i64 n207, .int .i64 n208] => f p197 n198 n199 q200 l201 c202 n203 q204 l205 c206 n207 n208 H (fun p1287 n1288 n1289 q1290 l1291 c1292 n1293 q1294 l1295 c1296 n1297 n1298 => K .normal [(5, .pointer p1287), (7, .int .i64 n1288), (8, .int .i64 n1289), (9, .slice q1290 l1291 c1292), (13, .int .i64 n1293), (14, .slice q1294 l1295 c1296), (15, .int .i64 n1297), (16, .int .i64 n1298)] H) (fun t1299 => K .ret [(6, .bool t1299)] H)
  | _ => none
def L_CblkOrders_a3 (R : Type) (k n : Nat) (vals : List Value) (H : Heap) (K : Xit → Env → Heap → Option R) : Option R := L_CblkOrders_aa3 (L_CblkOrders_p3 k) n vals H K
def L_CblkOrders_aa4 {R : Type} (f : (Option Addr → Int → Int → Option Addr → Nat → Nat → Int → Option Addr → Nat → Nat → Int → Int → Heap → Option R) → (Bool → Heap → Option R) → Nat → Option Addr → Int → Int → Option Addr → Nat → Nat → Int → Option Addr → Nat → Nat → Int → Int → Int → Heap → Option R) (n : Nat) (vals : List Value) (H : Heap) (K : Xit → Env → Heap → Option R) : Option R :=
  match vals with
  | [.pointer p238, .int .i64 n239, .int .i64 n240, .slice q241 l242 c243, .int .i64 n244, .slice q245 l246 c247, .int .i64 n248, .int .i64 n249, .int .i64 n250] => f (fun p1300 n1301 n1302 q1303 l1304 c1305 n1306 q1307 l1308 c1309 n1310 n1311 H => K (.exit 4) [(5, .pointer p1300), (7, .int .i64 n1301), (8, .int .i64 n1302), (9, .slice q1303 l1304 c1305), (13, .int .i64 n1306), (14, .slice q1307 l1308 c1309), (15, .int .i64 n1310), (16, .int .i64 n1311)] H) (fun t1312 H => K .ret [(6, .bool t1312)] H) n p238 n239 n240 q241 l242 c243 n244 q245 l246 c247 n248 n249 n250 H
  | _ => none
def L_CblkOrders_a4 (R : Type) (k n : Nat) (vals : List Value) (H : Heap) (K : Xit → Env → Heap → Option R) : Option R := L_CblkOrders_aa4 (L_CblkOrders_l4 k) n vals H K
def L_CblkOrders_aa5 {R : Type} (f : Option Addr → Int → Int → Option Addr → Nat → Nat → Int → Option Addr → Nat → Nat → Int → (Option Addr → Int → Option Addr → Nat → Nat → Option R) → (Bool → Option R) → Option R) (n : Nat) (vals : List Value) (H : Heap) (K : Xit → Env → Heap → Option R) : Option R :=
  match vals with
  | [.pointer p322, .int .i64 n323, .int .i64 n324, .slice q325 l326 c327, .int .i64 n328, .slice q329 l330 c331, .int .i64 n332] => f p322 n323 n324 q325 l326 c327 n328 q329 l330 c331 n332 (fun p1313 n1314 q1315 l1316 c1317 => K .normal [(5, .pointer p1313), (13, .int .i64 n1314), (14, .slice q1315 l1316 c1317)] H) (fun t1318 => K .ret [(6, .bool t1318)] H)
  | _ => none
def L_CblkOrders_a5 (R : Type) (k n : Nat) (vals : List Value) (H : Heap) (K : Xit → Env → Heap → Option R) : Option R := L_CblkOrders_aa5 (L_CblkOrders_p5 k) n vals H K
def L_CblkOrders_aa6 {R : Type} (f : (Int → Option R) → (Bool → Option R) → Nat → Int → Option Addr → Nat → Nat → Option Addr → Nat → Nat → Int → Heap → Option R) (n : Nat) (vals : List Value) (H : Heap) (K : Xit → Env → Heap → Option R) : Option R :=
  match vals with
  | [.int .i64 n353, .slice q354 l355 c356, .slice q357 l358 c359, .int .i64 n360] => f (fun n1319 => K (.exit 6) [(13, .int .i64 n1319)] H) (fun t1320 => K .ret [(6, .bool t1320)] H) n n353 q354 l355 c356 q357 l358 c359 n360 H
  | _ => none
def L_CblkOrders_a6 (R : Type) (k n : Nat) (vals : List Value) (H : Heap) (K : Xit → Env → Heap → Option R) : Option R := L_CblkOrders_aa6 (L_CblkOrders_l6 k) n vals H K
def L_CblkOrders_aa7 {R : Type} (f : Int → Option Addr → Nat → Nat → Option Addr → Nat → Nat → Int → Heap → (Int → Option Addr → Nat → Nat → Option Addr → Nat → Nat → Int → Option R) → (Bool → Option R) → Option R) (n : Nat) (vals : List Value) (H : Heap) (K : Xit → Env → Heap → Option R) : Option R :=
  match vals with
  | [.int .i64 n361, .slice q362 l363 c364, .slice q365 l366 c367, .int .i64 n368] => f n361 q362 l363 c364 q365 l366 c367 n368 H (fun n1321 q1322 l1323 c1324 q1325 l1326 c1327 n1328 => K .normal [(13, .int .i64 n1321), (14, .slice q1322 l1323 c1324), (18, .slice q1325 l1326 c1327), (19, .int .i64 n1328)] H) (fun t1329 => K .ret [(6, .bool t1329)] H)
  | _ => none
def L_CblkOrders_a7 (R : Type) (k n : Nat) (vals : List Value) (H : Heap) (K : Xit → Env → Heap → Option R) : Option R := L_CblkOrders_aa7 (L_CblkOrders_p7 k) n vals H K
def L_CblkOrders_Jt {R : Type} (k : Nat) (L_CblkOrders_l0 : (Int → Option Addr → Int → Int → Option Addr → Nat → Nat → Heap → Option R) → (Bool → Heap → Option R) → Nat → Int → Option Addr → Int → Int → Option Addr → Nat → Nat → Option Addr → Nat → Nat → Int → Heap → Option R) (L_CblkOrders_p1 : Int → Option Addr → Int → Int → Option Addr → Nat → Nat → Option Addr → Nat → Nat → Int → Option Addr → Heap → (Int → Option Addr → Int → Int → Option Addr → Nat → Nat → Option Addr → Nat → Nat → Int → Option Addr → Option R) → (Bool → Option R) → Option R) (L_CblkOrders_l2 : (Option Addr → Int → Int → Option Addr → Nat → Nat → Int → Option Addr → Nat → Nat → Int → Heap → Option R) → (Bool → Heap → Option R) → Nat → Option Addr → Int → Int → Option Addr → Nat → Nat → Int → Option Addr → Nat → Nat → Int → Int → Heap → Option R) (L_CblkOrders_p3 : Option Addr → Int → Int → Option Addr → Nat → Nat → Int → Option Addr → Nat → Nat → Int → Int → Heap → (Option Addr → Int → Int → Option Addr → Nat → Nat → Int → Option Addr → Nat → Nat → Int → Int → Option R) → (Bool → Option R) → Option R) (L_CblkOrders_l4 : (Option Addr → Int → Int → Option Addr → Nat → Nat → Int → Option Addr → Nat → Nat → Int → Int → Heap → Option R) → (Bool → Heap → Option R) → Nat → Option Addr → Int → Int → Option Addr → Nat → Nat → Int → Option Addr → Nat → Nat → Int → Int → Int → Heap → Option R) (L_CblkOrders_p5 : Option Addr → Int → Int → Option Addr → Nat → Nat → Int → Option Addr → Nat → Nat → Int → (Option Addr → Int → Option Addr → Nat → Nat → Option R) → (Bool → Option R) → Option R) (L_CblkOrders_l6 : (Int → Option R) → (Bool → Option R) → Nat → Int → Option Addr → Nat → Nat → Option Addr → Nat → Nat → Int → Heap → Option R) (L_CblkOrders_p7 : Int → Option Addr → Nat → Nat → Option Addr → Nat → Nat → Int → Heap → (Int → Option Addr → Nat → Nat → Option Addr → Nat → Nat → Int → Option R) → (Bool → Option R) → Option R) : JTab R := tcons 0 (L_CblkOrders_aa0 L_CblkOrders_l0 k) <| tcons 1 (L_CblkOrders_aa1 L_CblkOrders_p1 k) <| tcons 2 (L_CblkOrders_aa2 L_CblkOrders_l2 k) <| tcons 3 (L_CblkOrders_aa3 L_CblkOrders_p3 k) <| tcons 4 (L_CblkOrders_aa4 L_CblkOrders_l4 k) <| tcons 5 (L_CblkOrders_aa5 L_CblkOrders_p5 k) <| tcons 6 (L_CblkOrders_aa6 L_CblkOrders_l6 k) <| tcons 7 (L_CblkOrders_aa7 L_CblkOrders_p7 k) <| fun _ _ _ _ => none
def L_CblkOrders_J (R : Type) (k : Nat) : JTab R := L_CblkOrders_Jt k (L_CblkOrders_l0 k) (L_CblkOrders_p1 k) (L_CblkOrders_l2 k) (L_CblkOrders_p3 k) (L_CblkOrders_l4 k) (L_CblkOrders_p5 k) (L_CblkOrders_l6 k) (L_CblkOrders_p7 k)
def L_CblkOrders_at : AT := (.seq (.reg [1, 3, 5] []) (.seq (.reg [1, 5, 7, 8] [[], [0], [0, 1], [0, 1, 2], [0, 1, 2, 3], [], [5], [5, 6], [5, 6, 7], [5, 6, 7, 8], [0, 1, 2, 3, 4], [0, 1, 2, 3, 4, 5, 6, 7, 8, 9, 10]]) (.seq (.reg [1, 5, 7, 8, 9] []) (.seq (.reg [1, 5, 7, 8, 9, 10] []) (.seq (.seq (.reg [1, 5, 7, 8, 9, 10, 11] []) (.node (.opq 0 [1, 5, 7, 8, 9, 10, 11] ⟨[], [(0, [1, 5, 7, 8, 9])], [6]⟩ (.node (.seq (.seq (.reg [1, 5, 7, 8, 9, 10, 11, 45] []) (.cond .leaf .leaf)) (.seq (.node (.seq (.reg [1, 5, 7, 8, 9, 10, 11, 12] []) (.seq (.opq 1 [1, 5, 7, 8, 9, 10, 11, 12] ⟨[1, 5, 7, 8, 9, 10, 11, 12], [], [6]⟩ (.seq (.reg [1, 5, 7, 8, 9, 10, 11, 12, 83] []) (.cond (.seq (.reg [6] []) .leaf) .leaf))) (.reg [1, 5, 7, 8, 9, 10, 11] [])))) (.reg [1, 5, 7, 8, 9, 10, 11] []))))))) (.seq (.reg [5, 7, 8, 9, 13] []) (.seq (.reg [5, 7, 8, 9, 13, 14] []) (.seq (.reg [5, 7, 8, 9, 13, 14, 15] []) (.seq (.seq (.reg [5, 7, 8, 9, 13, 14, 15, 16] []) (.node (.opq 2 [5, 7, 8, 9, 13, 14, 15, 16] ⟨[], [(2, [5, 7, 8, 9, 13, 14, 15])], [6]⟩ (.node (.seq (.seq (.reg [5, 7, 8, 9, 13, 14, 15, 16, 103] []) (.cond .leaf .leaf)) (.seq (.node (.seq (.opq 3 [5, 7, 8, 9, 13, 14, 15, 16] ⟨[5, 7, 8, 9, 13, 14, 15, 16], [], [6]⟩ (.seq (.reg [5, 7, 8, 9, 13, 14, 15, 16, 120] []) (.cond (.seq (.reg [6] []) .leaf) .leaf))) (.seq (.seq (.reg [5, 7, 8, 9, 13, 14, 15, 16, 17] []) (.node (.opq 4 [5, 7, 8, 9, 13, 14, 15, 16, 17] ⟨[], [(4, [5, 7, 8, 9, 13, 14, 15, 16])], [6]⟩ (.node (.seq (.seq (.reg [5, 7, 8, 9, 13, 14, 15, 16, 17, 129] []) (.cond .leaf .leaf)) (.seq (.node (.seq (.reg [5, 7, 8, 9, 13, 14, 15, 16, 17, 138] [[], [], [0, 1], [], [], [0, 1, 2, 3, 4], [0, 1, 2, 3, 4, 5]]) (.cond (.seq (.reg [6] []) .leaf) .leaf))) (.reg [5, 7, 8, 9, 13, 14, 15, 16, 17] []))))))) (.reg [5, 7, 8, 9, 13, 14, 15, 16] [])))) (.reg [5, 7, 8, 9, 13, 14, 15, 16] []))))))) (.seq (.opq 5 [5, 7, 8, 9, 13, 14, 15] ⟨[5, 13, 14], [], [6]⟩ (.seq (.reg [5, 13, 14, 155] []) (.cond (.seq (.reg [6] []) .leaf) .leaf))) (.seq (.reg [13, 14, 18] []) (.seq (.seq (.reg [13, 14, 18, 19] []) (.node (.opq 6 [13, 14, 18, 19] ⟨[], [(6, [13])], [6]⟩ (.node (.seq (.seq (.reg [13, 14, 18, 19, 165] []) (.cond .leaf .leaf)) (.seq (.opq 7 [13, 14, 18, 19] ⟨[13, 14, 18, 19], [], [6]⟩ (.node (.seq (.reg [13, 14, 18, 19, 182] [[], [], [1], [0, 1, 2], [0, 1, 2, 3], [0, 1, 2, 3, 4], [0, 1, 2, 3, 4], [0, 1, 2, 3, 4, 5, 6], [0, 1, 2, 3, 4, 5, 6, 7], [0, 1, 2, 3, 4], [0, 1, 2, 3, 4], [0, 1, 2, 3, 4, 9, 10], [0, 1, 2, 3, 4, 9, 10, 11], [0, 1, 2, 3, 4, 5, 6, 7, 8, 9, 10, 11, 12], [0, 1, 2, 3, 4, 5, 6, 7, 8, 9, 10, 11, 12, 13]]) (.cond (.seq (.reg [6] []) .leaf) .leaf)))) (.reg [13, 14, 18, 19] []))))))) (.seq (.reg [20] []) (.seq (.reg [20, 21, 22] []) (.seq (.reg [20, 21, 22, 23, 24] []) (.seq (.reg [6] []) .leaf))))))))))))))))
def L_CblkOrders_i7 : IC := (.block 7 (.seq (.reg [⟨some 168, .mov (.t 19), none⟩,
 ⟨some 169, .mov (.t 18), none⟩,
 ⟨some 170, .len false (.t 169), none⟩,
 ⟨some 171, .cmp .geq (.t 168) (.t 170), none⟩,
 ⟨some 172, .mov (.t 171), none⟩,
 ⟨some 173, .mov (.t 18), some (172, false)⟩,
 ⟨some 174, .mov (.t 19), some (172, false)⟩,
 ⟨some 175, .ids 1 (.t 173) (.t 174), some (172, false)⟩,
 ⟨some 176, .ld (.sc (.int .i64)) (.t 175), some (172, false)⟩,
 ⟨some 177, .mov (.t 14), some (172, false)⟩,
 ⟨some 178, .mov (.t 19), some (172, false)⟩,
 ⟨some 179, .ids 1 (.t 177) (.t 178), some (172, false)⟩,
 ⟨some 180, .ld (.sc (.int .i64)) (.t 179), some (172, false)⟩,
 ⟨some 181, .cmp .neq (.t 176) (.t 180), some (172, false)⟩,
 ⟨some 182, .pick (.t 172) (.c (Go.Value.bool true)) (.t 181), none⟩] [13, 14, 18, 19, 182]) (.cond (.t 182) (.seq (.reg [⟨some 6, .mov (.c (Go.Value.bool false)), none⟩] [6]) .ret) .skip)))
def L_CblkOrders_i6 : IC := (.seq (.seq (.reg [⟨some 161, .mov (.t 19), none⟩,
 ⟨some 162, .bin .add .i64 (.t 161) (.c (Go.Value.int Go.IntKind.i64 1)), none⟩,
 ⟨some 163, .mov (.t 14), none⟩,
 ⟨some 164, .len false (.t 163), none⟩,
 ⟨some 165, .cmp .lss (.t 162) (.t 164), none⟩] [13, 14, 18, 19, 165]) (.cond (.t 165) .skip (.exit 6))) (.seq (.opq 7 [13, 14, 18, 19] L_CblkOrders_i7) (.reg [⟨some 166, .mov (.t 19), none⟩,
 ⟨some 167, .bin .add .i64 (.t 166) (.c (Go.Value.int Go.IntKind.i64 1)), none⟩,
 ⟨some 19, .mov (.t 167), none⟩] [13, 14, 18, 19])))
def L_CblkOrders_i5 : IC := (.seq (.reg [⟨some 145, .mov (.t 15), none⟩,
 ⟨some 146, .mov (.t 13), none⟩,
 ⟨some 147, .cmp .neq (.t 145) (.t 146), none⟩,
 ⟨some 148, .mov (.t 147), none⟩,
 ⟨some 149, .mov (.t 9), some (148, false)⟩,
 ⟨some 150, .len false (.t 149), some (148, false)⟩,
 ⟨some 151, .mov (.t 7), some (148, false)⟩,
 ⟨some 152, .mov (.t 8), some (148, false)⟩,
 ⟨some 153, .bin .mul .i64 (.t 151) (.t 152), some (148, false)⟩,
 ⟨some 154, .cmp .neq (.t 150) (.t 153), some (148, false)⟩,
 ⟨some 155, .pick (.t 148) (.c (Go.Value.bool true)) (.t 154), none⟩] [5, 13, 14, 155]) (.cond (.t 155) (.seq (.reg [⟨some 6, .mov (.c (Go.Value.bool false)), none⟩] [6]) .ret) .skip))
def L_CblkOrders_i4 : IC := (.seq (.seq (.reg [⟨some 122, .mov (.t 17), none⟩,
 ⟨some 123, .mov (.t 15), none⟩,
 ⟨some 124, .mov (.t 14), none⟩,
 ⟨some 125, .mov (.t 16), none⟩,
 ⟨some 126, .ids 1 (.t 124) (.t 125), none⟩,
 ⟨some 127, .ld (.sc (.int .i64)) (.t 126), none⟩,
 ⟨some 128, .bin .add .i64 (.t 123) (.t 127), none⟩,
 ⟨some 129, .cmp .lss (.t 122) (.t 128), none⟩] [5, 7, 8, 9, 13, 14, 15, 16, 17, 129]) (.cond (.t 129) .skip (.exit 4))) (.seq (.block 5 (.seq (.reg [⟨some 132, .mov (.t 17), none⟩,
 ⟨some 133, .ld (.agg [.bool, .bool, .bool, .bool, .bool]) (.t 5), none⟩,
 ⟨some 134, .calp 17 [(.t 132), (.t 133)] (.one (.sc .bool)), none⟩,
 ⟨some 135, .mov (.t 15), none⟩,
 ⟨some 136, .ld (.agg [.bool, .bool, .bool, .bool, .bool]) (.t 5), none⟩,
 ⟨some 137, .call 17 [(.t 135), (.t 136)] (.one (.sc .bool)), none⟩,
 ⟨some 138, .eqb (.t 134) (.t 137) true, none⟩] [5, 7, 8, 9, 13, 14, 15, 16, 17, 138]) (.cond (.t 138) (.seq (.reg [⟨some 6, .mov (.c (Go.Value.bool false)), none⟩] [6]) .ret) .skip))) (.reg [⟨some 130, .mov (.t 17), none⟩,
 ⟨some 131, .bin .add .i64 (.t 130) (.c (Go.Value.int Go.IntKind.i64 1)), none⟩,
 ⟨some 17, .mov (.t 131), none⟩] [5, 7, 8, 9, 13, 14, 15, 16, 17])))
def L_CblkOrders_i3 : IC := (.seq (.reg [⟨some 106, .mov (.t 14), none⟩,
 ⟨some 107, .mov (.t 16), none⟩,
 ⟨some 108, .ids 1 (.t 106) (.t 107), none⟩,
 ⟨some 109, .ld (.sc (.int .i64)) (.t 108), none⟩,
 ⟨some 110, .cmp .lss (.t 109) (.c (Go.Value.int Go.IntKind.i64 1)), none⟩,
 ⟨some 111, .mov (.t 110), none⟩,
 ⟨some 112, .mov (.t 15), some (111, false)⟩,
 ⟨some 113, .mov (.t 14), some (111, false)⟩,
 ⟨some 114, .mov (.t 16), some (111, false)⟩,
 ⟨some 115, .ids 1 (.t 113) (.t 114), some (111, false)⟩,
 ⟨some 116, .ld (.sc (.int .i64)) (.t 115), some (111, false)⟩,
 ⟨some 117, .bin .add .i64 (.t 112) (.t 116), some (111, false)⟩,
 ⟨some 118, .mov (.t 13), some (111, false)⟩,
 ⟨some 119, .cmp .gtr (.t 117) (.t 118), some (111, false)⟩,
 ⟨some 120, .pick (.t 111) (.c (Go.Value.bool true)) (.t 119), none⟩] [5, 7, 8, 9, 13, 14, 15, 16, 120]) (.cond (.t 120) (.seq (.reg [⟨some 6, .mov (.c (Go.Value.bool false)), none⟩] [6]) .ret) .skip))
def L_CblkOrders_i2 : IC := (.seq (.seq (.reg [⟨some 100, .mov (.t 16), none⟩,
 ⟨some 101, .mov (.t 14), none⟩,
 ⟨some 102, .len false (.t 101), none⟩,
 ⟨some 103, .cmp .lss (.t 100) (.t 102), none⟩] [5, 7, 8, 9, 13, 14, 15, 16, 103]) (.cond (.t 103) .skip (.exit 2))) (.seq (.block 3 (.seq (.opq 3 [5, 7, 8, 9, 13, 14, 15, 16] L_CblkOrders_i3) (.seq (.seq (.reg [⟨some 121, .mov (.t 15), none⟩,
 ⟨some 17, .mov (.t 121), none⟩] [5, 7, 8, 9, 13, 14, 15, 16, 17]) (.block 4 (.opq 4 [5, 7, 8, 9, 13, 14, 15, 16, 17] (.loop L_CblkOrders_i4)))) (.reg [⟨some 139, .mov (.t 15), none⟩,
 ⟨some 140, .mov (.t 14), none⟩,
 ⟨some 141, .mov (.t 16), none⟩,
 ⟨some 142, .ids 1 (.t 140) (.t 141), none⟩,
 ⟨some 143, .ld (.sc (.int .i64)) (.t 142), none⟩,
 ⟨some 144, .bin .add .i64 (.t 139) (.t 143), none⟩,
 ⟨some 15, .mov (.t 144), none⟩] [5, 7, 8, 9, 13, 14, 15, 16])))) (.reg [⟨some 104, .mov (.t 16), none⟩,
 ⟨some 105, .bin .add .i64 (.t 104) (.c (Go.Value.int Go.IntKind.i64 1)), none⟩,
 ⟨some 16, .mov (.t 105), none⟩] [5, 7, 8, 9, 13, 14, 15, 16])))
def L_CblkOrders_i1 : IC := (.seq (.reg [⟨some 52, .fad 0 (.t 12), none⟩,
 ⟨some 53, .ld (.sc (.int .i64)) (.t 52), none⟩,
 ⟨some 54, .cmp .lss (.t 53) (.c (Go.Value.int Go.IntKind.i64 0)), none⟩,
 ⟨some 55, .mov (.t 54), none⟩,
 ⟨some 56, .fad 0 (.t 12), some (55, false)⟩,
 ⟨some 57, .ld (.sc (.int .i64)) (.t 56), some (55, false)⟩,
 ⟨some 58, .mov (.t 7), some (55, false)⟩,
 ⟨some 59, .cmp .geq (.t 57) (.t 58), some (55, false)⟩,
 ⟨some 60, .pick (.t 55) (.c (Go.Value.bool true)) (.t 59), none⟩,
 ⟨some 61, .mov (.t 60), none⟩,
 ⟨some 62, .fad 1 (.t 12), some (61, false)⟩,
 ⟨some 63, .ld (.sc (.int .i64)) (.t 62), some (61, false)⟩,
 ⟨some 64, .cmp .lss (.t 63) (.c (Go.Value.int Go.IntKind.i64 0)), some (61, false)⟩,
 ⟨some 65, .pick (.t 61) (.c (Go.Value.bool true)) (.t 64), none⟩,
 ⟨some 66, .mov (.t 65), none⟩,
 ⟨some 67, .fad 1 (.t 12), some (66, false)⟩,
 ⟨some 68, .ld (.sc (.int .i64)) (.t 67), some (66, false)⟩,
 ⟨some 69, .mov (.t 8), some (66, false)⟩,
 ⟨some 70, .cmp .geq (.t 68) (.t 69), some (66, false)⟩,
 ⟨some 71, .pick (.t 66) (.c (Go.Value.bool true)) (.t 70), none⟩,
 ⟨some 72, .mov (.t 71), none⟩,
 ⟨some 73, .mov (.t 10), some (72, false)⟩,
 ⟨some 74, .fad 1 (.t 12), some (72, false)⟩,
 ⟨some 75, .ld (.sc (.int .i64)) (.t 74), some (72, false)⟩,
 ⟨some 76, .mov (.t 7), some (72, false)⟩,
 ⟨some 77, .bin .mul .i64 (.t 75) (.t 76), some (72, false)⟩,
 ⟨some 78, .fad 0 (.t 12), some (72, false)⟩,
 ⟨some 79, .ld (.sc (.int .i64)) (.t 78), some (72, false)⟩,
 ⟨some 80, .bin .add .i64 (.t 77) (.t 79), some (72, false)⟩,
 ⟨some 81, .ids 1 (.t 73) (.t 80), some (72, false)⟩,
 ⟨some 82, .ld (.sc .bool) (.t 81), some (72, false)⟩,
 ⟨some 83, .pick (.t 72) (.c (Go.Value.bool true)) (.t 82), none⟩] [1, 5, 7, 8, 9, 10, 11, 12, 83]) (.cond (.t 83) (.seq (.reg [⟨some 6, .mov (.c (Go.Value.bool false)), none⟩] [6]) .ret) .skip))
def L_CblkOrders_i0 : IC := (.seq (.seq (.reg [⟨some 42, .mov (.t 11), none⟩,
 ⟨some 43, .mov (.t 9), none⟩,
 ⟨some 44, .len false (.t 43), none⟩,
 ⟨some 45, .cmp .lss (.t 42) (.t 44), none⟩] [1, 5, 7, 8, 9, 10, 11, 45]) (.cond (.t 45) .skip (.exit 0))) (.seq (.block 1 (.seq (.reg [⟨some 48, .mov (.t 9), none⟩,
 ⟨some 49, .mov (.t 11), none⟩,
 ⟨some 50, .ids 2 (.t 48) (.t 49), none⟩,
 ⟨some 51, .ld (.agg [(.int .i64), (.int .i64)]) (.t 50), none⟩,
 ⟨some 12, .alc [.int .i64 0, .int .i64 0], none⟩,
 ⟨none, .st 2 (.t 12) (.t 51), none⟩] [1, 5, 7, 8, 9, 10, 11, 12]) (.seq (.opq 1 [1, 5, 7, 8, 9, 10, 11, 12] L_CblkOrders_i1) (.reg [⟨some 84, .mov (.t 10), none⟩,
 ⟨some 85, .fad 1 (.t 12), none⟩,
 ⟨some 86, .ld (.sc (.int .i64)) (.t 85), none⟩,
 ⟨some 87, .mov (.t 7), none⟩,
 ⟨some 88, .bin .mul .i64 (.t 86) (.t 87), none⟩,
 ⟨some 89, .fad 0 (.t 12), none⟩,
 ⟨some 90, .ld (.sc (.int .i64)) (.t 89), none⟩,
 ⟨some 91, .bin .add .i64 (.t 88) (.t 90), none⟩,
 ⟨some 92, .ids 1 (.t 84) (.t 91), none⟩,
 ⟨none, .st 1 (.t 92) (.c (Go.Value.bool true)), none⟩] [1, 5, 7, 8, 9, 10, 11])))) (.reg [⟨some 46, .mov (.t 11), none⟩,
 ⟨some 47, .bin .add .i64 (.t 46) (.c (Go.Value.int Go.IntKind.i64 1)), none⟩,
 ⟨some 11, .mov (.t 47), none⟩] [1, 5, 7, 8, 9, 10, 11])))
def L_CblkOrders_f : IFn := ⟨218, [.t 6], (.seq (.reg [⟨some 3, .box (.t 0), none⟩,
 ⟨some 5, .box (.t 2), none⟩,
 ⟨some 6, .mov (.c (Go.Value.bool false)), none⟩] [1, 3, 5]) (.seq (.reg [⟨some 25, .ida 2 1 (.t 3) (.c (Go.Value.int Go.IntKind.i64 0)), none⟩,
 ⟨some 26, .ld (.sc (.int .u8)) (.t 25), none⟩,
 ⟨some 27, .cnv .i64 (.t 26), none⟩,
 ⟨some 28, .bin .rem .i64 (.t 27) (.c (Go.Value.int Go.IntKind.i64 64)), none⟩,
 ⟨some 29, .bin .add .i64 (.t 28) (.c (Go.Value.int Go.IntKind.i64 1)), none⟩,
 ⟨some 30, .ida 2 1 (.t 3) (.c (Go.Value.int Go.IntKind.i64 1)), none⟩,
 ⟨some 31, .ld (.sc (.int .u8)) (.t 30), none⟩,
 ⟨some 32, .cnv .i64 (.t 31), none⟩,
 ⟨some 33, .bin .rem .i64 (.t 32) (.c (Go.Value.int Go.IntKind.i64 64)), none⟩,
 ⟨some 34, .bin .add .i64 (.t 33) (.c (Go.Value.int Go.IntKind.i64 1)), none⟩,
 ⟨some 7, .mov (.t 29), none⟩,
 ⟨some 8, .mov (.t 34), none⟩] [1, 5, 7, 8]) (.seq (.reg [⟨some 35, .mov (.t 7), none⟩,
 ⟨some 36, .mov (.t 8), none⟩,
 ⟨some 37, .call 12 [(.t 35), (.t 36)] (.one (.sc .slc)), none⟩,
 ⟨some 9, .mov (.t 37), none⟩] [1, 5, 7, 8, 9]) (.seq (.reg [⟨some 38, .mov (.t 7), none⟩,
 ⟨some 39, .mov (.t 8), none⟩,
 ⟨some 40, .bin .mul .i64 (.t 38) (.t 39), none⟩,
 ⟨some 41, .mks [.bool false] 1 (.t 40) (.t 40), none⟩,
 ⟨some 10, .mov (.t 41), none⟩] [1, 5, 7, 8, 9, 10]) (.seq (.seq (.reg [⟨some 11, .mov (.c (Go.Value.int Go.IntKind.i64 0)), none⟩] [1, 5, 7, 8, 9, 10, 11]) (.block 0 (.opq 0 [1, 5, 7, 8, 9, 10, 11] (.loop L_CblkOrders_i0)))) (.seq (.reg [⟨some 93, .mov (.t 1), none⟩,
 ⟨some 94, .cnv .i64 (.t 93), none⟩,
 ⟨some 95, .bin .rem .i64 (.t 94) (.c (Go.Value.int Go.IntKind.i64 178)), none⟩,
 ⟨some 96, .bin .add .i64 (.t 95) (.c (Go.Value.int Go.IntKind.i64 1)), none⟩,
 ⟨some 13, .mov (.t 96), none⟩] [5, 7, 8, 9, 13]) (.seq (.reg [⟨some 97, .mov (.t 13), none⟩,
 ⟨some 98, .ld (.agg [.bool, .bool, .bool, .bool, .bool]) (.t 5), none⟩,
 ⟨some 99, .call 20 [(.t 97), (.t 98)] (.one (.sc .slc)), none⟩,
 ⟨some 14, .mov (.t 99), none⟩] [5, 7, 8, 9, 13, 14]) (.seq (.reg [⟨some 15, .mov (.c (Go.Value.int Go.IntKind.i64 0)), none⟩] [5, 7, 8, 9, 13, 14, 15]) (.seq (.seq (.reg [⟨some 16, .mov (.c (Go.Value.int Go.IntKind.i64 0)), none⟩] [5, 7, 8, 9, 13, 14, 15, 16]) (.block 2 (.opq 2 [5, 7, 8, 9, 13, 14, 15, 16] (.loop L_CblkOrders_i2)))) (.seq (.opq 5 [5, 7, 8, 9, 13, 14, 15] L_CblkOrders_i5) (.seq (.reg [⟨some 156, .mov (.t 13), none⟩,
 ⟨some 157, .bin .add .i64 (.t 156) (.c (Go.Value.int Go.IntKind.i64 1)), none⟩,
 ⟨some 158, .mn (.t 157) (.c (Go.Value.int Go.IntKind.i64 178)), none⟩,
 ⟨some 159, .ld (.agg [.bool, .bool, .bool, .bool, .bool]) (.t 5), none⟩,
 ⟨some 160, .call 20 [(.t 158), (.t 159)] (.one (.sc .slc)), none⟩,
 ⟨some 18, .mov (.t 160), none⟩] [13, 14, 18]) (.seq (.seq (.reg [⟨some 19, .mov (.c (Go.Value.int Go.IntKind.i64 0)), none⟩] [13, 14, 18, 19]) (.block 6 (.opq 6 [13, 14, 18, 19] (.loop L_CblkOrders_i6)))) (.seq (.reg [⟨some 183, .mov (.t 13), none⟩,
 ⟨some 184, .bin .rem .i64 (.t 183) (.c (Go.Value.int Go.IntKind.i64 60)), none⟩,
 ⟨some 20, .mov (.t 184), none⟩] [20]) (.seq (.reg [⟨some 186, .mov (.t 20), none⟩,
 ⟨some 187, .bin .mul .i64 (.c (Go.Value.int Go.IntKind.i64 3)) (.t 186), none⟩,
 ⟨some 188, .call 15 [(.t 187)] (.tup [(.sc (.int .i64)), (.sc (.int .i64))]), none⟩,
 ⟨some 185, .mov (.t 188), none⟩,
 ⟨some 189, .ext 0 (.t 185), none⟩,
 ⟨some 190, .ext 1 (.t 185), none⟩,
 ⟨some 21, .mov (.t 189), none⟩,
 ⟨some 22, .mov (.t 190), none⟩] [20, 21, 22]) (.seq (.reg [⟨some 192, .mov (.t 20), none⟩,
 ⟨some 193, .bin .mul .i64 (.c (Go.Value.int Go.IntKind.i64 3)) (.t 192), none⟩,
 ⟨some 194, .bin .add .i64 (.t 193) (.c (Go.Value.int Go.IntKind.i64 1)), none⟩,
 ⟨some 195, .call 15 [(.t 194)] (.tup [(.sc (.int .i64)), (.sc (.int .i64))]), none⟩,
 ⟨some 191, .mov (.t 195), none⟩,
 ⟨some 196, .ext 0 (.t 191), none⟩,
 ⟨some 197, .ext 1 (.t 191), none⟩,
 ⟨some 23, .mov (.t 196), none⟩,
 ⟨some 24, .mov (.t 197), none⟩] [20, 21, 22, 23, 24]) (.seq (.reg [⟨some 198, .mov (.t 21), none⟩,
 ⟨some 199, .mov (.t 20), none⟩,
 ⟨some 200, .cmp .eql (.t 198) (.t 199), none⟩,
 ⟨some 201, .mov (.t 200), none⟩,
 ⟨some 202, .mov (.t 22), some (201, true)⟩,
 ⟨some 203, .cmp .eql (.t 202) (.c (Go.Value.int Go.IntKind.i64 2)), some (201, true)⟩,
 ⟨some 204, .pick (.t 201) (.t 203) (.c (Go.Value.bool false)), none⟩,
 ⟨some 205, .mov (.t 204), none⟩,
 ⟨some 206, .mov (.t 23), some (205, true)⟩,
 ⟨some 207, .mov (.t 20), some (205, true)⟩,
 ⟨some 208, .bin .add .i64 (.t 207) (.c (Go.Value.int Go.IntKind.i64 1)), some (205, true)⟩,
 ⟨some 209, .cmp .eql (.t 206) (.t 208), some (205, true)⟩,
 ⟨some 210, .pick (.t 205) (.t 209) (.c (Go.Value.bool false)), none⟩,
 ⟨some 211, .mov (.t 210), none⟩,
 ⟨some 212, .mov (.t 24), some (211, true)⟩,
 ⟨some 213, .cmp .eql (.t 212) (.c (Go.Value.int Go.IntKind.i64 0)), some (211, true)⟩,
 ⟨some 214, .pick (.t 211) (.t 213) (.c (Go.Value.bool false)), none⟩,
 ⟨some 215, .mov (.t 214), none⟩,
 ⟨some 216, .call 14 [] (.one (.sc .bool)), some (215, true)⟩,
 ⟨some 217, .pick (.t 215) (.t 216) (.c (Go.Value.bool false)), none⟩,
 ⟨some 6, .mov (.t 217), none⟩] [6]) .ret))))))))))))))))⟩
theorem L_CblkOrders_e7 {R : Type} (cblk_Scan : Int → Int → Heap → (Option Addr → Nat → Nat → Heap → Option R) → Option R) (cblk_Segments : Int → Bool → Bool → Bool → Bool → Bool → Heap → (Option Addr → Nat → Nat → Heap → Option R) → Option R) (cblk_Raw : Int → Bool → Bool → Bool → Bool → Bool → Heap → (Bool → Heap → Option R) → Option R) (cblk_Pass : Int → (Int → Int → Option R) → Option R) (L_exampleHoldsq : (Bool → Option R) → Option R) (L_CblkOrders_l0 : (Int → Option Addr → Int → Int → Option Addr → Nat → Nat → Heap → Option R) → (Bool → Heap → Option R) → Nat → Int → Option Addr → Int → Int → Option Addr → Nat → Nat → Option Addr → Nat → Nat → Int → Heap → Option R) (L_CblkOrders_p1 : Int → Option Addr → Int → Int → Option Addr → Nat → Nat → Option Addr → Nat → Nat → Int → Option Addr → Heap → (Int → Option Addr → Int → Int → Option Addr → Nat → Nat → Option Addr → Nat → Nat → Int → Option Addr → Option R) → (Bool → Option R) → Option R) (L_CblkOrders_l2 : (Option Addr → Int → Int → Option Addr → Nat → Nat → Int → Option Addr → Nat → Nat → Int → Heap → Option R) → (Bool → Heap → Option R) → Nat → Option Addr → Int → Int → Option Addr → Nat → Nat → Int → Option Addr → Nat → Nat → Int → Int → Heap → Option R) (L_CblkOrders_p3 : Option Addr → Int → Int → Option Addr → Nat → Nat → Int → Option Addr → Nat → Nat → Int → Int → Heap → (Option Addr → Int → Int → Option Addr → Nat → Nat → Int → Option Addr → Nat → Nat → Int → Int → Option R) → (Bool → Option R) → Option R) (L_CblkOrders_l4 : (Option Addr → Int → Int → Option Addr → Nat → Nat → Int → Option Addr → Nat → Nat → Int → Int → Heap → Option R) → (Bool → Heap → Option R) → Nat → Option Addr → Int → Int → Option Addr → Nat → Nat → Int → Option Addr → Nat → Nat → Int → Int → Int → Heap → Option R) (L_CblkOrders_p5 : Option Addr → Int → Int → Option Addr → Nat → Nat → Int → Option Addr → Nat → Nat → Int → (Option Addr → Int → Option Addr → Nat → Nat → Option R) → (Bool → Option R) → Option R) (L_CblkOrders_l6 : (Int → Option R) → (Bool → Option R) → Nat → Int → Option Addr → Nat → Nat → Option Addr → Nat → Nat → Int → Heap → Option R) (L_CblkOrders_p7 : Int → Option Addr → Nat → Nat → Option Addr → Nat → Nat → Int → Heap → (Int → Option Addr → Nat → Nat → Option Addr → Nat → Nat → Int → Option R) → (Bool → Option R) → Option R) (k : Nat) (n361 : Int) (q362 : Option Addr) (l363 : Nat) (c364 : Nat) (q365 : Option Addr) (l366 : Nat) (c367 : Nat) (n368 : Int) (H : Heap) (K : Xit → Env → Heap → Option R) : evJ (L_CblkOrders_Ct cblk_Scan cblk_Segments cblk_Raw cblk_Pass L_exampleHoldsq) (L_CblkOrders_Jt k L_CblkOrders_l0 L_CblkOrders_p1 L_CblkOrders_l2 L_CblkOrders_p3 L_CblkOrders_l4 L_CblkOrders_p5 L_CblkOrders_l6 L_CblkOrders_p7) L_CblkOrders_i7 (List.zip [13, 14, 18, 19] [.int .i64 n361, .slice q362 l363 c364, .slice q365 l366 c367, .int .i64 n368]) H (fun x e' H' => K x (clean e' ((⟨[13, 14, 18, 19], [], [6]⟩ : Out).of x)) H') = L_CblkOrders_p7_b k n361 q362 l363 c364 q365 l366 c367 n368 H (fun n1321 q1322 l1323 c1324 q1325 l1326 c1327 n1328 => K .normal [(13, .int .i64 n1321), (14, .slice q1322 l1323 c1324), (18, .slice q1325 l1326 c1327), (19, .int .i64 n1328)] H) (fun t1329 => K .ret [(6, .bool t1329)] H) := by kernel_rfl
theorem L_CblkOrders_j7 {R : Type} (k : Nat) : JS Try.prog 218 (L_CblkOrders_a7 R k k) [13, 14, 18, 19] ⟨[13, 14, 18, 19], [], [6]⟩ (sel [1, 1, 1, 1, 1, 1, 1, 1, 1, 1, 1, 0, 1, 0, 0, 1, 0] (Try.f5.body.getD .skip)) :=
  piece_ok (nt := 218) (c := (sel [1, 1, 1, 1, 1, 1, 1, 1, 1, 1, 1, 0, 1, 0, 0, 1, 0] (Try.f5.body.getD .skip))) (C := L_CblkOrders_C R k) (an := An) (t := (.node (.seq (.reg [13, 14, 18, 19, 182] [[], [], [1], [0, 1, 2], [0, 1, 2, 3], [0, 1, 2, 3, 4], [0, 1, 2, 3, 4], [0, 1, 2, 3, 4, 5, 6], [0, 1, 2, 3, 4, 5, 6, 7], [0, 1, 2, 3, 4], [0, 1, 2, 3, 4], [0, 1, 2, 3, 4, 9, 10], [0, 1, 2, 3, 4, 9, 10, 11], [0, 1, 2, 3, 4, 5, 6, 7, 8, 9, 10, 11, 12], [0, 1, 2, 3, 4, 5, 6, 7, 8, 9, 10, 11, 12, 13]]) (.cond (.seq (.reg [6] []) .leaf) .leaf)))) (ic := L_CblkOrders_i7) (L_CblkOrders_S R k) (L_CblkOrders_J R k) (by kernel_rfl) (And.intro True.intro (And.intro (And.intro True.intro True.intro) True.intro)) (L_CblkOrders_a7 R k k)
    (fun vals H K r h => by
      unfold L_CblkOrders_a7 L_CblkOrders_aa7 at h
      split at h <;> first | (cases h; done) | exact Eq.trans (L_CblkOrders_e7 (cblk_Scan k) (cblk_Segments k) (cblk_Raw k) cblk_Pass L_exampleHoldsq (L_CblkOrders_l0 k) (L_CblkOrders_p1 k) (L_CblkOrders_l2 k) (L_CblkOrders_p3 k) (L_CblkOrders_l4 k) (L_CblkOrders_p5 k) (L_CblkOrders_l6 k) (L_CblkOrders_p7 k) k _ _ _ _ _ _ _ _ H K) h)
theorem L_CblkOrders_e6 {R : Type} (cblk_Scan : Int → Int → Heap → (Option Addr → Nat → Nat → Heap → Option R) → Option R) (cblk_Segments : Int → Bool → Bool → Bool → Bool → Bool → Heap → (Option Addr → Nat → Nat → Heap → Option R) → Option R) (cblk_Raw : Int → Bool → Bool → Bool → Bool → Bool → Heap → (Bool → Heap → Option R) → Option R) (cblk_Pass : Int → (Int → Int → Option R) → Option R) (L_exampleHoldsq : (Bool → Option R) → Option R) (L_CblkOrders_l0 : (Int → Option Addr → Int → Int → Option Addr → Nat → Nat → Heap → Option R) → (Bool → Heap → Option R) → Nat → Int → Option Addr → Int → Int → Option Addr → Nat → Nat → Option Addr → Nat → Nat → Int → Heap → Option R) (L_CblkOrders_p1 : Int → Option Addr → Int → Int → Option Addr → Nat → Nat → Option Addr → Nat → Nat → Int → Option Addr → Heap → (Int → Option Addr → Int → Int → Option Addr → Nat → Nat → Option Addr → Nat → Nat → Int → Option Addr → Option R) → (Bool → Option R) → Option R) (L_CblkOrders_l2 : (Option Addr → Int → Int → Option Addr → Nat → Nat → Int → Option Addr → Nat → Nat → Int → Heap → Option R) → (Bool → Heap → Option R) → Nat → Option Addr → Int → Int → Option Addr → Nat → Nat → Int → Option Addr → Nat → Nat → Int → Int → Heap → Option R) (L_CblkOrders_p3 : Option Addr → Int → Int → Option Addr → Nat → Nat → Int → Option Addr → Nat → Nat → Int → Int → Heap → (Option Addr → Int → Int → Option Addr → Nat → Nat → Int → Option Addr → Nat → Nat → Int → Int → Option R) → (Bool → Option R) → Option R) (L_CblkOrders_l4 : (Option Addr → Int → Int → Option Addr → Nat → Nat → Int → Option Addr → Nat → Nat → Int → Int → Heap → Option R) → (Bool → Heap → Option R) → Nat → Option Addr → Int → Int → Option Addr → Nat → Nat → Int → Option Addr → Nat → Nat → Int → Int → Int → Heap → Option R) (L_CblkOrders_p5 : Option Addr → Int → Int → Option Addr → Nat → Nat → Int → Option Addr → Nat → Nat → Int → (Option Addr → Int → Option Addr → Nat → Nat → Option R) → (Bool → Option R) → Option R) (L_CblkOrders_l6 : (Int → Option R) → (Bool → Option R) → Nat → Int → Option Addr → Nat → Nat → Option Addr → Nat → Nat → Int → Heap → Option R) (L_CblkOrders_p7 : Int → Option Addr → Nat → Nat → Option Addr → Nat → Nat → Int → Heap → (Int → Option Addr → Nat → Nat → Option Addr → Nat → Nat → Int → Option R) → (Bool → Option R) → Option R) (k n : Nat) (n353 : Int) (q354 : Option Addr) (l355 : Nat) (c356 : Nat) (q357 : Option Addr) (l358 : Nat) (c359 : Nat) (n360 : Int) (H : Heap) (K : Xit → Env → Heap → Option R) : evJ (L_CblkOrders_Ct cblk_Scan cblk_Segments cblk_Raw cblk_Pass L_exampleHoldsq) (L_CblkOrders_Jt k L_CblkOrders_l0 L_CblkOrders_p1 L_CblkOrders_l2 L_CblkOrders_p3 L_CblkOrders_l4 L_CblkOrders_p5 L_CblkOrders_l6 L_CblkOrders_p7) L_CblkOrders_i6 (List.zip [13, 14, 18, 19] [.int .i64 n353, .slice q354 l355 c356, .slice q357 l358 c359, .int .i64 n360]) H (fun x e' H' => match x with | .normal => L_CblkOrders_aa6 L_CblkOrders_l6 n ((clean e' [13, 14, 18, 19]).map (·.2)) H' K | x => K x (clean e' ((⟨[], [(6, [13])], [6]⟩ : Out).of x)) H') = L_CblkOrders_l6_b L_CblkOrders_p7 (L_CblkOrders_l6 (fun n1319 => K (.exit 6) [(13, .int .i64 n1319)] H) (fun t1320 => K .ret [(6, .bool t1320)] H) n) (fun n1319 => K (.exit 6) [(13, .int .i64 n1319)] H) (fun t1320 => K .ret [(6, .bool t1320)] H) k n353 q354 l355 c356 q357 l358 c359 n360 H := by kernel_rfl
theorem L_CblkOrders_j6 {R : Type} (k : Nat) : JS Try.prog 218 (L_CblkOrders_a6 R k k) [13, 14, 18, 19] ⟨[], [(6, [13])], [6]⟩ (.loop (sel [1, 1, 1, 1, 1, 1, 1, 1, 1, 1, 1, 0, 1, 0, 0] (Try.f5.body.getD .skip))) :=
  loop_ok (nt := 218) (c := (sel [1, 1, 1, 1, 1, 1, 1, 1, 1, 1, 1, 0, 1, 0, 0] (Try.f5.body.getD .skip))) (C := L_CblkOrders_C R k) (an := An) (t := (.seq (.seq (.reg [13, 14, 18, 19, 165] []) (.cond .leaf .leaf)) (.seq (.opq 7 [13, 14, 18, 19] ⟨[13, 14, 18, 19], [], [6]⟩ (.node (.seq (.reg [13, 14, 18, 19, 182] [[], [], [1], [0, 1, 2], [0, 1, 2, 3], [0, 1, 2, 3, 4], [0, 1, 2, 3, 4], [0, 1, 2, 3, 4, 5, 6], [0, 1, 2, 3, 4, 5, 6, 7], [0, 1, 2, 3, 4], [0, 1, 2, 3, 4], [0, 1, 2, 3, 4, 9, 10], [0, 1, 2, 3, 4, 9, 10, 11], [0, 1, 2, 3, 4, 5, 6, 7, 8, 9, 10, 11, 12], [0, 1, 2, 3, 4, 5, 6, 7, 8, 9, 10, 11, 12, 13]]) (.cond (.seq (.reg [6] []) .leaf) .leaf)))) (.reg [13, 14, 18, 19] [])))) (ic := L_CblkOrders_i6) (L_CblkOrders_S R k) (L_CblkOrders_J R k) (by kernel_rfl) (And.intro (And.intro True.intro (And.intro True.intro True.intro)) (And.intro (L_CblkOrders_j7 k) True.intro)) (L_CblkOrders_a6 R k) (fun vals H K => by unfold L_CblkOrders_a6 L_CblkOrders_aa6; split <;> rfl)
    (fun n vals H K r h => by
      unfold L_CblkOrders_a6 L_CblkOrders_aa6 at h
      split at h <;> first | (cases h; done) | exact Eq.trans (L_CblkOrders_e6 (cblk_Scan k) (cblk_Segments k) (cblk_Raw k) cblk_Pass L_exampleHoldsq (L_CblkOrders_l0 k) (L_CblkOrders_p1 k) (L_CblkOrders_l2 k) (L_CblkOrders_p3 k) (L_CblkOrders_l4 k) (L_CblkOrders_p5 k) (L_CblkOrders_l6 k) (L_CblkOrders_p7 k) k n _ _ _ _ _ _ _ _ H K) h) k
theorem L_CblkOrders_e5 {R : Type} (cblk_Scan : Int → Int → Heap → (Option Addr → Nat → Nat → Heap → Option R) → Option R) (cblk_Segments : Int → Bool → Bool → Bool → Bool → Bool → Heap → (Option Addr → Nat → Nat → Heap → Option R) → Option R) (cblk_Raw : Int → Bool → Bool → Bool → Bool → Bool → Heap → (Bool → Heap → Option R) → Option R) (cblk_Pass : Int → (Int → Int → Option R) → Option R) (L_exampleHoldsq : (Bool → Option R) → Option R) (L_CblkOrders_l0 : (Int → Option Addr → Int → Int → Option Addr → Nat → Nat → Heap → Option R) → (Bool → Heap → Option R) → Nat → Int → Option Addr → Int → Int → Option Addr → Nat → Nat → Option Addr → Nat → Nat → Int → Heap → Option R) (L_CblkOrders_p1 : Int → Option Addr → Int → Int → Option Addr → Nat → Nat → Option Addr → Nat → Nat → Int → Option Addr → Heap → (Int → Option Addr → Int → Int → Option Addr → Nat → Nat → Option Addr → Nat → Nat → Int → Option Addr → Option R) → (Bool → Option R) → Option R) (L_CblkOrders_l2 : (Option Addr → Int → Int → Option Addr → Nat → Nat → Int → Option Addr → Nat → Nat → Int → Heap → Option R) → (Bool → Heap → Option R) → Nat → Option Addr → Int → Int → Option Addr → Nat → Nat → Int → Option Addr → Nat → Nat → Int → Int → Heap → Option R) (L_CblkOrders_p3 : Option Addr → Int → Int → Option Addr → Nat → Nat → Int → Option Addr → Nat → Nat → Int → Int → Heap → (Option Addr → Int → Int → Option Addr → Nat → Nat → Int → Option Addr → Nat → Nat → Int → Int → Option R) → (Bool → Option R) → Option R) (L_CblkOrders_l4 : (Option Addr → Int → Int → Option Addr → Nat → Nat → Int → Option Addr → Nat → Nat → Int → Int → Heap → Option R) → (Bool → Heap → Option R) → Nat → Option Addr → Int → Int → Option Addr → Nat → Nat → Int → Option Addr → Nat → Nat → Int → Int → Int → Heap → Option R) (L_CblkOrders_p5 : Option Addr → Int → Int → Option Addr → Nat → Nat → Int → Option Addr → Nat → Nat → Int → (Option Addr → Int → Option Addr → Nat → Nat → Option R) → (Bool → Option R) → Option R) (L_CblkOrders_l6 : (Int → Option R) → (Bool → Option R) → Nat → Int → Option Addr → Nat → Nat → Option Addr → Nat → Nat → Int → Heap → Option R) (L_CblkOrders_p7 : Int → Option Addr → Nat → Nat → Option Addr → Nat → Nat → Int → Heap → (Int → Option Addr → Nat → Nat → Option Addr → Nat → Nat → Int → Option R) → (Bool → Option R) → Option R) (k : Nat) (p322 : Option Addr) (n323 : Int) (n324 : Int) (q325 : Option Addr) (l326 : Nat) (c327 : Nat) (n328 : Int) (q329 : Option Addr) (l330 : Nat) (c331 : Nat) (n332 : Int) (H : Heap) (K : Xit → Env → Heap → Option R) : evJ (L_CblkOrders_Ct cblk_Scan cblk_Segments cblk_Raw cblk_Pass L_exampleHoldsq) (L_CblkOrders_Jt k L_CblkOrders_l0 L_CblkOrders_p1 L_CblkOrders_l2 L_CblkOrders_p3 L_CblkOrders_l4 L_CblkOrders_p5 L_CblkOrders_l6 L_CblkOrders_p7) L_CblkOrders_i5 (List.zip [5, 7, 8, 9, 13, 14, 15] [.pointer p322, .int .i64 n323, .int .i64 n324, .slice q325 l326 c327, .int .i64 n328, .slice q329 l330 c331, .int .i64 n332]) H (fun x e' H' => K x (clean e' ((⟨[5, 13, 14], [], [6]⟩ : Out).of x)) H') = L_CblkOrders_p5_b k p322 n323 n324 q325 l326 c327 n328 q329 l330 c331 n332 (fun p1313 n1314 q1315 l1316 c1317 => K .normal [(5, .pointer p1313), (13, .int .i64 n1314), (14, .slice q1315 l1316 c1317)] H) (fun t1318 => K .ret [(6, .bool t1318)] H) := by kernel_rfl
theorem L_CblkOrders_j5 {R : Type} (k : Nat) : JS Try.prog 218 (L_CblkOrders_a5 R k k) [5, 7, 8, 9, 13, 14, 15] ⟨[5, 13, 14], [], [6]⟩ (sel [1, 1, 1, 1, 1, 1, 1, 1, 1, 0] (Try.f5.body.getD .skip)) :=
  piece_ok (nt := 218) (c := (sel [1, 1, 1, 1, 1, 1, 1, 1, 1, 0] (Try.f5.body.getD .skip))) (C := L_CblkOrders_C R k) (an := An) (t := (.seq (.reg [5, 13, 14, 155] []) (.cond (.seq (.reg [6] []) .leaf) .leaf))) (ic := L_CblkOrders_i5) (L_CblkOrders_S R k) (L_CblkOrders_J R k) (by kernel_rfl) (And.intro True.intro (And.intro (And.intro True.intro True.intro) True.intro)) (L_CblkOrders_a5 R k k)
    (fun vals H K r h => by
      unfold L_CblkOrders_a5 L_CblkOrders_aa5 at h
      split at h <;> first | (cases h; done) | exact Eq.trans (L_CblkOrders_e5 (cblk_Scan k) (cblk_Segments k) (cblk_Raw k) cblk_Pass L_exampleHoldsq (L_CblkOrders_l0 k) (L_CblkOrders_p1 k) (L_CblkOrders_l2 k) (L_CblkOrders_p3 k) (L_CblkOrders_l4 k) (L_CblkOrders_p5 k) (L_CblkOrders_l6 k) (L_CblkOrders_p7 k) k _ _ _ _ _ _ _ _ _ _ _ H K) h)
theorem L_CblkOrders_e4 {R : Type} (cblk_Scan : Int → Int → Heap → (Option Addr → Nat → Nat → Heap → Option R) → Option R) (cblk_Segments : Int → Bool → Bool → Bool → Bool → Bool → Heap → (Option Addr → Nat → Nat → Heap → Option R) → Option R) (cblk_Raw : Int → Bool → Bool → Bool → Bool → Bool → Heap → (Bool → Heap → Option R) → Option R) (cblk_Pass : Int → (Int → Int → Option R) → Option R) (L_exampleHoldsq : (Bool → Option R) → Option R) (L_CblkOrders_l0 : (Int → Option Addr → Int → Int → Option Addr → Nat → Nat → Heap → Option R) → (Bool → Heap → Option R) → Nat → Int → Option Addr → Int → Int → Option Addr → Nat → Nat → Option Addr → Nat → Nat → Int → Heap → Option R) (L_CblkOrders_p1 : Int → Option Addr → Int → Int → Option Addr → Nat → Nat → Option Addr → Nat → Nat → Int → Option Addr → Heap → (Int → Option Addr → Int → Int → Option Addr → Nat → Nat → Option Addr → Nat → Nat → Int → Option Addr → Option R) → (Bool → Option R) → Option R) (L_CblkOrders_l2 : (Option Addr → Int → Int → Option Addr → Nat → Nat → Int → Option Addr → Nat → Nat → Int → Heap → Option R) → (Bool → Heap → Option R) → Nat → Option Addr → Int → Int → Option Addr → Nat → Nat → Int → Option Addr → Nat → Nat → Int → Int → Heap → Option R) (L_CblkOrders_p3 : Option Addr → Int → Int → Option Addr → Nat → Nat → Int → Option Addr → Nat → Nat → Int → Int → Heap → (Option Addr → Int → Int → Option Addr → Nat → Nat → Int → Option Addr → Nat → Nat → Int → Int → Option R) → (Bool → Option R) → Option R) (L_CblkOrders_l4 : (Option Addr → Int → Int → Option Addr → Nat → Nat → Int → Option Addr → Nat → Nat → Int → Int → Heap → Option R) → (Bool → Heap → Option R) → Nat → Option Addr → Int → Int → Option Addr → Nat → Nat → Int → Option Addr → Nat → Nat → Int → Int → Int → Heap → Option R) (L_CblkOrders_p5 : Option Addr → Int → Int → Option Addr → Nat → Nat → Int → Option Addr → Nat → Nat → Int → (Option Addr → Int → Option Addr → Nat → Nat → Option R) → (Bool → Option R) → Option R) (L_CblkOrders_l6 : (Int → Option R) → (Bool → Option R) → Nat → Int → Option Addr → Nat → Nat → Option Addr → Nat → Nat → Int → Heap → Option R) (L_CblkOrders_p7 : Int → Option Addr → Nat → Nat → Option Addr → Nat → Nat → Int → Heap → (Int → Option Addr → Nat → Nat → Option Addr → Nat → Nat → Int → Option R) → (Bool → Option R) → Option R) (k n : Nat) (p238 : Option Addr) (n239 : Int) (n240 : Int) (q241 : Option Addr) (l242 : Nat) (c243 : Nat) (n244 : Int) (q245 : Option Addr) (l246 : Nat) (c247 : Nat) (n248 : Int) (n249 : Int) (n250 : Int) (H : Heap) (K : Xit → Env → Heap → Option R) : evJ (L_CblkOrders_Ct cblk_Scan cblk_Segments cblk_Raw cblk_Pass L_exampleHoldsq) (L_CblkOrders_Jt k L_CblkOrders_l0 L_CblkOrders_p1 L_CblkOrders_l2 L_CblkOrders_p3 L_CblkOrders_l4 L_CblkOrders_p5 L_CblkOrders_l6 L_CblkOrders_p7) L_CblkOrders_i4 (List.zip [5, 7, 8, 9, 13, 14, 15, 16, 17] [.pointer p238, .int .i64 n239, .int .i64 n240, .slice q241 l242 c243, .int .i64 n244, .slice q245 l246 c247, .int .i64 n248, .int .i64 n249, .int .i64 n250]) H (fun x e' H' => match x with | .normal => L_CblkOrders_aa4 L_CblkOrders_l4 n ((clean e' [5, 7, 8, 9, 13, 14, 15, 16, 17]).map (·.2)) H' K | x => K x (clean e' ((⟨[], [(4, [5, 7, 8, 9, 13, 14, 15, 16])], [6]⟩ : Out).of x)) H') = L_CblkOrders_l4_b cblk_Raw (L_CblkOrders_l4 (fun p1300 n1301 n1302 q1303 l1304 c1305 n1306 q1307 l1308 c1309 n1310 n1311 H => K (.exit 4) [(5, .pointer p1300), (7, .int .i64 n1301), (8, .int .i64 n1302), (9, .slice q1303 l1304 c1305), (13, .int .i64 n1306), (14, .slice q1307 l1308 c1309), (15, .int .i64 n1310), (16, .int .i64 n1311)] H) (fun t1312 H => K .ret [(6, .bool t1312)] H) n) (fun p1300 n1301 n1302 q1303 l1304 c1305 n1306 q1307 l1308 c1309 n1310 n1311 H => K (.exit 4) [(5, .pointer p1300), (7, .int .i64 n1301), (8, .int .i64 n1302), (9, .slice q1303 l1304 c1305), (13, .int .i64 n1306), (14, .slice q1307 l1308 c1309), (15, .int .i64 n1310), (16, .int .i64 n1311)] H) (fun t1312 H => K .ret [(6, .bool t1312)] H) k p238 n239 n240 q241 l242 c243 n244 q245 l246 c247 n248 n249 n250 H := by kernel_rfl
theorem L_CblkOrders_j4 {R : Type} (k : Nat) : JS Try.prog 218 (L_CblkOrders_a4 R k k) [5, 7, 8, 9, 13, 14, 15, 16, 17] ⟨[], [(4, [5, 7, 8, 9, 13, 14, 15, 16])], [6]⟩ (.loop (sel [1, 1, 1, 1, 1, 1, 1, 1, 0, 1, 0, 0, 1, 0, 0, 1, 0, 1, 0, 0] (Try.f5.body.getD .skip))) :=
  loop_ok (nt := 218) (c := (sel [1, 1, 1, 1, 1, 1, 1, 1, 0, 1, 0, 0, 1, 0, 0, 1, 0, 1, 0, 0] (Try.f5.body.getD .skip))) (C := L_CblkOrders_C R k) (an := An) (t := (.seq (.seq (.reg [5, 7, 8, 9, 13, 14, 15, 16, 17, 129] []) (.cond .leaf .leaf)) (.seq (.node (.seq (.reg [5, 7, 8, 9, 13, 14, 15, 16, 17, 138] [[], [], [0, 1], [], [], [0, 1, 2, 3, 4], [0, 1, 2, 3, 4, 5]]) (.cond (.seq (.reg [6] []) .leaf) .leaf))) (.reg [5, 7, 8, 9, 13, 14, 15, 16, 17] [])))) (ic := L_CblkOrders_i4) (L_CblkOrders_S R k) (L_CblkOrders_J R k) (by kernel_rfl) (And.intro (And.intro True.intro (And.intro True.intro True.intro)) (And.intro (And.intro True.intro (And.intro (And.intro True.intro True.intro) True.intro)) True.intro)) (L_CblkOrders_a4 R k) (fun vals H K => by unfold L_CblkOrders_a4 L_CblkOrders_aa4; split <;> rfl)
    (fun n vals H K r h => by
      unfold L_CblkOrders_a4 L_CblkOrders_aa4 at h
      split at h <;> first | (cases h; done) | exact Eq.trans (L_CblkOrders_e4 (cblk_Scan k) (cblk_Segments k) (cblk_Raw k) cblk_Pass L_exampleHoldsq (L_CblkOrders_l0 k) (L_CblkOrders_p1 k) (L_CblkOrders_l2 k) (L_CblkOrders_p3 k) (L_CblkOrders_l4 k) (L_CblkOrders_p5 k) (L_CblkOrders_l6 k) (L_CblkOrders_p7 k) k n _ _ _ _ _ _ _ _ _ _ _ _ _ H K) h) k
theorem L_CblkOrders_e3 {R : Type} (cblk_Scan : Int → Int → Heap → (Option Addr → Nat → Nat → Heap → Option R) → Option R) (cblk_Segments : Int → Bool → Bool → Bool → Bool → Bool → Heap → (Option Addr → Nat → Nat → Heap → Option R) → Option R) (cblk_Raw : Int → Bool → Bool → Bool → Bool → Bool → Heap → (Bool → Heap → Option R) → Option R) (cblk_Pass : Int → (Int → Int → Option R) → Option R) (L_exampleHoldsq : (Bool → Option R) → Option R) (L_CblkOrders_l0 : (Int → Option Addr → Int → Int → Option Addr → Nat → Nat → Heap → Option R) → (Bool → Heap → Option R) → Nat → Int → Option Addr → Int → Int → Option Addr → Nat → Nat → Option Addr → Nat → Nat → Int → Heap → Option R) (L_CblkOrders_p1 : Int → Option Addr → Int → Int → Option Addr → Nat → Nat → Option Addr → Nat → Nat → Int → Option Addr → Heap → (Int → Option Addr → Int → Int → Option Addr → Nat → Nat → Option Addr → Nat → Nat → Int → Option Addr → Option R) → (Bool → Option R) → Option R) (L_CblkOrders_l2 : (Option Addr → Int → Int → Option Addr → Nat → Nat → Int → Option Addr → Nat → Nat → Int → Heap → Option R) → (Bool → Heap → Option R) → Nat → Option Addr → Int → Int → Option Addr → Nat → Nat → Int → Option Addr → Nat → Nat → Int → Int → Heap → Option R) (L_CblkOrders_p3 : Option Addr → Int → Int → Option Addr → Nat → Nat → Int → Option Addr → Nat → Nat → Int → Int → Heap → (Option Addr → Int → Int → Option Addr → Nat → Nat → Int → Option Addr → Nat → Nat → Int → Int → Option R) → (Bool → Option R) → Option R) (L_CblkOrders_l4 : (Option Addr → Int → Int → Option Addr → Nat → Nat → Int → Option Addr → Nat → Nat → Int → Int → Heap → Option R) → (Bool → Heap → Option R) → Nat → Option Addr → Int → Int → Option Addr → Nat → Nat → Int → Option Addr → Nat → Nat → Int → Int → Int → Heap → Option R) (L_CblkOrders_p5 : Option Addr → Int → Int → Option Addr → Nat → Nat → Int → Option Addr → Nat → Nat → Int → (Option Addr → Int → Option Addr → Nat → Nat → Option R) → (Bool → Option R) → Option R) (L_CblkOrders_l6 : (Int → Option R) → (Bool → Option R) → Nat → Int → Option Addr → Nat → Nat → Option Addr → Nat → Nat → Int → Heap → Option R) (L_CblkOrders_p7 : Int → Option Addr → Nat → Nat → Option Addr → Nat → Nat → Int → Heap → (Int → Option Addr → Nat → Nat → Option Addr → Nat → Nat → Int → Option R) → (Bool → Option R) → Option R) (k : Nat) (p197 : Option Addr) (n198 : Int) (n199 : Int) (q200 : Option Addr) (l201 : Nat) (c202 : Nat) (n203 : Int) (q204 : Option Addr) (l205 : Nat) (c206 : Nat) (n207 : Int) (n208 : Int) (H : Heap) (K : Xit → Env → Heap → Option R) : evJ (L_CblkOrders_Ct cblk_Scan cblk_Segments cblk_Raw cblk_Pass L_exampleHoldsq) (L_CblkOrders_Jt k L_CblkOrders_l0 L_CblkOrders_p1 L_CblkOrders_l2 L_CblkOrders_p3 L_CblkOrders_l4 L_CblkOrders_p5 L_CblkOrders_l6 L_CblkOrders_p7) L_CblkOrders_i3 (List.zip [5, 7, 8, 9, 13, 14, 15, 16] [.pointer p197, .int .i64 n198, .int .i64 n199, .slice q200 l201 c202, .int .i64 n203, .slice q204 l205 c206, .int .i64 n207, .int .i64 n208]) H (fun x e' H' => K x (clean e' ((⟨[5, 7, 8, 9, 13, 14, 15, 16], [], [6]⟩ : Out).of x)) H') = L_CblkOrders_p3_b k p197 n198 n199 q200 l201 c202 n203 q204 l205 c206 n207 n208 H (fun p1287 n1288 n1289 q1290 l1291 c1292 n1293 q1294 l1295 c1296 n1297 n1298 => K .normal [(5, .pointer p1287), (7, .int .i64 n1288), (8, .int .i64 n1289), (9, .slice q1290 l1291 c1292), (13, .int .i64 n1293), (14, .slice q1294 l1295 c1296), (15, .int .i64 n1297), (16, .int .i64 n1298)] H) (fun t1299 => K .ret [(6, .bool t1299)] H) := by kernel_rfl
theorem L_CblkOrders_j3 {R : Type} (k : Nat) : JS Try.prog 218 (L_CblkOrders_a3 R k k) [5, 7, 8, 9, 13, 14, 15, 16] ⟨[5, 7, 8, 9, 13, 14, 15, 16], [], [6]⟩ (sel [1, 1, 1, 1, 1, 1, 1, 1, 0, 1, 0, 0, 1, 0, 0, 0] (Try.f5.body.getD .skip)) :=
  piece_ok (nt := 218) (c := (sel [1, 1, 1, 1, 1, 1, 1, 1, 0, 1, 0, 0, 1, 0, 0, 0] (Try.f5.body.getD .skip))) (C := L_CblkOrders_C R k) (an := An) (t := (.seq (.reg [5, 7, 8, 9, 13, 14, 15, 16, 120] []) (.cond (.seq (.reg [6] []) .leaf) .leaf))) (ic := L_CblkOrders_i3) (L_CblkOrders_S R k) (L_CblkOrders_J R k) (by kernel_rfl) (And.intro True.intro (And.intro (And.intro True.intro True.intro) True.intro)) (L_CblkOrders_a3 R k k)
    (fun vals H K r h => by
      unfold L_CblkOrders_a3 L_CblkOrders_aa3 at h
      split at h <;> first | (cases h; done) | exact Eq.trans (L_CblkOrders_e3 (cblk_Scan k) (cblk_Segments k) (cblk_Raw k) cblk_Pass L_exampleHoldsq (L_CblkOrders_l0 k) (L_CblkOrders_p1 k) (L_CblkOrders_l2 k) (L_CblkOrders_p3 k) (L_CblkOrders_l4 k) (L_CblkOrders_p5 k) (L_CblkOrders_l6 k) (L_CblkOrders_p7 k) k _ _ _ _ _ _ _ _ _ _ _ _ H K) h)
theorem L_CblkOrders_e2 {R : Type} (cblk_Scan : Int → Int → Heap → (Option Addr → Nat → Nat → Heap → Option R) → Option R) (cblk_Segments : Int → Bool → Bool → Bool → Bool → Bool → Heap → (Option Addr → Nat → Nat → Heap → Option R) → Option R) (cblk_Raw : Int → Bool → Bool → Bool → Bool → Bool → Heap → (Bool → Heap → Option R) → Option R) (cblk_Pass : Int → (Int → Int → Option R) → Option R) (L_exampleHoldsq : (Bool → Option R) → Option R) (L_CblkOrders_l0 : (Int → Option Addr → Int → Int → Option Addr → Nat → Nat → Heap → Option R) → (Bool → Heap → Option R) → Nat → Int → Option Addr → Int → Int → Option Addr → Nat → Nat → Option Addr → Nat → Nat → Int → Heap → Option R) (L_CblkOrders_p1 : Int → Option Addr → Int → Int → Option Addr → Nat → Nat → Option Addr → Nat → Nat → Int → Option Addr → Heap → (Int → Option Addr → Int → Int → Option Addr → Nat → Nat → Option Addr → Nat → Nat → Int → Option Addr → Option R) → (Bool → Option R) → Option R) (L_CblkOrders_l2 : (Option Addr → Int → Int → Option Addr → Nat → Nat → Int → Option Addr → Nat → Nat → Int → Heap → Option R) → (Bool → Heap → Option R) → Nat → Option Addr → Int → Int → Option Addr → Nat → Nat → Int → Option Addr → Nat → Nat → Int → Int → Heap → Option R) (L_CblkOrders_p3 : Option Addr → Int → Int → Option Addr → Nat → Nat → Int → Option Addr → Nat → Nat → Int → Int → Heap → (Option Addr → Int → Int → Option Addr → Nat → Nat → Int → Option Addr → Nat → Nat → Int → Int → Option R) → (Bool → Option R) → Option R) (L_CblkOrders_l4 : (Option Addr → Int → Int → Option Addr → Nat → Nat → Int → Option Addr → Nat → Nat → Int → Int → Heap → Option R) → (Bool → Heap → Option R) → Nat → Option Addr → Int → Int → Option Addr → Nat → Nat → Int → Option Addr → Nat → Nat → Int → Int → Int → Heap → Option R) (L_CblkOrders_p5 : Option Addr → Int → Int → Option Addr → Nat → Nat → Int → Option Addr → Nat → Nat → Int → (Option Addr → Int → Option Addr → Nat → Nat → Option R) → (Bool → Option R) → Option R) (L_CblkOrders_l6 : (Int → Option R) → (Bool → Option R) → Nat → Int → Option Addr → Nat → Nat → Option Addr → Nat → Nat → Int → Heap → Option R) (L_CblkOrders_p7 : Int → Option Addr → Nat → Nat → Option Addr → Nat → Nat → Int → Heap → (Int → Option Addr → Nat → Nat → Option Addr → Nat → Nat → Int → Option R) → (Bool → Option R) → Option R) (k n : Nat) (p185 : Option Addr) (n186 : Int) (n187 : Int) (q188 : Option Addr) (l189 : Nat) (c190 : Nat) (n191 : Int) (q192 : Option Addr) (l193 : Nat) (c194 : Nat) (n195 : Int) (n196 : Int) (H : Heap) (K : Xit → Env → Heap → Option R) : evJ (L_CblkOrders_Ct cblk_Scan cblk_Segments cblk_Raw cblk_Pass L_exampleHoldsq) (L_CblkOrders_Jt k L_CblkOrders_l0 L_CblkOrders_p1 L_CblkOrders_l2 L_CblkOrders_p3 L_CblkOrders_l4 L_CblkOrders_p5 L_CblkOrders_l6 L_CblkOrders_p7) L_CblkOrders_i2 (List.zip [5, 7, 8, 9, 13, 14, 15, 16] [.pointer p185, .int .i64 n186, .int .i64 n187, .slice q188 l189 c190, .int .i64 n191, .slice q192 l193 c194, .int .i64 n195, .int .i64 n196]) H (fun x e' H' => match x with | .normal => L_CblkOrders_aa2 L_CblkOrders_l2 n ((clean e' [5, 7, 8, 9, 13, 14, 15, 16]).map (·.2)) H' K | x => K x (clean e' ((⟨[], [(2, [5, 7, 8, 9, 13, 14, 15])], [6]⟩ : Out).of x)) H') = L_CblkOrders_l2_b L_CblkOrders_p3 L_CblkOrders_l4 (L_CblkOrders_l2 (fun p1275 n1276 n1277 q1278 l1279 c1280 n1281 q1282 l1283 c1284 n1285 H => K (.exit 2) [(5, .pointer p1275), (7, .int .i64 n1276), (8, .int .i64 n1277), (9, .slice q1278 l1279 c1280), (13, .int .i64 n1281), (14, .slice q1282 l1283 c1284), (15, .int .i64 n1285)] H) (fun t1286 H => K .ret [(6, .bool t1286)] H) n) (fun p1275 n1276 n1277 q1278 l1279 c1280 n1281 q1282 l1283 c1284 n1285 H => K (.exit 2) [(5, .pointer p1275), (7, .int .i64 n1276), (8, .int .i64 n1277), (9, .slice q1278 l1279 c1280), (13, .int .i64 n1281), (14, .slice q1282 l1283 c1284), (15, .int .i64 n1285)] H) (fun t1286 H => K .ret [(6, .bool t1286)] H) k p185 n186 n187 q188 l189 c190 n191 q192 l193 c194 n195 n196 H := by kernel_rfl
theorem L_CblkOrders_j2 {R : Type} (k : Nat) : JS Try.prog 218 (L_CblkOrders_a2 R k k) [5, 7, 8, 9, 13, 14, 15, 16] ⟨[], [(2, [5, 7, 8, 9, 13, 14, 15])], [6]⟩ (.loop (sel [1, 1, 1, 1, 1, 1, 1, 1, 0, 1, 0, 0] (Try.f5.body.getD .skip))) :=
  loop_ok (nt := 218) (c := (sel [1, 1, 1, 1, 1, 1, 1, 1, 0, 1, 0, 0] (Try.f5.body.getD .skip))) (C := L_CblkOrders_C R k) (an := An) (t := (.seq (.seq (.reg [5, 7, 8, 9, 13, 14, 15, 16, 103] []) (.cond .leaf .leaf)) (.seq (.node (.seq (.opq 3 [5, 7, 8, 9, 13, 14, 15, 16] ⟨[5, 7, 8, 9, 13, 14, 15, 16], [], [6]⟩ (.seq (.reg [5, 7, 8, 9, 13, 14, 15, 16, 120] []) (.cond (.seq (.reg [6] []) .leaf) .leaf))) (.seq (.seq (.reg [5, 7, 8, 9, 13, 14, 15, 16, 17] []) (.node (.opq 4 [5, 7, 8, 9, 13, 14, 15, 16, 17] ⟨[], [(4, [5, 7, 8, 9, 13, 14, 15, 16])], [6]⟩ (.node (.seq (.seq (.reg [5, 7, 8, 9, 13, 14, 15, 16, 17, 129] []) (.cond .leaf .leaf)) (.seq (.node (.seq (.reg [5, 7, 8, 9, 13, 14, 15, 16, 17, 138] [[], [], [0, 1], [], [], [0, 1, 2, 3, 4], [0, 1, 2, 3, 4, 5]]) (.cond (.seq (.reg [6] []) .leaf) .leaf))) (.reg [5, 7, 8, 9, 13, 14, 15, 16, 17] []))))))) (.reg [5, 7, 8, 9, 13, 14, 15, 16] [])))) (.reg [5, 7, 8, 9, 13, 14, 15, 16] [])))) (ic := L_CblkOrders_i2) (L_CblkOrders_S R k) (L_CblkOrders_J R k) (by kernel_rfl) (And.intro (And.intro True.intro (And.intro True.intro True.intro)) (And.intro (And.intro (L_CblkOrders_j3 k) (And.intro (And.intro True.intro (L_CblkOrders_j4 k)) True.intro)) True.intro)) (L_CblkOrders_a2 R k) (fun vals H K => by unfold L_CblkOrders_a2 L_CblkOrders_aa2; split <;> rfl)
    (fun n vals H K r h => by
      unfold L_CblkOrders_a2 L_CblkOrders_aa2 at h
      split at h <;> first | (cases h; done) | exact Eq.trans (L_CblkOrders_e2 (cblk_Scan k) (cblk_Segments k) (cblk_Raw k) cblk_Pass L_exampleHoldsq (L_CblkOrders_l0 k) (L_CblkOrders_p1 k) (L_CblkOrders_l2 k) (L_CblkOrders_p3 k) (L_CblkOrders_l4 k) (L_CblkOrders_p5 k) (L_CblkOrders_l6 k) (L_CblkOrders_p7 k) k n _ _ _ _ _ _ _ _ _ _ _ _ H K) h) k
theorem L_CblkOrders_e1 {R : Type} (cblk_Scan : Int → Int → Heap → (Option Addr → Nat → Nat → Heap → Option R) → Option R) (cblk_Segments : Int → Bool → Bool → Bool → Bool → Bool → Heap → (Option Addr → Nat → Nat → Heap → Option R) → Option R) (cblk_Raw : Int → Bool → Bool → Bool → Bool → Bool → Heap → (Bool → Heap → Option R) → Option R) (cblk_Pass : Int → (Int → Int → Option R) → Option R) (L_exampleHoldsq : (Bool → Option R) → Option R) (L_CblkOrders_l0 : (Int → Option Addr → Int → Int → Option Addr → Nat → Nat → Heap → Option R) → (Bool → Heap → Option R) → Nat → Int → Option Addr → Int → Int → Option Addr → Nat → Nat → Option Addr → Nat → Nat → Int → Heap → Option R) (L_CblkOrders_p1 : Int → Option Addr → Int → Int → Option Addr → Nat → Nat → Option Addr → Nat → Nat → Int → Option Addr → Heap → (Int → Option Addr → Int → Int → Option Addr → Nat → Nat → Option Addr → Nat → Nat → Int → Option Addr → Option R) → (Bool → Option R) → Option R) (L_CblkOrders_l2 : (Option Addr → Int → Int → Option Addr → Nat → Nat → Int → Option Addr → Nat → Nat → Int → Heap → Option R) → (Bool → Heap → Option R) → Nat → Option Addr → Int → Int → Option Addr → Nat → Nat → Int → Option Addr → Nat → Nat → Int → Int → Heap → Option R) (L_CblkOrders_p3 : Option Addr → Int → Int → Option Addr → Nat → Nat → Int → Option Addr → Nat → Nat → Int → Int → Heap → (Option Addr → Int → Int → Option Addr → Nat → Nat → Int → Option Addr → Nat → Nat → Int → Int → Option R) → (Bool → Option R) → Option R) (L_CblkOrders_l4 : (Option Addr → Int → Int → Option Addr → Nat → Nat → Int → Option Addr → Nat → Nat → Int → Int → Heap → Option R) → (Bool → Heap → Option R) → Nat → Option Addr → Int → Int → Option Addr → Nat → Nat → Int → Option Addr → Nat → Nat → Int → Int → Int → Heap → Option R) (L_CblkOrders_p5 : Option Addr → Int → Int → Option Addr → Nat → Nat → Int → Option Addr → Nat → Nat → Int → (Option Addr → Int → Option Addr → Nat → Nat → Option R) → (Bool → Option R) → Option R) (L_CblkOrders_l6 : (Int → Option R) → (Bool → Option R) → Nat → Int → Option Addr → Nat → Nat → Option Addr → Nat → Nat → Int → Heap → Option R) (L_CblkOrders_p7 : Int → Option Addr → Nat → Nat → Option Addr → Nat → Nat → Int → Heap → (Int → Option Addr → Nat → Nat → Option Addr → Nat → Nat → Int → Option R) → (Bool → Option R) → Option R) (k : Nat) (n102 : Int) (p103 : Option Addr) (n104 : Int) (n105 : Int) (q106 : Option Addr) (l107 : Nat) (c108 : Nat) (q109 : Option Addr) (l110 : Nat) (c111 : Nat) (n112 : Int) (p113 : Option Addr) (H : Heap) (K : Xit → Env → Heap → Option R) : evJ (L_CblkOrders_Ct cblk_Scan cblk_Segments cblk_Raw cblk_Pass L_exampleHoldsq) (L_CblkOrders_Jt k L_CblkOrders_l0 L_CblkOrders_p1 L_CblkOrders_l2 L_CblkOrders_p3 L_CblkOrders_l4 L_CblkOrders_p5 L_CblkOrders_l6 L_CblkOrders_p7) L_CblkOrders_i1 (List.zip [1, 5, 7, 8, 9, 10, 11, 12] [.int .u8 n102, .pointer p103, .int .i64 n104, .int .i64 n105, .slice q106 l107 c108, .slice q109 l110 c111, .int .i64 n112, .pointer p113]) H (fun x e' H' => K x (clean e' ((⟨[1, 5, 7, 8, 9, 10, 11, 12], [], [6]⟩ : Out).of x)) H') = L_CblkOrders_p1_b k n102 p103 n104 n105 q106 l107 c108 q109 l110 c111 n112 p113 H (fun n1262 p1263 n1264 n1265 q1266 l1267 c1268 q1269 l1270 c1271 n1272 p1273 => K .normal [(1, .int .u8 n1262), (5, .pointer p1263), (7, .int .i64 n1264), (8, .int .i64 n1265), (9, .slice q1266 l1267 c1268), (10, .slice q1269 l1270 c1271), (11, .int .i64 n1272), (12, .pointer p1273)] H) (fun t1274 => K .ret [(6, .bool t1274)] H) := by kernel_rfl
theorem L_CblkOrders_j1 {R : Type} (k : Nat) : JS Try.prog 218 (L_CblkOrders_a1 R k k) [1, 5, 7, 8, 9, 10, 11, 12] ⟨[1, 5, 7, 8, 9, 10, 11, 12], [], [6]⟩ (sel [1, 1, 1, 1, 0, 1, 0, 0, 1, 0, 0, 1, 0] (Try.f5.body.getD .skip)) :=
  piece_ok (nt := 218) (c := (sel [1, 1, 1, 1, 0, 1, 0, 0, 1, 0, 0, 1, 0] (Try.f5.body.getD .skip))) (C := L_CblkOrders_C R k) (an := An) (t := (.seq (.reg [1, 5, 7, 8, 9, 10, 11, 12, 83] []) (.cond (.seq (.reg [6] []) .leaf) .leaf))) (ic := L_CblkOrders_i1) (L_CblkOrders_S R k) (L_CblkOrders_J R k) (by kernel_rfl) (And.intro True.intro (And.intro (And.intro True.intro True.intro) True.intro)) (L_CblkOrders_a1 R k k)
    (fun vals H K r h => by
      unfold L_CblkOrders_a1 L_CblkOrders_aa1 at h
      split at h <;> first | (cases h; done) | exact Eq.trans (L_CblkOrders_e1 (cblk_Scan k) (cblk_Segments k) (cblk_Raw k) cblk_Pass L_exampleHoldsq (L_CblkOrders_l0 k) (L_CblkOrders_p1 k) (L_CblkOrders_l2 k) (L_CblkOrders_p3 k) (L_CblkOrders_l4 k) (L_CblkOrders_p5 k) (L_CblkOrders_l6 k) (L_CblkOrders_p7 k) k _ _ _ _ _ _ _ _ _ _ _ _ H K) h)
theorem L_CblkOrders_e0 {R : Type} (cblk_Scan : Int → Int → Heap → (Option Addr → Nat → Nat → Heap → Option R) → Option R) (cblk_Segments : Int → Bool → Bool → Bool → Bool → Bool → Heap → (Option Addr → Nat → Nat → Heap → Option R) → Option R) (cblk_Raw : Int → Bool → Bool → Bool → Bool → Bool → Heap → (Bool → Heap → Option R) → Option R) (cblk_Pass : Int → (Int → Int → Option R) → Option R) (L_exampleHoldsq : (Bool → Option R) → Option R) (L_CblkOrders_l0 : (Int → Option Addr → Int → Int → Option Addr → Nat → Nat → Heap → Option R) → (Bool → Heap → Option R) → Nat → Int → Option Addr → Int → Int → Option Addr → Nat → Nat → Option Addr → Nat → Nat → Int → Heap → Option R) (L_CblkOrders_p1 : Int → Option Addr → Int → Int → Option Addr → Nat → Nat → Option Addr → Nat → Nat → Int → Option Addr → Heap → (Int → Option Addr → Int → Int → Option Addr → Nat → Nat → Option Addr → Nat → Nat → Int → Option Addr → Option R) → (Bool → Option R) → Option R) (L_CblkOrders_l2 : (Option Addr → Int → Int → Option Addr → Nat → Nat → Int → Option Addr → Nat → Nat → Int → Heap → Option R) → (Bool → Heap → Option R) → Nat → Option Addr → Int → Int → Option Addr → Nat → Nat → Int → Option Addr → Nat → Nat → Int → Int → Heap → Option R) (L_CblkOrders_p3 : Option Addr → Int → Int → Option Addr → Nat → Nat → Int → Option Addr → Nat → Nat → Int → Int → Heap → (Option Addr → Int → Int → Option Addr → Nat → Nat → Int → Option Addr → Nat → Nat → Int → Int → Option R) → (Bool → Option R) → Option R) (L_CblkOrders_l4 : (Option Addr → Int → Int → Option Addr → Nat → Nat → Int → Option Addr → Nat → Nat → Int → Int → Heap → Option R) → (Bool → Heap → Option R) → Nat → Option Addr → Int → Int → Option Addr → Nat → Nat → Int → Option Addr → Nat → Nat → Int → Int → Int → Heap → Option R) (L_CblkOrders_p5 : Option Addr → Int → Int → Option Addr → Nat → Nat → Int → Option Addr → Nat → Nat → Int → (Option Addr → Int → Option Addr → Nat → Nat → Option R) → (Bool → Option R) → Option R) (L_CblkOrders_l6 : (Int → Option R) → (Bool → Option R) → Nat → Int → Option Addr → Nat → Nat → Option Addr → Nat → Nat → Int → Heap → Option R) (L_CblkOrders_p7 : Int → Option Addr → Nat → Nat → Option Addr → Nat → Nat → Int → Heap → (Int → Option Addr → Nat → Nat → Option Addr → Nat → Nat → Int → Option R) → (Bool → Option R) → Option R) (k n : Nat) (n85 : Int) (p86 : Option Addr) (n87 : Int) (n88 : Int) (q89 : Option Addr) (l90 : Nat) (c91 : Nat) (q92 : Option Addr) (l93 : Nat) (c94 : Nat) (n95 : Int) (H : Heap) (K : Xit → Env → Heap → Option R) : evJ (L_CblkOrders_Ct cblk_Scan cblk_Segments cblk_Raw cblk_Pass L_exampleHoldsq) (L_CblkOrders_Jt k L_CblkOrders_l0 L_CblkOrders_p1 L_CblkOrders_l2 L_CblkOrders_p3 L_CblkOrders_l4 L_CblkOrders_p5 L_CblkOrders_l6 L_CblkOrders_p7) L_CblkOrders_i0 (List.zip [1, 5, 7, 8, 9, 10, 11] [.int .u8 n85, .pointer p86, .int .i64 n87, .int .i64 n88, .slice q89 l90 c91, .slice q92 l93 c94, .int .i64 n95]) H (fun x e' H' => match x with | .normal => L_CblkOrders_aa0 L_CblkOrders_l0 n ((clean e' [1, 5, 7, 8, 9, 10, 11]).map (·.2)) H' K | x => K x (clean e' ((⟨[], [(0, [1, 5, 7, 8, 9])], [6]⟩ : Out).of x)) H') = L_CblkOrders_l0_b L_CblkOrders_p1 (L_CblkOrders_l0 (fun n1254 p1255 n1256 n1257 q1258 l1259 c1260 H => K (.exit 0) [(1, .int .u8 n1254), (5, .pointer p1255), (7, .int .i64 n1256), (8, .int .i64 n1257), (9, .slice q1258 l1259 c1260)] H) (fun t1261 H => K .ret [(6, .bool t1261)] H) n) (fun n1254 p1255 n1256 n1257 q1258 l1259 c1260 H => K (.exit 0) [(1, .int .u8 n1254), (5, .pointer p1255), (7, .int .i64 n1256), (8, .int .i64 n1257), (9, .slice q1258 l1259 c1260)] H) (fun t1261 H => K .ret [(6, .bool t1261)] H) k n85 p86 n87 n88 q89 l90 c91 q92 l93 c94 n95 H := by kernel_rfl
theorem L_CblkOrders_j0 {R : Type} (k : Nat) : JS Try.prog 218 (L_CblkOrders_a0 R k k) [1, 5, 7, 8, 9, 10, 11] ⟨[], [(0, [1, 5, 7, 8, 9])], [6]⟩ (.loop (sel [1, 1, 1, 1, 0, 1, 0, 0] (Try.f5.body.getD .skip))) :=
  loop_ok (nt := 218) (c := (sel [1, 1, 1, 1, 0, 1, 0, 0] (Try.f5.body.getD .skip))) (C := L_CblkOrders_C R k) (an := An) (t := (.seq (.seq (.reg [1, 5, 7, 8, 9, 10, 11, 45] []) (.cond .leaf .leaf)) (.seq (.node (.seq (.reg [1, 5, 7, 8, 9, 10, 11, 12] []) (.seq (.opq 1 [1, 5, 7, 8, 9, 10, 11, 12] ⟨[1, 5, 7, 8, 9, 10, 11, 12], [], [6]⟩ (.seq (.reg [1, 5, 7, 8, 9, 10, 11, 12, 83] []) (.cond (.seq (.reg [6] []) .leaf) .leaf))) (.reg [1, 5, 7, 8, 9, 10, 11] [])))) (.reg [1, 5, 7, 8, 9, 10, 11] [])))) (ic := L_CblkOrders_i0) (L_CblkOrders_S R k) (L_CblkOrders_J R k) (by kernel_rfl) (And.intro (And.intro True.intro (And.intro True.intro True.intro)) (And.intro (And.intro True.intro (And.intro (L_CblkOrders_j1 k) True.intro)) True.intro)) (L_CblkOrders_a0 R k) (fun vals H K => by unfold L_CblkOrders_a0 L_CblkOrders_aa0; split <;> rfl)
    (fun n vals H K r h => by
      unfold L_CblkOrders_a0 L_CblkOrders_aa0 at h
      split at h <;> first | (cases h; done) | exact Eq.trans (L_CblkOrders_e0 (cblk_Scan k) (cblk_Segments k) (cblk_Raw k) cblk_Pass L_exampleHoldsq (L_CblkOrders_l0 k) (L_CblkOrders_p1 k) (L_CblkOrders_l2 k) (L_CblkOrders_p3 k) (L_CblkOrders_l4 k) (L_CblkOrders_p5 k) (L_CblkOrders_l6 k) (L_CblkOrders_p7 k) k n _ _ _ _ _ _ _ _ _ _ _ H K) h) k
def L_CblkOrders_ca {R : Type} (f : Int → Int → Int → Bool → Bool → Bool → Bool → Bool → Heap → (Bool → Heap → Option R) → Option R) (args : List Value) (H : Heap) (K : Value → Heap → Option R) : Option R :=
  match args with
  | [.agg ⟨[.int .u8 n61, .int .u8 n62]⟩, .int .u8 n63, .agg ⟨[.bool t64, .bool t65, .bool t66, .bool t67, .bool t68]⟩] => f n61 n62 n63 t64 t65 t66 t67 t68 H (fun t1330 H => K (.bool t1330) H)
  | _ => none
def L_CblkOrders_c (R : Type) (k : Nat) (args : List Value) (H : Heap) (K : Value → Heap → Option R) : Option R := L_CblkOrders_ca (L_CblkOrders k) args H K
theorem L_CblkOrders_e {R : Type} (cblk_Scan : Int → Int → Heap → (Option Addr → Nat → Nat → Heap → Option R) → Option R) (cblk_Segments : Int → Bool → Bool → Bool → Bool → Bool → Heap → (Option Addr → Nat → Nat → Heap → Option R) → Option R) (cblk_Raw : Int → Bool → Bool → Bool → Bool → Bool → Heap → (Bool → Heap → Option R) → Option R) (cblk_Pass : Int → (Int → Int → Option R) → Option R) (L_exampleHoldsq : (Bool → Option R) → Option R) (L_CblkOrders_l0 : (Int → Option Addr → Int → Int → Option Addr → Nat → Nat → Heap → Option R) → (Bool → Heap → Option R) → Nat → Int → Option Addr → Int → Int → Option Addr → Nat → Nat → Option Addr → Nat → Nat → Int → Heap → Option R) (L_CblkOrders_p1 : Int → Option Addr → Int → Int → Option Addr → Nat → Nat → Option Addr → Nat → Nat → Int → Option Addr → Heap → (Int → Option Addr → Int → Int → Option Addr → Nat → Nat → Option Addr → Nat → Nat → Int → Option Addr → Option R) → (Bool → Option R) → Option R) (L_CblkOrders_l2 : (Option Addr → Int → Int → Option Addr → Nat → Nat → Int → Option Addr → Nat → Nat → Int → Heap → Option R) → (Bool → Heap → Option R) → Nat → Option Addr → Int → Int → Option Addr → Nat → Nat → Int → Option Addr → Nat → Nat → Int → Int → Heap → Option R) (L_CblkOrders_p3 : Option Addr → Int → Int → Option Addr → Nat → Nat → Int → Option Addr → Nat → Nat → Int → Int → Heap → (Option Addr → Int → Int → Option Addr → Nat → Nat → Int → Option Addr → Nat → Nat → Int → Int → Option R) → (Bool → Option R) → Option R) (L_CblkOrders_l4 : (Option Addr → Int → Int → Option Addr → Nat → Nat → Int → Option Addr → Nat → Nat → Int → Int → Heap → Option R) → (Bool → Heap → Option R) → Nat → Option Addr → Int → Int → Option Addr → Nat → Nat → Int → Option Addr → Nat → Nat → Int → Int → Int → Heap → Option R) (L_CblkOrders_p5 : Option Addr → Int → Int → Option Addr → Nat → Nat → Int → Option Addr → Nat → Nat → Int → (Option Addr → Int → Option Addr → Nat → Nat → Option R) → (Bool → Option R) → Option R) (L_CblkOrders_l6 : (Int → Option R) → (Bool → Option R) → Nat → Int → Option Addr → Nat → Nat → Option Addr → Nat → Nat → Int → Heap → Option R) (L_CblkOrders_p7 : Int → Option Addr → Nat → Nat → Option Addr → Nat → Nat → Int → Heap → (Int → Option Addr → Nat → Nat → Option Addr → Nat → Nat → Int → Option R) → (Bool → Option R) → Option R) (k : Nat) (n61 : Int) (n62 : Int) (n63 : Int) (t64 : Bool) (t65 : Bool) (t66 : Bool) (t67 : Bool) (t68 : Bool) (H : Heap) (K : Value → Heap → Option R) : evF (L_CblkOrders_Ct cblk_Scan cblk_Segments cblk_Raw cblk_Pass L_exampleHoldsq) (L_CblkOrders_Jt k L_CblkOrders_l0 L_CblkOrders_p1 L_CblkOrders_l2 L_CblkOrders_p3 L_CblkOrders_l4 L_CblkOrders_p5 L_CblkOrders_l6 L_CblkOrders_p7) L_CblkOrders_f [.agg ⟨[.int .u8 n61, .int .u8 n62]⟩, .int .u8 n63, .agg ⟨[.bool t64, .bool t65, .bool t66, .bool t67, .bool t68]⟩] H K = L_CblkOrders_b cblk_Scan L_CblkOrders_l0 cblk_Segments L_CblkOrders_l2 L_CblkOrders_p5 L_CblkOrders_l6 cblk_Pass L_exampleHoldsq k n61 n62 n63 t64 t65 t66 t67 t68 H (fun t1330 H => K (.bool t1330) H) := by kernel_rfl
theorem L_CblkOrders_cs (R : Type) (k : Nat) : ∀ args H K r, L_CblkOrders_c R k args H K = some r → ∃ v H', Tri Try.prog 5 args H v H' ∧ K v H' = some r := by
  intro args H K r h
  unfold L_CblkOrders_c L_CblkOrders_ca at h
  split at h
  · exact evF_ok (C := L_CblkOrders_C R k) (an := An) (t := L_CblkOrders_at) (fn := Try.f5) (c := (Try.f5.body.getD .skip)) (ifn := L_CblkOrders_f) (L_CblkOrders_S R k) (L_CblkOrders_J R k) Try.func5 (by kernel_rfl) (by kernel_rfl) (And.intro True.intro (And.intro True.intro (And.intro True.intro (And.intro True.intro (And.intro (And.intro True.intro (L_CblkOrders_j0 k)) (And.intro True.intro (And.intro True.intro (And.intro True.intro (And.intro (And.intro True.intro (L_CblkOrders_j2 k)) (And.intro (L_CblkOrders_j5 k) (And.intro True.intro (And.intro (And.intro True.intro (L_CblkOrders_j6 k)) (And.intro True.intro (And.intro True.intro (And.intro True.intro (And.intro True.intro True.intro)))))))))))))))) rfl (Eq.trans (L_CblkOrders_e (cblk_Scan k) (cblk_Segments k) (cblk_Raw k) cblk_Pass L_exampleHoldsq (L_CblkOrders_l0 k) (L_CblkOrders_p1 k) (L_CblkOrders_l2 k) (L_CblkOrders_p3 k) (L_CblkOrders_l4 k) (L_CblkOrders_p5 k) (L_CblkOrders_l6 k) (L_CblkOrders_p7 k) k _ _ _ _ _ _ _ _ H K) h)
  · cases h
end Go.Proofs.Ytblpaolcgkjcgaa.Sh
