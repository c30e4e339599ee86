/- Lean functions that stand for Go's, over an explicit heap, and the proofs that they do (written by this claim's program shallow.py). -/
import Derived.Test.YtblkejnciinaeaaSh0
import Derived.Test.YtblkejnciinaeaaSh1
import Derived.Test.YtblkejnciinaeaaSh2
import Derived.Test.YtblkejnciinaeaaSh3
import Derived.Test.YtblkejnciinaeaaSh4
import Derived.Test.YtblkejnciinaeaaSh5
import Derived.Test.YtblkejnciinaeaaSh8
set_option maxRecDepth 100000
set_option linter.unusedVariables false
set_option linter.unusedSimpArgs false
namespace Go.Proofs.Ytblkejnciinaeaa.Sh
open Go.Proofs.Ytblkejnciinaeaa.FW
/-! ### L_alike: function 36 -/
abbrev L_alike_p0_t (R : Type) : Type := Oa → Oa → Oa → Oa → Oa → Oa → Oa → Bool → Bool → Int → Int → Heap → (Oa → Oa → Oa → Oa → Oa → Oa → Bool → Bool → Int → Int → Heap → Option R) → Option R
def L_alike_p0_b {R : Type} (tagtree_Tree_Set : tagtree_Tree_Set_t R) (tagtree_Tree_Encode : tagtree_Tree_Encode_t R) (tagtree_Tree_Decode : tagtree_Tree_Decode_t R) (k : Nat) (p1278 : Oa) (p1279 : Oa) (p1280 : Oa) (p1281 : Oa) (p1282 : Oa) (p1283 : Oa) (p1284 : Oa) (t1285 : Bool) (t1286 : Bool) (n1287 : Int) (n1288 : Int) (H : Heap) (KN : Oa → Oa → Oa → Oa → Oa → Oa → Bool → Bool → Int → Int → Heap → Option R) : Option R :=
hfad 0 p1280 fun p1289 =>
ldI .i64 H p1289 fun n1290 =>
bif (n1290 == 0) then (hfad 1 p1280 fun p1291 =>
ldI .i64 H p1291 fun n1292 =>
hfad 2 p1280 fun p1293 =>
ldI .i64 H p1293 fun n1294 =>
hfad 3 p1280 fun p1295 =>
ldI .i64 H p1295 fun n1296 =>
tagtree_Tree_Set p1278 n1292 n1294 n1296 H fun n1297 H1298 =>
KN p1278 p1279 p1280 p1281 p1282 p1284 t1285 t1286 n1297 n1288 H1298)
 else (bif (n1290 == 1) then (hfad 1 p1280 fun p1299 =>
ldI .i64 H p1299 fun n1300 =>
hfad 2 p1280 fun p1301 =>
ldI .i64 H p1301 fun n1302 =>
hfad 3 p1280 fun p1303 =>
ldI .i64 H p1303 fun n1304 =>
tagtree_Tree_Encode p1278 p1281 n1300 n1302 n1304 H fun n1305 H1306 =>
KN p1278 p1279 p1280 p1281 p1282 p1284 t1285 t1286 n1305 n1288 H1306)
 else (bif (n1290 == 3) then (hfad 1 p1280 fun p1307 =>
ldI .i64 H p1307 fun n1308 =>
hfad 2 p1280 fun p1309 =>
ldI .i64 H p1309 fun n1310 =>
hfad 3 p1280 fun p1311 =>
ldI .i64 H p1311 fun n1312 =>
tagtree_Tree_Decode p1278 p1283 n1308 n1310 n1312 H fun t1313 n1314 H1315 =>
KN p1278 p1279 p1280 p1281 p1282 p1284 t1313 t1286 n1314 n1288 H1315)
 else (KN p1278 p1279 p1280 p1281 p1282 p1284 t1285 t1286 n1287 n1288 H)))
def L_alike_p0 {R : Type} (k : Nat) (p1278 : Oa) (p1279 : Oa) (p1280 : Oa) (p1281 : Oa) (p1282 : Oa) (p1283 : Oa) (p1284 : Oa) (t1285 : Bool) (t1286 : Bool) (n1287 : Int) (n1288 : Int) (H : Heap) (KN : Oa → Oa → Oa → Oa → Oa → Oa → Bool → Bool → Int → Int → Heap → Option R) : Option R := L_alike_p0_b (tagtree_Tree_Set k) (tagtree_Tree_Encode k) (tagtree_Tree_Decode k) k p1278 p1279 p1280 p1281 p1282 p1283 p1284 t1285 t1286 n1287 n1288 H KN

abbrev L_alike_p1_t (R : Type) : Type := Oa → Oa → Oa → Oa → Oa → Oa → Bool → Bool → Int → Int → Heap → (Oa → Oa → Oa → Oa → Oa → Bool → Bool → Int → Int → Heap → Option R) → Option R
def L_alike_p1_b {R : Type} (tagtree_Tree_Set : tagtree_Tree_Set_t R) (tagtree_Tree_Encode : tagtree_Tree_Encode_t R) (tagtree_Tree_Decode : tagtree_Tree_Decode_t R) (k : Nat) (p1337 : Oa) (p1338 : Oa) (p1339 : Oa) (p1340 : Oa) (p1341 : Oa) (p1342 : Oa) (t1343 : Bool) (t1344 : Bool) (n1345 : Int) (n1346 : Int) (H : Heap) (KN : Oa → Oa → Oa → Oa → Oa → Bool → Bool → Int → Int → Heap → Option R) : Option R :=
hfad 0 p1339 fun p1347 =>
ldI .i64 H p1347 fun n1348 =>
bif (n1348 == 0) then (hfad 1 p1339 fun p1349 =>
ldI .i64 H p1349 fun n1350 =>
hfad 2 p1339 fun p1351 =>
ldI .i64 H p1351 fun n1352 =>
hfad 3 p1339 fun p1353 =>
ldI .i64 H p1353 fun n1354 =>
tagtree_Tree_Set p1338 n1350 n1352 n1354 H fun n1355 H1356 =>
KN p1337 p1338 p1339 p1340 p1341 t1343 t1344 n1345 n1355 H1356)
 else (bif (n1348 == 1) then (hfad 1 p1339 fun p1357 =>
ldI .i64 H p1357 fun n1358 =>
hfad 2 p1339 fun p1359 =>
ldI .i64 H p1359 fun n1360 =>
hfad 3 p1339 fun p1361 =>
ldI .i64 H p1361 fun n1362 =>
tagtree_Tree_Encode p1338 p1341 n1358 n1360 n1362 H fun n1363 H1364 =>
KN p1337 p1338 p1339 p1340 p1341 t1343 t1344 n1345 n1363 H1364)
 else (bif (n1348 == 3) then (hfad 1 p1339 fun p1365 =>
ldI .i64 H p1365 fun n1366 =>
hfad 2 p1339 fun p1367 =>
ldI .i64 H p1367 fun n1368 =>
hfad 3 p1339 fun p1369 =>
ldI .i64 H p1369 fun n1370 =>
tagtree_Tree_Decode p1338 p1342 n1366 n1368 n1370 H fun t1371 n1372 H1373 =>
KN p1337 p1338 p1339 p1340 p1341 t1343 t1371 n1345 n1372 H1373)
 else (KN p1337 p1338 p1339 p1340 p1341 t1343 t1344 n1345 n1346 H)))
def L_alike_p1 {R : Type} (k : Nat) (p1337 : Oa) (p1338 : Oa) (p1339 : Oa) (p1340 : Oa) (p1341 : Oa) (p1342 : Oa) (t1343 : Bool) (t1344 : Bool) (n1345 : Int) (n1346 : Int) (H : Heap) (KN : Oa → Oa → Oa → Oa → Oa → Bool → Bool → Int → Int → Heap → Option R) : Option R := L_alike_p1_b (tagtree_Tree_Set k) (tagtree_Tree_Encode k) (tagtree_Tree_Decode k) k p1337 p1338 p1339 p1340 p1341 p1342 t1343 t1344 n1345 n1346 H KN

abbrev L_alike_t (R : Type) : Type := Oa → Oa → Int → Int → Int → Int → Heap → (Bool → Heap → Option R) → Option R

def L_alike_b {R : Type} (bitio_NewWriter : bitio_NewWriter_t R) (bitio_NewReader : bitio_NewReader_t R) (L_alike_p0 : L_alike_p0_t R) (L_alike_p1 : L_alike_p1_t R) (tagtree_Tree_Value : tagtree_Tree_Value_t R) (bitio_Writer_Len : bitio_Writer_Len_t R) (bitio_Writer_Bytes : bitio_Writer_Bytes_t R) (R09_SameBytes : R09_SameBytes_t R) (k : Nat) (p1254 : Oa) (p1255 : Oa) (n1256 : Int) (n1257 : Int) (n1258 : Int) (n1259 : Int) (H : Heap) (K : Bool → Heap → Option R) : Option R :=
hal H [.int .i64 n1256, .int .i64 n1257, .int .i64 n1258, .int .i64 n1259] fun p1260 H1261 =>
bitio_NewWriter H1261 fun p1262 H1263 =>
bitio_NewWriter H1263 fun p1264 H1265 =>
hfad 3 p1260 fun p1266 =>
ldI .i64 H1265 p1266 fun n1267 =>
hfad 1 p1260 fun p1268 =>
ldI .i64 H1265 p1268 fun n1269 =>
hfad 2 p1260 fun p1270 =>
ldI .i64 H1265 p1270 fun n1271 =>
hal H1265 [.int .u8 (IntKind.wrap .u8 (IntKind.wrap .i64 (37 * n1267))), .int .u8 (IntKind.wrap .u8 (IntKind.wrap .i64 ((IntKind.wrap .i64 (91 * n1269)) + (IntKind.wrap .i64 (7 * n1271))))), .int .u8 90] fun p1272 H1273 =>
bitio_NewReader p1272 3 3 H1273 fun p1274 H1275 =>
bitio_NewReader p1272 3 3 H1275 fun p1276 H1277 =>
L_alike_p0 p1254 p1255 p1260 p1262 p1264 p1274 p1276 false false 0 0 H1277 (fun p1326 p1327 p1328 p1329 p1330 p1331 t1332 t1333 n1334 n1335 H1336 =>
bif p1327.isNone then (K true H1336)
 else (L_alike_p1 p1326 p1327 p1328 p1329 p1330 p1331 t1332 t1333 n1334 n1335 H1336 (fun p1383 p1384 p1385 p1386 p1387 t1388 t1389 n1390 n1391 H1392 =>
hfad 1 p1385 fun p1393 =>
ldI .i64 H1392 p1393 fun n1394 =>
hfad 2 p1385 fun p1395 =>
ldI .i64 H1392 p1395 fun n1396 =>
tagtree_Tree_Value p1384 n1394 n1396 H1392 fun n1397 t1398 H1399 =>
hfad 1 p1385 fun p1400 =>
ldI .i64 H1399 p1400 fun n1401 =>
hfad 2 p1385 fun p1402 =>
ldI .i64 H1399 p1402 fun n1403 =>
tagtree_Tree_Value p1383 n1401 n1403 H1399 fun n1404 t1405 H1406 =>
bif (n1390 == n1391) then (bif (t1388 == t1389) then (bitio_Writer_Len p1386 H1406 fun n1407 =>
bitio_Writer_Len p1387 H1406 fun n1408 =>
bif (n1407 == n1408) then (bitio_Writer_Bytes p1386 H1406 fun q1409 l1410 c1411 H1412 =>
bitio_Writer_Bytes p1387 H1412 fun q1413 l1414 c1415 H1416 =>
R09_SameBytes q1409 l1410 c1411 q1413 l1414 c1415 H1416 fun t1417 =>
bif t1417 then (bif (n1397 == n1404) then (K (t1398 == t1405) H1416)
 else (K false H1416))
 else (K false H1416))
 else (K false H1406))
 else (K false H1406))
 else (K false H1406))))

def L_alike {R : Type} (k : Nat) (p1254 : Oa) (p1255 : Oa) (n1256 : Int) (n1257 : Int) (n1258 : Int) (n1259 : Int) (H : Heap) (K : Bool → Heap → Option R) : Option R := L_alike_b bitio_NewWriter bitio_NewReader (L_alike_p0 k) (L_alike_p1 k) (tagtree_Tree_Value k) bitio_Writer_Len (bitio_Writer_Bytes k) R09_SameBytes k p1254 p1255 n1256 n1257 n1258 n1259 H K

def L_alike_Ct {R : Type} (bitio_NewWriter : bitio_NewWriter_t R) (bitio_NewReader : bitio_NewReader_t R) (tagtree_Tree_Set : tagtree_Tree_Set_t R) (tagtree_Tree_Encode : tagtree_Tree_Encode_t R) (tagtree_Tree_Decode : tagtree_Tree_Decode_t R) (tagtree_Tree_Value : tagtree_Tree_Value_t R) (bitio_Writer_Len : bitio_Writer_Len_t R) (bitio_Writer_Bytes : bitio_Writer_Bytes_t R) (R09_SameBytes : R09_SameBytes_t R) : Tab R := tcons 17 (bitio_NewWriter_ca bitio_NewWriter) <| tcons 30 (bitio_NewReader_ca bitio_NewReader) <| tcons 19 (tagtree_Tree_Set_ca tagtree_Tree_Set) <| tcons 21 (tagtree_Tree_Encode_ca tagtree_Tree_Encode) <| tcons 32 (tagtree_Tree_Decode_ca tagtree_Tree_Decode) <| tcons 25 (tagtree_Tree_Value_ca tagtree_Tree_Value) <| tcons 23 (bitio_Writer_Len_ca bitio_Writer_Len) <| tcons 28 (bitio_Writer_Bytes_ca bitio_Writer_Bytes) <| tcons 27 (R09_SameBytes_ca R09_SameBytes) <| fun _ _ _ _ => none
def L_alike_C (R : Type) (k : Nat) : Tab R := L_alike_Ct bitio_NewWriter bitio_NewReader (tagtree_Tree_Set k) (tagtree_Tree_Encode k) (tagtree_Tree_Decode k) (tagtree_Tree_Value k) bitio_Writer_Len (bitio_Writer_Bytes k) R09_SameBytes
theorem L_alike_S (R : Type) (k : Nat) : CSound Try.prog (L_alike_C R k) := csound_cons (bitio_NewWriter_cs R k) <| csound_cons (bitio_NewReader_cs R k) <| csound_cons (tagtree_Tree_Set_cs R k) <| csound_cons (tagtree_Tree_Encode_cs R k) <| csound_cons (tagtree_Tree_Decode_cs R k) <| csound_cons (tagtree_Tree_Value_cs R k) <| csound_cons (bitio_Writer_Len_cs R k) <| csound_cons (bitio_Writer_Bytes_cs R k) <| csound_cons (R09_SameBytes_cs R k) <| csound_nil
def L_alike_aa0 {R : Type} (f : L_alike_p0_t R) (n : Nat) (vals : List Value) (H : Heap) (K : Xit → Env → Heap → Option R) : Option R :=
  match vals with
  | [.pointer p1278, .pointer p1279, .pointer p1280, .pointer p1281, .pointer p1282, .pointer p1283, .pointer p1284, .bool t1285, .bool t1286, .int .i64 n1287, .int .i64 n1288] => f p1278 p1279 p1280 p1281 p1282 p1283 p1284 t1285 t1286 n1287 n1288 H (fun p2070 p2071 p2072 p2073 p2074 p2075 t2076 t2077 n2078 n2079 H => K .normal [(0, .pointer p2070), (1, .pointer p2071), (5, .pointer p2072), (7, .pointer p2073), (8, .pointer p2074), (11, .pointer p2075), (12, .bool t2076), (13, .bool t2077), (14, .int .i64 n2078), (15, .int .i64 n2079)] H)
  | _ => none
def L_alike_a0 (R : Type) (k n : Nat) (vals : List Value) (H : Heap) (K : Xit → Env → Heap → Option R) : Option R := L_alike_aa0 (L_alike_p0 k) n vals H K
def L_alike_aa1 {R : Type} (f : L_alike_p1_t R) (n : Nat) (vals : List Value) (H : Heap) (K : Xit → Env → Heap → Option R) : Option R :=
  match vals with
  | [.pointer p1337, .pointer p1338, .pointer p1339, .pointer p1340, .pointer p1341, .pointer p1342, .bool t1343, .bool t1344, .int .i64 n1345, .int .i64 n1346] => f p1337 p1338 p1339 p1340 p1341 p1342 t1343 t1344 n1345 n1346 H (fun p2080 p2081 p2082 p2083 p2084 t2085 t2086 n2087 n2088 H => K .normal [(0, .pointer p2080), (1, .pointer p2081), (5, .pointer p2082), (7, .pointer p2083), (8, .pointer p2084), (12, .bool t2085), (13, .bool t2086), (14, .int .i64 n2087), (15, .int .i64 n2088)] H)
  | _ => none
def L_alike_a1 (R : Type) (k n : Nat) (vals : List Value) (H : Heap) (K : Xit → Env → Heap → Option R) : Option R := L_alike_aa1 (L_alike_p1 k) n vals H K
def L_alike_Jt {R : Type} (k : Nat) (L_alike_p0 : L_alike_p0_t R) (L_alike_p1 : L_alike_p1_t R) : JTab R := tcons 0 (L_alike_aa0 L_alike_p0 k) <| tcons 1 (L_alike_aa1 L_alike_p1 k) <| fun _ _ _ _ => none
def L_alike_J (R : Type) (k : Nat) : JTab R := L_alike_Jt k (L_alike_p0 k) (L_alike_p1 k)
def L_alike_at : AT := (.seq (.reg [0, 1, 5] []) (.seq (.reg [0, 1, 5, 7, 8] []) (.seq (.reg [0, 1, 5, 7, 8, 9] []) (.seq (.reg [0, 1, 5, 7, 8, 10, 11] []) (.seq (.reg [0, 1, 5, 7, 8, 10, 11, 12, 13] []) (.seq (.reg [0, 1, 5, 7, 8, 10, 11, 12, 13, 14, 15] []) (.seq (.opq 0 [0, 1, 5, 7, 8, 10, 11, 12, 13, 14, 15] ⟨[0, 1, 5, 7, 8, 11, 12, 13, 14, 15], [], []⟩ (.seq (.reg [0, 1, 5, 7, 8, 10, 11, 12, 13, 14, 15, 40] []) (.node (.seq (.reg [0, 1, 5, 7, 8, 10, 11, 12, 13, 14, 15, 40, 41] []) (.cond (.reg [0, 1, 5, 7, 8, 11, 12, 13, 14, 15] []) (.seq (.reg [0, 1, 5, 7, 8, 10, 11, 12, 13, 14, 15, 40, 51] []) (.cond (.reg [0, 1, 5, 7, 8, 11, 12, 13, 14, 15] []) (.seq (.reg [0, 1, 5, 7, 8, 10, 11, 12, 13, 14, 15, 62] []) (.cond (.reg [0, 1, 5, 7, 8, 11, 12, 13, 14, 15] []) .leaf))))))))) (.seq (.seq (.reg [0, 1, 5, 7, 8, 11, 12, 13, 14, 15, 77] []) (.cond (.seq (.reg [6] []) .leaf) .leaf)) (.seq (.opq 1 [0, 1, 5, 7, 8, 11, 12, 13, 14, 15] ⟨[0, 1, 5, 7, 8, 12, 13, 14, 15], [], []⟩ (.seq (.reg [0, 1, 5, 7, 8, 11, 12, 13, 14, 15, 79] []) (.node (.seq (.reg [0, 1, 5, 7, 8, 11, 12, 13, 14, 15, 79, 80] []) (.cond (.reg [0, 1, 5, 7, 8, 12, 13, 14, 15] []) (.seq (.reg [0, 1, 5, 7, 8, 11, 12, 13, 14, 15, 79, 90] []) (.cond (.reg [0, 1, 5, 7, 8, 12, 13, 14, 15] []) (.seq (.reg [0, 1, 5, 7, 8, 11, 12, 13, 14, 15, 101] []) (.cond (.reg [0, 1, 5, 7, 8, 12, 13, 14, 15] []) .leaf))))))))) (.seq (.reg [0, 5, 7, 8, 12, 13, 14, 15, 16, 17] []) (.seq (.reg [7, 8, 12, 13, 14, 15, 16, 17, 18, 19] []) (.seq (.reg [6] []) .leaf))))))))))))
def L_alike_i1 : IC := (.seq (.reg [⟨some 78, .fad 0 (.t 5), none⟩,
 ⟨some 79, .ld (.sc (.int .i64)) (.t 78), none⟩] [0, 1, 5, 7, 8, 11, 12, 13, 14, 15, 79]) (.block 1 (.seq (.reg [⟨some 81, .cmp .eql (.t 79) (.c (Go.Value.int Go.IntKind.i64 0)), none⟩,
 ⟨some 80, .mov (.t 81), none⟩] [0, 1, 5, 7, 8, 11, 12, 13, 14, 15, 79, 80]) (.cond (.t 80) (.reg [⟨some 82, .mov (.t 1), none⟩,
 ⟨some 83, .fad 1 (.t 5), none⟩,
 ⟨some 84, .ld (.sc (.int .i64)) (.t 83), none⟩,
 ⟨some 85, .fad 2 (.t 5), none⟩,
 ⟨some 86, .ld (.sc (.int .i64)) (.t 85), none⟩,
 ⟨some 87, .fad 3 (.t 5), none⟩,
 ⟨some 88, .ld (.sc (.int .i64)) (.t 87), none⟩,
 ⟨some 89, .call 19 [(.t 82), (.t 84), (.t 86), (.t 88)] (.one (.sc (.int .i64))), none⟩,
 ⟨some 15, .mov (.t 89), none⟩] [0, 1, 5, 7, 8, 12, 13, 14, 15]) (.seq (.reg [⟨some 91, .cmp .eql (.t 79) (.c (Go.Value.int Go.IntKind.i64 1)), none⟩,
 ⟨some 90, .mov (.t 91), none⟩] [0, 1, 5, 7, 8, 11, 12, 13, 14, 15, 79, 90]) (.cond (.t 90) (.reg [⟨some 92, .mov (.t 1), none⟩,
 ⟨some 93, .mov (.t 8), none⟩,
 ⟨some 94, .fad 1 (.t 5), none⟩,
 ⟨some 95, .ld (.sc (.int .i64)) (.t 94), none⟩,
 ⟨some 96, .fad 2 (.t 5), none⟩,
 ⟨some 97, .ld (.sc (.int .i64)) (.t 96), none⟩,
 ⟨some 98, .fad 3 (.t 5), none⟩,
 ⟨some 99, .ld (.sc (.int .i64)) (.t 98), none⟩,
 ⟨some 100, .call 21 [(.t 92), (.t 93), (.t 95), (.t 97), (.t 99)] (.one (.sc (.int .i64))), none⟩,
 ⟨some 15, .mov (.t 100), none⟩] [0, 1, 5, 7, 8, 12, 13, 14, 15]) (.seq (.reg [⟨some 102, .cmp .eql (.t 79) (.c (Go.Value.int Go.IntKind.i64 3)), none⟩,
 ⟨some 101, .mov (.t 102), none⟩] [0, 1, 5, 7, 8, 11, 12, 13, 14, 15, 101]) (.cond (.t 101) (.reg [⟨some 104, .mov (.t 1), none⟩,
 ⟨some 105, .mov (.t 11), none⟩,
 ⟨some 106, .fad 1 (.t 5), none⟩,
 ⟨some 107, .ld (.sc (.int .i64)) (.t 106), none⟩,
 ⟨some 108, .fad 2 (.t 5), none⟩,
 ⟨some 109, .ld (.sc (.int .i64)) (.t 108), none⟩,
 ⟨some 110, .fad 3 (.t 5), none⟩,
 ⟨some 111, .ld (.sc (.int .i64)) (.t 110), none⟩,
 ⟨some 112, .call 32 [(.t 104), (.t 105), (.t 107), (.t 109), (.t 111)] (.tup [(.sc .bool), (.sc (.int .i64))]), none⟩,
 ⟨some 103, .mov (.t 112), none⟩,
 ⟨some 113, .ext 0 (.t 103), none⟩,
 ⟨some 114, .ext 1 (.t 103), none⟩,
 ⟨some 13, .mov (.t 113), none⟩,
 ⟨some 15, .mov (.t 114), none⟩] [0, 1, 5, 7, 8, 12, 13, 14, 15]) .skip))))))))
def L_alike_i0 : IC := (.seq (.reg [⟨some 39, .fad 0 (.t 5), none⟩,
 ⟨some 40, .ld (.sc (.int .i64)) (.t 39), none⟩] [0, 1, 5, 7, 8, 10, 11, 12, 13, 14, 15, 40]) (.block 0 (.seq (.reg [⟨some 42, .cmp .eql (.t 40) (.c (Go.Value.int Go.IntKind.i64 0)), none⟩,
 ⟨some 41, .mov (.t 42), none⟩] [0, 1, 5, 7, 8, 10, 11, 12, 13, 14, 15, 40, 41]) (.cond (.t 41) (.reg [⟨some 43, .mov (.t 0), none⟩,
 ⟨some 44, .fad 1 (.t 5), none⟩,
 ⟨some 45, .ld (.sc (.int .i64)) (.t 44), none⟩,
 ⟨some 46, .fad 2 (.t 5), none⟩,
 ⟨some 47, .ld (.sc (.int .i64)) (.t 46), none⟩,
 ⟨some 48, .fad 3 (.t 5), none⟩,
 ⟨some 49, .ld (.sc (.int .i64)) (.t 48), none⟩,
 ⟨some 50, .call 19 [(.t 43), (.t 45), (.t 47), (.t 49)] (.one (.sc (.int .i64))), none⟩,
 ⟨some 14, .mov (.t 50), none⟩] [0, 1, 5, 7, 8, 11, 12, 13, 14, 15]) (.seq (.reg [⟨some 52, .cmp .eql (.t 40) (.c (Go.Value.int Go.IntKind.i64 1)), none⟩,
 ⟨some 51, .mov (.t 52), none⟩] [0, 1, 5, 7, 8, 10, 11, 12, 13, 14, 15, 40, 51]) (.cond (.t 51) (.reg [⟨some 53, .mov (.t 0), none⟩,
 ⟨some 54, .mov (.t 7), none⟩,
 ⟨some 55, .fad 1 (.t 5), none⟩,
 ⟨some 56, .ld (.sc (.int .i64)) (.t 55), none⟩,
 ⟨some 57, .fad 2 (.t 5), none⟩,
 ⟨some 58, .ld (.sc (.int .i64)) (.t 57), none⟩,
 ⟨some 59, .fad 3 (.t 5), none⟩,
 ⟨some 60, .ld (.sc (.int .i64)) (.t 59), none⟩,
 ⟨some 61, .call 21 [(.t 53), (.t 54), (.t 56), (.t 58), (.t 60)] (.one (.sc (.int .i64))), none⟩,
 ⟨some 14, .mov (.t 61), none⟩] [0, 1, 5, 7, 8, 11, 12, 13, 14, 15]) (.seq (.reg [⟨some 63, .cmp .eql (.t 40) (.c (Go.Value.int Go.IntKind.i64 3)), none⟩,
 ⟨some 62, .mov (.t 63), none⟩] [0, 1, 5, 7, 8, 10, 11, 12, 13, 14, 15, 62]) (.cond (.t 62) (.reg [⟨some 65, .mov (.t 0), none⟩,
 ⟨some 66, .mov (.t 10), none⟩,
 ⟨some 67, .fad 1 (.t 5), none⟩,
 ⟨some 68, .ld (.sc (.int .i64)) (.t 67), none⟩,
 ⟨some 69, .fad 2 (.t 5), none⟩,
 ⟨some 70, .ld (.sc (.int .i64)) (.t 69), none⟩,
 ⟨some 71, .fad 3 (.t 5), none⟩,
 ⟨some 72, .ld (.sc (.int .i64)) (.t 71), none⟩,
 ⟨some 73, .call 32 [(.t 65), (.t 66), (.t 68), (.t 70), (.t 72)] (.tup [(.sc .bool), (.sc (.int .i64))]), none⟩,
 ⟨some 64, .mov (.t 73), none⟩,
 ⟨some 74, .ext 0 (.t 64), none⟩,
 ⟨some 75, .ext 1 (.t 64), none⟩,
 ⟨some 12, .mov (.t 74), none⟩,
 ⟨some 14, .mov (.t 75), none⟩] [0, 1, 5, 7, 8, 11, 12, 13, 14, 15]) .skip))))))))
def L_alike_f : IFn := ⟨165, [.t 6], (.seq (.reg [⟨some 5, .box (.t 2), none⟩,
 ⟨some 6, .mov (.c (Go.Value.bool false)), none⟩] [0, 1, 5]) (.seq (.reg [⟨some 20, .call 17 [] (.one (.sc .ptr)), none⟩,
 ⟨some 21, .call 17 [] (.one (.sc .ptr)), none⟩,
 ⟨some 7, .mov (.t 20), none⟩,
 ⟨some 8, .mov (.t 21), none⟩] [0, 1, 5, 7, 8]) (.seq (.reg [⟨some 22, .fad 3 (.t 5), none⟩,
 ⟨some 23, .ld (.sc (.int .i64)) (.t 22), none⟩,
 ⟨some 24, .bin .mul .i64 (.c (Go.Value.int Go.IntKind.i64 37)) (.t 23), none⟩,
 ⟨some 25, .cnv .u8 (.t 24), none⟩,
 ⟨some 26, .fad 1 (.t 5), none⟩,
 ⟨some 27, .ld (.sc (.int .i64)) (.t 26), none⟩,
 ⟨some 28, .bin .mul .i64 (.c (Go.Value.int Go.IntKind.i64 91)) (.t 27), none⟩,
 ⟨some 29, .fad 2 (.t 5), none⟩,
 ⟨some 30, .ld (.sc (.int .i64)) (.t 29), none⟩,
 ⟨some 31, .bin .mul .i64 (.c (Go.Value.int Go.IntKind.i64 7)) (.t 30), none⟩,
 ⟨some 32, .bin .add .i64 (.t 28) (.t 31), none⟩,
 ⟨some 33, .cnv .u8 (.t 32), none⟩,
 ⟨some 34, .bls 3 [.int .u8 0, .int .u8 0, .int .u8 0] [(0, 1, (.t 25)), (1, 1, (.t 33)), (2, 1, (.c (Go.Value.int Go.IntKind.u8 90)))], none⟩,
 ⟨some 9, .mov (.t 34), none⟩] [0, 1, 5, 7, 8, 9]) (.seq (.reg [⟨some 35, .mov (.t 9), none⟩,
 ⟨some 36, .call 30 [(.t 35)] (.one (.sc .ptr)), none⟩,
 ⟨some 37, .mov (.t 9), none⟩,
 ⟨some 38, .call 30 [(.t 37)] (.one (.sc .ptr)), none⟩,
 ⟨some 10, .mov (.t 36), none⟩,
 ⟨some 11, .mov (.t 38), none⟩] [0, 1, 5, 7, 8, 10, 11]) (.seq (.reg [⟨some 12, .mov (.c (Go.Value.bool false)), none⟩,
 ⟨some 13, .mov (.c (Go.Value.bool false)), none⟩] [0, 1, 5, 7, 8, 10, 11, 12, 13]) (.seq (.reg [⟨some 14, .mov (.c (Go.Value.int Go.IntKind.i64 0)), none⟩,
 ⟨some 15, .mov (.c (Go.Value.int Go.IntKind.i64 0)), none⟩] [0, 1, 5, 7, 8, 10, 11, 12, 13, 14, 15]) (.seq (.opq 0 [0, 1, 5, 7, 8, 10, 11, 12, 13, 14, 15] L_alike_i0) (.seq (.seq (.reg [⟨some 76, .mov (.t 1), none⟩,
 ⟨some 77, .eqnil (.t 76) false 0, none⟩] [0, 1, 5, 7, 8, 11, 12, 13, 14, 15, 77]) (.cond (.t 77) (.seq (.reg [⟨some 6, .mov (.c (Go.Value.bool true)), none⟩] [6]) .ret) .skip)) (.seq (.opq 1 [0, 1, 5, 7, 8, 11, 12, 13, 14, 15] L_alike_i1) (.seq (.reg [⟨some 116, .mov (.t 1), none⟩,
 ⟨some 117, .fad 1 (.t 5), none⟩,
 ⟨some 118, .ld (.sc (.int .i64)) (.t 117), none⟩,
 ⟨some 119, .fad 2 (.t 5), none⟩,
 ⟨some 120, .ld (.sc (.int .i64)) (.t 119), none⟩,
 ⟨some 121, .call 25 [(.t 116), (.t 118), (.t 120)] (.tup [(.sc (.int .i64)), (.sc .bool)]), none⟩,
 ⟨some 115, .mov (.t 121), none⟩,
 ⟨some 122, .ext 0 (.t 115), none⟩,
 ⟨some 123, .ext 1 (.t 115), none⟩,
 ⟨some 16, .mov (.t 122), none⟩,
 ⟨some 17, .mov (.t 123), none⟩] [0, 5, 7, 8, 12, 13, 14, 15, 16, 17]) (.seq (.reg [⟨some 125, .mov (.t 0), none⟩,
 ⟨some 126, .fad 1 (.t 5), none⟩,
 ⟨some 127, .ld (.sc (.int .i64)) (.t 126), none⟩,
 ⟨some 128, .fad 2 (.t 5), none⟩,
 ⟨some 129, .ld (.sc (.int .i64)) (.t 128), none⟩,
 ⟨some 130, .call 25 [(.t 125), (.t 127), (.t 129)] (.tup [(.sc (.int .i64)), (.sc .bool)]), none⟩,
 ⟨some 124, .mov (.t 130), none⟩,
 ⟨some 131, .ext 0 (.t 124), none⟩,
 ⟨some 132, .ext 1 (.t 124), none⟩,
 ⟨some 18, .mov (.t 131), none⟩,
 ⟨some 19, .mov (.t 132), none⟩] [7, 8, 12, 13, 14, 15, 16, 17, 18, 19]) (.seq (.reg [⟨some 133, .mov (.t 14), none⟩,
 ⟨some 134, .mov (.t 15), none⟩,
 ⟨some 135, .cmp .eql (.t 133) (.t 134), none⟩,
 ⟨some 136, .mov (.t 135), none⟩,
 ⟨some 137, .mov (.t 12), some (136, true)⟩,
 ⟨some 138, .mov (.t 13), some (136, true)⟩,
 ⟨some 139, .eqb (.t 137) (.t 138) false, some (136, true)⟩,
 ⟨some 140, .pick (.t 136) (.t 139) (.c (Go.Value.bool false)), none⟩,
 ⟨some 141, .mov (.t 140), none⟩,
 ⟨some 142, .mov (.t 7), some (141, true)⟩,
 ⟨some 143, .call 23 [(.t 142)] (.one (.sc (.int .i64))), some (141, true)⟩,
 ⟨some 144, .mov (.t 8), some (141, true)⟩,
 ⟨some 145, .call 23 [(.t 144)] (.one (.sc (.int .i64))), some (141, true)⟩,
 ⟨some 146, .cmp .eql (.t 143) (.t 145), some (141, true)⟩,
 ⟨some 147, .pick (.t 141) (.t 146) (.c (Go.Value.bool false)), none⟩,
 ⟨some 148, .mov (.t 147), none⟩,
 ⟨some 149, .mov (.t 7), some (148, true)⟩,
 ⟨some 150, .call 28 [(.t 149)] (.one (.sc .slc)), some (148, true)⟩,
 ⟨some 151, .mov (.t 8), some (148, true)⟩,
 ⟨some 152, .call 28 [(.t 151)] (.one (.sc .slc)), some (148, true)⟩,
 ⟨some 153, .call 27 [(.t 150), (.t 152)] (.one (.sc .bool)), some (148, true)⟩,
 ⟨some 154, .pick (.t 148) (.t 153) (.c (Go.Value.bool false)), none⟩,
 ⟨some 155, .mov (.t 154), none⟩,
 ⟨some 156, .mov (.t 16), some (155, true)⟩,
 ⟨some 157, .mov (.t 18), some (155, true)⟩,
 ⟨some 158, .cmp .eql (.t 156) (.t 157), some (155, true)⟩,
 ⟨some 159, .pick (.t 155) (.t 158) (.c (Go.Value.bool false)), none⟩,
 ⟨some 160, .mov (.t 159), none⟩,
 ⟨some 161, .mov (.t 17), some (160, true)⟩,
 ⟨some 162, .mov (.t 19), some (160, true)⟩,
 ⟨some 163, .eqb (.t 161) (.t 162) false, some (160, true)⟩,
 ⟨some 164, .pick (.t 160) (.t 163) (.c (Go.Value.bool false)), none⟩,
 ⟨some 6, .mov (.t 164), none⟩] [6]) .ret))))))))))))⟩
theorem L_alike_e1 {R : Type} (bitio_NewWriter : bitio_NewWriter_t R) (bitio_NewReader : bitio_NewReader_t R) (tagtree_Tree_Set : tagtree_Tree_Set_t R) (tagtree_Tree_Encode : tagtree_Tree_Encode_t R) (tagtree_Tree_Decode : tagtree_Tree_Decode_t R) (tagtree_Tree_Value : tagtree_Tree_Value_t R) (bitio_Writer_Len : bitio_Writer_Len_t R) (bitio_Writer_Bytes : bitio_Writer_Bytes_t R) (R09_SameBytes : R09_SameBytes_t R) (L_alike_p0 : L_alike_p0_t R) (L_alike_p1 : L_alike_p1_t R) (k : Nat) (p1337 : Oa) (p1338 : Oa) (p1339 : Oa) (p1340 : Oa) (p1341 : Oa) (p1342 : Oa) (t1343 : Bool) (t1344 : Bool) (n1345 : Int) (n1346 : Int) (H : Heap) (K : Xit → Env → Heap → Option R) : evJ (L_alike_Ct bitio_NewWriter bitio_NewReader tagtree_Tree_Set tagtree_Tree_Encode tagtree_Tree_Decode tagtree_Tree_Value bitio_Writer_Len bitio_Writer_Bytes R09_SameBytes) (L_alike_Jt k L_alike_p0 L_alike_p1) L_alike_i1 (List.zip [0, 1, 5, 7, 8, 11, 12, 13, 14, 15] [.pointer p1337, .pointer p1338, .pointer p1339, .pointer p1340, .pointer p1341, .pointer p1342, .bool t1343, .bool t1344, .int .i64 n1345, .int .i64 n1346]) H (fun x e' H' => K x (clean e' ((⟨[0, 1, 5, 7, 8, 12, 13, 14, 15], [], []⟩ : Out).of x)) H') = L_alike_p1_b tagtree_Tree_Set tagtree_Tree_Encode tagtree_Tree_Decode k p1337 p1338 p1339 p1340 p1341 p1342 t1343 t1344 n1345 n1346 H (fun p2080 p2081 p2082 p2083 p2084 t2085 t2086 n2087 n2088 H => K .normal [(0, .pointer p2080), (1, .pointer p2081), (5, .pointer p2082), (7, .pointer p2083), (8, .pointer p2084), (12, .bool t2085), (13, .bool t2086), (14, .int .i64 n2087), (15, .int .i64 n2088)] H) := by kernel_rfl
theorem L_alike_j1 {R : Type} (k : Nat) : JS Try.prog 165 (L_alike_a1 R k k) [0, 1, 5, 7, 8, 11, 12, 13, 14, 15] ⟨[0, 1, 5, 7, 8, 12, 13, 14, 15], [], []⟩ (sel [1, 1, 1, 1, 1, 1, 1, 1, 0] (Try.f36.body.getD .skip)) :=
  piece_ok (nt := 165) (c := (sel [1, 1, 1, 1, 1, 1, 1, 1, 0] (Try.f36.body.getD .skip))) (C := L_alike_C R k) (an := An) (t := (.seq (.reg [0, 1, 5, 7, 8, 11, 12, 13, 14, 15, 79] []) (.node (.seq (.reg [0, 1, 5, 7, 8, 11, 12, 13, 14, 15, 79, 80] []) (.cond (.reg [0, 1, 5, 7, 8, 12, 13, 14, 15] []) (.seq (.reg [0, 1, 5, 7, 8, 11, 12, 13, 14, 15, 79, 90] []) (.cond (.reg [0, 1, 5, 7, 8, 12, 13, 14, 15] []) (.seq (.reg [0, 1, 5, 7, 8, 11, 12, 13, 14, 15, 101] []) (.cond (.reg [0, 1, 5, 7, 8, 12, 13, 14, 15] []) .leaf))))))))) (ic := L_alike_i1) (L_alike_S R k) (L_alike_J R k) (by kernel_rfl) (And.intro True.intro (And.intro True.intro (And.intro True.intro (And.intro True.intro (And.intro True.intro (And.intro True.intro (And.intro True.intro True.intro))))))) (L_alike_a1 R k k)
    (fun vals H K r h => by
      unfold L_alike_a1 L_alike_aa1 at h
      split at h <;> first | (cases h; done) | exact Eq.trans (L_alike_e1 bitio_NewWriter bitio_NewReader (tagtree_Tree_Set k) (tagtree_Tree_Encode k) (tagtree_Tree_Decode k) (tagtree_Tree_Value k) bitio_Writer_Len (bitio_Writer_Bytes k) R09_SameBytes (L_alike_p0 k) (L_alike_p1 k) k _ _ _ _ _ _ _ _ _ _ H K) h)
theorem L_alike_e0 {R : Type} (bitio_NewWriter : bitio_NewWriter_t R) (bitio_NewReader : bitio_NewReader_t R) (tagtree_Tree_Set : tagtree_Tree_Set_t R) (tagtree_Tree_Encode : tagtree_Tree_Encode_t R) (tagtree_Tree_Decode : tagtree_Tree_Decode_t R) (tagtree_Tree_Value : tagtree_Tree_Value_t R) (bitio_Writer_Len : bitio_Writer_Len_t R) (bitio_Writer_Bytes : bitio_Writer_Bytes_t R) (R09_SameBytes : R09_SameBytes_t R) (L_alike_p0 : L_alike_p0_t R) (L_alike_p1 : L_alike_p1_t R) (k : Nat) (p1278 : Oa) (p1279 : Oa) (p1280 : Oa) (p1281 : Oa) (p1282 : Oa) (p1283 : Oa) (p1284 : Oa) (t1285 : Bool) (t1286 : Bool) (n1287 : Int) (n1288 : Int) (H : Heap) (K : Xit → Env → Heap → Option R) : evJ (L_alike_Ct bitio_NewWriter bitio_NewReader tagtree_Tree_Set tagtree_Tree_Encode tagtree_Tree_Decode tagtree_Tree_Value bitio_Writer_Len bitio_Writer_Bytes R09_SameBytes) (L_alike_Jt k L_alike_p0 L_alike_p1) L_alike_i0 (List.zip [0, 1, 5, 7, 8, 10, 11, 12, 13, 14, 15] [.pointer p1278, .pointer p1279, .pointer p1280, .pointer p1281, .pointer p1282, .pointer p1283, .pointer p1284, .bool t1285, .bool t1286, .int .i64 n1287, .int .i64 n1288]) H (fun x e' H' => K x (clean e' ((⟨[0, 1, 5, 7, 8, 11, 12, 13, 14, 15], [], []⟩ : Out).of x)) H') = L_alike_p0_b tagtree_Tree_Set tagtree_Tree_Encode tagtree_Tree_Decode k p1278 p1279 p1280 p1281 p1282 p1283 p1284 t1285 t1286 n1287 n1288 H (fun p2070 p2071 p2072 p2073 p2074 p2075 t2076 t2077 n2078 n2079 H => K .normal [(0, .pointer p2070), (1, .pointer p2071), (5, .pointer p2072), (7, .pointer p2073), (8, .pointer p2074), (11, .pointer p2075), (12, .bool t2076), (13, .bool t2077), (14, .int .i64 n2078), (15, .int .i64 n2079)] H) := by kernel_rfl
theorem L_alike_j0 {R : Type} (k : Nat) : JS Try.prog 165 (L_alike_a0 R k k) [0, 1, 5, 7, 8, 10, 11, 12, 13, 14, 15] ⟨[0, 1, 5, 7, 8, 11, 12, 13, 14, 15], [], []⟩ (sel [1, 1, 1, 1, 1, 1, 0] (Try.f36.body.getD .skip)) :=
  piece_ok (nt := 165) (c := (sel [1, 1, 1, 1, 1, 1, 0] (Try.f36.body.getD .skip))) (C := L_alike_C R k) (an := An) (t := (.seq (.reg [0, 1, 5, 7, 8, 10, 11, 12, 13, 14, 15, 40] []) (.node (.seq (.reg [0, 1, 5, 7, 8, 10, 11, 12, 13, 14, 15, 40, 41] []) (.cond (.reg [0, 1, 5, 7, 8, 11, 12, 13, 14, 15] []) (.seq (.reg [0, 1, 5, 7, 8, 10, 11, 12, 13, 14, 15, 40, 51] []) (.cond (.reg [0, 1, 5, 7, 8, 11, 12, 13, 14, 15] []) (.seq (.reg [0, 1, 5, 7, 8, 10, 11, 12, 13, 14, 15, 62] []) (.cond (.reg [0, 1, 5, 7, 8, 11, 12, 13, 14, 15] []) .leaf))))))))) (ic := L_alike_i0) (L_alike_S R k) (L_alike_J R k) (by kernel_rfl) (And.intro True.intro (And.intro True.intro (And.intro True.intro (And.intro True.intro (And.intro True.intro (And.intro True.intro (And.intro True.intro True.intro))))))) (L_alike_a0 R k k)
    (fun vals H K r h => by
      unfold L_alike_a0 L_alike_aa0 at h
      split at h <;> first | (cases h; done) | exact Eq.trans (L_alike_e0 bitio_NewWriter bitio_NewReader (tagtree_Tree_Set k) (tagtree_Tree_Encode k) (tagtree_Tree_Decode k) (tagtree_Tree_Value k) bitio_Writer_Len (bitio_Writer_Bytes k) R09_SameBytes (L_alike_p0 k) (L_alike_p1 k) k _ _ _ _ _ _ _ _ _ _ _ H K) h)
def L_alike_ca {R : Type} (f : L_alike_t R) (args : List Value) (H : Heap) (K : Value → Heap → Option R) : Option R :=
  match args with
  | [.pointer p1254, .pointer p1255, .agg ⟨[.int .i64 n1256, .int .i64 n1257, .int .i64 n1258, .int .i64 n1259]⟩] => f p1254 p1255 n1256 n1257 n1258 n1259 H (fun t2089 H => K (.bool t2089) H)
  | _ => none
def L_alike_c (R : Type) (k : Nat) (args : List Value) (H : Heap) (K : Value → Heap → Option R) : Option R := L_alike_ca (L_alike k) args H K
theorem L_alike_e {R : Type} (bitio_NewWriter : bitio_NewWriter_t R) (bitio_NewReader : bitio_NewReader_t R) (tagtree_Tree_Set : tagtree_Tree_Set_t R) (tagtree_Tree_Encode : tagtree_Tree_Encode_t R) (tagtree_Tree_Decode : tagtree_Tree_Decode_t R) (tagtree_Tree_Value : tagtree_Tree_Value_t R) (bitio_Writer_Len : bitio_Writer_Len_t R) (bitio_Writer_Bytes : bitio_Writer_Bytes_t R) (R09_SameBytes : R09_SameBytes_t R) (L_alike_p0 : L_alike_p0_t R) (L_alike_p1 : L_alike_p1_t R) (k : Nat) (p1254 : Oa) (p1255 : Oa) (n1256 : Int) (n1257 : Int) (n1258 : Int) (n1259 : Int) (H : Heap) (K : Value → Heap → Option R) : evF (L_alike_Ct bitio_NewWriter bitio_NewReader tagtree_Tree_Set tagtree_Tree_Encode tagtree_Tree_Decode tagtree_Tree_Value bitio_Writer_Len bitio_Writer_Bytes R09_SameBytes) (L_alike_Jt k L_alike_p0 L_alike_p1) L_alike_f [.pointer p1254, .pointer p1255, .agg ⟨[.int .i64 n1256, .int .i64 n1257, .int .i64 n1258, .int .i64 n1259]⟩] H K = L_alike_b bitio_NewWriter bitio_NewReader L_alike_p0 L_alike_p1 tagtree_Tree_Value bitio_Writer_Len bitio_Writer_Bytes R09_SameBytes k p1254 p1255 n1256 n1257 n1258 n1259 H (fun t2089 H => K (.bool t2089) H) := by kernel_rfl
theorem L_alike_cs (R : Type) (k : Nat) : ∀ args H K r, L_alike_c R k args H K = some r → ∃ v H', Tri Try.prog 36 args H v H' ∧ K v H' = some r := by
  intro args H K r h
  unfold L_alike_c L_alike_ca at h
  split at h
  · exact evF_ok (C := L_alike_C R k) (an := An) (t := L_alike_at) (fn := Try.f36) (c := (Try.f36.body.getD .skip)) (ifn := L_alike_f) (L_alike_S R k) (L_alike_J R k) Try.func36 (by kernel_rfl) (by kernel_rfl) (And.intro True.intro (And.intro True.intro (And.intro True.intro (And.intro True.intro (And.intro True.intro (And.intro True.intro (And.intro (L_alike_j0 k) (And.intro (And.intro True.intro (And.intro (And.intro True.intro True.intro) True.intro)) (And.intro (L_alike_j1 k) (And.intro True.intro (And.intro True.intro (And.intro True.intro True.intro)))))))))))) rfl (Eq.trans (L_alike_e bitio_NewWriter bitio_NewReader (tagtree_Tree_Set k) (tagtree_Tree_Encode k) (tagtree_Tree_Decode k) (tagtree_Tree_Value k) bitio_Writer_Len (bitio_Writer_Bytes k) R09_SameBytes (L_alike_p0 k) (L_alike_p1 k) k _ _ _ _ _ _ H K) h)
  · cases h
/-! ### L_TagtreeClones: function 9 -/
abbrev L_TagtreeClones_p2_t (R : Type) : Type := Int → Oa → Oa → Int → Oa → Oa → Nat → Nat → Int → Int → Heap → (Int → Oa → Oa → Oa → Oa → Nat → Nat → Int → Int → Heap → Option R) → (Bool → Heap → Option R) → Option R
def L_TagtreeClones_p2_b {R : Type} (tagtree_Tree_Clone : tagtree_Tree_Clone_t R) (k : Nat) (n1218 : Int) (p1219 : Oa) (p1220 : Oa) (n1221 : Int) (p1222 : Oa) (q1223 : Oa) (l1224 : Nat) (c1225 : Nat) (n1226 : Int) (n1227 : Int) (H : Heap) (KN : Int → Oa → Oa → Oa → Oa → Nat → Nat → Int → Int → Heap → Option R) (KR : Bool → Heap → Option R) : Option R :=
bif (n1221 == n1218) then (tagtree_Tree_Clone p1219 H fun p1228 H1229 =>
bif p1228.isNone then (KR false H1229)
 else (KN n1218 p1219 p1228 p1222 q1223 l1224 c1225 n1226 n1227 H1229))
 else (KN n1218 p1219 p1220 p1222 q1223 l1224 c1225 n1226 n1227 H)
def L_TagtreeClones_p2 {R : Type} (k : Nat) (n1218 : Int) (p1219 : Oa) (p1220 : Oa) (n1221 : Int) (p1222 : Oa) (q1223 : Oa) (l1224 : Nat) (c1225 : Nat) (n1226 : Int) (n1227 : Int) (H : Heap) (KN : Int → Oa → Oa → Oa → Oa → Nat → Nat → Int → Int → Heap → Option R) (KR : Bool → Heap → Option R) : Option R := L_TagtreeClones_p2_b (tagtree_Tree_Clone k) k n1218 p1219 p1220 n1221 p1222 q1223 l1224 c1225 n1226 n1227 H KN KR

abbrev L_TagtreeClones_p1_t (R : Type) : Type := Int → Oa → Oa → Oa → Nat → Nat → Int → Int → Heap → (Int → Oa → Oa → Oa → Nat → Nat → Int → Int → Heap → Option R) → (Bool → Heap → Option R) → Option R
def L_TagtreeClones_p1_b {R : Type} (L_TagtreeClones_p2 : L_TagtreeClones_p2_t R) (L_alike : L_alike_t R) (k : Nat) (n1202 : Int) (p1203 : Oa) (p1204 : Oa) (q1205 : Oa) (l1206 : Nat) (c1207 : Nat) (n1208 : Int) (n1209 : Int) (H : Heap) (KN : Int → Oa → Oa → Oa → Nat → Nat → Int → Int → Heap → Option R) (KR : Bool → Heap → Option R) : Option R :=
hidx q1205 l1206 n1209 4 fun p1210 =>
ldI .i64 H (pad p1210 0) fun n1211 =>
ldI .i64 H (pad p1210 1) fun n1212 =>
ldI .i64 H (pad p1210 2) fun n1213 =>
ldI .i64 H (pad p1210 3) fun n1214 =>
hal H [.int .i64 0, .int .i64 0, .int .i64 0, .int .i64 0] fun p1215 H1216 =>
hst H1216 p1215 [.int .i64 n1211, .int .i64 n1212, .int .i64 n1213, .int .i64 n1214] fun H1217 =>
L_TagtreeClones_p2 n1202 p1203 p1204 n1209 p1215 q1205 l1206 c1207 n1208 n1209 H1217 (fun n1240 p1241 p1242 p1243 q1244 l1245 c1246 n1247 n1248 H1249 =>
bif p1242.isNone then (ldI .i64 H1249 (pad p1243 0) fun n1250 =>
ldI .i64 H1249 (pad p1243 1) fun n1251 =>
ldI .i64 H1249 (pad p1243 2) fun n1252 =>
ldI .i64 H1249 (pad p1243 3) fun n1253 =>
L_alike p1241 none n1250 n1251 n1252 n1253 H1249 fun t1254 H1255 =>
KN n1240 p1241 p1242 q1244 l1245 c1246 n1247 n1248 H1255)
 else (ldI .i64 H1249 (pad p1243 0) fun n1256 =>
ldI .i64 H1249 (pad p1243 1) fun n1257 =>
ldI .i64 H1249 (pad p1243 2) fun n1258 =>
ldI .i64 H1249 (pad p1243 3) fun n1259 =>
L_alike p1242 p1241 n1256 n1257 n1258 n1259 H1249 fun t1260 H1261 =>
bif (!t1260) then (KR false H1261)
 else (KN n1240 p1241 p1242 q1244 l1245 c1246 n1247 n1248 H1261))) (fun t1262 H1263 =>
KR t1262 H1263)
def L_TagtreeClones_p1 {R : Type} (k : Nat) (n1202 : Int) (p1203 : Oa) (p1204 : Oa) (q1205 : Oa) (l1206 : Nat) (c1207 : Nat) (n1208 : Int) (n1209 : Int) (H : Heap) (KN : Int → Oa → Oa → Oa → Nat → Nat → Int → Int → Heap → Option R) (KR : Bool → Heap → Option R) : Option R := L_TagtreeClones_p1_b (L_TagtreeClones_p2 k) (L_alike k) k n1202 p1203 p1204 q1205 l1206 c1207 n1208 n1209 H KN KR

abbrev L_TagtreeClones_l0_t (R : Type) : Type := (Heap → Option R) → (Bool → Heap → Option R) → Nat → Int → Oa → Oa → Oa → Nat → Nat → Int → Int → Heap → Option R
def L_TagtreeClones_l0_b {R : Type} (L_TagtreeClones_p1 : L_TagtreeClones_p1_t R) (rec : Int → Oa → Oa → Oa → Nat → Nat → Int → Int → Heap → Option R) (KE0 : Heap → Option R) (KR : Bool → Heap → Option R) (k : Nat) (n1194 : Int) (p1195 : Oa) (p1196 : Oa) (q1197 : Oa) (l1198 : Nat) (c1199 : Nat) (n1200 : Int) (n1201 : Int) (H : Heap) : Option R :=
bif decide (n1201 < n1200) then (L_TagtreeClones_p1 n1194 p1195 p1196 q1197 l1198 c1199 n1200 n1201 H (fun n1273 p1274 p1275 q1276 l1277 c1278 n1279 n1280 H1281 =>
rec n1273 p1274 p1275 q1276 l1277 c1278 n1279 (IntKind.wrap .i64 (n1280 + 1)) H1281) (fun t1282 H1283 =>
KR t1282 H1283))
 else (KE0 H)
def L_TagtreeClones_l0 {R : Type} (k : Nat) (KE0 : Heap → Option R) (KR : Bool → Heap → Option R) : Nat → Int → Oa → Oa → Oa → Nat → Nat → Int → Int → Heap → Option R
  | 0, _, _, _, _, _, _, _, _, _ => none
  | n + 1, n1194, p1195, p1196, q1197, l1198, c1199, n1200, n1201, H => L_TagtreeClones_l0_b (L_TagtreeClones_p1 k) (L_TagtreeClones_l0 k KE0 KR n) KE0 KR k n1194 p1195 p1196 q1197 l1198 c1199 n1200 n1201 H

abbrev L_TagtreeClones_t (R : Type) : Type := Int → Int → Oa → Nat → Nat → Int → Heap → (Bool → Heap → Option R) → Option R

def L_TagtreeClones_b {R : Type} (L_small : L_small_t R) (L_exampleHoldsq : L_exampleHoldsq_t R) (tagtree_New : tagtree_New_t R) (L_TagtreeClones_l0 : L_TagtreeClones_l0_t R) (k : Nat) (n1181 : Int) (n1182 : Int) (q1183 : Oa) (l1184 : Nat) (c1185 : Nat) (n1186 : Int) (H : Heap) (K : Bool → Heap → Option R) : Option R :=
L_small n1181 n1182 q1183 l1184 c1185 H fun t1187 H1188 =>
bif (!t1187) then (L_exampleHoldsq fun t1189 =>
K t1189 H1188)
 else (tagtree_New n1181 n1182 H1188 fun p1190 n1191 H1192 =>
bif (n1191 != 0) then (L_exampleHoldsq fun t1193 =>
K t1193 H1192)
 else (L_TagtreeClones_l0 (fun H1285 =>
L_exampleHoldsq fun t1286 =>
K t1286 H1285) (fun t1287 H1288 =>
K t1287 H1288) k n1186 p1190 none q1183 l1184 c1185 ((l1184 : Nat) : Int) 0 H1192))

def L_TagtreeClones {R : Type} (k : Nat) (n1181 : Int) (n1182 : Int) (q1183 : Oa) (l1184 : Nat) (c1185 : Nat) (n1186 : Int) (H : Heap) (K : Bool → Heap → Option R) : Option R := L_TagtreeClones_b (L_small k) L_exampleHoldsq (tagtree_New k) (L_TagtreeClones_l0 k) k n1181 n1182 q1183 l1184 c1185 n1186 H K

def L_TagtreeClones_Ct {R : Type} (L_small : L_small_t R) (L_exampleHoldsq : L_exampleHoldsq_t R) (tagtree_New : tagtree_New_t R) (tagtree_Tree_Clone : tagtree_Tree_Clone_t R) (L_alike : L_alike_t R) : Tab R := tcons 16 (L_small_ca L_small) <| tcons 15 (L_exampleHoldsq_ca L_exampleHoldsq) <| tcons 11 (tagtree_New_ca tagtree_New) <| tcons 35 (tagtree_Tree_Clone_ca tagtree_Tree_Clone) <| tcons 36 (L_alike_ca L_alike) <| fun _ _ _ _ => none
def L_TagtreeClones_C (R : Type) (k : Nat) : Tab R := L_TagtreeClones_Ct (L_small k) L_exampleHoldsq (tagtree_New k) (tagtree_Tree_Clone k) (L_alike k)
theorem L_TagtreeClones_S (R : Type) (k : Nat) : CSound Try.prog (L_TagtreeClones_C R k) := csound_cons (L_small_cs R k) <| csound_cons (L_exampleHoldsq_cs R k) <| csound_cons (tagtree_New_cs R k) <| csound_cons (tagtree_Tree_Clone_cs R k) <| csound_cons (L_alike_cs R k) <| csound_nil
def L_TagtreeClones_aa0 {R : Type} (f : L_TagtreeClones_l0_t R) (n : Nat) (vals : List Value) (H : Heap) (K : Xit → Env → Heap → Option R) : Option R :=
  match vals with
  | [.int .i64 n1194, .pointer p1195, .pointer p1196, .slice q1197 l1198 c1199, .int .i64 n1200, .int .i64 n1201] => f (fun H => K (.exit 0) [] H) (fun t2090 H => K .ret [(8, .bool t2090)] H) n n1194 p1195 p1196 q1197 l1198 c1199 n1200 n1201 H
  | _ => none
def L_TagtreeClones_a0 (R : Type) (k n : Nat) (vals : List Value) (H : Heap) (K : Xit → Env → Heap → Option R) : Option R := L_TagtreeClones_aa0 (L_TagtreeClones_l0 k) n vals H K
def L_TagtreeClones_aa1 {R : Type} (f : L_TagtreeClones_p1_t R) (n : Nat) (vals : List Value) (H : Heap) (K : Xit → Env → Heap → Option R) : Option R :=
  match vals with
  | [.int .i64 n1202, .pointer p1203, .pointer p1204, .slice q1205 l1206 c1207, .int .i64 n1208, .int .i64 n1209] => f n1202 p1203 p1204 q1205 l1206 c1207 n1208 n1209 H (fun n2091 p2092 p2093 q2094 l2095 c2096 n2097 n2098 H => K .normal [(3, .int .i64 n2091), (9, .pointer p2092), (11, .pointer p2093), (29, .slice q2094 l2095 c2096), (30, .int .i64 n2097), (31, .int .i64 n2098)] H) (fun t2099 H => K .ret [(8, .bool t2099)] H)
  | _ => none
def L_TagtreeClones_a1 (R : Type) (k n : Nat) (vals : List Value) (H : Heap) (K : Xit → Env → Heap → Option R) : Option R := L_TagtreeClones_aa1 (L_TagtreeClones_p1 k) n vals H K
def L_TagtreeClones_aa2 {R : Type} (f : L_TagtreeClones_p2_t R) (n : Nat) (vals : List Value) (H : Heap) (K : Xit → Env → Heap → Option R) : Option R :=
  match vals with
  | [.int .i64 n1218, .pointer p1219, .pointer p1220, .int .i64 n1221, .pointer p1222, .slice q1223 l1224 c1225, .int .i64 n1226, .int .i64 n1227] => f n1218 p1219 p1220 n1221 p1222 q1223 l1224 c1225 n1226 n1227 H (fun n2100 p2101 p2102 p2103 q2104 l2105 c2106 n2107 n2108 H => K .normal [(3, .int .i64 n2100), (9, .pointer p2101), (11, .pointer p2102), (13, .pointer p2103), (29, .slice q2104 l2105 c2106), (30, .int .i64 n2107), (31, .int .i64 n2108)] H) (fun t2109 H => K .ret [(8, .bool t2109)] H)
  | _ => none
def L_TagtreeClones_a2 (R : Type) (k n : Nat) (vals : List Value) (H : Heap) (K : Xit → Env → Heap → Option R) : Option R := L_TagtreeClones_aa2 (L_TagtreeClones_p2 k) n vals H K
def L_TagtreeClones_Jt {R : Type} (k : Nat) (L_TagtreeClones_l0 : L_TagtreeClones_l0_t R) (L_TagtreeClones_p1 : L_TagtreeClones_p1_t R) (L_TagtreeClones_p2 : L_TagtreeClones_p2_t R) : JTab R := tcons 0 (L_TagtreeClones_aa0 L_TagtreeClones_l0 k) <| tcons 1 (L_TagtreeClones_aa1 L_TagtreeClones_p1 k) <| tcons 2 (L_TagtreeClones_aa2 L_TagtreeClones_p2 k) <| fun _ _ _ _ => none
def L_TagtreeClones_J (R : Type) (k : Nat) : JTab R := L_TagtreeClones_Jt k (L_TagtreeClones_l0 k) (L_TagtreeClones_p1 k) (L_TagtreeClones_p2 k)
def L_TagtreeClones_at : AT := (.seq (.reg [0, 1, 2, 3] []) (.seq (.seq (.reg [0, 1, 2, 3, 18] []) (.cond (.seq (.reg [8] []) .leaf) .leaf)) (.seq (.reg [2, 3, 9, 10] []) (.seq (.seq (.reg [2, 3, 9, 27] []) (.cond (.seq (.reg [8] []) .leaf) .leaf)) (.seq (.reg [2, 3, 9, 11] []) (.seq (.seq (.reg [3, 9, 11, 29, 30, 31] []) (.node (.opq 0 [3, 9, 11, 29, 30, 31] ⟨[], [(0, [])], [8]⟩ (.node (.seq (.reg [3, 9, 11, 29, 30, 31, 32] []) (.seq (.cond .leaf .leaf) (.seq (.opq 1 [3, 9, 11, 29, 30, 31] ⟨[3, 9, 11, 29, 30, 31], [], [8]⟩ (.node (.seq (.reg [3, 9, 11, 12, 13, 29, 30, 31] []) (.seq (.opq 2 [3, 9, 11, 12, 13, 29, 30, 31] ⟨[3, 9, 11, 13, 29, 30, 31], [], [8]⟩ (.seq (.reg [3, 9, 11, 13, 29, 30, 31, 38] []) (.cond (.seq (.reg [3, 9, 11, 13, 29, 30, 31] []) (.seq (.reg [3, 9, 11, 13, 29, 30, 31, 42] []) (.cond (.seq (.reg [8] []) .leaf) .leaf))) .leaf))) (.seq (.reg [3, 9, 11, 13, 29, 30, 31, 44] []) (.cond (.reg [3, 9, 11, 29, 30, 31] []) (.seq (.reg [3, 9, 11, 29, 30, 31, 52] []) (.cond (.seq (.reg [8] []) .leaf) .leaf)))))))) (.reg [3, 9, 11, 29, 30, 31] [])))))))) (.seq (.reg [8] []) .leaf)))))))
def L_TagtreeClones_i2 : IC := (.seq (.reg [⟨some 36, .mov (.t 12), none⟩,
 ⟨some 37, .mov (.t 3), none⟩,
 ⟨some 38, .cmp .eql (.t 36) (.t 37), none⟩] [3, 9, 11, 13, 29, 30, 31, 38]) (.cond (.t 38) (.seq (.reg [⟨some 39, .mov (.t 9), none⟩,
 ⟨some 40, .call 35 [(.t 39)] (.one (.sc .ptr)), none⟩,
 ⟨some 11, .mov (.t 40), none⟩] [3, 9, 11, 13, 29, 30, 31]) (.seq (.reg [⟨some 41, .mov (.t 11), none⟩,
 ⟨some 42, .eqnil (.t 41) false 0, none⟩] [3, 9, 11, 13, 29, 30, 31, 42]) (.cond (.t 42) (.seq (.reg [⟨some 8, .mov (.c (Go.Value.bool false)), none⟩] [8]) .ret) .skip))) .skip))
def L_TagtreeClones_i1 : IC := (.block 1 (.seq (.reg [⟨some 33, .mov (.t 31), none⟩,
 ⟨some 34, .ids 4 (.t 29) (.t 31), none⟩,
 ⟨some 35, .ld (.agg [(.int .i64), (.int .i64), (.int .i64), (.int .i64)]) (.t 34), none⟩,
 ⟨some 13, .alc [.int .i64 0, .int .i64 0, .int .i64 0, .int .i64 0], none⟩,
 ⟨some 12, .mov (.t 33), none⟩,
 ⟨none, .st 4 (.t 13) (.t 35), none⟩] [3, 9, 11, 12, 13, 29, 30, 31]) (.seq (.opq 2 [3, 9, 11, 12, 13, 29, 30, 31] L_TagtreeClones_i2) (.seq (.reg [⟨some 43, .mov (.t 11), none⟩,
 ⟨some 44, .eqnil (.t 43) false 0, none⟩] [3, 9, 11, 13, 29, 30, 31, 44]) (.cond (.t 44) (.reg [⟨some 45, .mov (.t 9), none⟩,
 ⟨some 46, .ld (.agg [(.int .i64), (.int .i64), (.int .i64), (.int .i64)]) (.t 13), none⟩,
 ⟨some 47, .call 36 [(.t 45), (.c (Go.Value.pointer none)), (.t 46)] (.one (.sc .bool)), none⟩] [3, 9, 11, 29, 30, 31]) (.seq (.reg [⟨some 48, .mov (.t 11), none⟩,
 ⟨some 49, .mov (.t 9), none⟩,
 ⟨some 50, .ld (.agg [(.int .i64), (.int .i64), (.int .i64), (.int .i64)]) (.t 13), none⟩,
 ⟨some 51, .call 36 [(.t 48), (.t 49), (.t 50)] (.one (.sc .bool)), none⟩,
 ⟨some 52, .lnot (.t 51), none⟩] [3, 9, 11, 29, 30, 31, 52]) (.cond (.t 52) (.seq (.reg [⟨some 8, .mov (.c (Go.Value.bool false)), none⟩] [8]) .ret) .skip)))))))
def L_TagtreeClones_i0 : IC := (.seq (.reg [⟨some 32, .cmp .lss (.t 31) (.t 30), none⟩] [3, 9, 11, 29, 30, 31, 32]) (.seq (.cond (.t 32) .skip (.exit 0)) (.seq (.opq 1 [3, 9, 11, 29, 30, 31] L_TagtreeClones_i1) (.reg [⟨some 53, .bin .add .i64 (.t 31) (.c (Go.Value.int Go.IntKind.i64 1)), none⟩,
 ⟨some 31, .mov (.t 53), none⟩] [3, 9, 11, 29, 30, 31]))))
def L_TagtreeClones_f : IFn := ⟨55, [.t 8], (.seq (.reg [⟨some 8, .mov (.c (Go.Value.bool false)), none⟩] [0, 1, 2, 3]) (.seq (.seq (.reg [⟨some 14, .mov (.t 0), none⟩,
 ⟨some 15, .mov (.t 1), none⟩,
 ⟨some 16, .mov (.t 2), none⟩,
 ⟨some 17, .call 16 [(.t 14), (.t 15), (.t 16)] (.one (.sc .bool)), none⟩,
 ⟨some 18, .lnot (.t 17), none⟩] [0, 1, 2, 3, 18]) (.cond (.t 18) (.seq (.reg [⟨some 19, .call 15 [] (.one (.sc .bool)), none⟩,
 ⟨some 8, .mov (.t 19), none⟩] [8]) .ret) .skip)) (.seq (.reg [⟨some 21, .mov (.t 0), none⟩,
 ⟨some 22, .mov (.t 1), none⟩,
 ⟨some 23, .call 11 [(.t 21), (.t 22)] (.tup [(.sc .ptr), (.sc (.int .i64))]), none⟩,
 ⟨some 20, .mov (.t 23), none⟩,
 ⟨some 24, .ext 0 (.t 20), none⟩,
 ⟨some 25, .ext 1 (.t 20), none⟩,
 ⟨some 9, .mov (.t 24), none⟩,
 ⟨some 10, .mov (.t 25), none⟩] [2, 3, 9, 10]) (.seq (.seq (.reg [⟨some 26, .mov (.t 10), none⟩,
 ⟨some 27, .cmp .neq (.t 26) (.c (Go.Value.int Go.IntKind.i64 0)), none⟩] [2, 3, 9, 27]) (.cond (.t 27) (.seq (.reg [⟨some 28, .call 15 [] (.one (.sc .bool)), none⟩,
 ⟨some 8, .mov (.t 28), none⟩] [8]) .ret) .skip)) (.seq (.reg [⟨some 11, .mov (.c (Go.Value.pointer none)), none⟩] [2, 3, 9, 11]) (.seq (.seq (.reg [⟨some 29, .mov (.t 2), none⟩,
 ⟨some 30, .len false (.t 29), none⟩,
 ⟨some 31, .mov (.c (Go.Value.int Go.IntKind.i64 0)), none⟩] [3, 9, 11, 29, 30, 31]) (.block 0 (.opq 0 [3, 9, 11, 29, 30, 31] (.loop L_TagtreeClones_i0)))) (.seq (.reg [⟨some 54, .call 15 [] (.one (.sc .bool)), none⟩,
 ⟨some 8, .mov (.t 54), none⟩] [8]) .ret)))))))⟩
theorem L_TagtreeClones_e2 {R : Type} (L_small : L_small_t R) (L_exampleHoldsq : L_exampleHoldsq_t R) (tagtree_New : tagtree_New_t R) (tagtree_Tree_Clone : tagtree_Tree_Clone_t R) (L_alike : L_alike_t R) (L_TagtreeClones_l0 : L_TagtreeClones_l0_t R) (L_TagtreeClones_p1 : L_TagtreeClones_p1_t R) (L_TagtreeClones_p2 : L_TagtreeClones_p2_t R) (k : Nat) (n1218 : Int) (p1219 : Oa) (p1220 : Oa) (n1221 : Int) (p1222 : Oa) (q1223 : Oa) (l1224 : Nat) (c1225 : Nat) (n1226 : Int) (n1227 : Int) (H : Heap) (K : Xit → Env → Heap → Option R) : evJ (L_TagtreeClones_Ct L_small L_exampleHoldsq tagtree_New tagtree_Tree_Clone L_alike) (L_TagtreeClones_Jt k L_TagtreeClones_l0 L_TagtreeClones_p1 L_TagtreeClones_p2) L_TagtreeClones_i2 (List.zip [3, 9, 11, 12, 13, 29, 30, 31] [.int .i64 n1218, .pointer p1219, .pointer p1220, .int .i64 n1221, .pointer p1222, .slice q1223 l1224 c1225, .int .i64 n1226, .int .i64 n1227]) H (fun x e' H' => K x (clean e' ((⟨[3, 9, 11, 13, 29, 30, 31], [], [8]⟩ : Out).of x)) H') = L_TagtreeClones_p2_b tagtree_Tree_Clone k n1218 p1219 p1220 n1221 p1222 q1223 l1224 c1225 n1226 n1227 H (fun n2100 p2101 p2102 p2103 q2104 l2105 c2106 n2107 n2108 H => K .normal [(3, .int .i64 n2100), (9, .pointer p2101), (11, .pointer p2102), (13, .pointer p2103), (29, .slice q2104 l2105 c2106), (30, .int .i64 n2107), (31, .int .i64 n2108)] H) (fun t2109 H => K .ret [(8, .bool t2109)] H) := by kernel_rfl
theorem L_TagtreeClones_j2 {R : Type} (k : Nat) : JS Try.prog 55 (L_TagtreeClones_a2 R k k) [3, 9, 11, 12, 13, 29, 30, 31] ⟨[3, 9, 11, 13, 29, 30, 31], [], [8]⟩ (sel [1, 1, 1, 1, 1, 0, 1, 0, 0, 1, 1, 0, 0, 1, 0] (Try.f9.body.getD .skip)) :=
  piece_ok (nt := 55) (c := (sel [1, 1, 1, 1, 1, 0, 1, 0, 0, 1, 1, 0, 0, 1, 0] (Try.f9.body.getD .skip))) (C := L_TagtreeClones_C R k) (an := An) (t := (.seq (.reg [3, 9, 11, 13, 29, 30, 31, 38] []) (.cond (.seq (.reg [3, 9, 11, 13, 29, 30, 31] []) (.seq (.reg [3, 9, 11, 13, 29, 30, 31, 42] []) (.cond (.seq (.reg [8] []) .leaf) .leaf))) .leaf))) (ic := L_TagtreeClones_i2) (L_TagtreeClones_S R k) (L_TagtreeClones_J R k) (by kernel_rfl) (And.intro True.intro (And.intro (And.intro True.intro (And.intro True.intro (And.intro (And.intro True.intro True.intro) True.intro))) True.intro)) (L_TagtreeClones_a2 R k k)
    (fun vals H K r h => by
      unfold L_TagtreeClones_a2 L_TagtreeClones_aa2 at h
      split at h <;> first | (cases h; done) | exact Eq.trans (L_TagtreeClones_e2 (L_small k) L_exampleHoldsq (tagtree_New k) (tagtree_Tree_Clone k) (L_alike k) (L_TagtreeClones_l0 k) (L_TagtreeClones_p1 k) (L_TagtreeClones_p2 k) k _ _ _ _ _ _ _ _ _ _ H K) h)
theorem L_TagtreeClones_e1 {R : Type} (L_small : L_small_t R) (L_exampleHoldsq : L_exampleHoldsq_t R) (tagtree_New : tagtree_New_t R) (tagtree_Tree_Clone : tagtree_Tree_Clone_t R) (L_alike : L_alike_t R) (L_TagtreeClones_l0 : L_TagtreeClones_l0_t R) (L_TagtreeClones_p1 : L_TagtreeClones_p1_t R) (L_TagtreeClones_p2 : L_TagtreeClones_p2_t R) (k : Nat) (n1202 : Int) (p1203 : Oa) (p1204 : Oa) (q1205 : Oa) (l1206 : Nat) (c1207 : Nat) (n1208 : Int) (n1209 : Int) (H : Heap) (K : Xit → Env → Heap → Option R) : evJ (L_TagtreeClones_Ct L_small L_exampleHoldsq tagtree_New tagtree_Tree_Clone L_alike) (L_TagtreeClones_Jt k L_TagtreeClones_l0 L_TagtreeClones_p1 L_TagtreeClones_p2) L_TagtreeClones_i1 (List.zip [3, 9, 11, 29, 30, 31] [.int .i64 n1202, .pointer p1203, .pointer p1204, .slice q1205 l1206 c1207, .int .i64 n1208, .int .i64 n1209]) H (fun x e' H' => K x (clean e' ((⟨[3, 9, 11, 29, 30, 31], [], [8]⟩ : Out).of x)) H') = L_TagtreeClones_p1_b L_TagtreeClones_p2 L_alike k n1202 p1203 p1204 q1205 l1206 c1207 n1208 n1209 H (fun n2091 p2092 p2093 q2094 l2095 c2096 n2097 n2098 H => K .normal [(3, .int .i64 n2091), (9, .pointer p2092), (11, .pointer p2093), (29, .slice q2094 l2095 c2096), (30, .int .i64 n2097), (31, .int .i64 n2098)] H) (fun t2099 H => K .ret [(8, .bool t2099)] H) := by kernel_rfl
theorem L_TagtreeClones_j1 {R : Type} (k : Nat) : JS Try.prog 55 (L_TagtreeClones_a1 R k k) [3, 9, 11, 29, 30, 31] ⟨[3, 9, 11, 29, 30, 31], [], [8]⟩ (sel [1, 1, 1, 1, 1, 0, 1, 0, 0, 1, 1, 0] (Try.f9.body.getD .skip)) :=
  piece_ok (nt := 55) (c := (sel [1, 1, 1, 1, 1, 0, 1, 0, 0, 1, 1, 0] (Try.f9.body.getD .skip))) (C := L_TagtreeClones_C R k) (an := An) (t := (.node (.seq (.reg [3, 9, 11, 12, 13, 29, 30, 31] []) (.seq (.opq 2 [3, 9, 11, 12, 13, 29, 30, 31] ⟨[3, 9, 11, 13, 29, 30, 31], [], [8]⟩ (.seq (.reg [3, 9, 11, 13, 29, 30, 31, 38] []) (.cond (.seq (.reg [3, 9, 11, 13, 29, 30, 31] []) (.seq (.reg [3, 9, 11, 13, 29, 30, 31, 42] []) (.cond (.seq (.reg [8] []) .leaf) .leaf))) .leaf))) (.seq (.reg [3, 9, 11, 13, 29, 30, 31, 44] []) (.cond (.reg [3, 9, 11, 29, 30, 31] []) (.seq (.reg [3, 9, 11, 29, 30, 31, 52] []) (.cond (.seq (.reg [8] []) .leaf) .leaf)))))))) (ic := L_TagtreeClones_i1) (L_TagtreeClones_S R k) (L_TagtreeClones_J R k) (by kernel_rfl) (And.intro True.intro (And.intro (L_TagtreeClones_j2 k) (And.intro True.intro (And.intro True.intro (And.intro True.intro (And.intro (And.intro True.intro True.intro) True.intro)))))) (L_TagtreeClones_a1 R k k)
    (fun vals H K r h => by
      unfold L_TagtreeClones_a1 L_TagtreeClones_aa1 at h
      split at h <;> first | (cases h; done) | exact Eq.trans (L_TagtreeClones_e1 (L_small k) L_exampleHoldsq (tagtree_New k) (tagtree_Tree_Clone k) (L_alike k) (L_TagtreeClones_l0 k) (L_TagtreeClones_p1 k) (L_TagtreeClones_p2 k) k _ _ _ _ _ _ _ _ H K) h)
theorem L_TagtreeClones_e0 {R : Type} (L_small : L_small_t R) (L_exampleHoldsq : L_exampleHoldsq_t R) (tagtree_New : tagtree_New_t R) (tagtree_Tree_Clone : tagtree_Tree_Clone_t R) (L_alike : L_alike_t R) (L_TagtreeClones_l0 : L_TagtreeClones_l0_t R) (L_TagtreeClones_p1 : L_TagtreeClones_p1_t R) (L_TagtreeClones_p2 : L_TagtreeClones_p2_t R) (k n : Nat) (n1194 : Int) (p1195 : Oa) (p1196 : Oa) (q1197 : Oa) (l1198 : Nat) (c1199 : Nat) (n1200 : Int) (n1201 : Int) (H : Heap) (K : Xit → Env → Heap → Option R) : evJ (L_TagtreeClones_Ct L_small L_exampleHoldsq tagtree_New tagtree_Tree_Clone L_alike) (L_TagtreeClones_Jt k L_TagtreeClones_l0 L_TagtreeClones_p1 L_TagtreeClones_p2) L_TagtreeClones_i0 (List.zip [3, 9, 11, 29, 30, 31] [.int .i64 n1194, .pointer p1195, .pointer p1196, .slice q1197 l1198 c1199, .int .i64 n1200, .int .i64 n1201]) H (fun x e' H' => match x with | .normal => L_TagtreeClones_aa0 L_TagtreeClones_l0 n ((clean e' [3, 9, 11, 29, 30, 31]).map (·.2)) H' K | x => K x (clean e' ((⟨[], [(0, [])], [8]⟩ : Out).of x)) H') = L_TagtreeClones_l0_b L_TagtreeClones_p1 (L_TagtreeClones_l0 (fun H => K (.exit 0) [] H) (fun t2090 H => K .ret [(8, .bool t2090)] H) n) (fun H => K (.exit 0) [] H) (fun t2090 H => K .ret [(8, .bool t2090)] H) k n1194 p1195 p1196 q1197 l1198 c1199 n1200 n1201 H := by kernel_rfl
theorem L_TagtreeClones_j0 {R : Type} (k : Nat) : JS Try.prog 55 (L_TagtreeClones_a0 R k k) [3, 9, 11, 29, 30, 31] ⟨[], [(0, [])], [8]⟩ (.loop (sel [1, 1, 1, 1, 1, 0, 1, 0, 0] (Try.f9.body.getD .skip))) :=
  loop_ok (nt := 55) (c := (sel [1, 1, 1, 1, 1, 0, 1, 0, 0] (Try.f9.body.getD .skip))) (C := L_TagtreeClones_C R k) (an := An) (t := (.seq (.reg [3, 9, 11, 29, 30, 31, 32] []) (.seq (.cond .leaf .leaf) (.seq (.opq 1 [3, 9, 11, 29, 30, 31] ⟨[3, 9, 11, 29, 30, 31], [], [8]⟩ (.node (.seq (.reg [3, 9, 11, 12, 13, 29, 30, 31] []) (.seq (.opq 2 [3, 9, 11, 12, 13, 29, 30, 31] ⟨[3, 9, 11, 13, 29, 30, 31], [], [8]⟩ (.seq (.reg [3, 9, 11, 13, 29, 30, 31, 38] []) (.cond (.seq (.reg [3, 9, 11, 13, 29, 30, 31] []) (.seq (.reg [3, 9, 11, 13, 29, 30, 31, 42] []) (.cond (.seq (.reg [8] []) .leaf) .leaf))) .leaf))) (.seq (.reg [3, 9, 11, 13, 29, 30, 31, 44] []) (.cond (.reg [3, 9, 11, 29, 30, 31] []) (.seq (.reg [3, 9, 11, 29, 30, 31, 52] []) (.cond (.seq (.reg [8] []) .leaf) .leaf)))))))) (.reg [3, 9, 11, 29, 30, 31] []))))) (ic := L_TagtreeClones_i0) (L_TagtreeClones_S R k) (L_TagtreeClones_J R k) (by kernel_rfl) (And.intro True.intro (And.intro (And.intro True.intro True.intro) (And.intro (L_TagtreeClones_j1 k) True.intro))) (L_TagtreeClones_a0 R k) (fun vals H K => by unfold L_TagtreeClones_a0 L_TagtreeClones_aa0; split <;> rfl)
    (fun n vals H K r h => by
      unfold L_TagtreeClones_a0 L_TagtreeClones_aa0 at h
      split at h <;> first | (cases h; done) | exact Eq.trans (L_TagtreeClones_e0 (L_small k) L_exampleHoldsq (tagtree_New k) (tagtree_Tree_Clone k) (L_alike k) (L_TagtreeClones_l0 k) (L_TagtreeClones_p1 k) (L_TagtreeClones_p2 k) k n _ _ _ _ _ _ _ _ H K) h) k
def L_TagtreeClones_ca {R : Type} (f : L_TagtreeClones_t R) (args : List Value) (H : Heap) (K : Value → Heap → Option R) : Option R :=
  match args with
  | [.int .i64 n1181, .int .i64 n1182, .slice q1183 l1184 c1185, .int .i64 n1186] => f n1181 n1182 q1183 l1184 c1185 n1186 H (fun t2110 H => K (.bool t2110) H)
  | _ => none
def L_TagtreeClones_c (R : Type) (k : Nat) (args : List Value) (H : Heap) (K : Value → Heap → Option R) : Option R := L_TagtreeClones_ca (L_TagtreeClones k) args H K
theorem L_TagtreeClones_e {R : Type} (L_small : L_small_t R) (L_exampleHoldsq : L_exampleHoldsq_t R) (tagtree_New : tagtree_New_t R) (tagtree_Tree_Clone : tagtree_Tree_Clone_t R) (L_alike : L_alike_t R) (L_TagtreeClones_l0 : L_TagtreeClones_l0_t R) (L_TagtreeClones_p1 : L_TagtreeClones_p1_t R) (L_TagtreeClones_p2 : L_TagtreeClones_p2_t R) (k : Nat) (n1181 : Int) (n1182 : Int) (q1183 : Oa) (l1184 : Nat) (c1185 : Nat) (n1186 : Int) (H : Heap) (K : Value → Heap → Option R) : evF (L_TagtreeClones_Ct L_small L_exampleHoldsq tagtree_New tagtree_Tree_Clone L_alike) (L_TagtreeClones_Jt k L_TagtreeClones_l0 L_TagtreeClones_p1 L_TagtreeClones_p2) L_TagtreeClones_f [.int .i64 n1181, .int .i64 n1182, .slice q1183 l1184 c1185, .int .i64 n1186] H K = L_TagtreeClones_b L_small L_exampleHoldsq tagtree_New L_TagtreeClones_l0 k n1181 n1182 q1183 l1184 c1185 n1186 H (fun t2110 H => K (.bool t2110) H) := by kernel_rfl
theorem L_TagtreeClones_cs (R : Type) (k : Nat) : ∀ args H K r, L_TagtreeClones_c R k args H K = some r → ∃ v H', Tri Try.prog 9 args H v H' ∧ K v H' = some r := by
  intro args H K r h
  unfold L_TagtreeClones_c L_TagtreeClones_ca at h
  split at h
  · exact evF_ok (C := L_TagtreeClones_C R k) (an := An) (t := L_TagtreeClones_at) (fn := Try.f9) (c := (Try.f9.body.getD .skip)) (ifn := L_TagtreeClones_f) (L_TagtreeClones_S R k) (L_TagtreeClones_J R k) Try.func9 (by kernel_rfl) (by kernel_rfl) (And.intro True.intro (And.intro (And.intro True.intro (And.intro (And.intro True.intro True.intro) True.intro)) (And.intro True.intro (And.intro (And.intro True.intro (And.intro (And.intro True.intro True.intro) True.intro)) (And.intro True.intro (And.intro (And.intro True.intro (L_TagtreeClones_j0 k)) (And.intro True.intro True.intro))))))) rfl (Eq.trans (L_TagtreeClones_e (L_small k) L_exampleHoldsq (tagtree_New k) (tagtree_Tree_Clone k) (L_alike k) (L_TagtreeClones_l0 k) (L_TagtreeClones_p1 k) (L_TagtreeClones_p2 k) k _ _ _ _ _ _ H K) h)
  · cases h
end Go.Proofs.Ytblkejnciinaeaa.Sh
