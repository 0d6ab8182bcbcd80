import Derived.Test.YtmmfbjmjhjmccaaD7
import Derived.Test.YtmmfbjmjhjmccaaD8
import Derived.Test.YtmmfbjmjhjmccaaD5
namespace Go.Proofs.Ytmmfbjmjhjmccaa.Am
open Go
attribute [local irreducible] awp seqK blkK backK endK inlK restK rngK asgK itK
set_option maxRecDepth 100000
set_option maxHeartbeats 8000000
set_option linter.unusedSimpArgs false
set_option linter.unusedVariables false
def e_qqiSiiipiiSiip (x : (Int × (List (Int × Int × Int))) × Int × Int × (List (Int × Int))) : List AV := [.i x.1.1, .sl 3 false (x.1.2.map row3) [.i 0, .i 0, .i 0], .i x.2.1, .i x.2.2.1, .sl 2 false (x.2.2.2.map row2) [.i 0, .i 0]]
def d_qqiSiiipiiSiip : List AV → (Int × (List (Int × Int × Int))) × Int × Int × (List (Int × Int))
  | [.v (.int _ a1), .sl _ _ a2 _, .v (.int _ a3), .v (.int _ a4), .sl _ _ a5 _] => ((a1, (a2.map dec3)), a3, a4, (a5.map dec2))
  | _ => ((0, []), 0, 0, [])
theorem d1_qqiSiiipiiSiip (x : (Int × (List (Int × Int × Int))) × Int × Int × (List (Int × Int))) : d_qqiSiiipiiSiip (e_qqiSiiipiiSiip x) = x := by simp only [e_qqiSiiipiiSiip, d_qqiSiiipiiSiip, dec3_row3, dec2_row2]
theorem de_qqiSiiipiiSiip (R : List ((Int × (List (Int × Int × Int))) × Int × Int × (List (Int × Int)))) : (R.map e_qqiSiiipiiSiip).map d_qqiSiiipiiSiip = R := by
  induction R with
  | nil => rfl
  | cons r R ih => rw [List.map_cons, List.map_cons, ih, d1_qqiSiiipiiSiip]

theorem rq_qqiSiiipiiSiip {R : List ((Int × (List (Int × Int × Int))) × Int × Int × (List (Int × Int)))} {i : Int} {x : ((Int × (List (Int × Int × Int))) × Int × Int × (List (Int × Int)))} (h : nth R i = some x) (d : List AV) : rowAt (R.map e_qqiSiiipiiSiip) d i.toNat = e_qqiSiiipiiSiip x := by
  unfold nth at h
  split at h
  · unfold rowAt; rw [List.getD_eq_getElem?_getD, List.getElem?_map, h]; rfl
  · cases h
/-! putlog/putloglaw24.MonitorMatchesReference -/
def D_putloglaw24_MonitorMatchesReference_L6 (N : Nat) (t1251 : Int) (r1468 : Int) (x1462 : List (Int × Int)) (x1458 : Int) (x1459 : List (Int × Int × Int)) (x1460 : Int) (x1461 : Int) (i1457 : Int) (g1255 : Ga) (r1257 : Int) (r1258 : List (Int × Int × Int)) (r1259 : Int) (r1260 : Int) (r1261 : List (Int × Int)) (r1263 : Int) (r1264 : List (Int × Int × Int)) (r1265 : Int) (r1266 : Int) (r1267 : List (Int × Int)) (raw1246 : Int) (raw1247 : List (Int × Int × Int)) (raw1248 : Int) (raw1249 : Int) (raw1250 : List (Int × Int)) : Nat → Int → Option (Sum Unit Bool)
  | 0, _ => none
  | n + 1, x1504 =>
    bif decide (x1504 < 2) then (
      (nth [t1251, r1468] x1504).bind fun x1505 =>
      gd (x1462.length ≤ 1000) <|
      (some (boundsS ⟨x1458, x1459, x1460, x1461, x1462⟩ x1505)).bind fun (r1507, r1508, r1509) =>
      (D_putlogref24_Bounds N x1458 x1459 x1460 x1461 x1462 x1505).bind fun (r1511, r1512, r1513) =>
      gd (x1462.length ≤ 1000) <|
      (some (reasonS ⟨x1458, x1459, x1460, x1461, x1462⟩ x1505)).bind fun (r1515, r1516, r1517) =>
      (D_putlogref24_Reason N x1458 x1459 x1460 x1461 x1462 x1505).bind fun (r1519, r1520, r1521) =>
      bif (((((decide (r1507 ≠ r1511)) || (decide (r1508 ≠ r1512))) || (decide (r1509 ≠ r1513))) || (decide (r1515 ≠ r1519))) || (decide (r1516 ≠ r1520))) || (decide (r1517 ≠ r1521)) then (
        some (.inr false))
      else (
        gd (I64 (3 - i1457)) <|
        (nth [((g1255.d, g1255.R), g1255.tol, g1255.rate, g1255.S), ((r1257, r1258), r1259, r1260, r1261), ((r1263, r1264), r1265, r1266, r1267), ((raw1246, raw1247.take ((min (raw1247.length : Int) 13).toNat - 0)), raw1248, raw1249, raw1250.take ((min (raw1250.length : Int) 25).toNat - 0))] (3 - i1457)).bind fun ((x1523, x1524), x1525, x1526, x1527) =>
        gd (x1462.length ≤ 1000) <|
        gd (x1527.length ≤ 1000) <|
        (some (bothS ⟨x1458, x1459, x1460, x1461, x1462⟩ ⟨x1523, x1524, x1525, x1526, x1527⟩ x1505)).bind fun (r1529, r1530, r1531) =>
        gd (I64 (3 - i1457)) <|
        (D_putlogref24_Both N x1458 x1459 x1460 x1461 x1462 x1523 x1524 x1525 x1526 x1527 x1505).bind fun (r1533, r1534, r1535) =>
        bif ((decide (r1529 ≠ r1533)) || (decide (r1530 ≠ r1534))) || (decide (r1531 ≠ r1535)) then (
          some (.inr false))
        else (
          gd (I64 (x1504 + 1)) <|
          D_putloglaw24_MonitorMatchesReference_L6 N t1251 r1468 x1462 x1458 x1459 x1460 x1461 i1457 g1255 r1257 r1258 r1259 r1260 r1261 r1263 r1264 r1265 r1266 r1267 raw1246 raw1247 raw1248 raw1249 raw1250 n (x1504 + 1))))
    else (
      some (.inl ()))

def D_putloglaw24_MonitorMatchesReference_L9 (N : Nat) (limit1252 : Int) (r1593 : Int) (x1462 : List (Int × Int)) (x1590 : Int) (x1591 : Int) (x1458 : Int) (x1459 : List (Int × Int × Int)) (x1460 : Int) (x1461 : Int) : Nat → Int → Option (Sum Unit Bool)
  | 0, _ => none
  | n + 1, x1613 =>
    bif decide (x1613 < 2) then (
      (nth [limit1252, r1593 - 1500] x1613).bind fun x1614 =>
      gd (x1462.length ≤ 1000) <|
      gd (-9223372036854775808 ≤ x1590) <|
      gd (x1591 ≤ 9223372036854775807) <|
      (some (overS ⟨x1458, x1459, x1460, x1461, x1462⟩ x1614 x1590 x1591)).bind fun (r1616, r1617) =>
      (D_putlogref24_Over N x1458 x1459 x1460 x1461 x1462 x1614 x1590 x1591).bind fun (r1619, r1620) =>
      gd (x1462.length ≤ 1000) <|
      gd (-9223372036854775808 ≤ x1590) <|
      gd (x1591 ≤ 9223372036854775807) <|
      (some (alarmS ⟨x1458, x1459, x1460, x1461, x1462⟩ x1614 x1590 x1591)).bind fun (r1622, r1623, r1624) =>
      (D_putlogref24_Alarm N x1458 x1459 x1460 x1461 x1462 x1614 x1590 x1591).bind fun (r1626, r1627, r1628) =>
      bif ((((decide (r1616 ≠ r1619)) || (decide (r1617 ≠ r1620))) || (decide (r1622 ≠ r1626))) || (decide (r1623 ≠ r1627))) || (decide (r1624 ≠ r1628)) then (
        some (.inr false))
      else (
        gd (I64 (x1613 + 1)) <|
        D_putloglaw24_MonitorMatchesReference_L9 N limit1252 r1593 x1462 x1590 x1591 x1458 x1459 x1460 x1461 n (x1613 + 1)))
    else (
      some (.inl ()))

def D_putloglaw24_MonitorMatchesReference_L7 (N : Nat) (s1253 : Int) (s1254 : Int) (r1269 : Int) (r1271 : Int) (limit1252 : Int) (x1462 : List (Int × Int)) (x1458 : Int) (x1459 : List (Int × Int × Int)) (x1460 : Int) (x1461 : Int) : Nat → Int → Option (Sum Unit Bool)
  | 0, _ => none
  | n + 1, x1589 =>
    bif decide (x1589 < 2) then (
      (nth [(s1253, s1254), (r1269, (r1269 + 1) + r1271)] x1589).bind fun (x1590, x1591) =>
      gd (inI limit1252) <|
      (some (pickS limit1252 3001)).bind fun r1593 =>
      gd (I64 (r1593 - 1500)) <|
      (D_putloglaw24_MonitorMatchesReference_L9 N limit1252 r1593 x1462 x1590 x1591 x1458 x1459 x1460 x1461 N 0).bind fun o1634 => match o1634 with
        | .inl () => (
          gd (I64 (x1589 + 1)) <|
          D_putloglaw24_MonitorMatchesReference_L7 N s1253 s1254 r1269 r1271 limit1252 x1462 x1458 x1459 x1460 x1461 n (x1589 + 1))
        | .inr r1633 => (
          some (.inr r1633)))
    else (
      some (.inl ()))

def D_putloglaw24_MonitorMatchesReference_L1 (N : Nat) (g1255 : Ga) (r1257 : Int) (r1258 : List (Int × Int × Int)) (r1259 : Int) (r1260 : Int) (r1261 : List (Int × Int)) (r1263 : Int) (r1264 : List (Int × Int × Int)) (r1265 : Int) (r1266 : Int) (r1267 : List (Int × Int)) (raw1246 : Int) (raw1247 : List (Int × Int × Int)) (raw1248 : Int) (raw1249 : Int) (raw1250 : List (Int × Int)) (t1251 : Int) (s1253 : Int) (s1254 : Int) (r1269 : Int) (r1271 : Int) (limit1252 : Int) : Nat → Int → Option (Sum Unit Bool)
  | 0, _ => none
  | n + 1, i1457 =>
    bif decide (i1457 < 4) then (
      (nth [((g1255.d, g1255.R), g1255.tol, g1255.rate, g1255.S), ((r1257, r1258), r1259, r1260, r1261), ((r1263, r1264), r1265, r1266, r1267), ((raw1246, raw1247.take ((min (raw1247.length : Int) 13).toNat - 0)), raw1248, raw1249, raw1250.take ((min (raw1250.length : Int) 25).toNat - 0))] i1457).bind fun ((x1458, x1459), x1460, x1461, x1462) =>
      gd (x1462.length ≤ 1000) <|
      (some (validG ⟨x1458, x1459, x1460, x1461, x1462⟩)).bind fun r1464 =>
      (D_putlogref24_Valid N x1458 x1459 x1460 x1461 x1462).bind fun r1466 =>
      bif (r1464 != r1466) then (
        some (.inr false))
      else (
        gd (inI t1251) <|
        (some (pickS t1251 400)).bind fun r1468 =>
        (D_putloglaw24_MonitorMatchesReference_L6 N t1251 r1468 x1462 x1458 x1459 x1460 x1461 i1457 g1255 r1257 r1258 r1259 r1260 r1261 r1263 r1264 r1265 r1266 r1267 raw1246 raw1247 raw1248 raw1249 raw1250 N 0).bind fun o1541 => match o1541 with
          | .inl () => (
            (D_putloglaw24_MonitorMatchesReference_L7 N s1253 s1254 r1269 r1271 limit1252 x1462 x1458 x1459 x1460 x1461 N 0).bind fun o1639 => match o1639 with
              | .inl () => (
                gd (I64 (i1457 + 1)) <|
                D_putloglaw24_MonitorMatchesReference_L1 N g1255 r1257 r1258 r1259 r1260 r1261 r1263 r1264 r1265 r1266 r1267 raw1246 raw1247 raw1248 raw1249 raw1250 t1251 s1253 s1254 r1269 r1271 limit1252 n (i1457 + 1))
              | .inr r1638 => (
                some (.inr r1638)))
          | .inr r1540 => (
            some (.inr r1540))))
    else (
      some (.inl ()))

def D_putloglaw24_MonitorMatchesReference (N : Nat) (x1225 : Int) (x1226 : Int) (x1227 : List Int) (x1228 : List (Int × Int × Int)) (x1229 : Int) (x1230 : Int) (x1231 : Int) (x1232 : List Int) (x1233 : List (Int × Int)) (y1234 : Int) (y1235 : Int) (y1236 : List Int) (y1237 : List (Int × Int × Int)) (y1238 : Int) (y1239 : Int) (y1240 : Int) (y1241 : List Int) (y1242 : List (Int × Int)) (bend1243 : Int) (bend1244 : Int) (bend1245 : Int) (raw1246 : Int) (raw1247 : List (Int × Int × Int)) (raw1248 : Int) (raw1249 : Int) (raw1250 : List (Int × Int)) (t1251 : Int) (limit1252 : Int) (s1253 : Int) (s1254 : Int) : Option Bool :=
  gd (0 ≤ 0 ∧ 0 ≤ min (raw1247.length : Int) 13 ∧ min (raw1247.length : Int) 13 ≤ (raw1247.length : Int)) <|
  gd (0 ≤ 0 ∧ 0 ≤ min (raw1250.length : Int) 25 ∧ min (raw1250.length : Int) 25 ≤ (raw1250.length : Int)) <|
  gd (inI x1225) <|
  gd (inI x1226) <|
  gd (∀ r ∈ x1227, inI r) <|
  gd (∀ r ∈ x1228, inI r.1 ∧ inI r.2.1 ∧ inI r.2.2) <|
  gd (inI x1229) <|
  gd (inI x1230) <|
  gd (inI x1231) <|
  gd (∀ r ∈ x1232, inI r) <|
  gd (∀ r ∈ x1233, inI r.1 ∧ inI r.2) <|
  (some (made24 ⟨x1225, x1226, x1227, x1228, x1229, x1230, x1231, x1232, x1233⟩)).bind fun g1255 =>
  (D_putlogref24_Exact N y1234 y1235 y1236 y1237 y1238 y1239 y1240 y1241 y1242).bind fun ((r1257, r1258), r1259, r1260, r1261) =>
  (D_putlogref24_Bent N g1255.d g1255.R g1255.tol g1255.rate g1255.S bend1243 bend1244 bend1245).bind fun ((r1263, r1264), r1265, r1266, r1267) =>
  gd (inI s1253) <|
  (some (pickS s1253 300)).bind fun r1269 =>
  gd (I64 (r1269 + 1)) <|
  gd (inI s1254) <|
  (some (pickS s1254 100)).bind fun r1271 =>
  gd (I64 ((r1269 + 1) + r1271)) <|
  (D_putloglaw24_MonitorMatchesReference_L1 N g1255 r1257 r1258 r1259 r1260 r1261 r1263 r1264 r1265 r1266 r1267 raw1246 raw1247 raw1248 raw1249 raw1250 t1251 s1253 s1254 r1269 r1271 limit1252 N 0).bind fun o1644 => match o1644 with
    | .inl () => (
      some true)
    | .inr r1643 => (
      some r1643)

def T3 (N : Nat) : List (Nat × Spec) := [(11, sSane), (12, sMade24), (13, s13 N), (14, s14 N), (15, sPick), (16, sMonValid), (17, s17 N), (18, sBounds), (19, s19 N), (20, sReason), (21, s21 N), (22, sBoth), (23, s23 N), (24, sOver), (25, s25 N), (26, sAlarm), (27, s27 N)]
theorem T3_ok (N : Nat) : TabOK Try.prog (tabOf (T3 N)) := tab_cons sane_fok (tab_cons made24_fok (tab_cons (fok13 N) (tab_cons (fok14 N) (tab_cons pick_fok (tab_cons monValid_fok (tab_cons (fok17 N) (tab_cons bounds_fok (tab_cons (fok19 N) (tab_cons reason_fok (tab_cons (fok21 N) (tab_cons both_fok (tab_cons (fok23 N) (tab_cons over_fok (tab_cons (fok25 N) (tab_cons alarm_fok (tab_cons (fok27 N) (tab_nil)))))))))))))))))

section
attribute [local go_sem] T3 sSane sMade24 s13 s14 sPick sMonValid s17 sBounds s19 sReason s21 sBoth s23 sOver s25 sAlarm s27 gCells styIn inI gP tup3 row1 dec1 dec1_row1 rb_row1 row2 dec2 dec2_row2 rb_row2 row3 dec3 dec3_row3 rb_row3 e_qqiSiiipiiSiip de_qqiSiiipiiSiip d_qqiSiiipiiSiip List.length_set Option.isSome_some
theorem D_putloglaw24_MonitorMatchesReference_ok (N : Nat) (x1225 : Int) (x1226 : Int) (x1227 : List Int) (x1228 : List (Int × Int × Int)) (x1229 : Int) (x1230 : Int) (x1231 : Int) (x1232 : List Int) (x1233 : List (Int × Int)) (y1234 : Int) (y1235 : Int) (y1236 : List Int) (y1237 : List (Int × Int × Int)) (y1238 : Int) (y1239 : Int) (y1240 : Int) (y1241 : List Int) (y1242 : List (Int × Int)) (bend1243 : Int) (bend1244 : Int) (bend1245 : Int) (raw1246 : Int) (raw1247 : List (Int × Int × Int)) (raw1248 : Int) (raw1249 : Int) (raw1250 : List (Int × Int)) (t1251 : Int) (limit1252 : Int) (s1253 : Int) (s1254 : Int) (r : Bool) (h : D_putloglaw24_MonitorMatchesReference N x1225 x1226 x1227 x1228 x1229 x1230 x1231 x1232 x1233 y1234 y1235 y1236 y1237 y1238 y1239 y1240 y1241 y1242 bend1243 bend1244 bend1245 raw1246 raw1247 raw1248 raw1249 raw1250 t1251 limit1252 s1253 s1254 = some r) : PCall Try.prog 3 [.agg [.i x1225, .i x1226, .sl 1 false (x1227.map row1) [.i 0], .sl 3 false (x1228.map row3) [.i 0, .i 0, .i 0], .i x1229, .i x1230, .i x1231, .sl 1 false (x1232.map row1) [.i 0], .sl 2 false (x1233.map row2) [.i 0, .i 0]], .agg [.i y1234, .i y1235, .sl 1 false (y1236.map row1) [.i 0], .sl 3 false (y1237.map row3) [.i 0, .i 0, .i 0], .i y1238, .i y1239, .i y1240, .sl 1 false (y1241.map row1) [.i 0], .sl 2 false (y1242.map row2) [.i 0, .i 0]], .agg [.i bend1243, .i bend1244, .i bend1245], .agg [.i raw1246, .sl 3 false (raw1247.map row3) [.i 0, .i 0, .i 0], .i raw1248, .i raw1249, .sl 2 false (raw1250.map row2) [.i 0, .i 0]], .i t1251, .i limit1252, .agg [.i s1253, .i s1254]] (.b r) := by
  refine pcall_fn (T3_ok N) _ Try.func3 ok3 nt3 (by simp) fun _ => ?_
  have hS := T3_ok N
  unfold ac3 rv3
  unfold D_putloglaw24_MonitorMatchesReference at h
  repeat' (first
 | (with_reducible (first | apply awp_sr5 | apply awp_r5 | apply awp_sd | apply awp_d | apply inlR_n5 | apply inlR_r5); (· (first | exact Ctx.fn_ok hS | exact Ctx.rd_ok hS | assumption | exact True.intro)); iterate 2 (· (simp only [go_sem, seval] <;> eq_refl)))
 | with_reducible (first | apply awp_scp | apply awp_sn | apply awp_nop | apply awp_ret | apply awp_exit | apply awp_block | apply awp_seq | apply seqK_n | apply seqK_r | apply seqK_x | apply blkK_n | apply blkK_r | apply blkK_x)
 | (with_reducible apply blkK_y; (· first | rfl | decide))
 | (with_reducible apply cutK_o; (· simp))
 | with_reducible (first | apply backK_x | apply backK_r | apply asgK_n | apply rngK_x | apply rngK_r | apply True.intro | apply And.intro True.intro True.intro)
 | (fail_if_success with_reducible apply K_id); (fail_if_success with_reducible apply awp_id); first | omega | (simp only [go_sem, seval]; done) | with_reducible assumption | (refine And.intro ?_ ?_) | (intro hg; simp_all; done) | grind)
  refine awp_cf (by simp only [go_sem, seval] <;> eq_refl) ?_
  try simp only [gd_some, Option.bind_eq_some_iff] at h
  obtain ⟨hv1, hv2, hv3, hv4, hv5, hv6, hv7, hv8, hv9, hv10, hv11, g1255, hr1255, ⟨⟨r1257, r1258⟩, r1259, r1260, r1261⟩, hr1261, h⟩ := h
  have he1255 := Option.some.inj hr1255
  try simp only [gd_some, Option.bind_eq_some_iff] at h
  obtain ⟨⟨⟨r1263, r1264⟩, r1265, r1266, r1267⟩, hr1267, h⟩ := h
  try simp only [gd_some, Option.bind_eq_some_iff] at h
  obtain ⟨hv12, r1269, hr1269, hv13, hv14, r1271, hr1271, hv15, h⟩ := h
  have he1269 := Option.some.inj hr1269
  simp only [I64] at hv13
  have he1271 := Option.some.inj hr1271
  simp only [I64] at hv15
  try simp only [gd_some, Option.bind_eq_some_iff] at h
  obtain ⟨o1644, hL16, h⟩ := h
  repeat' (first
 | (with_reducible (first | apply awp_sr5 | apply awp_r5 | apply awp_sd | apply awp_d | apply inlR_n5 | apply inlR_r5); (· (first | exact Ctx.fn_ok hS | exact Ctx.rd_ok hS | assumption | exact True.intro)); iterate 2 (· (simp only [go_sem, seval, he1255, hr1261, hr1267, he1269, he1271] <;> eq_refl)))
 | with_reducible (first | apply awp_scp | apply awp_sn | apply awp_nop | apply awp_ret | apply awp_exit | apply awp_block | apply awp_seq | apply seqK_n | apply seqK_r | apply seqK_x | apply blkK_n | apply blkK_r | apply blkK_x)
 | (with_reducible apply blkK_y; (· first | rfl | decide))
 | (with_reducible apply cutK_o; (· simp))
 | with_reducible (first | apply backK_x | apply backK_r | apply asgK_n | apply rngK_x | apply rngK_r | apply True.intro | apply And.intro True.intro True.intro)
 | (fail_if_success with_reducible apply K_id); (fail_if_success with_reducible apply awp_id); first | omega | (simp only [go_sem, seval, he1255, hr1261, hr1267, he1269, he1271]; done) | with_reducible assumption | (refine And.intro ?_ ?_) | (intro hg; simp_all; done) | grind)
  refine awp_cut (fun z : Nat => ⟨[(15, .b true)], [], z⟩) (fun z => (.inl () : Sum Unit Bool) = o1644) (.x 0) ?_ ?_
  · refine awp_loop (fun y : Nat × Int × Nat => ⟨[(4, .i t1251), (5, .i limit1252), (13, .box (4, 1) 0), (15, .b true), (18, .own (811, 8) [((g1255.d, g1255.R), g1255.tol, g1255.rate, g1255.S), ((r1257, r1258), r1259, r1260, r1261), ((r1263, r1264), r1265, r1266, r1267), ((raw1246, raw1247.take ((min (raw1247.length : Int) 13).toNat - 0)), raw1248, raw1249, raw1250.take ((min (raw1250.length : Int) 25).toNat - 0))].length), (19, .box (904, 9) 0), (20, .i y.2.1)], [(.c (904, 9) 0, .i r1269), (.c (904, 9) 1, .i ((r1269 + 1) + r1271)), (.a (811, 8), .sl 5 true ([((g1255.d, g1255.R), g1255.tol, g1255.rate, g1255.S), ((r1257, r1258), r1259, r1260, r1261), ((r1263, r1264), r1265, r1266, r1267), ((raw1246, raw1247.take ((min (raw1247.length : Int) 13).toNat - 0)), raw1248, raw1249, raw1250.take ((min (raw1250.length : Int) 25).toNat - 0))].map e_qqiSiiipiiSiip) [.i 0, .sl 0 true [] [], .i 0, .i 0, .sl 0 true [] []]), (.c (4, 1) 0, .i s1253), (.c (4, 1) 1, .i s1254)], y.2.2⟩) (fun y => D_putloglaw24_MonitorMatchesReference_L1 N g1255 r1257 r1258 r1259 r1260 r1261 r1263 r1264 r1265 r1266 r1267 raw1246 raw1247 raw1248 raw1249 raw1250 t1251 s1253 s1254 r1269 r1271 limit1252 y.1 y.2.1 = some o1644) (fun y => y.1) (N, 0, 11) hL16 ?_ ?_
    · refine Le.of ?_ ?_ (by first | exact Nat.le_refl _ | (simp; omega) | simp) <;> first | (simp only [go_sem, seval, he1255, hr1261, hr1267, he1269, he1271]; done) | (simp only [go_sem, seval, he1255, hr1261, hr1267, he1269, he1271, List.map_append, List.map_cons, List.map_nil, List.map_set, List.map_take, List.map_drop]; done) | (simp [he1255, hr1261, hr1267, he1269, he1271, List.map_append, List.map_set]; done)
    · rintro ⟨n, i1457, c1456⟩ hB17
      try simp only at hB17
      obtain _ | n := n
      · exact absurd hB17 (by simp [D_putloglaw24_MonitorMatchesReference_L1])
      rw [D_putloglaw24_MonitorMatchesReference_L1] at hB17
      repeat' (first
 | (with_reducible (first | apply awp_sr5 | apply awp_r5 | apply awp_sd | apply awp_d | apply inlR_n5 | apply inlR_r5); (· (first | exact Ctx.fn_ok hS | exact Ctx.rd_ok hS | assumption | exact True.intro)); iterate 2 (· (simp only [go_sem, seval, he1255, hr1261, hr1267, he1269, he1271] <;> eq_refl)))
 | with_reducible (first | apply awp_scp | apply awp_sn | apply awp_nop | apply awp_ret | apply awp_exit | apply awp_block | apply awp_seq | apply seqK_n | apply seqK_r | apply seqK_x | apply blkK_n | apply blkK_r | apply blkK_x)
 | (with_reducible apply blkK_y; (· first | rfl | decide))
 | (with_reducible apply cutK_o; (· simp))
 | with_reducible (first | apply backK_x | apply backK_r | apply asgK_n | apply rngK_x | apply rngK_r | apply True.intro | apply And.intro True.intro True.intro)
 | (fail_if_success with_reducible apply K_id); (fail_if_success with_reducible apply awp_id); first | omega | (simp only [go_sem, seval, he1255, hr1261, hr1267, he1269, he1271]; done) | with_reducible assumption | (refine And.intro ?_ ?_) | (intro hg; simp_all; done) | grind)
      refine awp_cb (B' := decide (i1457 < 4)) (by simp only [go_sem, seval, he1255, hr1261, hr1267, he1269, he1271] <;> eq_refl) (by first | rfl | (simp; done) | grind) (fun hc18 => ?_) (fun hc18 => ?_)
      · rw [hc18, cond_true] at hB17
        try simp only [gd_some, Option.bind_eq_some_iff] at hB17
        obtain ⟨⟨⟨x1458, x1459⟩, x1460, x1461, x1462⟩, hn1462, hB17⟩ := hB17
        have hq1462 : ∀ d, rowAt [[.i g1255.d, .sl 3 false (g1255.R.map row3) [.i 0, .i 0, .i 0], .i g1255.tol, .i g1255.rate, .sl 2 false (g1255.S.map row2) [.i 0, .i 0]], [.i r1257, .sl 3 false (r1258.map row3) [.i 0, .i 0, .i 0], .i r1259, .i r1260, .sl 2 false (r1261.map row2) [.i 0, .i 0]], [.i r1263, .sl 3 false (r1264.map row3) [.i 0, .i 0, .i 0], .i r1265, .i r1266, .sl 2 false (r1267.map row2) [.i 0, .i 0]], [.i raw1246, .sl 3 false ((raw1247.take ((min (raw1247.length : Int) 13).toNat - 0)).map row3) [.i 0, .i 0, .i 0], .i raw1248, .i raw1249, .sl 2 false ((raw1250.take ((min (raw1250.length : Int) 25).toNat - 0)).map row2) [.i 0, .i 0]]] d i1457.toNat = [.i x1458, .sl 3 false (x1459.map row3) [.i 0, .i 0, .i 0], .i x1460, .i x1461, .sl 2 false (x1462.map row2) [.i 0, .i 0]] := rq_qqiSiiipiiSiip hn1462
        have hb1462 := (nth_some hn1462).1
        try simp only [List.length_cons, List.length_nil] at hb1462
        try simp only [gd_some, Option.bind_eq_some_iff] at hB17
        obtain ⟨hv19, r1464, hr1464, r1466, hr1466, hB17⟩ := hB17
        have he1464 := Option.some.inj hr1464
        repeat' (first
 | (with_reducible (first | apply awp_sr5 | apply awp_r5 | apply awp_sd | apply awp_d | apply inlR_n5 | apply inlR_r5); (· (first | exact Ctx.fn_ok hS | exact Ctx.rd_ok hS | assumption | exact True.intro)); iterate 2 (· (simp only [go_sem, seval, he1255, hr1261, hr1267, he1269, he1271, hq1462, he1464, hr1466] <;> eq_refl)))
 | with_reducible (first | apply awp_scp | apply awp_sn | apply awp_nop | apply awp_ret | apply awp_exit | apply awp_block | apply awp_seq | apply seqK_n | apply seqK_r | apply seqK_x | apply blkK_n | apply blkK_r | apply blkK_x)
 | (with_reducible apply blkK_y; (· first | rfl | decide))
 | (with_reducible apply cutK_o; (· simp))
 | with_reducible (first | apply backK_x | apply backK_r | apply asgK_n | apply rngK_x | apply rngK_r | apply True.intro | apply And.intro True.intro True.intro)
 | (fail_if_success with_reducible apply K_id); (fail_if_success with_reducible apply awp_id); first | omega | (simp only [go_sem, seval, he1255, hr1261, hr1267, he1269, he1271, hq1462, he1464, hr1466]; done) | with_reducible assumption | (refine And.intro ?_ ?_) | (intro hg; simp_all; done) | grind)
        refine awp_cb (B' := (r1464 != r1466)) (by simp only [go_sem, seval, he1255, hr1261, hr1267, he1269, he1271, hq1462, he1464, hr1466] <;> eq_refl) (by first | rfl | (simp; done) | grind) (fun hc20 => ?_) (fun hc20 => ?_)
        · rw [hc20, cond_true] at hB17
          obtain rfl := Option.some.inj hB17
          try simp only at h
          obtain rfl := Option.some.inj h
          repeat' (first
 | (with_reducible (first | apply awp_sr5 | apply awp_r5 | apply awp_sd | apply awp_d | apply inlR_n5 | apply inlR_r5); (· (first | exact Ctx.fn_ok hS | exact Ctx.rd_ok hS | assumption | exact True.intro)); iterate 2 (· (simp only [go_sem, seval, he1255, hr1261, hr1267, he1269, he1271, hq1462, he1464, hr1466] <;> eq_refl)))
 | with_reducible (first | apply awp_scp | apply awp_sn | apply awp_nop | apply awp_ret | apply awp_exit | apply awp_block | apply awp_seq | apply seqK_n | apply seqK_r | apply seqK_x | apply blkK_n | apply blkK_r | apply blkK_x)
 | (with_reducible apply blkK_y; (· first | rfl | decide))
 | (with_reducible apply cutK_o; (· simp))
 | with_reducible (first | apply backK_x | apply backK_r | apply asgK_n | apply rngK_x | apply rngK_r | apply True.intro | apply And.intro True.intro True.intro)
 | (fail_if_success with_reducible apply K_id); (fail_if_success with_reducible apply awp_id); first | omega | (simp only [go_sem, seval, he1255, hr1261, hr1267, he1269, he1271, hq1462, he1464, hr1466]; done) | with_reducible assumption | (refine And.intro ?_ ?_) | (intro hg; simp_all; done) | grind)
          first | refine endK_r (by simp only [go_sem, seval, he1255, hr1261, hr1267, he1269, he1271, hq1462, he1464, hr1466] <;> eq_refl) (by simp only [go_sem, seval, he1255, hr1261, hr1267, he1269, he1271, hq1462, he1464, hr1466]) (by simp only [go_sem, seval, he1255, hr1261, hr1267, he1269, he1271, hq1462, he1464, hr1466]) ?_ rfl | refine endK_n (by simp only [go_sem, seval, he1255, hr1261, hr1267, he1269, he1271, hq1462, he1464, hr1466] <;> eq_refl) (by simp only [go_sem, seval, he1255, hr1261, hr1267, he1269, he1271, hq1462, he1464, hr1466]) (by simp only [go_sem, seval, he1255, hr1261, hr1267, he1269, he1271, hq1462, he1464, hr1466]) ?_ rfl
          first | (simp only [go_sem, seval, he1255, hr1261, hr1267, he1269, he1271, hq1462, he1464, hr1466]; done) | (simp only [go_sem, seval, he1255, hr1261, hr1267, he1269, he1271, hq1462, he1464, hr1466, List.map_append, List.map_cons, List.map_nil, List.map_set, List.map_take, List.map_drop]; done) | (simp [he1255, hr1261, hr1267, he1269, he1271, hq1462, he1464, hr1466]; done)
        · rw [hc20, cond_false] at hB17
          try simp only [gd_some, Option.bind_eq_some_iff] at hB17
          obtain ⟨hv21, r1468, hr1468, hB17⟩ := hB17
          have he1468 := Option.some.inj hr1468
          try simp only [gd_some, Option.bind_eq_some_iff] at hB17
          obtain ⟨o1541, hL22, hB17⟩ := hB17
          repeat' (first
 | (with_reducible (first | apply awp_sr5 | apply awp_r5 | apply awp_sd | apply awp_d | apply inlR_n5 | apply inlR_r5); (· (first | exact Ctx.fn_ok hS | exact Ctx.rd_ok hS | assumption | exact True.intro)); iterate 2 (· (simp only [go_sem, seval, he1255, hr1261, hr1267, he1269, he1271, hq1462, he1464, hr1466, he1468] <;> eq_refl)))
 | with_reducible (first | apply awp_scp | apply awp_sn | apply awp_nop | apply awp_ret | apply awp_exit | apply awp_block | apply awp_seq | apply seqK_n | apply seqK_r | apply seqK_x | apply blkK_n | apply blkK_r | apply blkK_x)
 | (with_reducible apply blkK_y; (· first | rfl | decide))
 | (with_reducible apply cutK_o; (· simp))
 | with_reducible (first | apply backK_x | apply backK_r | apply asgK_n | apply rngK_x | apply rngK_r | apply True.intro | apply And.intro True.intro True.intro)
 | (fail_if_success with_reducible apply K_id); (fail_if_success with_reducible apply awp_id); first | omega | (simp only [go_sem, seval, he1255, hr1261, hr1267, he1269, he1271, hq1462, he1464, hr1466, he1468]; done) | with_reducible assumption | (refine And.intro ?_ ?_) | (intro hg; simp_all; done) | grind)
          refine awp_cut (fun z : Nat => ⟨[(4, .i t1251), (5, .i limit1252), (13, .box (4, 1) 0), (15, .b true), (18, .own (811, 8) [((g1255.d, g1255.R), g1255.tol, g1255.rate, g1255.S), ((r1257, r1258), r1259, r1260, r1261), ((r1263, r1264), r1265, r1266, r1267), ((raw1246, raw1247.take ((min (raw1247.length : Int) 13).toNat - 0)), raw1248, raw1249, raw1250.take ((min (raw1250.length : Int) 25).toNat - 0))].length), (19, .box (904, 9) 0), (20, .i i1457), (21, .box (1404, c1456 + 1 + 1) 0)], [(.c (1404, c1456 + 1 + 1) 0, .i x1458), (.c (1404, c1456 + 1 + 1) 1, .sl 3 false (x1459.map row3) [.i 0, .i 0, .i 0]), (.c (1404, c1456 + 1 + 1) 2, .i x1460), (.c (1404, c1456 + 1 + 1) 3, .i x1461), (.c (1404, c1456 + 1 + 1) 4, .sl 2 false (x1462.map row2) [.i 0, .i 0]), (.c (904, 9) 0, .i r1269), (.c (904, 9) 1, .i ((r1269 + 1) + r1271)), (.a (811, 8), .sl 5 true ([((g1255.d, g1255.R), g1255.tol, g1255.rate, g1255.S), ((r1257, r1258), r1259, r1260, r1261), ((r1263, r1264), r1265, r1266, r1267), ((raw1246, raw1247.take ((min (raw1247.length : Int) 13).toNat - 0)), raw1248, raw1249, raw1250.take ((min (raw1250.length : Int) 25).toNat - 0))].map e_qqiSiiipiiSiip) [.i 0, .sl 0 true [] [], .i 0, .i 0, .sl 0 true [] []]), (.c (4, 1) 0, .i s1253), (.c (4, 1) 1, .i s1254)], z⟩) (fun z => (.inl () : Sum Unit Bool) = o1541) (.x 2) ?_ ?_
          · refine awp_loop (fun y : Nat × Int × Nat => ⟨[(4, .i t1251), (5, .i limit1252), (13, .box (4, 1) 0), (15, .b true), (18, .own (811, 8) [((g1255.d, g1255.R), g1255.tol, g1255.rate, g1255.S), ((r1257, r1258), r1259, r1260, r1261), ((r1263, r1264), r1265, r1266, r1267), ((raw1246, raw1247.take ((min (raw1247.length : Int) 13).toNat - 0)), raw1248, raw1249, raw1250.take ((min (raw1250.length : Int) 25).toNat - 0))].length), (19, .box (904, 9) 0), (20, .i i1457), (21, .box (1404, c1456 + 1 + 1) 0), (116, .own (1703, c1456 + 1 + 1 + 1 + 1) [t1251, r1468].length), (117, .i 2), (118, .i y.2.1)], [(.a (1703, c1456 + 1 + 1 + 1 + 1), .sl 1 true ([t1251, r1468].map row1) [.i 0]), (.c (1404, c1456 + 1 + 1) 0, .i x1458), (.c (1404, c1456 + 1 + 1) 1, .sl 3 false (x1459.map row3) [.i 0, .i 0, .i 0]), (.c (1404, c1456 + 1 + 1) 2, .i x1460), (.c (1404, c1456 + 1 + 1) 3, .i x1461), (.c (1404, c1456 + 1 + 1) 4, .sl 2 false (x1462.map row2) [.i 0, .i 0]), (.c (904, 9) 0, .i r1269), (.c (904, 9) 1, .i ((r1269 + 1) + r1271)), (.a (811, 8), .sl 5 true ([((g1255.d, g1255.R), g1255.tol, g1255.rate, g1255.S), ((r1257, r1258), r1259, r1260, r1261), ((r1263, r1264), r1265, r1266, r1267), ((raw1246, raw1247.take ((min (raw1247.length : Int) 13).toNat - 0)), raw1248, raw1249, raw1250.take ((min (raw1250.length : Int) 25).toNat - 0))].map e_qqiSiiipiiSiip) [.i 0, .sl 0 true [] [], .i 0, .i 0, .sl 0 true [] []]), (.c (4, 1) 0, .i s1253), (.c (4, 1) 1, .i s1254)], y.2.2⟩) (fun y => D_putloglaw24_MonitorMatchesReference_L6 N t1251 r1468 x1462 x1458 x1459 x1460 x1461 i1457 g1255 r1257 r1258 r1259 r1260 r1261 r1263 r1264 r1265 r1266 r1267 raw1246 raw1247 raw1248 raw1249 raw1250 y.1 y.2.1 = some o1541) (fun y => y.1) (N, 0, c1456 + 1 + 1 + 1 + 1) hL22 ?_ ?_
            · refine Le.of ?_ ?_ (by first | exact Nat.le_refl _ | (simp; omega) | simp) <;> first | (simp only [go_sem, seval, he1255, hr1261, hr1267, he1269, he1271, hq1462, he1464, hr1466, he1468]; done) | (simp only [go_sem, seval, he1255, hr1261, hr1267, he1269, he1271, hq1462, he1464, hr1466, he1468, List.map_append, List.map_cons, List.map_nil, List.map_set, List.map_take, List.map_drop]; done) | (simp [he1255, hr1261, hr1267, he1269, he1271, hq1462, he1464, hr1466, he1468, List.map_append, List.map_set]; done)
            · rintro ⟨n, x1504, c1503⟩ hB23
              try simp only at hB23
              obtain _ | n := n
              · exact absurd hB23 (by simp [D_putloglaw24_MonitorMatchesReference_L6])
              rw [D_putloglaw24_MonitorMatchesReference_L6] at hB23
              repeat' (first
 | (with_reducible (first | apply awp_sr5 | apply awp_r5 | apply awp_sd | apply awp_d | apply inlR_n5 | apply inlR_r5); (· (first | exact Ctx.fn_ok hS | exact Ctx.rd_ok hS | assumption | exact True.intro)); iterate 2 (· (simp only [go_sem, seval, he1255, hr1261, hr1267, he1269, he1271, hq1462, he1464, hr1466, he1468] <;> eq_refl)))
 | with_reducible (first | apply awp_scp | apply awp_sn | apply awp_nop | apply awp_ret | apply awp_exit | apply awp_block | apply awp_seq | apply seqK_n | apply seqK_r | apply seqK_x | apply blkK_n | apply blkK_r | apply blkK_x)
 | (with_reducible apply blkK_y; (· first | rfl | decide))
 | (with_reducible apply cutK_o; (· simp))
 | with_reducible (first | apply backK_x | apply backK_r | apply asgK_n | apply rngK_x | apply rngK_r | apply True.intro | apply And.intro True.intro True.intro)
 | (fail_if_success with_reducible apply K_id); (fail_if_success with_reducible apply awp_id); first | omega | (simp only [go_sem, seval, he1255, hr1261, hr1267, he1269, he1271, hq1462, he1464, hr1466, he1468]; done) | with_reducible assumption | (refine And.intro ?_ ?_) | (intro hg; simp_all; done) | grind)
              refine awp_cb (B' := decide (x1504 < 2)) (by simp only [go_sem, seval, he1255, hr1261, hr1267, he1269, he1271, hq1462, he1464, hr1466, he1468] <;> eq_refl) (by first | rfl | (simp; done) | grind) (fun hc24 => ?_) (fun hc24 => ?_)
              · rw [hc24, cond_true] at hB23
                try simp only [gd_some, Option.bind_eq_some_iff] at hB23
                obtain ⟨x1505, hn1505, hv25, ⟨r1507, r1508, r1509⟩, hr1509, hB23⟩ := hB23
                have hx1505 : [t1251, r1468].getD x1504.toNat 0 = x1505 := ixs hn1505 _
                have hq1505 : rowAt [[.i t1251], [.i r1468]] [.i 0] x1504.toNat = [.i x1505] := by have hq := rb_row1 [t1251, r1468] x1504.toNat; rw [hx1505] at hq; exact hq
                have hb1505 := (nth_some hn1505).1
                try simp only [List.length_cons, List.length_nil] at hb1505
                have he1509 := Option.some.inj hr1509
                try simp only [gd_some, Option.bind_eq_some_iff] at hB23
                obtain ⟨⟨r1511, r1512, r1513⟩, hr1513, hB23⟩ := hB23
                try simp only [gd_some, Option.bind_eq_some_iff] at hB23
                obtain ⟨hv26, ⟨r1515, r1516, r1517⟩, hr1517, hB23⟩ := hB23
                have he1517 := Option.some.inj hr1517
                try simp only [gd_some, Option.bind_eq_some_iff] at hB23
                obtain ⟨⟨r1519, r1520, r1521⟩, hr1521, hB23⟩ := hB23
                repeat' (first
 | (with_reducible (first | apply awp_sr5 | apply awp_r5 | apply awp_sd | apply awp_d | apply inlR_n5 | apply inlR_r5); (· (first | exact Ctx.fn_ok hS | exact Ctx.rd_ok hS | assumption | exact True.intro)); iterate 2 (· (simp only [go_sem, seval, he1255, hr1261, hr1267, he1269, he1271, hq1462, he1464, hr1466, he1468, hx1505, hq1505, he1509, hr1513, he1517, hr1521] <;> eq_refl)))
 | with_reducible (first | apply awp_scp | apply awp_sn | apply awp_nop | apply awp_ret | apply awp_exit | apply awp_block | apply awp_seq | apply seqK_n | apply seqK_r | apply seqK_x | apply blkK_n | apply blkK_r | apply blkK_x)
 | (with_reducible apply blkK_y; (· first | rfl | decide))
 | (with_reducible apply cutK_o; (· simp))
 | with_reducible (first | apply backK_x | apply backK_r | apply asgK_n | apply rngK_x | apply rngK_r | apply True.intro | apply And.intro True.intro True.intro)
 | (fail_if_success with_reducible apply K_id); (fail_if_success with_reducible apply awp_id); first | omega | (simp only [go_sem, seval, he1255, hr1261, hr1267, he1269, he1271, hq1462, he1464, hr1466, he1468, hx1505, hq1505, he1509, hr1513, he1517, hr1521]; done) | with_reducible assumption | (refine And.intro ?_ ?_) | (intro hg; simp_all; done) | grind)
                refine awp_cb (B' := (((((decide (r1507 ≠ r1511)) || (decide (r1508 ≠ r1512))) || (decide (r1509 ≠ r1513))) || (decide (r1515 ≠ r1519))) || (decide (r1516 ≠ r1520))) || (decide (r1517 ≠ r1521))) (by simp only [go_sem, seval, he1255, hr1261, hr1267, he1269, he1271, hq1462, he1464, hr1466, he1468, hx1505, hq1505, he1509, hr1513, he1517, hr1521] <;> eq_refl) (by first | rfl | (simp; done) | grind) (fun hc27 => ?_) (fun hc27 => ?_)
                · rw [hc27, cond_true] at hB23
                  obtain rfl := Option.some.inj hB23
                  try simp only at hB17
                  obtain rfl := Option.some.inj hB17
                  try simp only at h
                  obtain rfl := Option.some.inj h
                  repeat' (first
 | (with_reducible (first | apply awp_sr5 | apply awp_r5 | apply awp_sd | apply awp_d | apply inlR_n5 | apply inlR_r5); (· (first | exact Ctx.fn_ok hS | exact Ctx.rd_ok hS | assumption | exact True.intro)); iterate 2 (· (simp only [go_sem, seval, he1255, hr1261, hr1267, he1269, he1271, hq1462, he1464, hr1466, he1468, hx1505, hq1505, he1509, hr1513, he1517, hr1521] <;> eq_refl)))
 | with_reducible (first | apply awp_scp | apply awp_sn | apply awp_nop | apply awp_ret | apply awp_exit | apply awp_block | apply awp_seq | apply seqK_n | apply seqK_r | apply seqK_x | apply blkK_n | apply blkK_r | apply blkK_x)
 | (with_reducible apply blkK_y; (· first | rfl | decide))
 | (with_reducible apply cutK_o; (· simp))
 | with_reducible (first | apply backK_x | apply backK_r | apply asgK_n | apply rngK_x | apply rngK_r | apply True.intro | apply And.intro True.intro True.intro)
 | (fail_if_success with_reducible apply K_id); (fail_if_success with_reducible apply awp_id); first | omega | (simp only [go_sem, seval, he1255, hr1261, hr1267, he1269, he1271, hq1462, he1464, hr1466, he1468, hx1505, hq1505, he1509, hr1513, he1517, hr1521]; done) | with_reducible assumption | (refine And.intro ?_ ?_) | (intro hg; simp_all; done) | grind)
                  first | refine endK_r (by simp only [go_sem, seval, he1255, hr1261, hr1267, he1269, he1271, hq1462, he1464, hr1466, he1468, hx1505, hq1505, he1509, hr1513, he1517, hr1521] <;> eq_refl) (by simp only [go_sem, seval, he1255, hr1261, hr1267, he1269, he1271, hq1462, he1464, hr1466, he1468, hx1505, hq1505, he1509, hr1513, he1517, hr1521]) (by simp only [go_sem, seval, he1255, hr1261, hr1267, he1269, he1271, hq1462, he1464, hr1466, he1468, hx1505, hq1505, he1509, hr1513, he1517, hr1521]) ?_ rfl | refine endK_n (by simp only [go_sem, seval, he1255, hr1261, hr1267, he1269, he1271, hq1462, he1464, hr1466, he1468, hx1505, hq1505, he1509, hr1513, he1517, hr1521] <;> eq_refl) (by simp only [go_sem, seval, he1255, hr1261, hr1267, he1269, he1271, hq1462, he1464, hr1466, he1468, hx1505, hq1505, he1509, hr1513, he1517, hr1521]) (by simp only [go_sem, seval, he1255, hr1261, hr1267, he1269, he1271, hq1462, he1464, hr1466, he1468, hx1505, hq1505, he1509, hr1513, he1517, hr1521]) ?_ rfl
                  first | (simp only [go_sem, seval, he1255, hr1261, hr1267, he1269, he1271, hq1462, he1464, hr1466, he1468, hx1505, hq1505, he1509, hr1513, he1517, hr1521]; done) | (simp only [go_sem, seval, he1255, hr1261, hr1267, he1269, he1271, hq1462, he1464, hr1466, he1468, hx1505, hq1505, he1509, hr1513, he1517, hr1521, List.map_append, List.map_cons, List.map_nil, List.map_set, List.map_take, List.map_drop]; done) | (simp [he1255, hr1261, hr1267, he1269, he1271, hq1462, he1464, hr1466, he1468, hx1505, hq1505, he1509, hr1513, he1517, hr1521]; done)
                · rw [hc27, cond_false] at hB23
                  try simp only [gd_some, Option.bind_eq_some_iff] at hB23
                  obtain ⟨hv28, ⟨⟨x1523, x1524⟩, x1525, x1526, x1527⟩, hn1527, hB23⟩ := hB23
                  simp only [I64] at hv28
                  have hq1527 : ∀ d, rowAt [[.i g1255.d, .sl 3 false (g1255.R.map row3) [.i 0, .i 0, .i 0], .i g1255.tol, .i g1255.rate, .sl 2 false (g1255.S.map row2) [.i 0, .i 0]], [.i r1257, .sl 3 false (r1258.map row3) [.i 0, .i 0, .i 0], .i r1259, .i r1260, .sl 2 false (r1261.map row2) [.i 0, .i 0]], [.i r1263, .sl 3 false (r1264.map row3) [.i 0, .i 0, .i 0], .i r1265, .i r1266, .sl 2 false (r1267.map row2) [.i 0, .i 0]], [.i raw1246, .sl 3 false ((raw1247.take ((min (raw1247.length : Int) 13).toNat - 0)).map row3) [.i 0, .i 0, .i 0], .i raw1248, .i raw1249, .sl 2 false ((raw1250.take ((min (raw1250.length : Int) 25).toNat - 0)).map row2) [.i 0, .i 0]]] d (3 - i1457).toNat = [.i x1523, .sl 3 false (x1524.map row3) [.i 0, .i 0, .i 0], .i x1525, .i x1526, .sl 2 false (x1527.map row2) [.i 0, .i 0]] := rq_qqiSiiipiiSiip hn1527
                  have hb1527 := (nth_some hn1527).1
                  try simp only [List.length_cons, List.length_nil] at hb1527
                  try simp only [gd_some, Option.bind_eq_some_iff] at hB23
                  obtain ⟨hv29, hv30, ⟨r1529, r1530, r1531⟩, hr1531, hB23⟩ := hB23
                  have he1531 := Option.some.inj hr1531
                  try simp only [gd_some, Option.bind_eq_some_iff] at hB23
                  obtain ⟨hv31, ⟨r1533, r1534, r1535⟩, hr1535, hB23⟩ := hB23
                  simp only [I64] at hv31
                  repeat' (first
 | (with_reducible (first | apply awp_sr5 | apply awp_r5 | apply awp_sd | apply awp_d | apply inlR_n5 | apply inlR_r5); (· (first | exact Ctx.fn_ok hS | exact Ctx.rd_ok hS | assumption | exact True.intro)); iterate 2 (· (simp only [go_sem, seval, he1255, hr1261, hr1267, he1269, he1271, hq1462, he1464, hr1466, he1468, hx1505, hq1505, he1509, hr1513, he1517, hr1521, hq1527, he1531, hr1535] <;> eq_refl)))
 | with_reducible (first | apply awp_scp | apply awp_sn | apply awp_nop | apply awp_ret | apply awp_exit | apply awp_block | apply awp_seq | apply seqK_n | apply seqK_r | apply seqK_x | apply blkK_n | apply blkK_r | apply blkK_x)
 | (with_reducible apply blkK_y; (· first | rfl | decide))
 | (with_reducible apply cutK_o; (· simp))
 | with_reducible (first | apply backK_x | apply backK_r | apply asgK_n | apply rngK_x | apply rngK_r | apply True.intro | apply And.intro True.intro True.intro)
 | (fail_if_success with_reducible apply K_id); (fail_if_success with_reducible apply awp_id); first | omega | (simp only [go_sem, seval, he1255, hr1261, hr1267, he1269, he1271, hq1462, he1464, hr1466, he1468, hx1505, hq1505, he1509, hr1513, he1517, hr1521, hq1527, he1531, hr1535]; done) | with_reducible assumption | (refine And.intro ?_ ?_) | (intro hg; simp_all; done) | grind)
                  refine awp_cb (B' := ((decide (r1529 ≠ r1533)) || (decide (r1530 ≠ r1534))) || (decide (r1531 ≠ r1535))) (by simp only [go_sem, seval, he1255, hr1261, hr1267, he1269, he1271, hq1462, he1464, hr1466, he1468, hx1505, hq1505, he1509, hr1513, he1517, hr1521, hq1527, he1531, hr1535] <;> eq_refl) (by first | rfl | (simp; done) | grind) (fun hc32 => ?_) (fun hc32 => ?_)
                  · rw [hc32, cond_true] at hB23
                    obtain rfl := Option.some.inj hB23
                    try simp only at hB17
                    obtain rfl := Option.some.inj hB17
                    try simp only at h
                    obtain rfl := Option.some.inj h
                    repeat' (first
 | (with_reducible (first | apply awp_sr5 | apply awp_r5 | apply awp_sd | apply awp_d | apply inlR_n5 | apply inlR_r5); (· (first | exact Ctx.fn_ok hS | exact Ctx.rd_ok hS | assumption | exact True.intro)); iterate 2 (· (simp only [go_sem, seval, he1255, hr1261, hr1267, he1269, he1271, hq1462, he1464, hr1466, he1468, hx1505, hq1505, he1509, hr1513, he1517, hr1521, hq1527, he1531, hr1535] <;> eq_refl)))
 | with_reducible (first | apply awp_scp | apply awp_sn | apply awp_nop | apply awp_ret | apply awp_exit | apply awp_block | apply awp_seq | apply seqK_n | apply seqK_r | apply seqK_x | apply blkK_n | apply blkK_r | apply blkK_x)
 | (with_reducible apply blkK_y; (· first | rfl | decide))
 | (with_reducible apply cutK_o; (· simp))
 | with_reducible (first | apply backK_x | apply backK_r | apply asgK_n | apply rngK_x | apply rngK_r | apply True.intro | apply And.intro True.intro True.intro)
 | (fail_if_success with_reducible apply K_id); (fail_if_success with_reducible apply awp_id); first | omega | (simp only [go_sem, seval, he1255, hr1261, hr1267, he1269, he1271, hq1462, he1464, hr1466, he1468, hx1505, hq1505, he1509, hr1513, he1517, hr1521, hq1527, he1531, hr1535]; done) | with_reducible assumption | (refine And.intro ?_ ?_) | (intro hg; simp_all; done) | grind)
                    first | refine endK_r (by simp only [go_sem, seval, he1255, hr1261, hr1267, he1269, he1271, hq1462, he1464, hr1466, he1468, hx1505, hq1505, he1509, hr1513, he1517, hr1521, hq1527, he1531, hr1535] <;> eq_refl) (by simp only [go_sem, seval, he1255, hr1261, hr1267, he1269, he1271, hq1462, he1464, hr1466, he1468, hx1505, hq1505, he1509, hr1513, he1517, hr1521, hq1527, he1531, hr1535]) (by simp only [go_sem, seval, he1255, hr1261, hr1267, he1269, he1271, hq1462, he1464, hr1466, he1468, hx1505, hq1505, he1509, hr1513, he1517, hr1521, hq1527, he1531, hr1535]) ?_ rfl | refine endK_n (by simp only [go_sem, seval, he1255, hr1261, hr1267, he1269, he1271, hq1462, he1464, hr1466, he1468, hx1505, hq1505, he1509, hr1513, he1517, hr1521, hq1527, he1531, hr1535] <;> eq_refl) (by simp only [go_sem, seval, he1255, hr1261, hr1267, he1269, he1271, hq1462, he1464, hr1466, he1468, hx1505, hq1505, he1509, hr1513, he1517, hr1521, hq1527, he1531, hr1535]) (by simp only [go_sem, seval, he1255, hr1261, hr1267, he1269, he1271, hq1462, he1464, hr1466, he1468, hx1505, hq1505, he1509, hr1513, he1517, hr1521, hq1527, he1531, hr1535]) ?_ rfl
                    first | (simp only [go_sem, seval, he1255, hr1261, hr1267, he1269, he1271, hq1462, he1464, hr1466, he1468, hx1505, hq1505, he1509, hr1513, he1517, hr1521, hq1527, he1531, hr1535]; done) | (simp only [go_sem, seval, he1255, hr1261, hr1267, he1269, he1271, hq1462, he1464, hr1466, he1468, hx1505, hq1505, he1509, hr1513, he1517, hr1521, hq1527, he1531, hr1535, List.map_append, List.map_cons, List.map_nil, List.map_set, List.map_take, List.map_drop]; done) | (simp [he1255, hr1261, hr1267, he1269, he1271, hq1462, he1464, hr1466, he1468, hx1505, hq1505, he1509, hr1513, he1517, hr1521, hq1527, he1531, hr1535]; done)
                  · rw [hc32, cond_false] at hB23
                    try simp only [gd_some, Option.bind_eq_some_iff] at hB23
                    obtain ⟨hv33, hB23⟩ := hB23
                    simp only [I64] at hv33
                    repeat' (first
 | (with_reducible (first | apply awp_sr5 | apply awp_r5 | apply awp_sd | apply awp_d | apply inlR_n5 | apply inlR_r5); (· (first | exact Ctx.fn_ok hS | exact Ctx.rd_ok hS | assumption | exact True.intro)); iterate 2 (· (simp only [go_sem, seval, he1255, hr1261, hr1267, he1269, he1271, hq1462, he1464, hr1466, he1468, hx1505, hq1505, he1509, hr1513, he1517, hr1521, hq1527, he1531, hr1535] <;> eq_refl)))
 | with_reducible (first | apply awp_scp | apply awp_sn | apply awp_nop | apply awp_ret | apply awp_exit | apply awp_block | apply awp_seq | apply seqK_n | apply seqK_r | apply seqK_x | apply blkK_n | apply blkK_r | apply blkK_x)
 | (with_reducible apply blkK_y; (· first | rfl | decide))
 | (with_reducible apply cutK_o; (· simp))
 | with_reducible (first | apply backK_x | apply backK_r | apply asgK_n | apply rngK_x | apply rngK_r | apply True.intro | apply And.intro True.intro True.intro)
 | (fail_if_success with_reducible apply K_id); (fail_if_success with_reducible apply awp_id); first | omega | (simp only [go_sem, seval, he1255, hr1261, hr1267, he1269, he1271, hq1462, he1464, hr1466, he1468, hx1505, hq1505, he1509, hr1513, he1517, hr1521, hq1527, he1531, hr1535]; done) | with_reducible assumption | (refine And.intro ?_ ?_) | (intro hg; simp_all; done) | grind)
                    refine backK_n (n, x1504 + 1, c1503 + 1 + 1 + 1 + 1 + 1 + 1 + 1 + 1 + 1 + 1 + 1) hB23 (Nat.lt_succ_self _) ?_
                    refine Le.of ?_ ?_ (by first | exact Nat.le_refl _ | (simp; omega) | simp) <;> first | (simp only [go_sem, seval, he1255, hr1261, hr1267, he1269, he1271, hq1462, he1464, hr1466, he1468, hx1505, hq1505, he1509, hr1513, he1517, hr1521, hq1527, he1531, hr1535]; done) | (simp only [go_sem, seval, he1255, hr1261, hr1267, he1269, he1271, hq1462, he1464, hr1466, he1468, hx1505, hq1505, he1509, hr1513, he1517, hr1521, hq1527, he1531, hr1535, List.map_append, List.map_cons, List.map_nil, List.map_set, List.map_take, List.map_drop]; done) | (simp [he1255, hr1261, hr1267, he1269, he1271, hq1462, he1464, hr1466, he1468, hx1505, hq1505, he1509, hr1513, he1517, hr1521, hq1527, he1531, hr1535, List.map_append, List.map_set]; done)
              · rw [hc24, cond_false] at hB23
                repeat' (first
 | (with_reducible (first | apply awp_sr5 | apply awp_r5 | apply awp_sd | apply awp_d | apply inlR_n5 | apply inlR_r5); (· (first | exact Ctx.fn_ok hS | exact Ctx.rd_ok hS | assumption | exact True.intro)); iterate 2 (· (simp only [go_sem, seval, he1255, hr1261, hr1267, he1269, he1271, hq1462, he1464, hr1466, he1468] <;> eq_refl)))
 | with_reducible (first | apply awp_scp | apply awp_sn | apply awp_nop | apply awp_ret | apply awp_exit | apply awp_block | apply awp_seq | apply seqK_n | apply seqK_r | apply seqK_x | apply blkK_n | apply blkK_r | apply blkK_x)
 | (with_reducible apply blkK_y; (· first | rfl | decide))
 | (with_reducible apply cutK_o; (· simp))
 | with_reducible (first | apply backK_x | apply backK_r | apply asgK_n | apply rngK_x | apply rngK_r | apply True.intro | apply And.intro True.intro True.intro)
 | (fail_if_success with_reducible apply K_id); (fail_if_success with_reducible apply awp_id); first | omega | (simp only [go_sem, seval, he1255, hr1261, hr1267, he1269, he1271, hq1462, he1464, hr1466, he1468]; done) | with_reducible assumption | (refine And.intro ?_ ?_) | (intro hg; simp_all; done) | grind)
                refine cutK_h (c1503 + 1) (Option.some.inj hB23) ?_
                refine Le.of ?_ ?_ (by first | exact Nat.le_refl _ | (simp; omega) | simp) <;> first | (simp only [go_sem, seval, he1255, hr1261, hr1267, he1269, he1271, hq1462, he1464, hr1466, he1468]; done) | (simp only [go_sem, seval, he1255, hr1261, hr1267, he1269, he1271, hq1462, he1464, hr1466, he1468, List.map_append, List.map_cons, List.map_nil, List.map_set, List.map_take, List.map_drop]; done) | (simp [he1255, hr1261, hr1267, he1269, he1271, hq1462, he1464, hr1466, he1468, List.map_append, List.map_set]; done)
          · rintro c1539 hz34
            subst hz34
            try simp only at hB17
            try simp only [gd_some, Option.bind_eq_some_iff] at hB17
            obtain ⟨o1639, hL35, hB17⟩ := hB17
            repeat' (first
 | (with_reducible (first | apply awp_sr5 | apply awp_r5 | apply awp_sd | apply awp_d | apply inlR_n5 | apply inlR_r5); (· (first | exact Ctx.fn_ok hS | exact Ctx.rd_ok hS | assumption | exact True.intro)); iterate 2 (· (simp only [go_sem, seval, he1255, hr1261, hr1267, he1269, he1271, hq1462, he1464, hr1466, he1468] <;> eq_refl)))
 | with_reducible (first | apply awp_scp | apply awp_sn | apply awp_nop | apply awp_ret | apply awp_exit | apply awp_block | apply awp_seq | apply seqK_n | apply seqK_r | apply seqK_x | apply blkK_n | apply blkK_r | apply blkK_x)
 | (with_reducible apply blkK_y; (· first | rfl | decide))
 | (with_reducible apply cutK_o; (· simp))
 | with_reducible (first | apply backK_x | apply backK_r | apply asgK_n | apply rngK_x | apply rngK_r | apply True.intro | apply And.intro True.intro True.intro)
 | (fail_if_success with_reducible apply K_id); (fail_if_success with_reducible apply awp_id); first | omega | (simp only [go_sem, seval, he1255, hr1261, hr1267, he1269, he1271, hq1462, he1464, hr1466, he1468]; done) | with_reducible assumption | (refine And.intro ?_ ?_) | (intro hg; simp_all; done) | grind)
            refine awp_cut (fun z : Nat => ⟨[(4, .i t1251), (5, .i limit1252), (13, .box (4, 1) 0), (15, .b true), (18, .own (811, 8) [((g1255.d, g1255.R), g1255.tol, g1255.rate, g1255.S), ((r1257, r1258), r1259, r1260, r1261), ((r1263, r1264), r1265, r1266, r1267), ((raw1246, raw1247.take ((min (raw1247.length : Int) 13).toNat - 0)), raw1248, raw1249, raw1250.take ((min (raw1250.length : Int) 25).toNat - 0))].length), (19, .box (904, 9) 0), (20, .i i1457)], [(.c (904, 9) 0, .i r1269), (.c (904, 9) 1, .i ((r1269 + 1) + r1271)), (.a (811, 8), .sl 5 true ([((g1255.d, g1255.R), g1255.tol, g1255.rate, g1255.S), ((r1257, r1258), r1259, r1260, r1261), ((r1263, r1264), r1265, r1266, r1267), ((raw1246, raw1247.take ((min (raw1247.length : Int) 13).toNat - 0)), raw1248, raw1249, raw1250.take ((min (raw1250.length : Int) 25).toNat - 0))].map e_qqiSiiipiiSiip) [.i 0, .sl 0 true [] [], .i 0, .i 0, .sl 0 true [] []]), (.c (4, 1) 0, .i s1253), (.c (4, 1) 1, .i s1254)], z⟩) (fun z => (.inl () : Sum Unit Bool) = o1639) (.x 4) ?_ ?_
            · refine awp_loop (fun y : Nat × Int × Nat => ⟨[(4, .i t1251), (5, .i limit1252), (13, .box (4, 1) 0), (15, .b true), (18, .own (811, 8) [((g1255.d, g1255.R), g1255.tol, g1255.rate, g1255.S), ((r1257, r1258), r1259, r1260, r1261), ((r1263, r1264), r1265, r1266, r1267), ((raw1246, raw1247.take ((min (raw1247.length : Int) 13).toNat - 0)), raw1248, raw1249, raw1250.take ((min (raw1250.length : Int) 25).toNat - 0))].length), (19, .box (904, 9) 0), (20, .i i1457), (21, .box (1404, c1456 + 1 + 1) 0), (218, .own (3102, c1539 + 1) [(s1253, s1254), (r1269, (r1269 + 1) + r1271)].length), (219, .i 2), (220, .i y.2.1)], [(.a (3102, c1539 + 1), .sl 2 true ([(s1253, s1254), (r1269, (r1269 + 1) + r1271)].map row2) [.i 0, .i 0]), (.c (1404, c1456 + 1 + 1) 0, .i x1458), (.c (1404, c1456 + 1 + 1) 1, .sl 3 false (x1459.map row3) [.i 0, .i 0, .i 0]), (.c (1404, c1456 + 1 + 1) 2, .i x1460), (.c (1404, c1456 + 1 + 1) 3, .i x1461), (.c (1404, c1456 + 1 + 1) 4, .sl 2 false (x1462.map row2) [.i 0, .i 0]), (.c (904, 9) 0, .i r1269), (.c (904, 9) 1, .i ((r1269 + 1) + r1271)), (.a (811, 8), .sl 5 true ([((g1255.d, g1255.R), g1255.tol, g1255.rate, g1255.S), ((r1257, r1258), r1259, r1260, r1261), ((r1263, r1264), r1265, r1266, r1267), ((raw1246, raw1247.take ((min (raw1247.length : Int) 13).toNat - 0)), raw1248, raw1249, raw1250.take ((min (raw1250.length : Int) 25).toNat - 0))].map e_qqiSiiipiiSiip) [.i 0, .sl 0 true [] [], .i 0, .i 0, .sl 0 true [] []]), (.c (4, 1) 0, .i s1253), (.c (4, 1) 1, .i s1254)], y.2.2⟩) (fun y => D_putloglaw24_MonitorMatchesReference_L7 N s1253 s1254 r1269 r1271 limit1252 x1462 x1458 x1459 x1460 x1461 y.1 y.2.1 = some o1639) (fun y => y.1) (N, 0, c1539 + 1) hL35 ?_ ?_
              · refine Le.of ?_ ?_ (by first | exact Nat.le_refl _ | (simp; omega) | simp) <;> first | (simp only [go_sem, seval, he1255, hr1261, hr1267, he1269, he1271, hq1462, he1464, hr1466, he1468]; done) | (simp only [go_sem, seval, he1255, hr1261, hr1267, he1269, he1271, hq1462, he1464, hr1466, he1468, List.map_append, List.map_cons, List.map_nil, List.map_set, List.map_take, List.map_drop]; done) | (simp [he1255, hr1261, hr1267, he1269, he1271, hq1462, he1464, hr1466, he1468, List.map_append, List.map_set]; done)
              · rintro ⟨n, x1589, c1588⟩ hB36
                try simp only at hB36
                obtain _ | n := n
                · exact absurd hB36 (by simp [D_putloglaw24_MonitorMatchesReference_L7])
                rw [D_putloglaw24_MonitorMatchesReference_L7] at hB36
                repeat' (first
 | (with_reducible (first | apply awp_sr5 | apply awp_r5 | apply awp_sd | apply awp_d | apply inlR_n5 | apply inlR_r5); (· (first | exact Ctx.fn_ok hS | exact Ctx.rd_ok hS | assumption | exact True.intro)); iterate 2 (· (simp only [go_sem, seval, he1255, hr1261, hr1267, he1269, he1271, hq1462, he1464, hr1466, he1468] <;> eq_refl)))
 | with_reducible (first | apply awp_scp | apply awp_sn | apply awp_nop | apply awp_ret | apply awp_exit | apply awp_block | apply awp_seq | apply seqK_n | apply seqK_r | apply seqK_x | apply blkK_n | apply blkK_r | apply blkK_x)
 | (with_reducible apply blkK_y; (· first | rfl | decide))
 | (with_reducible apply cutK_o; (· simp))
 | with_reducible (first | apply backK_x | apply backK_r | apply asgK_n | apply rngK_x | apply rngK_r | apply True.intro | apply And.intro True.intro True.intro)
 | (fail_if_success with_reducible apply K_id); (fail_if_success with_reducible apply awp_id); first | omega | (simp only [go_sem, seval, he1255, hr1261, hr1267, he1269, he1271, hq1462, he1464, hr1466, he1468]; done) | with_reducible assumption | (refine And.intro ?_ ?_) | (intro hg; simp_all; done) | grind)
                refine awp_cb (B' := decide (x1589 < 2)) (by simp only [go_sem, seval, he1255, hr1261, hr1267, he1269, he1271, hq1462, he1464, hr1466, he1468] <;> eq_refl) (by first | rfl | (simp; done) | grind) (fun hc37 => ?_) (fun hc37 => ?_)
                · rw [hc37, cond_true] at hB36
                  try simp only [gd_some, Option.bind_eq_some_iff] at hB36
                  obtain ⟨⟨x1590, x1591⟩, hn1591, hB36⟩ := hB36
                  have hx1591 : [(s1253, s1254), (r1269, (r1269 + 1) + r1271)].getD x1589.toNat (0, 0) = (x1590, x1591) := ixs hn1591 _
                  have hq1591 : rowAt [[.i s1253, .i s1254], [.i r1269, .i ((r1269 + 1) + r1271)]] [.i 0, .i 0] x1589.toNat = [.i x1590, .i x1591] := by have hq := rb_row2 [(s1253, s1254), (r1269, (r1269 + 1) + r1271)] x1589.toNat; rw [hx1591] at hq; exact hq
                  have hb1591 := (nth_some hn1591).1
                  try simp only [List.length_cons, List.length_nil] at hb1591
                  try simp only [gd_some, Option.bind_eq_some_iff] at hB36
                  obtain ⟨hv38, r1593, hr1593, hv39, hB36⟩ := hB36
                  have he1593 := Option.some.inj hr1593
                  simp only [I64] at hv39
                  try simp only [gd_some, Option.bind_eq_some_iff] at hB36
                  obtain ⟨o1634, hL40, hB36⟩ := hB36
                  repeat' (first
 | (with_reducible (first | apply awp_sr5 | apply awp_r5 | apply awp_sd | apply awp_d | apply inlR_n5 | apply inlR_r5); (· (first | exact Ctx.fn_ok hS | exact Ctx.rd_ok hS | assumption | exact True.intro)); iterate 2 (· (simp only [go_sem, seval, he1255, hr1261, hr1267, he1269, he1271, hq1462, he1464, hr1466, he1468, hx1591, hq1591, he1593] <;> eq_refl)))
 | with_reducible (first | apply awp_scp | apply awp_sn | apply awp_nop | apply awp_ret | apply awp_exit | apply awp_block | apply awp_seq | apply seqK_n | apply seqK_r | apply seqK_x | apply blkK_n | apply blkK_r | apply blkK_x)
 | (with_reducible apply blkK_y; (· first | rfl | decide))
 | (with_reducible apply cutK_o; (· simp))
 | with_reducible (first | apply backK_x | apply backK_r | apply asgK_n | apply rngK_x | apply rngK_r | apply True.intro | apply And.intro True.intro True.intro)
 | (fail_if_success with_reducible apply K_id); (fail_if_success with_reducible apply awp_id); first | omega | (simp only [go_sem, seval, he1255, hr1261, hr1267, he1269, he1271, hq1462, he1464, hr1466, he1468, hx1591, hq1591, he1593]; done) | with_reducible assumption | (refine And.intro ?_ ?_) | (intro hg; simp_all; done) | grind)
                  refine awp_cut (fun z : Nat => ⟨[(4, .i t1251), (5, .i limit1252), (13, .box (4, 1) 0), (15, .b true), (18, .own (811, 8) [((g1255.d, g1255.R), g1255.tol, g1255.rate, g1255.S), ((r1257, r1258), r1259, r1260, r1261), ((r1263, r1264), r1265, r1266, r1267), ((raw1246, raw1247.take ((min (raw1247.length : Int) 13).toNat - 0)), raw1248, raw1249, raw1250.take ((min (raw1250.length : Int) 25).toNat - 0))].length), (19, .box (904, 9) 0), (20, .i i1457), (21, .box (1404, c1456 + 1 + 1) 0), (218, .own (3102, c1539 + 1) [(s1253, s1254), (r1269, (r1269 + 1) + r1271)].length), (219, .i 2), (220, .i x1589)], [(.a (3102, c1539 + 1), .sl 2 true ([(s1253, s1254), (r1269, (r1269 + 1) + r1271)].map row2) [.i 0, .i 0]), (.c (1404, c1456 + 1 + 1) 0, .i x1458), (.c (1404, c1456 + 1 + 1) 1, .sl 3 false (x1459.map row3) [.i 0, .i 0, .i 0]), (.c (1404, c1456 + 1 + 1) 2, .i x1460), (.c (1404, c1456 + 1 + 1) 3, .i x1461), (.c (1404, c1456 + 1 + 1) 4, .sl 2 false (x1462.map row2) [.i 0, .i 0]), (.c (904, 9) 0, .i r1269), (.c (904, 9) 1, .i ((r1269 + 1) + r1271)), (.a (811, 8), .sl 5 true ([((g1255.d, g1255.R), g1255.tol, g1255.rate, g1255.S), ((r1257, r1258), r1259, r1260, r1261), ((r1263, r1264), r1265, r1266, r1267), ((raw1246, raw1247.take ((min (raw1247.length : Int) 13).toNat - 0)), raw1248, raw1249, raw1250.take ((min (raw1250.length : Int) 25).toNat - 0))].map e_qqiSiiipiiSiip) [.i 0, .sl 0 true [] [], .i 0, .i 0, .sl 0 true [] []]), (.c (4, 1) 0, .i s1253), (.c (4, 1) 1, .i s1254)], z⟩) (fun z => (.inl () : Sum Unit Bool) = o1634) (.x 6) ?_ ?_
                  · refine awp_loop (fun y : Nat × Int × Nat => ⟨[(4, .i t1251), (5, .i limit1252), (13, .box (4, 1) 0), (15, .b true), (18, .own (811, 8) [((g1255.d, g1255.R), g1255.tol, g1255.rate, g1255.S), ((r1257, r1258), r1259, r1260, r1261), ((r1263, r1264), r1265, r1266, r1267), ((raw1246, raw1247.take ((min (raw1247.length : Int) 13).toNat - 0)), raw1248, raw1249, raw1250.take ((min (raw1250.length : Int) 25).toNat - 0))].length), (19, .box (904, 9) 0), (20, .i i1457), (21, .box (1404, c1456 + 1 + 1) 0), (37, .box (3302, c1588 + 1 + 1) 0), (218, .own (3102, c1539 + 1) [(s1253, s1254), (r1269, (r1269 + 1) + r1271)].length), (219, .i 2), (220, .i x1589), (228, .own (3404, c1588 + 1 + 1 + 1) [limit1252, r1593 - 1500].length), (229, .i 2), (230, .i y.2.1)], [(.a (3404, c1588 + 1 + 1 + 1), .sl 1 true ([limit1252, r1593 - 1500].map row1) [.i 0]), (.a (3102, c1539 + 1), .sl 2 true ([(s1253, s1254), (r1269, (r1269 + 1) + r1271)].map row2) [.i 0, .i 0]), (.c (3302, c1588 + 1 + 1) 0, .i x1590), (.c (3302, c1588 + 1 + 1) 1, .i x1591), (.c (1404, c1456 + 1 + 1) 0, .i x1458), (.c (1404, c1456 + 1 + 1) 1, .sl 3 false (x1459.map row3) [.i 0, .i 0, .i 0]), (.c (1404, c1456 + 1 + 1) 2, .i x1460), (.c (1404, c1456 + 1 + 1) 3, .i x1461), (.c (1404, c1456 + 1 + 1) 4, .sl 2 false (x1462.map row2) [.i 0, .i 0]), (.c (904, 9) 0, .i r1269), (.c (904, 9) 1, .i ((r1269 + 1) + r1271)), (.a (811, 8), .sl 5 true ([((g1255.d, g1255.R), g1255.tol, g1255.rate, g1255.S), ((r1257, r1258), r1259, r1260, r1261), ((r1263, r1264), r1265, r1266, r1267), ((raw1246, raw1247.take ((min (raw1247.length : Int) 13).toNat - 0)), raw1248, raw1249, raw1250.take ((min (raw1250.length : Int) 25).toNat - 0))].map e_qqiSiiipiiSiip) [.i 0, .sl 0 true [] [], .i 0, .i 0, .sl 0 true [] []]), (.c (4, 1) 0, .i s1253), (.c (4, 1) 1, .i s1254)], y.2.2⟩) (fun y => D_putloglaw24_MonitorMatchesReference_L9 N limit1252 r1593 x1462 x1590 x1591 x1458 x1459 x1460 x1461 y.1 y.2.1 = some o1634) (fun y => y.1) (N, 0, c1588 + 1 + 1 + 1) hL40 ?_ ?_
                    · refine Le.of ?_ ?_ (by first | exact Nat.le_refl _ | (simp; omega) | simp) <;> first | (simp only [go_sem, seval, he1255, hr1261, hr1267, he1269, he1271, hq1462, he1464, hr1466, he1468, hx1591, hq1591, he1593]; done) | (simp only [go_sem, seval, he1255, hr1261, hr1267, he1269, he1271, hq1462, he1464, hr1466, he1468, hx1591, hq1591, he1593, List.map_append, List.map_cons, List.map_nil, List.map_set, List.map_take, List.map_drop]; done) | (simp [he1255, hr1261, hr1267, he1269, he1271, hq1462, he1464, hr1466, he1468, hx1591, hq1591, he1593, List.map_append, List.map_set]; done)
                    · rintro ⟨n, x1613, c1612⟩ hB41
                      try simp only at hB41
                      obtain _ | n := n
                      · exact absurd hB41 (by simp [D_putloglaw24_MonitorMatchesReference_L9])
                      rw [D_putloglaw24_MonitorMatchesReference_L9] at hB41
                      repeat' (first
 | (with_reducible (first | apply awp_sr5 | apply awp_r5 | apply awp_sd | apply awp_d | apply inlR_n5 | apply inlR_r5); (· (first | exact Ctx.fn_ok hS | exact Ctx.rd_ok hS | assumption | exact True.intro)); iterate 2 (· (simp only [go_sem, seval, he1255, hr1261, hr1267, he1269, he1271, hq1462, he1464, hr1466, he1468, hx1591, hq1591, he1593] <;> eq_refl)))
 | with_reducible (first | apply awp_scp | apply awp_sn | apply awp_nop | apply awp_ret | apply awp_exit | apply awp_block | apply awp_seq | apply seqK_n | apply seqK_r | apply seqK_x | apply blkK_n | apply blkK_r | apply blkK_x)
 | (with_reducible apply blkK_y; (· first | rfl | decide))
 | (with_reducible apply cutK_o; (· simp))
 | with_reducible (first | apply backK_x | apply backK_r | apply asgK_n | apply rngK_x | apply rngK_r | apply True.intro | apply And.intro True.intro True.intro)
 | (fail_if_success with_reducible apply K_id); (fail_if_success with_reducible apply awp_id); first | omega | (simp only [go_sem, seval, he1255, hr1261, hr1267, he1269, he1271, hq1462, he1464, hr1466, he1468, hx1591, hq1591, he1593]; done) | with_reducible assumption | (refine And.intro ?_ ?_) | (intro hg; simp_all; done) | grind)
                      refine awp_cb (B' := decide (x1613 < 2)) (by simp only [go_sem, seval, he1255, hr1261, hr1267, he1269, he1271, hq1462, he1464, hr1466, he1468, hx1591, hq1591, he1593] <;> eq_refl) (by first | rfl | (simp; done) | grind) (fun hc42 => ?_) (fun hc42 => ?_)
                      · rw [hc42, cond_true] at hB41
                        try simp only [gd_some, Option.bind_eq_some_iff] at hB41
                        obtain ⟨x1614, hn1614, hv43, hv44, hv45, ⟨r1616, r1617⟩, hr1617, hB41⟩ := hB41
                        have hx1614 : [limit1252, r1593 - 1500].getD x1613.toNat 0 = x1614 := ixs hn1614 _
                        have hq1614 : rowAt [[.i limit1252], [.i (r1593 - 1500)]] [.i 0] x1613.toNat = [.i x1614] := by have hq := rb_row1 [limit1252, r1593 - 1500] x1613.toNat; rw [hx1614] at hq; exact hq
                        have hb1614 := (nth_some hn1614).1
                        try simp only [List.length_cons, List.length_nil] at hb1614
                        have he1617 := Option.some.inj hr1617
                        try simp only [gd_some, Option.bind_eq_some_iff] at hB41
                        obtain ⟨⟨r1619, r1620⟩, hr1620, hB41⟩ := hB41
                        try simp only [gd_some, Option.bind_eq_some_iff] at hB41
                        obtain ⟨hv46, hv47, hv48, ⟨r1622, r1623, r1624⟩, hr1624, hB41⟩ := hB41
                        have he1624 := Option.some.inj hr1624
                        try simp only [gd_some, Option.bind_eq_some_iff] at hB41
                        obtain ⟨⟨r1626, r1627, r1628⟩, hr1628, hB41⟩ := hB41
                        repeat' (first
 | (with_reducible (first | apply awp_sr5 | apply awp_r5 | apply awp_sd | apply awp_d | apply inlR_n5 | apply inlR_r5); (· (first | exact Ctx.fn_ok hS | exact Ctx.rd_ok hS | assumption | exact True.intro)); iterate 2 (· (simp only [go_sem, seval, he1255, hr1261, hr1267, he1269, he1271, hq1462, he1464, hr1466, he1468, hx1591, hq1591, he1593, hx1614, hq1614, he1617, hr1620, he1624, hr1628] <;> eq_refl)))
 | with_reducible (first | apply awp_scp | apply awp_sn | apply awp_nop | apply awp_ret | apply awp_exit | apply awp_block | apply awp_seq | apply seqK_n | apply seqK_r | apply seqK_x | apply blkK_n | apply blkK_r | apply blkK_x)
 | (with_reducible apply blkK_y; (· first | rfl | decide))
 | (with_reducible apply cutK_o; (· simp))
 | with_reducible (first | apply backK_x | apply backK_r | apply asgK_n | apply rngK_x | apply rngK_r | apply True.intro | apply And.intro True.intro True.intro)
 | (fail_if_success with_reducible apply K_id); (fail_if_success with_reducible apply awp_id); first | omega | (simp only [go_sem, seval, he1255, hr1261, hr1267, he1269, he1271, hq1462, he1464, hr1466, he1468, hx1591, hq1591, he1593, hx1614, hq1614, he1617, hr1620, he1624, hr1628]; done) | with_reducible assumption | (refine And.intro ?_ ?_) | (intro hg; simp_all; done) | grind)
                        refine awp_cb (B' := ((((decide (r1616 ≠ r1619)) || (decide (r1617 ≠ r1620))) || (decide (r1622 ≠ r1626))) || (decide (r1623 ≠ r1627))) || (decide (r1624 ≠ r1628))) (by simp only [go_sem, seval, he1255, hr1261, hr1267, he1269, he1271, hq1462, he1464, hr1466, he1468, hx1591, hq1591, he1593, hx1614, hq1614, he1617, hr1620, he1624, hr1628] <;> eq_refl) (by first | rfl | (simp; done) | grind) (fun hc49 => ?_) (fun hc49 => ?_)
                        · rw [hc49, cond_true] at hB41
                          obtain rfl := Option.some.inj hB41
                          try simp only at hB36
                          obtain rfl := Option.some.inj hB36
                          try simp only at hB17
                          obtain rfl := Option.some.inj hB17
                          try simp only at h
                          obtain rfl := Option.some.inj h
                          repeat' (first
 | (with_reducible (first | apply awp_sr5 | apply awp_r5 | apply awp_sd | apply awp_d | apply inlR_n5 | apply inlR_r5); (· (first | exact Ctx.fn_ok hS | exact Ctx.rd_ok hS | assumption | exact True.intro)); iterate 2 (· (simp only [go_sem, seval, he1255, hr1261, hr1267, he1269, he1271, hq1462, he1464, hr1466, he1468, hx1591, hq1591, he1593, hx1614, hq1614, he1617, hr1620, he1624, hr1628] <;> eq_refl)))
 | with_reducible (first | apply awp_scp | apply awp_sn | apply awp_nop | apply awp_ret | apply awp_exit | apply awp_block | apply awp_seq | apply seqK_n | apply seqK_r | apply seqK_x | apply blkK_n | apply blkK_r | apply blkK_x)
 | (with_reducible apply blkK_y; (· first | rfl | decide))
 | (with_reducible apply cutK_o; (· simp))
 | with_reducible (first | apply backK_x | apply backK_r | apply asgK_n | apply rngK_x | apply rngK_r | apply True.intro | apply And.intro True.intro True.intro)
 | (fail_if_success with_reducible apply K_id); (fail_if_success with_reducible apply awp_id); first | omega | (simp only [go_sem, seval, he1255, hr1261, hr1267, he1269, he1271, hq1462, he1464, hr1466, he1468, hx1591, hq1591, he1593, hx1614, hq1614, he1617, hr1620, he1624, hr1628]; done) | with_reducible assumption | (refine And.intro ?_ ?_) | (intro hg; simp_all; done) | grind)
                          first | refine endK_r (by simp only [go_sem, seval, he1255, hr1261, hr1267, he1269, he1271, hq1462, he1464, hr1466, he1468, hx1591, hq1591, he1593, hx1614, hq1614, he1617, hr1620, he1624, hr1628] <;> eq_refl) (by simp only [go_sem, seval, he1255, hr1261, hr1267, he1269, he1271, hq1462, he1464, hr1466, he1468, hx1591, hq1591, he1593, hx1614, hq1614, he1617, hr1620, he1624, hr1628]) (by simp only [go_sem, seval, he1255, hr1261, hr1267, he1269, he1271, hq1462, he1464, hr1466, he1468, hx1591, hq1591, he1593, hx1614, hq1614, he1617, hr1620, he1624, hr1628]) ?_ rfl | refine endK_n (by simp only [go_sem, seval, he1255, hr1261, hr1267, he1269, he1271, hq1462, he1464, hr1466, he1468, hx1591, hq1591, he1593, hx1614, hq1614, he1617, hr1620, he1624, hr1628] <;> eq_refl) (by simp only [go_sem, seval, he1255, hr1261, hr1267, he1269, he1271, hq1462, he1464, hr1466, he1468, hx1591, hq1591, he1593, hx1614, hq1614, he1617, hr1620, he1624, hr1628]) (by simp only [go_sem, seval, he1255, hr1261, hr1267, he1269, he1271, hq1462, he1464, hr1466, he1468, hx1591, hq1591, he1593, hx1614, hq1614, he1617, hr1620, he1624, hr1628]) ?_ rfl
                          first | (simp only [go_sem, seval, he1255, hr1261, hr1267, he1269, he1271, hq1462, he1464, hr1466, he1468, hx1591, hq1591, he1593, hx1614, hq1614, he1617, hr1620, he1624, hr1628]; done) | (simp only [go_sem, seval, he1255, hr1261, hr1267, he1269, he1271, hq1462, he1464, hr1466, he1468, hx1591, hq1591, he1593, hx1614, hq1614, he1617, hr1620, he1624, hr1628, List.map_append, List.map_cons, List.map_nil, List.map_set, List.map_take, List.map_drop]; done) | (simp [he1255, hr1261, hr1267, he1269, he1271, hq1462, he1464, hr1466, he1468, hx1591, hq1591, he1593, hx1614, hq1614, he1617, hr1620, he1624, hr1628]; done)
                        · rw [hc49, cond_false] at hB41
                          try simp only [gd_some, Option.bind_eq_some_iff] at hB41
                          obtain ⟨hv50, hB41⟩ := hB41
                          simp only [I64] at hv50
                          repeat' (first
 | (with_reducible (first | apply awp_sr5 | apply awp_r5 | apply awp_sd | apply awp_d | apply inlR_n5 | apply inlR_r5); (· (first | exact Ctx.fn_ok hS | exact Ctx.rd_ok hS | assumption | exact True.intro)); iterate 2 (· (simp only [go_sem, seval, he1255, hr1261, hr1267, he1269, he1271, hq1462, he1464, hr1466, he1468, hx1591, hq1591, he1593, hx1614, hq1614, he1617, hr1620, he1624, hr1628] <;> eq_refl)))
 | with_reducible (first | apply awp_scp | apply awp_sn | apply awp_nop | apply awp_ret | apply awp_exit | apply awp_block | apply awp_seq | apply seqK_n | apply seqK_r | apply seqK_x | apply blkK_n | apply blkK_r | apply blkK_x)
 | (with_reducible apply blkK_y; (· first | rfl | decide))
 | (with_reducible apply cutK_o; (· simp))
 | with_reducible (first | apply backK_x | apply backK_r | apply asgK_n | apply rngK_x | apply rngK_r | apply True.intro | apply And.intro True.intro True.intro)
 | (fail_if_success with_reducible apply K_id); (fail_if_success with_reducible apply awp_id); first | omega | (simp only [go_sem, seval, he1255, hr1261, hr1267, he1269, he1271, hq1462, he1464, hr1466, he1468, hx1591, hq1591, he1593, hx1614, hq1614, he1617, hr1620, he1624, hr1628]; done) | with_reducible assumption | (refine And.intro ?_ ?_) | (intro hg; simp_all; done) | grind)
                          refine backK_n (n, x1613 + 1, c1612 + 1 + 1 + 1 + 1 + 1 + 1 + 1 + 1) hB41 (Nat.lt_succ_self _) ?_
                          refine Le.of ?_ ?_ (by first | exact Nat.le_refl _ | (simp; omega) | simp) <;> first | (simp only [go_sem, seval, he1255, hr1261, hr1267, he1269, he1271, hq1462, he1464, hr1466, he1468, hx1591, hq1591, he1593, hx1614, hq1614, he1617, hr1620, he1624, hr1628]; done) | (simp only [go_sem, seval, he1255, hr1261, hr1267, he1269, he1271, hq1462, he1464, hr1466, he1468, hx1591, hq1591, he1593, hx1614, hq1614, he1617, hr1620, he1624, hr1628, List.map_append, List.map_cons, List.map_nil, List.map_set, List.map_take, List.map_drop]; done) | (simp [he1255, hr1261, hr1267, he1269, he1271, hq1462, he1464, hr1466, he1468, hx1591, hq1591, he1593, hx1614, hq1614, he1617, hr1620, he1624, hr1628, List.map_append, List.map_set]; done)
                      · rw [hc42, cond_false] at hB41
                        repeat' (first
 | (with_reducible (first | apply awp_sr5 | apply awp_r5 | apply awp_sd | apply awp_d | apply inlR_n5 | apply inlR_r5); (· (first | exact Ctx.fn_ok hS | exact Ctx.rd_ok hS | assumption | exact True.intro)); iterate 2 (· (simp only [go_sem, seval, he1255, hr1261, hr1267, he1269, he1271, hq1462, he1464, hr1466, he1468, hx1591, hq1591, he1593] <;> eq_refl)))
 | with_reducible (first | apply awp_scp | apply awp_sn | apply awp_nop | apply awp_ret | apply awp_exit | apply awp_block | apply awp_seq | apply seqK_n | apply seqK_r | apply seqK_x | apply blkK_n | apply blkK_r | apply blkK_x)
 | (with_reducible apply blkK_y; (· first | rfl | decide))
 | (with_reducible apply cutK_o; (· simp))
 | with_reducible (first | apply backK_x | apply backK_r | apply asgK_n | apply rngK_x | apply rngK_r | apply True.intro | apply And.intro True.intro True.intro)
 | (fail_if_success with_reducible apply K_id); (fail_if_success with_reducible apply awp_id); first | omega | (simp only [go_sem, seval, he1255, hr1261, hr1267, he1269, he1271, hq1462, he1464, hr1466, he1468, hx1591, hq1591, he1593]; done) | with_reducible assumption | (refine And.intro ?_ ?_) | (intro hg; simp_all; done) | grind)
                        refine cutK_h (c1612 + 1) (Option.some.inj hB41) ?_
                        refine Le.of ?_ ?_ (by first | exact Nat.le_refl _ | (simp; omega) | simp) <;> first | (simp only [go_sem, seval, he1255, hr1261, hr1267, he1269, he1271, hq1462, he1464, hr1466, he1468, hx1591, hq1591, he1593]; done) | (simp only [go_sem, seval, he1255, hr1261, hr1267, he1269, he1271, hq1462, he1464, hr1466, he1468, hx1591, hq1591, he1593, List.map_append, List.map_cons, List.map_nil, List.map_set, List.map_take, List.map_drop]; done) | (simp [he1255, hr1261, hr1267, he1269, he1271, hq1462, he1464, hr1466, he1468, hx1591, hq1591, he1593, List.map_append, List.map_set]; done)
                  · rintro c1632 hz51
                    subst hz51
                    try simp only at hB36
                    try simp only [gd_some, Option.bind_eq_some_iff] at hB36
                    obtain ⟨hv52, hB36⟩ := hB36
                    simp only [I64] at hv52
                    repeat' (first
 | (with_reducible (first | apply awp_sr5 | apply awp_r5 | apply awp_sd | apply awp_d | apply inlR_n5 | apply inlR_r5); (· (first | exact Ctx.fn_ok hS | exact Ctx.rd_ok hS | assumption | exact True.intro)); iterate 2 (· (simp only [go_sem, seval, he1255, hr1261, hr1267, he1269, he1271, hq1462, he1464, hr1466, he1468, hx1591, hq1591, he1593] <;> eq_refl)))
 | with_reducible (first | apply awp_scp | apply awp_sn | apply awp_nop | apply awp_ret | apply awp_exit | apply awp_block | apply awp_seq | apply seqK_n | apply seqK_r | apply seqK_x | apply blkK_n | apply blkK_r | apply blkK_x)
 | (with_reducible apply blkK_y; (· first | rfl | decide))
 | (with_reducible apply cutK_o; (· simp))
 | with_reducible (first | apply backK_x | apply backK_r | apply asgK_n | apply rngK_x | apply rngK_r | apply True.intro | apply And.intro True.intro True.intro)
 | (fail_if_success with_reducible apply K_id); (fail_if_success with_reducible apply awp_id); first | omega | (simp only [go_sem, seval, he1255, hr1261, hr1267, he1269, he1271, hq1462, he1464, hr1466, he1468, hx1591, hq1591, he1593]; done) | with_reducible assumption | (refine And.intro ?_ ?_) | (intro hg; simp_all; done) | grind)
                    refine backK_n (n, x1589 + 1, c1632 + 1) hB36 (Nat.lt_succ_self _) ?_
                    refine Le.of ?_ ?_ (by first | exact Nat.le_refl _ | (simp; omega) | simp) <;> first | (simp only [go_sem, seval, he1255, hr1261, hr1267, he1269, he1271, hq1462, he1464, hr1466, he1468, hx1591, hq1591, he1593]; done) | (simp only [go_sem, seval, he1255, hr1261, hr1267, he1269, he1271, hq1462, he1464, hr1466, he1468, hx1591, hq1591, he1593, List.map_append, List.map_cons, List.map_nil, List.map_set, List.map_take, List.map_drop]; done) | (simp [he1255, hr1261, hr1267, he1269, he1271, hq1462, he1464, hr1466, he1468, hx1591, hq1591, he1593, List.map_append, List.map_set]; done)
                · rw [hc37, cond_false] at hB36
                  repeat' (first
 | (with_reducible (first | apply awp_sr5 | apply awp_r5 | apply awp_sd | apply awp_d | apply inlR_n5 | apply inlR_r5); (· (first | exact Ctx.fn_ok hS | exact Ctx.rd_ok hS | assumption | exact True.intro)); iterate 2 (· (simp only [go_sem, seval, he1255, hr1261, hr1267, he1269, he1271, hq1462, he1464, hr1466, he1468] <;> eq_refl)))
 | with_reducible (first | apply awp_scp | apply awp_sn | apply awp_nop | apply awp_ret | apply awp_exit | apply awp_block | apply awp_seq | apply seqK_n | apply seqK_r | apply seqK_x | apply blkK_n | apply blkK_r | apply blkK_x)
 | (with_reducible apply blkK_y; (· first | rfl | decide))
 | (with_reducible apply cutK_o; (· simp))
 | with_reducible (first | apply backK_x | apply backK_r | apply asgK_n | apply rngK_x | apply rngK_r | apply True.intro | apply And.intro True.intro True.intro)
 | (fail_if_success with_reducible apply K_id); (fail_if_success with_reducible apply awp_id); first | omega | (simp only [go_sem, seval, he1255, hr1261, hr1267, he1269, he1271, hq1462, he1464, hr1466, he1468]; done) | with_reducible assumption | (refine And.intro ?_ ?_) | (intro hg; simp_all; done) | grind)
                  refine cutK_h (c1588 + 1) (Option.some.inj hB36) ?_
                  refine Le.of ?_ ?_ (by first | exact Nat.le_refl _ | (simp; omega) | simp) <;> first | (simp only [go_sem, seval, he1255, hr1261, hr1267, he1269, he1271, hq1462, he1464, hr1466, he1468]; done) | (simp only [go_sem, seval, he1255, hr1261, hr1267, he1269, he1271, hq1462, he1464, hr1466, he1468, List.map_append, List.map_cons, List.map_nil, List.map_set, List.map_take, List.map_drop]; done) | (simp [he1255, hr1261, hr1267, he1269, he1271, hq1462, he1464, hr1466, he1468, List.map_append, List.map_set]; done)
            · rintro c1637 hz53
              subst hz53
              try simp only at hB17
              try simp only [gd_some, Option.bind_eq_some_iff] at hB17
              obtain ⟨hv54, hB17⟩ := hB17
              simp only [I64] at hv54
              repeat' (first
 | (with_reducible (first | apply awp_sr5 | apply awp_r5 | apply awp_sd | apply awp_d | apply inlR_n5 | apply inlR_r5); (· (first | exact Ctx.fn_ok hS | exact Ctx.rd_ok hS | assumption | exact True.intro)); iterate 2 (· (simp only [go_sem, seval, he1255, hr1261, hr1267, he1269, he1271, hq1462, he1464, hr1466, he1468] <;> eq_refl)))
 | with_reducible (first | apply awp_scp | apply awp_sn | apply awp_nop | apply awp_ret | apply awp_exit | apply awp_block | apply awp_seq | apply seqK_n | apply seqK_r | apply seqK_x | apply blkK_n | apply blkK_r | apply blkK_x)
 | (with_reducible apply blkK_y; (· first | rfl | decide))
 | (with_reducible apply cutK_o; (· simp))
 | with_reducible (first | apply backK_x | apply backK_r | apply asgK_n | apply rngK_x | apply rngK_r | apply True.intro | apply And.intro True.intro True.intro)
 | (fail_if_success with_reducible apply K_id); (fail_if_success with_reducible apply awp_id); first | omega | (simp only [go_sem, seval, he1255, hr1261, hr1267, he1269, he1271, hq1462, he1464, hr1466, he1468]; done) | with_reducible assumption | (refine And.intro ?_ ?_) | (intro hg; simp_all; done) | grind)
              refine backK_n (n, i1457 + 1, c1637 + 1) hB17 (Nat.lt_succ_self _) ?_
              refine Le.of ?_ ?_ (by first | exact Nat.le_refl _ | (simp; omega) | simp) <;> first | (simp only [go_sem, seval, he1255, hr1261, hr1267, he1269, he1271, hq1462, he1464, hr1466, he1468]; done) | (simp only [go_sem, seval, he1255, hr1261, hr1267, he1269, he1271, hq1462, he1464, hr1466, he1468, List.map_append, List.map_cons, List.map_nil, List.map_set, List.map_take, List.map_drop]; done) | (simp [he1255, hr1261, hr1267, he1269, he1271, hq1462, he1464, hr1466, he1468, List.map_append, List.map_set]; done)
      · rw [hc18, cond_false] at hB17
        repeat' (first
 | (with_reducible (first | apply awp_sr5 | apply awp_r5 | apply awp_sd | apply awp_d | apply inlR_n5 | apply inlR_r5); (· (first | exact Ctx.fn_ok hS | exact Ctx.rd_ok hS | assumption | exact True.intro)); iterate 2 (· (simp only [go_sem, seval, he1255, hr1261, hr1267, he1269, he1271] <;> eq_refl)))
 | with_reducible (first | apply awp_scp | apply awp_sn | apply awp_nop | apply awp_ret | apply awp_exit | apply awp_block | apply awp_seq | apply seqK_n | apply seqK_r | apply seqK_x | apply blkK_n | apply blkK_r | apply blkK_x)
 | (with_reducible apply blkK_y; (· first | rfl | decide))
 | (with_reducible apply cutK_o; (· simp))
 | with_reducible (first | apply backK_x | apply backK_r | apply asgK_n | apply rngK_x | apply rngK_r | apply True.intro | apply And.intro True.intro True.intro)
 | (fail_if_success with_reducible apply K_id); (fail_if_success with_reducible apply awp_id); first | omega | (simp only [go_sem, seval, he1255, hr1261, hr1267, he1269, he1271]; done) | with_reducible assumption | (refine And.intro ?_ ?_) | (intro hg; simp_all; done) | grind)
        refine cutK_h (c1456 + 1) (Option.some.inj hB17) ?_
        refine Le.of ?_ ?_ (by first | exact Nat.le_refl _ | (simp; omega) | simp) <;> first | (simp only [go_sem, seval, he1255, hr1261, hr1267, he1269, he1271]; done) | (simp only [go_sem, seval, he1255, hr1261, hr1267, he1269, he1271, List.map_append, List.map_cons, List.map_nil, List.map_set, List.map_take, List.map_drop]; done) | (simp [he1255, hr1261, hr1267, he1269, he1271, List.map_append, List.map_set]; done)
  · rintro c1642 hz55
    subst hz55
    try simp only at h
    obtain rfl := Option.some.inj h
    repeat' (first
 | (with_reducible (first | apply awp_sr5 | apply awp_r5 | apply awp_sd | apply awp_d | apply inlR_n5 | apply inlR_r5); (· (first | exact Ctx.fn_ok hS | exact Ctx.rd_ok hS | assumption | exact True.intro)); iterate 2 (· (simp only [go_sem, seval, he1255, hr1261, hr1267, he1269, he1271] <;> eq_refl)))
 | with_reducible (first | apply awp_scp | apply awp_sn | apply awp_nop | apply awp_ret | apply awp_exit | apply awp_block | apply awp_seq | apply seqK_n | apply seqK_r | apply seqK_x | apply blkK_n | apply blkK_r | apply blkK_x)
 | (with_reducible apply blkK_y; (· first | rfl | decide))
 | (with_reducible apply cutK_o; (· simp))
 | with_reducible (first | apply backK_x | apply backK_r | apply asgK_n | apply rngK_x | apply rngK_r | apply True.intro | apply And.intro True.intro True.intro)
 | (fail_if_success with_reducible apply K_id); (fail_if_success with_reducible apply awp_id); first | omega | (simp only [go_sem, seval, he1255, hr1261, hr1267, he1269, he1271]; done) | with_reducible assumption | (refine And.intro ?_ ?_) | (intro hg; simp_all; done) | grind)
    first | refine endK_r (by simp only [go_sem, seval, he1255, hr1261, hr1267, he1269, he1271] <;> eq_refl) (by simp only [go_sem, seval, he1255, hr1261, hr1267, he1269, he1271]) (by simp only [go_sem, seval, he1255, hr1261, hr1267, he1269, he1271]) ?_ rfl | refine endK_n (by simp only [go_sem, seval, he1255, hr1261, hr1267, he1269, he1271] <;> eq_refl) (by simp only [go_sem, seval, he1255, hr1261, hr1267, he1269, he1271]) (by simp only [go_sem, seval, he1255, hr1261, hr1267, he1269, he1271]) ?_ rfl
    first | (simp only [go_sem, seval, he1255, hr1261, hr1267, he1269, he1271]; done) | (simp only [go_sem, seval, he1255, hr1261, hr1267, he1269, he1271, List.map_append, List.map_cons, List.map_nil, List.map_set, List.map_take, List.map_drop]; done) | (simp [he1255, hr1261, hr1267, he1269, he1271]; done)
end

end Go.Proofs.Ytmmfbjmjhjmccaa.Am
