import Derived.Test.YtdabfcbelkjmgaaDoorE4
import Derived.Test.YtdabfcbelkjmgaaDoorAl4
namespace Go.Proofs.YtdabfcbelkjmgaaDoor.Am
open Go
attribute [local irreducible] awp seqK blkK backK endK inlK restK rngK asgK itK
set_option maxRecDepth 100000
set_option maxHeartbeats 8000000
set_option linter.unusedSimpArgs false
set_option linter.unusedVariables false
/-! putlog/putloglaw08.UnitMoves -/
def D_putloglaw08_UnitMoves (N : Nat) (x245 : List (Int × Int)) (y246 : List (Int × Int)) (how247 : Int) (p248 : Int) (p249 : Int) (p250 : Int) (p251 : Int) (q252 : Int) (q253 : Int) (q254 : Int) (q255 : Int) (dx256 : Int) (dy257 : Int) : Option Bool :=
  (D_putloglaw08_sane N).bind fun r258 =>
  bif !r258 then (
    some false)
  else (
    (D_putlogref08_Pair N x245 y246 how247 p248 p249 p250 p251 q252 q253 q254 q255).bind fun ((r260, r261, r262, r263, r264, r265), (r266, r267, r268, r269, r270, r271)) =>
    (D_putloglaw08_pick N dx256 13).bind fun r273 =>
    gd (I64 (r273 - 6)) <|
    (D_putloglaw08_pick N dy257 13).bind fun r275 =>
    gd (I64 (r275 - 6)) <|
    (D_unit_Move N r260 r261 r262 r263 r264 r265 (r273 - 6) (r275 - 6)).bind fun ((r277, r278, r279, r280, r281, r282), r283) =>
    (D_unit_Move N r266 r267 r268 r269 r270 r271 (r273 - 6) (r275 - 6)).bind fun ((r285, r286, r287, r288, r289, r290), r291) =>
    bif (decide (r283 ≠ 0)) || (decide (r291 ≠ 0)) then (
      (D_plane_Move N r263 (r273 - 6) (r275 - 6)).bind fun (r299, r300) =>
      (D_plane_Move N r269 (r273 - 6) (r275 - 6)).bind fun (r302, r303) =>
      some (((decide (r283 = 0)) == (decide (r300 = 0))) && ((decide (r291 = 0)) == (decide (r303 = 0)))))
    else (
      (D_unit_Touch N r260 r261 r262 r263 r264 r265 r266 r267 r268 r269 r270 r271).bind fun ((r305, r306, ((r307, r308), (r309, r310)), r311, r312), r313) =>
      (D_unit_Touch N r277 r278 r279 r280 r281 r282 r285 r286 r287 r288 r289 r290).bind fun ((r315, r316, ((r317, r318), (r319, r320)), r321, r322), r323) =>
      (bif r313 then (
          gd (I64 (r307 + (r273 - 6))) <|
          gd (I64 (r308 + (r275 - 6))) <|
          gd (I64 (r309 + (r273 - 6))) <|
          gd (I64 (r310 + (r275 - 6))) <|
          some (r307 + (r273 - 6), r308 + (r275 - 6), r309 + (r273 - 6), r310 + (r275 - 6)))
        else (
          some (r307, r308, r309, r310)) : Option (Int × Int × Int × Int)).bind fun (k334, k335, k336, k337) =>
      gd (I64 (-(r273 - 6))) <|
      gd (I64 (-(r275 - 6))) <|
      (D_unit_Move N r277 r278 r279 r280 r281 r282 (-(r273 - 6)) (-(r275 - 6))).bind fun ((r339, r340, r341, r342, r343, r344), r345) =>
      gd ((decide (r345 = 0)) = true → ((D_putlogref08_Same N r339 r340 r341 r342 r343 r344 r260 r261 r262 r263 r264 r265).isSome = true)) <|
      gd (((decide (r345 = 0)) && ((D_putlogref08_Same N r339 r340 r341 r342 r343 r344 r260 r261 r262 r263 r264 r265).getD false)) = true → ((D_unit_Volume2 N r277 r278 r279 r280 r281 r282).isSome = true)) <|
      gd (((decide (r345 = 0)) && ((D_putlogref08_Same N r339 r340 r341 r342 r343 r344 r260 r261 r262 r263 r264 r265).getD false)) = true → ((D_unit_Volume2 N r260 r261 r262 r263 r264 r265).isSome = true)) <|
      gd ((((decide (r345 = 0)) && ((D_putlogref08_Same N r339 r340 r341 r342 r343 r344 r260 r261 r262 r263 r264 r265).getD false)) && (decide ((D_unit_Volume2 N r277 r278 r279 r280 r281 r282).getD 0 = (D_unit_Volume2 N r260 r261 r262 r263 r264 r265).getD 0))) = true → ((D_unit_Weight6 N r277 r278 r279 r280 r281 r282).isSome = true)) <|
      gd ((((decide (r345 = 0)) && ((D_putlogref08_Same N r339 r340 r341 r342 r343 r344 r260 r261 r262 r263 r264 r265).getD false)) && (decide ((D_unit_Volume2 N r277 r278 r279 r280 r281 r282).getD 0 = (D_unit_Volume2 N r260 r261 r262 r263 r264 r265).getD 0))) = true → ((D_unit_Weight6 N r260 r261 r262 r263 r264 r265).isSome = true)) <|
      gd (((((decide (r345 = 0)) && ((D_putlogref08_Same N r339 r340 r341 r342 r343 r344 r260 r261 r262 r263 r264 r265).getD false)) && (decide ((D_unit_Volume2 N r277 r278 r279 r280 r281 r282).getD 0 = (D_unit_Volume2 N r260 r261 r262 r263 r264 r265).getD 0))) && (decide ((D_unit_Weight6 N r277 r278 r279 r280 r281 r282).getD 0 = (D_unit_Weight6 N r260 r261 r262 r263 r264 r265).getD 0))) = true → ((D_unit_Moment6 N r277 r278 r279 r280 r281 r282).isSome = true)) <|
      gd (((((decide (r345 = 0)) && ((D_putlogref08_Same N r339 r340 r341 r342 r343 r344 r260 r261 r262 r263 r264 r265).getD false)) && (decide ((D_unit_Volume2 N r277 r278 r279 r280 r281 r282).getD 0 = (D_unit_Volume2 N r260 r261 r262 r263 r264 r265).getD 0))) && (decide ((D_unit_Weight6 N r277 r278 r279 r280 r281 r282).getD 0 = (D_unit_Weight6 N r260 r261 r262 r263 r264 r265).getD 0))) = true → ((D_unit_Moment6 N r260 r261 r262 r263 r264 r265).isSome = true)) <|
      gd (((((decide (r345 = 0)) && ((D_putlogref08_Same N r339 r340 r341 r342 r343 r344 r260 r261 r262 r263 r264 r265).getD false)) && (decide ((D_unit_Volume2 N r277 r278 r279 r280 r281 r282).getD 0 = (D_unit_Volume2 N r260 r261 r262 r263 r264 r265).getD 0))) && (decide ((D_unit_Weight6 N r277 r278 r279 r280 r281 r282).getD 0 = (D_unit_Weight6 N r260 r261 r262 r263 r264 r265).getD 0))) = true → ((D_unit_Weight6 N r260 r261 r262 r263 r264 r265).isSome = true)) <|
      gd (((((decide (r345 = 0)) && ((D_putlogref08_Same N r339 r340 r341 r342 r343 r344 r260 r261 r262 r263 r264 r265).getD false)) && (decide ((D_unit_Volume2 N r277 r278 r279 r280 r281 r282).getD 0 = (D_unit_Volume2 N r260 r261 r262 r263 r264 r265).getD 0))) && (decide ((D_unit_Weight6 N r277 r278 r279 r280 r281 r282).getD 0 = (D_unit_Weight6 N r260 r261 r262 r263 r264 r265).getD 0))) = true → (I64 ((r273 - 6) * ((D_unit_Weight6 N r260 r261 r262 r263 r264 r265).getD 0)))) <|
      gd (((((decide (r345 = 0)) && ((D_putlogref08_Same N r339 r340 r341 r342 r343 r344 r260 r261 r262 r263 r264 r265).getD false)) && (decide ((D_unit_Volume2 N r277 r278 r279 r280 r281 r282).getD 0 = (D_unit_Volume2 N r260 r261 r262 r263 r264 r265).getD 0))) && (decide ((D_unit_Weight6 N r277 r278 r279 r280 r281 r282).getD 0 = (D_unit_Weight6 N r260 r261 r262 r263 r264 r265).getD 0))) = true → (I64 (((D_unit_Moment6 N r260 r261 r262 r263 r264 r265).getD 0) + ((r273 - 6) * ((D_unit_Weight6 N r260 r261 r262 r263 r264 r265).getD 0))))) <|
      gd ((((((((decide (r345 = 0)) && ((D_putlogref08_Same N r339 r340 r341 r342 r343 r344 r260 r261 r262 r263 r264 r265).getD false)) && (decide ((D_unit_Volume2 N r277 r278 r279 r280 r281 r282).getD 0 = (D_unit_Volume2 N r260 r261 r262 r263 r264 r265).getD 0))) && (decide ((D_unit_Weight6 N r277 r278 r279 r280 r281 r282).getD 0 = (D_unit_Weight6 N r260 r261 r262 r263 r264 r265).getD 0))) && (decide ((D_unit_Moment6 N r277 r278 r279 r280 r281 r282).getD 0 = ((D_unit_Moment6 N r260 r261 r262 r263 r264 r265).getD 0) + ((r273 - 6) * ((D_unit_Weight6 N r260 r261 r262 r263 r264 r265).getD 0))))) && (r313 == r323)) && (decide (r305 = r315) && (decide (r306 = r316) && (decide (k334 = r317) && (decide (k335 = r318) && (decide (k336 = r319) && (decide (k337 = r320) && (decide (r311 = r321) && decide (r312 = r322))))))))) = true → ((D_unit_Overlap N r260 r261 r262 r263 r264 r265 r266 r267 r268 r269 r270 r271).isSome = true)) <|
      gd ((((((((decide (r345 = 0)) && ((D_putlogref08_Same N r339 r340 r341 r342 r343 r344 r260 r261 r262 r263 r264 r265).getD false)) && (decide ((D_unit_Volume2 N r277 r278 r279 r280 r281 r282).getD 0 = (D_unit_Volume2 N r260 r261 r262 r263 r264 r265).getD 0))) && (decide ((D_unit_Weight6 N r277 r278 r279 r280 r281 r282).getD 0 = (D_unit_Weight6 N r260 r261 r262 r263 r264 r265).getD 0))) && (decide ((D_unit_Moment6 N r277 r278 r279 r280 r281 r282).getD 0 = ((D_unit_Moment6 N r260 r261 r262 r263 r264 r265).getD 0) + ((r273 - 6) * ((D_unit_Weight6 N r260 r261 r262 r263 r264 r265).getD 0))))) && (r313 == r323)) && (decide (r305 = r315) && (decide (r306 = r316) && (decide (k334 = r317) && (decide (k335 = r318) && (decide (k336 = r319) && (decide (k337 = r320) && (decide (r311 = r321) && decide (r312 = r322))))))))) = true → ((D_unit_Overlap N r277 r278 r279 r280 r281 r282 r285 r286 r287 r288 r289 r290).isSome = true)) <|
      some ((((((((decide (r345 = 0)) && ((D_putlogref08_Same N r339 r340 r341 r342 r343 r344 r260 r261 r262 r263 r264 r265).getD false)) && (decide ((D_unit_Volume2 N r277 r278 r279 r280 r281 r282).getD 0 = (D_unit_Volume2 N r260 r261 r262 r263 r264 r265).getD 0))) && (decide ((D_unit_Weight6 N r277 r278 r279 r280 r281 r282).getD 0 = (D_unit_Weight6 N r260 r261 r262 r263 r264 r265).getD 0))) && (decide ((D_unit_Moment6 N r277 r278 r279 r280 r281 r282).getD 0 = ((D_unit_Moment6 N r260 r261 r262 r263 r264 r265).getD 0) + ((r273 - 6) * ((D_unit_Weight6 N r260 r261 r262 r263 r264 r265).getD 0))))) && (r313 == r323)) && (decide (r305 = r315) && (decide (r306 = r316) && (decide (k334 = r317) && (decide (k335 = r318) && (decide (k336 = r319) && (decide (k337 = r320) && (decide (r311 = r321) && decide (r312 = r322))))))))) && (((D_unit_Overlap N r260 r261 r262 r263 r264 r265 r266 r267 r268 r269 r270 r271).getD false) == ((D_unit_Overlap N r277 r278 r279 r280 r281 r282 r285 r286 r287 r288 r289 r290).getD false)))))

def T4 (N : Nat) : List (Nat × Spec) := [(9, s9 N), (10, s10 N), (13, s13 N), (14, s14 N), (15, s15 N), (16, s16 N), (17, s17 N), (18, s18 N), (11, s11 N), (12, s12 N), (19, s19 N)]
theorem T4_ok (N : Nat) : TabOK Tryd.prog (tabOf (T4 N)) := tab_cons (fok9 N) (tab_cons (fok10 N) (tab_cons (fok13 N) (tab_cons (fok14 N) (tab_cons (fok15 N) (tab_cons (fok16 N) (tab_cons (fok17 N) (tab_cons (fok18 N) (tab_cons (fok11 N) (tab_cons (fok12 N) (tab_cons (fok19 N) (tab_nil)))))))))))

section
attribute [local go_sem] T4 s9 s10 s13 s14 s15 s16 s17 s18 s11 s12 s19 e_ii de_ii rb_ii d_ii GT_len rowAt_zero rowAt_succ List.set_cons_succ List.isEmpty_map List.map_append List.map_eq_nil_iff ne_eq List.length_replicate takeMap dropMap List.length_set Option.isSome_some
theorem D_putloglaw08_UnitMoves_ok (N : Nat) (x245 : List (Int × Int)) (y246 : List (Int × Int)) (how247 : Int) (p248 : Int) (p249 : Int) (p250 : Int) (p251 : Int) (q252 : Int) (q253 : Int) (q254 : Int) (q255 : Int) (dx256 : Int) (dy257 : Int) (r : Bool) (h : D_putloglaw08_UnitMoves N x245 y246 how247 p248 p249 p250 p251 q252 q253 q254 q255 dx256 dy257 = some r) : PCall Tryd.prog 4 [.sl 2 false (x245.map e_ii) [.i 0, .i 0], .sl 2 false (y246.map e_ii) [.i 0, .i 0], .i how247, .agg [.i p248, .i p249, .i p250, .i p251], .agg [.i q252, .i q253, .i q254, .i q255], .i dx256, .i dy257] (.b r) := by
  refine pcall_fn (T4_ok N) _ Tryd.func4 ok4 nt4 (by simp) fun _ => ?_
  have hS := T4_ok N
  have F := f0
  unfold ac4 rv4
  unfold D_putloglaw08_UnitMoves at h
  try simp only [gd_some, Option.bind_eq_some_iff] at h
  obtain ⟨r258, hr258, h⟩ := h
  replace F := fc hr258 F
  refine go hS F ?_
  refine cb F (!r258) (fun hc1 => ?_) (fun hc1 => ?_)
  · replace h := cond_t hc1 h
    obtain rfl := Option.some.inj h
    refine go hS F ?_
    exact fin F
  · replace h := cond_f hc1 h
    try simp only [gd_some, Option.bind_eq_some_iff] at h
    obtain ⟨⟨⟨r260, r261, r262, r263, r264, r265⟩, ⟨r266, r267, r268, r269, r270, r271⟩⟩, hr271, h⟩ := h
    replace F := fc hr271 F
    try simp only [gd_some, Option.bind_eq_some_iff] at h
    obtain ⟨r273, hr273, hv2, r275, hr275, hv3, ⟨⟨r277, r278, r279, r280, r281, r282⟩, r283⟩, hr283, h⟩ := h
    simp only [I64] at hv2
    simp only [I64] at hv3
    replace F := fc hr283 (fc hr275 (fc hr273 F))
    try simp only [gd_some, Option.bind_eq_some_iff] at h
    obtain ⟨⟨⟨r285, r286, r287, r288, r289, r290⟩, r291⟩, hr291, h⟩ := h
    replace F := fc hr291 F
    refine go hS F ?_
    refine cb F ((decide (r283 ≠ 0)) || (decide (r291 ≠ 0))) (fun hc4 => ?_) (fun hc4 => ?_)
    · replace h := cond_t hc4 h
      try simp only [gd_some, Option.bind_eq_some_iff] at h
      obtain ⟨⟨r299, r300⟩, hr300, h⟩ := h
      replace F := fc hr300 F
      try simp only [gd_some, Option.bind_eq_some_iff] at h
      obtain ⟨⟨r302, r303⟩, hr303, h⟩ := h
      replace F := fc hr303 F
      obtain rfl := Option.some.inj h
      refine go hS F ?_
      exact fin F
    · replace h := cond_f hc4 h
      try simp only [gd_some, Option.bind_eq_some_iff] at h
      obtain ⟨⟨⟨r305, r306, ⟨⟨r307, r308⟩, ⟨r309, r310⟩⟩, r311, r312⟩, r313⟩, hr313, h⟩ := h
      replace F := fc hr313 F
      try simp only [gd_some, Option.bind_eq_some_iff] at h
      obtain ⟨⟨⟨r315, r316, ⟨⟨r317, r318⟩, ⟨r319, r320⟩⟩, r321, r322⟩, r323⟩, hr323, h⟩ := h
      replace F := fc hr323 F
      try simp only [gd_some, Option.bind_eq_some_iff] at h
      obtain ⟨o338, hL5, h⟩ := h
      refine go hS F ?_
      refine awp_cut (fun z : Int × Int × Int × Int × Nat => ⟨[(16, .box (409, 4) 0), (17, .box (410, 4) 0), (18, .i (r273 - 6)), (19, .i (r275 - 6)), (20, .box (707, 7) 0), (22, .box (807, 8) 0), (28, .box (1306, 10) 0), (29, .b r313), (30, .box (1406, 11) 0), (31, .b r323)], [(.c (1406, 11) 0, .i r315), (.c (1406, 11) 1, .i r316), (.c (1406, 11) 2, .i r317), (.c (1406, 11) 3, .i r318), (.c (1406, 11) 4, .i r319), (.c (1406, 11) 5, .i r320), (.c (1406, 11) 6, .i r321), (.c (1406, 11) 7, .i r322), (.c (1306, 10) 0, .i r305), (.c (1306, 10) 1, .i r306), (.c (1306, 10) 2, .i z.1), (.c (1306, 10) 3, .i z.2.1), (.c (1306, 10) 4, .i z.2.2.1), (.c (1306, 10) 5, .i z.2.2.2.1), (.c (1306, 10) 6, .i r311), (.c (1306, 10) 7, .i r312), (.c (807, 8) 0, .i r285), (.c (807, 8) 1, .i r286), (.c (807, 8) 2, .i r287), (.c (807, 8) 3, .sl 2 false (r288.map e_ii) [.i 0, .i 0]), (.c (807, 8) 4, .i r289), (.c (807, 8) 5, .i r290), (.c (707, 7) 0, .i r277), (.c (707, 7) 1, .i r278), (.c (707, 7) 2, .i r279), (.c (707, 7) 3, .sl 2 false (r280.map e_ii) [.i 0, .i 0]), (.c (707, 7) 4, .i r281), (.c (707, 7) 5, .i r282), (.c (410, 4) 0, .i r266), (.c (410, 4) 1, .i r267), (.c (410, 4) 2, .i r268), (.c (410, 4) 3, .sl 2 false (r269.map e_ii) [.i 0, .i 0]), (.c (410, 4) 4, .i r270), (.c (410, 4) 5, .i r271), (.c (409, 4) 0, .i r260), (.c (409, 4) 1, .i r261), (.c (409, 4) 2, .i r262), (.c (409, 4) 3, .sl 2 false (r263.map e_ii) [.i 0, .i 0]), (.c (409, 4) 4, .i r264), (.c (409, 4) 5, .i r265)], z.2.2.2.2⟩) (fun z => ((z.1, z.2.1, z.2.2.1, z.2.2.2.1) : Int × Int × Int × Int) = o338) .n ?_ ?_
      · refine go hS F ?_
        refine cb F (r313) (fun hc6 => ?_) (fun hc6 => ?_)
        · replace hL5 := cond_t hc6 hL5
          try simp only [gd_some, Option.bind_eq_some_iff] at hL5
          obtain ⟨hv7, hv8, hv9, hv10, hL5⟩ := hL5
          simp only [I64] at hv7
          simp only [I64] at hv8
          simp only [I64] at hv9
          simp only [I64] at hv10
          refine go hS F ?_
          exact cutK_h (r307 + (r273 - 6), r308 + (r275 - 6), r309 + (r273 - 6), r310 + (r275 - 6), 13) (Option.some.inj hL5) (leF F)
        · replace hL5 := cond_f hc6 hL5
          refine go hS F ?_
          exact cutK_h (r307, r308, r309, r310, 12) (Option.some.inj hL5) (leF F)
      · rintro ⟨k334, k335, k336, k337, c333⟩ hz11
        subst hz11
        try simp only at h
        try simp only [gd_some, Option.bind_eq_some_iff] at h
        obtain ⟨hv12, hv13, ⟨⟨r339, r340, r341, r342, r343, r344⟩, r345⟩, hr345, h⟩ := h
        simp only [I64] at hv12
        simp only [I64] at hv13
        replace F := fc hr345 F
        try simp only [gd_some, Option.bind_eq_some_iff] at h
        obtain ⟨hv14, hv15, hv16, hv17, hv18, hv19, hv20, hv21, hv22, hv23, hv24, hv25, h⟩ := h
        simp only [I64] at hv22
        simp only [I64] at hv23
        obtain rfl := Option.some.inj h
        refine go hS F ?_
        exact fin F
end

end Go.Proofs.YtdabfcbelkjmgaaDoor.Am
