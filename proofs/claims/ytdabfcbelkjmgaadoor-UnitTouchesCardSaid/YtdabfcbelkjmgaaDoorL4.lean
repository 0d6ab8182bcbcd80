import Derived.Test.YtdabfcbelkjmgaaDoorE4
import Derived.Test.YtdabfcbelkjmgaaDoorAl7
namespace Go.Proofs.YtdabfcbelkjmgaaDoor.Am
open Go
attribute [local irreducible] awp seqK blkK backK endK inlK restK rngK asgK itK
set_option maxRecDepth 100000
set_option maxHeartbeats 8000000
set_option linter.unusedSimpArgs false
set_option linter.unusedVariables false
/-! putlog/putloglaw08.UnitTouches -/
def D_putloglaw08_UnitTouches_L1 (N : Nat) (r375 : Int) (r376 : Int) (r377 : Int) (r378 : Int) (r363 : List (Int × Int)) (r369 : List (Int × Int)) : Nat → Int → Option (Sum Unit Bool)
  | 0, _ => none
  | n + 1, x397 =>
    bif decide (x397 < 2) then (
      (nth [(r375, r376), (r377, r378)] x397).bind fun (x398, x399) =>
      (D_plane_Inside N r363 x398 x399).bind fun r401 =>
      gd ((!(decide (r401 ≠ 0))) = true → ((D_plane_Inside N r369 x398 x399).isSome = true)) <|
      bif (decide (r401 ≠ 0)) || (decide ((D_plane_Inside N r369 x398 x399).getD 0 ≠ 0)) then (
        some (.inr false))
      else (
        gd (I64 (x397 + 1)) <|
        D_putloglaw08_UnitTouches_L1 N r375 r376 r377 r378 r363 r369 n (x397 + 1)))
    else (
      some (.inl ()))

def D_putloglaw08_UnitTouches (N : Nat) (x347 : List (Int × Int)) (y348 : List (Int × Int)) (how349 : Int) (p350 : Int) (p351 : Int) (p352 : Int) (p353 : Int) (q354 : Int) (q355 : Int) (q356 : Int) (q357 : Int) : Option Bool :=
  (D_putloglaw08_sane N).bind fun r358 =>
  bif !r358 then (
    some false)
  else (
    (D_putlogref08_Pair N x347 y348 how349 p350 p351 p352 p353 q354 q355 q356 q357).bind fun ((r360, r361, r362, r363, r364, r365), (r366, r367, r368, r369, r370, r371)) =>
    (D_unit_Touch N r360 r361 r362 r363 r364 r365 r366 r367 r368 r369 r370 r371).bind fun ((r373, r374, ((r375, r376), (r377, r378)), r379, r380), r381) =>
    (D_unit_Touch N r366 r367 r368 r369 r370 r371 r360 r361 r362 r363 r364 r365).bind fun ((r383, r384, ((r385, r386), (r387, r388)), r389, r390), r391) =>
    gd ((!(r381 != r391)) = true → ((D_unit_Overlap N r360 r361 r362 r363 r364 r365 r366 r367 r368 r369 r370 r371).isSome = true)) <|
    gd ((!(r381 != r391)) = true → ((D_unit_Overlap N r366 r367 r368 r369 r370 r371 r360 r361 r362 r363 r364 r365).isSome = true)) <|
    gd (r381 = true → ((D_unit_Overlap N r360 r361 r362 r363 r364 r365 r366 r367 r368 r369 r370 r371).isSome = true)) <|
    bif ((r381 != r391) || (((D_unit_Overlap N r360 r361 r362 r363 r364 r365 r366 r367 r368 r369 r370 r371).getD false) != ((D_unit_Overlap N r366 r367 r368 r369 r370 r371 r360 r361 r362 r363 r364 r365).getD false))) || (r381 && ((D_unit_Overlap N r360 r361 r362 r363 r364 r365 r366 r367 r368 r369 r370 r371).getD false)) then (
      some false)
    else (
      bif !r381 then (
        some ((decide (r373 = 0) && (decide (r374 = 0) && (decide (r375 = 0) && (decide (r376 = 0) && (decide (r377 = 0) && (decide (r378 = 0) && (decide (r379 = 0) && decide (r380 = 0)))))))) && (decide (r383 = 0) && (decide (r384 = 0) && (decide (r385 = 0) && (decide (r386 = 0) && (decide (r387 = 0) && (decide (r388 = 0) && (decide (r389 = 0) && decide (r390 = 0))))))))))
      else (
        (D_putloglaw08_UnitTouches_L1 N r375 r376 r377 r378 r363 r369 N 0).bind fun o407 => match o407 with
          | .inl () => (
            some (((((((((decide (r373 = r384) && (decide (r374 = r383) && (decide (r375 = r387) && (decide (r376 = r388) && (decide (r377 = r385) && (decide (r378 = r386) && (decide (r379 = r389) && decide (r380 = r390)))))))) && (decide (r373 = r360))) && (decide (r374 = r366))) && (!(decide (r375 = r377) && decide (r376 = r378)))) && (decide (r364 ≤ r379))) && (decide (r370 ≤ r379))) && (decide (r379 < r380))) && (decide (r380 ≤ r365))) && (decide (r380 ≤ r371))))
          | .inr r406 => (
            some r406))))

def T7 (N : Nat) : List (Nat × Spec) := [(9, s9 N), (10, s10 N), (16, s16 N), (19, s19 N), (24, s24 N)]
theorem T7_ok (N : Nat) : TabOK Tryd.prog (tabOf (T7 N)) := tab_cons (fok9 N) (tab_cons (fok10 N) (tab_cons (fok16 N) (tab_cons (fok19 N) (tab_cons (fok24 N) (tab_nil)))))

section
attribute [local go_sem] T7 s9 s10 s16 s19 s24 e_ii de_ii rb_ii d_ii GT_len rowAt_zero rowAt_succ List.set_cons_succ List.isEmpty_map List.map_append List.map_eq_nil_iff ne_eq List.length_replicate takeMap dropMap List.length_set Option.isSome_some
theorem D_putloglaw08_UnitTouches_ok (N : Nat) (x347 : List (Int × Int)) (y348 : List (Int × Int)) (how349 : Int) (p350 : Int) (p351 : Int) (p352 : Int) (p353 : Int) (q354 : Int) (q355 : Int) (q356 : Int) (q357 : Int) (r : Bool) (h : D_putloglaw08_UnitTouches N x347 y348 how349 p350 p351 p352 p353 q354 q355 q356 q357 = some r) : PCall Tryd.prog 7 [.sl 2 false (x347.map e_ii) [.i 0, .i 0], .sl 2 false (y348.map e_ii) [.i 0, .i 0], .i how349, .agg [.i p350, .i p351, .i p352, .i p353], .agg [.i q354, .i q355, .i q356, .i q357]] (.b r) := by
  refine pcall_fn (T7_ok N) _ Tryd.func7 ok7 nt7 (by simp) fun _ => ?_
  have hS := T7_ok N
  have F := f0
  unfold ac7 rv7
  unfold D_putloglaw08_UnitTouches at h
  try simp only [gd_some, Option.bind_eq_some_iff] at h
  obtain ⟨r358, hr358, h⟩ := h
  replace F := fc hr358 F
  refine go hS F ?_
  refine cb F (!r358) (fun hc1 => ?_) (fun hc1 => ?_)
  · replace h := cond_t hc1 h
    obtain rfl := Option.some.inj h
    refine go hS F ?_
    exact fin F
  · replace h := cond_f hc1 h
    try simp only [gd_some, Option.bind_eq_some_iff] at h
    obtain ⟨⟨⟨r360, r361, r362, r363, r364, r365⟩, ⟨r366, r367, r368, r369, r370, r371⟩⟩, hr371, h⟩ := h
    replace F := fc hr371 F
    try simp only [gd_some, Option.bind_eq_some_iff] at h
    obtain ⟨⟨⟨r373, r374, ⟨⟨r375, r376⟩, ⟨r377, r378⟩⟩, r379, r380⟩, r381⟩, hr381, h⟩ := h
    replace F := fc hr381 F
    try simp only [gd_some, Option.bind_eq_some_iff] at h
    obtain ⟨⟨⟨r383, r384, ⟨⟨r385, r386⟩, ⟨r387, r388⟩⟩, r389, r390⟩, r391⟩, hr391, h⟩ := h
    replace F := fc hr391 F
    try simp only [gd_some, Option.bind_eq_some_iff] at h
    obtain ⟨hv2, hv3, hv4, h⟩ := h
    refine go hS F ?_
    refine cb F (((r381 != r391) || (((D_unit_Overlap N r360 r361 r362 r363 r364 r365 r366 r367 r368 r369 r370 r371).getD false) != ((D_unit_Overlap N r366 r367 r368 r369 r370 r371 r360 r361 r362 r363 r364 r365).getD false))) || (r381 && ((D_unit_Overlap N r360 r361 r362 r363 r364 r365 r366 r367 r368 r369 r370 r371).getD false))) (fun hc5 => ?_) (fun hc5 => ?_)
    · replace h := cond_t hc5 h
      obtain rfl := Option.some.inj h
      refine go hS F ?_
      exact fin F
    · replace h := cond_f hc5 h
      refine go hS F ?_
      refine cb F (!r381) (fun hc6 => ?_) (fun hc6 => ?_)
      · replace h := cond_t hc6 h
        obtain rfl := Option.some.inj h
        refine go hS F ?_
        exact fin F
      · replace h := cond_f hc6 h
        try simp only [gd_some, Option.bind_eq_some_iff] at h
        obtain ⟨o407, hL7, h⟩ := h
        refine go hS F ?_
        refine awp_cut (fun z : Nat => ⟨[(12, .box (409, 4) 0), (13, .box (410, 4) 0), (14, .box (506, 5) 0), (18, .box (716, 7) 0)], [(.c (716, 7) 0, .i r384), (.c (716, 7) 1, .i r383), (.c (716, 7) 2, .i r387), (.c (716, 7) 3, .i r388), (.c (716, 7) 4, .i r385), (.c (716, 7) 5, .i r386), (.c (716, 7) 6, .i r389), (.c (716, 7) 7, .i r390), (.c (506, 5) 0, .i r373), (.c (506, 5) 1, .i r374), (.c (506, 5) 2, .i r375), (.c (506, 5) 3, .i r376), (.c (506, 5) 4, .i r377), (.c (506, 5) 5, .i r378), (.c (506, 5) 6, .i r379), (.c (506, 5) 7, .i r380), (.c (410, 4) 0, .i r366), (.c (410, 4) 1, .i r367), (.c (410, 4) 2, .i r368), (.c (410, 4) 3, .sl 2 false (r369.map e_ii) [.i 0, .i 0]), (.c (410, 4) 4, .i r370), (.c (410, 4) 5, .i r371), (.c (409, 4) 0, .i r360), (.c (409, 4) 1, .i r361), (.c (409, 4) 2, .i r362), (.c (409, 4) 3, .sl 2 false (r363.map e_ii) [.i 0, .i 0]), (.c (409, 4) 4, .i r364), (.c (409, 4) 5, .i r365)], z⟩) (fun z => (.inl () : Sum Unit Bool) = o407) (.x 0) ?_ ?_
        · refine awp_loop (fun y : Nat × Int × Nat => ⟨[(12, .box (409, 4) 0), (13, .box (410, 4) 0), (14, .box (506, 5) 0), (18, .box (716, 7) 0), (97, .own (1206, 10) [(r375, r376), (r377, r378)].length), (98, .i 2), (99, .i y.2.1)], [(.a (1206, 10), .sl 2 true ([(r375, r376), (r377, r378)].map e_ii) [.i 0, .i 0]), (.c (716, 7) 0, .i r384), (.c (716, 7) 1, .i r383), (.c (716, 7) 2, .i r387), (.c (716, 7) 3, .i r388), (.c (716, 7) 4, .i r385), (.c (716, 7) 5, .i r386), (.c (716, 7) 6, .i r389), (.c (716, 7) 7, .i r390), (.c (506, 5) 0, .i r373), (.c (506, 5) 1, .i r374), (.c (506, 5) 2, .i r375), (.c (506, 5) 3, .i r376), (.c (506, 5) 4, .i r377), (.c (506, 5) 5, .i r378), (.c (506, 5) 6, .i r379), (.c (506, 5) 7, .i r380), (.c (410, 4) 0, .i r366), (.c (410, 4) 1, .i r367), (.c (410, 4) 2, .i r368), (.c (410, 4) 3, .sl 2 false (r369.map e_ii) [.i 0, .i 0]), (.c (410, 4) 4, .i r370), (.c (410, 4) 5, .i r371), (.c (409, 4) 0, .i r360), (.c (409, 4) 1, .i r361), (.c (409, 4) 2, .i r362), (.c (409, 4) 3, .sl 2 false (r363.map e_ii) [.i 0, .i 0]), (.c (409, 4) 4, .i r364), (.c (409, 4) 5, .i r365)], y.2.2⟩) (fun y => D_putloglaw08_UnitTouches_L1 N r375 r376 r377 r378 r363 r369 y.1 y.2.1 = some o407) (fun y => y.1) (N, 0, 10) hL7 ?_ ?_
          · exact leF F
          · rintro ⟨n, x397, c396⟩ hB8
            try simp only at hB8
            obtain _ | n := n
            · exact absurd hB8 (by simp [D_putloglaw08_UnitTouches_L1])
            rw [D_putloglaw08_UnitTouches_L1] at hB8
            refine go hS F ?_
            refine cb F (decide (x397 < 2)) (fun hc9 => ?_) (fun hc9 => ?_)
            · replace hB8 := cond_t hc9 hB8
              try simp only [gd_some, Option.bind_eq_some_iff] at hB8
              obtain ⟨⟨x398, x399⟩, hn399, hB8⟩ := hB8
              have hx399 : [(r375, r376), (r377, r378)].getD x397.toNat (0, 0) = (x398, x399) := ixs hn399 _
              have hq399 : rowAt [[.i r375, .i r376], [.i r377, .i r378]] [.i 0, .i 0] x397.toNat = [.i x398, .i x399] := by have hq := rb_ii [(r375, r376), (r377, r378)] x397.toNat; rw [hx399] at hq; exact hq
              have hb399 := (nth_some hn399).1
              try simp only [List.length_cons, List.length_nil] at hb399
              replace F := fc hq399 (fc hx399 F)
              try simp only [gd_some, Option.bind_eq_some_iff] at hB8
              obtain ⟨r401, hr401, hv10, hB8⟩ := hB8
              replace F := fc hr401 F
              refine go hS F ?_
              refine cb F ((decide (r401 ≠ 0)) || (decide ((D_plane_Inside N r369 x398 x399).getD 0 ≠ 0))) (fun hc11 => ?_) (fun hc11 => ?_)
              · replace hB8 := cond_t hc11 hB8
                obtain rfl := Option.some.inj hB8
                try simp only at h
                obtain rfl := Option.some.inj h
                refine go hS F ?_
                exact fin F
              · replace hB8 := cond_f hc11 hB8
                try simp only [gd_some, Option.bind_eq_some_iff] at hB8
                obtain ⟨hv12, hB8⟩ := hB8
                simp only [I64] at hv12
                refine go hS F ?_
                exact backK_n (n, x397 + 1, c396 + 1 + 1 + 1 + 1) hB8 (Nat.lt_succ_self _) (leF F)
            · replace hB8 := cond_f hc9 hB8
              refine go hS F ?_
              exact cutK_h (c396 + 1) (Option.some.inj hB8) (leF F)
        · rintro c405 hz13
          subst hz13
          try simp only at h
          obtain rfl := Option.some.inj h
          refine go hS F ?_
          exact fin F
end

end Go.Proofs.YtdabfcbelkjmgaaDoor.Am
