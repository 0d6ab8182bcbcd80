import Derived.Test.YtojciffnkbfbhaaDB
import Derived.Test.YtojciffnkbfbhaaDR
import Derived.Test.YtojciffnkbfbhaaD3
import Derived.Test.YtojciffnkbfbhaaAl3
namespace Go.Proofs.Ytojciffnkbfbhaa.Am
open Go
attribute [local irreducible] awp seqK blkK backK endK inlK restK rngK asgK itK
set_option maxRecDepth 100000
set_option maxHeartbeats 8000000
set_option linter.unusedSimpArgs false
set_option linter.unusedVariables false
/-! putlog/putloglaw07.one -/
def D_putloglaw07_one_L1 (N : Nat) (p4 : Int) (p5 : Int) (r26 : Int) (r28 : Int) (l3 : List (Int × Int)) : Nat → Int → Option (Sum Unit Bool)
  | 0, _ => none
  | n + 1, x36 =>
    bif decide (x36 < 2) then (
      (nth [(p4, p5), (r26, r28)] x36).bind fun (x37, x38) =>
      (D_plane_Inside N l3 x37 x38).bind fun r40 =>
      (D_putlogref07_Inside N l3 x37 x38).bind fun r42 =>
      gd ((!(decide (r40 ≠ r42))) = true → ((D_plane_Cell N l3 x37 x38).isSome = true)) <|
      gd ((!(decide (r40 ≠ r42))) = true → ((D_putlogref07_Cell N l3 x37 x38).isSome = true)) <|
      bif (decide (r40 ≠ r42)) || (decide ((D_plane_Cell N l3 x37 x38).getD 0 ≠ (D_putlogref07_Cell N l3 x37 x38).getD 0)) then (
        some (.inr false))
      else (
        gd (I64 (x36 + 1)) <|
        D_putloglaw07_one_L1 N p4 p5 r26 r28 l3 n (x36 + 1)))
    else (
      some (.inl ()))

def D_putloglaw07_one_L2 (N : Nat) (i6 : Int) (k7 : Int) (r49 : Int) (r51 : Int) (l3 : List (Int × Int)) : Nat → Int → Option (Sum Unit Bool)
  | 0, _ => none
  | n + 1, x63 =>
    bif decide (x63 < 2) then (
      (nth [(i6, k7), (r49, r51)] x63).bind fun (x64, x65) =>
      (D_plane_Cut N l3 x64 x65).bind fun (r67, r68, r69) =>
      (D_putlogref07_Cut N l3 x64 x65).bind fun (r71, r72, r73) =>
      gd ((!(decide (r69 ≠ r73))) = true → ((D_putlogref07_Same N r67 r71).isSome = true)) <|
      gd ((!((decide (r69 ≠ r73)) || (!((D_putlogref07_Same N r67 r71).getD false)))) = true → ((D_putlogref07_Same N r68 r72).isSome = true)) <|
      bif ((decide (r69 ≠ r73)) || (!((D_putlogref07_Same N r67 r71).getD false))) || (!((D_putlogref07_Same N r68 r72).getD false)) then (
        some (.inr false))
      else (
        gd (I64 (x63 + 1)) <|
        D_putloglaw07_one_L2 N i6 k7 r49 r51 l3 n (x63 + 1)))
    else (
      some (.inl ()))

def D_putloglaw07_one_L3 (N : Nat) (dx8 : Int) (dy9 : Int) (r80 : Int) (r82 : Int) (l3 : List (Int × Int)) : Nat → Int → Option (Sum Unit Bool)
  | 0, _ => none
  | n + 1, x92 =>
    bif decide (x92 < 2) then (
      (nth [(dx8, dy9), (r80 - 10, r82 - 10)] x92).bind fun (x93, x94) =>
      (D_plane_Move N l3 x93 x94).bind fun (r96, r97) =>
      (D_putlogref07_Move N l3 x93 x94).bind fun (r99, r100) =>
      gd ((!(decide (r97 ≠ r100))) = true → ((D_putlogref07_Same N r96 r99).isSome = true)) <|
      bif (decide (r97 ≠ r100)) || (!((D_putlogref07_Same N r96 r99).getD false)) then (
        some (.inr false))
      else (
        gd (I64 (x92 + 1)) <|
        D_putloglaw07_one_L3 N dx8 dy9 r80 r82 l3 n (x92 + 1)))
    else (
      some (.inl ()))

def D_putloglaw07_one (N : Nat) (l3 : List (Int × Int)) (p4 : Int) (p5 : Int) (i6 : Int) (k7 : Int) (dx8 : Int) (dy9 : Int) : Option Bool :=
  (D_plane_Moments N l3).bind fun (r10, r11) =>
  (D_putlogref07_Moments N l3).bind fun (r13, r14) =>
  (D_plane_Lattice N l3).bind fun (r16, r17) =>
  (D_putlogref07_Lattice N l3).bind fun (r19, r20) =>
  (D_plane_Valid N l3).bind fun r22 =>
  (D_putlogref07_Valid N l3).bind fun r24 =>
  gd ((!(r22 != r24)) = true → ((D_plane_Area2 N l3).isSome = true)) <|
  gd ((!(r22 != r24)) = true → ((D_putlogref07_Area2 N l3).isSome = true)) <|
  bif (((((r22 != r24) || (decide ((D_plane_Area2 N l3).getD 0 ≠ (D_putlogref07_Area2 N l3).getD 0))) || (decide (r10 ≠ r13))) || (decide (r11 ≠ r14))) || (decide (r16 ≠ r19))) || (decide (r17 ≠ r20)) then (
    some false)
  else (
    (D_putloglaw07_pick N p4 41).bind fun r26 =>
    (D_putloglaw07_pick N p5 41).bind fun r28 =>
    (D_putloglaw07_one_L1 N p4 p5 r26 r28 l3 N 0).bind fun o48 => match o48 with
      | .inl () => (
        gd (I64 ((l3.length : Int) + 1)) <|
        (D_putloglaw07_pick N i6 ((l3.length : Int) + 1)).bind fun r49 =>
        gd (I64 ((l3.length : Int) + 1)) <|
        (D_putloglaw07_pick N k7 ((l3.length : Int) + 1)).bind fun r51 =>
        (D_putloglaw07_one_L2 N i6 k7 r49 r51 l3 N 0).bind fun o79 => match o79 with
          | .inl () => (
            (D_putloglaw07_pick N dx8 21).bind fun r80 =>
            gd (I64 (r80 - 10)) <|
            (D_putloglaw07_pick N dy9 21).bind fun r82 =>
            gd (I64 (r82 - 10)) <|
            (D_putloglaw07_one_L3 N dx8 dy9 r80 r82 l3 N 0).bind fun o106 => match o106 with
              | .inl () => (
                some true)
              | .inr r105 => (
                some r105))
          | .inr r78 => (
            some r78))
      | .inr r47 => (
        some r47))

def T13 (N : Nat) : List (Nat × Spec) := [(25, s25 N), (35, s35 N), (16, s16 N), (36, s36 N), (19, s19 N), (37, s37 N), (20, s20 N), (38, s38 N), (21, s21 N), (18, s18 N), (17, s17 N), (39, s39 N), (27, s27 N), (40, s40 N), (22, s22 N), (34, s34 N), (32, s32 N), (30, s30 N), (41, s41 N)]
theorem T13_ok (N : Nat) : TabOK Try.prog (tabOf (T13 N)) := tab_cons (fok25 N) (tab_cons (fok35 N) (tab_cons (fok16 N) (tab_cons (fok36 N) (tab_cons (fok19 N) (tab_cons (fok37 N) (tab_cons (fok20 N) (tab_cons (fok38 N) (tab_cons (fok21 N) (tab_cons (fok18 N) (tab_cons (fok17 N) (tab_cons (fok39 N) (tab_cons (fok27 N) (tab_cons (fok40 N) (tab_cons (fok22 N) (tab_cons (fok34 N) (tab_cons (fok32 N) (tab_cons (fok30 N) (tab_cons (fok41 N) (tab_nil)))))))))))))))))))

section
attribute [local go_sem] T13 s25 s35 s16 s36 s19 s37 s20 s38 s21 s18 s17 s39 s27 s40 s22 s34 s32 s30 s41 e_ii de_ii rb_ii d_ii rowAt_zero rowAt_succ List.set_cons_succ List.isEmpty_map List.map_append List.map_eq_nil_iff ne_eq List.length_replicate takeMap dropMap List.length_set Option.isSome_some
theorem D_putloglaw07_one_ok (N : Nat) (l3 : List (Int × Int)) (p4 : Int) (p5 : Int) (i6 : Int) (k7 : Int) (dx8 : Int) (dy9 : Int) (r : Bool) (h : D_putloglaw07_one N l3 p4 p5 i6 k7 dx8 dy9 = some r) : PCall Try.prog 13 [.sl 2 false (l3.map e_ii) [.i 0, .i 0], .agg [.i p4, .i p5], .i i6, .i k7, .i dx8, .i dy9] (.b r) := by
  refine pcall_fn (T13_ok N) _ Try.func13 ok13 nt13 (by simp) fun _ => ?_
  have hS := T13_ok N
  have F := f0
  unfold ac13 rv13
  unfold D_putloglaw07_one at h
  try simp only [gd_some, Option.bind_eq_some_iff] at h
  obtain ⟨⟨r10, r11⟩, hr11, h⟩ := h
  replace F := fc hr11 F
  try simp only [gd_some, Option.bind_eq_some_iff] at h
  obtain ⟨⟨r13, r14⟩, hr14, h⟩ := h
  replace F := fc hr14 F
  try simp only [gd_some, Option.bind_eq_some_iff] at h
  obtain ⟨⟨r16, r17⟩, hr17, h⟩ := h
  replace F := fc hr17 F
  try simp only [gd_some, Option.bind_eq_some_iff] at h
  obtain ⟨⟨r19, r20⟩, hr20, h⟩ := h
  replace F := fc hr20 F
  try simp only [gd_some, Option.bind_eq_some_iff] at h
  obtain ⟨r22, hr22, r24, hr24, hv1, hv2, h⟩ := h
  replace F := fc hr24 (fc hr22 F)
  refine go hS F ?_
  refine cb F ((((((r22 != r24) || (decide ((D_plane_Area2 N l3).getD 0 ≠ (D_putlogref07_Area2 N l3).getD 0))) || (decide (r10 ≠ r13))) || (decide (r11 ≠ r14))) || (decide (r16 ≠ r19))) || (decide (r17 ≠ r20))) (fun hc3 => ?_) (fun hc3 => ?_)
  · replace h := cond_t hc3 h
    obtain rfl := Option.some.inj h
    refine go hS F ?_
    exact fin F
  · replace h := cond_f hc3 h
    try simp only [gd_some, Option.bind_eq_some_iff] at h
    obtain ⟨r26, hr26, r28, hr28, h⟩ := h
    replace F := fc hr28 (fc hr26 F)
    try simp only [gd_some, Option.bind_eq_some_iff] at h
    obtain ⟨o48, hL4, h⟩ := h
    refine go hS F ?_
    refine awp_cut (fun z : Nat => ⟨[(0, .sl 2 false (l3.map e_ii) [.i 0, .i 0]), (2, .i i6), (3, .i k7), (4, .i dx8), (5, .i dy9)], [], z⟩) (fun z => (.inl () : Sum Unit Bool) = o48) (.x 0) ?_ ?_
    · refine awp_loop (fun y : Nat × Int × Nat => ⟨[(0, .sl 2 false (l3.map e_ii) [.i 0, .i 0]), (2, .i i6), (3, .i k7), (4, .i dx8), (5, .i dy9), (97, .own (708, 7) [(p4, p5), (r26, r28)].length), (98, .i 2), (99, .i y.2.1)], [(.a (708, 7), .sl 2 true ([(p4, p5), (r26, r28)].map e_ii) [.i 0, .i 0])], y.2.2⟩) (fun y => D_putloglaw07_one_L1 N p4 p5 r26 r28 l3 y.1 y.2.1 = some o48) (fun y => y.1) (N, 0, 7) hL4 ?_ ?_
      · exact leF F
      · rintro ⟨n, x36, c35⟩ hB5
        try simp only at hB5
        obtain _ | n := n
        · exact absurd hB5 (by simp [D_putloglaw07_one_L1])
        rw [D_putloglaw07_one_L1] at hB5
        refine go hS F ?_
        refine cb F (decide (x36 < 2)) (fun hc6 => ?_) (fun hc6 => ?_)
        · replace hB5 := cond_t hc6 hB5
          try simp only [gd_some, Option.bind_eq_some_iff] at hB5
          obtain ⟨⟨x37, x38⟩, hn38, hB5⟩ := hB5
          have hx38 : [(p4, p5), (r26, r28)].getD x36.toNat (0, 0) = (x37, x38) := ixs hn38 _
          have hq38 : rowAt [[.i p4, .i p5], [.i r26, .i r28]] [.i 0, .i 0] x36.toNat = [.i x37, .i x38] := by have hq := rb_ii [(p4, p5), (r26, r28)] x36.toNat; rw [hx38] at hq; exact hq
          have hb38 := (nth_some hn38).1
          try simp only [List.length_cons, List.length_nil] at hb38
          replace F := fc hq38 (fc hx38 F)
          try simp only [gd_some, Option.bind_eq_some_iff] at hB5
          obtain ⟨r40, hr40, r42, hr42, hv7, hv8, hB5⟩ := hB5
          replace F := fc hr42 (fc hr40 F)
          refine go hS F ?_
          refine cb F ((decide (r40 ≠ r42)) || (decide ((D_plane_Cell N l3 x37 x38).getD 0 ≠ (D_putlogref07_Cell N l3 x37 x38).getD 0))) (fun hc9 => ?_) (fun hc9 => ?_)
          · replace hB5 := cond_t hc9 hB5
            obtain rfl := Option.some.inj hB5
            try simp only at h
            obtain rfl := Option.some.inj h
            refine go hS F ?_
            exact fin F
          · replace hB5 := cond_f hc9 hB5
            try simp only [gd_some, Option.bind_eq_some_iff] at hB5
            obtain ⟨hv10, hB5⟩ := hB5
            simp only [I64] at hv10
            refine go hS F ?_
            exact backK_n (n, x36 + 1, c35 + 1 + 1 + 1 + 1) hB5 (Nat.lt_succ_self _) (leF F)
        · replace hB5 := cond_f hc6 hB5
          refine go hS F ?_
          exact cutK_h (c35 + 1) (Option.some.inj hB5) (leF F)
    · rintro c46 hz11
      subst hz11
      try simp only at h
      try simp only [gd_some, Option.bind_eq_some_iff] at h
      obtain ⟨hv12, r49, hr49, hv13, r51, hr51, h⟩ := h
      simp only [I64] at hv12
      simp only [I64] at hv13
      replace F := fc hr51 (fc hr49 F)
      try simp only [gd_some, Option.bind_eq_some_iff] at h
      obtain ⟨o79, hL14, h⟩ := h
      refine go hS F ?_
      refine awp_cut (fun z : Nat => ⟨[(0, .sl 2 false (l3.map e_ii) [.i 0, .i 0]), (4, .i dx8), (5, .i dy9)], [], z⟩) (fun z => (.inl () : Sum Unit Bool) = o79) (.x 2) ?_ ?_
      · refine awp_loop (fun y : Nat × Int × Nat => ⟨[(0, .sl 2 false (l3.map e_ii) [.i 0, .i 0]), (4, .i dx8), (5, .i dy9), (140, .own (1314, c46 + 1) [(i6, k7), (r49, r51)].length), (141, .i 2), (142, .i y.2.1)], [(.a (1314, c46 + 1), .sl 2 true ([(i6, k7), (r49, r51)].map e_ii) [.i 0, .i 0])], y.2.2⟩) (fun y => D_putloglaw07_one_L2 N i6 k7 r49 r51 l3 y.1 y.2.1 = some o79) (fun y => y.1) (N, 0, c46 + 1) hL14 ?_ ?_
        · exact leF F
        · rintro ⟨n, x63, c62⟩ hB15
          try simp only at hB15
          obtain _ | n := n
          · exact absurd hB15 (by simp [D_putloglaw07_one_L2])
          rw [D_putloglaw07_one_L2] at hB15
          refine go hS F ?_
          refine cb F (decide (x63 < 2)) (fun hc16 => ?_) (fun hc16 => ?_)
          · replace hB15 := cond_t hc16 hB15
            try simp only [gd_some, Option.bind_eq_some_iff] at hB15
            obtain ⟨⟨x64, x65⟩, hn65, hB15⟩ := hB15
            have hx65 : [(i6, k7), (r49, r51)].getD x63.toNat (0, 0) = (x64, x65) := ixs hn65 _
            have hq65 : rowAt [[.i i6, .i k7], [.i r49, .i r51]] [.i 0, .i 0] x63.toNat = [.i x64, .i x65] := by have hq := rb_ii [(i6, k7), (r49, r51)] x63.toNat; rw [hx65] at hq; exact hq
            have hb65 := (nth_some hn65).1
            try simp only [List.length_cons, List.length_nil] at hb65
            replace F := fc hq65 (fc hx65 F)
            try simp only [gd_some, Option.bind_eq_some_iff] at hB15
            obtain ⟨⟨r67, r68, r69⟩, hr69, hB15⟩ := hB15
            replace F := fc hr69 F
            try simp only [gd_some, Option.bind_eq_some_iff] at hB15
            obtain ⟨⟨r71, r72, r73⟩, hr73, hB15⟩ := hB15
            replace F := fc hr73 F
            try simp only [gd_some, Option.bind_eq_some_iff] at hB15
            obtain ⟨hv17, hv18, hB15⟩ := hB15
            refine go hS F ?_
            refine cb F (((decide (r69 ≠ r73)) || (!((D_putlogref07_Same N r67 r71).getD false))) || (!((D_putlogref07_Same N r68 r72).getD false))) (fun hc19 => ?_) (fun hc19 => ?_)
            · replace hB15 := cond_t hc19 hB15
              obtain rfl := Option.some.inj hB15
              try simp only at h
              obtain rfl := Option.some.inj h
              refine go hS F ?_
              exact fin F
            · replace hB15 := cond_f hc19 hB15
              try simp only [gd_some, Option.bind_eq_some_iff] at hB15
              obtain ⟨hv20, hB15⟩ := hB15
              simp only [I64] at hv20
              refine go hS F ?_
              exact backK_n (n, x63 + 1, c62 + 1 + 1 + 1 + 1 + 1 + 1) hB15 (Nat.lt_succ_self _) (leF F)
          · replace hB15 := cond_f hc16 hB15
            refine go hS F ?_
            exact cutK_h (c62 + 1) (Option.some.inj hB15) (leF F)
      · rintro c77 hz21
        subst hz21
        try simp only at h
        try simp only [gd_some, Option.bind_eq_some_iff] at h
        obtain ⟨r80, hr80, hv22, r82, hr82, hv23, h⟩ := h
        simp only [I64] at hv22
        simp only [I64] at hv23
        replace F := fc hr82 (fc hr80 F)
        try simp only [gd_some, Option.bind_eq_some_iff] at h
        obtain ⟨o106, hL24, h⟩ := h
        refine go hS F ?_
        refine awp_cut (fun z : Nat => ⟨[], [], z⟩) (fun z => (.inl () : Sum Unit Bool) = o106) (.x 4) ?_ ?_
        · refine awp_loop (fun y : Nat × Int × Nat => ⟨[(0, .sl 2 false (l3.map e_ii) [.i 0, .i 0]), (192, .own (2110, c77 + 1) [(dx8, dy9), (r80 - 10, r82 - 10)].length), (193, .i 2), (194, .i y.2.1)], [(.a (2110, c77 + 1), .sl 2 true ([(dx8, dy9), (r80 - 10, r82 - 10)].map e_ii) [.i 0, .i 0])], y.2.2⟩) (fun y => D_putloglaw07_one_L3 N dx8 dy9 r80 r82 l3 y.1 y.2.1 = some o106) (fun y => y.1) (N, 0, c77 + 1) hL24 ?_ ?_
          · exact leF F
          · rintro ⟨n, x92, c91⟩ hB25
            try simp only at hB25
            obtain _ | n := n
            · exact absurd hB25 (by simp [D_putloglaw07_one_L3])
            rw [D_putloglaw07_one_L3] at hB25
            refine go hS F ?_
            refine cb F (decide (x92 < 2)) (fun hc26 => ?_) (fun hc26 => ?_)
            · replace hB25 := cond_t hc26 hB25
              try simp only [gd_some, Option.bind_eq_some_iff] at hB25
              obtain ⟨⟨x93, x94⟩, hn94, hB25⟩ := hB25
              have hx94 : [(dx8, dy9), (r80 - 10, r82 - 10)].getD x92.toNat (0, 0) = (x93, x94) := ixs hn94 _
              have hq94 : rowAt [[.i dx8, .i dy9], [.i (r80 - 10), .i (r82 - 10)]] [.i 0, .i 0] x92.toNat = [.i x93, .i x94] := by have hq := rb_ii [(dx8, dy9), (r80 - 10, r82 - 10)] x92.toNat; rw [hx94] at hq; exact hq
              have hb94 := (nth_some hn94).1
              try simp only [List.length_cons, List.length_nil] at hb94
              replace F := fc hq94 (fc hx94 F)
              try simp only [gd_some, Option.bind_eq_some_iff] at hB25
              obtain ⟨⟨r96, r97⟩, hr97, hB25⟩ := hB25
              replace F := fc hr97 F
              try simp only [gd_some, Option.bind_eq_some_iff] at hB25
              obtain ⟨⟨r99, r100⟩, hr100, hB25⟩ := hB25
              replace F := fc hr100 F
              try simp only [gd_some, Option.bind_eq_some_iff] at hB25
              obtain ⟨hv27, hB25⟩ := hB25
              refine go hS F ?_
              refine cb F ((decide (r97 ≠ r100)) || (!((D_putlogref07_Same N r96 r99).getD false))) (fun hc28 => ?_) (fun hc28 => ?_)
              · replace hB25 := cond_t hc28 hB25
                obtain rfl := Option.some.inj hB25
                try simp only at h
                obtain rfl := Option.some.inj h
                refine go hS F ?_
                exact fin F
              · replace hB25 := cond_f hc28 hB25
                try simp only [gd_some, Option.bind_eq_some_iff] at hB25
                obtain ⟨hv29, hB25⟩ := hB25
                simp only [I64] at hv29
                refine go hS F ?_
                exact backK_n (n, x92 + 1, c91 + 1 + 1 + 1 + 1 + 1 + 1) hB25 (Nat.lt_succ_self _) (leF F)
            · replace hB25 := cond_f hc26 hB25
              refine go hS F ?_
              exact cutK_h (c91 + 1) (Option.some.inj hB25) (leF F)
        · rintro c104 hz30
          subst hz30
          try simp only at h
          obtain rfl := Option.some.inj h
          refine go hS F ?_
          exact fin F
end

def s13 (N : Nat) : Spec
  | [.sl yl3 _ l3 _, .agg [.v (.int .i64 p4), .v (.int .i64 p5)], .v (.int .i64 i6), .v (.int .i64 k7), .v (.int .i64 dx8), .v (.int .i64 dy9)] => some (((yl3 = 2 ∨ l3 = []) ∧ l3 = (l3.map d_ii).map e_ii) ∧ (D_putloglaw07_one N (l3.map d_ii) p4 p5 i6 k7 dx8 dy9).isSome = true, .b ((D_putloglaw07_one N (l3.map d_ii) p4 p5 i6 k7 dx8 dy9).getD false))
  | _ => none
theorem fok13 (N : Nat) : FOK Try.prog 13 (s13 N) := ⟨of13, by
  intro args vc r h hv
  unfold s13 at h
  split at h
  · cases h
    obtain ⟨⟨hy0, hr0⟩, hs⟩ := hv
    obtain ⟨r, hr⟩ := Option.isSome_iff_exists.1 hs
    have hk := D_putloglaw07_one_ok N _ _ _ _ _ _ _ r hr
    simp only [hr, Option.getD_some]
    refine PCall.arg ?_ hk
    simp only [wkL, wk, and_true, true_and, Bool.false_eq_true, false_implies, implies_true]
    repeat' (first | exact True.intro | assumption | apply And.intro)
  · simp at h⟩

/-! putlog/putloglaw07.two -/
def D_putloglaw07_two (N : Nat) (a107 : List (Int × Int)) (b108 : List (Int × Int)) : Option Bool :=
  (D_plane_Seam N a107 b108).bind fun (((r109, r110), (r111, r112)), r113) =>
  (D_putlogref07_Seam N a107 b108).bind fun (((r115, r116), (r117, r118)), r119) =>
  (D_plane_Side N a107 b108).bind fun (r121, r122, r123) =>
  (D_putlogref07_Side N a107 b108).bind fun (r125, r126, r127) =>
  (D_plane_Overlap N a107 b108).bind fun r129 =>
  (D_putlogref07_Overlap N a107 b108).bind fun r131 =>
  some ((((((r129 == r131) && (r113 == r119)) && (decide (r109 = r115) && (decide (r110 = r116) && (decide (r111 = r117) && decide (r112 = r118))))) && (decide (r121 = r125))) && (decide (r122 = r126))) && (r123 == r127))

def T14 (N : Nat) : List (Nat × Spec) := [(23, s23 N), (42, s42 N), (26, s26 N), (43, s43 N), (24, s24 N), (44, s44 N)]
theorem T14_ok (N : Nat) : TabOK Try.prog (tabOf (T14 N)) := tab_cons (fok23 N) (tab_cons (fok42 N) (tab_cons (fok26 N) (tab_cons (fok43 N) (tab_cons (fok24 N) (tab_cons (fok44 N) (tab_nil))))))

section
attribute [local go_sem] T14 s23 s42 s26 s43 s24 s44 e_ii de_ii rb_ii d_ii rowAt_zero rowAt_succ List.set_cons_succ List.isEmpty_map List.map_append List.map_eq_nil_iff ne_eq List.length_replicate takeMap dropMap List.length_set Option.isSome_some
theorem D_putloglaw07_two_ok (N : Nat) (a107 : List (Int × Int)) (b108 : List (Int × Int)) (r : Bool) (h : D_putloglaw07_two N a107 b108 = some r) : PCall Try.prog 14 [.sl 2 false (a107.map e_ii) [.i 0, .i 0], .sl 2 false (b108.map e_ii) [.i 0, .i 0]] (.b r) := by
  refine pcall_fn (T14_ok N) _ Try.func14 ok14 nt14 (by simp) fun _ => ?_
  have hS := T14_ok N
  have F := f0
  unfold ac14 rv14
  unfold D_putloglaw07_two at h
  try simp only [gd_some, Option.bind_eq_some_iff] at h
  obtain ⟨⟨⟨⟨r109, r110⟩, ⟨r111, r112⟩⟩, r113⟩, hr113, h⟩ := h
  replace F := fc hr113 F
  try simp only [gd_some, Option.bind_eq_some_iff] at h
  obtain ⟨⟨⟨⟨r115, r116⟩, ⟨r117, r118⟩⟩, r119⟩, hr119, h⟩ := h
  replace F := fc hr119 F
  try simp only [gd_some, Option.bind_eq_some_iff] at h
  obtain ⟨⟨r121, r122, r123⟩, hr123, h⟩ := h
  replace F := fc hr123 F
  try simp only [gd_some, Option.bind_eq_some_iff] at h
  obtain ⟨⟨r125, r126, r127⟩, hr127, h⟩ := h
  replace F := fc hr127 F
  try simp only [gd_some, Option.bind_eq_some_iff] at h
  obtain ⟨r129, hr129, r131, hr131, h⟩ := h
  replace F := fc hr131 (fc hr129 F)
  obtain rfl := Option.some.inj h
  refine go hS F ?_
  exact fin F
end

def s14 (N : Nat) : Spec
  | [.sl ya107 _ a107 _, .sl yb108 _ b108 _] => some (((ya107 = 2 ∨ a107 = []) ∧ a107 = (a107.map d_ii).map e_ii) ∧ ((yb108 = 2 ∨ b108 = []) ∧ b108 = (b108.map d_ii).map e_ii) ∧ (D_putloglaw07_two N (a107.map d_ii) (b108.map d_ii)).isSome = true, .b ((D_putloglaw07_two N (a107.map d_ii) (b108.map d_ii)).getD false))
  | _ => none
theorem fok14 (N : Nat) : FOK Try.prog 14 (s14 N) := ⟨of14, by
  intro args vc r h hv
  unfold s14 at h
  split at h
  · cases h
    obtain ⟨⟨hy0, hr0⟩, ⟨hy1, hr1⟩, hs⟩ := hv
    obtain ⟨r, hr⟩ := Option.isSome_iff_exists.1 hs
    have hk := D_putloglaw07_two_ok N _ _ r hr
    simp only [hr, Option.getD_some]
    refine PCall.arg ?_ hk
    simp only [wkL, wk, and_true, true_and, Bool.false_eq_true, false_implies, implies_true]
    repeat' (first | exact True.intro | assumption | apply And.intro)
  · simp at h⟩

/-! putlog/putloglaw07.PlaneMatchesReference -/
def D_putloglaw07_PlaneMatchesReference_L1 (N : Nat) (r149 : List (Int × Int)) (r150 : List (Int × Int)) (r152 : List (Int × Int)) (raw136 : List (Int × Int)) (p141 : Int) (p142 : Int) (i143 : Int) (k144 : Int) (dx145 : Int) (dy146 : Int) : Nat → Int → Option (Sum Unit Bool)
  | 0, _ => none
  | n + 1, x158 =>
    bif decide (x158 < 4) then (
      (nth [r149, r150, r152, raw136.take ((min (raw136.length : Int) 9).toNat - 0)] x158).bind fun x159 =>
      (D_putloglaw07_one N x159 p141 p142 i143 k144 dx145 dy146).bind fun r161 =>
      gd ((!(!r161)) = true → ((D_putloglaw07_two N r149 x159).isSome = true)) <|
      gd ((!((!r161) || (!((D_putloglaw07_two N r149 x159).getD false)))) = true → ((D_putloglaw07_two N x159 r150).isSome = true)) <|
      bif ((!r161) || (!((D_putloglaw07_two N r149 x159).getD false))) || (!((D_putloglaw07_two N x159 r150).getD false)) then (
        some (.inr false))
      else (
        gd (I64 (x158 + 1)) <|
        D_putloglaw07_PlaneMatchesReference_L1 N r149 r150 r152 raw136 p141 p142 i143 k144 dx145 dy146 n (x158 + 1)))
    else (
      some (.inl ()))

def D_putloglaw07_PlaneMatchesReference (N : Nat) (x133 : List (Int × Int)) (y134 : List (Int × Int)) (how135 : Int) (raw136 : List (Int × Int)) (odd137 : List (Int × Int)) (bend138 : Int) (bend139 : Int) (bend140 : Int) (p141 : Int) (p142 : Int) (i143 : Int) (k144 : Int) (dx145 : Int) (dy146 : Int) : Option Bool :=
  (D_putloglaw07_sane N).bind fun r147 =>
  bif !r147 then (
    some false)
  else (
    (D_putlogref07_Pair N x133 y134 how135).bind fun (r149, r150) =>
    gd (0 ≤ 0 ∧ 0 ≤ min (raw136.length : Int) 9 ∧ min (raw136.length : Int) 9 ≤ (raw136.length : Int)) <|
    gd (0 ≤ 0 ∧ 0 ≤ min (odd137.length : Int) 9 ∧ min (odd137.length : Int) 9 ≤ (odd137.length : Int)) <|
    (D_putlogref07_Bent N r149 bend138 bend139 bend140).bind fun r152 =>
    (D_putloglaw07_PlaneMatchesReference_L1 N r149 r150 r152 raw136 p141 p142 i143 k144 dx145 dy146 N 0).bind fun o167 => match o167 with
      | .inl () => (
        gd (r147 = true → ((D_putloglaw07_two N (raw136.take ((min (raw136.length : Int) 9).toNat - 0)) (odd137.take ((min (odd137.length : Int) 9).toNat - 0))).isSome = true)) <|
        gd ((r147 && ((D_putloglaw07_two N (raw136.take ((min (raw136.length : Int) 9).toNat - 0)) (odd137.take ((min (odd137.length : Int) 9).toNat - 0))).getD false)) = true → ((D_putloglaw07_two N (odd137.take ((min (odd137.length : Int) 9).toNat - 0)) (raw136.take ((min (raw136.length : Int) 9).toNat - 0))).isSome = true)) <|
        some ((r147 && ((D_putloglaw07_two N (raw136.take ((min (raw136.length : Int) 9).toNat - 0)) (odd137.take ((min (odd137.length : Int) 9).toNat - 0))).getD false)) && ((D_putloglaw07_two N (odd137.take ((min (odd137.length : Int) 9).toNat - 0)) (raw136.take ((min (raw136.length : Int) 9).toNat - 0))).getD false)))
      | .inr r166 => (
        some r166))

def T3 (N : Nat) : List (Nat × Spec) := [(10, s10 N), (11, s11 N), (12, s12 N), (13, s13 N), (14, s14 N)]
theorem T3_ok (N : Nat) : TabOK Try.prog (tabOf (T3 N)) := tab_cons (fok10 N) (tab_cons (fok11 N) (tab_cons (fok12 N) (tab_cons (fok13 N) (tab_cons (fok14 N) (tab_nil)))))

section
attribute [local go_sem] T3 s10 s11 s12 s13 s14 e_Sii de_Sii d_Sii e_ii de_ii rb_ii d_ii rowAt_zero rowAt_succ List.set_cons_succ List.isEmpty_map List.map_append List.map_eq_nil_iff ne_eq List.length_replicate takeMap dropMap List.length_set Option.isSome_some
theorem D_putloglaw07_PlaneMatchesReference_ok (N : Nat) (x133 : List (Int × Int)) (y134 : List (Int × Int)) (how135 : Int) (raw136 : List (Int × Int)) (odd137 : List (Int × Int)) (bend138 : Int) (bend139 : Int) (bend140 : Int) (p141 : Int) (p142 : Int) (i143 : Int) (k144 : Int) (dx145 : Int) (dy146 : Int) (r : Bool) (h : D_putloglaw07_PlaneMatchesReference N x133 y134 how135 raw136 odd137 bend138 bend139 bend140 p141 p142 i143 k144 dx145 dy146 = some r) : PCall Try.prog 3 [.sl 2 false (x133.map e_ii) [.i 0, .i 0], .sl 2 false (y134.map e_ii) [.i 0, .i 0], .i how135, .sl 2 false (raw136.map e_ii) [.i 0, .i 0], .sl 2 false (odd137.map e_ii) [.i 0, .i 0], .agg [.i bend138, .i bend139, .i bend140], .agg [.i p141, .i p142], .i i143, .i k144, .i dx145, .i dy146] (.b r) := by
  refine pcall_fn (T3_ok N) _ Try.func3 ok3 nt3 (by simp) fun _ => ?_
  have hS := T3_ok N
  have F := f0
  unfold ac3 rv3
  unfold D_putloglaw07_PlaneMatchesReference at h
  try simp only [gd_some, Option.bind_eq_some_iff] at h
  obtain ⟨r147, hr147, h⟩ := h
  replace F := fc hr147 F
  refine go hS F ?_
  refine cb F (!r147) (fun hc1 => ?_) (fun hc1 => ?_)
  · replace h := cond_t hc1 h
    obtain rfl := Option.some.inj h
    refine go hS F ?_
    exact fin F
  · replace h := cond_f hc1 h
    try simp only [gd_some, Option.bind_eq_some_iff] at h
    obtain ⟨⟨r149, r150⟩, hr150, h⟩ := h
    replace F := fc hr150 F
    try simp only [gd_some, Option.bind_eq_some_iff] at h
    obtain ⟨hv2, hv3, r152, hr152, h⟩ := h
    replace F := fc hr152 F
    try simp only [gd_some, Option.bind_eq_some_iff] at h
    obtain ⟨o167, hL4, h⟩ := h
    refine go hS F ?_
    refine awp_cut (fun z : Nat => ⟨[(3, .sl 2 false ((raw136.take ((min (raw136.length : Int) 9).toNat - 0)).map e_ii) [.i 0, .i 0]), (4, .sl 2 false ((odd137.take ((min (odd137.length : Int) 9).toNat - 0)).map e_ii) [.i 0, .i 0]), (23, .b r147)], [], z⟩) (fun z => (.inl () : Sum Unit Bool) = o167) (.x 0) ?_ ?_
    · refine awp_loop (fun y : Nat × Int × Nat => ⟨[(3, .sl 2 false ((raw136.take ((min (raw136.length : Int) 9).toNat - 0)).map e_ii) [.i 0, .i 0]), (4, .sl 2 false ((odd137.take ((min (odd137.length : Int) 9).toNat - 0)).map e_ii) [.i 0, .i 0]), (7, .i i143), (8, .i k144), (9, .i dx145), (10, .i dy146), (17, .box (1, 1) 0), (23, .b r147), (24, .sl 2 false (r149.map e_ii) [.i 0, .i 0]), (25, .sl 2 false (r150.map e_ii) [.i 0, .i 0]), (61, .own (804, 8) [r149, r150, r152, raw136.take ((min (raw136.length : Int) 9).toNat - 0)].length), (62, .i 4), (63, .i y.2.1)], [(.a (804, 8), .sl 1 true ([r149, r150, r152, raw136.take ((min (raw136.length : Int) 9).toNat - 0)].map e_Sii) [.sl 0 true [] []]), (.c (1, 1) 0, .i p141), (.c (1, 1) 1, .i p142)], y.2.2⟩) (fun y => D_putloglaw07_PlaneMatchesReference_L1 N r149 r150 r152 raw136 p141 p142 i143 k144 dx145 dy146 y.1 y.2.1 = some o167) (fun y => y.1) (N, 0, 8) hL4 ?_ ?_
      · exact leF F
      · rintro ⟨n, x158, c157⟩ hB5
        try simp only at hB5
        obtain _ | n := n
        · exact absurd hB5 (by simp [D_putloglaw07_PlaneMatchesReference_L1])
        rw [D_putloglaw07_PlaneMatchesReference_L1] at hB5
        refine go hS F ?_
        refine cb F (decide (x158 < 4)) (fun hc6 => ?_) (fun hc6 => ?_)
        · replace hB5 := cond_t hc6 hB5
          try simp only [gd_some, Option.bind_eq_some_iff] at hB5
          obtain ⟨x159, hn159, r161, hr161, hv7, hv8, hB5⟩ := hB5
          have hq159 : ∀ d, rowAt [[.sl 2 false (r149.map e_ii) [.i 0, .i 0]], [.sl 2 false (r150.map e_ii) [.i 0, .i 0]], [.sl 2 false (r152.map e_ii) [.i 0, .i 0]], [.sl 2 false ((raw136.take ((min (raw136.length : Int) 9).toNat - 0)).map e_ii) [.i 0, .i 0]]] d x158.toNat = [.sl 2 false (x159.map e_ii) [.i 0, .i 0]] := rq_Sii hn159
          have hb159 := (nth_some hn159).1
          try simp only [List.length_cons, List.length_nil] at hb159
          replace F := fc hr161 (fc hq159 F)
          refine go hS F ?_
          refine cb F (((!r161) || (!((D_putloglaw07_two N r149 x159).getD false))) || (!((D_putloglaw07_two N x159 r150).getD false))) (fun hc9 => ?_) (fun hc9 => ?_)
          · replace hB5 := cond_t hc9 hB5
            obtain rfl := Option.some.inj hB5
            try simp only at h
            obtain rfl := Option.some.inj h
            refine go hS F ?_
            exact fin F
          · replace hB5 := cond_f hc9 hB5
            try simp only [gd_some, Option.bind_eq_some_iff] at hB5
            obtain ⟨hv10, hB5⟩ := hB5
            simp only [I64] at hv10
            refine go hS F ?_
            exact backK_n (n, x158 + 1, c157 + 1 + 1 + 1 + 1) hB5 (Nat.lt_succ_self _) (leF F)
        · replace hB5 := cond_f hc6 hB5
          refine go hS F ?_
          exact cutK_h (c157 + 1) (Option.some.inj hB5) (leF F)
    · rintro c165 hz11
      subst hz11
      try simp only at h
      try simp only [gd_some, Option.bind_eq_some_iff] at h
      obtain ⟨hv12, hv13, h⟩ := h
      obtain rfl := Option.some.inj h
      refine go hS F ?_
      exact fin F
end

end Go.Proofs.Ytojciffnkbfbhaa.Am
