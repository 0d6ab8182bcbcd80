import Derived.Test.YtdabfcbelkjmgaaDoorE4
import Derived.Test.YtdabfcbelkjmgaaDoorAl6
namespace Go.Proofs.YtdabfcbelkjmgaaDoor.Am
open Go
attribute [local irreducible] awp seqK blkK backK endK inlK restK rngK asgK itK
set_option maxRecDepth 100000
set_option maxHeartbeats 8000000
set_option linter.unusedSimpArgs false
set_option linter.unusedVariables false
def e_s (x : List UInt8) : List AV := [.v (.string (sB x))]
def d_s : List AV → List UInt8
  | [.v (.string a1)] => (bL a1)
  | _ => []
theorem d1_s (x : List UInt8) : d_s (e_s x) = x := by rfl
theorem de_s (R : List (List UInt8)) : (R.map e_s).map d_s = R := by
  induction R with
  | nil => rfl
  | cons r R ih => rw [List.map_cons, List.map_cons, ih, d1_s]

theorem rb_s (R : List (List UInt8)) (i : Nat) : rowAt (R.map e_s) [.v (.string (sB []))] i = e_s (R.getD i []) := by
  unfold rowAt; rw [List.getD_eq_getElem?_getD, List.getD_eq_getElem?_getD, List.getElem?_map]; cases R[i]? <;> rfl

def e_u8 (x : Int) : List AV := [.v (.int .u8 x)]
def d_u8 : List AV → Int
  | [.v (.int _ a1)] => a1
  | _ => 0
theorem d1_u8 (x : Int) : d_u8 (e_u8 x) = x := by rfl
theorem de_u8 (R : List Int) : (R.map e_u8).map d_u8 = R := by
  induction R with
  | nil => rfl
  | cons r R ih => rw [List.map_cons, List.map_cons, ih, d1_u8]

theorem rb_u8 (R : List Int) (i : Nat) : rowAt (R.map e_u8) [.v (.int .u8 0)] i = e_u8 (R.getD i 0) := by
  unfold rowAt; rw [List.getD_eq_getElem?_getD, List.getD_eq_getElem?_getD, List.getElem?_map]; cases R[i]? <;> rfl
/-! putlog/putloglaw08.UnitDecodes -/
def D_putloglaw08_UnitDecodes_L1 (N : Nat) (r30 : List UInt8) (r44 : Int) (c13 : Int) (text14 : List UInt8) : Nat → Int → Option (Sum Unit Bool)
  | 0, _ => none
  | n + 1, x59 =>
    bif decide (x59 < 2) then (
      (nth [((r30.take r44.toNat) ++ [UInt8.ofNat c13.toNat]) ++ (r30.drop (r44 + 1).toNat), text14.take (min (text14.length : Int) 60).toNat] x59).bind fun x60 =>
      (D_unit_Decode N x60).bind fun ((r62, r63, r64, r65, r66, r67), r68) =>
      bif decide (r68 ≠ 0) then (
        gd (I64 (x59 + 1)) <|
        D_putloglaw08_UnitDecodes_L1 N r30 r44 c13 text14 n (x59 + 1))
      else (
        (D_unit_Encode N r62 r63 r64 r65 r66 r67).bind fun (r70, r71) =>
        gd ((!((decide (r71 ≠ 0)) || (!decide (r70 = x60)))) = true → ((D_unit_Valid N r62 r63 r64 r65 r66 r67).isSome = true)) <|
        bif ((decide (r71 ≠ 0)) || (!decide (r70 = x60))) || (!((D_unit_Valid N r62 r63 r64 r65 r66 r67).getD false)) then (
          some (.inr false))
        else (
          gd (I64 (x59 + 1)) <|
          D_putloglaw08_UnitDecodes_L1 N r30 r44 c13 text14 n (x59 + 1))))
    else (
      some (.inl ()))

def D_putloglaw08_UnitDecodes (N : Nat) (x1 : List (Int × Int)) (y2 : List (Int × Int)) (how3 : Int) (p4 : Int) (p5 : Int) (p6 : Int) (p7 : Int) (q8 : Int) (q9 : Int) (q10 : Int) (q11 : Int) (at12 : Int) (c13 : Int) (text14 : List UInt8) : Option Bool :=
  (D_putloglaw08_sane N).bind fun r15 =>
  bif !r15 then (
    some false)
  else (
    (D_putlogref08_Pair N x1 y2 how3 p4 p5 p6 p7 q8 q9 q10 q11).bind fun ((r17, r18, r19, r20, r21, r22), (r23, r24, r25, r26, r27, r28)) =>
    (D_unit_Encode N r17 r18 r19 r20 r21 r22).bind fun (r30, r31) =>
    (D_unit_Encode N r23 r24 r25 r26 r27 r28).bind fun (r33, r34) =>
    (D_unit_Decode N r30).bind fun ((r36, r37, r38, r39, r40, r41), r42) =>
    gd ((!((((decide (r31 ≠ 0)) || (decide (r34 ≠ 0))) || (decide (r42 ≠ 0))) || (decide ((r30.length : Int) = 0)))) = true → ((D_putlogref08_Same N r36 r37 r38 r39 r40 r41 r17 r18 r19 r20 r21 r22).isSome = true)) <|
    gd ((!(((((decide (r31 ≠ 0)) || (decide (r34 ≠ 0))) || (decide (r42 ≠ 0))) || (decide ((r30.length : Int) = 0))) || (!((D_putlogref08_Same N r36 r37 r38 r39 r40 r41 r17 r18 r19 r20 r21 r22).getD false)))) = true → ((D_putlogref08_Same N r17 r18 r19 r20 r21 r22 r23 r24 r25 r26 r27 r28).isSome = true)) <|
    bif (((((decide (r31 ≠ 0)) || (decide (r34 ≠ 0))) || (decide (r42 ≠ 0))) || (decide ((r30.length : Int) = 0))) || (!((D_putlogref08_Same N r36 r37 r38 r39 r40 r41 r17 r18 r19 r20 r21 r22).getD false))) || ((decide (r30 = r33)) != ((D_putlogref08_Same N r17 r18 r19 r20 r21 r22 r23 r24 r25 r26 r27 r28).getD false)) then (
      some false)
    else (
      gd ((decide ((r30.length : Int) ≤ (r33.length : Int))) = true → (0 ≤ (r30.length : Int) ∧ (r30.length : Int) ≤ (r33.length : Int))) <|
      gd ((decide ((r33.length : Int) ≤ (r30.length : Int))) = true → (0 ≤ (r33.length : Int) ∧ (r33.length : Int) ≤ (r30.length : Int))) <|
      bif (!decide (r30 = r33)) && (((decide ((r30.length : Int) ≤ (r33.length : Int))) && (decide (r33.take (r30.length : Int).toNat = r30))) || ((decide ((r33.length : Int) ≤ (r30.length : Int))) && (decide (r30.take (r33.length : Int).toNat = r33)))) then (
        some false)
      else (
        (D_putloglaw08_pick N at12 (r30.length : Int)).bind fun r44 =>
        gd (0 ≤ r44 ∧ r44 ≤ (r30.length : Int)) <|
        gd (((r30.take r44.toNat) ++ [UInt8.ofNat c13.toNat]).length ≤ 140737488355328) <|
        gd (I64 (r44 + 1)) <|
        gd (0 ≤ r44 + 1 ∧ r44 + 1 ≤ (r30.length : Int)) <|
        gd ((((r30.take r44.toNat) ++ [UInt8.ofNat c13.toNat]) ++ (r30.drop (r44 + 1).toNat)).length ≤ 140737488355328) <|
        gd (0 ≤ min (text14.length : Int) 60 ∧ min (text14.length : Int) 60 ≤ (text14.length : Int)) <|
        (D_putloglaw08_UnitDecodes_L1 N r30 r44 c13 text14 N 0).bind fun o77 => match o77 with
          | .inl () => (
            some r15)
          | .inr r76 => (
            some r76))))

def T6 (N : Nat) : List (Nat × Spec) := [(9, s9 N), (10, s10 N), (21, s21 N), (22, s22 N), (17, s17 N), (13, s13 N), (23, s23 N)]
theorem T6_ok (N : Nat) : TabOK Tryd.prog (tabOf (T6 N)) := tab_cons (fok9 N) (tab_cons (fok10 N) (tab_cons (fok21 N) (tab_cons (fok22 N) (tab_cons (fok17 N) (tab_cons (fok13 N) (tab_cons (fok23 N) (tab_nil)))))))

section
attribute [local go_sem] T6 s9 s10 s21 s22 s17 s13 s23 e_u8 de_u8 rb_u8 d_u8 e_s de_s rb_s d_s e_ii de_ii rb_ii d_ii GT_len rowAt_zero rowAt_succ List.set_cons_succ List.isEmpty_map List.map_append List.map_eq_nil_iff ne_eq List.length_replicate takeMap dropMap rowB isB List.length_set Option.isSome_some
theorem D_putloglaw08_UnitDecodes_ok (N : Nat) (x1 : List (Int × Int)) (y2 : List (Int × Int)) (how3 : Int) (p4 : Int) (p5 : Int) (p6 : Int) (p7 : Int) (q8 : Int) (q9 : Int) (q10 : Int) (q11 : Int) (at12 : Int) (c13 : Int) (text14 : List UInt8) (r : Bool) (h : D_putloglaw08_UnitDecodes N x1 y2 how3 p4 p5 p6 p7 q8 q9 q10 q11 at12 c13 text14 = some r) : PCall Tryd.prog 6 [.sl 2 false (x1.map e_ii) [.i 0, .i 0], .sl 2 false (y2.map e_ii) [.i 0, .i 0], .i how3, .agg [.i p4, .i p5, .i p6, .i p7], .agg [.i q8, .i q9, .i q10, .i q11], .i at12, .v (.int .u8 c13), .v (.string (sB text14))] (.b r) := by
  refine pcall_fn (T6_ok N) _ Tryd.func6 ok6 nt6 (by simp) fun _ => ?_
  have hS := T6_ok N
  have F := f0
  unfold ac6 rv6
  unfold D_putloglaw08_UnitDecodes at h
  try simp only [gd_some, Option.bind_eq_some_iff] at h
  obtain ⟨r15, hr15, h⟩ := h
  replace F := fc hr15 F
  refine go hS F ?_
  refine cb F (!r15) (fun hc1 => ?_) (fun hc1 => ?_)
  · replace h := cond_t hc1 h
    obtain rfl := Option.some.inj h
    refine go hS F ?_
    exact fin F
  · replace h := cond_f hc1 h
    try simp only [gd_some, Option.bind_eq_some_iff] at h
    obtain ⟨⟨⟨r17, r18, r19, r20, r21, r22⟩, ⟨r23, r24, r25, r26, r27, r28⟩⟩, hr28, h⟩ := h
    replace F := fc hr28 F
    try simp only [gd_some, Option.bind_eq_some_iff] at h
    obtain ⟨⟨r30, r31⟩, hr31, h⟩ := h
    replace F := fc hr31 F
    try simp only [gd_some, Option.bind_eq_some_iff] at h
    obtain ⟨⟨r33, r34⟩, hr34, h⟩ := h
    replace F := fc hr34 F
    try simp only [gd_some, Option.bind_eq_some_iff] at h
    obtain ⟨⟨⟨r36, r37, r38, r39, r40, r41⟩, r42⟩, hr42, h⟩ := h
    replace F := fc hr42 F
    try simp only [gd_some, Option.bind_eq_some_iff] at h
    obtain ⟨hv2, hv3, h⟩ := h
    refine go hS F ?_
    refine cb F ((((((decide (r31 ≠ 0)) || (decide (r34 ≠ 0))) || (decide (r42 ≠ 0))) || (decide ((r30.length : Int) = 0))) || (!((D_putlogref08_Same N r36 r37 r38 r39 r40 r41 r17 r18 r19 r20 r21 r22).getD false))) || ((decide (r30 = r33)) != ((D_putlogref08_Same N r17 r18 r19 r20 r21 r22 r23 r24 r25 r26 r27 r28).getD false))) (fun hc4 => ?_) (fun hc4 => ?_)
    · replace h := cond_t hc4 h
      obtain rfl := Option.some.inj h
      refine go hS F ?_
      exact fin F
    · replace h := cond_f hc4 h
      try simp only [gd_some, Option.bind_eq_some_iff] at h
      obtain ⟨hv5, hv6, h⟩ := h
      refine go hS F ?_
      refine cb F ((!decide (r30 = r33)) && (((decide ((r30.length : Int) ≤ (r33.length : Int))) && (decide (r33.take (r30.length : Int).toNat = r30))) || ((decide ((r33.length : Int) ≤ (r30.length : Int))) && (decide (r30.take (r33.length : Int).toNat = r33))))) (fun hc7 => ?_) (fun hc7 => ?_)
      · replace h := cond_t hc7 h
        obtain rfl := Option.some.inj h
        refine go hS F ?_
        exact fin F
      · replace h := cond_f hc7 h
        try simp only [gd_some, Option.bind_eq_some_iff] at h
        obtain ⟨r44, hr44, hv8, hv9, hv10, hv11, hv12, hv13, h⟩ := h
        simp only [I64] at hv10
        replace F := fc hr44 F
        try simp only [gd_some, Option.bind_eq_some_iff] at h
        obtain ⟨o77, hL14, h⟩ := h
        refine go hS F ?_
        refine awp_cut (fun z : Nat => ⟨[(17, .b r15)], [], z⟩) (fun z => (.inl () : Sum Unit Bool) = o77) (.x 0) ?_ ?_
        · refine awp_loop (fun y : Nat × Int × Nat => ⟨[(17, .b r15), (144, .own (1317, 11) [((r30.take r44.toNat) ++ [UInt8.ofNat c13.toNat]) ++ (r30.drop (r44 + 1).toNat), text14.take (min (text14.length : Int) 60).toNat].length), (145, .i 2), (146, .i y.2.1)], [(.a (1317, 11), .sl 1 true ([((r30.take r44.toNat) ++ [UInt8.ofNat c13.toNat]) ++ (r30.drop (r44 + 1).toNat), text14.take (min (text14.length : Int) 60).toNat].map e_s) [.v (.string (sB []))])], y.2.2⟩) (fun y => D_putloglaw08_UnitDecodes_L1 N r30 r44 c13 text14 y.1 y.2.1 = some o77) (fun y => y.1) (N, 0, 11) hL14 ?_ ?_
          · exact leF F
          · rintro ⟨n, x59, c58⟩ hB15
            try simp only at hB15
            obtain _ | n := n
            · exact absurd hB15 (by simp [D_putloglaw08_UnitDecodes_L1])
            rw [D_putloglaw08_UnitDecodes_L1] at hB15
            refine go hS F ?_
            refine cb F (decide (x59 < 2)) (fun hc16 => ?_) (fun hc16 => ?_)
            · replace hB15 := cond_t hc16 hB15
              try simp only [gd_some, Option.bind_eq_some_iff] at hB15
              obtain ⟨x60, hn60, ⟨⟨r62, r63, r64, r65, r66, r67⟩, r68⟩, hr68, hB15⟩ := hB15
              have hx60 : [((r30.take r44.toNat) ++ [UInt8.ofNat c13.toNat]) ++ (r30.drop (r44 + 1).toNat), text14.take (min (text14.length : Int) 60).toNat].getD x59.toNat [] = x60 := ixs hn60 _
              have hq60 : rowAt [[.v (.string (sB (((r30.take r44.toNat) ++ [UInt8.ofNat c13.toNat]) ++ (r30.drop (r44 + 1).toNat))))], [.v (.string (sB (text14.take (min (text14.length : Int) 60).toNat)))]] [.v (.string (sB []))] x59.toNat = [.v (.string (sB x60))] := by have hq := rb_s [((r30.take r44.toNat) ++ [UInt8.ofNat c13.toNat]) ++ (r30.drop (r44 + 1).toNat), text14.take (min (text14.length : Int) 60).toNat] x59.toNat; rw [hx60] at hq; exact hq
              have hb60 := (nth_some hn60).1
              try simp only [List.length_cons, List.length_nil] at hb60
              replace F := fc hr68 (fc hq60 (fc hx60 F))
              refine go hS F ?_
              refine cb F (decide (r68 ≠ 0)) (fun hc17 => ?_) (fun hc17 => ?_)
              · replace hB15 := cond_t hc17 hB15
                try simp only [gd_some, Option.bind_eq_some_iff] at hB15
                obtain ⟨hv18, hB15⟩ := hB15
                simp only [I64] at hv18
                refine go hS F ?_
                exact backK_n (n, x59 + 1, c58 + 1 + 1 + 1 + 1 + 1) hB15 (Nat.lt_succ_self _) (leF F)
              · replace hB15 := cond_f hc17 hB15
                try simp only [gd_some, Option.bind_eq_some_iff] at hB15
                obtain ⟨⟨r70, r71⟩, hr71, hB15⟩ := hB15
                replace F := fc hr71 F
                try simp only [gd_some, Option.bind_eq_some_iff] at hB15
                obtain ⟨hv19, hB15⟩ := hB15
                refine go hS F ?_
                refine cb F (((decide (r71 ≠ 0)) || (!decide (r70 = x60))) || (!((D_unit_Valid N r62 r63 r64 r65 r66 r67).getD false))) (fun hc20 => ?_) (fun hc20 => ?_)
                · replace hB15 := cond_t hc20 hB15
                  obtain rfl := Option.some.inj hB15
                  try simp only at h
                  obtain rfl := Option.some.inj h
                  refine go hS F ?_
                  exact fin F
                · replace hB15 := cond_f hc20 hB15
                  try simp only [gd_some, Option.bind_eq_some_iff] at hB15
                  obtain ⟨hv21, hB15⟩ := hB15
                  simp only [I64] at hv21
                  refine go hS F ?_
                  exact backK_n (n, x59 + 1, c58 + 1 + 1 + 1 + 1 + 1 + 1 + 1) hB15 (Nat.lt_succ_self _) (leF F)
            · replace hB15 := cond_f hc16 hB15
              refine go hS F ?_
              exact cutK_h (c58 + 1) (Option.some.inj hB15) (leF F)
        · rintro c75 hz22
          subst hz22
          try simp only at h
          obtain rfl := Option.some.inj h
          refine go hS F ?_
          exact fin F
end

end Go.Proofs.YtdabfcbelkjmgaaDoor.Am
