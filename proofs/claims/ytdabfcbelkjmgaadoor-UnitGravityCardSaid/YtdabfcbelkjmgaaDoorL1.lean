import Derived.Test.YtdabfcbelkjmgaaDoorE4
import Derived.Test.YtdabfcbelkjmgaaDoorAl3
namespace Go.Proofs.YtdabfcbelkjmgaaDoor.Am
open Go
attribute [local irreducible] awp seqK blkK backK endK inlK restK rngK asgK itK
set_option maxRecDepth 100000
set_option maxHeartbeats 8000000
set_option linter.unusedSimpArgs false
set_option linter.unusedVariables false
/-! putlog/putloglaw08.UnitGravity -/
def D_putloglaw08_UnitGravity_L1 (N : Nat) (r103 : List (Int × Int)) : Nat → Int → Int → Int → Option (Int × Int)
  | 0, _, _, _ => none
  | n + 1, left118, right119, i120 =>
    bif decide (i120 < (r103.length : Int)) then (
      (nth r103 i120).bind fun (x121, x122) =>
      gd (I64 (i120 + 1)) <|
      D_putloglaw08_UnitGravity_L1 N r103 n (min left118 x121) (max right119 x121) (i120 + 1))
    else (
      some (left118, right119))

def D_putloglaw08_UnitGravity (N : Nat) (x91 : List (Int × Int)) (y92 : List (Int × Int)) (how93 : Int) (p94 : Int) (p95 : Int) (p96 : Int) (p97 : Int) : Option Bool :=
  (D_putloglaw08_sane N).bind fun r98 =>
  bif !r98 then (
    some false)
  else (
    (D_putlogref08_Pair N x91 y92 how93 p94 p95 p96 p97 p94 p95 p96 p97).bind fun ((r100, r101, r102, r103, r104, r105), (r106, r107, r108, r109, r110, r111)) =>
    (D_putloglaw08_UnitGravity_L1 N r103 N 40 0 0).bind fun (left129, right130) =>
    (D_unit_Weight6 N r100 r101 r102 r103 r104 r105).bind fun r132 =>
    (D_unit_Moment6 N r100 r101 r102 r103 r104 r105).bind fun r134 =>
    gd ((decide (0 < r132)) = true → (I64 (left129 * r132))) <|
    gd (((decide (0 < r132)) && (decide (left129 * r132 < r134))) = true → (I64 (right130 * r132))) <|
    some (((decide (0 < r132)) && (decide (left129 * r132 < r134))) && (decide (r134 < right130 * r132))))

def T3 (N : Nat) : List (Nat × Spec) := [(9, s9 N), (10, s10 N), (11, s11 N), (12, s12 N)]
theorem T3_ok (N : Nat) : TabOK Tryd.prog (tabOf (T3 N)) := tab_cons (fok9 N) (tab_cons (fok10 N) (tab_cons (fok11 N) (tab_cons (fok12 N) (tab_nil))))

section
attribute [local go_sem] T3 s9 s10 s11 s12 e_ii de_ii rb_ii d_ii GT_len rowAt_zero rowAt_succ List.set_cons_succ List.isEmpty_map List.map_append List.map_eq_nil_iff ne_eq List.length_replicate takeMap dropMap List.length_set Option.isSome_some
theorem D_putloglaw08_UnitGravity_ok (N : Nat) (x91 : List (Int × Int)) (y92 : List (Int × Int)) (how93 : Int) (p94 : Int) (p95 : Int) (p96 : Int) (p97 : Int) (r : Bool) (h : D_putloglaw08_UnitGravity N x91 y92 how93 p94 p95 p96 p97 = some r) : PCall Tryd.prog 3 [.sl 2 false (x91.map e_ii) [.i 0, .i 0], .sl 2 false (y92.map e_ii) [.i 0, .i 0], .i how93, .agg [.i p94, .i p95, .i p96, .i p97]] (.b r) := by
  refine pcall_fn (T3_ok N) _ Tryd.func3 ok3 nt3 (by simp) fun _ => ?_
  have hS := T3_ok N
  have F := f0
  unfold ac3 rv3
  unfold D_putloglaw08_UnitGravity at h
  try simp only [gd_some, Option.bind_eq_some_iff] at h
  obtain ⟨r98, hr98, h⟩ := h
  replace F := fc hr98 F
  refine go hS F ?_
  refine cb F (!r98) (fun hc1 => ?_) (fun hc1 => ?_)
  · replace h := cond_t hc1 h
    obtain rfl := Option.some.inj h
    refine go hS F ?_
    exact fin F
  · replace h := cond_f hc1 h
    try simp only [gd_some, Option.bind_eq_some_iff] at h
    obtain ⟨⟨⟨r100, r101, r102, r103, r104, r105⟩, ⟨r106, r107, r108, r109, r110, r111⟩⟩, hr111, h⟩ := h
    replace F := fc hr111 F
    try simp only [gd_some, Option.bind_eq_some_iff] at h
    obtain ⟨o131, hL2, h⟩ := h
    refine go hS F ?_
    refine awp_cut (fun z : Int × Int × Nat => ⟨[(10, .box (409, 4) 0), (12, .i z.1), (13, .i z.2.1)], [(.c (409, 4) 0, .i r100), (.c (409, 4) 1, .i r101), (.c (409, 4) 2, .i r102), (.c (409, 4) 3, .sl 2 false (r103.map e_ii) [.i 0, .i 0]), (.c (409, 4) 4, .i r104), (.c (409, 4) 5, .i r105)], z.2.2⟩) (fun z => ((z.1, z.2.1) : Int × Int) = o131) (.x 0) ?_ ?_
    · refine awp_loop (fun y : Nat × Int × Int × Int × Nat => ⟨[(10, .box (409, 4) 0), (12, .i y.2.1), (13, .i y.2.2.1), (14, .i y.2.2.2.1)], [(.c (409, 4) 0, .i r100), (.c (409, 4) 1, .i r101), (.c (409, 4) 2, .i r102), (.c (409, 4) 3, .sl 2 false (r103.map e_ii) [.i 0, .i 0]), (.c (409, 4) 4, .i r104), (.c (409, 4) 5, .i r105)], y.2.2.2.2⟩) (fun y => D_putloglaw08_UnitGravity_L1 N r103 y.1 y.2.1 y.2.2.1 y.2.2.2.1 = some o131) (fun y => y.1) (N, 40, 0, 0, 7) hL2 ?_ ?_
      · exact leF F
      · rintro ⟨n, left118, right119, i120, c117⟩ hB3
        try simp only at hB3
        obtain _ | n := n
        · exact absurd hB3 (by simp [D_putloglaw08_UnitGravity_L1])
        rw [D_putloglaw08_UnitGravity_L1] at hB3
        refine go hS F ?_
        refine cb F (decide (i120 < (r103.length : Int))) (fun hc4 => ?_) (fun hc4 => ?_)
        · replace hB3 := cond_t hc4 hB3
          try simp only [gd_some, Option.bind_eq_some_iff] at hB3
          obtain ⟨⟨x121, x122⟩, hn122, hB3⟩ := hB3
          have hx122 : r103.getD i120.toNat (0, 0) = (x121, x122) := ixs hn122 _
          have hb122 := (nth_some hn122).1
          replace F := fc hx122 F
          try simp only [gd_some, Option.bind_eq_some_iff] at hB3
          obtain ⟨hv5, hB3⟩ := hB3
          simp only [I64] at hv5
          refine go hS F ?_
          exact backK_n (n, min left118 x121, max right119 x121, i120 + 1, c117 + 1 + 1 + 1 + 1) hB3 (Nat.lt_succ_self _) (leF F)
        · replace hB3 := cond_f hc4 hB3
          refine go hS F ?_
          exact cutK_h (left118, right119, c117 + 1) (Option.some.inj hB3) (leF F)
    · rintro ⟨left129, right130, c128⟩ hz6
      subst hz6
      try simp only at h
      try simp only [gd_some, Option.bind_eq_some_iff] at h
      obtain ⟨r132, hr132, r134, hr134, hv7, hv8, h⟩ := h
      simp only [I64] at hv7
      simp only [I64] at hv8
      replace F := fc hr134 (fc hr132 F)
      obtain rfl := Option.some.inj h
      refine go hS F ?_
      exact fin F
end

end Go.Proofs.YtdabfcbelkjmgaaDoor.Am
