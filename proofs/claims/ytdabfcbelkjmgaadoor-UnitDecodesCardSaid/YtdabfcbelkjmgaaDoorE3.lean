import Derived.Test.YtdabfcbelkjmgaaDoorD1
import Derived.Test.YtdabfcbelkjmgaaDoorAc3
namespace Go.Proofs.YtdabfcbelkjmgaaDoor.Am
open Go
attribute [local irreducible] awp seqK blkK backK endK inlK restK rngK asgK itK
set_option maxRecDepth 100000
set_option maxHeartbeats 8000000
set_option linter.unusedSimpArgs false
set_option linter.unusedVariables false
/-! putlog/wire.Int -/
def D_wire_Int_L1 (N : Nat) (at2 : Int) (s1 : List UInt8) : Nat → Int → Int → Option (Sum Unit ((Int × Int × Int)))
  | 0, _, _ => none
  | n + 1, z5, x6 =>
    bif decide (x6 < 9) then (
      gd (I64 (at2 + x6)) <|
      bif decide ((s1.length : Int) ≤ at2 + x6) then (
        some (.inl ()))
      else (
        gd (I64 (at2 + x6)) <|
        gd (0 ≤ at2 + x6 ∧ at2 + x6 < (s1.length : Int)) <|
        gd (I64 (7 * x6)) <|
        gd (0 ≤ 7 * x6) <|
        bif decide (128 ≤ ((s1.getD (at2 + x6).toNat 0).toNat : Int)) then (
          gd (I64 (x6 + 1)) <|
          D_wire_Int_L1 N at2 s1 n (bitsI .or .u64 z5 (shfI .shl .u64 (IntKind.wrap .u64 (bitsI .and .u8 ((s1.getD (at2 + x6).toNat 0).toNat : Int) 127)) (7 * x6))) (x6 + 1))
        else (
          gd (I64 (-(IntKind.wrap .i64 (bitsI .and .u64 (bitsI .or .u64 z5 (shfI .shl .u64 (IntKind.wrap .u64 (bitsI .and .u8 ((s1.getD (at2 + x6).toNat 0).toNat : Int) 127)) (7 * x6))) 1)))) <|
          bif ((decide (((s1.getD (at2 + x6).toNat 0).toNat : Int) = 0)) && (decide (0 < x6))) || (decide (bitsI .xor .i64 (IntKind.wrap .i64 (shfI .shr .u64 (bitsI .or .u64 z5 (shfI .shl .u64 (IntKind.wrap .u64 (bitsI .and .u8 ((s1.getD (at2 + x6).toNat 0).toNat : Int) 127)) (7 * x6))) 1)) (-(IntKind.wrap .i64 (bitsI .and .u64 (bitsI .or .u64 z5 (shfI .shl .u64 (IntKind.wrap .u64 (bitsI .and .u8 ((s1.getD (at2 + x6).toNat 0).toNat : Int) 127)) (7 * x6))) 1))) < (-4611686018427387903))) then (
            some (.inl ()))
          else (
            gd (I64 (at2 + x6)) <|
            gd (I64 ((at2 + x6) + 1)) <|
            some (.inr (bitsI .xor .i64 (IntKind.wrap .i64 (shfI .shr .u64 (bitsI .or .u64 z5 (shfI .shl .u64 (IntKind.wrap .u64 (bitsI .and .u8 ((s1.getD (at2 + x6).toNat 0).toNat : Int) 127)) (7 * x6))) 1)) (-(IntKind.wrap .i64 (bitsI .and .u64 (bitsI .or .u64 z5 (shfI .shl .u64 (IntKind.wrap .u64 (bitsI .and .u8 ((s1.getD (at2 + x6).toNat 0).toNat : Int) 127)) (7 * x6))) 1))), (at2 + x6) + 1, 0))))))
    else (
      some (.inl ()))

def D_wire_Int (N : Nat) (s1 : List UInt8) (at2 : Int) : Option (Int × Int × Int) :=
  bif (decide (at2 < 0)) || (decide ((s1.length : Int) < at2)) then (
    some (0, 0, 2))
  else (
    (D_wire_Int_L1 N at2 s1 N 0 0).bind fun o12 => match o12 with
      | .inl () => (
        some (0, 0, 10))
      | .inr r11 => (
        some r11))

def T63 (N : Nat) : List (Nat × Spec) := []
theorem T63_ok (N : Nat) : TabOK Tryd.prog (tabOf (T63 N)) := tab_nil

section
attribute [local go_sem] T63 GT_len rowAt_zero rowAt_succ List.set_cons_succ List.isEmpty_map List.map_append List.map_eq_nil_iff ne_eq List.length_replicate takeMap dropMap List.length_set Option.isSome_some
theorem D_wire_Int_ok (N : Nat) (s1 : List UInt8) (at2 : Int) (r : Int × Int × Int) (h : D_wire_Int N s1 at2 = some r) : PCall Tryd.prog 63 [.v (.string (sB s1)), .i at2] (.tup [.i r.1, .i r.2.1, .i r.2.2]) := by
  refine pcall_fn (T63_ok N) _ Tryd.func63 ok63 nt63 (by simp) fun _ => ?_
  have hS := T63_ok N
  have F := f0
  unfold ac63 rv63
  unfold D_wire_Int at h
  refine go hS F ?_
  refine cb F ((decide (at2 < 0)) || (decide ((s1.length : Int) < at2))) (fun hc1 => ?_) (fun hc1 => ?_)
  · replace h := cond_t hc1 h
    obtain rfl := Option.some.inj h
    refine go hS F ?_
    exact fin F
  · replace h := cond_f hc1 h
    try simp only [gd_some, Option.bind_eq_some_iff] at h
    obtain ⟨o12, hL2, h⟩ := h
    refine go hS F ?_
    refine awp_cut (fun z : Nat => ⟨[], [], z⟩) (fun z => (.inl () : Sum Unit ((Int × Int × Int))) = o12) (.x 0) ?_ ?_
    · refine awp_loop (fun y : Nat × Int × Int × Nat => ⟨[(0, .v (.string (sB s1))), (1, .i at2), (7, .v (.int .u64 y.2.1)), (19, .i y.2.2.1)], [], y.2.2.2⟩) (fun y => D_wire_Int_L1 N at2 s1 y.1 y.2.1 y.2.2.1 = some o12) (fun y => y.1) (N, 0, 0, 4) hL2 ?_ ?_
      · exact leF F
      · rintro ⟨n, z5, x6, c4⟩ hB3
        try simp only at hB3
        obtain _ | n := n
        · exact absurd hB3 (by simp [D_wire_Int_L1])
        rw [D_wire_Int_L1] at hB3
        refine go hS F ?_
        refine cb F (decide (x6 < 9)) (fun hc4 => ?_) (fun hc4 => ?_)
        · replace hB3 := cond_t hc4 hB3
          try simp only [gd_some, Option.bind_eq_some_iff] at hB3
          obtain ⟨hv5, hB3⟩ := hB3
          simp only [I64] at hv5
          refine go hS F ?_
          refine cb F (decide ((s1.length : Int) ≤ at2 + x6)) (fun hc6 => ?_) (fun hc6 => ?_)
          · replace hB3 := cond_t hc6 hB3
            refine go hS F ?_
            exact cutK_h (c4 + 1 + 1 + 1) (Option.some.inj hB3) (leF F)
          · replace hB3 := cond_f hc6 hB3
            try simp only [gd_some, Option.bind_eq_some_iff] at hB3
            obtain ⟨hv7, hv8, hv9, hv10, hB3⟩ := hB3
            simp only [I64] at hv7
            simp only [I64] at hv9
            refine go hS F ?_
            refine cb F (decide (128 ≤ ((s1.getD (at2 + x6).toNat 0).toNat : Int))) (fun hc11 => ?_) (fun hc11 => ?_)
            · replace hB3 := cond_t hc11 hB3
              try simp only [gd_some, Option.bind_eq_some_iff] at hB3
              obtain ⟨hv12, hB3⟩ := hB3
              simp only [I64] at hv12
              refine go hS F ?_
              exact backK_n (n, bitsI .or .u64 z5 (shfI .shl .u64 (IntKind.wrap .u64 (bitsI .and .u8 ((s1.getD (at2 + x6).toNat 0).toNat : Int) 127)) (7 * x6)), x6 + 1, c4 + 1 + 1 + 1 + 1 + 1 + 1 + 1) hB3 (Nat.lt_succ_self _) (leF F)
            · replace hB3 := cond_f hc11 hB3
              try simp only [gd_some, Option.bind_eq_some_iff] at hB3
              obtain ⟨hv13, hB3⟩ := hB3
              simp only [I64] at hv13
              refine go hS F ?_
              refine cb F (((decide (((s1.getD (at2 + x6).toNat 0).toNat : Int) = 0)) && (decide (0 < x6))) || (decide (bitsI .xor .i64 (IntKind.wrap .i64 (shfI .shr .u64 (bitsI .or .u64 z5 (shfI .shl .u64 (IntKind.wrap .u64 (bitsI .and .u8 ((s1.getD (at2 + x6).toNat 0).toNat : Int) 127)) (7 * x6))) 1)) (-(IntKind.wrap .i64 (bitsI .and .u64 (bitsI .or .u64 z5 (shfI .shl .u64 (IntKind.wrap .u64 (bitsI .and .u8 ((s1.getD (at2 + x6).toNat 0).toNat : Int) 127)) (7 * x6))) 1))) < (-4611686018427387903)))) (fun hc14 => ?_) (fun hc14 => ?_)
              · replace hB3 := cond_t hc14 hB3
                refine go hS F ?_
                exact cutK_h (c4 + 1 + 1 + 1 + 1 + 1 + 1 + 1 + 1) (Option.some.inj hB3) (leF F)
              · replace hB3 := cond_f hc14 hB3
                try simp only [gd_some, Option.bind_eq_some_iff] at hB3
                obtain ⟨hv15, hv16, hB3⟩ := hB3
                simp only [I64] at hv15
                simp only [I64] at hv16
                obtain rfl := Option.some.inj hB3
                try simp only at h
                obtain rfl := Option.some.inj h
                refine go hS F ?_
                exact fin F
        · replace hB3 := cond_f hc4 hB3
          refine go hS F ?_
          exact cutK_h (c4 + 1) (Option.some.inj hB3) (leF F)
    · rintro c10 hz17
      subst hz17
      try simp only at h
      obtain rfl := Option.some.inj h
      refine go hS F ?_
      exact fin F
end

def s63 (N : Nat) : Spec
  | [.v (.string s1), .v (.int .i64 at2)] => some ((D_wire_Int N (bL s1) at2).isSome = true, .tup [.i (((D_wire_Int N (bL s1) at2).getD (0, 0, 0)).1), .i (((D_wire_Int N (bL s1) at2).getD (0, 0, 0)).2.1), .i (((D_wire_Int N (bL s1) at2).getD (0, 0, 0)).2.2)])
  | _ => none
theorem fok63 (N : Nat) : FOK Tryd.prog 63 (s63 N) := ⟨of63, by
  intro args vc r h hv
  unfold s63 at h
  split at h
  · cases h
    have hs := hv
    obtain ⟨r, hr⟩ := Option.isSome_iff_exists.1 hs
    have hk := D_wire_Int_ok N _ _ r hr
    simp only [hr, Option.getD_some]
    refine PCall.arg ?_ hk
    simp only [wkL, wk, and_true, true_and, Bool.false_eq_true, false_implies, implies_true]
    try trivial
  · simp at h⟩
end Go.Proofs.YtdabfcbelkjmgaaDoor.Am
