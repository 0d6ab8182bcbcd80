import Derived.Test.YtdabfcbelkjmgaaDoorA16
import Derived.Test.YtdabfcbelkjmgaaDoorAc3
import Derived.Test.YtdabfcbelkjmgaaDoorE1
/-
  wire: the groups of a number, and how a number is written.
-/
namespace Go.Proofs.YtdabfcbelkjmgaaDoor.Am
open Go
attribute [local irreducible] awp seqK blkK backK endK inlK restK rngK asgK itK
set_option maxRecDepth 100000
set_option maxHeartbeats 8000000
set_option linter.unusedSimpArgs false
set_option linter.unusedVariables false
/-- The lowest seven bits. -/
def grpB (z : Int) : Int := IntKind.wrap .u8 (bitsI .and .u64 z 127)
def grpL : Nat → Int → List (Int × Bool)
  | 0, _ => []
  | f + 1, z => if z < 128 then [(grpB z, true)] else (grpB z, false) :: grpL f (shfI .shr .u64 z 7)
def grA (e : Int × Bool) : List AV := [.v (.int .u8 e.1), .v (.bool e.2)]
theorem shr7 (z : Int) : shfI .shr .u64 z 7 = z / 128 := by
  show z.fdiv (2 ^ min (7 : Int).toNat 64) = z / 128
  rw [show (2 : Int) ^ min (7 : Int).toNat 64 = 128 by decide]
  exact Int.fdiv_eq_ediv_of_nonneg z (by decide)
theorem grpL_lt {f : Nat} {z : Int} (h : z < 128) : grpL (f + 1) z = [(grpB z, true)] := if_pos h
theorem grpL_ge {f : Nat} {z : Int} (h : ¬ z < 128) : grpL (f + 1) z = (grpB z, false) :: grpL f (shfI .shr .u64 z 7) := if_neg h
theorem grpL_len : ∀ (f : Nat) (z : Int), (grpL f z).length ≤ f
  | 0, z => by simp [grpL]
  | f + 1, z => by
    have := grpL_len f (shfI .shr .u64 z 7)
    unfold grpL
    split
    · simp
    · simp only [List.length_cons]; omega

theorem groups_it (z0 : Int) (m : Nm) (hz0 : 0 ≤ z0 ∧ z0 < 128 ^ 10) : ItB Tryd.prog 85 [] [.box m 0] m [.v (.int .u64 z0)] ((grpL 10 z0).map grA) := by
  refine itb_fnF (tab_nil (P := Tryd.prog)) _ Tryd.func85 ok85 nt85 (by simp [gs]) (by simp) fun l Γ hOK hTS hY => ?_
  have hS := tab_nil (P := Tryd.prog)
  unfold ac85
  repeat' (first
    | ((first | with_reducible apply awp_sr5 | with_reducible apply awp_r5 | with_reducible apply awp_sd | with_reducible apply awp_d | with_reducible apply inlR_n5 | with_reducible apply inlR_r5); (· (first | exact Ctx.fn_ok hS | exact Ctx.rd_ok hS | assumption | exact True.intro)); iterate 2 (· (simp only [go_sem, seval, hTS] <;> eq_refl)))
    | (first | with_reducible apply awp_scp | with_reducible apply awp_sn | with_reducible apply awp_nop | with_reducible apply awp_ret | with_reducible apply awp_exit | with_reducible apply awp_block | with_reducible apply awp_seq | with_reducible apply seqK_n | with_reducible apply seqK_r | with_reducible apply seqK_x | with_reducible apply blkK_n | with_reducible apply blkK_r | with_reducible apply blkK_x)
    | (with_reducible apply blkK_y; (· first | rfl | decide))
    | (first | with_reducible apply backK_x | with_reducible apply backK_r | with_reducible apply asgK_n | with_reducible apply rngK_x | with_reducible apply rngK_r | with_reducible apply True.intro | with_reducible apply And.intro True.intro True.intro)
    | (fail_if_success with_reducible apply K_id); (fail_if_success with_reducible apply awp_id); first | omega | (simp only [go_sem, seval, hTS]; done)
    | fail)
  refine awp_loop (fun x : Nat × Int × Nat × Nat => ⟨[(1, .box m 0), (gs, ghost x.2.2.1), (0, .clo (.yield l) [] [])], [(.c m 0, .v (.int .u64 x.2.1))], x.2.2.2⟩)
    (fun x => (0 < x.1 ∧ 0 ≤ x.2.1 ∧ x.2.1 < 128 ^ x.1) ∧ ((grpL 10 z0).drop x.2.2.1 = grpL x.1 x.2.1 ∧ x.2.2.1 ≤ (grpL 10 z0).length)) (fun x => x.1) (10, z0, 0, m.2) ?_ ?_ ?_
  · exact ⟨⟨Nat.zero_lt_succ _, hz0⟩, rfl, Nat.zero_le _⟩
  · refine Le.of ?_ ?_ (by simp) <;> (simp only [go_sem, seval]; try simp)
  · rintro ⟨f, z, k, c⟩ ⟨⟨hf, hz1, hz2⟩, hk, hkl⟩
    simp only at hf hz1 hz2 hk hkl
    obtain _ | f := f
    · exact absurd hf (Nat.lt_irrefl _)
    have hkl' : k < (grpL 10 z0).length := by
      have := congrArg List.length hk
      rw [List.length_drop] at this
      by_cases hz : z < 128
      · rw [grpL_lt hz, List.length_cons] at this; omega
      · rw [grpL_ge hz, List.length_cons] at this; omega
    by_cases hz : z < 128
    · have hk' : (grpL 10 z0).drop k = [(grpB z, true)] := by rw [hk, grpL_lt hz]
      have hk1 : k + 1 = (grpL 10 z0).length := by
        have := congrArg List.length hk'
        simp only [List.length_drop, List.length_cons, List.length_nil] at this
        omega
      have hxs : ((grpL 10 z0).map grA)[k]? = some [.v (.int .u8 (grpB z)), .v (.bool true)] := by
        have : (grpL 10 z0)[k]? = ((grpL 10 z0).drop k)[0]? := by simp
        rw [List.getElem?_map, this, hk']; rfl
      repeat' (first
    | ((first | with_reducible apply awp_sr5 | with_reducible apply awp_r5 | with_reducible apply awp_sd | with_reducible apply awp_d | with_reducible apply inlR_n5 | with_reducible apply inlR_r5); (· (first | exact Ctx.fn_ok hS | exact Ctx.rd_ok hS | assumption | exact True.intro)); iterate 2 (· (simp only [go_sem, seval, hTS, hz] <;> eq_refl)))
    | (first | with_reducible apply awp_scp | with_reducible apply awp_sn | with_reducible apply awp_nop | with_reducible apply awp_ret | with_reducible apply awp_exit | with_reducible apply awp_block | with_reducible apply awp_seq | with_reducible apply seqK_n | with_reducible apply seqK_r | with_reducible apply seqK_x | with_reducible apply blkK_n | with_reducible apply blkK_r | with_reducible apply blkK_x)
    | (with_reducible apply blkK_y; (· first | rfl | decide))
    | (first | with_reducible apply backK_x | with_reducible apply backK_r | with_reducible apply asgK_n | with_reducible apply rngK_x | with_reducible apply rngK_r | with_reducible apply True.intro | with_reducible apply And.intro True.intro True.intro)
    | (fail_if_success with_reducible apply K_id); (fail_if_success with_reducible apply awp_id); first | omega | (simp only [go_sem, seval, hTS, hz]; done)
    | fail)
      refine hY 5 (args := [.v (.int .u8 (grpB z)), .v (.bool true)]) rfl (by simp only [go_sem, seval, hTS, hz] <;> eq_refl) (by simp only [go_sem, seval, hTS, hz] <;> eq_refl) (by decide) (by simp only [go_sem, seval] <;> eq_refl) (by simp only [go_sem, seval] <;> eq_refl) (by simp only [go_sem, seval] <;> eq_refl) (by simp only [go_sem, seval, Am.grpB] <;> eq_refl) hxs (by simp only [go_sem, seval, hTS] <;> eq_refl) ?_ ?_ (by simp only [go_sem, seval, hTS] <;> eq_refl) ?_ ?_
      · simp only [go_sem, seval]
      · repeat' (first
    | ((first | with_reducible apply awp_sr5 | with_reducible apply awp_r5 | with_reducible apply awp_sd | with_reducible apply awp_d | with_reducible apply inlR_n5 | with_reducible apply inlR_r5); (· (first | exact Ctx.fn_ok hS | exact Ctx.rd_ok hS | assumption | exact True.intro)); iterate 2 (· (simp only [go_sem, seval, hTS] <;> eq_refl)))
    | (first | with_reducible apply awp_scp | with_reducible apply awp_sn | with_reducible apply awp_nop | with_reducible apply awp_ret | with_reducible apply awp_exit | with_reducible apply awp_block | with_reducible apply awp_seq | with_reducible apply seqK_n | with_reducible apply seqK_r | with_reducible apply seqK_x | with_reducible apply blkK_n | with_reducible apply blkK_r | with_reducible apply blkK_x)
    | (with_reducible apply blkK_y; (· first | rfl | decide))
    | (first | with_reducible apply backK_x | with_reducible apply backK_r | with_reducible apply asgK_n | with_reducible apply rngK_x | with_reducible apply rngK_r | with_reducible apply True.intro | with_reducible apply And.intro True.intro True.intro)
    | (fail_if_success with_reducible apply K_id); (fail_if_success with_reducible apply awp_id); first | omega | (simp only [go_sem, seval, hTS]; done)
    | fail)
        refine awp_ct (by simp only [go_sem, seval] <;> eq_refl) ?_
        repeat' (first
    | ((first | with_reducible apply awp_sr5 | with_reducible apply awp_r5 | with_reducible apply awp_sd | with_reducible apply awp_d | with_reducible apply inlR_n5 | with_reducible apply inlR_r5); (· (first | exact Ctx.fn_ok hS | exact Ctx.rd_ok hS | assumption | exact True.intro)); iterate 2 (· (simp only [go_sem, seval, hTS] <;> eq_refl)))
    | (first | with_reducible apply awp_scp | with_reducible apply awp_sn | with_reducible apply awp_nop | with_reducible apply awp_ret | with_reducible apply awp_exit | with_reducible apply awp_block | with_reducible apply awp_seq | with_reducible apply seqK_n | with_reducible apply seqK_r | with_reducible apply seqK_x | with_reducible apply blkK_n | with_reducible apply blkK_r | with_reducible apply blkK_x)
    | (with_reducible apply blkK_y; (· first | rfl | decide))
    | (first | with_reducible apply backK_x | with_reducible apply backK_r | with_reducible apply asgK_n | with_reducible apply rngK_x | with_reducible apply rngK_r | with_reducible apply True.intro | with_reducible apply And.intro True.intro True.intro)
    | (fail_if_success with_reducible apply K_id); (fail_if_success with_reducible apply awp_id); first | omega | (simp only [go_sem, seval, hTS]; done)
    | fail)
        refine itK_r ?_
        simp only [go_sem, seval, List.length_map]
        rw [← hk1]; rfl
      · simp only [go_sem, seval]
      · repeat' (first
    | ((first | with_reducible apply awp_sr5 | with_reducible apply awp_r5 | with_reducible apply awp_sd | with_reducible apply awp_d | with_reducible apply inlR_n5 | with_reducible apply inlR_r5); (· (first | exact Ctx.fn_ok hS | exact Ctx.rd_ok hS | assumption | exact True.intro)); iterate 2 (· (simp only [go_sem, seval, hTS] <;> eq_refl)))
    | (first | with_reducible apply awp_scp | with_reducible apply awp_sn | with_reducible apply awp_nop | with_reducible apply awp_ret | with_reducible apply awp_exit | with_reducible apply awp_block | with_reducible apply awp_seq | with_reducible apply seqK_n | with_reducible apply seqK_r | with_reducible apply seqK_x | with_reducible apply blkK_n | with_reducible apply blkK_r | with_reducible apply blkK_x)
    | (with_reducible apply blkK_y; (· first | rfl | decide))
    | (first | with_reducible apply backK_x | with_reducible apply backK_r | with_reducible apply asgK_n | with_reducible apply rngK_x | with_reducible apply rngK_r | with_reducible apply True.intro | with_reducible apply And.intro True.intro True.intro)
    | (fail_if_success with_reducible apply K_id); (fail_if_success with_reducible apply awp_id); first | omega | (simp only [go_sem, seval, hTS]; done)
    | fail)
        refine awp_ct (by simp only [go_sem, seval] <;> eq_refl) ?_
        repeat' (first
    | ((first | with_reducible apply awp_sr5 | with_reducible apply awp_r5 | with_reducible apply awp_sd | with_reducible apply awp_d | with_reducible apply inlR_n5 | with_reducible apply inlR_r5); (· (first | exact Ctx.fn_ok hS | exact Ctx.rd_ok hS | assumption | exact True.intro)); iterate 2 (· (simp only [go_sem, seval, hTS] <;> eq_refl)))
    | (first | with_reducible apply awp_scp | with_reducible apply awp_sn | with_reducible apply awp_nop | with_reducible apply awp_ret | with_reducible apply awp_exit | with_reducible apply awp_block | with_reducible apply awp_seq | with_reducible apply seqK_n | with_reducible apply seqK_r | with_reducible apply seqK_x | with_reducible apply blkK_n | with_reducible apply blkK_r | with_reducible apply blkK_x)
    | (with_reducible apply blkK_y; (· first | rfl | decide))
    | (first | with_reducible apply backK_x | with_reducible apply backK_r | with_reducible apply asgK_n | with_reducible apply rngK_x | with_reducible apply rngK_r | with_reducible apply True.intro | with_reducible apply And.intro True.intro True.intro)
    | (fail_if_success with_reducible apply K_id); (fail_if_success with_reducible apply awp_id); first | omega | (simp only [go_sem, seval, hTS]; done)
    | fail)
        refine itK_r' ?_
        simp only [go_sem, seval]
    · have hk' : (grpL 10 z0).drop k = (grpB z, false) :: grpL f (shfI .shr .u64 z 7) := by rw [hk, grpL_ge hz]
      have hxs : ((grpL 10 z0).map grA)[k]? = some [.v (.int .u8 (grpB z)), .v (.bool false)] := by
        have : (grpL 10 z0)[k]? = ((grpL 10 z0).drop k)[0]? := by simp
        rw [List.getElem?_map, this, hk']; rfl
      repeat' (first
    | ((first | with_reducible apply awp_sr5 | with_reducible apply awp_r5 | with_reducible apply awp_sd | with_reducible apply awp_d | with_reducible apply inlR_n5 | with_reducible apply inlR_r5); (· (first | exact Ctx.fn_ok hS | exact Ctx.rd_ok hS | assumption | exact True.intro)); iterate 2 (· (simp only [go_sem, seval, hTS, hz] <;> eq_refl)))
    | (first | with_reducible apply awp_scp | with_reducible apply awp_sn | with_reducible apply awp_nop | with_reducible apply awp_ret | with_reducible apply awp_exit | with_reducible apply awp_block | with_reducible apply awp_seq | with_reducible apply seqK_n | with_reducible apply seqK_r | with_reducible apply seqK_x | with_reducible apply blkK_n | with_reducible apply blkK_r | with_reducible apply blkK_x)
    | (with_reducible apply blkK_y; (· first | rfl | decide))
    | (first | with_reducible apply backK_x | with_reducible apply backK_r | with_reducible apply asgK_n | with_reducible apply rngK_x | with_reducible apply rngK_r | with_reducible apply True.intro | with_reducible apply And.intro True.intro True.intro)
    | (fail_if_success with_reducible apply K_id); (fail_if_success with_reducible apply awp_id); first | omega | (simp only [go_sem, seval, hTS, hz]; done)
    | fail)
      refine hY 5 (args := [.v (.int .u8 (grpB z)), .v (.bool false)]) rfl (by simp only [go_sem, seval, hTS, hz] <;> eq_refl) (by simp only [go_sem, seval, hTS, hz] <;> eq_refl) (by decide) (by simp only [go_sem, seval] <;> eq_refl) (by simp only [go_sem, seval] <;> eq_refl) (by simp only [go_sem, seval] <;> eq_refl) (by simp only [go_sem, seval, Am.grpB] <;> eq_refl) hxs (by simp only [go_sem, seval, hTS] <;> eq_refl) ?_ ?_ (by simp only [go_sem, seval, hTS] <;> eq_refl) ?_ ?_
      · simp only [go_sem, seval]
      · repeat' (first
    | ((first | with_reducible apply awp_sr5 | with_reducible apply awp_r5 | with_reducible apply awp_sd | with_reducible apply awp_d | with_reducible apply inlR_n5 | with_reducible apply inlR_r5); (· (first | exact Ctx.fn_ok hS | exact Ctx.rd_ok hS | assumption | exact True.intro)); iterate 2 (· (simp only [go_sem, seval, hTS] <;> eq_refl)))
    | (first | with_reducible apply awp_scp | with_reducible apply awp_sn | with_reducible apply awp_nop | with_reducible apply awp_ret | with_reducible apply awp_exit | with_reducible apply awp_block | with_reducible apply awp_seq | with_reducible apply seqK_n | with_reducible apply seqK_r | with_reducible apply seqK_x | with_reducible apply blkK_n | with_reducible apply blkK_r | with_reducible apply blkK_x)
    | (with_reducible apply blkK_y; (· first | rfl | decide))
    | (first | with_reducible apply backK_x | with_reducible apply backK_r | with_reducible apply asgK_n | with_reducible apply rngK_x | with_reducible apply rngK_r | with_reducible apply True.intro | with_reducible apply And.intro True.intro True.intro)
    | (fail_if_success with_reducible apply K_id); (fail_if_success with_reducible apply awp_id); first | omega | (simp only [go_sem, seval, hTS]; done)
    | fail)
        refine awp_cf (by simp only [go_sem, seval] <;> eq_refl) ?_
        repeat' (first
    | ((first | with_reducible apply awp_sr5 | with_reducible apply awp_r5 | with_reducible apply awp_sd | with_reducible apply awp_d | with_reducible apply inlR_n5 | with_reducible apply inlR_r5); (· (first | exact Ctx.fn_ok hS | exact Ctx.rd_ok hS | assumption | exact True.intro)); iterate 2 (· (simp only [go_sem, seval, hTS] <;> eq_refl)))
    | (first | with_reducible apply awp_scp | with_reducible apply awp_sn | with_reducible apply awp_nop | with_reducible apply awp_ret | with_reducible apply awp_exit | with_reducible apply awp_block | with_reducible apply awp_seq | with_reducible apply seqK_n | with_reducible apply seqK_r | with_reducible apply seqK_x | with_reducible apply blkK_n | with_reducible apply blkK_r | with_reducible apply blkK_x)
    | (with_reducible apply blkK_y; (· first | rfl | decide))
    | (first | with_reducible apply backK_x | with_reducible apply backK_r | with_reducible apply asgK_n | with_reducible apply rngK_x | with_reducible apply rngK_r | with_reducible apply True.intro | with_reducible apply And.intro True.intro True.intro)
    | (fail_if_success with_reducible apply K_id); (fail_if_success with_reducible apply awp_id); first | omega | (simp only [go_sem, seval, hTS]; done)
    | fail)
        have hf0 : 0 < f := by
          rcases Nat.eq_zero_or_pos f with rfl | h
          · exact absurd hz2 (by simp only [Nat.zero_add, Int.pow_one] at hz2 ⊢; omega)
          · exact h
        refine backK_n (f, shfI .shr .u64 z 7, k + 1, c + 50) ⟨⟨hf0, ?_, ?_⟩, ?_, by show k + 1 ≤ _; omega⟩ (Nat.lt_succ_self _) (Le.of ?_ ?_ ?_)
        · show 0 ≤ shfI .shr .u64 z 7
          rw [shr7]; omega
        · show shfI .shr .u64 z 7 < 128 ^ f
          rw [shr7]
          rw [Int.pow_succ] at hz2
          omega
        · show (grpL 10 z0).drop (k + 1) = _
          have : (grpL 10 z0).drop (k + 1) = ((grpL 10 z0).drop k).drop 1 := by simp
          rw [this, hk']; rfl
        · simp only [go_sem, seval] <;> simp
        · simp only [go_sem, seval]
        · simp
      · simp only [go_sem, seval]
      · repeat' (first
    | ((first | with_reducible apply awp_sr5 | with_reducible apply awp_r5 | with_reducible apply awp_sd | with_reducible apply awp_d | with_reducible apply inlR_n5 | with_reducible apply inlR_r5); (· (first | exact Ctx.fn_ok hS | exact Ctx.rd_ok hS | assumption | exact True.intro)); iterate 2 (· (simp only [go_sem, seval, hTS] <;> eq_refl)))
    | (first | with_reducible apply awp_scp | with_reducible apply awp_sn | with_reducible apply awp_nop | with_reducible apply awp_ret | with_reducible apply awp_exit | with_reducible apply awp_block | with_reducible apply awp_seq | with_reducible apply seqK_n | with_reducible apply seqK_r | with_reducible apply seqK_x | with_reducible apply blkK_n | with_reducible apply blkK_r | with_reducible apply blkK_x)
    | (with_reducible apply blkK_y; (· first | rfl | decide))
    | (first | with_reducible apply backK_x | with_reducible apply backK_r | with_reducible apply asgK_n | with_reducible apply rngK_x | with_reducible apply rngK_r | with_reducible apply True.intro | with_reducible apply And.intro True.intro True.intro)
    | (fail_if_success with_reducible apply K_id); (fail_if_success with_reducible apply awp_id); first | omega | (simp only [go_sem, seval, hTS]; done)
    | fail)
        refine awp_ct (by simp only [go_sem, seval] <;> eq_refl) ?_
        repeat' (first
    | ((first | with_reducible apply awp_sr5 | with_reducible apply awp_r5 | with_reducible apply awp_sd | with_reducible apply awp_d | with_reducible apply inlR_n5 | with_reducible apply inlR_r5); (· (first | exact Ctx.fn_ok hS | exact Ctx.rd_ok hS | assumption | exact True.intro)); iterate 2 (· (simp only [go_sem, seval, hTS] <;> eq_refl)))
    | (first | with_reducible apply awp_scp | with_reducible apply awp_sn | with_reducible apply awp_nop | with_reducible apply awp_ret | with_reducible apply awp_exit | with_reducible apply awp_block | with_reducible apply awp_seq | with_reducible apply seqK_n | with_reducible apply seqK_r | with_reducible apply seqK_x | with_reducible apply blkK_n | with_reducible apply blkK_r | with_reducible apply blkK_x)
    | (with_reducible apply blkK_y; (· first | rfl | decide))
    | (first | with_reducible apply backK_x | with_reducible apply backK_r | with_reducible apply asgK_n | with_reducible apply rngK_x | with_reducible apply rngK_r | with_reducible apply True.intro | with_reducible apply And.intro True.intro True.intro)
    | (fail_if_success with_reducible apply K_id); (fail_if_success with_reducible apply awp_id); first | omega | (simp only [go_sem, seval, hTS]; done)
    | fail)
        refine itK_r' ?_
        simp only [go_sem, seval]

/-- The number, its sign folded in. -/
def zz (n : Int) : Int := bitsI .xor .u64 (shfI .shl .u64 (IntKind.wrap .u64 n) 1) (IntKind.wrap .u64 (shfI .shr .i64 n 63))
def grO (e : Int × Bool) : Int := if e.2 = true then e.1 else bitsI .or .u8 e.1 128
def putI (n : Int) : List Int := (grpL 10 (zz n)).map grO
def toB (l : List Int) : List UInt8 := l.map fun x => UInt8.ofNat x.toNat
def putS (n : Int) : List UInt8 := bif decide (n < -4611686018427387903) || decide (4611686018427387903 < n) then [] else toB (putI n)
def eB (x : Int) : List AV := [.v (.int .u8 x)]
theorem eB_isB (l : List Int) : (l.map eB).all isB = true := by induction l with | nil => rfl | cons x l ih => simp [eB, isB]
theorem eB_rowB (l : List Int) : (l.map eB).map rowB = toB l := by induction l with | nil => rfl | cons x l ih => rw [List.map_cons, List.map_cons, ih]; rfl
theorem wrap_u64 (n : Int) : 0 ≤ IntKind.wrap .u64 n ∧ IntKind.wrap .u64 n < 128 ^ 10 := by
  have h : IntKind.wrap .u64 n = n % 2 ^ 64 := by simp [IntKind.wrap, IntKind.bits, IntKind.signed]
  rw [h]
  have : (2 : Int) ^ 64 = 18446744073709551616 := by decide
  rw [this, show (128 : Int) ^ 10 = 1180591620717411303424 by decide]
  omega
theorem zz_bd (n : Int) : 0 ≤ zz n ∧ zz n < 128 ^ 10 := wrap_u64 _

theorem putInt_ok (n : Int) : PCall Tryd.prog 61 [.i n] (.tup [.v (.string (sB (putS n))), .i (bif decide (n < -4611686018427387903) || decide (4611686018427387903 < n) then 10 else 0)]) := by
  refine pcall_fn (tab_nil (P := Tryd.prog)) _ Tryd.func61 ok61 nt61 (by simp) fun _ => ?_
  have hS := tab_nil (P := Tryd.prog)
  unfold ac61 rv61
  repeat' (first
    | ((first | with_reducible apply awp_sr5 | with_reducible apply awp_r5 | with_reducible apply awp_sd | with_reducible apply awp_d | with_reducible apply inlR_n5 | with_reducible apply inlR_r5); (· (first | exact Ctx.fn_ok hS | exact Ctx.rd_ok hS | assumption | exact True.intro)); iterate 2 (· (simp only [go_sem, seval] <;> eq_refl)))
    | (first | with_reducible apply awp_scp | with_reducible apply awp_sn | with_reducible apply awp_nop | with_reducible apply awp_ret | with_reducible apply awp_exit | with_reducible apply awp_block | with_reducible apply awp_seq | with_reducible apply seqK_n | with_reducible apply seqK_r | with_reducible apply seqK_x | with_reducible apply blkK_n | with_reducible apply blkK_r | with_reducible apply blkK_x)
    | (with_reducible apply blkK_y; (· first | rfl | decide))
    | (first | with_reducible apply backK_x | with_reducible apply backK_r | with_reducible apply asgK_n | with_reducible apply rngK_x | with_reducible apply rngK_r | with_reducible apply True.intro | with_reducible apply And.intro True.intro True.intro)
    | (fail_if_success with_reducible apply K_id); (fail_if_success with_reducible apply awp_id); first | omega | (simp only [go_sem, seval]; done)
    | fail)
  refine awp_c (b := decide (n < -4611686018427387903) || decide (4611686018427387903 < n)) (by simp only [go_sem, seval] <;> eq_refl) (fun hb => ?_) fun hb => ?_
  · repeat' (first
    | ((first | with_reducible apply awp_sr5 | with_reducible apply awp_r5 | with_reducible apply awp_sd | with_reducible apply awp_d | with_reducible apply inlR_n5 | with_reducible apply inlR_r5); (· (first | exact Ctx.fn_ok hS | exact Ctx.rd_ok hS | assumption | exact True.intro)); iterate 2 (· (simp only [go_sem, seval] <;> eq_refl)))
    | (first | with_reducible apply awp_scp | with_reducible apply awp_sn | with_reducible apply awp_nop | with_reducible apply awp_ret | with_reducible apply awp_exit | with_reducible apply awp_block | with_reducible apply awp_seq | with_reducible apply seqK_n | with_reducible apply seqK_r | with_reducible apply seqK_x | with_reducible apply blkK_n | with_reducible apply blkK_r | with_reducible apply blkK_x)
    | (with_reducible apply blkK_y; (· first | rfl | decide))
    | (first | with_reducible apply backK_x | with_reducible apply backK_r | with_reducible apply asgK_n | with_reducible apply rngK_x | with_reducible apply rngK_r | with_reducible apply True.intro | with_reducible apply And.intro True.intro True.intro)
    | (fail_if_success with_reducible apply K_id); (fail_if_success with_reducible apply awp_id); first | omega | (simp only [go_sem, seval]; done)
    | fail)
    first | refine endK_r (by simp only [go_sem, seval] <;> eq_refl) (by simp only [go_sem, seval]) (by simp only [go_sem, seval]) ?_ rfl | refine endK_n (by simp only [go_sem, seval] <;> eq_refl) (by simp only [go_sem, seval]) (by simp only [go_sem, seval]) ?_ rfl
    simp only [putS, hb, go_sem, seval]
  · repeat' (first
    | ((first | with_reducible apply awp_sr5 | with_reducible apply awp_r5 | with_reducible apply awp_sd | with_reducible apply awp_d | with_reducible apply inlR_n5 | with_reducible apply inlR_r5); (· (first | exact Ctx.fn_ok hS | exact Ctx.rd_ok hS | assumption | exact True.intro)); iterate 2 (· (simp only [go_sem, seval] <;> eq_refl)))
    | (first | with_reducible apply awp_scp | with_reducible apply awp_sn | with_reducible apply awp_nop | with_reducible apply awp_ret | with_reducible apply awp_exit | with_reducible apply awp_block | with_reducible apply awp_seq | with_reducible apply seqK_n | with_reducible apply seqK_r | with_reducible apply seqK_x | with_reducible apply blkK_n | with_reducible apply blkK_r | with_reducible apply blkK_x)
    | (with_reducible apply blkK_y; (· first | rfl | decide))
    | (first | with_reducible apply backK_x | with_reducible apply backK_r | with_reducible apply asgK_n | with_reducible apply rngK_x | with_reducible apply rngK_r | with_reducible apply True.intro | with_reducible apply And.intro True.intro True.intro)
    | (fail_if_success with_reducible apply K_id); (fail_if_success with_reducible apply awp_id); first | omega | (simp only [go_sem, seval]; done)
    | fail)
    refine awp_inlF hS 7 Tryd.func75 ok75 nt75 of75 rfl (by simp only [go_sem, seval] <;> eq_refl) (by simp only [go_sem, seval] <;> eq_refl) ?_ rfl (by simp only [go_sem, seval] <;> eq_refl) (by simp) fun _ => ?_
    · exact True.intro
    unfold ac75 rv75
    repeat' (first
    | ((first | with_reducible apply awp_sr5 | with_reducible apply awp_r5 | with_reducible apply awp_sd | with_reducible apply awp_d | with_reducible apply inlR_n5 | with_reducible apply inlR_r5); (· (first | exact Ctx.fn_ok hS | exact Ctx.rd_ok hS | assumption | exact True.intro)); iterate 2 (· (simp only [go_sem, seval] <;> eq_refl)))
    | (first | with_reducible apply awp_scp | with_reducible apply awp_sn | with_reducible apply awp_nop | with_reducible apply awp_ret | with_reducible apply awp_exit | with_reducible apply awp_block | with_reducible apply awp_seq | with_reducible apply seqK_n | with_reducible apply seqK_r | with_reducible apply seqK_x | with_reducible apply blkK_n | with_reducible apply blkK_r | with_reducible apply blkK_x)
    | (with_reducible apply blkK_y; (· first | rfl | decide))
    | (first | with_reducible apply backK_x | with_reducible apply backK_r | with_reducible apply asgK_n | with_reducible apply rngK_x | with_reducible apply rngK_r | with_reducible apply True.intro | with_reducible apply And.intro True.intro True.intro)
    | (fail_if_success with_reducible apply K_id); (fail_if_success with_reducible apply awp_id); first | omega | (simp only [go_sem, seval]; done)
    | fail)
    refine awp_claimCk 1 (300, 3) 0 1 [.v (.int .u8 0)] (by omega) (by simp only [go_sem, seval] <;> eq_refl) ?_
    have hlen := grpL_len 10 (zz n)
    refine awp_rfunB (0, 5) [.v (.int .u64 (zz n))] (fun x : Nat × List Int × Nat => ([(.c (300, 3) 0, .own (1, 8) x.2.1.length), (.a (1, 8), .sl 1 true (x.2.1.map eB) [.v (.int .u8 0)])], x.2.2))
      (fun x => x.2.1 = ((grpL 10 (zz n)).take x.1).map grO ∧ x.1 ≤ (grpL 10 (zz n)).length) (fun x => x.1) (0, [], 8) (by simp only [go_sem, seval] <;> eq_refl) (groups_it (zz n) (0, 5) (zz_bd n)) of85 ⟨rfl, rfl, rfl⟩ ⟨rfl, rfl, rfl⟩ (fun j => by simp [hl]) (by simp) (by intro a ha; obtain ⟨y, _, rfl⟩ := List.mem_map.1 ha; exact ⟨rfl, rfl⟩) ⟨rfl, Nat.zero_le _⟩ rfl ?_ ?_ ?_
    · exact leF f0
    · rintro l ⟨k, out, c⟩ ⟨hout, hk⟩ args ha
      simp only at hout hk
      obtain ⟨⟨g, last⟩, hy, rfl, hlt⟩ := rd_step ha
      have hout2 : out ++ [grO (g, last)] = ((grpL 10 (zz n)).take (k + 1)).map grO := by
        have : (grpL 10 (zz n))[k]? = some (g, last) := by
          have : (grpL 10 (zz n))[k]? = ((grpL 10 (zz n)).drop k)[0]? := by simp
          rw [this, hy]; rfl
        rw [List.take_add_one, this, List.map_append, hout]; rfl
      have hol : out.length = k := by rw [hout]; simp; omega
      clear ha hy
      simp only [grA, putps]
      have hOK := Ctx.rdG_ok (nt := 33) (l := l) hS
      cases last with
      | true =>
        repeat' (first
    | ((first | with_reducible apply awp_sr5 | with_reducible apply awp_r5 | with_reducible apply awp_sd | with_reducible apply awp_d | with_reducible apply inlR_n5 | with_reducible apply inlR_r5); (· (first | exact Ctx.fn_ok hS | exact Ctx.rd_ok hS | assumption | exact True.intro)); iterate 2 (· (simp only [go_sem, seval] <;> eq_refl)))
    | (first | with_reducible apply awp_scp | with_reducible apply awp_sn | with_reducible apply awp_nop | with_reducible apply awp_ret | with_reducible apply awp_exit | with_reducible apply awp_block | with_reducible apply awp_seq | with_reducible apply seqK_n | with_reducible apply seqK_r | with_reducible apply seqK_x | with_reducible apply blkK_n | with_reducible apply blkK_r | with_reducible apply blkK_x)
    | (with_reducible apply blkK_y; (· first | rfl | decide))
    | (first | with_reducible apply backK_x | with_reducible apply backK_r | with_reducible apply asgK_n | with_reducible apply rngK_x | with_reducible apply rngK_r | with_reducible apply True.intro | with_reducible apply And.intro True.intro True.intro)
    | (fail_if_success with_reducible apply K_id); (fail_if_success with_reducible apply awp_id); first | omega | (simp only [go_sem, seval]; done)
    | fail)
        refine awp_cf (by simp only [go_sem, seval] <;> eq_refl) ?_
        repeat' (first
    | ((first | with_reducible apply awp_sr5 | with_reducible apply awp_r5 | with_reducible apply awp_sd | with_reducible apply awp_d | with_reducible apply inlR_n5 | with_reducible apply inlR_r5); (· (first | exact Ctx.fn_ok hS | exact Ctx.rd_ok hS | assumption | exact True.intro)); iterate 2 (· (simp only [go_sem, seval] <;> eq_refl)))
    | (first | with_reducible apply awp_scp | with_reducible apply awp_sn | with_reducible apply awp_nop | with_reducible apply awp_ret | with_reducible apply awp_exit | with_reducible apply awp_block | with_reducible apply awp_seq | with_reducible apply seqK_n | with_reducible apply seqK_r | with_reducible apply seqK_x | with_reducible apply blkK_n | with_reducible apply blkK_r | with_reducible apply blkK_x)
    | (with_reducible apply blkK_y; (· first | rfl | decide))
    | (first | with_reducible apply backK_x | with_reducible apply backK_r | with_reducible apply asgK_n | with_reducible apply rngK_x | with_reducible apply rngK_r | with_reducible apply True.intro | with_reducible apply And.intro True.intro True.intro)
    | (fail_if_success with_reducible apply K_id); (fail_if_success with_reducible apply awp_id); first | omega | (simp only [go_sem, seval]; done)
    | fail)
        refine rngK_n (k + 1, out ++ [g], c + 50) ⟨by rw [← hout2]; rfl, hlt⟩ rfl ?_
        refine Le.of ?_ ?_ (by first | exact Nat.le_refl _ | (simp; omega) | simp) <;> first | (simp only [go_sem, seval, eB]; done) | (simp only [go_sem, seval, eB, List.map_append, List.map_cons, List.map_nil, List.map_set, List.map_take, List.map_drop]; done) | (simp [eB, List.map_append, List.map_set]; done)
      | false =>
        repeat' (first
    | ((first | with_reducible apply awp_sr5 | with_reducible apply awp_r5 | with_reducible apply awp_sd | with_reducible apply awp_d | with_reducible apply inlR_n5 | with_reducible apply inlR_r5); (· (first | exact Ctx.fn_ok hS | exact Ctx.rd_ok hS | assumption | exact True.intro)); iterate 2 (· (simp only [go_sem, seval] <;> eq_refl)))
    | (first | with_reducible apply awp_scp | with_reducible apply awp_sn | with_reducible apply awp_nop | with_reducible apply awp_ret | with_reducible apply awp_exit | with_reducible apply awp_block | with_reducible apply awp_seq | with_reducible apply seqK_n | with_reducible apply seqK_r | with_reducible apply seqK_x | with_reducible apply blkK_n | with_reducible apply blkK_r | with_reducible apply blkK_x)
    | (with_reducible apply blkK_y; (· first | rfl | decide))
    | (first | with_reducible apply backK_x | with_reducible apply backK_r | with_reducible apply asgK_n | with_reducible apply rngK_x | with_reducible apply rngK_r | with_reducible apply True.intro | with_reducible apply And.intro True.intro True.intro)
    | (fail_if_success with_reducible apply K_id); (fail_if_success with_reducible apply awp_id); first | omega | (simp only [go_sem, seval]; done)
    | fail)
        refine awp_ct (by simp only [go_sem, seval] <;> eq_refl) ?_
        repeat' (first
    | ((first | with_reducible apply awp_sr5 | with_reducible apply awp_r5 | with_reducible apply awp_sd | with_reducible apply awp_d | with_reducible apply inlR_n5 | with_reducible apply inlR_r5); (· (first | exact Ctx.fn_ok hS | exact Ctx.rd_ok hS | assumption | exact True.intro)); iterate 2 (· (simp only [go_sem, seval] <;> eq_refl)))
    | (first | with_reducible apply awp_scp | with_reducible apply awp_sn | with_reducible apply awp_nop | with_reducible apply awp_ret | with_reducible apply awp_exit | with_reducible apply awp_block | with_reducible apply awp_seq | with_reducible apply seqK_n | with_reducible apply seqK_r | with_reducible apply seqK_x | with_reducible apply blkK_n | with_reducible apply blkK_r | with_reducible apply blkK_x)
    | (with_reducible apply blkK_y; (· first | rfl | decide))
    | (first | with_reducible apply backK_x | with_reducible apply backK_r | with_reducible apply asgK_n | with_reducible apply rngK_x | with_reducible apply rngK_r | with_reducible apply True.intro | with_reducible apply And.intro True.intro True.intro)
    | (fail_if_success with_reducible apply K_id); (fail_if_success with_reducible apply awp_id); first | omega | (simp only [go_sem, seval]; done)
    | fail)
        refine rngK_n (k + 1, out ++ [bitsI .or .u8 g 128], c + 50) ⟨by rw [← hout2]; rfl, hlt⟩ rfl ?_
        refine Le.of ?_ ?_ (by first | exact Nat.le_refl _ | (simp; omega) | simp) <;> first | (simp only [go_sem, seval, eB]; done) | (simp only [go_sem, seval, eB, List.map_append, List.map_cons, List.map_nil, List.map_set, List.map_take, List.map_drop]; done) | (simp [eB, List.map_append, List.map_set]; done)
    · rintro ⟨k, out, c⟩ ⟨hout, hk⟩ hk2
      simp only at hout hk
      repeat' (first
    | ((first | with_reducible apply awp_sr5 | with_reducible apply awp_r5 | with_reducible apply awp_sd | with_reducible apply awp_d | with_reducible apply inlR_n5 | with_reducible apply inlR_r5); (· (first | exact Ctx.fn_ok hS | exact Ctx.rd_ok hS | assumption | exact True.intro)); iterate 2 (· (simp only [go_sem, seval, eB_isB, eB_rowB] <;> eq_refl)))
    | (first | with_reducible apply awp_scp | with_reducible apply awp_sn | with_reducible apply awp_nop | with_reducible apply awp_ret | with_reducible apply awp_exit | with_reducible apply awp_block | with_reducible apply awp_seq | with_reducible apply seqK_n | with_reducible apply seqK_r | with_reducible apply seqK_x | with_reducible apply blkK_n | with_reducible apply blkK_r | with_reducible apply blkK_x)
    | (with_reducible apply blkK_y; (· first | rfl | decide))
    | (first | with_reducible apply backK_x | with_reducible apply backK_r | with_reducible apply asgK_n | with_reducible apply rngK_x | with_reducible apply rngK_r | with_reducible apply True.intro | with_reducible apply And.intro True.intro True.intro)
    | (fail_if_success with_reducible apply K_id); (fail_if_success with_reducible apply awp_id); first | omega | (simp only [go_sem, seval, eB_isB, eB_rowB]; done)
    | fail)
      first | refine endK_r (by simp only [go_sem, seval] <;> eq_refl) (by simp only [go_sem, seval]) (by simp only [go_sem, seval]) ?_ rfl | refine endK_n (by simp only [go_sem, seval] <;> eq_refl) (by simp only [go_sem, seval]) (by simp only [go_sem, seval]) ?_ rfl
      have : out = putI n := by rw [hout, show k = _ from hk2, putI, List.length_map, List.take_length]
      simp only [putS, hb, this, go_sem, seval]
end Go.Proofs.YtdabfcbelkjmgaaDoor.Am
/-
  unit: numbers are written into a builder.
-/
namespace Go.Proofs.YtdabfcbelkjmgaaDoor.Am
open Go
attribute [local irreducible] awp seqK blkK backK endK inlK restK rngK asgK itK
set_option maxRecDepth 100000
set_option maxHeartbeats 8000000
set_option linter.unusedSimpArgs false
set_option linter.unusedVariables false
def sPutI : Spec
  | [.v (.int .i64 n)] => some (True, .tup [.v (.string (sB (putS n))), .i (bif decide (n < -4611686018427387903) || decide (4611686018427387903 < n) then 10 else 0)])
  | _ => none
theorem putI_fok : FOK Tryd.prog 61 sPutI := ⟨of61, by
  intro args vc r h hv
  unfold sPutI at h
  split at h
  · cases h
    exact putInt_ok _
  · simp at h⟩
def S42 : List (Nat × Spec) := [(61, sPutI)]
theorem S42_ok : TabOK Tryd.prog (tabOf S42) := tab_cons putI_fok tab_nil
def eI (x : Int) : List AV := [.i x]
theorem eI_row (ns : List Int) (d : List AV) (j : Nat) (h : j < ns.length) : rowAt (ns.map eI) d j = [.i (ns.getD j 0)] := by
  unfold rowAt
  simp [List.getD_eq_getElem?_getD, h, eI]
/-- The bytes of numbers. -/
def numS (ns : List Int) : List UInt8 := (ns.map putS).flatten
theorem of_write : okF Tryd.prog 62 := ⟨Tryd.f62, Tryd.func62, by kernel_rfl, by kernel_rfl⟩
theorem of_string : okF Tryd.prog 43 := ⟨Tryd.f43, Tryd.func43, by kernel_rfl, by kernel_rfl⟩
theorem numS_le (ns : List Int) (j : Nat) : (numS (ns.take j)).length ≤ (numS ns).length := by
  have : numS ns = numS (ns.take j) ++ numS (ns.drop j) := by
    unfold numS
    rw [← List.flatten_append, ← List.map_append, List.take_append_drop]
  rw [this, List.length_append]
  omega
theorem numS_succ {ns : List Int} {j : Nat} (h : j < ns.length) : numS (ns.take (j + 1)) = numS (ns.take j) ++ putS (ns.getD j 0) := by
  unfold numS
  have : ns[j]? = some (ns.getD j 0) := by simp [List.getD_eq_getElem?_getD, h]
  rw [List.take_add_one, this]
  simp

theorem numbers_b (ns : List Int) (f : Bool) (d : List AV) (l : List UInt8) (hl : (l ++ numS ns).length ≤ 140737488355328) (hn : ns.length ≤ 1000000) : BCall Tryd.prog 42 [.sl 1 f (ns.map eI) d] l (some (l ++ numS ns)) (.tup []) := by
  refine bcall_fn S42_ok _ Tryd.func42 ok42 nt42 (by decide) (by simp) fun hb N X b => ?_
  have hS := S42_ok
  have hOK := Ctx.bd_ok (nt := 25) (hb := hb) (N := N) (X := X) (hnt := by decide) hS
  unfold ac42 rv42
  repeat' (first
    | ((first | with_reducible apply awp_sr5 | with_reducible apply awp_r5 | with_reducible apply awp_sd | with_reducible apply awp_d | with_reducible apply inlR_n5 | with_reducible apply inlR_r5); (· (first | exact Ctx.fn_ok hS | exact Ctx.rd_ok hS | assumption | exact True.intro)); iterate 2 (· (simp only [go_sem, seval, bd_S] <;> eq_refl)))
    | (first | with_reducible apply awp_scp | with_reducible apply awp_sn | with_reducible apply awp_nop | with_reducible apply awp_ret | with_reducible apply awp_exit | with_reducible apply awp_block | with_reducible apply awp_seq | with_reducible apply seqK_n | with_reducible apply seqK_r | with_reducible apply seqK_x | with_reducible apply blkK_n | with_reducible apply blkK_r | with_reducible apply blkK_x)
    | (with_reducible apply blkK_y; (· first | rfl | decide))
    | (first | with_reducible apply backK_x | with_reducible apply backK_r | with_reducible apply asgK_n | with_reducible apply rngK_x | with_reducible apply rngK_r | with_reducible apply True.intro | with_reducible apply And.intro True.intro True.intro)
    | (fail_if_success with_reducible apply K_id); (fail_if_success with_reducible apply awp_id); first | omega | (simp only [go_sem, seval, bd_S]; done)
    | fail)
  refine awp_loop (fun x : Nat × Nat => ⟨[(10, .i x.1), (9, .i ns.length), (8, .sl 1 f (ns.map eI) d), (0, .v (.pointer (some ⟨b, 0, none⟩))), (bk, gB b (l ++ numS (ns.take x.1)))], [], x.2⟩)
    (fun x => x.1 ≤ ns.length) (fun x => ns.length - x.1) (0, 50) ?_ ?_ ?_
  · exact Nat.zero_le _
  · refine Le.of ?_ ?_ (by simp) <;> (simp only [go_sem, seval, numS]; try simp)
  · rintro ⟨j, c⟩ hj
    simp only at hj
    repeat' (first
    | ((first | with_reducible apply awp_sr5 | with_reducible apply awp_r5 | with_reducible apply awp_sd | with_reducible apply awp_d | with_reducible apply inlR_n5 | with_reducible apply inlR_r5); (· (first | exact Ctx.fn_ok hS | exact Ctx.rd_ok hS | assumption | exact True.intro)); iterate 2 (· (simp only [go_sem, seval] <;> eq_refl)))
    | (first | with_reducible apply awp_scp | with_reducible apply awp_sn | with_reducible apply awp_nop | with_reducible apply awp_ret | with_reducible apply awp_exit | with_reducible apply awp_block | with_reducible apply awp_seq | with_reducible apply seqK_n | with_reducible apply seqK_r | with_reducible apply seqK_x | with_reducible apply blkK_n | with_reducible apply blkK_r | with_reducible apply blkK_x)
    | (with_reducible apply blkK_y; (· first | rfl | decide))
    | (first | with_reducible apply backK_x | with_reducible apply backK_r | with_reducible apply asgK_n | with_reducible apply rngK_x | with_reducible apply rngK_r | with_reducible apply True.intro | with_reducible apply And.intro True.intro True.intro)
    | (fail_if_success with_reducible apply K_id); (fail_if_success with_reducible apply awp_id); first | omega | (simp only [go_sem, seval]; done)
    | fail)
    refine awp_cp ((j : Int) < ns.length) (by simp only [go_sem, seval] <;> eq_refl) (by first | simp only [Bool.decide_or, Bool.decide_and, decide_not] | simp) (fun hj1 => ?_) (fun hj1 => ?_)
    · have hj' : j < ns.length := by omega
      have hrow := eI_row ns d j hj'
      have hsu := numS_succ hj'
      have hle := numS_le ns (j + 1)
      rw [hsu, List.length_append] at hle
      have hl2 : (l ++ numS (ns.take j)).length + (putS (ns.getD j 0)).length ≤ 140737488355328 := by
        rw [List.length_append] at hl ⊢
        omega
      repeat' (first
    | ((first | with_reducible apply awp_sr5 | with_reducible apply awp_r5 | with_reducible apply awp_sd | with_reducible apply awp_d | with_reducible apply inlR_n5 | with_reducible apply inlR_r5); (· (first | exact Ctx.fn_ok hS | exact Ctx.rd_ok hS | assumption | exact True.intro)); iterate 2 (· (simp only [go_sem, seval, Am.S42, Am.sPutI, hrow] <;> eq_refl)))
    | (first | with_reducible apply awp_scp | with_reducible apply awp_sn | with_reducible apply awp_nop | with_reducible apply awp_ret | with_reducible apply awp_exit | with_reducible apply awp_block | with_reducible apply awp_seq | with_reducible apply seqK_n | with_reducible apply seqK_r | with_reducible apply seqK_x | with_reducible apply blkK_n | with_reducible apply blkK_r | with_reducible apply blkK_x)
    | (with_reducible apply blkK_y; (· first | rfl | decide))
    | (first | with_reducible apply backK_x | with_reducible apply backK_r | with_reducible apply asgK_n | with_reducible apply rngK_x | with_reducible apply rngK_r | with_reducible apply True.intro | with_reducible apply And.intro True.intro True.intro)
    | (fail_if_success with_reducible apply K_id); (fail_if_success with_reducible apply awp_id); first | omega | (simp only [go_sem, seval, Am.S42, Am.sPutI, hrow]; done)
    | fail)
      refine awp_bcall hS 4 rfl of_write (by simp only [go_sem, seval] <;> eq_refl) True.intro (by simp only [go_sem, seval] <;> eq_refl) (by simp only [go_sem, seval] <;> eq_refl) (by simp only [go_sem, seval] <;> eq_refl) (by simp only [go_sem, seval, rvcL] <;> eq_refl) rfl rfl (bcall_write hl2) (by simp only [go_sem, seval] <;> eq_refl) True.intro ?_
      repeat' (first
    | ((first | with_reducible apply awp_sr5 | with_reducible apply awp_r5 | with_reducible apply awp_sd | with_reducible apply awp_d | with_reducible apply inlR_n5 | with_reducible apply inlR_r5); (· (first | exact Ctx.fn_ok hS | exact Ctx.rd_ok hS | assumption | exact True.intro)); iterate 2 (· (simp only [go_sem, seval] <;> eq_refl)))
    | (first | with_reducible apply awp_scp | with_reducible apply awp_sn | with_reducible apply awp_nop | with_reducible apply awp_ret | with_reducible apply awp_exit | with_reducible apply awp_block | with_reducible apply awp_seq | with_reducible apply seqK_n | with_reducible apply seqK_r | with_reducible apply seqK_x | with_reducible apply blkK_n | with_reducible apply blkK_r | with_reducible apply blkK_x)
    | (with_reducible apply blkK_y; (· first | rfl | decide))
    | (first | with_reducible apply backK_x | with_reducible apply backK_r | with_reducible apply asgK_n | with_reducible apply rngK_x | with_reducible apply rngK_r | with_reducible apply True.intro | with_reducible apply And.intro True.intro True.intro)
    | (fail_if_success with_reducible apply K_id); (fail_if_success with_reducible apply awp_id); first | omega | (simp only [go_sem, seval]; done)
    | fail)
      refine backK_n (j + 1, c + 50) (by show j + 1 ≤ _; omega) (by show ns.length - (j + 1) < ns.length - j; omega) (Le.of ?_ ?_ ?_)
      · simp only [go_sem, seval, hsu, List.append_assoc] <;> simp
      · simp only [go_sem, seval]
      · simp
    · repeat' (first
    | ((first | with_reducible apply awp_sr5 | with_reducible apply awp_r5 | with_reducible apply awp_sd | with_reducible apply awp_d | with_reducible apply inlR_n5 | with_reducible apply inlR_r5); (· (first | exact Ctx.fn_ok hS | exact Ctx.rd_ok hS | assumption | exact True.intro)); iterate 2 (· (simp only [go_sem, seval] <;> eq_refl)))
    | (first | with_reducible apply awp_scp | with_reducible apply awp_sn | with_reducible apply awp_nop | with_reducible apply awp_ret | with_reducible apply awp_exit | with_reducible apply awp_block | with_reducible apply awp_seq | with_reducible apply seqK_n | with_reducible apply seqK_r | with_reducible apply seqK_x | with_reducible apply blkK_n | with_reducible apply blkK_r | with_reducible apply blkK_x)
    | (with_reducible apply blkK_y; (· first | rfl | decide))
    | (first | with_reducible apply backK_x | with_reducible apply backK_r | with_reducible apply asgK_n | with_reducible apply rngK_x | with_reducible apply rngK_r | with_reducible apply True.intro | with_reducible apply And.intro True.intro True.intro)
    | (fail_if_success with_reducible apply K_id); (fail_if_success with_reducible apply awp_id); first | omega | (simp only [go_sem, seval]; done)
    | fail)
      have : j = ns.length := by omega
      subst this
      rw [List.take_length]
      refine endB_n (by simp only [go_sem, seval] <;> eq_refl) (by simp only [go_sem, seval] <;> eq_refl) True.intro (by simp only [go_sem, seval] <;> eq_refl) (by simp only [go_sem, seval] <;> eq_refl) rfl
end Go.Proofs.YtdabfcbelkjmgaaDoor.Am
/-
  unit: the encoding.
-/
namespace Go.Proofs.YtdabfcbelkjmgaaDoor.Am
open Go
attribute [local irreducible] awp seqK blkK backK endK inlK restK rngK asgK itK
set_option maxRecDepth 100000
set_option maxHeartbeats 8000000
set_option linter.unusedSimpArgs false
set_option linter.unusedVariables false
theorem bt_writer : BT 90 := ⟨by kernel_rfl, by decide⟩
def S21 (N : Nat) : List (Nat × Spec) := [(23, s23 N)]
theorem S21_ok (N : Nat) : TabOK Tryd.prog (tabOf (S21 N)) := tab_cons (fok23 N) tab_nil
def headS (a b c n p q : Int) : List UInt8 := numS [a, b, c, p, q, n]
def ptS (l : List (Int × Int)) : List UInt8 := (l.map fun p => numS [p.1, p.2]).flatten
def encS (a b c : Int) (l : List (Int × Int)) (p q : Int) : List UInt8 := headS a b c l.length p q ++ ptS l
theorem putS_len (n : Int) : (putS n).length ≤ 10 := by
  unfold putS
  cases h : (decide (n < -4611686018427387903) || decide (4611686018427387903 < n)) with
  | true => simp
  | false => simp only [cond_false, toB, putI, List.length_map]; exact grpL_len 10 _
theorem numS_len : ∀ (ns : List Int), (numS ns).length ≤ 10 * ns.length
  | [] => by simp [numS]
  | n :: ns => by
    have h1 := putS_len n
    have h2 := numS_len ns
    simp only [numS, List.map_cons, List.flatten_cons, List.length_append, List.length_cons] at h2 ⊢
    omega
theorem ptS_len : ∀ (l : List (Int × Int)), (ptS l).length ≤ 20 * l.length
  | [] => by simp [ptS]
  | p :: l => by
    have h1 := numS_len [p.1, p.2]
    have h2 := ptS_len l
    simp only [ptS, List.map_cons, List.flatten_cons, List.length_append, List.length_cons, List.length_nil] at h1 h2 ⊢
    omega
theorem ptS_succ {l : List (Int × Int)} {j : Nat} (h : j < l.length) : ptS (l.take (j + 1)) = ptS (l.take j) ++ numS [(l.getD j (0, 0)).1, (l.getD j (0, 0)).2] := by
  unfold ptS
  have : l[j]? = some (l.getD j (0, 0)) := by simp [List.getD_eq_getElem?_getD, h]
  rw [List.take_add_one, this]
  simp

theorem putS_ne {n : Int} (h1 : -4611686018427387903 ≤ n) (h2 : n ≤ 4611686018427387903) : putS n ≠ [] := by
  have e : (decide (n < -4611686018427387903) || decide (4611686018427387903 < n)) = false := by simp; omega
  unfold putS
  rw [e, cond_false]
  unfold toB putI
  intro h
  have h3 := List.map_eq_nil_iff.1 (List.map_eq_nil_iff.1 h)
  by_cases hz : zz n < 128
  · rw [grpL_lt hz] at h3; cases h3
  · rw [grpL_ge hz] at h3; cases h3
theorem encode_ok (N : Nat) (a b c : Int) (l : List (Int × Int)) (p q : Int) (v : Bool) (hv : D_unit_Valid N a b c l p q = some v) (hl : l.length ≤ 1000000) :
    PCall Tryd.prog 21 [.agg [.i a, .i b, .i c, .sl 2 false (l.map e_ii) [.i 0, .i 0], .i p, .i q]] (.tup [.v (.string (sB (bif v then encS a b c l p q else []))), .i (bif v then 0 else 80)]) := by
  refine pcall_bd (S21_ok N) _ Tryd.func21 ok21 nt21 (by decide) (by simp) fun hb M => ?_
  have hS := S21_ok N
  have hOK := Ctx.bd_ok (nt := 41) (hb := hb) (N := M) (X := fun _ => False) (hnt := by decide) hS
  unfold ac21 rv21
  have hlen := ptS_len l
  have hhl := numS_len [a, b, c, p, q, (l.length : Int)]
  repeat' (first
    | ((first | with_reducible apply awp_sr5 | with_reducible apply awp_r5 | with_reducible apply awp_sd | with_reducible apply awp_d | with_reducible apply inlR_n5 | with_reducible apply inlR_r5); (· (first | exact Ctx.fn_ok hS | exact Ctx.rd_ok hS | assumption | exact True.intro)); iterate 2 (· (simp only [go_sem, seval, Am.S21, Am.s23, Am.de_ii, hv, Option.isSome_some] <;> eq_refl)))
    | (first | with_reducible apply awp_scp | with_reducible apply awp_sn | with_reducible apply awp_nop | with_reducible apply awp_ret | with_reducible apply awp_exit | with_reducible apply awp_block | with_reducible apply awp_seq | with_reducible apply seqK_n | with_reducible apply seqK_r | with_reducible apply seqK_x | with_reducible apply blkK_n | with_reducible apply blkK_r | with_reducible apply blkK_x)
    | (with_reducible apply blkK_y; (· first | rfl | decide))
    | (first | with_reducible apply backK_x | with_reducible apply backK_r | with_reducible apply asgK_n | with_reducible apply rngK_x | with_reducible apply rngK_r | with_reducible apply True.intro | with_reducible apply And.intro True.intro True.intro)
    | (fail_if_success with_reducible apply K_id); (fail_if_success with_reducible apply awp_id); first | omega | (simp only [go_sem, seval, Am.S21, Am.s23, Am.de_ii, hv, Option.isSome_some]; done)
    | fail)
  cases v with
  | false =>
    refine awp_ct (by simp only [go_sem, seval] <;> eq_refl) ?_
    repeat' (first
    | ((first | with_reducible apply awp_sr5 | with_reducible apply awp_r5 | with_reducible apply awp_sd | with_reducible apply awp_d | with_reducible apply inlR_n5 | with_reducible apply inlR_r5); (· (first | exact Ctx.fn_ok hS | exact Ctx.rd_ok hS | assumption | exact True.intro)); iterate 2 (· (simp only [go_sem, seval] <;> eq_refl)))
    | (first | with_reducible apply awp_scp | with_reducible apply awp_sn | with_reducible apply awp_nop | with_reducible apply awp_ret | with_reducible apply awp_exit | with_reducible apply awp_block | with_reducible apply awp_seq | with_reducible apply seqK_n | with_reducible apply seqK_r | with_reducible apply seqK_x | with_reducible apply blkK_n | with_reducible apply blkK_r | with_reducible apply blkK_x)
    | (with_reducible apply blkK_y; (· first | rfl | decide))
    | (first | with_reducible apply backK_x | with_reducible apply backK_r | with_reducible apply asgK_n | with_reducible apply rngK_x | with_reducible apply rngK_r | with_reducible apply True.intro | with_reducible apply And.intro True.intro True.intro)
    | (fail_if_success with_reducible apply K_id); (fail_if_success with_reducible apply awp_id); first | omega | (simp only [go_sem, seval]; done)
    | fail)
    first | refine endK_r (by simp only [go_sem, seval] <;> eq_refl) (by simp only [go_sem, seval]) (by simp only [go_sem, seval]) ?_ rfl | refine endK_n (by simp only [go_sem, seval] <;> eq_refl) (by simp only [go_sem, seval]) (by simp only [go_sem, seval]) ?_ rfl
    simp only [go_sem, seval]
  | true =>
    refine awp_cf (by simp only [go_sem, seval] <;> eq_refl) ?_
    repeat' (first
    | ((first | with_reducible apply awp_sr5 | with_reducible apply awp_r5 | with_reducible apply awp_sd | with_reducible apply awp_d | with_reducible apply inlR_n5 | with_reducible apply inlR_r5); (· (first | exact Ctx.fn_ok hS | exact Ctx.rd_ok hS | assumption | exact True.intro)); iterate 2 (· (simp only [go_sem, seval] <;> eq_refl)))
    | (first | with_reducible apply awp_scp | with_reducible apply awp_sn | with_reducible apply awp_nop | with_reducible apply awp_ret | with_reducible apply awp_exit | with_reducible apply awp_block | with_reducible apply awp_seq | with_reducible apply seqK_n | with_reducible apply seqK_r | with_reducible apply seqK_x | with_reducible apply blkK_n | with_reducible apply blkK_r | with_reducible apply blkK_x)
    | (with_reducible apply blkK_y; (· first | rfl | decide))
    | (first | with_reducible apply backK_x | with_reducible apply backK_r | with_reducible apply asgK_n | with_reducible apply rngK_x | with_reducible apply rngK_r | with_reducible apply True.intro | with_reducible apply And.intro True.intro True.intro)
    | (fail_if_success with_reducible apply K_id); (fail_if_success with_reducible apply awp_id); first | omega | (simp only [go_sem, seval]; done)
    | fail)
    refine awp_newB hS 0 rfl bt_writer (by simp only [go_sem, seval] <;> eq_refl) True.intro fun B => ⟨_, _, _, (by simp only [go_sem, seval] <;> eq_refl), True.intro, ?_⟩
    repeat' (first
    | ((first | with_reducible apply awp_sr5 | with_reducible apply awp_r5 | with_reducible apply awp_sd | with_reducible apply awp_d | with_reducible apply inlR_n5 | with_reducible apply inlR_r5); (· (first | exact Ctx.fn_ok hS | exact Ctx.rd_ok hS | assumption | exact True.intro)); iterate 2 (· (simp only [go_sem, seval] <;> eq_refl)))
    | (first | with_reducible apply awp_scp | with_reducible apply awp_sn | with_reducible apply awp_nop | with_reducible apply awp_ret | with_reducible apply awp_exit | with_reducible apply awp_block | with_reducible apply awp_seq | with_reducible apply seqK_n | with_reducible apply seqK_r | with_reducible apply seqK_x | with_reducible apply blkK_n | with_reducible apply blkK_r | with_reducible apply blkK_x)
    | (with_reducible apply blkK_y; (· first | rfl | decide))
    | (first | with_reducible apply backK_x | with_reducible apply backK_r | with_reducible apply asgK_n | with_reducible apply rngK_x | with_reducible apply rngK_r | with_reducible apply True.intro | with_reducible apply And.intro True.intro True.intro)
    | (fail_if_success with_reducible apply K_id); (fail_if_success with_reducible apply awp_id); first | omega | (simp only [go_sem, seval]; done)
    | fail)
    have hh1 : ([] ++ numS [a, b, c, p, q, (l.length : Int)]).length ≤ 140737488355328 := by
      simp only [List.nil_append, List.length_cons, List.length_nil] at hhl ⊢
      omega
    refine awp_bcall hS 14 (ax := [.sl 1 false ([a, b, c, p, q, (l.length : Int)].map eI) [.i 0]]) rfl of42 (by simp only [go_sem, seval] <;> eq_refl) True.intro (by simp only [go_sem, seval] <;> eq_refl) (by simp only [go_sem, seval] <;> eq_refl) (by simp only [go_sem, seval, Am.eI] <;> eq_refl) ?_ rfl rfl (numbers_b _ _ _ [] hh1 (by simp)) (by simp only [go_sem, seval] <;> eq_refl) True.intro ?_
    · simp only [go_sem, seval]
    repeat' (first
    | ((first | with_reducible apply awp_sr5 | with_reducible apply awp_r5 | with_reducible apply awp_sd | with_reducible apply awp_d | with_reducible apply inlR_n5 | with_reducible apply inlR_r5); (· (first | exact Ctx.fn_ok hS | exact Ctx.rd_ok hS | assumption | exact True.intro)); iterate 2 (· (simp only [go_sem, seval] <;> eq_refl)))
    | (first | with_reducible apply awp_scp | with_reducible apply awp_sn | with_reducible apply awp_nop | with_reducible apply awp_ret | with_reducible apply awp_exit | with_reducible apply awp_block | with_reducible apply awp_seq | with_reducible apply seqK_n | with_reducible apply seqK_r | with_reducible apply seqK_x | with_reducible apply blkK_n | with_reducible apply blkK_r | with_reducible apply blkK_x)
    | (with_reducible apply blkK_y; (· first | rfl | decide))
    | (first | with_reducible apply backK_x | with_reducible apply backK_r | with_reducible apply asgK_n | with_reducible apply rngK_x | with_reducible apply rngK_r | with_reducible apply True.intro | with_reducible apply And.intro True.intro True.intro)
    | (fail_if_success with_reducible apply K_id); (fail_if_success with_reducible apply awp_id); first | omega | (simp only [go_sem, seval]; done)
    | fail)
    refine awp_loop (fun x : Nat × Nat => ⟨[(28, .i x.1), (27, .i l.length), (26, .sl 2 false (l.map e_ii) [.i 0, .i 0]), (4, .v (.pointer (some ⟨B, 0, none⟩))), (3, .i 0), (bk, gB B (numS [a, b, c, p, q, (l.length : Int)] ++ ptS (l.take x.1)))], [], x.2⟩)
      (fun x => x.1 ≤ l.length) (fun x => l.length - x.1) (0, 50) ?_ ?_ ?_
    · exact Nat.zero_le _
    · refine Le.of ?_ ?_ (by simp) <;> (simp only [go_sem, seval, ptS]; try simp)
    · rintro ⟨j, cc⟩ hj
      simp only at hj
      repeat' (first
    | ((first | with_reducible apply awp_sr5 | with_reducible apply awp_r5 | with_reducible apply awp_sd | with_reducible apply awp_d | with_reducible apply inlR_n5 | with_reducible apply inlR_r5); (· (first | exact Ctx.fn_ok hS | exact Ctx.rd_ok hS | assumption | exact True.intro)); iterate 2 (· (simp only [go_sem, seval] <;> eq_refl)))
    | (first | with_reducible apply awp_scp | with_reducible apply awp_sn | with_reducible apply awp_nop | with_reducible apply awp_ret | with_reducible apply awp_exit | with_reducible apply awp_block | with_reducible apply awp_seq | with_reducible apply seqK_n | with_reducible apply seqK_r | with_reducible apply seqK_x | with_reducible apply blkK_n | with_reducible apply blkK_r | with_reducible apply blkK_x)
    | (with_reducible apply blkK_y; (· first | rfl | decide))
    | (first | with_reducible apply backK_x | with_reducible apply backK_r | with_reducible apply asgK_n | with_reducible apply rngK_x | with_reducible apply rngK_r | with_reducible apply True.intro | with_reducible apply And.intro True.intro True.intro)
    | (fail_if_success with_reducible apply K_id); (fail_if_success with_reducible apply awp_id); first | omega | (simp only [go_sem, seval]; done)
    | fail)
      refine awp_cp ((j : Int) < l.length) (by simp only [go_sem, seval] <;> eq_refl) (by first | simp only [Bool.decide_or, Bool.decide_and, decide_not] | simp) (fun hj1 => ?_) (fun hj1 => ?_)
      · have hj' : j < l.length := by omega
        have hrow := rb_ii l j
        have hsu := ptS_succ hj'
        have hl1 := ptS_len (l.take j)
        have hl0 : (l.take j).length ≤ l.length := by rw [List.length_take]; omega
        have hl3 := numS_len [(l.getD j (0, 0)).1, (l.getD j (0, 0)).2]
        have hl2 : ((numS [a, b, c, p, q, (l.length : Int)] ++ ptS (l.take j)) ++ numS [(l.getD j (0, 0)).1, (l.getD j (0, 0)).2]).length ≤ 140737488355328 := by
          simp only [List.length_append, List.length_cons, List.length_nil] at hhl hl3 ⊢
          omega
        repeat' (first
    | ((first | with_reducible apply awp_sr5 | with_reducible apply awp_r5 | with_reducible apply awp_sd | with_reducible apply awp_d | with_reducible apply inlR_n5 | with_reducible apply inlR_r5); (· (first | exact Ctx.fn_ok hS | exact Ctx.rd_ok hS | assumption | exact True.intro)); iterate 2 (· (simp only [go_sem, seval, hrow, Am.e_ii] <;> eq_refl)))
    | (first | with_reducible apply awp_scp | with_reducible apply awp_sn | with_reducible apply awp_nop | with_reducible apply awp_ret | with_reducible apply awp_exit | with_reducible apply awp_block | with_reducible apply awp_seq | with_reducible apply seqK_n | with_reducible apply seqK_r | with_reducible apply seqK_x | with_reducible apply blkK_n | with_reducible apply blkK_r | with_reducible apply blkK_x)
    | (with_reducible apply blkK_y; (· first | rfl | decide))
    | (first | with_reducible apply backK_x | with_reducible apply backK_r | with_reducible apply asgK_n | with_reducible apply rngK_x | with_reducible apply rngK_r | with_reducible apply True.intro | with_reducible apply And.intro True.intro True.intro)
    | (fail_if_success with_reducible apply K_id); (fail_if_success with_reducible apply awp_id); first | omega | (simp only [go_sem, seval, hrow, Am.e_ii]; done)
    | fail)
        refine awp_bcall hS 5 (ax := [.sl 1 false ([(l.getD j (0, 0)).1, (l.getD j (0, 0)).2].map eI) [.i 0]]) rfl of42 (by simp only [go_sem, seval] <;> eq_refl) True.intro (by simp only [go_sem, seval] <;> eq_refl) (by simp only [go_sem, seval] <;> eq_refl) (by simp only [go_sem, seval, Am.eI] <;> eq_refl) ?_ rfl rfl (numbers_b _ _ _ _ hl2 (by simp)) (by simp only [go_sem, seval] <;> eq_refl) True.intro ?_
        · simp only [go_sem, seval]
        repeat' (first
    | ((first | with_reducible apply awp_sr5 | with_reducible apply awp_r5 | with_reducible apply awp_sd | with_reducible apply awp_d | with_reducible apply inlR_n5 | with_reducible apply inlR_r5); (· (first | exact Ctx.fn_ok hS | exact Ctx.rd_ok hS | assumption | exact True.intro)); iterate 2 (· (simp only [go_sem, seval] <;> eq_refl)))
    | (first | with_reducible apply awp_scp | with_reducible apply awp_sn | with_reducible apply awp_nop | with_reducible apply awp_ret | with_reducible apply awp_exit | with_reducible apply awp_block | with_reducible apply awp_seq | with_reducible apply seqK_n | with_reducible apply seqK_r | with_reducible apply seqK_x | with_reducible apply blkK_n | with_reducible apply blkK_r | with_reducible apply blkK_x)
    | (with_reducible apply blkK_y; (· first | rfl | decide))
    | (first | with_reducible apply backK_x | with_reducible apply backK_r | with_reducible apply asgK_n | with_reducible apply rngK_x | with_reducible apply rngK_r | with_reducible apply True.intro | with_reducible apply And.intro True.intro True.intro)
    | (fail_if_success with_reducible apply K_id); (fail_if_success with_reducible apply awp_id); first | omega | (simp only [go_sem, seval]; done)
    | fail)
        refine backK_n (j + 1, cc + 50) (by show j + 1 ≤ _; omega) (by show l.length - (j + 1) < l.length - j; omega) (Le.of ?_ ?_ ?_)
        · simp only [go_sem, seval, hsu, List.append_assoc] <;> simp
        · simp only [go_sem, seval]
        · simp
      · repeat' (first
    | ((first | with_reducible apply awp_sr5 | with_reducible apply awp_r5 | with_reducible apply awp_sd | with_reducible apply awp_d | with_reducible apply inlR_n5 | with_reducible apply inlR_r5); (· (first | exact Ctx.fn_ok hS | exact Ctx.rd_ok hS | assumption | exact True.intro)); iterate 2 (· (simp only [go_sem, seval] <;> eq_refl)))
    | (first | with_reducible apply awp_scp | with_reducible apply awp_sn | with_reducible apply awp_nop | with_reducible apply awp_ret | with_reducible apply awp_exit | with_reducible apply awp_block | with_reducible apply awp_seq | with_reducible apply seqK_n | with_reducible apply seqK_r | with_reducible apply seqK_x | with_reducible apply blkK_n | with_reducible apply blkK_r | with_reducible apply blkK_x)
    | (with_reducible apply blkK_y; (· first | rfl | decide))
    | (first | with_reducible apply backK_x | with_reducible apply backK_r | with_reducible apply asgK_n | with_reducible apply rngK_x | with_reducible apply rngK_r | with_reducible apply True.intro | with_reducible apply And.intro True.intro True.intro)
    | (fail_if_success with_reducible apply K_id); (fail_if_success with_reducible apply awp_id); first | omega | (simp only [go_sem, seval]; done)
    | fail)
        have hjl : j = l.length := by omega
        subst hjl
        rw [List.take_length]
        have hne : numS [a, b, c, p, q, (l.length : Int)] ++ ptS l ≠ [] := by
          have h1 := putS_ne (n := (l.length : Int)) (by omega) (by omega)
          intro h
          have h2 := List.append_eq_nil_iff.1 h
          simp only [numS, List.map_cons, List.flatten_cons, List.append_eq_nil_iff] at h2
          exact h1 h2.1.2.2.2.2.2.1
        refine awp_bcall hS 1 (ax := []) rfl of_string (by simp only [go_sem, seval] <;> eq_refl) True.intro (by simp only [go_sem, seval] <;> eq_refl) (by simp only [go_sem, seval] <;> eq_refl) (by simp only [go_sem, seval] <;> eq_refl) True.intro rfl rfl (bcall_string hne) (by simp only [go_sem, seval] <;> eq_refl) True.intro ?_
        repeat' (first
    | ((first | with_reducible apply awp_sr5 | with_reducible apply awp_r5 | with_reducible apply awp_sd | with_reducible apply awp_d | with_reducible apply inlR_n5 | with_reducible apply inlR_r5); (· (first | exact Ctx.fn_ok hS | exact Ctx.rd_ok hS | assumption | exact True.intro)); iterate 2 (· (simp only [go_sem, seval] <;> eq_refl)))
    | (first | with_reducible apply awp_scp | with_reducible apply awp_sn | with_reducible apply awp_nop | with_reducible apply awp_ret | with_reducible apply awp_exit | with_reducible apply awp_block | with_reducible apply awp_seq | with_reducible apply seqK_n | with_reducible apply seqK_r | with_reducible apply seqK_x | with_reducible apply blkK_n | with_reducible apply blkK_r | with_reducible apply blkK_x)
    | (with_reducible apply blkK_y; (· first | rfl | decide))
    | (first | with_reducible apply backK_x | with_reducible apply backK_r | with_reducible apply asgK_n | with_reducible apply rngK_x | with_reducible apply rngK_r | with_reducible apply True.intro | with_reducible apply And.intro True.intro True.intro)
    | (fail_if_success with_reducible apply K_id); (fail_if_success with_reducible apply awp_id); first | omega | (simp only [go_sem, seval]; done)
    | fail)
        first | refine endK_r (by simp only [go_sem, seval] <;> eq_refl) (by simp only [go_sem, seval]) (by simp only [go_sem, seval]) ?_ rfl | refine endK_n (by simp only [go_sem, seval] <;> eq_refl) (by simp only [go_sem, seval]) (by simp only [go_sem, seval]) ?_ rfl
        simp only [encS, headS, go_sem, seval]
end Go.Proofs.YtdabfcbelkjmgaaDoor.Am
