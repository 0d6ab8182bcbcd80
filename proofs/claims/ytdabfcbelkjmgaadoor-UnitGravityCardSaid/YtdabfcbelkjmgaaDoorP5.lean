import Derived.Test.YtdabfcbelkjmgaaDoorA16
import Derived.Test.YtdabfcbelkjmgaaDoorAc3
/-
  wire: the groups of a number, and how a number is written.
-/
namespace Go.Proofs.YtdabfcbelkjmgaaDoor.Am
open Go
attribute [local irreducible] awp seqK blkK backK endK inlK restK rngK asgK itK
set_option maxRecDepth 100000
set_option maxHeartbeats 8000000
set_option linter.unusedSimpArgs false
set_option linter.unusedVariables false
/-- The lowest seven bits. -/
def grpB (z : Int) : Int := IntKind.wrap .u8 (bitsI .and .u64 z 127)
def grpL : Nat → Int → List (Int × Bool)
  | 0, _ => []
  | f + 1, z => if z < 128 then [(grpB z, true)] else (grpB z, false) :: grpL f (shfI .shr .u64 z 7)
def grA (e : Int × Bool) : List AV := [.v (.int .u8 e.1), .v (.bool e.2)]
theorem shr7 (z : Int) : shfI .shr .u64 z 7 = z / 128 := by
  show z.fdiv (2 ^ min (7 : Int).toNat 64) = z / 128
  rw [show (2 : Int) ^ min (7 : Int).toNat 64 = 128 by decide]
  exact Int.fdiv_eq_ediv_of_nonneg z (by decide)
theorem grpL_lt {f : Nat} {z : Int} (h : z < 128) : grpL (f + 1) z = [(grpB z, true)] := if_pos h
theorem grpL_ge {f : Nat} {z : Int} (h : ¬ z < 128) : grpL (f + 1) z = (grpB z, false) :: grpL f (shfI .shr .u64 z 7) := if_neg h
theorem grpL_len : ∀ (f : Nat) (z : Int), (grpL f z).length ≤ f
  | 0, z => by simp [grpL]
  | f + 1, z => by
    have := grpL_len f (shfI .shr .u64 z 7)
    unfold grpL
    split
    · simp
    · simp only [List.length_cons]; omega

theorem rd_step {α : Type} {xs : List α} {g : α → List AV} {k : Nat} {args : List AV} (h : (xs.map g)[k]? = some args) : ∃ y, xs.drop k = y :: xs.drop (k + 1) ∧ args = g y ∧ k < xs.length := by
  rw [List.getElem?_map] at h
  cases hk : xs[k]? with
  | none => rw [hk] at h; cases h
  | some y =>
    rw [hk] at h
    obtain ⟨h1, h2⟩ := List.getElem?_eq_some_iff.1 hk
    exact ⟨y, by rw [List.drop_eq_getElem_cons h1, h2], (Option.some.inj h).symm, h1⟩
theorem groups_it (z0 : Int) (m : Nm) (hz0 : 0 ≤ z0 ∧ z0 < 128 ^ 10) : ItB Tryd.prog 85 [] [.box m 0] m [.v (.int .u64 z0)] ((grpL 10 z0).map grA) := by
  refine itb_fnF (tab_nil (P := Tryd.prog)) _ Tryd.func85 ok85 nt85 (by simp [gs]) (by simp) fun l Γ hOK hTS hY => ?_
  have hS := tab_nil (P := Tryd.prog)
  unfold ac85
  repeat' (first
    | ((first | with_reducible apply awp_sr5 | with_reducible apply awp_r5 | with_reducible apply awp_sd | with_reducible apply awp_d | with_reducible apply inlR_n5 | with_reducible apply inlR_r5); (· (first | exact Ctx.fn_ok hS | exact Ctx.rd_ok hS | assumption | exact True.intro)); iterate 2 (· (simp only [go_sem, seval, hTS] <;> eq_refl)))
    | (first | with_reducible apply awp_scp | with_reducible apply awp_sn | with_reducible apply awp_nop | with_reducible apply awp_ret | with_reducible apply awp_exit | with_reducible apply awp_block | with_reducible apply awp_seq | with_reducible apply seqK_n | with_reducible apply seqK_r | with_reducible apply seqK_x | with_reducible apply blkK_n | with_reducible apply blkK_r | with_reducible apply blkK_x)
    | (with_reducible apply blkK_y; (· first | rfl | decide))
    | (first | with_reducible apply backK_x | with_reducible apply backK_r | with_reducible apply asgK_n | with_reducible apply rngK_x | with_reducible apply rngK_r | with_reducible apply True.intro | with_reducible apply And.intro True.intro True.intro)
    | (fail_if_success with_reducible apply K_id); (fail_if_success with_reducible apply awp_id); first | omega | (simp only [go_sem, seval, hTS]; done)
    | fail)
  refine awp_loop (fun x : Nat × Int × Nat × Nat => ⟨[(1, .box m 0), (gs, ghost x.2.2.1), (0, .clo (.yield l) [] [])], [(.c m 0, .v (.int .u64 x.2.1))], x.2.2.2⟩)
    (fun x => (0 < x.1 ∧ 0 ≤ x.2.1 ∧ x.2.1 < 128 ^ x.1) ∧ ((grpL 10 z0).drop x.2.2.1 = grpL x.1 x.2.1 ∧ x.2.2.1 ≤ (grpL 10 z0).length)) (fun x => x.1) (10, z0, 0, m.2) ?_ ?_ ?_
  · exact ⟨⟨Nat.zero_lt_succ _, hz0⟩, rfl, Nat.zero_le _⟩
  · refine Le.of ?_ ?_ (by simp) <;> (simp only [go_sem, seval]; try simp)
  · rintro ⟨f, z, k, c⟩ ⟨⟨hf, hz1, hz2⟩, hk, hkl⟩
    simp only at hf hz1 hz2 hk hkl
    obtain _ | f := f
    · exact absurd hf (Nat.lt_irrefl _)
    have hkl' : k < (grpL 10 z0).length := by
      have := congrArg List.length hk
      rw [List.length_drop] at this
      by_cases hz : z < 128
      · rw [grpL_lt hz, List.length_cons] at this; omega
      · rw [grpL_ge hz, List.length_cons] at this; omega
    by_cases hz : z < 128
    · have hk' : (grpL 10 z0).drop k = [(grpB z, true)] := by rw [hk, grpL_lt hz]
      have hk1 : k + 1 = (grpL 10 z0).length := by
        have := congrArg List.length hk'
        simp only [List.length_drop, List.length_cons, List.length_nil] at this
        omega
      have hxs : ((grpL 10 z0).map grA)[k]? = some [.v (.int .u8 (grpB z)), .v (.bool true)] := by
        have : (grpL 10 z0)[k]? = ((grpL 10 z0).drop k)[0]? := by simp
        rw [List.getElem?_map, this, hk']; rfl
      repeat' (first
    | ((first | with_reducible apply awp_sr5 | with_reducible apply awp_r5 | with_reducible apply awp_sd | with_reducible apply awp_d | with_reducible apply inlR_n5 | with_reducible apply inlR_r5); (· (first | exact Ctx.fn_ok hS | exact Ctx.rd_ok hS | assumption | exact True.intro)); iterate 2 (· (simp only [go_sem, seval, hTS, hz] <;> eq_refl)))
    | (first | with_reducible apply awp_scp | with_reducible apply awp_sn | with_reducible apply awp_nop | with_reducible apply awp_ret | with_reducible apply awp_exit | with_reducible apply awp_block | with_reducible apply awp_seq | with_reducible apply seqK_n | with_reducible apply seqK_r | with_reducible apply seqK_x | with_reducible apply blkK_n | with_reducible apply blkK_r | with_reducible apply blkK_x)
    | (with_reducible apply blkK_y; (· first | rfl | decide))
    | (first | with_reducible apply backK_x | with_reducible apply backK_r | with_reducible apply asgK_n | with_reducible apply rngK_x | with_reducible apply rngK_r | with_reducible apply True.intro | with_reducible apply And.intro True.intro True.intro)
    | (fail_if_success with_reducible apply K_id); (fail_if_success with_reducible apply awp_id); first | omega | (simp only [go_sem, seval, hTS, hz]; done)
    | fail)
      refine hY 5 (args := [.v (.int .u8 (grpB z)), .v (.bool true)]) rfl (by simp only [go_sem, seval, hTS, hz] <;> eq_refl) (by simp only [go_sem, seval, hTS, hz] <;> eq_refl) (by decide) (by simp only [go_sem, seval] <;> eq_refl) (by simp only [go_sem, seval] <;> eq_refl) (by simp only [go_sem, seval] <;> eq_refl) (by simp only [go_sem, seval, Am.grpB] <;> eq_refl) hxs (by simp only [go_sem, seval, hTS] <;> eq_refl) ?_ ?_ (by simp only [go_sem, seval, hTS] <;> eq_refl) ?_ ?_
      · simp only [go_sem, seval]
      · repeat' (first
    | ((first | with_reducible apply awp_sr5 | with_reducible apply awp_r5 | with_reducible apply awp_sd | with_reducible apply awp_d | with_reducible apply inlR_n5 | with_reducible apply inlR_r5); (· (first | exact Ctx.fn_ok hS | exact Ctx.rd_ok hS | assumption | exact True.intro)); iterate 2 (· (simp only [go_sem, seval, hTS] <;> eq_refl)))
    | (first | with_reducible apply awp_scp | with_reducible apply awp_sn | with_reducible apply awp_nop | with_reducible apply awp_ret | with_reducible apply awp_exit | with_reducible apply awp_block | with_reducible apply awp_seq | with_reducible apply seqK_n | with_reducible apply seqK_r | with_reducible apply seqK_x | with_reducible apply blkK_n | with_reducible apply blkK_r | with_reducible apply blkK_x)
    | (with_reducible apply blkK_y; (· first | rfl | decide))
    | (first | with_reducible apply backK_x | with_reducible apply backK_r | with_reducible apply asgK_n | with_reducible apply rngK_x | with_reducible apply rngK_r | with_reducible apply True.intro | with_reducible apply And.intro True.intro True.intro)
    | (fail_if_success with_reducible apply K_id); (fail_if_success with_reducible apply awp_id); first | omega | (simp only [go_sem, seval, hTS]; done)
    | fail)
        refine awp_ct (by simp only [go_sem, seval] <;> eq_refl) ?_
        repeat' (first
    | ((first | with_reducible apply awp_sr5 | with_reducible apply awp_r5 | with_reducible apply awp_sd | with_reducible apply awp_d | with_reducible apply inlR_n5 | with_reducible apply inlR_r5); (· (first | exact Ctx.fn_ok hS | exact Ctx.rd_ok hS | assumption | exact True.intro)); iterate 2 (· (simp only [go_sem, seval, hTS] <;> eq_refl)))
    | (first | with_reducible apply awp_scp | with_reducible apply awp_sn | with_reducible apply awp_nop | with_reducible apply awp_ret | with_reducible apply awp_exit | with_reducible apply awp_block | with_reducible apply awp_seq | with_reducible apply seqK_n | with_reducible apply seqK_r | with_reducible apply seqK_x | with_reducible apply blkK_n | with_reducible apply blkK_r | with_reducible apply blkK_x)
    | (with_reducible apply blkK_y; (· first | rfl | decide))
    | (first | with_reducible apply backK_x | with_reducible apply backK_r | with_reducible apply asgK_n | with_reducible apply rngK_x | with_reducible apply rngK_r | with_reducible apply True.intro | with_reducible apply And.intro True.intro True.intro)
    | (fail_if_success with_reducible apply K_id); (fail_if_success with_reducible apply awp_id); first | omega | (simp only [go_sem, seval, hTS]; done)
    | fail)
        refine itK_r ?_
        simp only [go_sem, seval, List.length_map]
        rw [← hk1]; rfl
      · simp only [go_sem, seval]
      · repeat' (first
    | ((first | with_reducible apply awp_sr5 | with_reducible apply awp_r5 | with_reducible apply awp_sd | with_reducible apply awp_d | with_reducible apply inlR_n5 | with_reducible apply inlR_r5); (· (first | exact Ctx.fn_ok hS | exact Ctx.rd_ok hS | assumption | exact True.intro)); iterate 2 (· (simp only [go_sem, seval, hTS] <;> eq_refl)))
    | (first | with_reducible apply awp_scp | with_reducible apply awp_sn | with_reducible apply awp_nop | with_reducible apply awp_ret | with_reducible apply awp_exit | with_reducible apply awp_block | with_reducible apply awp_seq | with_reducible apply seqK_n | with_reducible apply seqK_r | with_reducible apply seqK_x | with_reducible apply blkK_n | with_reducible apply blkK_r | with_reducible apply blkK_x)
    | (with_reducible apply blkK_y; (· first | rfl | decide))
    | (first | with_reducible apply backK_x | with_reducible apply backK_r | with_reducible apply asgK_n | with_reducible apply rngK_x | with_reducible apply rngK_r | with_reducible apply True.intro | with_reducible apply And.intro True.intro True.intro)
    | (fail_if_success with_reducible apply K_id); (fail_if_success with_reducible apply awp_id); first | omega | (simp only [go_sem, seval, hTS]; done)
    | fail)
        refine awp_ct (by simp only [go_sem, seval] <;> eq_refl) ?_
        repeat' (first
    | ((first | with_reducible apply awp_sr5 | with_reducible apply awp_r5 | with_reducible apply awp_sd | with_reducible apply awp_d | with_reducible apply inlR_n5 | with_reducible apply inlR_r5); (· (first | exact Ctx.fn_ok hS | exact Ctx.rd_ok hS | assumption | exact True.intro)); iterate 2 (· (simp only [go_sem, seval, hTS] <;> eq_refl)))
    | (first | with_reducible apply awp_scp | with_reducible apply awp_sn | with_reducible apply awp_nop | with_reducible apply awp_ret | with_reducible apply awp_exit | with_reducible apply awp_block | with_reducible apply awp_seq | with_reducible apply seqK_n | with_reducible apply seqK_r | with_reducible apply seqK_x | with_reducible apply blkK_n | with_reducible apply blkK_r | with_reducible apply blkK_x)
    | (with_reducible apply blkK_y; (· first | rfl | decide))
    | (first | with_reducible apply backK_x | with_reducible apply backK_r | with_reducible apply asgK_n | with_reducible apply rngK_x | with_reducible apply rngK_r | with_reducible apply True.intro | with_reducible apply And.intro True.intro True.intro)
    | (fail_if_success with_reducible apply K_id); (fail_if_success with_reducible apply awp_id); first | omega | (simp only [go_sem, seval, hTS]; done)
    | fail)
        refine itK_r' ?_
        simp only [go_sem, seval]
    · have hk' : (grpL 10 z0).drop k = (grpB z, false) :: grpL f (shfI .shr .u64 z 7) := by rw [hk, grpL_ge hz]
      have hxs : ((grpL 10 z0).map grA)[k]? = some [.v (.int .u8 (grpB z)), .v (.bool false)] := by
        have : (grpL 10 z0)[k]? = ((grpL 10 z0).drop k)[0]? := by simp
        rw [List.getElem?_map, this, hk']; rfl
      repeat' (first
    | ((first | with_reducible apply awp_sr5 | with_reducible apply awp_r5 | with_reducible apply awp_sd | with_reducible apply awp_d | with_reducible apply inlR_n5 | with_reducible apply inlR_r5); (· (first | exact Ctx.fn_ok hS | exact Ctx.rd_ok hS | assumption | exact True.intro)); iterate 2 (· (simp only [go_sem, seval, hTS, hz] <;> eq_refl)))
    | (first | with_reducible apply awp_scp | with_reducible apply awp_sn | with_reducible apply awp_nop | with_reducible apply awp_ret | with_reducible apply awp_exit | with_reducible apply awp_block | with_reducible apply awp_seq | with_reducible apply seqK_n | with_reducible apply seqK_r | with_reducible apply seqK_x | with_reducible apply blkK_n | with_reducible apply blkK_r | with_reducible apply blkK_x)
    | (with_reducible apply blkK_y; (· first | rfl | decide))
    | (first | with_reducible apply backK_x | with_reducible apply backK_r | with_reducible apply asgK_n | with_reducible apply rngK_x | with_reducible apply rngK_r | with_reducible apply True.intro | with_reducible apply And.intro True.intro True.intro)
    | (fail_if_success with_reducible apply K_id); (fail_if_success with_reducible apply awp_id); first | omega | (simp only [go_sem, seval, hTS, hz]; done)
    | fail)
      refine hY 5 (args := [.v (.int .u8 (grpB z)), .v (.bool false)]) rfl (by simp only [go_sem, seval, hTS, hz] <;> eq_refl) (by simp only [go_sem, seval, hTS, hz] <;> eq_refl) (by decide) (by simp only [go_sem, seval] <;> eq_refl) (by simp only [go_sem, seval] <;> eq_refl) (by simp only [go_sem, seval] <;> eq_refl) (by simp only [go_sem, seval, Am.grpB] <;> eq_refl) hxs (by simp only [go_sem, seval, hTS] <;> eq_refl) ?_ ?_ (by simp only [go_sem, seval, hTS] <;> eq_refl) ?_ ?_
      · simp only [go_sem, seval]
      · repeat' (first
    | ((first | with_reducible apply awp_sr5 | with_reducible apply awp_r5 | with_reducible apply awp_sd | with_reducible apply awp_d | with_reducible apply inlR_n5 | with_reducible apply inlR_r5); (· (first | exact Ctx.fn_ok hS | exact Ctx.rd_ok hS | assumption | exact True.intro)); iterate 2 (· (simp only [go_sem, seval, hTS] <;> eq_refl)))
    | (first | with_reducible apply awp_scp | with_reducible apply awp_sn | with_reducible apply awp_nop | with_reducible apply awp_ret | with_reducible apply awp_exit | with_reducible apply awp_block | with_reducible apply awp_seq | with_reducible apply seqK_n | with_reducible apply seqK_r | with_reducible apply seqK_x | with_reducible apply blkK_n | with_reducible apply blkK_r | with_reducible apply blkK_x)
    | (with_reducible apply blkK_y; (· first | rfl | decide))
    | (first | with_reducible apply backK_x | with_reducible apply backK_r | with_reducible apply asgK_n | with_reducible apply rngK_x | with_reducible apply rngK_r | with_reducible apply True.intro | with_reducible apply And.intro True.intro True.intro)
    | (fail_if_success with_reducible apply K_id); (fail_if_success with_reducible apply awp_id); first | omega | (simp only [go_sem, seval, hTS]; done)
    | fail)
        refine awp_cf (by simp only [go_sem, seval] <;> eq_refl) ?_
        repeat' (first
    | ((first | with_reducible apply awp_sr5 | with_reducible apply awp_r5 | with_reducible apply awp_sd | with_reducible apply awp_d | with_reducible apply inlR_n5 | with_reducible apply inlR_r5); (· (first | exact Ctx.fn_ok hS | exact Ctx.rd_ok hS | assumption | exact True.intro)); iterate 2 (· (simp only [go_sem, seval, hTS] <;> eq_refl)))
    | (first | with_reducible apply awp_scp | with_reducible apply awp_sn | with_reducible apply awp_nop | with_reducible apply awp_ret | with_reducible apply awp_exit | with_reducible apply awp_block | with_reducible apply awp_seq | with_reducible apply seqK_n | with_reducible apply seqK_r | with_reducible apply seqK_x | with_reducible apply blkK_n | with_reducible apply blkK_r | with_reducible apply blkK_x)
    | (with_reducible apply blkK_y; (· first | rfl | decide))
    | (first | with_reducible apply backK_x | with_reducible apply backK_r | with_reducible apply asgK_n | with_reducible apply rngK_x | with_reducible apply rngK_r | with_reducible apply True.intro | with_reducible apply And.intro True.intro True.intro)
    | (fail_if_success with_reducible apply K_id); (fail_if_success with_reducible apply awp_id); first | omega | (simp only [go_sem, seval, hTS]; done)
    | fail)
        have hf0 : 0 < f := by
          rcases Nat.eq_zero_or_pos f with rfl | h
          · exact absurd hz2 (by simp only [Nat.zero_add, Int.pow_one] at hz2 ⊢; omega)
          · exact h
        refine backK_n (f, shfI .shr .u64 z 7, k + 1, c + 50) ⟨⟨hf0, ?_, ?_⟩, ?_, by show k + 1 ≤ _; omega⟩ (Nat.lt_succ_self _) (Le.of ?_ ?_ ?_)
        · show 0 ≤ shfI .shr .u64 z 7
          rw [shr7]; omega
        · show shfI .shr .u64 z 7 < 128 ^ f
          rw [shr7]
          rw [Int.pow_succ] at hz2
          omega
        · show (grpL 10 z0).drop (k + 1) = _
          have : (grpL 10 z0).drop (k + 1) = ((grpL 10 z0).drop k).drop 1 := by simp
          rw [this, hk']; rfl
        · simp only [go_sem, seval] <;> simp
        · simp only [go_sem, seval]
        · simp
      · simp only [go_sem, seval]
      · repeat' (first
    | ((first | with_reducible apply awp_sr5 | with_reducible apply awp_r5 | with_reducible apply awp_sd | with_reducible apply awp_d | with_reducible apply inlR_n5 | with_reducible apply inlR_r5); (· (first | exact Ctx.fn_ok hS | exact Ctx.rd_ok hS | assumption | exact True.intro)); iterate 2 (· (simp only [go_sem, seval, hTS] <;> eq_refl)))
    | (first | with_reducible apply awp_scp | with_reducible apply awp_sn | with_reducible apply awp_nop | with_reducible apply awp_ret | with_reducible apply awp_exit | with_reducible apply awp_block | with_reducible apply awp_seq | with_reducible apply seqK_n | with_reducible apply seqK_r | with_reducible apply seqK_x | with_reducible apply blkK_n | with_reducible apply blkK_r | with_reducible apply blkK_x)
    | (with_reducible apply blkK_y; (· first | rfl | decide))
    | (first | with_reducible apply backK_x | with_reducible apply backK_r | with_reducible apply asgK_n | with_reducible apply rngK_x | with_reducible apply rngK_r | with_reducible apply True.intro | with_reducible apply And.intro True.intro True.intro)
    | (fail_if_success with_reducible apply K_id); (fail_if_success with_reducible apply awp_id); first | omega | (simp only [go_sem, seval, hTS]; done)
    | fail)
        refine awp_ct (by simp only [go_sem, seval] <;> eq_refl) ?_
        repeat' (first
    | ((first | with_reducible apply awp_sr5 | with_reducible apply awp_r5 | with_reducible apply awp_sd | with_reducible apply awp_d | with_reducible apply inlR_n5 | with_reducible apply inlR_r5); (· (first | exact Ctx.fn_ok hS | exact Ctx.rd_ok hS | assumption | exact True.intro)); iterate 2 (· (simp only [go_sem, seval, hTS] <;> eq_refl)))
    | (first | with_reducible apply awp_scp | with_reducible apply awp_sn | with_reducible apply awp_nop | with_reducible apply awp_ret | with_reducible apply awp_exit | with_reducible apply awp_block | with_reducible apply awp_seq | with_reducible apply seqK_n | with_reducible apply seqK_r | with_reducible apply seqK_x | with_reducible apply blkK_n | with_reducible apply blkK_r | with_reducible apply blkK_x)
    | (with_reducible apply blkK_y; (· first | rfl | decide))
    | (first | with_reducible apply backK_x | with_reducible apply backK_r | with_reducible apply asgK_n | with_reducible apply rngK_x | with_reducible apply rngK_r | with_reducible apply True.intro | with_reducible apply And.intro True.intro True.intro)
    | (fail_if_success with_reducible apply K_id); (fail_if_success with_reducible apply awp_id); first | omega | (simp only [go_sem, seval, hTS]; done)
    | fail)
        refine itK_r' ?_
        simp only [go_sem, seval]

/-- The number, its sign folded in. -/
def zz (n : Int) : Int := bitsI .xor .u64 (shfI .shl .u64 (IntKind.wrap .u64 n) 1) (IntKind.wrap .u64 (shfI .shr .i64 n 63))
def grO (e : Int × Bool) : Int := if e.2 = true then e.1 else bitsI .or .u8 e.1 128
def putI (n : Int) : List Int := (grpL 10 (zz n)).map grO
def toB (l : List Int) : List UInt8 := l.map fun x => UInt8.ofNat x.toNat
def putS (n : Int) : List UInt8 := bif decide (n < -4611686018427387903) || decide (4611686018427387903 < n) then [] else toB (putI n)
def eB (x : Int) : List AV := [.v (.int .u8 x)]
theorem eB_isB (l : List Int) : (l.map eB).all isB = true := by induction l with | nil => rfl | cons x l ih => simp [eB, isB]
theorem eB_rowB (l : List Int) : (l.map eB).map rowB = toB l := by induction l with | nil => rfl | cons x l ih => rw [List.map_cons, List.map_cons, ih]; rfl
theorem wrap_u64 (n : Int) : 0 ≤ IntKind.wrap .u64 n ∧ IntKind.wrap .u64 n < 128 ^ 10 := by
  have h : IntKind.wrap .u64 n = n % 2 ^ 64 := by simp [IntKind.wrap, IntKind.bits, IntKind.signed]
  rw [h]
  have : (2 : Int) ^ 64 = 18446744073709551616 := by decide
  rw [this, show (128 : Int) ^ 10 = 1180591620717411303424 by decide]
  omega
theorem zz_bd (n : Int) : 0 ≤ zz n ∧ zz n < 128 ^ 10 := wrap_u64 _

theorem putInt_ok (n : Int) : PCall Tryd.prog 61 [.i n] (.tup [.v (.string (sB (putS n))), .i (bif decide (n < -4611686018427387903) || decide (4611686018427387903 < n) then 10 else 0)]) := by
  refine pcall_fn (tab_nil (P := Tryd.prog)) _ Tryd.func61 ok61 nt61 (by simp) fun _ => ?_
  have hS := tab_nil (P := Tryd.prog)
  unfold ac61 rv61
  repeat' (first
    | ((first | with_reducible apply awp_sr5 | with_reducible apply awp_r5 | with_reducible apply awp_sd | with_reducible apply awp_d | with_reducible apply inlR_n5 | with_reducible apply inlR_r5); (· (first | exact Ctx.fn_ok hS | exact Ctx.rd_ok hS | assumption | exact True.intro)); iterate 2 (· (simp only [go_sem, seval] <;> eq_refl)))
    | (first | with_reducible apply awp_scp | with_reducible apply awp_sn | with_reducible apply awp_nop | with_reducible apply awp_ret | with_reducible apply awp_exit | with_reducible apply awp_block | with_reducible apply awp_seq | with_reducible apply seqK_n | with_reducible apply seqK_r | with_reducible apply seqK_x | with_reducible apply blkK_n | with_reducible apply blkK_r | with_reducible apply blkK_x)
    | (with_reducible apply blkK_y; (· first | rfl | decide))
    | (first | with_reducible apply backK_x | with_reducible apply backK_r | with_reducible apply asgK_n | with_reducible apply rngK_x | with_reducible apply rngK_r | with_reducible apply True.intro | with_reducible apply And.intro True.intro True.intro)
    | (fail_if_success with_reducible apply K_id); (fail_if_success with_reducible apply awp_id); first | omega | (simp only [go_sem, seval]; done)
    | fail)
  refine awp_c (b := decide (n < -4611686018427387903) || decide (4611686018427387903 < n)) (by simp only [go_sem, seval] <;> eq_refl) (fun hb => ?_) fun hb => ?_
  · repeat' (first
    | ((first | with_reducible apply awp_sr5 | with_reducible apply awp_r5 | with_reducible apply awp_sd | with_reducible apply awp_d | with_reducible apply inlR_n5 | with_reducible apply inlR_r5); (· (first | exact Ctx.fn_ok hS | exact Ctx.rd_ok hS | assumption | exact True.intro)); iterate 2 (· (simp only [go_sem, seval] <;> eq_refl)))
    | (first | with_reducible apply awp_scp | with_reducible apply awp_sn | with_reducible apply awp_nop | with_reducible apply awp_ret | with_reducible apply awp_exit | with_reducible apply awp_block | with_reducible apply awp_seq | with_reducible apply seqK_n | with_reducible apply seqK_r | with_reducible apply seqK_x | with_reducible apply blkK_n | with_reducible apply blkK_r | with_reducible apply blkK_x)
    | (with_reducible apply blkK_y; (· first | rfl | decide))
    | (first | with_reducible apply backK_x | with_reducible apply backK_r | with_reducible apply asgK_n | with_reducible apply rngK_x | with_reducible apply rngK_r | with_reducible apply True.intro | with_reducible apply And.intro True.intro True.intro)
    | (fail_if_success with_reducible apply K_id); (fail_if_success with_reducible apply awp_id); first | omega | (simp only [go_sem, seval]; done)
    | fail)
    first | refine endK_r (by simp only [go_sem, seval] <;> eq_refl) (by simp only [go_sem, seval]) (by simp only [go_sem, seval]) ?_ rfl | refine endK_n (by simp only [go_sem, seval] <;> eq_refl) (by simp only [go_sem, seval]) (by simp only [go_sem, seval]) ?_ rfl
    simp only [putS, hb, go_sem, seval]
  · repeat' (first
    | ((first | with_reducible apply awp_sr5 | with_reducible apply awp_r5 | with_reducible apply awp_sd | with_reducible apply awp_d | with_reducible apply inlR_n5 | with_reducible apply inlR_r5); (· (first | exact Ctx.fn_ok hS | exact Ctx.rd_ok hS | assumption | exact True.intro)); iterate 2 (· (simp only [go_sem, seval] <;> eq_refl)))
    | (first | with_reducible apply awp_scp | with_reducible apply awp_sn | with_reducible apply awp_nop | with_reducible apply awp_ret | with_reducible apply awp_exit | with_reducible apply awp_block | with_reducible apply awp_seq | with_reducible apply seqK_n | with_reducible apply seqK_r | with_reducible apply seqK_x | with_reducible apply blkK_n | with_reducible apply blkK_r | with_reducible apply blkK_x)
    | (with_reducible apply blkK_y; (· first | rfl | decide))
    | (first | with_reducible apply backK_x | with_reducible apply backK_r | with_reducible apply asgK_n | with_reducible apply rngK_x | with_reducible apply rngK_r | with_reducible apply True.intro | with_reducible apply And.intro True.intro True.intro)
    | (fail_if_success with_reducible apply K_id); (fail_if_success with_reducible apply awp_id); first | omega | (simp only [go_sem, seval]; done)
    | fail)
    refine awp_inlF hS 7 Tryd.func75 ok75 nt75 of75 rfl (by simp only [go_sem, seval] <;> eq_refl) (by simp only [go_sem, seval] <;> eq_refl) ?_ rfl (by simp only [go_sem, seval] <;> eq_refl) (by simp) fun _ => ?_
    · exact True.intro
    unfold ac75 rv75
    repeat' (first
    | ((first | with_reducible apply awp_sr5 | with_reducible apply awp_r5 | with_reducible apply awp_sd | with_reducible apply awp_d | with_reducible apply inlR_n5 | with_reducible apply inlR_r5); (· (first | exact Ctx.fn_ok hS | exact Ctx.rd_ok hS | assumption | exact True.intro)); iterate 2 (· (simp only [go_sem, seval] <;> eq_refl)))
    | (first | with_reducible apply awp_scp | with_reducible apply awp_sn | with_reducible apply awp_nop | with_reducible apply awp_ret | with_reducible apply awp_exit | with_reducible apply awp_block | with_reducible apply awp_seq | with_reducible apply seqK_n | with_reducible apply seqK_r | with_reducible apply seqK_x | with_reducible apply blkK_n | with_reducible apply blkK_r | with_reducible apply blkK_x)
    | (with_reducible apply blkK_y; (· first | rfl | decide))
    | (first | with_reducible apply backK_x | with_reducible apply backK_r | with_reducible apply asgK_n | with_reducible apply rngK_x | with_reducible apply rngK_r | with_reducible apply True.intro | with_reducible apply And.intro True.intro True.intro)
    | (fail_if_success with_reducible apply K_id); (fail_if_success with_reducible apply awp_id); first | omega | (simp only [go_sem, seval]; done)
    | fail)
    refine awp_claimCk 1 (300, 3) 0 1 [.v (.int .u8 0)] (by omega) (by simp only [go_sem, seval] <;> eq_refl) ?_
    have hlen := grpL_len 10 (zz n)
    refine awp_rfunB (0, 5) [.v (.int .u64 (zz n))] (fun x : Nat × List Int × Nat => ([(.c (300, 3) 0, .own (1, 8) x.2.1.length), (.a (1, 8), .sl 1 true (x.2.1.map eB) [.v (.int .u8 0)])], x.2.2))
      (fun x => x.2.1 = ((grpL 10 (zz n)).take x.1).map grO ∧ x.1 ≤ (grpL 10 (zz n)).length) (fun x => x.1) (0, [], 8) (by simp only [go_sem, seval] <;> eq_refl) (groups_it (zz n) (0, 5) (zz_bd n)) of85 ⟨rfl, rfl, rfl⟩ ⟨rfl, rfl, rfl⟩ (fun j => by simp [hl]) (by simp) (by intro a ha; obtain ⟨y, _, rfl⟩ := List.mem_map.1 ha; exact ⟨rfl, rfl⟩) ⟨rfl, Nat.zero_le _⟩ rfl ?_ ?_ ?_
    · exact leF f0
    · rintro l ⟨k, out, c⟩ ⟨hout, hk⟩ args ha
      simp only at hout hk
      obtain ⟨⟨g, last⟩, hy, rfl, hlt⟩ := rd_step ha
      have hout2 : out ++ [grO (g, last)] = ((grpL 10 (zz n)).take (k + 1)).map grO := by
        have : (grpL 10 (zz n))[k]? = some (g, last) := by
          have : (grpL 10 (zz n))[k]? = ((grpL 10 (zz n)).drop k)[0]? := by simp
          rw [this, hy]; rfl
        rw [List.take_add_one, this, List.map_append, hout]; rfl
      have hol : out.length = k := by rw [hout]; simp; omega
      clear ha hy
      simp only [grA, putps]
      have hOK := Ctx.rdG_ok (nt := 33) (l := l) hS
      cases last with
      | true =>
        repeat' (first
    | ((first | with_reducible apply awp_sr5 | with_reducible apply awp_r5 | with_reducible apply awp_sd | with_reducible apply awp_d | with_reducible apply inlR_n5 | with_reducible apply inlR_r5); (· (first | exact Ctx.fn_ok hS | exact Ctx.rd_ok hS | assumption | exact True.intro)); iterate 2 (· (simp only [go_sem, seval] <;> eq_refl)))
    | (first | with_reducible apply awp_scp | with_reducible apply awp_sn | with_reducible apply awp_nop | with_reducible apply awp_ret | with_reducible apply awp_exit | with_reducible apply awp_block | with_reducible apply awp_seq | with_reducible apply seqK_n | with_reducible apply seqK_r | with_reducible apply seqK_x | with_reducible apply blkK_n | with_reducible apply blkK_r | with_reducible apply blkK_x)
    | (with_reducible apply blkK_y; (· first | rfl | decide))
    | (first | with_reducible apply backK_x | with_reducible apply backK_r | with_reducible apply asgK_n | with_reducible apply rngK_x | with_reducible apply rngK_r | with_reducible apply True.intro | with_reducible apply And.intro True.intro True.intro)
    | (fail_if_success with_reducible apply K_id); (fail_if_success with_reducible apply awp_id); first | omega | (simp only [go_sem, seval]; done)
    | fail)
        refine awp_cf (by simp only [go_sem, seval] <;> eq_refl) ?_
        repeat' (first
    | ((first | with_reducible apply awp_sr5 | with_reducible apply awp_r5 | with_reducible apply awp_sd | with_reducible apply awp_d | with_reducible apply inlR_n5 | with_reducible apply inlR_r5); (· (first | exact Ctx.fn_ok hS | exact Ctx.rd_ok hS | assumption | exact True.intro)); iterate 2 (· (simp only [go_sem, seval] <;> eq_refl)))
    | (first | with_reducible apply awp_scp | with_reducible apply awp_sn | with_reducible apply awp_nop | with_reducible apply awp_ret | with_reducible apply awp_exit | with_reducible apply awp_block | with_reducible apply awp_seq | with_reducible apply seqK_n | with_reducible apply seqK_r | with_reducible apply seqK_x | with_reducible apply blkK_n | with_reducible apply blkK_r | with_reducible apply blkK_x)
    | (with_reducible apply blkK_y; (· first | rfl | decide))
    | (first | with_reducible apply backK_x | with_reducible apply backK_r | with_reducible apply asgK_n | with_reducible apply rngK_x | with_reducible apply rngK_r | with_reducible apply True.intro | with_reducible apply And.intro True.intro True.intro)
    | (fail_if_success with_reducible apply K_id); (fail_if_success with_reducible apply awp_id); first | omega | (simp only [go_sem, seval]; done)
    | fail)
        refine rngK_n (k + 1, out ++ [g], c + 50) ⟨by rw [← hout2]; rfl, hlt⟩ rfl ?_
        refine Le.of ?_ ?_ (by first | exact Nat.le_refl _ | (simp; omega) | simp) <;> first | (simp only [go_sem, seval, eB]; done) | (simp only [go_sem, seval, eB, List.map_append, List.map_cons, List.map_nil, List.map_set, List.map_take, List.map_drop]; done) | (simp [eB, List.map_append, List.map_set]; done)
      | false =>
        repeat' (first
    | ((first | with_reducible apply awp_sr5 | with_reducible apply awp_r5 | with_reducible apply awp_sd | with_reducible apply awp_d | with_reducible apply inlR_n5 | with_reducible apply inlR_r5); (· (first | exact Ctx.fn_ok hS | exact Ctx.rd_ok hS | assumption | exact True.intro)); iterate 2 (· (simp only [go_sem, seval] <;> eq_refl)))
    | (first | with_reducible apply awp_scp | with_reducible apply awp_sn | with_reducible apply awp_nop | with_reducible apply awp_ret | with_reducible apply awp_exit | with_reducible apply awp_block | with_reducible apply awp_seq | with_reducible apply seqK_n | with_reducible apply seqK_r | with_reducible apply seqK_x | with_reducible apply blkK_n | with_reducible apply blkK_r | with_reducible apply blkK_x)
    | (with_reducible apply blkK_y; (· first | rfl | decide))
    | (first | with_reducible apply backK_x | with_reducible apply backK_r | with_reducible apply asgK_n | with_reducible apply rngK_x | with_reducible apply rngK_r | with_reducible apply True.intro | with_reducible apply And.intro True.intro True.intro)
    | (fail_if_success with_reducible apply K_id); (fail_if_success with_reducible apply awp_id); first | omega | (simp only [go_sem, seval]; done)
    | fail)
        refine awp_ct (by simp only [go_sem, seval] <;> eq_refl) ?_
        repeat' (first
    | ((first | with_reducible apply awp_sr5 | with_reducible apply awp_r5 | with_reducible apply awp_sd | with_reducible apply awp_d | with_reducible apply inlR_n5 | with_reducible apply inlR_r5); (· (first | exact Ctx.fn_ok hS | exact Ctx.rd_ok hS | assumption | exact True.intro)); iterate 2 (· (simp only [go_sem, seval] <;> eq_refl)))
    | (first | with_reducible apply awp_scp | with_reducible apply awp_sn | with_reducible apply awp_nop | with_reducible apply awp_ret | with_reducible apply awp_exit | with_reducible apply awp_block | with_reducible apply awp_seq | with_reducible apply seqK_n | with_reducible apply seqK_r | with_reducible apply seqK_x | with_reducible apply blkK_n | with_reducible apply blkK_r | with_reducible apply blkK_x)
    | (with_reducible apply blkK_y; (· first | rfl | decide))
    | (first | with_reducible apply backK_x | with_reducible apply backK_r | with_reducible apply asgK_n | with_reducible apply rngK_x | with_reducible apply rngK_r | with_reducible apply True.intro | with_reducible apply And.intro True.intro True.intro)
    | (fail_if_success with_reducible apply K_id); (fail_if_success with_reducible apply awp_id); first | omega | (simp only [go_sem, seval]; done)
    | fail)
        refine rngK_n (k + 1, out ++ [bitsI .or .u8 g 128], c + 50) ⟨by rw [← hout2]; rfl, hlt⟩ rfl ?_
        refine Le.of ?_ ?_ (by first | exact Nat.le_refl _ | (simp; omega) | simp) <;> first | (simp only [go_sem, seval, eB]; done) | (simp only [go_sem, seval, eB, List.map_append, List.map_cons, List.map_nil, List.map_set, List.map_take, List.map_drop]; done) | (simp [eB, List.map_append, List.map_set]; done)
    · rintro ⟨k, out, c⟩ ⟨hout, hk⟩ hk2
      simp only at hout hk
      repeat' (first
    | ((first | with_reducible apply awp_sr5 | with_reducible apply awp_r5 | with_reducible apply awp_sd | with_reducible apply awp_d | with_reducible apply inlR_n5 | with_reducible apply inlR_r5); (· (first | exact Ctx.fn_ok hS | exact Ctx.rd_ok hS | assumption | exact True.intro)); iterate 2 (· (simp only [go_sem, seval, eB_isB, eB_rowB] <;> eq_refl)))
    | (first | with_reducible apply awp_scp | with_reducible apply awp_sn | with_reducible apply awp_nop | with_reducible apply awp_ret | with_reducible apply awp_exit | with_reducible apply awp_block | with_reducible apply awp_seq | with_reducible apply seqK_n | with_reducible apply seqK_r | with_reducible apply seqK_x | with_reducible apply blkK_n | with_reducible apply blkK_r | with_reducible apply blkK_x)
    | (with_reducible apply blkK_y; (· first | rfl | decide))
    | (first | with_reducible apply backK_x | with_reducible apply backK_r | with_reducible apply asgK_n | with_reducible apply rngK_x | with_reducible apply rngK_r | with_reducible apply True.intro | with_reducible apply And.intro True.intro True.intro)
    | (fail_if_success with_reducible apply K_id); (fail_if_success with_reducible apply awp_id); first | omega | (simp only [go_sem, seval, eB_isB, eB_rowB]; done)
    | fail)
      first | refine endK_r (by simp only [go_sem, seval] <;> eq_refl) (by simp only [go_sem, seval]) (by simp only [go_sem, seval]) ?_ rfl | refine endK_n (by simp only [go_sem, seval] <;> eq_refl) (by simp only [go_sem, seval]) (by simp only [go_sem, seval]) ?_ rfl
      have : out = putI n := by rw [hout, show k = _ from hk2, putI, List.length_map, List.take_length]
      simp only [putS, hb, this, go_sem, seval]
end Go.Proofs.YtdabfcbelkjmgaaDoor.Am
