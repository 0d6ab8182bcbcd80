import Derived.Test.YtdabfcbelkjmgaaDoorP5
/-
  unit: numbers are written into a builder.
-/
namespace Go.Proofs.YtdabfcbelkjmgaaDoor.Am
open Go
attribute [local irreducible] awp seqK blkK backK endK inlK restK rngK asgK itK
set_option maxRecDepth 100000
set_option maxHeartbeats 8000000
set_option linter.unusedSimpArgs false
set_option linter.unusedVariables false
def sPutI : Spec
  | [.v (.int .i64 n)] => some (True, .tup [.v (.string (sB (putS n))), .i (bif decide (n < -4611686018427387903) || decide (4611686018427387903 < n) then 10 else 0)])
  | _ => none
theorem putI_fok : FOK Tryd.prog 61 sPutI := ⟨of61, by
  intro args vc r h hv
  unfold sPutI at h
  split at h
  · cases h
    exact putInt_ok _
  · simp at h⟩
def S42 : List (Nat × Spec) := [(61, sPutI)]
theorem S42_ok : TabOK Tryd.prog (tabOf S42) := tab_cons putI_fok tab_nil
def eI (x : Int) : List AV := [.i x]
theorem eI_row (ns : List Int) (d : List AV) (j : Nat) (h : j < ns.length) : rowAt (ns.map eI) d j = [.i (ns.getD j 0)] := by
  unfold rowAt
  simp [List.getD_eq_getElem?_getD, h, eI]
/-- The bytes of numbers. -/
def numS (ns : List Int) : List UInt8 := (ns.map putS).flatten
theorem of_write : okF Tryd.prog 62 := ⟨Tryd.f62, Tryd.func62, by kernel_rfl, by kernel_rfl⟩
theorem of_string : okF Tryd.prog 43 := ⟨Tryd.f43, Tryd.func43, by kernel_rfl, by kernel_rfl⟩
theorem numS_le (ns : List Int) (j : Nat) : (numS (ns.take j)).length ≤ (numS ns).length := by
  have : numS ns = numS (ns.take j) ++ numS (ns.drop j) := by
    unfold numS
    rw [← List.flatten_append, ← List.map_append, List.take_append_drop]
  rw [this, List.length_append]
  omega
theorem numS_succ {ns : List Int} {j : Nat} (h : j < ns.length) : numS (ns.take (j + 1)) = numS (ns.take j) ++ putS (ns.getD j 0) := by
  unfold numS
  have : ns[j]? = some (ns.getD j 0) := by simp [List.getD_eq_getElem?_getD, h]
  rw [List.take_add_one, this]
  simp

theorem numbers_b (ns : List Int) (f : Bool) (d : List AV) (l : List UInt8) (hl : (l ++ numS ns).length ≤ 140737488355328) (hn : ns.length ≤ 1000000) : BCall Tryd.prog 42 [.sl 1 f (ns.map eI) d] l (some (l ++ numS ns)) (.tup []) := by
  refine bcall_fn S42_ok _ Tryd.func42 ok42 nt42 (by decide) (by simp) fun hb N X b => ?_
  have hS := S42_ok
  have hOK := Ctx.bd_ok (nt := 25) (hb := hb) (N := N) (X := X) (hnt := by decide) hS
  unfold ac42 rv42
  repeat' (first
    | ((first | with_reducible apply awp_sr5 | with_reducible apply awp_r5 | with_reducible apply awp_sd | with_reducible apply awp_d | with_reducible apply inlR_n5 | with_reducible apply inlR_r5); (· (first | exact Ctx.fn_ok hS | exact Ctx.rd_ok hS | assumption | exact True.intro)); iterate 2 (· (simp only [go_sem, seval, bd_S] <;> eq_refl)))
    | (first | with_reducible apply awp_scp | with_reducible apply awp_sn | with_reducible apply awp_nop | with_reducible apply awp_ret | with_reducible apply awp_exit | with_reducible apply awp_block | with_reducible apply awp_seq | with_reducible apply seqK_n | with_reducible apply seqK_r | with_reducible apply seqK_x | with_reducible apply blkK_n | with_reducible apply blkK_r | with_reducible apply blkK_x)
    | (with_reducible apply blkK_y; (· first | rfl | decide))
    | (first | with_reducible apply backK_x | with_reducible apply backK_r | with_reducible apply asgK_n | with_reducible apply rngK_x | with_reducible apply rngK_r | with_reducible apply True.intro | with_reducible apply And.intro True.intro True.intro)
    | (fail_if_success with_reducible apply K_id); (fail_if_success with_reducible apply awp_id); first | omega | (simp only [go_sem, seval, bd_S]; done)
    | fail)
  refine awp_loop (fun x : Nat × Nat => ⟨[(10, .i x.1), (9, .i ns.length), (8, .sl 1 f (ns.map eI) d), (0, .v (.pointer (some ⟨b, 0, none⟩))), (bk, gB b (l ++ numS (ns.take x.1)))], [], x.2⟩)
    (fun x => x.1 ≤ ns.length) (fun x => ns.length - x.1) (0, 50) ?_ ?_ ?_
  · exact Nat.zero_le _
  · refine Le.of ?_ ?_ (by simp) <;> (simp only [go_sem, seval, numS]; try simp)
  · rintro ⟨j, c⟩ hj
    simp only at hj
    repeat' (first
    | ((first | with_reducible apply awp_sr5 | with_reducible apply awp_r5 | with_reducible apply awp_sd | with_reducible apply awp_d | with_reducible apply inlR_n5 | with_reducible apply inlR_r5); (· (first | exact Ctx.fn_ok hS | exact Ctx.rd_ok hS | assumption | exact True.intro)); iterate 2 (· (simp only [go_sem, seval] <;> eq_refl)))
    | (first | with_reducible apply awp_scp | with_reducible apply awp_sn | with_reducible apply awp_nop | with_reducible apply awp_ret | with_reducible apply awp_exit | with_reducible apply awp_block | with_reducible apply awp_seq | with_reducible apply seqK_n | with_reducible apply seqK_r | with_reducible apply seqK_x | with_reducible apply blkK_n | with_reducible apply blkK_r | with_reducible apply blkK_x)
    | (with_reducible apply blkK_y; (· first | rfl | decide))
    | (first | with_reducible apply backK_x | with_reducible apply backK_r | with_reducible apply asgK_n | with_reducible apply rngK_x | with_reducible apply rngK_r | with_reducible apply True.intro | with_reducible apply And.intro True.intro True.intro)
    | (fail_if_success with_reducible apply K_id); (fail_if_success with_reducible apply awp_id); first | omega | (simp only [go_sem, seval]; done)
    | fail)
    refine awp_cp ((j : Int) < ns.length) (by simp only [go_sem, seval] <;> eq_refl) (by first | simp only [Bool.decide_or, Bool.decide_and, decide_not] | simp) (fun hj1 => ?_) (fun hj1 => ?_)
    · have hj' : j < ns.length := by omega
      have hrow := eI_row ns d j hj'
      have hsu := numS_succ hj'
      have hle := numS_le ns (j + 1)
      rw [hsu, List.length_append] at hle
      have hl2 : (l ++ numS (ns.take j)).length + (putS (ns.getD j 0)).length ≤ 140737488355328 := by
        rw [List.length_append] at hl ⊢
        omega
      repeat' (first
    | ((first | with_reducible apply awp_sr5 | with_reducible apply awp_r5 | with_reducible apply awp_sd | with_reducible apply awp_d | with_reducible apply inlR_n5 | with_reducible apply inlR_r5); (· (first | exact Ctx.fn_ok hS | exact Ctx.rd_ok hS | assumption | exact True.intro)); iterate 2 (· (simp only [go_sem, seval, Am.S42, Am.sPutI, hrow] <;> eq_refl)))
    | (first | with_reducible apply awp_scp | with_reducible apply awp_sn | with_reducible apply awp_nop | with_reducible apply awp_ret | with_reducible apply awp_exit | with_reducible apply awp_block | with_reducible apply awp_seq | with_reducible apply seqK_n | with_reducible apply seqK_r | with_reducible apply seqK_x | with_reducible apply blkK_n | with_reducible apply blkK_r | with_reducible apply blkK_x)
    | (with_reducible apply blkK_y; (· first | rfl | decide))
    | (first | with_reducible apply backK_x | with_reducible apply backK_r | with_reducible apply asgK_n | with_reducible apply rngK_x | with_reducible apply rngK_r | with_reducible apply True.intro | with_reducible apply And.intro True.intro True.intro)
    | (fail_if_success with_reducible apply K_id); (fail_if_success with_reducible apply awp_id); first | omega | (simp only [go_sem, seval, Am.S42, Am.sPutI, hrow]; done)
    | fail)
      refine awp_bcall hS 4 rfl of_write (by simp only [go_sem, seval] <;> eq_refl) True.intro (by simp only [go_sem, seval] <;> eq_refl) (by simp only [go_sem, seval] <;> eq_refl) (by simp only [go_sem, seval] <;> eq_refl) (by simp only [go_sem, seval, rvcL] <;> eq_refl) rfl rfl (bcall_write hl2) (by simp only [go_sem, seval] <;> eq_refl) True.intro ?_
      repeat' (first
    | ((first | with_reducible apply awp_sr5 | with_reducible apply awp_r5 | with_reducible apply awp_sd | with_reducible apply awp_d | with_reducible apply inlR_n5 | with_reducible apply inlR_r5); (· (first | exact Ctx.fn_ok hS | exact Ctx.rd_ok hS | assumption | exact True.intro)); iterate 2 (· (simp only [go_sem, seval] <;> eq_refl)))
    | (first | with_reducible apply awp_scp | with_reducible apply awp_sn | with_reducible apply awp_nop | with_reducible apply awp_ret | with_reducible apply awp_exit | with_reducible apply awp_block | with_reducible apply awp_seq | with_reducible apply seqK_n | with_reducible apply seqK_r | with_reducible apply seqK_x | with_reducible apply blkK_n | with_reducible apply blkK_r | with_reducible apply blkK_x)
    | (with_reducible apply blkK_y; (· first | rfl | decide))
    | (first | with_reducible apply backK_x | with_reducible apply backK_r | with_reducible apply asgK_n | with_reducible apply rngK_x | with_reducible apply rngK_r | with_reducible apply True.intro | with_reducible apply And.intro True.intro True.intro)
    | (fail_if_success with_reducible apply K_id); (fail_if_success with_reducible apply awp_id); first | omega | (simp only [go_sem, seval]; done)
    | fail)
      refine backK_n (j + 1, c + 50) (by show j + 1 ≤ _; omega) (by show ns.length - (j + 1) < ns.length - j; omega) (Le.of ?_ ?_ ?_)
      · simp only [go_sem, seval, hsu, List.append_assoc] <;> simp
      · simp only [go_sem, seval]
      · simp
    · repeat' (first
    | ((first | with_reducible apply awp_sr5 | with_reducible apply awp_r5 | with_reducible apply awp_sd | with_reducible apply awp_d | with_reducible apply inlR_n5 | with_reducible apply inlR_r5); (· (first | exact Ctx.fn_ok hS | exact Ctx.rd_ok hS | assumption | exact True.intro)); iterate 2 (· (simp only [go_sem, seval] <;> eq_refl)))
    | (first | with_reducible apply awp_scp | with_reducible apply awp_sn | with_reducible apply awp_nop | with_reducible apply awp_ret | with_reducible apply awp_exit | with_reducible apply awp_block | with_reducible apply awp_seq | with_reducible apply seqK_n | with_reducible apply seqK_r | with_reducible apply seqK_x | with_reducible apply blkK_n | with_reducible apply blkK_r | with_reducible apply blkK_x)
    | (with_reducible apply blkK_y; (· first | rfl | decide))
    | (first | with_reducible apply backK_x | with_reducible apply backK_r | with_reducible apply asgK_n | with_reducible apply rngK_x | with_reducible apply rngK_r | with_reducible apply True.intro | with_reducible apply And.intro True.intro True.intro)
    | (fail_if_success with_reducible apply K_id); (fail_if_success with_reducible apply awp_id); first | omega | (simp only [go_sem, seval]; done)
    | fail)
      have : j = ns.length := by omega
      subst this
      rw [List.take_length]
      refine endB_n (by simp only [go_sem, seval] <;> eq_refl) (by simp only [go_sem, seval] <;> eq_refl) True.intro (by simp only [go_sem, seval] <;> eq_refl) (by simp only [go_sem, seval] <;> eq_refl) rfl
end Go.Proofs.YtdabfcbelkjmgaaDoor.Am
