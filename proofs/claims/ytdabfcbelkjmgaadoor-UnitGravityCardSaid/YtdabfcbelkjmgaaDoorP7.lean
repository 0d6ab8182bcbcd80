import Derived.Test.YtdabfcbelkjmgaaDoorP6
import Derived.Test.YtdabfcbelkjmgaaDoorE1
/-
  unit: the encoding.
-/
namespace Go.Proofs.YtdabfcbelkjmgaaDoor.Am
open Go
attribute [local irreducible] awp seqK blkK backK endK inlK restK rngK asgK itK
set_option maxRecDepth 100000
set_option maxHeartbeats 8000000
set_option linter.unusedSimpArgs false
set_option linter.unusedVariables false
theorem bt_writer : BT 90 := ⟨by kernel_rfl, by decide⟩
def S21 (N : Nat) : List (Nat × Spec) := [(23, s23 N)]
theorem S21_ok (N : Nat) : TabOK Tryd.prog (tabOf (S21 N)) := tab_cons (fok23 N) tab_nil
def headS (a b c n p q : Int) : List UInt8 := numS [a, b, c, p, q, n]
def ptS (l : List (Int × Int)) : List UInt8 := (l.map fun p => numS [p.1, p.2]).flatten
def encS (a b c : Int) (l : List (Int × Int)) (p q : Int) : List UInt8 := headS a b c l.length p q ++ ptS l
theorem putS_len (n : Int) : (putS n).length ≤ 10 := by
  unfold putS
  cases h : (decide (n < -4611686018427387903) || decide (4611686018427387903 < n)) with
  | true => simp
  | false => simp only [cond_false, toB, putI, List.length_map]; exact grpL_len 10 _
theorem numS_len : ∀ (ns : List Int), (numS ns).length ≤ 10 * ns.length
  | [] => by simp [numS]
  | n :: ns => by
    have h1 := putS_len n
    have h2 := numS_len ns
    simp only [numS, List.map_cons, List.flatten_cons, List.length_append, List.length_cons] at h2 ⊢
    omega
theorem ptS_len : ∀ (l : List (Int × Int)), (ptS l).length ≤ 20 * l.length
  | [] => by simp [ptS]
  | p :: l => by
    have h1 := numS_len [p.1, p.2]
    have h2 := ptS_len l
    simp only [ptS, List.map_cons, List.flatten_cons, List.length_append, List.length_cons, List.length_nil] at h1 h2 ⊢
    omega
theorem ptS_succ {l : List (Int × Int)} {j : Nat} (h : j < l.length) : ptS (l.take (j + 1)) = ptS (l.take j) ++ numS [(l.getD j (0, 0)).1, (l.getD j (0, 0)).2] := by
  unfold ptS
  have : l[j]? = some (l.getD j (0, 0)) := by simp [List.getD_eq_getElem?_getD, h]
  rw [List.take_add_one, this]
  simp

theorem putS_ne {n : Int} (h1 : -4611686018427387903 ≤ n) (h2 : n ≤ 4611686018427387903) : putS n ≠ [] := by
  have e : (decide (n < -4611686018427387903) || decide (4611686018427387903 < n)) = false := by simp; omega
  unfold putS
  rw [e, cond_false]
  unfold toB putI
  intro h
  have h3 := List.map_eq_nil_iff.1 (List.map_eq_nil_iff.1 h)
  by_cases hz : zz n < 128
  · rw [grpL_lt hz] at h3; cases h3
  · rw [grpL_ge hz] at h3; cases h3
theorem encode_ok (N : Nat) (a b c : Int) (l : List (Int × Int)) (p q : Int) (v : Bool) (hv : D_unit_Valid N a b c l p q = some v) (hl : l.length ≤ 1000000) :
    PCall Tryd.prog 21 [.agg [.i a, .i b, .i c, .sl 2 false (l.map e_ii) [.i 0, .i 0], .i p, .i q]] (.tup [.v (.string (sB (bif v then encS a b c l p q else []))), .i (bif v then 0 else 80)]) := by
  refine pcall_bd (S21_ok N) _ Tryd.func21 ok21 nt21 (by decide) (by simp) fun hb M => ?_
  have hS := S21_ok N
  have hOK := Ctx.bd_ok (nt := 41) (hb := hb) (N := M) (X := fun _ => False) (hnt := by decide) hS
  unfold ac21 rv21
  have hlen := ptS_len l
  have hhl := numS_len [a, b, c, p, q, (l.length : Int)]
  repeat' (first
    | ((first | with_reducible apply awp_sr5 | with_reducible apply awp_r5 | with_reducible apply awp_sd | with_reducible apply awp_d | with_reducible apply inlR_n5 | with_reducible apply inlR_r5); (· (first | exact Ctx.fn_ok hS | exact Ctx.rd_ok hS | assumption | exact True.intro)); iterate 2 (· (simp only [go_sem, seval, Am.S21, Am.s23, Am.de_ii, hv, Option.isSome_some] <;> eq_refl)))
    | (first | with_reducible apply awp_scp | with_reducible apply awp_sn | with_reducible apply awp_nop | with_reducible apply awp_ret | with_reducible apply awp_exit | with_reducible apply awp_block | with_reducible apply awp_seq | with_reducible apply seqK_n | with_reducible apply seqK_r | with_reducible apply seqK_x | with_reducible apply blkK_n | with_reducible apply blkK_r | with_reducible apply blkK_x)
    | (with_reducible apply blkK_y; (· first | rfl | decide))
    | (first | with_reducible apply backK_x | with_reducible apply backK_r | with_reducible apply asgK_n | with_reducible apply rngK_x | with_reducible apply rngK_r | with_reducible apply True.intro | with_reducible apply And.intro True.intro True.intro)
    | (fail_if_success with_reducible apply K_id); (fail_if_success with_reducible apply awp_id); first | omega | (simp only [go_sem, seval, Am.S21, Am.s23, Am.de_ii, hv, Option.isSome_some]; done)
    | fail)
  cases v with
  | false =>
    refine awp_ct (by simp only [go_sem, seval] <;> eq_refl) ?_
    repeat' (first
    | ((first | with_reducible apply awp_sr5 | with_reducible apply awp_r5 | with_reducible apply awp_sd | with_reducible apply awp_d | with_reducible apply inlR_n5 | with_reducible apply inlR_r5); (· (first | exact Ctx.fn_ok hS | exact Ctx.rd_ok hS | assumption | exact True.intro)); iterate 2 (· (simp only [go_sem, seval] <;> eq_refl)))
    | (first | with_reducible apply awp_scp | with_reducible apply awp_sn | with_reducible apply awp_nop | with_reducible apply awp_ret | with_reducible apply awp_exit | with_reducible apply awp_block | with_reducible apply awp_seq | with_reducible apply seqK_n | with_reducible apply seqK_r | with_reducible apply seqK_x | with_reducible apply blkK_n | with_reducible apply blkK_r | with_reducible apply blkK_x)
    | (with_reducible apply blkK_y; (· first | rfl | decide))
    | (first | with_reducible apply backK_x | with_reducible apply backK_r | with_reducible apply asgK_n | with_reducible apply rngK_x | with_reducible apply rngK_r | with_reducible apply True.intro | with_reducible apply And.intro True.intro True.intro)
    | (fail_if_success with_reducible apply K_id); (fail_if_success with_reducible apply awp_id); first | omega | (simp only [go_sem, seval]; done)
    | fail)
    first | refine endK_r (by simp only [go_sem, seval] <;> eq_refl) (by simp only [go_sem, seval]) (by simp only [go_sem, seval]) ?_ rfl | refine endK_n (by simp only [go_sem, seval] <;> eq_refl) (by simp only [go_sem, seval]) (by simp only [go_sem, seval]) ?_ rfl
    simp only [go_sem, seval]
  | true =>
    refine awp_cf (by simp only [go_sem, seval] <;> eq_refl) ?_
    repeat' (first
    | ((first | with_reducible apply awp_sr5 | with_reducible apply awp_r5 | with_reducible apply awp_sd | with_reducible apply awp_d | with_reducible apply inlR_n5 | with_reducible apply inlR_r5); (· (first | exact Ctx.fn_ok hS | exact Ctx.rd_ok hS | assumption | exact True.intro)); iterate 2 (· (simp only [go_sem, seval] <;> eq_refl)))
    | (first | with_reducible apply awp_scp | with_reducible apply awp_sn | with_reducible apply awp_nop | with_reducible apply awp_ret | with_reducible apply awp_exit | with_reducible apply awp_block | with_reducible apply awp_seq | with_reducible apply seqK_n | with_reducible apply seqK_r | with_reducible apply seqK_x | with_reducible apply blkK_n | with_reducible apply blkK_r | with_reducible apply blkK_x)
    | (with_reducible apply blkK_y; (· first | rfl | decide))
    | (first | with_reducible apply backK_x | with_reducible apply backK_r | with_reducible apply asgK_n | with_reducible apply rngK_x | with_reducible apply rngK_r | with_reducible apply True.intro | with_reducible apply And.intro True.intro True.intro)
    | (fail_if_success with_reducible apply K_id); (fail_if_success with_reducible apply awp_id); first | omega | (simp only [go_sem, seval]; done)
    | fail)
    refine awp_newB hS 0 rfl bt_writer (by simp only [go_sem, seval] <;> eq_refl) True.intro fun B => ⟨_, _, _, (by simp only [go_sem, seval] <;> eq_refl), True.intro, ?_⟩
    repeat' (first
    | ((first | with_reducible apply awp_sr5 | with_reducible apply awp_r5 | with_reducible apply awp_sd | with_reducible apply awp_d | with_reducible apply inlR_n5 | with_reducible apply inlR_r5); (· (first | exact Ctx.fn_ok hS | exact Ctx.rd_ok hS | assumption | exact True.intro)); iterate 2 (· (simp only [go_sem, seval] <;> eq_refl)))
    | (first | with_reducible apply awp_scp | with_reducible apply awp_sn | with_reducible apply awp_nop | with_reducible apply awp_ret | with_reducible apply awp_exit | with_reducible apply awp_block | with_reducible apply awp_seq | with_reducible apply seqK_n | with_reducible apply seqK_r | with_reducible apply seqK_x | with_reducible apply blkK_n | with_reducible apply blkK_r | with_reducible apply blkK_x)
    | (with_reducible apply blkK_y; (· first | rfl | decide))
    | (first | with_reducible apply backK_x | with_reducible apply backK_r | with_reducible apply asgK_n | with_reducible apply rngK_x | with_reducible apply rngK_r | with_reducible apply True.intro | with_reducible apply And.intro True.intro True.intro)
    | (fail_if_success with_reducible apply K_id); (fail_if_success with_reducible apply awp_id); first | omega | (simp only [go_sem, seval]; done)
    | fail)
    have hh1 : ([] ++ numS [a, b, c, p, q, (l.length : Int)]).length ≤ 140737488355328 := by
      simp only [List.nil_append, List.length_cons, List.length_nil] at hhl ⊢
      omega
    refine awp_bcall hS 14 (ax := [.sl 1 false ([a, b, c, p, q, (l.length : Int)].map eI) [.i 0]]) rfl of42 (by simp only [go_sem, seval] <;> eq_refl) True.intro (by simp only [go_sem, seval] <;> eq_refl) (by simp only [go_sem, seval] <;> eq_refl) (by simp only [go_sem, seval, Am.eI] <;> eq_refl) ?_ rfl rfl (numbers_b _ _ _ [] hh1 (by simp)) (by simp only [go_sem, seval] <;> eq_refl) True.intro ?_
    · simp only [go_sem, seval]
    repeat' (first
    | ((first | with_reducible apply awp_sr5 | with_reducible apply awp_r5 | with_reducible apply awp_sd | with_reducible apply awp_d | with_reducible apply inlR_n5 | with_reducible apply inlR_r5); (· (first | exact Ctx.fn_ok hS | exact Ctx.rd_ok hS | assumption | exact True.intro)); iterate 2 (· (simp only [go_sem, seval] <;> eq_refl)))
    | (first | with_reducible apply awp_scp | with_reducible apply awp_sn | with_reducible apply awp_nop | with_reducible apply awp_ret | with_reducible apply awp_exit | with_reducible apply awp_block | with_reducible apply awp_seq | with_reducible apply seqK_n | with_reducible apply seqK_r | with_reducible apply seqK_x | with_reducible apply blkK_n | with_reducible apply blkK_r | with_reducible apply blkK_x)
    | (with_reducible apply blkK_y; (· first | rfl | decide))
    | (first | with_reducible apply backK_x | with_reducible apply backK_r | with_reducible apply asgK_n | with_reducible apply rngK_x | with_reducible apply rngK_r | with_reducible apply True.intro | with_reducible apply And.intro True.intro True.intro)
    | (fail_if_success with_reducible apply K_id); (fail_if_success with_reducible apply awp_id); first | omega | (simp only [go_sem, seval]; done)
    | fail)
    refine awp_loop (fun x : Nat × Nat => ⟨[(28, .i x.1), (27, .i l.length), (26, .sl 2 false (l.map e_ii) [.i 0, .i 0]), (4, .v (.pointer (some ⟨B, 0, none⟩))), (3, .i 0), (bk, gB B (numS [a, b, c, p, q, (l.length : Int)] ++ ptS (l.take x.1)))], [], x.2⟩)
      (fun x => x.1 ≤ l.length) (fun x => l.length - x.1) (0, 50) ?_ ?_ ?_
    · exact Nat.zero_le _
    · refine Le.of ?_ ?_ (by simp) <;> (simp only [go_sem, seval, ptS]; try simp)
    · rintro ⟨j, cc⟩ hj
      simp only at hj
      repeat' (first
    | ((first | with_reducible apply awp_sr5 | with_reducible apply awp_r5 | with_reducible apply awp_sd | with_reducible apply awp_d | with_reducible apply inlR_n5 | with_reducible apply inlR_r5); (· (first | exact Ctx.fn_ok hS | exact Ctx.rd_ok hS | assumption | exact True.intro)); iterate 2 (· (simp only [go_sem, seval] <;> eq_refl)))
    | (first | with_reducible apply awp_scp | with_reducible apply awp_sn | with_reducible apply awp_nop | with_reducible apply awp_ret | with_reducible apply awp_exit | with_reducible apply awp_block | with_reducible apply awp_seq | with_reducible apply seqK_n | with_reducible apply seqK_r | with_reducible apply seqK_x | with_reducible apply blkK_n | with_reducible apply blkK_r | with_reducible apply blkK_x)
    | (with_reducible apply blkK_y; (· first | rfl | decide))
    | (first | with_reducible apply backK_x | with_reducible apply backK_r | with_reducible apply asgK_n | with_reducible apply rngK_x | with_reducible apply rngK_r | with_reducible apply True.intro | with_reducible apply And.intro True.intro True.intro)
    | (fail_if_success with_reducible apply K_id); (fail_if_success with_reducible apply awp_id); first | omega | (simp only [go_sem, seval]; done)
    | fail)
      refine awp_cp ((j : Int) < l.length) (by simp only [go_sem, seval] <;> eq_refl) (by first | simp only [Bool.decide_or, Bool.decide_and, decide_not] | simp) (fun hj1 => ?_) (fun hj1 => ?_)
      · have hj' : j < l.length := by omega
        have hrow := rb_ii l j
        have hsu := ptS_succ hj'
        have hl1 := ptS_len (l.take j)
        have hl0 : (l.take j).length ≤ l.length := by rw [List.length_take]; omega
        have hl3 := numS_len [(l.getD j (0, 0)).1, (l.getD j (0, 0)).2]
        have hl2 : ((numS [a, b, c, p, q, (l.length : Int)] ++ ptS (l.take j)) ++ numS [(l.getD j (0, 0)).1, (l.getD j (0, 0)).2]).length ≤ 140737488355328 := by
          simp only [List.length_append, List.length_cons, List.length_nil] at hhl hl3 ⊢
          omega
        repeat' (first
    | ((first | with_reducible apply awp_sr5 | with_reducible apply awp_r5 | with_reducible apply awp_sd | with_reducible apply awp_d | with_reducible apply inlR_n5 | with_reducible apply inlR_r5); (· (first | exact Ctx.fn_ok hS | exact Ctx.rd_ok hS | assumption | exact True.intro)); iterate 2 (· (simp only [go_sem, seval, hrow, Am.e_ii] <;> eq_refl)))
    | (first | with_reducible apply awp_scp | with_reducible apply awp_sn | with_reducible apply awp_nop | with_reducible apply awp_ret | with_reducible apply awp_exit | with_reducible apply awp_block | with_reducible apply awp_seq | with_reducible apply seqK_n | with_reducible apply seqK_r | with_reducible apply seqK_x | with_reducible apply blkK_n | with_reducible apply blkK_r | with_reducible apply blkK_x)
    | (with_reducible apply blkK_y; (· first | rfl | decide))
    | (first | with_reducible apply backK_x | with_reducible apply backK_r | with_reducible apply asgK_n | with_reducible apply rngK_x | with_reducible apply rngK_r | with_reducible apply True.intro | with_reducible apply And.intro True.intro True.intro)
    | (fail_if_success with_reducible apply K_id); (fail_if_success with_reducible apply awp_id); first | omega | (simp only [go_sem, seval, hrow, Am.e_ii]; done)
    | fail)
        refine awp_bcall hS 5 (ax := [.sl 1 false ([(l.getD j (0, 0)).1, (l.getD j (0, 0)).2].map eI) [.i 0]]) rfl of42 (by simp only [go_sem, seval] <;> eq_refl) True.intro (by simp only [go_sem, seval] <;> eq_refl) (by simp only [go_sem, seval] <;> eq_refl) (by simp only [go_sem, seval, Am.eI] <;> eq_refl) ?_ rfl rfl (numbers_b _ _ _ _ hl2 (by simp)) (by simp only [go_sem, seval] <;> eq_refl) True.intro ?_
        · simp only [go_sem, seval]
        repeat' (first
    | ((first | with_reducible apply awp_sr5 | with_reducible apply awp_r5 | with_reducible apply awp_sd | with_reducible apply awp_d | with_reducible apply inlR_n5 | with_reducible apply inlR_r5); (· (first | exact Ctx.fn_ok hS | exact Ctx.rd_ok hS | assumption | exact True.intro)); iterate 2 (· (simp only [go_sem, seval] <;> eq_refl)))
    | (first | with_reducible apply awp_scp | with_reducible apply awp_sn | with_reducible apply awp_nop | with_reducible apply awp_ret | with_reducible apply awp_exit | with_reducible apply awp_block | with_reducible apply awp_seq | with_reducible apply seqK_n | with_reducible apply seqK_r | with_reducible apply seqK_x | with_reducible apply blkK_n | with_reducible apply blkK_r | with_reducible apply blkK_x)
    | (with_reducible apply blkK_y; (· first | rfl | decide))
    | (first | with_reducible apply backK_x | with_reducible apply backK_r | with_reducible apply asgK_n | with_reducible apply rngK_x | with_reducible apply rngK_r | with_reducible apply True.intro | with_reducible apply And.intro True.intro True.intro)
    | (fail_if_success with_reducible apply K_id); (fail_if_success with_reducible apply awp_id); first | omega | (simp only [go_sem, seval]; done)
    | fail)
        refine backK_n (j + 1, cc + 50) (by show j + 1 ≤ _; omega) (by show l.length - (j + 1) < l.length - j; omega) (Le.of ?_ ?_ ?_)
        · simp only [go_sem, seval, hsu, List.append_assoc] <;> simp
        · simp only [go_sem, seval]
        · simp
      · repeat' (first
    | ((first | with_reducible apply awp_sr5 | with_reducible apply awp_r5 | with_reducible apply awp_sd | with_reducible apply awp_d | with_reducible apply inlR_n5 | with_reducible apply inlR_r5); (· (first | exact Ctx.fn_ok hS | exact Ctx.rd_ok hS | assumption | exact True.intro)); iterate 2 (· (simp only [go_sem, seval] <;> eq_refl)))
    | (first | with_reducible apply awp_scp | with_reducible apply awp_sn | with_reducible apply awp_nop | with_reducible apply awp_ret | with_reducible apply awp_exit | with_reducible apply awp_block | with_reducible apply awp_seq | with_reducible apply seqK_n | with_reducible apply seqK_r | with_reducible apply seqK_x | with_reducible apply blkK_n | with_reducible apply blkK_r | with_reducible apply blkK_x)
    | (with_reducible apply blkK_y; (· first | rfl | decide))
    | (first | with_reducible apply backK_x | with_reducible apply backK_r | with_reducible apply asgK_n | with_reducible apply rngK_x | with_reducible apply rngK_r | with_reducible apply True.intro | with_reducible apply And.intro True.intro True.intro)
    | (fail_if_success with_reducible apply K_id); (fail_if_success with_reducible apply awp_id); first | omega | (simp only [go_sem, seval]; done)
    | fail)
        have hjl : j = l.length := by omega
        subst hjl
        rw [List.take_length]
        have hne : numS [a, b, c, p, q, (l.length : Int)] ++ ptS l ≠ [] := by
          have h1 := putS_ne (n := (l.length : Int)) (by omega) (by omega)
          intro h
          have h2 := List.append_eq_nil_iff.1 h
          simp only [numS, List.map_cons, List.flatten_cons, List.append_eq_nil_iff] at h2
          exact h1 h2.1.2.2.2.2.2.1
        refine awp_bcall hS 1 (ax := []) rfl of_string (by simp only [go_sem, seval] <;> eq_refl) True.intro (by simp only [go_sem, seval] <;> eq_refl) (by simp only [go_sem, seval] <;> eq_refl) (by simp only [go_sem, seval] <;> eq_refl) True.intro rfl rfl (bcall_string hne) (by simp only [go_sem, seval] <;> eq_refl) True.intro ?_
        repeat' (first
    | ((first | with_reducible apply awp_sr5 | with_reducible apply awp_r5 | with_reducible apply awp_sd | with_reducible apply awp_d | with_reducible apply inlR_n5 | with_reducible apply inlR_r5); (· (first | exact Ctx.fn_ok hS | exact Ctx.rd_ok hS | assumption | exact True.intro)); iterate 2 (· (simp only [go_sem, seval] <;> eq_refl)))
    | (first | with_reducible apply awp_scp | with_reducible apply awp_sn | with_reducible apply awp_nop | with_reducible apply awp_ret | with_reducible apply awp_exit | with_reducible apply awp_block | with_reducible apply awp_seq | with_reducible apply seqK_n | with_reducible apply seqK_r | with_reducible apply seqK_x | with_reducible apply blkK_n | with_reducible apply blkK_r | with_reducible apply blkK_x)
    | (with_reducible apply blkK_y; (· first | rfl | decide))
    | (first | with_reducible apply backK_x | with_reducible apply backK_r | with_reducible apply asgK_n | with_reducible apply rngK_x | with_reducible apply rngK_r | with_reducible apply True.intro | with_reducible apply And.intro True.intro True.intro)
    | (fail_if_success with_reducible apply K_id); (fail_if_success with_reducible apply awp_id); first | omega | (simp only [go_sem, seval]; done)
    | fail)
        first | refine endK_r (by simp only [go_sem, seval] <;> eq_refl) (by simp only [go_sem, seval]) (by simp only [go_sem, seval]) ?_ rfl | refine endK_n (by simp only [go_sem, seval] <;> eq_refl) (by simp only [go_sem, seval]) (by simp only [go_sem, seval]) ?_ rfl
        simp only [encS, headS, go_sem, seval]
end Go.Proofs.YtdabfcbelkjmgaaDoor.Am
