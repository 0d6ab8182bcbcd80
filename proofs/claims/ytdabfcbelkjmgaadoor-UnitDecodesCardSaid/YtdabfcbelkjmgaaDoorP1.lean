import Derived.Test.YtdabfcbelkjmgaaDoorD4
import Derived.Test.YtdabfcbelkjmgaaDoorA10
import Derived.Test.YtdabfcbelkjmgaaDoorG1
/-
  Plane: the iterator over the edges of a polygon.
-/
namespace Go.Proofs.YtdabfcbelkjmgaaDoor.Am
open Go
attribute [local irreducible] awp seqK blkK backK endK inlK restK rngK asgK itK
set_option maxRecDepth 100000
set_option maxHeartbeats 8000000
set_option linter.unusedSimpArgs false
set_option linter.unusedVariables false
/-- The edges: each corner and the next one. -/
def edgesL (l : List Pt) : List (Pt × Pt) := (List.range l.length).map fun i => (pa l i, pa l ((i + 1) % l.length))
def edA (e : Pt × Pt) : List AV := [.agg [.i e.1.1, .i e.1.2], .agg [.i e.2.1, .i e.2.2]]
theorem edgesL_get {l : List Pt} {i : Nat} (h : i < l.length) : (edgesL l)[i]? = some (pa l i, pa l ((i + 1) % l.length)) := by
  unfold edgesL; rw [List.getElem?_map, List.getElem?_range h]; rfl
theorem edgesL_len (l : List Pt) : (edgesL l).length = l.length := by unfold edgesL; simp
theorem edges_it (l : List Pt) (f : Bool) (hlen : l.length ≤ 1000000000) : ItC Tryd.prog 69 [] [.ro [.sl 2 f (l.map e_ii) [.i 0, .i 0]] 0] ((edgesL l).map edA) := by
  refine itc_fnD (tab_nil (P := Tryd.prog)) _ Tryd.func69 ok69 nt69 (by simp [gs]) (by simp) fun y Γ hOK hTS hY hYD => ?_
  have hS := tab_nil (P := Tryd.prog)
  unfold ac69
  repeat' (first
    | ((first | with_reducible apply awp_sr5 | with_reducible apply awp_r5 | with_reducible apply awp_sd | with_reducible apply awp_d | with_reducible apply inlR_n5 | with_reducible apply inlR_r5); (· (first | exact Ctx.fn_ok hS | exact Ctx.rd_ok hS | assumption | exact True.intro)); iterate 2 (· (simp only [go_sem, seval, hTS] <;> eq_refl)))
    | (first | with_reducible apply awp_scp | with_reducible apply awp_sn | with_reducible apply awp_nop | with_reducible apply awp_ret | with_reducible apply awp_exit | with_reducible apply awp_block | with_reducible apply awp_seq | with_reducible apply seqK_n | with_reducible apply seqK_r | with_reducible apply seqK_x | with_reducible apply blkK_n | with_reducible apply blkK_r | with_reducible apply blkK_x)
    | (with_reducible apply blkK_y; (· first | rfl | decide))
    | (first | with_reducible apply backK_x | with_reducible apply backK_r | with_reducible apply asgK_n | with_reducible apply rngK_x | with_reducible apply rngK_r | with_reducible apply True.intro | with_reducible apply And.intro True.intro True.intro)
    | (fail_if_success with_reducible apply K_id); (fail_if_success with_reducible apply awp_id); first | omega | (simp only [go_sem, seval, hTS]; done)
    | fail)
  refine awp_loop (fun x : Nat × Nat => ⟨[(7, .i x.1), (6, .i l.length), (5, .sl 2 f (l.map e_ii) [.i 0, .i 0]), (1, .ro [.sl 2 f (l.map e_ii) [.i 0, .i 0]] 0), (gs, ghost x.1), (0, .clo (.yield y) [] [])], [], x.2⟩)
    (fun x => x.1 ≤ l.length) (fun x => l.length - x.1) (0, 50) ?_ ?_ ?_
  · simp
  · refine Le.of ?_ ?_ (by simp) <;> (simp only [go_sem, seval]; try simp)
  · rintro ⟨i, c⟩ hi
    simp only at hi
    repeat' (first
    | ((first | with_reducible apply awp_sr5 | with_reducible apply awp_r5 | with_reducible apply awp_sd | with_reducible apply awp_d | with_reducible apply inlR_n5 | with_reducible apply inlR_r5); (· (first | exact Ctx.fn_ok hS | exact Ctx.rd_ok hS | assumption | exact True.intro)); iterate 2 (· (simp only [go_sem, seval, hTS] <;> eq_refl)))
    | (first | with_reducible apply awp_scp | with_reducible apply awp_sn | with_reducible apply awp_nop | with_reducible apply awp_ret | with_reducible apply awp_exit | with_reducible apply awp_block | with_reducible apply awp_seq | with_reducible apply seqK_n | with_reducible apply seqK_r | with_reducible apply seqK_x | with_reducible apply blkK_n | with_reducible apply blkK_r | with_reducible apply blkK_x)
    | (with_reducible apply blkK_y; (· first | rfl | decide))
    | (first | with_reducible apply backK_x | with_reducible apply backK_r | with_reducible apply asgK_n | with_reducible apply rngK_x | with_reducible apply rngK_r | with_reducible apply True.intro | with_reducible apply And.intro True.intro True.intro)
    | (fail_if_success with_reducible apply K_id); (fail_if_success with_reducible apply awp_id); first | omega | (simp only [go_sem, seval, hTS]; done)
    | fail)
    refine awp_cp ((i : Int) < l.length) (by simp only [go_sem, seval] <;> eq_refl) (by first | simp only [Bool.decide_or, Bool.decide_and, decide_not] | simp) (fun hi1 => ?_) (fun hi1 => ?_)
    · have hi' : i < l.length := by omega
      have hm : (i + 1) % l.length < l.length := Nat.mod_lt _ (by omega)
      have hrow : rowAt (l.map e_ii) [.i 0, .i 0] i = [.i (pa l i).1, .i (pa l i).2] := rb_ii l i
      have hrow2 : rowAt (l.map e_ii) [.i 0, .i 0] ((i + 1) % l.length) = [.i (pa l ((i + 1) % l.length)).1, .i (pa l ((i + 1) % l.length)).2] := rb_ii l _
      have hmod : ((i : Int) + 1).tmod (l.length : Int) = (((i + 1) % l.length : Nat) : Int) := by
        rw [Int.tmod_eq_emod_of_nonneg (by omega)]; rfl
      have hton : ((((i + 1) % l.length : Nat)) : Int).toNat = (i + 1) % l.length := Int.toNat_natCast _
      repeat' (first
    | ((first | with_reducible apply awp_sr5 | with_reducible apply awp_r5 | with_reducible apply awp_sd | with_reducible apply awp_d | with_reducible apply inlR_n5 | with_reducible apply inlR_r5); (· (first | exact Ctx.fn_ok hS | exact Ctx.rd_ok hS | assumption | exact True.intro)); iterate 2 (· (simp only [go_sem, seval, hrow, hTS] <;> eq_refl)))
    | (first | with_reducible apply awp_scp | with_reducible apply awp_sn | with_reducible apply awp_nop | with_reducible apply awp_ret | with_reducible apply awp_exit | with_reducible apply awp_block | with_reducible apply awp_seq | with_reducible apply seqK_n | with_reducible apply seqK_r | with_reducible apply seqK_x | with_reducible apply blkK_n | with_reducible apply blkK_r | with_reducible apply blkK_x)
    | (with_reducible apply blkK_y; (· first | rfl | decide))
    | (first | with_reducible apply backK_x | with_reducible apply backK_r | with_reducible apply asgK_n | with_reducible apply rngK_x | with_reducible apply rngK_r | with_reducible apply True.intro | with_reducible apply And.intro True.intro True.intro)
    | (fail_if_success with_reducible apply K_id); (fail_if_success with_reducible apply awp_id); first | omega | (simp only [go_sem, seval, hrow, hTS]; done)
    | fail)
      refine hYD 10 (args := edA (pa l i, pa l ((i + 1) % l.length))) rfl (by simp only [go_sem, seval, hTS] <;> eq_refl) (by simp only [go_sem, seval, hTS, hrow, hrow2, hmod, hton] <;> eq_refl) (by decide) ?_ (by simp only [go_sem, seval] <;> eq_refl) (by simp only [go_sem, seval] <;> eq_refl) (by simp only [go_sem, seval] <;> eq_refl) (by simp only [go_sem, seval, Am.edA] <;> eq_refl) ?_ (by simp only [go_sem, seval, hTS] <;> eq_refl) ?_ ?_ (by simp only [go_sem, seval, hTS] <;> eq_refl) ?_ ?_
      · exact ⟨⟨by omega, by omega⟩, by omega, by omega, by omega⟩
      · rw [List.getElem?_map, edgesL_get hi']; rfl
      · exact True.intro
      · repeat' (first
    | ((first | with_reducible apply awp_sr5 | with_reducible apply awp_r5 | with_reducible apply awp_sd | with_reducible apply awp_d | with_reducible apply inlR_n5 | with_reducible apply inlR_r5); (· (first | exact Ctx.fn_ok hS | exact Ctx.rd_ok hS | assumption | exact True.intro)); iterate 2 (· (simp only [go_sem, seval, hTS] <;> eq_refl)))
    | (first | with_reducible apply awp_scp | with_reducible apply awp_sn | with_reducible apply awp_nop | with_reducible apply awp_ret | with_reducible apply awp_exit | with_reducible apply awp_block | with_reducible apply awp_seq | with_reducible apply seqK_n | with_reducible apply seqK_r | with_reducible apply seqK_x | with_reducible apply blkK_n | with_reducible apply blkK_r | with_reducible apply blkK_x)
    | (with_reducible apply blkK_y; (· first | rfl | decide))
    | (first | with_reducible apply backK_x | with_reducible apply backK_r | with_reducible apply asgK_n | with_reducible apply rngK_x | with_reducible apply rngK_r | with_reducible apply True.intro | with_reducible apply And.intro True.intro True.intro)
    | (fail_if_success with_reducible apply K_id); (fail_if_success with_reducible apply awp_id); first | omega | (simp only [go_sem, seval, hTS]; done)
    | fail)
        refine awp_cf (by simp only [go_sem, seval] <;> eq_refl) ?_
        repeat' (first
    | ((first | with_reducible apply awp_sr5 | with_reducible apply awp_r5 | with_reducible apply awp_sd | with_reducible apply awp_d | with_reducible apply inlR_n5 | with_reducible apply inlR_r5); (· (first | exact Ctx.fn_ok hS | exact Ctx.rd_ok hS | assumption | exact True.intro)); iterate 2 (· (simp only [go_sem, seval, hTS] <;> eq_refl)))
    | (first | with_reducible apply awp_scp | with_reducible apply awp_sn | with_reducible apply awp_nop | with_reducible apply awp_ret | with_reducible apply awp_exit | with_reducible apply awp_block | with_reducible apply awp_seq | with_reducible apply seqK_n | with_reducible apply seqK_r | with_reducible apply seqK_x | with_reducible apply blkK_n | with_reducible apply blkK_r | with_reducible apply blkK_x)
    | (with_reducible apply blkK_y; (· first | rfl | decide))
    | (first | with_reducible apply backK_x | with_reducible apply backK_r | with_reducible apply asgK_n | with_reducible apply rngK_x | with_reducible apply rngK_r | with_reducible apply True.intro | with_reducible apply And.intro True.intro True.intro)
    | (fail_if_success with_reducible apply K_id); (fail_if_success with_reducible apply awp_id); first | omega | (simp only [go_sem, seval, hTS]; done)
    | fail)
        refine backK_n (i + 1, c + 50) (by show i + 1 ≤ _; omega) (by show l.length - (i + 1) < l.length - i; omega) (Le.of ?_ ?_ ?_)
        · simp only [go_sem, seval] <;> simp
        · simp only [go_sem, seval]
        · simp
      · exact True.intro
      · repeat' (first
    | ((first | with_reducible apply awp_sr5 | with_reducible apply awp_r5 | with_reducible apply awp_sd | with_reducible apply awp_d | with_reducible apply inlR_n5 | with_reducible apply inlR_r5); (· (first | exact Ctx.fn_ok hS | exact Ctx.rd_ok hS | assumption | exact True.intro)); iterate 2 (· (simp only [go_sem, seval, hTS] <;> eq_refl)))
    | (first | with_reducible apply awp_scp | with_reducible apply awp_sn | with_reducible apply awp_nop | with_reducible apply awp_ret | with_reducible apply awp_exit | with_reducible apply awp_block | with_reducible apply awp_seq | with_reducible apply seqK_n | with_reducible apply seqK_r | with_reducible apply seqK_x | with_reducible apply blkK_n | with_reducible apply blkK_r | with_reducible apply blkK_x)
    | (with_reducible apply blkK_y; (· first | rfl | decide))
    | (first | with_reducible apply backK_x | with_reducible apply backK_r | with_reducible apply asgK_n | with_reducible apply rngK_x | with_reducible apply rngK_r | with_reducible apply True.intro | with_reducible apply And.intro True.intro True.intro)
    | (fail_if_success with_reducible apply K_id); (fail_if_success with_reducible apply awp_id); first | omega | (simp only [go_sem, seval, hTS]; done)
    | fail)
        refine awp_ct (by simp only [go_sem, seval] <;> eq_refl) ?_
        repeat' (first
    | ((first | with_reducible apply awp_sr5 | with_reducible apply awp_r5 | with_reducible apply awp_sd | with_reducible apply awp_d | with_reducible apply inlR_n5 | with_reducible apply inlR_r5); (· (first | exact Ctx.fn_ok hS | exact Ctx.rd_ok hS | assumption | exact True.intro)); iterate 2 (· (simp only [go_sem, seval, hTS] <;> eq_refl)))
    | (first | with_reducible apply awp_scp | with_reducible apply awp_sn | with_reducible apply awp_nop | with_reducible apply awp_ret | with_reducible apply awp_exit | with_reducible apply awp_block | with_reducible apply awp_seq | with_reducible apply seqK_n | with_reducible apply seqK_r | with_reducible apply seqK_x | with_reducible apply blkK_n | with_reducible apply blkK_r | with_reducible apply blkK_x)
    | (with_reducible apply blkK_y; (· first | rfl | decide))
    | (first | with_reducible apply backK_x | with_reducible apply backK_r | with_reducible apply asgK_n | with_reducible apply rngK_x | with_reducible apply rngK_r | with_reducible apply True.intro | with_reducible apply And.intro True.intro True.intro)
    | (fail_if_success with_reducible apply K_id); (fail_if_success with_reducible apply awp_id); first | omega | (simp only [go_sem, seval, hTS]; done)
    | fail)
        refine itK_r' ?_
        simp only [go_sem, seval]
    · repeat' (first
    | ((first | with_reducible apply awp_sr5 | with_reducible apply awp_r5 | with_reducible apply awp_sd | with_reducible apply awp_d | with_reducible apply inlR_n5 | with_reducible apply inlR_r5); (· (first | exact Ctx.fn_ok hS | exact Ctx.rd_ok hS | assumption | exact True.intro)); iterate 2 (· (simp only [go_sem, seval, hTS] <;> eq_refl)))
    | (first | with_reducible apply awp_scp | with_reducible apply awp_sn | with_reducible apply awp_nop | with_reducible apply awp_ret | with_reducible apply awp_exit | with_reducible apply awp_block | with_reducible apply awp_seq | with_reducible apply seqK_n | with_reducible apply seqK_r | with_reducible apply seqK_x | with_reducible apply blkK_n | with_reducible apply blkK_r | with_reducible apply blkK_x)
    | (with_reducible apply blkK_y; (· first | rfl | decide))
    | (first | with_reducible apply backK_x | with_reducible apply backK_r | with_reducible apply asgK_n | with_reducible apply rngK_x | with_reducible apply rngK_r | with_reducible apply True.intro | with_reducible apply And.intro True.intro True.intro)
    | (fail_if_success with_reducible apply K_id); (fail_if_success with_reducible apply awp_id); first | omega | (simp only [go_sem, seval, hTS]; done)
    | fail)
      refine itK_n ?_
      have : i = l.length := by omega
      simp only [go_sem, seval, this, List.length_map, edgesL_len]
def sEdges : Spec
  | [.sl z f rows d] => some (True, .clo (.func 69) [] [.ro [.sl z f rows d] 0])
  | _ => none
theorem edges_fok : FOK Tryd.prog 55 sEdges := ⟨of55, by
  intro args vc r h hv
  unfold sEdges at h
  split at h
  · cases h
    refine pcall_fn (tab_nil (P := Tryd.prog)) _ Tryd.func55 ok55 nt55 (by simp) fun _ => ?_
    have hS := tab_nil (P := Tryd.prog)
    unfold ac55 rv55
    repeat' (first
    | ((first | with_reducible apply awp_sr5 | with_reducible apply awp_r5 | with_reducible apply awp_sd | with_reducible apply awp_d | with_reducible apply inlR_n5 | with_reducible apply inlR_r5); (· (first | exact Ctx.fn_ok hS | exact Ctx.rd_ok hS | assumption | exact True.intro)); iterate 2 (· (simp only [go_sem, seval] <;> eq_refl)))
    | (first | with_reducible apply awp_scp | with_reducible apply awp_sn | with_reducible apply awp_nop | with_reducible apply awp_ret | with_reducible apply awp_exit | with_reducible apply awp_block | with_reducible apply awp_seq | with_reducible apply seqK_n | with_reducible apply seqK_r | with_reducible apply seqK_x | with_reducible apply blkK_n | with_reducible apply blkK_r | with_reducible apply blkK_x)
    | (with_reducible apply blkK_y; (· first | rfl | decide))
    | (first | with_reducible apply backK_x | with_reducible apply backK_r | with_reducible apply asgK_n | with_reducible apply rngK_x | with_reducible apply rngK_r | with_reducible apply True.intro | with_reducible apply And.intro True.intro True.intro)
    | (fail_if_success with_reducible apply K_id); (fail_if_success with_reducible apply awp_id); first | omega | (simp only [go_sem, seval]; done)
    | fail)
    first | refine endK_r (by simp only [go_sem, seval] <;> eq_refl) (by simp only [go_sem, seval]) (by simp only [go_sem, seval]) ?_ rfl | refine endK_n (by simp only [go_sem, seval] <;> eq_refl) (by simp only [go_sem, seval]) (by simp only [go_sem, seval]) ?_ rfl
    simp only [go_sem, seval]
  · simp at h⟩
theorem rd_step {α : Type} {xs : List α} {g : α → List AV} {k : Nat} {args : List AV} (h : (xs.map g)[k]? = some args) : ∃ y, xs.drop k = y :: xs.drop (k + 1) ∧ args = g y ∧ k < xs.length := by
  rw [List.getElem?_map] at h
  cases hk : xs[k]? with
  | none => rw [hk] at h; cases h
  | some y =>
    rw [hk] at h
    obtain ⟨h1, h2⟩ := List.getElem?_eq_some_iff.1 hk
    exact ⟨y, by rw [List.drop_eq_getElem_cons h1, h2], (Option.some.inj h).symm, h1⟩
theorem drop_all {α : Type} {xs : List α} {g : α → List AV} : xs.drop (xs.map g).length = [] := by rw [List.length_map]; exact List.drop_length
end Go.Proofs.YtdabfcbelkjmgaaDoor.Am
