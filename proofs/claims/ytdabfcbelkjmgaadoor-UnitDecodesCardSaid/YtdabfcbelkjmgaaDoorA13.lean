/-
  The abstract machine, A13: the walk's steps as theorems whose proofs are found where they are used.
-/
import Derived.Test.YtdabfcbelkjmgaaDoorA12
namespace Go.Proofs.YtdabfcbelkjmgaaDoor.Am
set_option linter.unusedSimpArgs false
set_option linter.unusedVariables false
open Go
attribute [local irreducible] awp seqK blkK backK endK inlK restK rngK asgK itK
structure Hid (p : Prop) : Prop where
  k : p
/-- Facts that the walk may use. -/
theorem f0 : ([] : List Nat).length = 0 := rfl
theorem fc {p q : Prop} (x : p) (y : q) : p ∧ q := ⟨x, y⟩
/-- The walk as far as it goes by itself. -/
theorem go {S F G G' : Prop} (hS : S) (f : F) (k : G') (h : S → F → Hid G' → G := by
  intro hS f k
  repeat' (first
   | (with_reducible (first | apply awp_sr5 | apply awp_r5 | apply awp_sd | apply awp_d | apply inlR_n5 | apply inlR_r5); (· (first | exact Ctx.fn_ok hS | exact Ctx.rd_ok hS | assumption | exact True.intro | exact Ctx.rdG_ok hS)); iterate 2 (· (simp only [go_sem, seval, f] <;> eq_refl)))
   | with_reducible (first | apply awp_scp | apply awp_sn | apply awp_nop | apply awp_ret | apply awp_exit | apply awp_block | apply awp_seq | apply seqK_n | apply seqK_r | apply seqK_x | apply blkK_n | apply blkK_r | apply blkK_x)
   | (with_reducible apply blkK_y; (· first | rfl | decide))
   | (with_reducible apply cutK_o; (· simp))
   | with_reducible (first | apply rndK_n | apply rndK_x | apply rndK_r | apply backK_x | apply backK_r | apply asgK_n | apply rngK_x | apply rngK_r | apply True.intro | apply And.intro True.intro True.intro)
   | (fail_if_success with_reducible apply K_id); (fail_if_success with_reducible apply awp_id); (try clear k); first | omega | (simp only [go_sem, seval, f]; done) | with_reducible assumption | (refine And.intro ?_ ?_) | (intro hg; simp_all; done) | decide | grind)
  exact k.k) : G := h hS f ⟨k⟩
/-- The same where nothing is left. -/
theorem goc {S F G : Prop} (hS : S) (f : F) (h : S → F → G := by
  intro hS f
  repeat' (first
   | (with_reducible (first | apply awp_sr5 | apply awp_r5 | apply awp_sd | apply awp_d | apply inlR_n5 | apply inlR_r5); (· (first | exact Ctx.fn_ok hS | exact Ctx.rd_ok hS | assumption | exact True.intro | exact Ctx.rdG_ok hS)); iterate 2 (· (simp only [go_sem, seval, f] <;> eq_refl)))
   | with_reducible (first | apply awp_scp | apply awp_sn | apply awp_nop | apply awp_ret | apply awp_exit | apply awp_block | apply awp_seq | apply seqK_n | apply seqK_r | apply seqK_x | apply blkK_n | apply blkK_r | apply blkK_x)
   | (with_reducible apply blkK_y; (· first | rfl | decide))
   | (with_reducible apply cutK_o; (· simp))
   | with_reducible (first | apply rndK_n | apply rndK_x | apply rndK_r | apply backK_x | apply backK_r | apply asgK_n | apply rngK_x | apply rngK_r | apply True.intro | apply And.intro True.intro True.intro)
   | (fail_if_success with_reducible apply K_id); (fail_if_success with_reducible apply awp_id); first | omega | (simp only [go_sem, seval, f]; done) | with_reducible assumption | (refine And.intro ?_ ?_) | (intro hg; simp_all; done) | decide | grind)) : G := h hS f
/-- The end of a function. -/
theorem fin {F G : Prop} (f : F) (h : F → G := by
  intro f
  first | refine endK_r (by simp only [go_sem, seval, f] <;> eq_refl) (by simp only [go_sem, seval, f]) (by simp only [go_sem, seval, f]) ?_ rfl | refine endK_n (by simp only [go_sem, seval, f] <;> eq_refl) (by simp only [go_sem, seval, f]) (by simp only [go_sem, seval, f]) ?_ rfl
  first | (simp only [go_sem, seval, f]; done) | (simp only [go_sem, seval, f, List.map_append, List.map_cons, List.map_nil, List.map_set, List.map_take, List.map_drop]; done) | (simp [f]; done)) : G := h f
/-- What is known of a state is enough. -/
theorem leF {F : Prop} {s' s : St} (f : F) (h : F → Le s' s := by
  intro f
  refine Le.of ?_ ?_ (by first | exact Nat.le_refl _ | (simp; omega) | simp) <;> first | (simp only [go_sem, seval, f]; done) | (simp only [go_sem, seval, f, List.map_append, List.map_cons, List.map_nil, List.map_set, List.map_take, List.map_drop]; done) | (simp [f, List.map_append, List.map_set]; done)) : Le s' s := h f
section
variable {Γ : Ctx} {F : Prop} {cc : Opd} {x y : AC} {Q : AE → St → Prop} {e : Env} {h : Hp} {c : Nat}
theorem cb {B : Bool} (f : F) (B' : Bool) (ht : B' = true → awp Γ x Q ⟨e, h, c⟩) (hf : B' = false → awp Γ y Q ⟨e, h, c⟩) (hb : F → ung true (opv e cc) = .v (.bool B) := by intro f; simp only [go_sem, seval, f] <;> eq_refl) (hB : F → B = B' := by intro f; first | rfl | (simp; done) | grind) : awp Γ (.cond cc x y) Q ⟨e, h, c⟩ :=
  awp_cb (hb f) (hB f) ht hf
theorem ct (f : F) (ht : awp Γ x Q ⟨e, h, c⟩) (hb : F → ung true (opv e cc) = .v (.bool true) := by intro f; simp only [go_sem, seval, f] <;> eq_refl) : awp Γ (.cond cc x y) Q ⟨e, h, c⟩ := awp_ct (hb f) ht
theorem cf (f : F) (hf : awp Γ y Q ⟨e, h, c⟩) (hb : F → ung true (opv e cc) = .v (.bool false) := by intro f; simp only [go_sem, seval, f] <;> eq_refl) : awp Γ (.cond cc x y) Q ⟨e, h, c⟩ := awp_cf (hb f) hf
end
end Go.Proofs.YtdabfcbelkjmgaaDoor.Am
