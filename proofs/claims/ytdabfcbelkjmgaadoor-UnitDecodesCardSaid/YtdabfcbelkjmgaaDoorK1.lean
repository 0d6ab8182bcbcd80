import Derived.Test.YtdabfcbelkjmgaaDoorProg
import Derived.Lib.Builder
import Derived.Lib.AppendStr
import Derived.Lib.AppendZeros
import Derived.Lib.UnsafeStr
import Derived.Lib.Strings
import Derived.Lib.Walk
import Derived.WalkKit
import Derived.Laws.Externs
import Derived.KernelRfl
import Derived.Shelf.RegionOpenPlain
/-
  strings.Builder, in a block of whatever type in which it lies first: what is written, and what of memory stays.
-/
namespace Go.Proofs.YtdabfcbelkjmgaaDoor.Am
open Go Go.RowKit
set_option linter.unusedVariables false
set_option maxHeartbeats 2000000
set_option maxRecDepth 100000

theorem kb_info : ∃ j, Tryd.prog.info? 88 = some j ∧ j.size = 2 := Option.map_eq_some_iff.1 (show (Tryd.prog.info? 88).map (·.size) = some 2 by kernel_rfl)
theorem kb_byte : ∃ i, Tryd.prog.info? 5 = some i ∧ i.zero = some (.int .u8 0) ∧ i.size = 1 ∧ i.bytes = 1 := by
  have h : (Tryd.prog.info? 5).map (fun i => (i.zero, i.size, i.bytes)) = some (some (.int .u8 0), 1, 1) := by kernel_rfl
  obtain ⟨i, hi, h2⟩ := Option.map_eq_some_iff.1 h
  simp only [Prod.mk.injEq] at h2
  exact ⟨i, hi, h2⟩

theorem cc_used (b : Nat) (w : World) (h0 : w.cell? ⟨b, 0, none⟩ = some (.pointer (some ⟨b, 0, none⟩))) :
    Calls Tryd.prog 76 #[.pointer (some ⟨b, 0, none⟩)] w fun e w' => e = .returned (.tuple #[]) ∧ w' = w := by
  obtain ⟨j, hj, _⟩ := kb_info
  go_enter Tryd.func76, Tryd.ntmps76
  go_wp2
  rw [Lib.run_neq_ptr_same w _ Tryd.underlying86 hj]
  go_wp2
  go_end0
  exact ⟨rfl, rfl⟩

/-- The type of the block in which the builder lies. -/
structure BT (T : TypeId) : Prop where
  lies : liesAt Tryd.prog Tryd.prog.depth T (2 / Tryd.prog.cellsOf T) 0 88 1 = true
  ne : T ≠ 5

theorem cc_fresh {T : TypeId} (hT : BT T) (b : Nat) (w : World) (h0 : w.cell? ⟨b, 0, none⟩ = some (.pointer none)) (hsh : w.shape? b = some (T, 2)) (hfz : w.frozen? ⟨b, 0, none⟩ = false) :
    Calls Tryd.prog 76 #[.pointer (some ⟨b, 0, none⟩)] w fun e w' => e = .returned (.tuple #[]) ∧ w' = w.setCell ⟨b, 0, none⟩ (.pointer (some ⟨b, 0, none⟩)) := by
  obtain ⟨j, hj, hjs⟩ := kb_info
  go_enter Tryd.func76, Tryd.ntmps76
  go_wp2
  rw [Lib.run_to_unsafe w ⟨b, 0, none⟩ Tryd.underlying86 Tryd.underlying144 hj (by rw [hjs]; decide) hsh (Nat.zero_lt_succ 1)]
  simp only [Result.andThen]
  rw [Oper.upon_value]
  go_wp2
  rw [run_callFunc_extern Tryd.func86 (by kernel_rfl) (by kernel_rfl) (by kernel_rfl) (e := Extern.AbiNoEscape.same) (by kernel_rfl)]
  rw [Lib.run_noEscape]
  simp only [Result.andThen]
  rw [Oper.upon_value]
  go_wp2
  rw [Lib.run_from_unsafe w ⟨b, 0, none⟩ Tryd.underlying144 Tryd.underlying86 hj hsh hT.lies]
  simp only [Result.andThen]
  rw [Oper.upon_value]
  go_wp2
  go_end0
  exact ⟨rfl, rfl⟩

/-- Appending a string's bytes: where the new row lies. -/
theorem kb_app {P : Program} (w : World) (t u ty e : TypeId) (i : TypeInfo) (ht : P.underlying t = some (.slice e)) (hu : P.underlying u = some .string) (hi : P.info? e = some i) (hz : i.zero = some (.int .u8 0))
    (hsize : i.size = 1) (hby : i.bytes = 1) (v : Value) (n : Nat) (xs : List Value) (hown : w.ownsRow 0 e 1 v n xs) (s : ByteArray) (h63 : n + s.size ≤ maxLen) (hbytes : n + s.size ≤ 140737488355328) :
    ∃ v' w', (Builtin.append_ #[t, u] ty #[v, .string s]).run P w = .ok v' w' ∧ w'.ownsRow 0 e 1 v' (n + s.size) (xs ++ Lib.strCells s) ∧ w.grownBy w' v.ownBlock ∧
      (∀ k, v'.ownBlock = some k → v.ownBlock = some k ∨ w.heap.size ≤ k) := by
  obtain ⟨v', w', h1, h2, h3, h4⟩ := Lib.run_append_own_string (P := P) w 0 t u ty e i ht hu hi hz hsize hby v n xs hown s h63 hbytes (Nat.zero_le _)
  refine ⟨v', w', h1, h2, h3, fun k hk => ?_⟩
  simp only [maxLen] at h63
  rcases hown.2 with ⟨rfl, rfl⟩ | ⟨g, cap, cur, rfl, hbg, hg, hnc, hcm, hcs, htake⟩
  · have hx : xs = [] := List.eq_nil_of_length_eq_zero (by simpa using hown.1)
    subst hx
    obtain ⟨v2, w2, g1, g2, _⟩ := Lib.run_append_own_string (P := P) w w.heap.size t u ty e i ht hu hi hz hsize hby _ 0 [] (World.ownsRow_nil w _ e 1) s h63 hbytes (Nat.le_refl _)
    rw [h1] at g1
    cases g1
    exact .inr (g2.lt k hk).1
  · by_cases hroom : n + s.size ≤ cap
    · have hr := Lib.run_append_room_string (P := P) w t u ty e i ht hu hi hsize g n cap cur hg s hroom (by omega)
      rw [h1] at hr
      cases hr
      exact .inl hk
    · have holds : ∀ j u, xs[j]? = some u → w.cell? ((⟨g, 0, none⟩ : Addr).add j) = some u := hown.cells (g := g) rfl
      have hr := Lib.run_append_grow_string (P := P) w t u ty e i (.int .u8 0) ht hu hi hz ⟨g, 0, none⟩ n cap xs (by rw [hsize]; simpa using hown.1) holds s (by omega) (by omega) (by rw [hby]; exact growslice_fits (by omega) (by omega))
      rw [h1] at hr
      cases hr
      simp only [Value.ownBlock, Option.some.injEq] at hk
      exact .inr (by omega)

/-- The row of the builder in block b. -/
def rowOf (w : World) (b : Nat) : Option Nat := (w.cell? ⟨b, 1, none⟩).bind Value.ownBlock

/-- A builder in block b, of a type T, that holds these bytes. -/
def KB (T : TypeId) (w : World) (b : Nat) (l : List UInt8) : Prop := Lib.IsBuilder T 5 0 b (Lib.byteCells l) w

/-- Only the builder's own memory turns, and what is new. -/
structure KStep (w w' : World) (b : Nat) : Prop where
  old : ∀ x, x < w.heap.size → x ≠ b → rowOf w b ≠ some x → w'.heap[x]? = w.heap[x]?
  row : ∀ g, rowOf w' b = some g → rowOf w b = some g ∨ w.heap.size ≤ g
  sz : w.heap.size ≤ w'.heap.size
  io : w'.os = w.os ∧ w'.output = w.output

theorem KStep.refl (w : World) (b : Nat) : KStep w w b := ⟨fun _ _ _ _ => rfl, fun _ h => .inl h, Nat.le_refl _, rfl, rfl⟩

theorem kb_row {T : TypeId} {w : World} {b : Nat} {p v : Value} {f : Nat × Nat} (hb : w.heap[b]? = some (.cells #[p, v] T f)) : rowOf w b = v.ownBlock := by
  unfold rowOf
  rw [Lib.cell_of_heap hb]
  rfl

theorem KStep.trans {w w1 w2 : World} {b : Nat} (h : KStep w w1 b) (k : KStep w1 w2 b) : KStep w w2 b where
  old x hx h1 h2 := by
    rw [k.old x (Nat.lt_of_lt_of_le hx h.sz) h1 fun e => ?_, h.old x hx h1 h2]
    rcases h.row x e with e | e
    · exact h2 e
    · omega
  row g hg := by
    rcases k.row g hg with e | e
    · exact h.row g e
    · exact .inr (Nat.le_trans h.sz e)
  sz := Nat.le_trans h.sz k.sz
  io := ⟨k.io.1.trans h.io.1, k.io.2.trans h.io.2⟩

theorem KStep.set {T : TypeId} {w : World} {b : Nat} {l : List UInt8} {p : Value} (h : Lib.BuilderAt T 5 0 b p (Lib.byteCells l) w) (q : Value) : KStep w (w.setCell ⟨b, 0, none⟩ q) b := by
  obtain ⟨_, v, hb, _⟩ := h
  refine ⟨fun x _ h1 _ => ?_, fun g hg => .inl ?_, by simp [World.setCell], rfl, rfl⟩
  · simp [World.setCell, Array.getElem?_modify, Ne.symm h1]
  · rw [kb_row hb]
    have hb' : (w.setCell ⟨b, 0, none⟩ q).heap[b]? = some (.cells #[q, v] T (0, 0)) := by simp [World.setCell, Array.getElem?_modify, hb]
    rw [kb_row hb'] at hg
    exact hg

theorem cc_any {T : TypeId} (hT : BT T) (b : Nat) (l : List UInt8) (w : World) (h : KB T w b l) :
    Calls Tryd.prog 76 #[.pointer (some ⟨b, 0, none⟩)] w fun e w' => e = .returned (.tuple #[]) ∧ Lib.BuilderAt T 5 0 b (.pointer (some ⟨b, 0, none⟩)) (Lib.byteCells l) w' ∧ KStep w w' b := by
  rcases h with h | h
  · refine (cc_fresh hT b w h.cell0 h.shape h.frozen0).mono ?_
    rintro e w' ⟨rfl, rfl⟩
    exact ⟨rfl, h.used _, KStep.set h _⟩
  · refine (cc_used b w h.cell0).mono ?_
    rintro e w' ⟨rfl, rfl⟩
    exact ⟨rfl, h, KStep.refl _ _⟩

theorem kb_write {T : TypeId} (hT : BT T) (b : Nat) (l m : List UInt8) (w : World) (h : KB T w b l) (hl : l.length + m.length ≤ 140737488355328) :
    Calls Tryd.prog 62 #[.pointer (some ⟨b, 0, none⟩), .string ⟨m.toArray⟩] w fun e w' => e = .returned (.tuple #[.int .i64 m.length, .nilIface]) ∧ KB T w' b (l ++ m) ∧ KStep w w' b := by
  obtain ⟨i0, hi, hz0, hz1, hz2⟩ := kb_byte
  go_enter Tryd.func62, Tryd.ntmps62
  go_wp2_with (go_at_call 76; refine (cc_any hT b l _ h).mono ?_)
  rintro e w1 ⟨rfl, h1, hb1⟩
  obtain ⟨hB, v, hbk, hown, hne⟩ := h1
  have c0 : w1.cell? ⟨b, 0, none⟩ = some (.pointer (some ⟨b, 0, none⟩)) := by rw [Lib.cell_of_heap hbk]; rfl
  have c1 : w1.cell? ⟨b, 1, none⟩ = some v := by rw [Lib.cell_of_heap hbk]; rfl
  have hs : (⟨m.toArray⟩ : ByteArray).size = m.length := by simp [ByteArray.size]
  have hbl : (Lib.byteCells l).length = l.length := Lib.byteCells_length l
  have hst : Lib.strCells ⟨m.toArray⟩ = Lib.byteCells m := by simp [Lib.strCells, Lib.byteCells]
  obtain ⟨v', w2, hr, hown', hgrow, hrow⟩ := kb_app (P := Tryd.prog) w1 53 9 53 5 i0 Tryd.underlying53 Tryd.underlying9 hi hz0 hz1 hz2 v _ _ hown ⟨m.toArray⟩ (by rw [hs, hbl]; unfold maxLen; omega) (by rw [hs, hbl]; omega)
  have hlt : b < w1.heap.size := by
    rcases Nat.lt_or_ge b w1.heap.size with h' | h'
    · exact h'
    · simp [Array.getElem?_eq_none h'] at hbk
  have hb2 : w2.heap[b]? = some (.cells #[.pointer (some ⟨b, 0, none⟩), v] T (0, 0)) := by
    rw [hgrow.block b hlt (fun e => hne e.symm)]
    exact hbk
  have d0 : w2.cell? ⟨b, 0, none⟩ = some (.pointer (some ⟨b, 0, none⟩)) := by rw [Lib.cell_of_heap hb2]; rfl
  have d1 : w2.cell? ⟨b, 1, none⟩ = some v := by rw [Lib.cell_of_heap hb2]; rfl
  have f1 : w2.frozen? ⟨b, 1, none⟩ = false := Lib.frozen_of_heap hb2 1
  obtain ⟨ao, n', cap, rfl⟩ : ∃ ao n' cap, v' = .slice ao n' cap := by
    rcases hown'.2 with ⟨hv, _⟩ | ⟨g, cap, cur, hv, _⟩
    · exact ⟨_, _, _, hv⟩
    · exact ⟨_, _, _, hv⟩
  go_wp2_with (at_builtin; refine Lib.wpList_append_run _ rfl _ _ _ _ rfl _ _ rfl rfl _ _ hr ?_)
  go_ret2
  have hbs : ∀ b2 : Nat, b2 = b → (w2.setCell ⟨b, 1, none⟩ (.slice ao n' cap)).heap[b2]? = some (.cells #[.pointer (some ⟨b, 0, none⟩), .slice ao n' cap] T (0, 0)) := by
    rintro _ rfl
    simp [World.setCell, Array.getElem?_modify, hb2]
  refine ⟨rfl, .inr ?_, hb1.trans ⟨fun x hx h1 h2 => ?_, fun g hg => ?_, ?_, ?_⟩⟩
  · refine Lib.BuilderAt.put (T := T) (e := 5) hB hb2 ?_ hT.ne
    have e1 : Lib.byteCells (l ++ m) = Lib.byteCells l ++ Lib.strCells ⟨m.toArray⟩ := by rw [hst]; simp [Lib.byteCells]
    rw [e1, List.length_append, Lib.strCells_length]
    exact hown'
  · rw [kb_row hbk] at h2
    have : (w2.setCell ⟨b, 1, none⟩ (.slice ao n' cap)).heap[x]? = w2.heap[x]? := by simp [World.setCell, Array.getElem?_modify, Ne.symm h1]
    rw [this]
    exact hgrow.block x hx (fun e => h2 e.symm)
  · rw [kb_row (hbs b rfl)] at hg
    rw [kb_row hbk]
    exact hrow g hg
  · show w1.heap.size ≤ (w2.setCell _ _).heap.size
    have : (w2.setCell ⟨b, 1, none⟩ (.slice ao n' cap)).heap.size = w2.heap.size := by simp [World.setCell]
    rw [this]
    exact hgrow.size
  · exact ⟨hgrow.os, hgrow.output⟩

theorem kb_string {T : TypeId} (b : Nat) (l : List UInt8) (w : World) (h : KB T w b l) (h0 : l ≠ []) :
    Calls Tryd.prog 43 #[.pointer (some ⟨b, 0, none⟩)] w fun e w' => e = .returned (.string ⟨l.toArray⟩) ∧ KStep w w' b := by
  obtain ⟨p, hB, v, hbk, hown, hne⟩ : ∃ p, Lib.BuilderAt T 5 0 b p (Lib.byteCells l) w := by
    rcases h with h | h
    · exact ⟨_, h⟩
    · exact ⟨_, h⟩
  have hl0 : l.length ≠ 0 := by simpa using h0
  rw [Lib.byteCells_length] at hown
  obtain ⟨g, cap, cur, rfl, hbg, hg, hnc, hcm, hcs, htake⟩ : ∃ g cap cur, v = .slice (some ⟨g, 0, none⟩) l.length cap ∧ 0 ≤ g ∧ w.heap[g]? = some (.cells cur 5 (0, 0)) ∧ l.length ≤ cap ∧ cap ≤ maxLen ∧ cur.size = cap * 1 ∧ cur.toList.take (l.length * 1) = Lib.byteCells l := by
    rcases hown.2 with ⟨_, hz⟩ | ⟨g, cap, cur, hv, r⟩
    · exact absurd hz hl0
    · exact ⟨g, cap, cur, hv, r⟩
  have hrow : rowOf w b = some g := by rw [kb_row hbk]; rfl
  have c1 : w.drew.cell? ⟨b, 1, none⟩ = some (.slice (some ⟨g, 0, none⟩) l.length cap) := by
    have : w.drew.heap[b]? = some (.cells #[p, .slice (some ⟨g, 0, none⟩) l.length cap] T (0, 0)) := hbk
    rw [Lib.cell_of_heap this]; rfl
  have hSD : (Builtin.unsafeSliceData_ #[53] 123 #[.slice (some ⟨g, 0, none⟩) l.length cap]).run Tryd.prog w.drew = .ok (.pointer (some ⟨g, 0, none⟩)) w.drew :=
    Lib.run_unsafeSliceData_row _ _ _ _ _ _ (by omega)
  have hUS : (Builtin.unsafeString_ #[123, 3] 9 #[.pointer (some ⟨g, 0, none⟩), .int .i64 l.length]).run Tryd.prog w.drew = .ok (.string ⟨l.toArray⟩) (w.drew.freeze ⟨g, 0, none⟩ l.length) := by
    refine Lib.run_unsafeString_row w.drew 123 3 9 5 Tryd.underlying123 (by kernel_rfl) g cur.size (by have hg' : w.drew.heap[g]? = some (.cells cur 5 (0, 0)) := hg; simp [World.shape?, hg']) l h0 (by omega) (by unfold maxLen at hcm; omega) ?_
    intro j x hx
    have := hown.cells (g := g) rfl j (.int .u8 x.toNat) (by simp [Lib.byteCells, hx])
    exact this
  have hfin : KStep w (w.drew.freeze ⟨g, 0, none⟩ l.length) b := by
    have hh : ∀ x, x ≠ g → (w.drew.freeze ⟨g, 0, none⟩ l.length).heap[x]? = w.heap[x]? := fun x hx => by
      simp only [World.freeze, if_neg hl0]
      rw [Array.getElem?_modify, if_neg (Ne.symm hx)]
      rfl
    have hgb : b ≠ g := fun e => hne (by rw [e]; rfl)
    refine ⟨fun x _ _ h2 => hh x (fun e => h2 (by rw [hrow, e])), fun k hk => .inl ?_, ?_, ?_⟩
    · have hb' := (hh b hgb).trans hbk
      rw [kb_row hb'] at hk
      rw [kb_row hbk]
      exact hk
    · simp only [World.freeze, if_neg hl0, Array.size_modify]
      exact Nat.le_refl _
    · simp only [World.freeze, if_neg hl0]
      exact ⟨rfl, rfl⟩
  go_enter Tryd.func43, Tryd.ntmps43
  go_wp2
  go_region
  all_goals (go_wp2; go_ret; exact ⟨rfl, hfin⟩)
end Go.Proofs.YtdabfcbelkjmgaaDoor.Am
