import Derived.Test.YtojciffnkbfbhaaMS
import Derived.Test.YtojciffnkbfbhaaME
/-
  Plain laws: moves, cuts and sides of the references agree with plane's.
-/
namespace Go.Proofs.Ytojciffnkbfbhaa.Am
set_option linter.unusedSimpArgs false
set_option linter.unusedVariables false
theorem rmove_loop (N : Nat) {l : List Pt} (hl : l.length ≤ 1000) (hs : ∀ p ∈ l, Sml p) {d : Pt} (hd : Sml d) : ∀ (n i : Nat) (out : List Pt), i ≤ l.length → l.length < n + i → out = (l.take i).map (mv d) → D_putlogref07_Move_L2 N l d.1 d.2 n i out = some (l.map (mv d))
  | 0, i, out, h1, h2, _ => by omega
  | n + 1, i, out, h1, h2, ho => by
    rw [D_putlogref07_Move_L2]
    by_cases he : i = l.length
    · subst he
      rw [dge, cF, ho, List.take_length]
    have hi : i < l.length := by omega
    have hp := hs _ (pa_mem hi)
    have ol : out.length = i := by rw [ho]; simp; omega
    have hd' := hd
    unfold Sml at hp hd'
    rw [dlt hi, cT, nth_pa hi, bS]
    simp only
    rw [gd_of (by unfold I64; omega), gd_of (by unfold I64; omega), gd_of (by omega), gd_of (by unfold I64; omega), ← ns]
    refine rmove_loop N hl hs hd n (i + 1) _ (by omega) (by omega) ?_
    rw [List.take_succ_eq_append_getElem hi, List.map_append, List.map_singleton, ← pa_get hi, ho]
    rfl
open Classical in
theorem move_same {N : Nat} (hN : 100 ≤ N) (l : List Pt) (dx dy : Int) : ∃ r, D_plane_Move N l dx dy = some r ∧ D_putlogref07_Move N l dx dy = some r ∧ r.1.length ≤ 8 := by
  by_cases h : VP l
  · have l8 := h.l8
    by_cases hd : mvOK (dx, dy)
    · refine ⟨_, move_eq hN h hd, ?_, ?_⟩
      · unfold D_putlogref07_Move
        unfold mvOK at hd
        simp only at hd
        have hc := rmove_loop N (by omega) h.sml (d := (dx, dy)) (by unfold Sml; simp only; omega) N 0 [] (by omega) (by omega) (by simp)
        rw [Int.natCast_zero] at hc
        simp only at hc
        rw [rvalid_eq hN, vB_t.2 h, bS, cF' _ (by simp; omega), hc, bS, rvalid_eq hN, bS]
        by_cases ho : ∀ p ∈ l, On (mv (dx, dy) p)
        · rw [if_pos ho, vB_t.2 (mv_vp (dx, dy) h ho), cF' _ (by rfl)]
        · rw [if_neg ho, vB_f.2 (fun q => ho fun p hp => q.on _ (List.mem_map.2 ⟨p, hp, rfl⟩)), cT' _ (by rfl)]
      · split
        · simp only [List.length_map]; exact l8
        · simp
    · unfold mvOK at hd
      simp only at hd
      refine ⟨([], 70), ?_, ?_, by simp⟩
      · unfold D_plane_Move
        rw [valid_t hN h, bS, cT' _ (by simp; omega)]
      · unfold D_putlogref07_Move
        rw [rvalid_eq hN, vB_t.2 h, bS, cT' _ (by simp; omega)]
  · refine ⟨([], 70), ?_, ?_, by simp⟩
    · unfold D_plane_Move
      rw [valid_eq hN, vB_f.2 h, bS, cT' _ (by rfl)]
    · unfold D_putlogref07_Move
      rw [rvalid_eq hN, vB_f.2 h, bS, cT' _ (by rfl)]
theorem cut_same {N : Nat} (hN : 100 ≤ N) (l : List Pt) (i k : Int) : ∃ r, D_plane_Cut N l i k = some r ∧ D_putlogref07_Cut N l i k = some r ∧ r.1.length ≤ 9 ∧ r.2.1.length ≤ 9 := by
  by_cases h : VP l
  · have l3 := h.l3
    have l8 := h.l8
    by_cases hr : (0 ≤ i ∧ i < l.length) ∧ 0 ≤ k ∧ k < l.length
    · obtain ⟨i', rfl⟩ : ∃ j : Nat, i = j := ⟨i.toNat, by omega⟩
      obtain ⟨k', rfl⟩ : ∃ j : Nat, k = j := ⟨k.toNat, by omega⟩
      refine ⟨_, pcut_eq hN h (by omega) (by omega), rcut_eq hN h (by omega) (by omega), ?_⟩
      unfold cutS
      have s1 := stp_lt (n := l.length) (i := i') (k := k') (by omega)
      have s2 := stp_lt (n := l.length) (i := k') (k := i') (by omega)
      split
      · simp
      · simp only [arc_len]; omega
    · refine ⟨([], [], 70), ?_, ?_, by simp⟩
      · unfold D_plane_Cut
        rw [valid_t hN h, bS, cT' _ (by simp; omega)]
      · unfold D_putlogref07_Cut
        rw [rvalid_eq hN, vB_t.2 h, bS, cT' _ (by simp; omega)]
  · refine ⟨([], [], 70), ?_, ?_, by simp⟩
    · unfold D_plane_Cut
      rw [valid_eq hN, vB_f.2 h, bS, cT' _ (by rfl)]
    · unfold D_putlogref07_Cut
      rw [rvalid_eq hN, vB_f.2 h, bS, cT' _ (by rfl)]
/-! ### Sides -/
open Classical in
theorem rsep_eq {N : Nat} (hN : 1001 ≤ N) {l b : List Pt} (hl : l.length ≤ 1000) (hb : b.length ≤ 1000) (hsl : ∀ p ∈ l, Sml p) (hsb : ∀ p ∈ b, Sml p) {i : Nat} (hi : i < l.length) : D_putlogref07_separates N l i b = some (decide (sep l i b)) := by
  unfold D_putlogref07_separates
  have hm : (i + 1) % l.length < l.length := Nat.mod_lt _ (by omega)
  have step : ∀ n (k : Nat), k < b.length → D_putlogref07_separates_L1 N b l i (n + 1) k = if 0 < E l i (pa b k) then some (.inr false) else D_putlogref07_separates_L1 N b l i n ((k + 1 : Nat) : Int) := fun n k hk => by
    rw [D_putlogref07_separates_L1, dlt hk, cT, nth_pa hi, bS]
    simp only
    rw [rend_eq N hl hi, show pa l ((i + 1) % l.length) = ((pa l ((i + 1) % l.length)).1, (pa l ((i + 1) % l.length)).2) from rfl, bS]
    simp only
    rw [nth_pa hk, bS]
    simp only
    rw [rturn_eq (hsl _ (pa_mem hi)) (hsl _ (pa_mem hm)) (hsb _ (pa_mem hk)), bS, show trn (pa l i) (pa l ((i + 1) % l.length)) (pa b k) = E l i (pa b k) from rfl, gd_of (by unfold I64; omega), ns]
    by_cases h : 0 < E l i (pa b k)
    · rw [decide_eq_true h, cT, if_pos h]
    · rw [decide_eq_false h, cF, if_neg h]
  have key := find0 (L := D_putlogref07_separates_L1 N b l i) (len := b.length) (fun k => if 0 < E l i (pa b k) then some false else none)
    (fun n k hk hf => by
      rw [step n k hk, if_neg]
      intro h; rw [if_pos h] at hf; cases hf) (fun n k r hk hf => by
      by_cases h : 0 < E l i (pa b k)
      · rw [step n k hk, if_pos h]; rw [if_pos h] at hf; rw [← Option.some.inj hf]
      · rw [if_neg h] at hf; cases hf) (fun n => by
      rw [D_putlogref07_separates_L1, dge, cF]) N (by omega)
  rcases key with ⟨e, h⟩ | ⟨j, r, a2, a3, a4, e⟩
  · rw [e, bS]
    simp only
    rw [decide_eq_true]
    intro p hp
    obtain ⟨k, hk, rfl⟩ := pa_of hp
    have := h k hk
    rcases Int.lt_or_le 0 (E l i (pa b k)) with c | c
    · rw [if_pos c] at this; cases this
    · exact c
  · rw [e, bS]
    simp only
    split at a3
    · rename_i h
      cases a3
      rw [decide_eq_false]
      intro q
      have := q _ (pa_mem a2)
      omega
    · cases a3
open Classical in
theorem fst_first {l b : List Pt} {j : Nat} (hj : j < l.length) (hs : sep l j b) (h0 : ∀ i, i < j → ¬ sep l i b) : fstS l b = some j := by
  cases h : fstS l b with
  | none => exact absurd hs (fstS_none h j hj)
  | some t =>
    have ht := fstS_some h
    unfold fstS at h
    rw [List.find?_range_eq_some] at h
    obtain ⟨_, _, h3⟩ := h
    rcases Nat.lt_trichotomy t j with c | c | c
    · exact absurd ht.2 (h0 t c)
    · rw [c]
    · have := h3 j c
      simp [hs] at this
open Classical in
theorem rside_eq {N : Nat} (hN : 1001 ≤ N) {a b : List Pt} (ha : VP a) (hb : VP b) : D_putlogref07_Side N a b = some (sideS a b) := by
  unfold D_putlogref07_Side
  have a8 := ha.l8
  have b8 := hb.l8
  rw [rvalid_eq (by omega), rvalid_eq (by omega), vB_t.2 ha, vB_t.2 hb, bS, gd_of (fun _ => Option.isSome_some), Option.getD_some, cF' _ (by rfl)]
  have key1 := find0 (L := D_putlogref07_Side_L1 N a b) (len := a.length) (fun i => if sep a i b then some (0, (i : Int), true) else none)
    (fun n k hk hf => by
      have hns : ¬ sep a k b := fun h => by rw [if_pos h] at hf; cases hf
      rw [D_putlogref07_Side_L1, dlt hk, cT, rsep_eq hN (by omega) (by omega) ha.sml hb.sml hk, bS, decide_eq_false hns, cF, gd_of (by unfold I64; omega), ns]) (fun n k r hk hf => by
      by_cases h : sep a k b
      · rw [if_pos h] at hf
        rw [D_putlogref07_Side_L1, dlt hk, cT, rsep_eq hN (by omega) (by omega) ha.sml hb.sml hk, bS, decide_eq_true h, cT, ← Option.some.inj hf]
      · rw [if_neg h] at hf; cases hf) (fun n => by
      rw [D_putlogref07_Side_L1, dge, cF]) N (by omega)
  have key2 := find0 (L := D_putlogref07_Side_L2 N b a) (len := b.length) (fun i => if sep b i a then some (1, (i : Int), true) else none)
    (fun n k hk hf => by
      have hns : ¬ sep b k a := fun h => by rw [if_pos h] at hf; cases hf
      rw [D_putlogref07_Side_L2, dlt hk, cT, rsep_eq hN (by omega) (by omega) hb.sml ha.sml hk, bS, decide_eq_false hns, cF, gd_of (by unfold I64; omega), ns]) (fun n k r hk hf => by
      by_cases h : sep b k a
      · rw [if_pos h] at hf
        rw [D_putlogref07_Side_L2, dlt hk, cT, rsep_eq hN (by omega) (by omega) hb.sml ha.sml hk, bS, decide_eq_true h, cT, ← Option.some.inj hf]
      · rw [if_neg h] at hf; cases hf) (fun n => by
      rw [D_putlogref07_Side_L2, dge, cF]) N (by omega)
  have none_of : ∀ {l m : List Pt} {f : Nat → Option (Int × Int × Bool)} {w : Int}, (∀ i, i < l.length → (if sep l i m then some (w, (i : Int), true) else none : Option (Int × Int × Bool)) = none) → fstS l m = none := fun {l m f w} h => by
    cases q : fstS l m with
    | none => rfl
    | some t =>
      have ht := fstS_some q
      have := h t ht.1
      rw [if_pos ht.2] at this
      cases this
  unfold sideS
  rcases key1 with ⟨e, h⟩ | ⟨j, r, a2, a3, a4, e⟩
  · rw [e, bS]
    simp only
    rw [none_of (f := fun _ => none) h]
    simp only
    rcases key2 with ⟨e, h⟩ | ⟨j, r, a2, a3, a4, e⟩
    · rw [e, bS, none_of (f := fun _ => none) h]
    · rw [e, bS]
      simp only
      by_cases hs : sep b j a
      · rw [if_pos hs] at a3
        rw [fst_first a2 hs (fun i hi q => by have := a4 i hi; rw [if_pos q] at this; cases this), ← Option.some.inj a3]
      · rw [if_neg hs] at a3; cases a3
  · rw [e, bS]
    simp only
    by_cases hs : sep a j b
    · rw [if_pos hs] at a3
      rw [fst_first a2 hs (fun i hi q => by have := a4 i hi; rw [if_pos q] at this; cases this), ← Option.some.inj a3]
    · rw [if_neg hs] at a3; cases a3
theorem side_same {N : Nat} (hN : 1001 ≤ N) (a b : List Pt) : ∃ r, D_plane_Side N a b = some r ∧ D_putlogref07_Side N a b = some r := by
  by_cases ha : VP a
  · by_cases hb : VP b
    · exact ⟨_, sideE hN ha hb, rside_eq hN ha hb⟩
    · unfold D_plane_Side D_putlogref07_Side
      rw [valid_eq (by omega), rvalid_eq (by omega), valid_eq (by omega), rvalid_eq (by omega), vB_t.2 ha, vB_f.2 hb, bS, bS, gd_of (fun _ => Option.isSome_some), gd_of (fun _ => Option.isSome_some)]
      exact ⟨(0, 0, false), by rw [cT' _ (by rfl)], by rw [cT' _ (by rfl)]⟩
  · unfold D_plane_Side D_putlogref07_Side
    rw [valid_eq (by omega), rvalid_eq (by omega), vB_f.2 ha, bS, bS, gd_of (fun q => by simp at q), gd_of (fun q => by simp at q)]
    exact ⟨(0, 0, false), by rw [cT' _ (by rfl)], by rw [cT' _ (by rfl)]⟩
end Go.Proofs.Ytojciffnkbfbhaa.Am
