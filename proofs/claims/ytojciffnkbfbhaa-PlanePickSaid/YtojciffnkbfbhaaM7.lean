import Derived.Test.YtojciffnkbfbhaaM6
/-
  Plain laws: edges that separate.
-/
namespace Go.Proofs.Ytojciffnkbfbhaa.Am
set_option linter.unusedSimpArgs false
set_option linter.unusedVariables false
/-- An edge of a polygon that no place of a list is to the left of. -/
def sep (l : List Pt) (i : Nat) (b : List Pt) : Prop := ∀ p ∈ b, E l i p ≤ 0
open Classical in
noncomputable def fstS (l b : List Pt) : Option Nat := (List.range l.length).find? fun i => decide (sep l i b)
def apart (a b : List Pt) : Prop := (∃ i, i < a.length ∧ sep a i b) ∨ ∃ i, i < b.length ∧ sep b i a
theorem apart.symm {a b : List Pt} (h : apart a b) : apart b a := Or.symm h
theorem fstS_some {l b : List Pt} {i : Nat} (h : fstS l b = some i) : i < l.length ∧ sep l i b := by
  unfold fstS at h
  have h1 := List.find?_some h
  have h2 := List.mem_of_find?_eq_some h
  exact ⟨by simpa using h2, by simpa using h1⟩
theorem fstS_none {l b : List Pt} (h : fstS l b = none) : ∀ i, i < l.length → ¬ sep l i b := by
  unfold fstS at h
  rw [List.find?_eq_none] at h
  intro i hi hs
  exact h i (by simpa using hi) (by simpa using hs)
open Classical in
theorem left_eq {N : Nat} {b : List Pt} (hb : b.length ≤ 1000) (hN : 1000 < N) (hs : ∀ p ∈ b, Sml p) {u w : Pt} (hu : Sml u) (hw : Sml w) : D_slices_ContainsFunc_api_Place_api_Place_v72 N b u.1 u.2 w.1 w.2 = some (decide (∃ p ∈ b, 0 < trn u w p)) := by
  unfold D_slices_ContainsFunc_api_Place_api_Place_v72 D_slices_IndexFunc_api_Place_api_Place_v72
  have step : ∀ n (k : Nat), k < b.length → D_slices_IndexFunc_api_Place_api_Place_v72_L1 N b u.1 u.2 w.1 w.2 (n + 1) k = if 0 < trn u w (pa b k) then some (.inr (k : Int)) else D_slices_IndexFunc_api_Place_api_Place_v72_L1 N b u.1 u.2 w.1 w.2 n ((k + 1 : Nat) : Int) := fun n k hk => by
    rw [D_slices_IndexFunc_api_Place_api_Place_v72_L1, dlt hk, cT, nth_pa hk, bS]
    simp only
    unfold D_plane_first_1
    rw [turn_eq hu hw (hs _ (pa_mem hk)), bS, bS, gd_of (by unfold I64; omega), ns]
    by_cases h : 0 < trn u w (pa b k)
    · rw [decide_eq_true h, cT, if_pos h]
    · rw [decide_eq_false h, cF, if_neg h]
  have key := find0 (L := D_slices_IndexFunc_api_Place_api_Place_v72_L1 N b u.1 u.2 w.1 w.2) (len := b.length) (fun k => if 0 < trn u w (pa b k) then some (k : Int) else none)
    (fun n k hk hf => by
      rw [step n k hk, if_neg]
      intro h; rw [if_pos h] at hf; cases hf) (fun n k r hk hf => by
      by_cases h : 0 < trn u w (pa b k)
      · rw [step n k hk, if_pos h]; rw [if_pos h] at hf; rw [← Option.some.inj hf]
      · rw [if_neg h] at hf; cases hf) (fun n => by
      rw [D_slices_IndexFunc_api_Place_api_Place_v72_L1, dge, cF]) N (by omega)
  rcases key with ⟨e, h⟩ | ⟨j, r, a2, a3, a4, e⟩
  · rw [e, bS]
    simp only
    rw [bS]
    congr 1
    rw [decide_eq_false (by decide)]
    symm
    rw [decide_eq_false_iff_not]
    rintro ⟨p, hp, hn⟩
    obtain ⟨i, hi, rfl⟩ := pa_of hp
    have := h i hi
    rw [if_pos hn] at this; cases this
  · rw [e, bS]
    simp only
    rw [bS]
    split at a3
    · rename_i h
      rw [← Option.some.inj a3, decide_eq_true (by omega)]
      congr 1
      symm
      rw [decide_eq_true_eq]
      exact ⟨_, pa_mem a2, h⟩
    · cases a3
open Classical in
theorem first_loop {N : Nat} (hN : 1000 < N) {l b : List Pt} (hl : l.length ≤ 1000) (hb : b.length ≤ 1000) (hsl : ∀ p ∈ l, Sml p) (hsb : ∀ p ∈ b, Sml p) : ∀ (k j : Nat), j + k = l.length →
    D_plane_first_L1 N b ((List.range' j k).map fun i => (pa l i, pa l ((i + 1) % l.length))) (j : Int) = some (match (List.range' j k).find? fun i => decide (sep l i b) with | some i => .inr (i : Int) | none => .inl ())
  | 0, j, h => by simp [D_plane_first_L1]
  | k + 1, j, h => by
    have hm : (j + 1) % l.length < l.length := Nat.mod_lt _ (by omega)
    rw [List.range'_succ, List.map_cons, List.find?_cons]
    rw [show (pa l j, pa l ((j + 1) % l.length)) = (((pa l j).1, (pa l j).2), ((pa l ((j + 1) % l.length)).1, (pa l ((j + 1) % l.length)).2)) from rfl, D_plane_first_L1, left_eq hb hN hsb (hsl _ (pa_mem (by omega))) (hsl _ (pa_mem hm)), bS]
    by_cases hs : sep l j b
    · have e : ¬ ∃ p ∈ b, 0 < trn (pa l j) (pa l ((j + 1) % l.length)) p := by
        rintro ⟨p, hp, hq⟩
        have := hs p hp
        unfold E at this; omega
      rw [decide_eq_false e, cT' _ (by rfl), decide_eq_true hs]
    · have e : ∃ p ∈ b, 0 < trn (pa l j) (pa l ((j + 1) % l.length)) p := by
        by_cases h : ∃ p ∈ b, 0 < trn (pa l j) (pa l ((j + 1) % l.length)) p
        · exact h
        · exact absurd (fun p hp => by
            rcases Int.lt_or_le 0 (E l j p) with h1 | h1
            · exact absurd ⟨p, hp, h1⟩ h
            · exact h1) hs
      rw [decide_eq_true e, cF' _ (by rfl), decide_eq_false hs, gd_of (by unfold I64; omega), ← ns]
      exact first_loop hN hl hb hsl hsb k (j + 1) (by omega)
theorem first_eq {N : Nat} (hN : 1000 < N) {l b : List Pt} (hl : l.length ≤ 1000) (hb : b.length ≤ 1000) (hsl : ∀ p ∈ l, Sml p) (hsb : ∀ p ∈ b, Sml p) : D_plane_first N l b = some (match fstS l b with | some i => (i : Int) | none => -1) := by
  unfold D_plane_first
  have := first_loop hN hl hb hsl hsb l.length 0 (by omega)
  rw [← List.range_eq_range', Int.natCast_zero] at this
  rw [gd_of (by omega), show edgesL l = (List.range l.length).map fun i => (pa l i, pa l ((i + 1) % l.length)) from rfl, this, bS]
  unfold fstS
  cases (List.range l.length).find? fun i => @decide (sep l i b) (Classical.propDecidable _) <;> rfl
noncomputable def sideS (a b : List Pt) : Int × Int × Bool := match fstS a b with
  | some i => (0, (i : Int), true)
  | none => match fstS b a with
    | some i => (1, (i : Int), true)
    | none => (0, 0, false)
theorem sideS_cases (a b : List Pt) : (∃ i, i < a.length ∧ sep a i b ∧ sideS a b = (0, (i : Int), true)) ∨ (∃ i, i < b.length ∧ sep b i a ∧ sideS a b = (1, (i : Int), true)) ∨ (¬ apart a b ∧ sideS a b = (0, 0, false)) := by
  unfold sideS
  cases h : fstS a b with
  | some i => exact .inl ⟨i, (fstS_some h).1, (fstS_some h).2, rfl⟩
  | none =>
    cases h2 : fstS b a with
    | some i => exact .inr (.inl ⟨i, (fstS_some h2).1, (fstS_some h2).2, rfl⟩)
    | none =>
      refine .inr (.inr ⟨?_, rfl⟩)
      rintro (⟨i, hi, hs⟩ | ⟨i, hi, hs⟩)
      · exact fstS_none h i hi hs
      · exact fstS_none h2 i hi hs
theorem sideS_t {a b : List Pt} : (sideS a b).2.2 = true ↔ apart a b := by
  rcases sideS_cases a b with ⟨i, h1, h2, h3⟩ | ⟨i, h1, h2, h3⟩ | ⟨h1, h3⟩ <;> rw [h3]
  · simp only [true_iff]; exact .inl ⟨i, h1, h2⟩
  · simp only [true_iff]; exact .inr ⟨i, h1, h2⟩
  · simp [h1]
theorem sideE {N : Nat} (hN : 1001 ≤ N) {a b : List Pt} (ha : VP a) (hb : VP b) : D_plane_Side N a b = some (sideS a b) := by
  unfold D_plane_Side
  have a8 := ha.l8
  have b8 := hb.l8
  rw [valid_t (by omega) ha, valid_t (by omega) hb, bS, gd_of (fun _ => Option.isSome_some), Option.getD_some, cF' _ (by rfl), first_eq (by omega) (by omega) (by omega) ha.sml hb.sml, bS, first_eq (by omega) (by omega) (by omega) hb.sml ha.sml]
  unfold sideS
  cases fstS a b with
  | some i => simp only; rw [cT' _ (decide_eq_true (by omega))]
  | none =>
    simp only
    rw [cF' _ (by decide), bS]
    cases fstS b a with
    | some i => simp only; rw [cT' _ (decide_eq_true (by omega))]
    | none => simp only; rw [cF' _ (by decide)]
theorem overlap_eq {N : Nat} (hN : 1001 ≤ N) {a b : List Pt} (ha : VP a) (hb : VP b) : D_plane_Overlap N a b = some (!(sideS a b).2.2) := by
  unfold D_plane_Overlap
  rw [sideE hN ha hb, show sideS a b = ((sideS a b).1, (sideS a b).2.1, (sideS a b).2.2) from rfl, bS, valid_t (by omega) ha, valid_t (by omega) hb]
  simp only
  rw [bS, gd_of (fun _ => Option.isSome_some)]
  rfl
theorem apart_self {a : List Pt} (h : VP a) : ¬ apart a a := by
  have l3 := h.l3
  have key : ∀ i, i < a.length → ¬ sep a i a := fun i hi hs => by
    obtain ⟨k, hk, n1, n2⟩ : ∃ k, k < a.length ∧ k ≠ i ∧ k ≠ (i + 1) % a.length := by
      by_cases h0 : 0 ≠ i ∧ 0 ≠ (i + 1) % a.length
      · exact ⟨0, by omega, h0.1, h0.2⟩
      by_cases h1 : 1 ≠ i ∧ 1 ≠ (i + 1) % a.length
      · exact ⟨1, by omega, h1.1, h1.2⟩
      exact ⟨2, by omega, by omega, by omega⟩
    have e1 := h.cv i k hi hk n1 n2
    have e2 := hs _ (pa_mem hk)
    unfold E at e2
    omega
  rintro (⟨i, hi, hs⟩ | ⟨i, hi, hs⟩)
  · exact key i hi hs
  · exact key i hi hs

/-! ### What is inside has corners on both sides of every line through it -/
theorem cross0 {g p a b : Pt} (ha : lin g p a = 0) (hb : lin g p b = 0) (hg : g ≠ (0, 0)) : trn p a b = 0 := by
  have e1 : g.1 * trn p a b = lin g p a * (b.2 - p.2) - lin g p b * (a.2 - p.2) := by unfold lin trn; grind
  have e2 : g.2 * trn p a b = lin g p b * (a.1 - p.1) - lin g p a * (b.1 - p.1) := by unfold lin trn; grind
  rw [ha, hb] at e1 e2
  simp only [Int.zero_mul, Int.sub_self, Int.mul_eq_zero] at e1 e2
  rcases e1 with e1 | e1
  · rcases e2 with e2 | e2
    · exact absurd (Prod.ext e1 e2) hg
    · exact e2
  · exact e1
theorem no_half {n : Nat} {v : Nat → Pt} (hn : 0 < n) (per : ∀ t, v (t + n) = v t) {p g : Pt} (h : ∀ t, 0 < trn (v t) (v (t + 1)) p) (hg : g ≠ (0, 0)) (hh : ∀ t, 0 ≤ lin g p (v t)) : False := by
  have h' : ∀ t, 0 < trn p (v t) (v (t + 1)) := fun t => by rw [← trn_rot]; exact h t
  obtain ⟨m, hm⟩ : ∃ m, 0 < lin g p (v m) := by
    by_cases h0 : 0 < lin g p (v 0)
    · exact ⟨0, h0⟩
    by_cases h1 : 0 < lin g p (v 1)
    · exact ⟨1, h1⟩
    have z0 := hh 0
    have z1 := hh 1
    have := cross0 (show lin g p (v 0) = 0 by omega) (show lin g p (v 1) = 0 by omega) hg
    have : 0 < trn p (v 0) (v 1) := h' 0
    omega
  have key : ∀ t, 0 < trn p (v m) (v (m + (t + 1))) := by
    intro t
    induction t with
    | zero => exact h' m
    | succ t ih =>
      have pl := pluck g p (v m) (v (m + (t + 1))) (v (m + (t + 1 + 1)))
      have hb := hh (m + (t + 1))
      have hc := hh (m + (t + 1 + 1))
      have hbc := h' (m + (t + 1))
      rw [show m + (t + 1) + 1 = m + (t + 1 + 1) by omega] at hbc
      have k1 := Int.mul_pos hm hbc
      have k2 := Int.mul_nonneg hc (Int.le_of_lt ih)
      have hb' : 0 < lin g p (v (m + (t + 1))) := by
        rcases Int.lt_or_eq_of_le hb with q | q
        · exact q
        · rw [← q, Int.zero_mul] at pl; omega
      exact pos_of_mul hb' (by omega)
  have := key (n - 1)
  rw [show m + (n - 1 + 1) = m + n by omega, per, trn_self2] at this
  omega
theorem E_qa {l : List Pt} (hl : 0 < l.length) (t : Nat) (p : Pt) : trn (qa l t) (qa l (t + 1)) p = E l (t % l.length) p := by
  unfold E qa
  rw [Nat.mod_add_mod]
/-- If all corners are on one side of a place, or on a line through it, the place is not inside. -/
theorem inn_half {l : List Pt} (hl : 0 < l.length) {p g : Pt} (h : inn l p) (hg : g ≠ (0, 0)) (hh : ∀ q ∈ l, 0 ≤ lin g p q) : False :=
  no_half (v := qa l) hl (qa_add l) (p := p) (g := g) (fun t => by rw [E_qa hl]; exact h _ (Nat.mod_lt _ hl)) hg fun t => hh _ (qa_mem hl t)
theorem trn_lin (a b p q : Pt) : lin (b.2 - a.2, a.1 - b.1) p q = trn a b p - trn a b q := by unfold lin trn; grind
theorem sep_inn {a b : List Pt} {i : Nat} (hi : i < a.length) (hb : 0 < b.length) (hs : sep a i b) {p : Pt} (h1 : inn a p) (h2 : inn b p) : False := by
  have e1 := h1 i hi
  unfold E at e1
  have hh : ∀ q ∈ b, 0 < lin ((pa a ((i + 1) % a.length)).2 - (pa a i).2, (pa a i).1 - (pa a ((i + 1) % a.length)).1) p q := fun q hq => by
    rw [trn_lin]
    have := hs q hq
    unfold E at this
    omega
  refine inn_half hb h2 (fun e => ?_) fun q hq => Int.le_of_lt (hh q hq)
  have := hh _ (pa_mem hb)
  rw [e] at this
  simp [lin] at this
theorem apart_inn {a b : List Pt} (ha : 0 < a.length) (hb : 0 < b.length) (h : apart a b) {p : Pt} (h1 : inn a p) (h2 : inn b p) : False := by
  rcases h with ⟨i, hi, hs⟩ | ⟨i, hi, hs⟩
  · exact sep_inn hi hb hs h1 h2
  · exact sep_inn hi ha hs h2 h1
theorem dbl_E {l : List Pt} {i : Nat} (hi : i < l.length) (q : Pt) : E (l.map dbl) i (dbl q) = 4 * E l i q := by
  have hm : (i + 1) % l.length < l.length := Nat.mod_lt _ (by omega)
  unfold E
  rw [List.length_map, pa_map hi, pa_map hm]
  generalize pa l i = a
  generalize pa l ((i + 1) % l.length) = b
  unfold trn dbl; grind
theorem dbl_sep {a b : List Pt} {i : Nat} (hi : i < a.length) (h : sep a i b) : sep (a.map dbl) i (b.map dbl) := fun q hq => by
  obtain ⟨r, hr, rfl⟩ := List.mem_map.1 hq
  rw [dbl_E hi]
  have := h r hr
  omega
theorem dbl_apart {a b : List Pt} (h : apart a b) : apart (a.map dbl) (b.map dbl) := by
  rcases h with ⟨i, hi, hs⟩ | ⟨i, hi, hs⟩
  · exact .inl ⟨i, by simpa using hi, dbl_sep hi hs⟩
  · exact .inr ⟨i, by simpa using hi, dbl_sep hi hs⟩
end Go.Proofs.Ytojciffnkbfbhaa.Am
