import Derived.Test.YtdabfcbelkjmgaaDoorM7
import Derived.Test.YtdabfcbelkjmgaaDoorD8
/-
  Plain laws: seams.
-/
namespace Go.Proofs.YtdabfcbelkjmgaaDoor.Am
set_option linter.unusedSimpArgs false
set_option linter.unusedVariables false
def cmpS (x y : Int) : Int := if x < y then -1 else if y < x then 1 else 0
def ordS (p q : Pt) : Int := if cmpS p.1 q.1 ≠ 0 then cmpS p.1 q.1 else cmpS p.2 q.2
theorem order_eq {N : Nat} (hN : 100 ≤ N) (p q : Pt) : D_plane_order N p.1 p.2 q.1 q.2 = some (ordS p q) := by
  unfold D_plane_order
  rw [compare_eq, bS, compare_eq, bS]
  unfold D_cmp_Or_int
  obtain ⟨n, rfl⟩ : ∃ n, N = n + 1 + 1 + 1 := ⟨N - 3, by omega⟩
  have c1 : (if p.1 < q.1 then -1 else if q.1 < p.1 then 1 else 0 : Int) = cmpS p.1 q.1 := rfl
  have c2 : (if p.2 < q.2 then -1 else if q.2 < p.2 then 1 else 0 : Int) = cmpS p.2 q.2 := rfl
  rw [c1, c2]
  unfold ordS
  generalize cmpS p.1 q.1 = a
  generalize cmpS p.2 q.2 = b
  rw [D_cmp_Or_int_L1, cT' _ (by rfl), show nth [a, b] 0 = some a from rfl, bS]
  by_cases h : a = 0
  · subst h
    rw [cF' _ (by decide), gd_of (by decide), if_neg (by simp), D_cmp_Or_int_L1, cT' _ (by rfl), show nth [(0 : Int), b] (0 + 1) = some b from rfl, bS]
    by_cases h2 : b = 0
    · subst h2
      rw [cF' _ (by decide), gd_of (by decide), D_cmp_Or_int_L1, cF' _ (by decide), bS]
      simp only
      rw [bS]
    · rw [cT' _ (decide_eq_true h2), bS]
      simp only
      rw [bS]
  · rw [cT' _ (decide_eq_true h), if_pos h, bS]
    simp only
    rw [bS]
theorem ord_lt {p q : Pt} : ordS p q < 0 ↔ p.1 < q.1 ∨ (p.1 = q.1 ∧ p.2 < q.2) := by
  unfold ordS cmpS
  repeat' split
  all_goals omega
theorem ord_gt {p q : Pt} : 0 < ordS p q ↔ q.1 < p.1 ∨ (q.1 = p.1 ∧ q.2 < p.2) := by
  unfold ordS cmpS
  repeat' split
  all_goals omega
theorem ord_z {p q : Pt} : ordS p q = 0 ↔ p = q := by
  constructor
  · intro h
    have h1 : ¬ (ordS p q < 0) := by omega
    have h2 : ¬ (0 < ordS p q) := by omega
    rw [ord_lt] at h1
    rw [ord_gt] at h2
    exact Prod.ext (by omega) (by omega)
  · intro h
    subst h
    have h1 : ¬ (ordS p p < 0) := by rw [ord_lt]; omega
    have h2 : ¬ (0 < ordS p p) := by rw [ord_gt]; omega
    omega
def maxO (u v : Pt) : Pt := if 0 < ordS v u then v else u
def minO (u v : Pt) : Pt := if ordS v u < 0 then v else u
theorem max_L1 {N : Nat} (hN : 100 ≤ N) (u v : Pt) (n : Nat) : D_slices_MaxFunc_api_Place_api_Place_v59_L1 N [(u.1, u.2), (v.1, v.2)] (n + 1 + 1) 1 u.1 u.2 = some ((maxO u v).1, (maxO u v).2) := by
  rw [D_slices_MaxFunc_api_Place_api_Place_v59_L1, cT' _ (by rfl), show nth [(u.1, u.2), (v.1, v.2)] 1 = some (v.1, v.2) from rfl, bS]
  simp only
  rw [order_eq hN, bS]
  unfold maxO
  by_cases h : 0 < ordS v u
  · rw [cT' _ (decide_eq_true h), gd_of (by decide), if_pos h, D_slices_MaxFunc_api_Place_api_Place_v59_L1, cF' _ (by rfl)]
  · rw [cF' _ (decide_eq_false h), gd_of (by decide), if_neg h, D_slices_MaxFunc_api_Place_api_Place_v59_L1, cF' _ (by rfl)]
theorem max_eq {N : Nat} (hN : 100 ≤ N) (u v : Pt) : D_slices_MaxFunc_api_Place_api_Place_v59 N [(u.1, u.2), (v.1, v.2)] = some ((maxO u v).1, (maxO u v).2) := by
  unfold D_slices_MaxFunc_api_Place_api_Place_v59
  have h := fun n => max_L1 hN u v n
  obtain ⟨n, e⟩ : ∃ n, N = n + 1 + 1 := ⟨N - 2, by omega⟩
  have h' := h n
  rw [← e] at h'
  rw [gd_of (by rfl), show nth [(u.1, u.2), (v.1, v.2)] 0 = some (u.1, u.2) from rfl, bS]
  simp only
  rw [h', bS]
theorem min_L1 {N : Nat} (hN : 100 ≤ N) (u v : Pt) (n : Nat) : D_slices_MinFunc_api_Place_api_Place_v59_L1 N [(u.1, u.2), (v.1, v.2)] (n + 1 + 1) 1 u.1 u.2 = some ((minO u v).1, (minO u v).2) := by
  rw [D_slices_MinFunc_api_Place_api_Place_v59_L1, cT' _ (by rfl), show nth [(u.1, u.2), (v.1, v.2)] 1 = some (v.1, v.2) from rfl, bS]
  simp only
  rw [order_eq hN, bS]
  unfold minO
  by_cases h : ordS v u < 0
  · rw [cT' _ (decide_eq_true h), gd_of (by decide), if_pos h, D_slices_MinFunc_api_Place_api_Place_v59_L1, cF' _ (by rfl)]
  · rw [cF' _ (decide_eq_false h), gd_of (by decide), if_neg h, D_slices_MinFunc_api_Place_api_Place_v59_L1, cF' _ (by rfl)]
theorem min_eq {N : Nat} (hN : 100 ≤ N) (u v : Pt) : D_slices_MinFunc_api_Place_api_Place_v59 N [(u.1, u.2), (v.1, v.2)] = some ((minO u v).1, (minO u v).2) := by
  unfold D_slices_MinFunc_api_Place_api_Place_v59
  have h := fun n => min_L1 hN u v n
  obtain ⟨n, e⟩ : ∃ n, N = n + 1 + 1 := ⟨N - 2, by omega⟩
  have h' := h n
  rw [← e] at h'
  rw [gd_of (by rfl), show nth [(u.1, u.2), (v.1, v.2)] 0 = some (u.1, u.2) from rfl, bS]
  simp only
  rw [h', bS]
/-- The ends of a segment, the lesser one first. -/
def lo (p q : Pt) : Pt := if ordS q p < 0 then q else p
def hi (p q : Pt) : Pt := if ordS q p < 0 then p else q
def comS (p q r s : Pt) : Pt × Pt := (maxO (lo p q) (lo r s), minO (hi p q) (hi r s))
theorem common_eq {N : Nat} (hN : 100 ≤ N) (p q r s : Pt) : D_plane_common N p.1 p.2 q.1 q.2 r.1 r.2 s.1 s.2 = some (comS p q r s) := by
  unfold D_plane_common comS lo hi
  rw [bS, order_eq hN, bS, order_eq hN]
  by_cases h1 : ordS q p < 0
  · rw [cT' _ (decide_eq_true h1), if_pos h1, if_pos h1, bS]
    by_cases h2 : ordS s r < 0
    · rw [cT' _ (decide_eq_true h2), if_pos h2, if_pos h2, max_eq hN, bS]
      simp only
      rw [min_eq hN, bS, gd_of (by decide), gd_of (by decide), gd_of (by decide), gd_of (by decide)]
    · rw [cF' _ (decide_eq_false h2), if_neg h2, if_neg h2, max_eq hN, bS]
      simp only
      rw [min_eq hN, bS, gd_of (by decide), gd_of (by decide), gd_of (by decide), gd_of (by decide)]
  · rw [cF' _ (decide_eq_false h1), if_neg h1, if_neg h1, bS]
    by_cases h2 : ordS s r < 0
    · rw [cT' _ (decide_eq_true h2), if_pos h2, if_pos h2, max_eq hN, bS]
      simp only
      rw [min_eq hN, bS, gd_of (by decide), gd_of (by decide), gd_of (by decide), gd_of (by decide)]
    · rw [cF' _ (decide_eq_false h2), if_neg h2, if_neg h2, max_eq hN, bS]
      simp only
      rw [min_eq hN, bS, gd_of (by decide), gd_of (by decide), gd_of (by decide), gd_of (by decide)]
/-- The seam that two edges make. -/
def cand (e f : Pt × Pt) : Option (Pt × Pt) :=
  if trn e.1 e.2 f.1 ≠ 0 ∨ trn e.1 e.2 f.2 ≠ 0 then none
  else if (comS e.1 e.2 f.1 f.2).1 = (comS e.1 e.2 f.1 f.2).2 ∨ 0 < ordS (comS e.1 e.2 f.1 f.2).1 (comS e.1 e.2 f.1 f.2).2 then none
  else if 0 < ordS e.1 e.2 then some ((comS e.1 e.2 f.1 f.2).2, (comS e.1 e.2 f.1 f.2).1) else some (comS e.1 e.2 f.1 f.2)
theorem seam_L2 {N : Nat} (hN : 100 ≤ N) {e : Pt × Pt} (he : Sml e.1 ∧ Sml e.2) : ∀ (es : List (Pt × Pt)), (∀ f ∈ es, Sml f.1 ∧ Sml f.2) → D_plane_Seam_L2 N e.1.1 e.1.2 e.2.1 e.2.2 es = some (match es.findSome? (cand e) with | some s => .inr (s, true) | none => .inl ())
  | [], _ => by simp [D_plane_Seam_L2]
  | f :: es, h => by
    have hf := h f (by simp)
    have ih := seam_L2 hN he es fun x hx => h x (by simp [hx])
    rw [show f = ((f.1.1, f.1.2), (f.2.1, f.2.2)) from rfl, D_plane_Seam_L2, turn_eq he.1 he.2 hf.1, bS, turn_eq he.1 he.2 hf.2, gd_of (fun _ => Option.isSome_some), Option.getD_some, List.findSome?_cons]
    rw [show ((f.1.1, f.1.2), (f.2.1, f.2.2)) = f from rfl, ih]
    by_cases h1 : trn e.1 e.2 f.1 ≠ 0 ∨ trn e.1 e.2 f.2 ≠ 0
    · rw [cT' _ (by simpa using h1), show cand e f = none from if_pos h1]
    · rw [cF' _ (by rw [Bool.eq_false_iff]; simpa using h1), common_eq hN, show comS e.1 e.2 f.1 f.2 = (((comS e.1 e.2 f.1 f.2).1.1, (comS e.1 e.2 f.1 f.2).1.2), ((comS e.1 e.2 f.1 f.2).2.1, (comS e.1 e.2 f.1 f.2).2.2)) from rfl, bS]
      simp only
      rw [order_eq hN, gd_of (fun _ => Option.isSome_some), Option.getD_some, ptE]
      by_cases h2 : (comS e.1 e.2 f.1 f.2).1 = (comS e.1 e.2 f.1 f.2).2 ∨ 0 < ordS (comS e.1 e.2 f.1 f.2).1 (comS e.1 e.2 f.1 f.2).2
      · rw [cT' _ (by simpa using h2), show cand e f = none by unfold cand; rw [if_neg h1, if_pos h2]]
      · rw [cF' _ (by rw [Bool.eq_false_iff]; simpa using h2), order_eq hN, bS]
        by_cases h3 : 0 < ordS e.1 e.2
        · rw [cT' _ (decide_eq_true h3), show cand e f = some ((comS e.1 e.2 f.1 f.2).2, (comS e.1 e.2 f.1 f.2).1) by unfold cand; rw [if_neg h1, if_neg h2, if_pos h3]]
        · rw [cF' _ (decide_eq_false h3), show cand e f = some (comS e.1 e.2 f.1 f.2) by unfold cand; rw [if_neg h1, if_neg h2, if_neg h3]]
def seam1 (a b : List Pt) : Option (Pt × Pt) := (edgesL a).findSome? fun e => (edgesL b).findSome? (cand e)
theorem seam_L1 {N : Nat} (hN : 100 ≤ N) {b : List Pt} (hb : VP b) : ∀ (es : List (Pt × Pt)), (∀ f ∈ es, Sml f.1 ∧ Sml f.2) → D_plane_Seam_L1 N b es = some (match es.findSome? (fun e => (edgesL b).findSome? (cand e)) with | some s => .inr (s, true) | none => .inl ())
  | [], _ => by simp [D_plane_Seam_L1]
  | e :: es, h => by
    have he := h e (by simp)
    have b8 := hb.l8
    rw [show e = ((e.1.1, e.1.2), (e.2.1, e.2.2)) from rfl, D_plane_Seam_L1, gd_of (by omega), seam_L2 hN he _ (edges_sml hb.sml), bS, List.findSome?_cons]
    rw [show ((e.1.1, e.1.2), (e.2.1, e.2.2)) = e from rfl]
    cases (edgesL b).findSome? (cand e) with
    | some s => rfl
    | none => exact seam_L1 hN hb es fun x hx => h x (by simp [hx])
open Classical in
noncomputable def seamS (a b : List Pt) : (Pt × Pt) × Bool := if apart a b then (match seam1 a b with | some s => (s, true) | none => (((0, 0), (0, 0)), false)) else (((0, 0), (0, 0)), false)
theorem seam_eq {N : Nat} (hN : 1001 ≤ N) {a b : List Pt} (ha : VP a) (hb : VP b) : D_plane_Seam N a b = some (seamS a b) := by
  unfold D_plane_Seam seamS
  have a8 := ha.l8
  rw [valid_t (by omega) ha, valid_t (by omega) hb, bS, gd_of (fun _ => Option.isSome_some), overlap_eq hN ha hb, gd_of (fun _ => Option.isSome_some), Option.getD_some, Option.getD_some]
  by_cases h : apart a b
  · rw [sideS_t.2 h, cF' _ (by rfl), gd_of (by omega), if_pos h, seam_L1 (by omega) hb _ (edges_sml ha.sml), bS, show (edgesL a).findSome? (fun e => (edgesL b).findSome? (cand e)) = seam1 a b from rfl]
    cases seam1 a b <;> rfl
  · have e : (sideS a b).2.2 = false := by rw [Bool.eq_false_iff]; intro q; exact h (sideS_t.1 q)
    rw [e, cT' _ (by rfl), if_neg h]
end Go.Proofs.YtdabfcbelkjmgaaDoor.Am
