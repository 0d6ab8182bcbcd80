import Derived.Test.YtojciffnkbfbhaaM3
/-
  Plain laws: where a place is; the middle of a cell; lists of which each element is changed.
-/
namespace Go.Proofs.Ytojciffnkbfbhaa.Am
set_option linter.unusedSimpArgs false
set_option linter.unusedVariables false
/-- How far a place is to the left of an edge. -/
def E (l : List Pt) (i : Nat) (p : Pt) : Int := trn (pa l i) (pa l ((i + 1) % l.length)) p
def inn (l : List Pt) (p : Pt) : Prop := ∀ i, i < l.length → 0 < E l i p
def clo (l : List Pt) (p : Pt) : Prop := ∀ i, i < l.length → 0 ≤ E l i p
theorem inn.clo {l : List Pt} {p : Pt} (h : inn l p) : clo l p := fun i hi => Int.le_of_lt (h i hi)
open Classical in
noncomputable def sd (l : List Pt) (p : Pt) : Int := if inn l p then 1 else if clo l p then 0 else -1
theorem sd_1 {l : List Pt} {p : Pt} : sd l p = 1 ↔ inn l p := by
  unfold sd
  split
  · simp [*]
  · split <;> simp [*]
theorem sd_nn {l : List Pt} {p : Pt} : 0 ≤ sd l p ↔ clo l p := by
  unfold sd
  split
  · rename_i h; simp [h.clo]
  · split <;> simp [*]
theorem sd_0 {l : List Pt} {p : Pt} : sd l p = 0 ↔ clo l p ∧ ¬ inn l p := by
  unfold sd
  split
  · simp [*]
  · split <;> simp [*]
theorem sd_cases (l : List Pt) (p : Pt) : sd l p = 1 ∨ sd l p = 0 ∨ sd l p = -1 := by
  unfold sd
  split
  · simp
  · split <;> simp
def leastL (p : Pt) (es : List (Pt × Pt)) (m : Int) : Int := es.foldl (fun m e => min m (trn e.1 e.2 p)) m
theorem side_loop (N : Nat) {p : Pt} (hp : Sml p) : ∀ (es : List (Pt × Pt)) (m : Int), (∀ e ∈ es, Sml e.1 ∧ Sml e.2) → D_plane_side_L1 N p.1 p.2 es m = some (leastL p es m)
  | [], m, _ => rfl
  | e :: es, m, h => by
    obtain ⟨h1, h2⟩ := h e (by simp)
    obtain ⟨⟨a1, a2⟩, ⟨b1, b2⟩⟩ := e
    rw [D_plane_side_L1]
    have tu := turn_eq (N := N) (a := (a1, a2)) (b := (b1, b2)) h1 h2 hp
    simp only at tu
    rw [tu, bS]
    exact side_loop N hp es _ fun e he => h e (by simp [he])
theorem least_pos (p : Pt) : ∀ (es : List (Pt × Pt)) (m : Int), 0 < leastL p es m ↔ 0 < m ∧ ∀ e ∈ es, 0 < trn e.1 e.2 p
  | [], m => by simp [leastL]
  | e :: es, m => by
    have := least_pos p es (min m (trn e.1 e.2 p))
    rw [show leastL p (e :: es) m = leastL p es (min m (trn e.1 e.2 p)) from rfl, this]
    simp only [List.mem_cons, forall_eq_or_imp]
    constructor
    · rintro ⟨h1, h2⟩; exact ⟨by omega, by omega, h2⟩
    · rintro ⟨h1, h2, h3⟩; exact ⟨by omega, h3⟩
theorem least_nn (p : Pt) : ∀ (es : List (Pt × Pt)) (m : Int), 0 ≤ leastL p es m ↔ 0 ≤ m ∧ ∀ e ∈ es, 0 ≤ trn e.1 e.2 p
  | [], m => by simp [leastL]
  | e :: es, m => by
    have := least_nn p es (min m (trn e.1 e.2 p))
    rw [show leastL p (e :: es) m = leastL p es (min m (trn e.1 e.2 p)) from rfl, this]
    simp only [List.mem_cons, forall_eq_or_imp]
    constructor
    · rintro ⟨h1, h2⟩; exact ⟨by omega, by omega, h2⟩
    · rintro ⟨h1, h2, h3⟩; exact ⟨by omega, h3⟩
theorem mem_edges {l : List Pt} {e : Pt × Pt} : e ∈ edgesL l ↔ ∃ i, i < l.length ∧ e = (pa l i, pa l ((i + 1) % l.length)) := by
  unfold edgesL
  simp only [List.mem_map, List.mem_range]
  exact ⟨fun ⟨i, h, e⟩ => ⟨i, h, e.symm⟩, fun ⟨i, h, e⟩ => ⟨i, h, e.symm⟩⟩
theorem edges_sml {l : List Pt} (hs : ∀ p ∈ l, Sml p) : ∀ e ∈ edgesL l, Sml e.1 ∧ Sml e.2 := fun e he => by
  obtain ⟨i, hi, rfl⟩ := mem_edges.1 he
  exact ⟨hs _ (pa_mem hi), hs _ (pa_mem (Nat.mod_lt _ (by omega)))⟩
theorem compare_eq (N : Nat) (x y : Int) : D_cmp_Compare_int N x y = some (if x < y then -1 else if y < x then 1 else 0) := by
  unfold D_cmp_Compare_int D_cmp_isNaN_int
  rw [decide_eq_false (by simp), bS, decide_eq_false (by simp), bS, cF, cF]
  by_cases h : x < y
  · rw [decide_eq_true h, cT, if_pos h]
  · rw [decide_eq_false h, cF, if_neg h]
    by_cases h : y < x
    · rw [decide_eq_true h, cT, if_pos h]
    · rw [decide_eq_false h, cF, if_neg h]
theorem side_eq (N : Nat) {l : List Pt} {p : Pt} (hl : l.length ≤ 1000) (hs : ∀ p ∈ l, Sml p) (hp : Sml p) : D_plane_side N l p.1 p.2 = some (sd l p) := by
  unfold D_plane_side
  rw [gd_of (by omega), side_loop N hp _ _ (edges_sml hs), bS, compare_eq, bS]
  congr 1
  have h1 := least_pos p (edgesL l) 4611686018427387903
  have h2 := least_nn p (edgesL l) 4611686018427387903
  generalize leastL p (edgesL l) 4611686018427387903 = m at *
  have e1 : 0 < m ↔ inn l p := by
    rw [h1]
    constructor
    · rintro ⟨_, h⟩ i hi; exact h _ (mem_edges.2 ⟨i, hi, rfl⟩)
    · intro h
      refine ⟨by omega, fun e he => ?_⟩
      obtain ⟨i, hi, rfl⟩ := mem_edges.1 he
      exact h i hi
  have e2 : 0 ≤ m ↔ clo l p := by
    rw [h2]
    constructor
    · rintro ⟨_, h⟩ i hi; exact h _ (mem_edges.2 ⟨i, hi, rfl⟩)
    · intro h
      refine ⟨by omega, fun e he => ?_⟩
      obtain ⟨i, hi, rfl⟩ := mem_edges.1 he
      exact h i hi
  unfold sd
  rw [← e1, ← e2]
  split
  · rw [if_neg (by omega), if_neg (by omega)]
  · split
    · rfl
    · rw [if_pos (by omega)]
theorem VP.sml {l : List Pt} (h : VP l) : ∀ p ∈ l, Sml p := fun p hp => (h.on p hp).sml
theorem inside_eq {N : Nat} (hN : 100 ≤ N) {l : List Pt} (h : VP l) (p : Pt) : D_plane_Inside N l p.1 p.2 = some (if On p then sd l p else -1) := by
  unfold D_plane_Inside
  rw [valid_t hN h, bS, isOff_eq, gd_of (fun _ => Option.isSome_some), Option.getD_some]
  by_cases ho : On p
  · rw [decide_eq_true ho, cF' _ (by rfl), side_eq N (by have := h.l8; omega) h.sml ho.sml, bS, if_pos ho]
  · rw [decide_eq_false ho, cT' _ (by rfl), if_neg ho]
/-! ### Each element changed -/
theorem set_step {f : Pt → Pt} {l : List Pt} {i : Nat} (hi : i < l.length) (v : Pt) : ((l.take i).map f ++ l.drop i).set i v = (l.take i).map f ++ v :: l.drop (i + 1) := by
  have e : ((l.take i).map f).length = i := by simp; omega
  rw [drop_pa hi, List.set_append_right _ _ (by omega), e, Nat.sub_self, List.set_cons_zero]
theorem set_step2 {f : Pt → Pt} {l : List Pt} {i : Nat} (hi : i < l.length) (u v : Pt) : ((l.take i).map f ++ u :: l.drop (i + 1)).set i v = (l.take i).map f ++ v :: l.drop (i + 1) := by
  have e : ((l.take i).map f).length = i := by simp; omega
  rw [List.set_append_right _ _ (by omega), e, Nat.sub_self, List.set_cons_zero]
theorem nth_step {f : Pt → Pt} {l R : List Pt} {i : Nat} (hi : i < l.length) (u : Pt) : nth ((l.take i).map f ++ u :: R) (i : Int) = some u := by
  have e : ((l.take i).map f).length = i := by simp; omega
  rw [nth_nat, List.getElem?_append_right (by omega), e, Nat.sub_self]; rfl
theorem fin_step {f : Pt → Pt} {l : List Pt} {i : Nat} (hi : i < l.length) : (l.take i).map f ++ f (pa l i) :: l.drop (i + 1) = (l.take (i + 1)).map f ++ l.drop (i + 1) := by
  rw [List.take_succ_eq_append_getElem hi, List.map_append, List.map_singleton, ← pa_get hi, List.append_assoc]; rfl
def dbl (p : Pt) : Pt := (p.1 * 2, p.2 * 2)
theorem cell_loop (N : Nat) {l : List Pt} (hl : l.length ≤ 1000) (hs : ∀ p ∈ l, Sml p) : ∀ (n i : Nat), i ≤ l.length → l.length < n + i → D_plane_Cell_L1 N l n i ((l.take i).map dbl ++ l.drop i) = some (l.map dbl)
  | 0, i, hi, hn => by omega
  | n + 1, i, hi, hn => by
    rw [D_plane_Cell_L1]
    by_cases he : i = l.length
    · subst he
      rw [dge, cF, List.drop_length, List.take_length, List.append_nil]
    have hi' : i < l.length := by omega
    have hp := hs _ (pa_mem hi')
    unfold Sml at hp
    have e1 : nth ((l.take i).map dbl ++ l.drop i) (i : Int) = some ((pa l i).1, (pa l i).2) := by rw [drop_pa hi', nth_step hi']
    rw [dlt hi', cT, e1, bS]
    simp only
    rw [gd_of (by unfold I64; omega), Int.toNat_natCast, set_step hi', nth_step hi', bS]
    simp only
    rw [gd_of (by unfold I64; omega), gd_of (by unfold I64; omega), set_step2 hi', ← ns, show ((pa l i).1 * 2, (pa l i).2 * 2) = dbl (pa l i) from rfl, fin_step hi']
    exact cell_loop N hl hs n (i + 1) (by omega) (by omega)
theorem cell_eq {N : Nat} (hN : 100 ≤ N) {l : List Pt} (h : VP l) (p : Pt) : D_plane_Cell N l p.1 p.2 = some (if (0 ≤ p.1 ∧ p.1 < 40) ∧ 0 ≤ p.2 ∧ p.2 < 40 then sd (l.map dbl) (2 * p.1 + 1, 2 * p.2 + 1) else -1) := by
  unfold D_plane_Cell
  have l3 := h.l3
  have l8 := h.l8
  rw [valid_t hN h, bS]
  by_cases ho : (0 ≤ p.1 ∧ p.1 < 40) ∧ 0 ≤ p.2 ∧ p.2 < 40
  · rw [if_pos ho, cF' _ (by simp; omega), gd_of (by rintro rfl; simp at l3), gd_of (by omega)]
    have hc := cell_loop N (by omega) h.sml N 0 (by omega) (by omega)
    rw [show ((0 : Nat) : Int) = 0 from rfl, List.drop_zero, List.take_zero, List.map_nil, List.nil_append] at hc
    rw [hc, bS, gd_of (by unfold I64; omega), gd_of (by unfold I64; omega), gd_of (by unfold I64; omega), gd_of (by unfold I64; omega)]
    have := side_eq N (l := l.map dbl) (p := (2 * p.1 + 1, 2 * p.2 + 1)) (by simp; omega) (fun q hq => by
      obtain ⟨r, hr, rfl⟩ := List.mem_map.1 hq
      have := h.on r hr
      unfold On at this
      unfold Sml dbl; omega) (by unfold Sml; omega)
    simp only at this
    rw [this, bS]
  · rw [if_neg ho, cT' _ (by simp; omega)]
theorem VP.ne {l : List Pt} (h : VP l) {i : Nat} (hi : i < l.length) : pa l i ≠ pa l ((i + 1) % l.length) := fun e => by
  have l3 := h.l3
  obtain ⟨k, hk, n1, n2⟩ : ∃ k, k < l.length ∧ k ≠ i ∧ k ≠ (i + 1) % l.length := by
    by_cases h0 : 0 ≠ i ∧ 0 ≠ (i + 1) % l.length
    · exact ⟨0, by omega, h0.1, h0.2⟩
    by_cases h1 : 1 ≠ i ∧ 1 ≠ (i + 1) % l.length
    · exact ⟨1, by omega, h1.1, h1.2⟩
    exact ⟨2, by omega, by omega, by omega⟩
  have := h.cv i k hi hk n1 n2
  rw [← e, trn_self0] at this
  omega
theorem pa_map {f : Pt → Pt} {l : List Pt} {i : Nat} (h : i < l.length) : pa (l.map f) i = f (pa l i) := by
  rw [pa_get (by simpa using h), List.getElem_map, pa_get h]
/-- What is in the middle of four places that are not outside is inside. -/
theorem cell_inn {l : List Pt} (h : VP l) {x y : Int} (h1 : clo l (x, y)) (h2 : clo l (x + 1, y)) (h3 : clo l (x, y + 1)) (h4 : clo l (x + 1, y + 1)) : inn (l.map dbl) (2 * x + 1, 2 * y + 1) := by
  intro i hi
  rw [List.length_map] at hi
  have hm : (i + 1) % l.length < l.length := Nat.mod_lt _ (by omega)
  have k1 := h1 i hi
  have k2 := h2 i hi
  have k3 := h3 i hi
  have k4 := h4 i hi
  have hne := h.ne hi
  unfold E at *
  rw [List.length_map, pa_map hi, pa_map hm]
  generalize pa l i = a at *
  generalize pa l ((i + 1) % l.length) = b at *
  have e : trn (dbl a) (dbl b) (2 * x + 1, 2 * y + 1) = trn a b (x, y) + trn a b (x + 1, y) + trn a b (x, y + 1) + trn a b (x + 1, y + 1) := by
    unfold trn dbl; grind
  rw [e]
  have d1 : trn a b (x + 1, y) = trn a b (x, y) - (b.2 - a.2) := by unfold trn; grind
  have d2 : trn a b (x, y + 1) = trn a b (x, y) + (b.1 - a.1) := by unfold trn; grind
  have d3 : trn a b (x + 1, y + 1) = trn a b (x, y) + (b.1 - a.1) - (b.2 - a.2) := by unfold trn; grind
  have : ¬ (b.1 - a.1 = 0 ∧ b.2 - a.2 = 0) := fun q => hne (Prod.ext (by omega) (by omega))
  omega
end Go.Proofs.Ytojciffnkbfbhaa.Am
