import Derived.Test.YtdabfcbelkjmgaaDoorM4
/-
  Plain laws: areas, moments, places on the boundary.
-/
namespace Go.Proofs.YtdabfcbelkjmgaaDoor.Am
set_option linter.unusedSimpArgs false
set_option linter.unusedVariables false
def EdS (es : List (Pt × Pt)) : Prop := ∀ e ∈ es, Sml e.1 ∧ Sml e.2
theorem EdS.tl {e : Pt × Pt} {es : List (Pt × Pt)} (h : EdS (e :: es)) : EdS es := fun x hx => h x (by simp [hx])
def arE (o : Pt) (e : Pt × Pt) : Int := trn o e.1 e.2
def mxE (o : Pt) (e : Pt × Pt) : Int := trn o e.1 e.2 * (o.1 + e.1.1 + e.2.1)
def myE (o : Pt) (e : Pt × Pt) : Int := trn o e.1 e.2 * (o.2 + e.1.2 + e.2.2)
def gcE (e : Pt × Pt) : Int := (Int.gcd (e.2.1 - e.1.1) (e.2.2 - e.1.2) : Int)
def areaS (l : List Pt) : Int := ((edgesL l).map (arE (pa l 0))).sum
def momX (l : List Pt) : Int := ((edgesL l).map (mxE (pa l 0))).sum
def momY (l : List Pt) : Int := ((edgesL l).map (myE (pa l 0))).sum
def bdS (l : List Pt) : Int := ((edgesL l).map gcE).sum
theorem mulc {x y : Int} (hx : -2000000 ≤ x ∧ x ≤ 2000000) (hy : -1300 ≤ y ∧ y ≤ 1300) : -2600000000 ≤ x * y ∧ x * y ≤ 2600000000 := by
  have h1 : 0 ≤ (2000000 - x) * (1300 + y) := Int.mul_nonneg (by omega) (by omega)
  have h2 : 0 ≤ (2000000 + x) * (1300 - y) := Int.mul_nonneg (by omega) (by omega)
  have h3 : 0 ≤ (2000000 + x) * (1300 + y) := Int.mul_nonneg (by omega) (by omega)
  have h4 : 0 ≤ (2000000 - x) * (1300 - y) := Int.mul_nonneg (by omega) (by omega)
  constructor <;> grind
theorem arE_b {o : Pt} {e : Pt × Pt} (ho : Sml o) (h : Sml e.1 ∧ Sml e.2) : -2000000 ≤ arE o e ∧ arE o e ≤ 2000000 := trn_b ho h.1 h.2
theorem mxE_b {o : Pt} {e : Pt × Pt} (ho : Sml o) (h : Sml e.1 ∧ Sml e.2) : -2600000000 ≤ mxE o e ∧ mxE o e ≤ 2600000000 := by
  have := trn_b ho h.1 h.2
  obtain ⟨h1, h2⟩ := h
  unfold Sml at *
  exact mulc this (by omega)
theorem myE_b {o : Pt} {e : Pt × Pt} (ho : Sml o) (h : Sml e.1 ∧ Sml e.2) : -2600000000 ≤ myE o e ∧ myE o e ≤ 2600000000 := by
  have := trn_b ho h.1 h.2
  obtain ⟨h1, h2⟩ := h
  unfold Sml at *
  exact mulc this (by omega)
theorem area_loop (N : Nat) {l : List Pt} (hl : 0 < l.length) (hs : ∀ p ∈ l, Sml p) : ∀ (es : List (Pt × Pt)) (k : Nat) (o : Int), EdS es → k + es.length ≤ 1000 → (-3000000 * k ≤ o ∧ o ≤ 3000000 * k) → D_plane_Area2_L1 N l es o = some (o + (es.map (arE (pa l 0))).sum)
  | [], k, o, h, hk, hb => by simp [D_plane_Area2_L1]
  | e :: es, k, o, h, hk, hb => by
    have he := h e (by simp)
    have ho := hs _ (pa_mem hl)
    have b := arE_b ho he
    rw [show e = ((e.1.1, e.1.2), (e.2.1, e.2.2)) from rfl, D_plane_Area2_L1, show nth l 0 = some ((pa l 0).1, (pa l 0).2) from nth_pa (i := 0) hl, bS]
    simp only
    simp only [List.length_cons] at hk
    rw [turn_eq ho he.1 he.2, bS, gd_of (by unfold I64; unfold arE at b; omega), area_loop N hl hs es (k + 1) _ h.tl (by omega) (by unfold arE at b; omega), List.map_cons, List.sum_cons, Int.add_assoc]
    rfl
theorem area_eq {N : Nat} (hN : 100 ≤ N) {l : List Pt} (h : VP l) : D_plane_Area2 N l = some (areaS l) := by
  unfold D_plane_Area2
  have l3 := h.l3
  have l8 := h.l8
  have := area_loop N (l := l) (by omega) h.sml (edgesL l) 0 0 (edges_sml h.sml) (by rw [edgesL_len]; omega) (by omega)
  rw [valid_t hN h, bS, cF' _ (by rfl), gd_of (by omega), this, bS, Int.zero_add]
  rfl
theorem mom_loop (N : Nat) {l : List Pt} (hl : 0 < l.length) (hs : ∀ p ∈ l, Sml p) : ∀ (es : List (Pt × Pt)) (k : Nat) (u v : Int), EdS es → k + es.length ≤ 1000 → (-3000000000 * k ≤ u ∧ u ≤ 3000000000 * k) → (-3000000000 * k ≤ v ∧ v ≤ 3000000000 * k) →
    D_plane_Moments_L1 N l es u v = some (u + (es.map (myE (pa l 0))).sum, v + (es.map (mxE (pa l 0))).sum)
  | [], k, u, v, h, hk, h1, h2 => by simp [D_plane_Moments_L1]
  | e :: es, k, u, v, h, hk, h1, h2 => by
    have he := h e (by simp)
    have ho := hs _ (pa_mem hl)
    have b1 := mxE_b ho he
    have b2 := myE_b ho he
    have tb := trn_b ho he.1 he.2
    have ho' := ho
    obtain ⟨he1, he2⟩ := he
    rw [show e = ((e.1.1, e.1.2), (e.2.1, e.2.2)) from rfl, D_plane_Moments_L1, show nth l 0 = some ((pa l 0).1, (pa l 0).2) from nth_pa (i := 0) hl, bS]
    simp only
    simp only [List.length_cons] at hk
    rw [turn_eq ho he1 he2, bS]
    unfold Sml at ho' he1 he2
    have c1 : trn (pa l 0) e.1 e.2 * (((pa l 0).1 + e.1.1) + e.2.1) = mxE (pa l 0) e := rfl
    have c2 : trn (pa l 0) e.1 e.2 * (((pa l 0).2 + e.1.2) + e.2.2) = myE (pa l 0) e := rfl
    rw [c1, c2, gd_of (by unfold I64; omega), gd_of (by unfold I64; omega), gd_of (by unfold I64; omega), gd_of (by unfold I64; omega), gd_of (by unfold I64; omega), gd_of (by unfold I64; omega), gd_of (by unfold I64; omega), gd_of (by unfold I64; omega),
      mom_loop N hl hs es (k + 1) _ _ h.tl (by omega) (by omega) (by omega)]
    rw [show ((e.1.1, e.1.2), (e.2.1, e.2.2)) = e from rfl, List.map_cons, List.sum_cons, List.map_cons, List.sum_cons, Int.add_assoc, Int.add_assoc]
theorem mom_eq {N : Nat} (hN : 100 ≤ N) {l : List Pt} (h : VP l) : D_plane_Moments N l = some (momX l, momY l) := by
  unfold D_plane_Moments
  have l3 := h.l3
  have l8 := h.l8
  have := mom_loop N (l := l) (by omega) h.sml (edgesL l) 0 0 0 (edges_sml h.sml) (by rw [edgesL_len]; omega) (by omega) (by omega)
  rw [valid_t hN h, bS, cF' _ (by rfl), gd_of (by omega), this, bS, Int.zero_add, Int.zero_add]
  rfl
theorem gcd_b {a b : Int} (hb : b ≠ 0 ∨ a ≠ 0) : (Int.gcd a b : Int) ≤ a.natAbs + b.natAbs := by
  have h1 : Int.gcd a b ∣ a.natAbs := Nat.gcd_dvd_left _ _
  have h2 : Int.gcd a b ∣ b.natAbs := Nat.gcd_dvd_right _ _
  rcases hb with h | h
  · have := Nat.le_of_dvd (by omega) h2; omega
  · have := Nat.le_of_dvd (by omega) h1; omega
theorem gcd_le (a b : Int) : Int.gcd a b ≤ a.natAbs + b.natAbs := by
  by_cases h : b ≠ 0 ∨ a ≠ 0
  · have := gcd_b h; omega
  · have h1 : a = 0 := by omega
    have h2 : b = 0 := by omega
    subst h1; subst h2; simp
theorem gcE_b {e : Pt × Pt} (h : Sml e.1 ∧ Sml e.2) : 0 ≤ gcE e ∧ gcE e ≤ 1600 := by
  have := gcd_le (e.2.1 - e.1.1) (e.2.2 - e.1.2)
  obtain ⟨h1, h2⟩ := h
  unfold Sml at *
  unfold gcE
  omega
theorem sum_b {α : Type} (f : α → Int) (B : Int) : ∀ (es : List α), (∀ e ∈ es, -B ≤ f e ∧ f e ≤ B) → -B * es.length ≤ (es.map f).sum ∧ (es.map f).sum ≤ B * es.length
  | [], _ => by simp
  | e :: es, h => by
    have h1 := h e (by simp)
    have h2 := sum_b f B es fun x hx => h x (by simp [hx])
    simp only [List.map_cons, List.sum_cons, List.length_cons, ns]
    rw [Int.mul_add, Int.mul_add]
    omega
theorem area_b {l : List Pt} (h : VP l) : -16000000 ≤ areaS l ∧ areaS l ≤ 16000000 := by
  have l3 := h.l3
  have l8 := h.l8
  have := sum_b (arE (pa l 0)) 2000000 (edgesL l) fun e he => by
    have := arE_b (h.sml _ (pa_mem (i := 0) (by omega))) (edges_sml h.sml e he)
    omega
  rw [edgesL_len] at this
  unfold areaS
  omega
theorem mom_b {l : List Pt} (h : VP l) : (-20800000000 ≤ momX l ∧ momX l ≤ 20800000000) ∧ -20800000000 ≤ momY l ∧ momY l ≤ 20800000000 := by
  have l3 := h.l3
  have l8 := h.l8
  have h1 := sum_b (mxE (pa l 0)) 2600000000 (edgesL l) fun e he => by
    have := mxE_b (h.sml _ (pa_mem (i := 0) (by omega))) (edges_sml h.sml e he)
    omega
  have h2 := sum_b (myE (pa l 0)) 2600000000 (edgesL l) fun e he => by
    have := myE_b (h.sml _ (pa_mem (i := 0) (by omega))) (edges_sml h.sml e he)
    omega
  rw [edgesL_len] at h1 h2
  unfold momX momY
  omega
theorem bd_b {l : List Pt} (h : VP l) : -12800 ≤ bdS l ∧ bdS l ≤ 12800 := by
  have l8 := h.l8
  have := sum_b gcE 1600 (edgesL l) fun e he => by
    have := gcE_b (edges_sml h.sml e he)
    omega
  rw [edgesL_len] at this
  unfold bdS
  omega
theorem tdiv_small {n : Int} (h : -1000000000 ≤ n ∧ n ≤ 1000000000) : I64 (n.tdiv 2) := by
  have := Int.mul_tdiv_add_tmod n 2
  have h1 := Int.tmod_lt_of_pos n (b := 2) (by omega)
  have h2 := Int.lt_tmod_of_pos n (b := 2) (by omega)
  unfold I64; omega
end Go.Proofs.YtdabfcbelkjmgaaDoor.Am
