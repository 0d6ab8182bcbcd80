import Derived.Test.YtdabfcbelkjmgaaDoorU1
import Derived.Test.YtdabfcbelkjmgaaDoorM1
import Derived.Test.YtdabfcbelkjmgaaDoorL1
/-
  UnitGravity.
-/
namespace Go.Proofs.YtdabfcbelkjmgaaDoor.Am
set_option linter.unusedSimpArgs false
set_option linter.unusedVariables false
theorem trn_cyc (a b c : Pt) : trn a b c = trn b c a := by unfold trn; grind
/-- An edge and the first corner: to its left, or on it. -/
theorem edge0_nn {l : List Pt} (h : VP l) {i : Nat} (hi : i < l.length) : 0 ≤ trn (pa l 0) (pa l i) (pa l ((i + 1) % l.length)) := by
  have h3 := h.l3
  rw [trn_cyc]
  by_cases e1 : i = 0
  · subst e1
    unfold trn; grind
  by_cases e2 : 0 = (i + 1) % l.length
  · rw [← e2]; unfold trn; grind
  · exact Int.le_of_lt (h.cv i 0 hi (by omega) (fun e => e1 e.symm) e2)
theorem edge0_pos {l : List Pt} (h : VP l) : 0 < trn (pa l 0) (pa l 1) (pa l ((1 + 1) % l.length)) := by
  have h3 := h.l3
  rw [trn_cyc]
  refine h.cv 1 0 (by omega) (by omega) (by omega) ?_
  rw [Nat.mod_eq_of_lt (by omega)]
  omega
/-- Of a triangle that is not flat, the corners are not all at the edge of a strip. -/
theorem strip {o u v : Pt} {m : Int} (ho : m ≤ o.1) (hu : m ≤ u.1) (hv : m ≤ v.1) (h : 0 ≤ trn o u v) : 3 * m * trn o u v + trn o u v ≤ trn o u v * (o.1 + u.1 + v.1) := by
  rcases Int.lt_or_eq_of_le h with hp | he
  · have : 3 * m + 1 ≤ o.1 + u.1 + v.1 := by
      by_cases e : o.1 = m ∧ u.1 = m ∧ v.1 = m
      · exfalso
        obtain ⟨e1, e2, e3⟩ := e
        unfold trn at hp
        rw [e1, e2, e3] at hp
        simp at hp
      · omega
    have h2 : 0 ≤ trn o u v * (o.1 + u.1 + v.1 - (3 * m + 1)) := Int.mul_nonneg h (by omega)
    grind
  · rw [← he]; simp
theorem strip' {o u v : Pt} {m : Int} (ho : o.1 ≤ m) (hu : u.1 ≤ m) (hv : v.1 ≤ m) (h : 0 ≤ trn o u v) : trn o u v * (o.1 + u.1 + v.1) ≤ 3 * m * trn o u v - trn o u v := by
  rcases Int.lt_or_eq_of_le h with hp | he
  · have : o.1 + u.1 + v.1 ≤ 3 * m - 1 := by
      by_cases e : o.1 = m ∧ u.1 = m ∧ v.1 = m
      · exfalso
        obtain ⟨e1, e2, e3⟩ := e
        unfold trn at hp
        rw [e1, e2, e3] at hp
        simp at hp
      · omega
    have h2 : 0 ≤ trn o u v * (3 * m - 1 - (o.1 + u.1 + v.1)) := Int.mul_nonneg h (by omega)
    grind
  · rw [← he]; simp
theorem sum_le {α : Type} {f g : α → Int} : ∀ {xs : List α}, (∀ x ∈ xs, f x ≤ g x) → (xs.map f).sum ≤ (xs.map g).sum
  | [], _ => by simp
  | x :: xs, h => by
    have h1 := h x (by simp)
    have h2 := sum_le (xs := xs) fun y hy => h y (by simp [hy])
    simp only [List.map_cons, List.sum_cons]
    omega
theorem sum_zero {α : Type} : ∀ xs : List α, (xs.map fun _ => (0 : Int)).sum = 0
  | [] => rfl
  | x :: xs => by rw [List.map_cons, List.sum_cons, sum_zero xs]; rfl
theorem sum_lin {α : Type} (c : Int) (f : α → Int) : ∀ xs : List α, (xs.map fun x => c * f x).sum = c * (xs.map f).sum
  | [] => by simp
  | x :: xs => by simp only [List.map_cons, List.sum_cons, sum_lin c f xs, Int.mul_add]
theorem edge_mem {l : List Pt} {e : Pt × Pt} (he : e ∈ edgesL l) : ∃ i, i < l.length ∧ e = (pa l i, pa l ((i + 1) % l.length)) := by
  unfold edgesL at he
  obtain ⟨i, hi, rfl⟩ := List.mem_map.1 he
  exact ⟨i, by simpa using hi, rfl⟩
theorem area_pos {l : List Pt} (h : VP l) : 0 < areaS l := by
  have h3 := h.l3
  unfold areaS
  have key : ∀ (xs : List (Pt × Pt)) (e : Pt × Pt), e ∈ xs → (∀ x ∈ xs, 0 ≤ arE (pa l 0) x) → arE (pa l 0) e ≤ (xs.map (arE (pa l 0))).sum := by
    intro xs
    induction xs with
    | nil => intro e he; cases he
    | cons x xs ih =>
      intro e he hall
      have h1 := hall x (by simp)
      have h2 := sum_le (f := fun _ => (0 : Int)) (g := arE (pa l 0)) (xs := xs) fun y hy => hall y (by simp [hy])
      have h0 : (xs.map fun _ => (0 : Int)).sum = 0 := sum_zero xs
      rw [h0] at h2
      simp only [List.map_cons, List.sum_cons]
      rcases List.mem_cons.1 he with rfl | he
      · omega
      · have := ih e he fun y hy => hall y (by simp [hy])
        omega
  have hm : (pa l 1, pa l ((1 + 1) % l.length)) ∈ edgesL l := List.mem_of_getElem? (edgesL_get (i := 1) (by omega))
  have := key _ _ hm fun e he => by
    obtain ⟨i, hi, rfl⟩ := edge_mem he
    exact edge0_nn h hi
  have hp := edge0_pos h
  unfold arE at this
  simp only at this
  unfold arE
  omega
theorem momX_lo {l : List Pt} (h : VP l) {m : Int} (hm : ∀ p ∈ l, m ≤ p.1) : (3 * m + 1) * areaS l ≤ momX l := by
  have h3 := h.l3
  unfold areaS momX
  rw [← sum_lin]
  refine sum_le fun e he => ?_
  obtain ⟨i, hi, rfl⟩ := edge_mem he
  have := strip (hm _ (pa_mem (l := l) (i := 0) (by omega))) (hm _ (pa_mem hi)) (hm _ (pa_mem (Nat.mod_lt _ (by omega)))) (edge0_nn h hi)
  unfold arE mxE
  simp only
  grind
theorem momX_hi {l : List Pt} (h : VP l) {m : Int} (hm : ∀ p ∈ l, p.1 ≤ m) : momX l ≤ (3 * m - 1) * areaS l := by
  have h3 := h.l3
  unfold areaS momX
  rw [← sum_lin]
  refine sum_le fun e he => ?_
  obtain ⟨i, hi, rfl⟩ := edge_mem he
  have := strip' (hm _ (pa_mem (l := l) (i := 0) (by omega))) (hm _ (pa_mem hi)) (hm _ (pa_mem (Nat.mod_lt _ (by omega)))) (edge0_nn h hi)
  unfold arE mxE
  simp only
  grind
theorem grav_loop (N : Nat) (l : List Pt) (hl : l.length ≤ 1000) (ho : ∀ p ∈ l, On p) : ∀ (n i : Nat) (u v : Int), i ≤ l.length → l.length < n + i → 0 ≤ u → v ≤ 40 → ∃ u' v', D_putloglaw08_UnitGravity_L1 N l n u v i = some (u', v') ∧ (0 ≤ u' ∧ u' ≤ u) ∧ (v ≤ v' ∧ v' ≤ 40) ∧ ∀ j, i ≤ j → j < l.length → u' ≤ (pa l j).1 ∧ (pa l j).1 ≤ v'
  | 0, i, u, v, hi, hn, _, _ => by omega
  | n + 1, i, u, v, hi, hn, hu, hv => by
    rw [D_putloglaw08_UnitGravity_L1]
    by_cases he : i = l.length
    · subst he
      rw [dge, cF]
      exact ⟨u, v, rfl, ⟨hu, Int.le_refl _⟩, ⟨Int.le_refl _, hv⟩, fun j h1 h2 => by omega⟩
    have hi' : i < l.length := by omega
    have hon := ho _ (pa_mem hi')
    unfold On at hon
    rw [dlt hi', cT, nth_pa hi', bS]
    simp only
    rw [gd_of (by unfold I64; omega), ← ns]
    obtain ⟨u', v', e, h1, h2, h3⟩ := grav_loop N l hl ho n (i + 1) (min u (pa l i).1) (max v (pa l i).1) (by omega) (by omega) (by omega) (by omega)
    refine ⟨u', v', e, by omega, by omega, fun j hj hl => ?_⟩
    by_cases hji : j = i
    · subst hji; omega
    · exact h3 j (by omega) hl

theorem pureGravity (x y : List Pt) (how p0 p1 p2 p3 : Int) (hx : In2 x) (hy : In2 y) (h0 : I64 how) (g0 : I64 p0) (g1 : I64 p1) (g2 : I64 p2) (g3 : I64 p3) : D_putloglaw08_UnitGravity 2000 x y how p0 p1 p2 p3 = some true := by
  unfold D_putloglaw08_UnitGravity
  obtain ⟨a, b, c, l, p, q, a', b', c', l', p', q', e, u, u'⟩ := pair8_ok (N := 2000) (by omega) (by omega) hx hy h0 g0 g1 g2 g3 g0 g1 g2 g3
  have hsane : D_putloglaw08_sane 2000 = some true := by decide +kernel
  have l3 := u.l.l3
  have l8 := u.l.l8
  have hd := u.d
  have hc := den_bd u.c
  obtain ⟨m, M, eL, q1, q2, q3⟩ := grav_loop 2000 l (by omega) u.l.on 2000 0 40 0 (by omega) (by omega) (by omega) (by omega)
  rw [Int.natCast_zero] at eL
  rw [hsane, bS, cF' _ (by rfl), e, bS]
  simp only
  rw [eL, bS]
  simp only
  rw [weight_eq (by omega) u, bS, moment_eq (by omega) u, bS]
  have hlo := momX_lo u.l (m := m) fun p hp => by obtain ⟨j, hj, rfl⟩ := pa_of hp; exact (q3 j (by omega) hj).1
  have hhi := momX_hi u.l (m := M) fun p hp => by obtain ⟨j, hj, rfl⟩ := pa_of hp; exact (q3 j (by omega) hj).2
  have ha := area_pos u.l
  have hab := area_b u.l
  -- depth and density
  obtain ⟨d, hdd⟩ : ∃ d, q - p = d := ⟨_, rfl⟩
  rw [hdd]
  have d1 : 1 ≤ d ∧ d ≤ 8 := by omega
  obtain ⟨k, hk⟩ : ∃ k, den c = k := ⟨_, rfl⟩
  rw [hk] at hc ⊢
  obtain ⟨A, hA⟩ : ∃ A, areaS l = A := ⟨_, rfl⟩
  obtain ⟨X, hX⟩ : ∃ X, momX l = X := ⟨_, rfl⟩
  rw [hA] at ha hab hlo hhi ⊢
  rw [hX] at hlo hhi ⊢
  have dk : 1 ≤ d * k := by
    have : 0 ≤ (d - 1) * k := Int.mul_nonneg (by omega) (by omega)
    rw [Int.sub_mul] at this
    omega
  have hw : 0 < 3 * (A * d) * k := by
    have h1 : 0 ≤ (A - 1) * (d * k) := Int.mul_nonneg (by omega) (by omega)
    have h2 : 3 * (A * d) * k = 3 * (A * (d * k)) := by grind
    rw [h2]
    rw [Int.sub_mul] at h1
    omega
  have hwb : 3 * (A * d) * k ≤ 4000000000 := by
    have h1 := mul_bd hab (y := d) (B := 8) (by omega) (by omega)
    have h2 := mul_bd (x := 3 * (A * d)) (A := 400000000) (y := k) (B := 10) (by omega) (by omega) (by omega)
    omega
  have hl1 : m * (3 * (A * d) * k) < X * d * k := by
    have h1 : 0 ≤ (X - (3 * m + 1) * A) * (d * k) := Int.mul_nonneg (by omega) (by omega)
    have h2 : 0 ≤ (A - 1) * (d * k) := Int.mul_nonneg (by omega) (by omega)
    have h3 : m * (3 * (A * d) * k) = 3 * m * A * (d * k) := by grind
    have h4 : X * d * k = X * (d * k) := by grind
    have h5 : (X - (3 * m + 1) * A) * (d * k) = X * (d * k) - 3 * m * A * (d * k) - A * (d * k) := by grind
    rw [Int.sub_mul] at h2
    rw [h3, h4]
    omega
  have hl2 : X * d * k < M * (3 * (A * d) * k) := by
    have h1 : 0 ≤ ((3 * M - 1) * A - X) * (d * k) := Int.mul_nonneg (by omega) (by omega)
    have h2 : 0 ≤ (A - 1) * (d * k) := Int.mul_nonneg (by omega) (by omega)
    have h3 : M * (3 * (A * d) * k) = 3 * M * A * (d * k) := by grind
    have h4 : X * d * k = X * (d * k) := by grind
    have h5 : ((3 * M - 1) * A - X) * (d * k) = 3 * M * A * (d * k) - A * (d * k) - X * (d * k) := by grind
    rw [Int.sub_mul] at h2
    rw [h3, h4]
    omega
  have b1 := mul_bd (x := m) (A := 40) (y := 3 * (A * d) * k) (B := 4000000000) (by omega) (by omega) (by omega)
  have b2 := mul_bd (x := M) (A := 40) (y := 3 * (A * d) * k) (B := 4000000000) (by omega) (by omega) (by omega)
  rw [gd_t (fun _ => by unfold I64; omega), gd_t (fun _ => by unfold I64; omega), decide_eq_true hw, decide_eq_true hl1, decide_eq_true hl2]
  rfl
end Go.Proofs.YtdabfcbelkjmgaaDoor.Am
