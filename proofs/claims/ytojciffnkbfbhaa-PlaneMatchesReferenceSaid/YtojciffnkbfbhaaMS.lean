import Derived.Test.YtojciffnkbfbhaaMN
import Derived.Test.YtojciffnkbfbhaaDR
import Derived.Test.YtojciffnkbfbhaaMB
/-
  Plain laws: the references of one polygon agree with plane's functions.
-/
namespace Go.Proofs.Ytojciffnkbfbhaa.Am
set_option linter.unusedSimpArgs false
set_option linter.unusedVariables false
/-! ### where -/
theorem where_loop (N : Nat) {l : List Pt} (hl : l.length ≤ 1000) (hs : ∀ p ∈ l, Sml p) {p : Pt} (hp : Sml p) : ∀ (n i : Nat) (out : Int), i ≤ l.length → l.length < n + i →
    (∃ j, i ≤ j ∧ j < l.length ∧ E l j p < 0 ∧ D_putlogref07_where_L1 N l p.1 p.2 n out i = some (.inr (-1))) ∨ ((∀ j, i ≤ j → j < l.length → 0 < E l j p) ∧ D_putlogref07_where_L1 N l p.1 p.2 n out i = some (.inl out)) ∨ ((∀ j, i ≤ j → j < l.length → 0 ≤ E l j p) ∧ (∃ j, i ≤ j ∧ j < l.length ∧ E l j p = 0) ∧ D_putlogref07_where_L1 N l p.1 p.2 n out i = some (.inl 0))
  | 0, i, out, h1, h2 => by omega
  | n + 1, i, out, h1, h2 => by
    rw [D_putlogref07_where_L1]
    by_cases he : i = l.length
    · subst he
      rw [dge, cF]
      exact .inr (.inl ⟨fun j a b => by omega, rfl⟩)
    have hi : i < l.length := by omega
    have hm : (i + 1) % l.length < l.length := Nat.mod_lt _ (by omega)
    rw [dlt hi, cT, nth_pa hi, bS]
    simp only
    rw [rend_eq N hl hi, show pa l ((i + 1) % l.length) = ((pa l ((i + 1) % l.length)).1, (pa l ((i + 1) % l.length)).2) from rfl, bS]
    simp only
    rw [rturn_eq (hs _ (pa_mem hi)) (hs _ (pa_mem hm)) hp, bS, show trn (pa l i) (pa l ((i + 1) % l.length)) p = E l i p from rfl]
    by_cases c1 : E l i p < 0
    · rw [decide_eq_true c1, cT]
      exact .inl ⟨i, Nat.le_refl _, hi, c1, rfl⟩
    rw [decide_eq_false c1, cF]
    by_cases c2 : E l i p = 0
    · rw [decide_eq_true c2, cT, gd_of (by unfold I64; omega), ← ns]
      rcases where_loop N hl hs hp n (i + 1) 0 (by omega) (by omega) with ⟨j, a, b, c, d⟩ | ⟨a, b⟩ | ⟨a, ⟨j, b, c, d⟩, e⟩
      · exact .inl ⟨j, by omega, b, c, d⟩
      · refine .inr (.inr ⟨fun j h1 h2 => ?_, ⟨i, Nat.le_refl _, hi, c2⟩, b⟩)
        by_cases q : j = i
        · rw [q]; omega
        · exact Int.le_of_lt (a j (by omega) h2)
      · refine .inr (.inr ⟨fun j h1 h2 => ?_, ⟨i, Nat.le_refl _, hi, c2⟩, e⟩)
        by_cases q : j = i
        · rw [q]; omega
        · exact a j (by omega) h2
    · rw [decide_eq_false c2, cF, gd_of (by unfold I64; omega), ← ns]
      rcases where_loop N hl hs hp n (i + 1) out (by omega) (by omega) with ⟨j, a, b, c, d⟩ | ⟨a, b⟩ | ⟨a, ⟨j, b, c, d⟩, e⟩
      · exact .inl ⟨j, by omega, b, c, d⟩
      · refine .inr (.inl ⟨fun j h1 h2 => ?_, b⟩)
        by_cases q : j = i
        · rw [q]; omega
        · exact a j (by omega) h2
      · refine .inr (.inr ⟨fun j h1 h2 => ?_, ⟨j, by omega, c, d⟩, e⟩)
        by_cases q : j = i
        · rw [q]; omega
        · exact a j (by omega) h2
theorem where_eq {N : Nat} {l : List Pt} (hN : l.length < N) (hl : l.length ≤ 1000) (hs : ∀ p ∈ l, Sml p) {p : Pt} (hp : Sml p) : D_putlogref07_where N l p.1 p.2 = some (sd l p) := by
  unfold D_putlogref07_where
  have := where_loop N hl hs hp N 0 1 (by omega) (by omega)
  rw [Int.natCast_zero] at this
  rcases this with ⟨j, a, b, c, d⟩ | ⟨a, b⟩ | ⟨a, ⟨j, b, c, d⟩, e⟩
  · rw [d, bS]
    simp only
    congr 1
    rcases sd_cases l p with q | q | q
    · have := (sd_1.1 q) j b; omega
    · have := (sd_0.1 q).1 j b; omega
    · exact q.symm
  · rw [b, bS]
    simp only
    rw [sd_1.2 fun i hi => a i (by omega) hi]
  · rw [e, bS]
    simp only
    rw [sd_0.2 ⟨fun i hi => a i (by omega) hi, fun q => by have := q j c; omega⟩]
theorem inside_f {N : Nat} (hN : 100 ≤ N) {l : List Pt} (h : ¬ VP l) (x y : Int) : D_plane_Inside N l x y = some (-1) ∧ D_putlogref07_Inside N l x y = some (-1) := by
  unfold D_plane_Inside D_putlogref07_Inside
  rw [valid_eq hN, rvalid_eq hN, vB_f.2 h, bS, bS, gd_of (fun q => by simp at q), gd_of (fun q => by simp at q)]
  exact ⟨by rw [cT' _ (by rfl)], by rw [cT' _ (by rfl)]⟩
theorem rinside_t {N : Nat} (hN : 100 ≤ N) {l : List Pt} (h : VP l) (p : Pt) : D_putlogref07_Inside N l p.1 p.2 = some (if On p then sd l p else -1) := by
  unfold D_putlogref07_Inside
  have l8 := h.l8
  rw [rvalid_eq hN, vB_t.2 h, bS, ron_eq, gd_of (fun _ => Option.isSome_some), Option.getD_some]
  by_cases ho : On p
  · rw [decide_eq_true ho, cF' _ (by rfl), where_eq (by omega) (by omega) h.sml ho.sml, bS, if_pos ho]
  · rw [decide_eq_false ho, cT' _ (by rfl), if_neg ho]
theorem inside_same {N : Nat} (hN : 100 ≤ N) (l : List Pt) (p : Pt) : ∃ r, D_plane_Inside N l p.1 p.2 = some r ∧ D_putlogref07_Inside N l p.1 p.2 = some r := by
  by_cases h : VP l
  · exact ⟨_, inside_eq hN h p, rinside_t hN h p⟩
  · exact ⟨-1, inside_f hN h p.1 p.2⟩
theorem rcell_loop (N : Nat) {l : List Pt} (hl : l.length ≤ 1000) (hs : ∀ p ∈ l, Sml p) : ∀ (n i : Nat) (out : List Pt), i ≤ l.length → l.length < n + i → out = (l.take i).map dbl → D_putlogref07_Cell_L2 N l n i out = some (l.map dbl)
  | 0, i, out, h1, h2, _ => by omega
  | n + 1, i, out, h1, h2, ho => by
    rw [D_putlogref07_Cell_L2]
    by_cases he : i = l.length
    · subst he
      rw [dge, cF, ho, List.take_length]
    have hi : i < l.length := by omega
    have hp := hs _ (pa_mem hi)
    have ol : out.length = i := by rw [ho]; simp; omega
    unfold Sml at hp
    rw [dlt hi, cT, nth_pa hi, bS]
    simp only
    rw [gd_of (by unfold I64; omega), gd_of (by unfold I64; omega), gd_of (by omega), gd_of (by unfold I64; omega), ← ns]
    refine rcell_loop N hl hs n (i + 1) _ (by omega) (by omega) ?_
    rw [List.take_succ_eq_append_getElem hi, List.map_append, List.map_singleton, ← pa_get hi, ho]
    unfold dbl
    rw [Int.mul_comm 2, Int.mul_comm 2]
theorem cell_same {N : Nat} (hN : 100 ≤ N) (l : List Pt) (p : Pt) : ∃ r, D_plane_Cell N l p.1 p.2 = some r ∧ D_putlogref07_Cell N l p.1 p.2 = some r := by
  by_cases h : VP l
  · refine ⟨_, cell_eq hN h p, ?_⟩
    have l8 := h.l8
    unfold D_putlogref07_Cell
    rw [rvalid_eq hN, vB_t.2 h, bS]
    by_cases ho : (0 ≤ p.1 ∧ p.1 < 40) ∧ 0 ≤ p.2 ∧ p.2 < 40
    · have hc := rcell_loop N (by omega) h.sml N 0 [] (by omega) (by omega) (by simp)
      rw [Int.natCast_zero] at hc
      have := where_eq (N := N) (l := l.map dbl) (p := (2 * p.1 + 1, 2 * p.2 + 1)) (by simp; omega) (by simp; omega) (fun q hq => by
        obtain ⟨r, hr, rfl⟩ := List.mem_map.1 hq
        have := h.on r hr
        unfold On at this
        unfold Sml dbl; omega) (by unfold Sml; omega)
      simp only at this
      rw [if_pos ho, cF' _ (by simp; omega), hc, bS, gd_of (by unfold I64; omega), gd_of (by unfold I64; omega), gd_of (by unfold I64; omega), gd_of (by unfold I64; omega), this, bS]
    · rw [if_neg ho, cT' _ (by simp; omega)]
  · unfold D_plane_Cell D_putlogref07_Cell
    rw [valid_eq hN, rvalid_eq hN, vB_f.2 h, bS, bS]
    exact ⟨-1, by rw [cT' _ (by rfl)], by rw [cT' _ (by rfl)]⟩
end Go.Proofs.Ytojciffnkbfbhaa.Am
/-
  Plain laws: sums, numbers of places, moves and sides of the references agree with plane's.
-/
namespace Go.Proofs.Ytojciffnkbfbhaa.Am
set_option linter.unusedSimpArgs false
set_option linter.unusedVariables false
theorem cs_pa (F : Pt × Pt → Int) (l : List Pt) : cs F l = rs (fun j => F (pa l j, pa l ((j + 1) % l.length))) l.length := by
  unfold cs rs edgesL
  rw [List.map_map]
  rfl
theorem on_mul {a b : Int} (ha : 0 ≤ a ∧ a ≤ 40) (hb : 0 ≤ b ∧ b ≤ 40) : 0 ≤ a * b ∧ a * b ≤ 1600 := by
  have h1 := Int.mul_nonneg ha.1 hb.1
  have h2 := Int.mul_nonneg (show 0 ≤ 40 - a by omega) hb.1
  rw [Int.sub_mul] at h2
  omega
theorem rarea_loop (N : Nat) {l : List Pt} (h : VP l) : ∀ (n i : Nat) (out : Int), i ≤ l.length → l.length < n + i → (-4000 * i ≤ out ∧ out ≤ 4000 * i) → D_putlogref07_Area2_L1 N l n out i = some (out + rs (fun t => crs (pa l (i + t)) (pa l ((i + t + 1) % l.length))) (l.length - i))
  | 0, i, out, h1, h2, hb => by omega
  | n + 1, i, out, h1, h2, hb => by
    have l8 := h.l8
    rw [D_putlogref07_Area2_L1]
    by_cases he : i = l.length
    · subst he
      rw [dge, cF, Nat.sub_self, rs_zero, Int.add_zero]
    have hi : i < l.length := by omega
    have hm : (i + 1) % l.length < l.length := Nat.mod_lt _ (by omega)
    have o1 := h.on _ (pa_mem hi)
    have o2 := h.on _ (pa_mem hm)
    unfold On at o1 o2
    have b1 := on_mul o1.1 o2.2
    have b2 := on_mul o1.2 o2.1
    rw [dlt hi, cT, nth_pa hi, bS]
    simp only
    rw [rend_eq N (by omega) hi, show pa l ((i + 1) % l.length) = ((pa l ((i + 1) % l.length)).1, (pa l ((i + 1) % l.length)).2) from rfl, bS]
    simp only
    rw [gd_of (by unfold I64; omega), gd_of (by unfold I64; omega), gd_of (by unfold I64; omega), gd_of (by unfold I64; omega), gd_of (by unfold I64; omega), ← ns, rarea_loop N h n (i + 1) _ (by omega) (by omega) (by omega)]
    congr 1
    rw [show l.length - i = (l.length - (i + 1)) + 1 by omega, rs_front]
    simp only [Nat.add_zero]
    have e : rs (fun t => crs (pa l (i + (t + 1))) (pa l ((i + (t + 1) + 1) % l.length))) (l.length - (i + 1)) = rs (fun t => crs (pa l (i + 1 + t)) (pa l ((i + 1 + t + 1) % l.length))) (l.length - (i + 1)) := rs_congr fun t _ => by rw [show i + (t + 1) = i + 1 + t by omega]
    rw [e]
    unfold crs
    omega
theorem rarea_t {N : Nat} (hN : 100 ≤ N) {l : List Pt} (h : VP l) : D_putlogref07_Area2 N l = some (areaS l) := by
  unfold D_putlogref07_Area2
  have l8 := h.l8
  have := rarea_loop N h N 0 0 (by omega) (by omega) (by omega)
  simp only [Int.natCast_zero, Nat.zero_add, Nat.sub_zero, Int.zero_add] at this
  rw [rvalid_eq hN, vB_t.2 h, bS, cF' _ (by rfl), this, bS, area_cs, cs_pa]
theorem area_same {N : Nat} (hN : 100 ≤ N) (l : List Pt) : ∃ r, D_plane_Area2 N l = some r ∧ D_putlogref07_Area2 N l = some r := by
  by_cases h : VP l
  · exact ⟨_, area_eq hN h, rarea_t hN h⟩
  · unfold D_plane_Area2 D_putlogref07_Area2
    rw [valid_eq hN, rvalid_eq hN, vB_f.2 h, bS, bS]
    exact ⟨0, by rw [cT' _ (by rfl)], by rw [cT' _ (by rfl)]⟩
theorem rmom_loop (N : Nat) {l : List Pt} (h : VP l) : ∀ (n i : Nat) (u v : Int), i ≤ l.length → l.length < n + i → (-400000 * i ≤ u ∧ u ≤ 400000 * i) → (-400000 * i ≤ v ∧ v ≤ 400000 * i) →
    D_putlogref07_Moments_L1 N l n u v i = some (u + rs (fun t => crs (pa l (i + t)) (pa l ((i + t + 1) % l.length)) * ((pa l (i + t)).1 + (pa l ((i + t + 1) % l.length)).1)) (l.length - i), v + rs (fun t => crs (pa l (i + t)) (pa l ((i + t + 1) % l.length)) * ((pa l (i + t)).2 + (pa l ((i + t + 1) % l.length)).2)) (l.length - i))
  | 0, i, u, v, h1, h2, hu, hv => by omega
  | n + 1, i, u, v, h1, h2, hu, hv => by
    have l8 := h.l8
    rw [D_putlogref07_Moments_L1]
    by_cases he : i = l.length
    · subst he
      rw [dge, cF, Nat.sub_self, rs_zero, rs_zero, Int.add_zero, Int.add_zero]
    have hi : i < l.length := by omega
    have hm : (i + 1) % l.length < l.length := Nat.mod_lt _ (by omega)
    have o1 := h.on _ (pa_mem hi)
    have o2 := h.on _ (pa_mem hm)
    unfold On at o1 o2
    have b1 := on_mul o1.1 o2.2
    have b2 := on_mul o1.2 o2.1
    have pm : ∀ a b : Int, (0 ≤ a ∧ a ≤ 80) → (-1600 ≤ b ∧ b ≤ 1600) → -128000 ≤ a * b ∧ a * b ≤ 128000 := fun a b ha hb => by
      have k1 := Int.mul_nonneg ha.1 (show 0 ≤ 1600 - b by omega)
      have k2 := Int.mul_nonneg ha.1 (show 0 ≤ 1600 + b by omega)
      rw [Int.mul_sub] at k1
      rw [Int.mul_add] at k2
      omega
    have c1 := pm ((pa l i).1 + (pa l ((i + 1) % l.length)).1) ((pa l i).1 * (pa l ((i + 1) % l.length)).2 - (pa l i).2 * (pa l ((i + 1) % l.length)).1) (by omega) (by omega)
    have c2 := pm ((pa l i).2 + (pa l ((i + 1) % l.length)).2) ((pa l i).1 * (pa l ((i + 1) % l.length)).2 - (pa l i).2 * (pa l ((i + 1) % l.length)).1) (by omega) (by omega)
    rw [dlt hi, cT, nth_pa hi, bS]
    simp only
    rw [rend_eq N (by omega) hi, show pa l ((i + 1) % l.length) = ((pa l ((i + 1) % l.length)).1, (pa l ((i + 1) % l.length)).2) from rfl, bS]
    simp only
    rw [gd_of (by unfold I64; omega), gd_of (by unfold I64; omega), gd_of (by unfold I64; omega), gd_of (by unfold I64; omega), gd_of (by unfold I64; omega), gd_of (by unfold I64; omega), gd_of (by unfold I64; omega), gd_of (by unfold I64; omega), gd_of (by unfold I64; omega), gd_of (by unfold I64; omega), gd_of (by unfold I64; omega), gd_of (by unfold I64; omega), gd_of (by unfold I64; omega), ← ns, rmom_loop N h n (i + 1) _ _ (by omega) (by omega) (by omega) (by omega)]
    congr 1
    have e : ∀ f : Pt → Pt → Int, rs (fun t => f (pa l (i + t)) (pa l ((i + t + 1) % l.length))) (l.length - i) = f (pa l i) (pa l ((i + 1) % l.length)) + rs (fun t => f (pa l (i + 1 + t)) (pa l ((i + 1 + t + 1) % l.length))) (l.length - (i + 1)) := fun f => by
      rw [show l.length - i = (l.length - (i + 1)) + 1 by omega, rs_front]
      simp only [Nat.add_zero]
      congr 1
      exact rs_congr fun t _ => by rw [show i + (t + 1) = i + 1 + t by omega]
    have e1 := e fun a b => crs a b * (a.1 + b.1)
    have e2 := e fun a b => crs a b * (a.2 + b.2)
    rw [e1, e2, Int.add_assoc, Int.add_assoc, Int.mul_comm ((pa l i).1 + _), Int.mul_comm ((pa l i).2 + _)]
    rfl
theorem rmom_t {N : Nat} (hN : 100 ≤ N) {l : List Pt} (h : VP l) : D_putlogref07_Moments N l = some (momX l, momY l) := by
  unfold D_putlogref07_Moments
  have l8 := h.l8
  have := rmom_loop N h N 0 0 0 (by omega) (by omega) (by omega) (by omega)
  simp only [Int.natCast_zero, Nat.zero_add, Nat.sub_zero, Int.zero_add] at this
  rw [rvalid_eq hN, vB_t.2 h, bS, cF' _ (by rfl), this, bS, momX_cs, cs_pa, momY_cs, cs_pa]
theorem mom_same {N : Nat} (hN : 100 ≤ N) (l : List Pt) : ∃ r, D_plane_Moments N l = some r ∧ D_putlogref07_Moments N l = some r := by
  by_cases h : VP l
  · exact ⟨_, mom_eq hN h, rmom_t hN h⟩
  · unfold D_plane_Moments D_putlogref07_Moments
    rw [valid_eq hN, rvalid_eq hN, vB_f.2 h, bS, bS]
    exact ⟨(0, 0), by rw [cT' _ (by rfl)], by rw [cT' _ (by rfl)]⟩
/-! ### Numbers of places -/
theorem wsd_eq {N : Nat} (hN : 100 ≤ N) {l : List Pt} (h : VP l) {x y : Nat} (hx : x ≤ 40) (hy : y ≤ 40) : D_putlogref07_where N l x y = some (sd l ((x : Int), (y : Int))) := by
  have l8 := h.l8
  exact where_eq (p := ((x : Int), (y : Int))) (by omega) (by omega) h.sml (by unfold Sml; simp only; omega)
theorem ii_b (p : Prop) [Decidable p] : 0 ≤ ii p ∧ ii p ≤ 1 := by unfold ii; split <;> omega
theorem rs_ii (f : Nat → Prop) [∀ t, Decidable (f t)] : ∀ n, 0 ≤ rs (fun t => ii (f t)) n ∧ rs (fun t => ii (f t)) n ≤ n
  | 0 => by rw [rs_zero]; omega
  | n + 1 => by
    rw [rs_succ, ns]
    have := rs_ii f n
    have := ii_b (f n)
    omega
theorem rlat_L3 {N : Nat} (hN : 100 ≤ N) {l : List Pt} (h : VP l) {i : Nat} (hi : i ≤ 40) : ∀ (n k : Nat) (u v : Int), k ≤ 41 → 41 < n + k → (0 ≤ u ∧ u ≤ 5000 + k) → (0 ≤ v ∧ v ≤ 5000 + k) → D_putlogref07_Lattice_L3 N l i n u v k = some (u + rs (fun t => ii (sd l ((i : Int), ((k + t : Nat) : Int)) = 1)) (41 - k), v + rs (fun t => ii (sd l ((i : Int), ((k + t : Nat) : Int)) = 0)) (41 - k))
  | 0, k, u, v, hk, hn, hu, hv => by omega
  | n + 1, k, u, v, hk, hn, hu, hv => by
    rw [D_putlogref07_Lattice_L3]
    by_cases hk' : k = 41
    · subst hk'
      rw [cF' _ (by decide), Nat.sub_self, rs_zero, rs_zero, Int.add_zero, Int.add_zero]
    have e : 41 - k = (41 - (k + 1)) + 1 := by omega
    have f : ∀ c : Int, rs (fun t => ii (sd l ((i : Int), ((k + t : Nat) : Int)) = c)) (41 - k) = ii (sd l ((i : Int), (k : Int)) = c) + rs (fun t => ii (sd l ((i : Int), ((k + 1 + t : Nat) : Int)) = c)) (41 - (k + 1)) := fun c => by
      rw [e, rs_front]
      congr 1
      exact rs_congr fun t _ => by rw [show k + (t + 1) = k + 1 + t by omega]
    rw [cT' _ (decide_eq_true (by omega)), wsd_eq hN h hi (by omega), bS, f 1, f 0]
    rcases sd_cases l ((i : Int), (k : Int)) with c | c | c
    · rw [c, cT' _ (by decide), gd_of (by unfold I64; omega), gd_of (by unfold I64; omega), ← ns, rlat_L3 hN h hi n (k + 1) _ _ (by omega) (by omega) (by omega) (by omega), ii_t rfl, ii_f (by decide), Int.zero_add, Int.add_assoc]
    · rw [c, cF' _ (by decide), cT' _ (by decide), gd_of (by unfold I64; omega), gd_of (by unfold I64; omega), ← ns, rlat_L3 hN h hi n (k + 1) _ _ (by omega) (by omega) (by omega) (by omega), ii_t rfl, ii_f (by decide), Int.zero_add, Int.add_assoc]
    · rw [c, cF' _ (by decide), cF' _ (by decide), gd_of (by unfold I64; omega), ← ns, rlat_L3 hN h hi n (k + 1) _ _ (by omega) (by omega) (by omega) (by omega), ii_f (by decide), ii_f (by decide), Int.zero_add, Int.zero_add]
theorem rlat_L1 {N : Nat} (hN : 100 ≤ N) {l : List Pt} (h : VP l) : ∀ (n i : Nat) (u v : Int), i ≤ 41 → 41 < n + i → (0 ≤ u ∧ u ≤ 41 * i) → (0 ≤ v ∧ v ≤ 41 * i) → D_putlogref07_Lattice_L1 N l n u v i = some (u + rs (fun t => rs (fun y => ii (sd l (((i + t : Nat) : Int), (y : Int)) = 1)) 41) (41 - i), v + rs (fun t => rs (fun y => ii (sd l (((i + t : Nat) : Int), (y : Int)) = 0)) 41) (41 - i))
  | 0, i, u, v, hk, hn, hu, hv => by omega
  | n + 1, i, u, v, hk, hn, hu, hv => by
    rw [D_putlogref07_Lattice_L1]
    by_cases hi' : i = 41
    · subst hi'
      rw [cF' _ (by decide), Nat.sub_self, rs_zero, rs_zero, Int.add_zero, Int.add_zero]
    have e : 41 - i = (41 - (i + 1)) + 1 := by omega
    have f : ∀ c : Int, rs (fun t => rs (fun y => ii (sd l (((i + t : Nat) : Int), (y : Int)) = c)) 41) (41 - i) = rs (fun y => ii (sd l ((i : Int), (y : Int)) = c)) 41 + rs (fun t => rs (fun y => ii (sd l (((i + 1 + t : Nat) : Int), (y : Int)) = c)) 41) (41 - (i + 1)) := fun c => by
      rw [e, rs_front]
      congr 1
      exact rs_congr fun t _ => by rw [show i + (t + 1) = i + 1 + t by omega]
    have l3 := rlat_L3 hN h (show i ≤ 40 by omega) N 0 u v (by omega) (by omega) (by omega) (by omega)
    simp only [Int.natCast_zero, Nat.zero_add, Nat.sub_zero] at l3
    have b1 := rs_ii (fun y => sd l ((i : Int), (y : Int)) = 1) 41
    have b0 := rs_ii (fun y => sd l ((i : Int), (y : Int)) = 0) 41
    rw [cT' _ (decide_eq_true (by omega)), l3, bS, f 1, f 0]
    simp only
    rw [gd_of (by unfold I64; omega), ← ns, rlat_L1 hN h n (i + 1) _ _ (by omega) (by omega) (by omega) (by omega), Int.add_assoc, Int.add_assoc]
theorem lat_same {N : Nat} (hN : 1000 ≤ N) (l : List Pt) : ∃ r, D_plane_Lattice N l = some r ∧ D_putlogref07_Lattice N l = some r := by
  by_cases h : VP l
  · refine ⟨_, lat_eq hN h, ?_⟩
    have l3 := h.l3
    unfold D_putlogref07_Lattice
    have k := rlat_L1 (N := N) (by omega) h N 0 0 0 (by omega) (by omega) (by omega) (by omega)
    simp only [Int.natCast_zero, Nat.zero_add, Nat.sub_zero, Int.zero_add] at k
    have m0 : rs (fun t => rs (fun y => ii (sd l ((t : Int), (y : Int)) = 0)) 41) 41 = bdS l := by
      have := bd_count h
      rw [← this]
      unfold gsum
      refine rs_congr fun x _ => rs_congr fun y _ => ?_
      exact ii_congr Iff.rfl
    have m1 : 2 * rs (fun t => rs (fun y => ii (sd l ((t : Int), (y : Int)) = 1)) 41) 41 + bdS l = areaS l + 2 := by
      have w := pick_wt (l.length - 3) l (by omega) h
      rw [← w, ← m0]
      have e : gsum (wt l) = gsum (fun p => (ii (sd l p = 1) + ii (sd l p = 1)) + ii (sd l p = 0)) := gsum_congr fun p _ => by
        unfold wt
        rcases sd_cases l p with c | c | c <;> rw [c] <;> rfl
      rw [e, gsum_add (fun p => ii (sd l p = 1) + ii (sd l p = 1)), gsum_add (fun p => ii (sd l p = 1))]
      rw [show gsum (fun p => ii (sd l p = 1)) = rs (fun t => rs (fun y => ii (sd l ((t : Int), (y : Int)) = 1)) 41) 41 from rfl, show gsum (fun p => ii (sd l p = 0)) = rs (fun t => rs (fun y => ii (sd l ((t : Int), (y : Int)) = 0)) 41) 41 from rfl]
      omega
    rw [rvalid_eq (by omega), vB_t.2 h, bS, cF' _ (by rfl), k, bS, m0]
    simp only
    generalize rs (fun t => rs (fun y => ii (sd l ((t : Int), (y : Int)) = 1)) 41) 41 = n at *
    have td : (areaS l - bdS l + 2).tdiv 2 = n := by
      rw [show areaS l - bdS l + 2 = n * 2 by omega]
      exact Int.mul_tdiv_cancel _ (by omega)
    rw [td]
  · unfold D_plane_Lattice D_putlogref07_Lattice
    rw [valid_eq (by omega), rvalid_eq (by omega), vB_f.2 h, bS, bS]
    exact ⟨(0, 0), by rw [cT' _ (by rfl)], by rw [cT' _ (by rfl)]⟩
end Go.Proofs.Ytojciffnkbfbhaa.Am
