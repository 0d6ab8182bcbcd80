import Derived.Test.YtojciffnkbfbhaaMN
import Derived.Test.YtojciffnkbfbhaaM1
import Derived.Test.YtojciffnkbfbhaaL6
/-
  Plain laws: PlanePick.
-/
namespace Go.Proofs.Ytojciffnkbfbhaa.Am
set_option linter.unusedSimpArgs false
set_option linter.unusedVariables false
theorem insd_eq {N : Nat} (hN : 100 ≤ N) {l : List Pt} (h : VP l) {x y : Nat} (hx : x ≤ 40) (hy : y ≤ 40) : D_plane_Inside N l x y = some (sd l ((x : Int), (y : Int))) := by
  have := inside_eq hN h ((x : Int), (y : Int))
  rw [if_pos (by unfold On; simp only; omega)] at this
  exact this
theorem ii_b (p : Prop) [Decidable p] : 0 ≤ ii p ∧ ii p ≤ 1 := by unfold ii; split <;> omega
theorem rs_ii (f : Nat → Prop) [∀ t, Decidable (f t)] : ∀ n, 0 ≤ rs (fun t => ii (f t)) n ∧ rs (fun t => ii (f t)) n ≤ n
  | 0 => by rw [rs_zero]; omega
  | n + 1 => by
    rw [rs_succ, ns]
    have := rs_ii f n
    have := ii_b (f n)
    omega
theorem pick_L3 {N : Nat} (hN : 100 ≤ N) {l : List Pt} (h : VP l) {i : Nat} (hi : i ≤ 40) : ∀ (n k : Nat) (u v : Int), k ≤ 41 → 41 < n + k → (0 ≤ u ∧ u ≤ 5000 + k) → (0 ≤ v ∧ v ≤ 5000 + k) → D_putloglaw07_PlanePick_L3 N l i n u v k = some (u + rs (fun t => ii (sd l ((i : Int), ((k + t : Nat) : Int)) = 1)) (41 - k), v + rs (fun t => ii (sd l ((i : Int), ((k + t : Nat) : Int)) = 0)) (41 - k))
  | 0, k, u, v, hk, hn, hu, hv => by omega
  | n + 1, k, u, v, hk, hn, hu, hv => by
    rw [D_putloglaw07_PlanePick_L3]
    by_cases hk' : k = 41
    · subst hk'
      rw [cF' _ (by decide), Nat.sub_self, rs_zero, rs_zero, Int.add_zero, Int.add_zero]
    have e : 41 - k = (41 - (k + 1)) + 1 := by omega
    have f : ∀ c : Int, rs (fun t => ii (sd l ((i : Int), ((k + t : Nat) : Int)) = c)) (41 - k) = ii (sd l ((i : Int), (k : Int)) = c) + rs (fun t => ii (sd l ((i : Int), ((k + 1 + t : Nat) : Int)) = c)) (41 - (k + 1)) := fun c => by
      rw [e, rs_front]
      congr 1
      exact rs_congr fun t _ => by rw [show k + (t + 1) = k + 1 + t by omega]
    rw [cT' _ (decide_eq_true (by omega)), insd_eq hN h hi (by omega), bS, f 1, f 0]
    rcases sd_cases l ((i : Int), (k : Int)) with c | c | c
    · rw [c, cT' _ (by decide), gd_of (by unfold I64; omega), gd_of (by unfold I64; omega), ← ns, pick_L3 hN h hi n (k + 1) _ _ (by omega) (by omega) (by omega) (by omega), ii_t rfl, ii_f (by decide), Int.zero_add, Int.add_assoc]
    · rw [c, cF' _ (by decide), cT' _ (by decide), gd_of (by unfold I64; omega), gd_of (by unfold I64; omega), ← ns, pick_L3 hN h hi n (k + 1) _ _ (by omega) (by omega) (by omega) (by omega), ii_t rfl, ii_f (by decide), Int.zero_add, Int.add_assoc]
    · rw [c, cF' _ (by decide), cF' _ (by decide), gd_of (by unfold I64; omega), ← ns, pick_L3 hN h hi n (k + 1) _ _ (by omega) (by omega) (by omega) (by omega), ii_f (by decide), ii_f (by decide), Int.zero_add, Int.zero_add]
theorem pick_L1 {N : Nat} (hN : 100 ≤ N) {l : List Pt} (h : VP l) : ∀ (n i : Nat) (u v : Int), i ≤ 41 → 41 < n + i → (0 ≤ u ∧ u ≤ 41 * i) → (0 ≤ v ∧ v ≤ 41 * i) → D_putloglaw07_PlanePick_L1 N l n u v i = some (u + rs (fun t => rs (fun y => ii (sd l (((i + t : Nat) : Int), (y : Int)) = 1)) 41) (41 - i), v + rs (fun t => rs (fun y => ii (sd l (((i + t : Nat) : Int), (y : Int)) = 0)) 41) (41 - i))
  | 0, i, u, v, hk, hn, hu, hv => by omega
  | n + 1, i, u, v, hk, hn, hu, hv => by
    rw [D_putloglaw07_PlanePick_L1]
    by_cases hi' : i = 41
    · subst hi'
      rw [cF' _ (by decide), Nat.sub_self, rs_zero, rs_zero, Int.add_zero, Int.add_zero]
    have e : 41 - i = (41 - (i + 1)) + 1 := by omega
    have f : ∀ c : Int, rs (fun t => rs (fun y => ii (sd l (((i + t : Nat) : Int), (y : Int)) = c)) 41) (41 - i) = rs (fun y => ii (sd l ((i : Int), (y : Int)) = c)) 41 + rs (fun t => rs (fun y => ii (sd l (((i + 1 + t : Nat) : Int), (y : Int)) = c)) 41) (41 - (i + 1)) := fun c => by
      rw [e, rs_front]
      congr 1
      exact rs_congr fun t _ => by rw [show i + (t + 1) = i + 1 + t by omega]
    have l3 := pick_L3 hN h (show i ≤ 40 by omega) N 0 u v (by omega) (by omega) (by omega) (by omega)
    simp only [Int.natCast_zero, Nat.zero_add, Nat.sub_zero] at l3
    have b1 := rs_ii (fun y => sd l ((i : Int), (y : Int)) = 1) 41
    have b0 := rs_ii (fun y => sd l ((i : Int), (y : Int)) = 0) 41
    rw [cT' _ (decide_eq_true (by omega)), l3, bS, f 1, f 0]
    simp only
    rw [gd_of (by unfold I64; omega), ← ns, pick_L1 hN h n (i + 1) _ _ (by omega) (by omega) (by omega) (by omega), Int.add_assoc, Int.add_assoc]
theorem purePick (x : List Pt) (hx : In2 x) : D_putloglaw07_PlanePick 2000 x = some true := by
  unfold D_putloglaw07_PlanePick
  obtain ⟨l, el, hl⟩ := made_ok (N := 2000) (by omega) (by omega) hx (low := 0) (high := 40) (by omega) (by omega) (by omega)
  have hv := hl.vp
  have l3 := hv.l3
  have hsane : D_putloglaw07_sane 2000 = some true := by decide +kernel
  have k := pick_L1 (N := 2000) (by omega) hv 2000 0 0 0 (by omega) (by omega) (by omega) (by omega)
  simp only [Int.natCast_zero, Nat.zero_add, Nat.sub_zero, Int.zero_add] at k
  have m0 : rs (fun t => rs (fun y => ii (sd l ((t : Int), (y : Int)) = 0)) 41) 41 = bdS l := by
    have := bd_count hv
    rw [← this]
    unfold gsum
    refine rs_congr fun x _ => rs_congr fun y _ => ?_
    exact ii_congr Iff.rfl
  have m1 : 2 * rs (fun t => rs (fun y => ii (sd l ((t : Int), (y : Int)) = 1)) 41) 41 + bdS l = areaS l + 2 := by
    have w := pick_wt (l.length - 3) l (by omega) hv
    rw [← w, ← m0]
    have e : gsum (wt l) = gsum (fun p => (ii (sd l p = 1) + ii (sd l p = 1)) + ii (sd l p = 0)) := gsum_congr fun p _ => by
      unfold wt
      rcases sd_cases l p with c | c | c <;> rw [c] <;> rfl
    rw [e, gsum_add (fun p => ii (sd l p = 1) + ii (sd l p = 1)), gsum_add (fun p => ii (sd l p = 1))]
    rw [show gsum (fun p => ii (sd l p = 1)) = rs (fun t => rs (fun y => ii (sd l ((t : Int), (y : Int)) = 1)) 41) 41 from rfl, show gsum (fun p => ii (sd l p = 0)) = rs (fun t => rs (fun y => ii (sd l ((t : Int), (y : Int)) = 0)) 41) 41 from rfl]
    omega
  have bl := bd_len hv
  have ab := area_b hv
  have bb := bd_b hv
  rw [hsane, bS, cF' _ (by rfl), el, bS, lat_eq (by omega) hv, bS]
  simp only
  rw [k, bS, m0]
  simp only
  generalize rs (fun t => rs (fun y => ii (sd l ((t : Int), (y : Int)) = 1)) 41) 41 = n at *
  have td : (areaS l - bdS l + 2).tdiv 2 = n := by
    rw [show areaS l - bdS l + 2 = n * 2 by omega]
    exact Int.mul_tdiv_cancel _ (by omega)
  rw [td, valid_t (by omega) hv, bS, area_eq (by omega) hv, gd_of (fun _ => Option.isSome_some), gd_of (fun _ => by unfold I64; omega), gd_of (fun _ => by unfold I64; omega), gd_of (fun _ => by unfold I64; omega)]
  congr 1
  simp
  omega
end Go.Proofs.Ytojciffnkbfbhaa.Am
