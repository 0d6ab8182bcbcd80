import Derived.Test.YtojciffnkbfbhaaM9
import Derived.Test.YtojciffnkbfbhaaMA
import Derived.Test.YtojciffnkbfbhaaDA
/-
  Plain laws: cuts.
-/
namespace Go.Proofs.Ytojciffnkbfbhaa.Am
set_option linter.unusedSimpArgs false
set_option linter.unusedVariables false
theorem pa_ext {u v : List Pt} (h : u.length = v.length) (hp : ∀ i, i < u.length → pa u i = pa v i) : u = v := by
  apply List.ext_getElem h
  intro i h1 h2
  have := hp i h1
  rwa [pa_get h1, pa_get h2] at this
theorem arc_take {l : List Pt} {i k : Nat} (hik : i ≤ k) (hk : k < l.length) : (l.drop i).take (k + 1 - i) = arc l i (k - i) := by
  apply pa_ext
  · rw [arc_len, List.length_take, List.length_drop]; omega
  · intro t ht
    rw [List.length_take, List.length_drop] at ht
    rw [arc_pa (by omega), qa_lt (by omega), pa_get (by rw [List.length_take, List.length_drop]; omega), pa_get (by omega), List.getElem_take, List.getElem_drop]
theorem arc_wrap {l : List Pt} {i k : Nat} (hik : k < i) (hi : i < l.length) : l.drop i ++ l.take (k + 1) = arc l i (k + l.length - i) := by
  apply pa_ext
  · rw [arc_len, List.length_append, List.length_take, List.length_drop]; omega
  · intro t ht
    rw [List.length_append, List.length_take, List.length_drop] at ht
    rw [arc_pa (by omega)]
    by_cases h : t < l.length - i
    · rw [pa_app1 (by rw [List.length_drop]; omega), qa_lt (by omega), pa_get (by rw [List.length_drop]; omega), pa_get (by omega), List.getElem_drop]
    · rw [pa_app2 (by rw [List.length_drop]; omega) (by rw [List.length_drop, List.length_take]; omega), List.length_drop, pa_get (by rw [List.length_take]; omega), List.getElem_take]
      have e : i + t = (t - (l.length - i)) + l.length := by omega
      rw [e, qa_add, qa_lt (by omega), pa_get (by omega)]
theorem concat_eq {N : Nat} (hN : 100 ≤ N) {u v : List Pt} (h : 0 < u.length) (hu : u.length ≤ 1000) (hv : v.length ≤ 1000) : D_slices_Concat_api_Place_api_Place N [u, v] = some (u ++ v) := by
  unfold D_slices_Concat_api_Place_api_Place
  have s1 : ∀ n, D_slices_Concat_api_Place_api_Place_L1 N [u, v] (n + 1 + 1 + 1) 0 0 = some (0 + (u.length : Int) + (v.length : Int)) := fun n => by
    rw [D_slices_Concat_api_Place_api_Place_L1, cT' _ (by rfl), show nth [u, v] 0 = some u from rfl, bS, gd_of (by unfold I64; omega), gd_of (decide_eq_false (by omega)), gd_of (by decide), D_slices_Concat_api_Place_api_Place_L1, cT' _ (by rfl), show nth [u, v] (0 + 1) = some v from rfl, bS, gd_of (by unfold I64; omega), gd_of (decide_eq_false (by omega)), gd_of (by decide), D_slices_Concat_api_Place_api_Place_L1, cF' _ (by rfl)]
  have s3 : ∀ n, D_slices_Concat_api_Place_api_Place_L3 N [u, v] (n + 1 + 1 + 1) 0 [] = some ([] ++ u ++ v) := fun n => by
    rw [D_slices_Concat_api_Place_api_Place_L3, cT' _ (by rfl), show nth [u, v] 0 = some u from rfl, bS, gd_of (by simp; omega), gd_of (by decide), D_slices_Concat_api_Place_api_Place_L3, cT' _ (by rfl), show nth [u, v] (0 + 1) = some v from rfl, bS, gd_of (by simp; omega), gd_of (by decide), D_slices_Concat_api_Place_api_Place_L3, cF' _ (by rfl)]
  obtain ⟨n, e⟩ : ∃ n, N = n + 1 + 1 + 1 := ⟨N - 3, by omega⟩
  have h1 := s1 n
  have h3 := s3 n
  rw [← e] at h1 h3
  rw [h1, bS, gd_of (decide_eq_false (by omega)), gd_of (by unfold I64; omega), cT' _ (decide_eq_true (by omega)), gd_of (by decide), gd_of (by omega), gd_of (by omega), h3, bS, List.nil_append]
theorem stp_le {n i k : Nat} (hik : i ≤ k) (hk : k < n) : stp n i k = k - i := by
  unfold stp; rw [Nat.mod_eq_sub_mod (by omega), Nat.mod_eq_of_lt (by omega)]; omega
theorem stp_gt {n i k : Nat} (hik : k < i) (hi : i < n) : stp n i k = k + n - i := by
  unfold stp; rw [Nat.mod_eq_of_lt (by omega)]
theorem stp_sum {n i k : Nat} (hi : i < n) (hk : k < n) (h : i ≠ k) : stp n i k + stp n k i = n := by
  rcases Nat.lt_or_gt_of_ne h with q | q
  · rw [stp_le (by omega) hk, stp_gt q hk]; omega
  · rw [stp_gt q hi, stp_le (by omega) hi]; omega
theorem pcut_eq {N : Nat} (hN : 100 ≤ N) {l : List Pt} (h : VP l) {i k : Nat} (hi : i < l.length) (hk : k < l.length) : D_plane_Cut N l i k = some (cutS l i k) := by
  unfold D_plane_Cut cutS
  have l8 := h.l8
  have t1 : ((k : Int) + 1).toNat = k + 1 := by omega
  have t2 : ((i : Int) + 1).toNat = i + 1 := by omega
  rw [valid_t hN h, bS, cF' _ (by simp; omega), t1, t2, Int.toNat_natCast, Int.toNat_natCast, Nat.sub_zero, Nat.sub_zero]
  have ne : ∀ j m, arc l j m ≠ [] := fun j m e => by have := arc_len l j m; rw [e] at this; simp at this
  rcases Nat.lt_trichotomy i k with q | q | q
  · rw [cT' _ (decide_eq_true (by omega)), cF' _ (decide_eq_false (by omega)), stp_le (by omega) hk, stp_gt q hk, arc_take (by omega) hk]
    rw [gd_of (by unfold I64; omega), gd_of ⟨by omega, by omega, by omega⟩, gd_of (ne _ _), gd_of (by rw [arc_len]; omega), gd_of ⟨by omega, by omega⟩, gd_of (by unfold I64; omega), gd_of ⟨by omega, by omega, by omega⟩,
      concat_eq hN (by rw [List.length_drop]; omega) (by rw [List.length_drop]; omega) (by rw [List.length_take]; omega), bS, arc_wrap q hk, arc_len, arc_len]
    by_cases hc : k - i < 2 ∨ i + l.length - k < 2
    · rw [if_pos hc, cT' _ (decide_eq_true (by omega))]
    · rw [if_neg hc, cF' _ (decide_eq_false (by omega))]
  · subst q
    rw [cT' _ (decide_eq_true (by omega)), cT' _ (decide_eq_true (by omega)), stp_le (by omega) hk, arc_take (by omega) hk]
    rw [gd_of (by unfold I64; omega), gd_of ⟨by omega, by omega, by omega⟩, gd_of (ne _ _), gd_of (by rw [arc_len]; omega), gd_of (by unfold I64; omega), gd_of ⟨by omega, by omega, by omega⟩, gd_of (ne _ _), gd_of (by rw [arc_len]; omega), arc_len, if_pos (by omega), cT' _ (decide_eq_true (by omega))]
  · rw [cF' _ (decide_eq_false (by omega)), stp_gt q hi, stp_le (by omega) hi, arc_take (by omega) hi]
    rw [gd_of ⟨by omega, by omega⟩, gd_of (by unfold I64; omega), gd_of ⟨by omega, by omega, by omega⟩,
      concat_eq hN (by rw [List.length_drop]; omega) (by rw [List.length_drop]; omega) (by rw [List.length_take]; omega), bS, cT' _ (decide_eq_true (by omega)), arc_wrap q hi, gd_of (by unfold I64; omega), gd_of ⟨by omega, by omega, by omega⟩, gd_of (ne _ _), gd_of (by rw [arc_len]; omega), arc_len, arc_len]
    by_cases hc : k + l.length - i < 2 ∨ i - k < 2
    · rw [if_pos hc, cT' _ (decide_eq_true (by omega))]
    · rw [if_neg hc, cF' _ (decide_eq_false (by omega))]
/-! ### Sums round a polygon -/
def rs (f : Nat → Int) (n : Nat) : Int := ((List.range n).map f).sum
theorem rs_zero (f : Nat → Int) : rs f 0 = 0 := rfl
theorem rs_succ (f : Nat → Int) (n : Nat) : rs f (n + 1) = rs f n + f n := by
  unfold rs; rw [List.range_succ, List.map_append, List.sum_append]; simp
theorem rs_add (f : Nat → Int) (m : Nat) : ∀ k, rs f (m + k) = rs f m + rs (fun t => f (m + t)) k
  | 0 => by rw [Nat.add_zero, rs_zero, Int.add_zero]
  | k + 1 => by rw [← Nat.add_assoc, rs_succ, rs_succ, rs_add f m k, Int.add_assoc]
theorem rs_congr {f g : Nat → Int} {n : Nat} (h : ∀ t, t < n → f t = g t) : rs f n = rs g n := by
  unfold rs
  congr 1
  exact List.map_congr_left fun t ht => h t (by simpa using ht)
theorem rs_rot {f : Nat → Int} {n : Nat} (per : ∀ t, f (t + n) = f t) (i : Nat) : rs (fun t => f (i + t)) n = rs f n := by
  have h1 := rs_add f i n
  have h2 := rs_add f n i
  have h3 : rs (fun t => f (n + t)) i = rs f i := rs_congr fun t _ => by rw [Nat.add_comm]; exact per t
  rw [Nat.add_comm] at h2
  omega
theorem rs_tel (h : Nat → Int) : ∀ n, rs (fun t => h (t + 1) - h t) n = h n - h 0
  | 0 => by rw [rs_zero]; omega
  | n + 1 => by rw [rs_succ, rs_tel h n]; omega
theorem rs_plus (f g : Nat → Int) : ∀ n, rs (fun t => f t + g t) n = rs f n + rs g n
  | 0 => rfl
  | n + 1 => by rw [rs_succ, rs_succ, rs_succ, rs_plus f g n]; omega
/-- The sum of what edges count. -/
def cs (F : Pt × Pt → Int) (l : List Pt) : Int := ((edgesL l).map F).sum
theorem cs_rs (F : Pt × Pt → Int) (l : List Pt) : cs F l = rs (fun t => F (qa l t, qa l (t + 1))) l.length := by
  unfold cs rs edgesL
  rw [List.map_map]
  congr 1
  refine List.map_congr_left fun t ht => ?_
  rw [List.mem_range] at ht
  show F (pa l t, pa l ((t + 1) % l.length)) = F (qa l t, qa l (t + 1))
  rw [qa_lt ht]; rfl
/-- What only differs by what its ends count has the same sum. -/
theorem cs_eq {F G : Pt × Pt → Int} {H : Pt → Int} (l : List Pt) (h : ∀ e, G e = F e + (H e.2 - H e.1)) : cs G l = cs F l := by
  rw [cs_rs, cs_rs]
  have e : rs (fun t => G (qa l t, qa l (t + 1))) l.length = rs (fun t => F (qa l t, qa l (t + 1)) + (H (qa l (t + 1)) - H (qa l t))) l.length := rs_congr fun t _ => h _
  rw [e, rs_plus (fun t => F (qa l t, qa l (t + 1))) (fun t => H (qa l (t + 1)) - H (qa l t)), rs_tel (fun t => H (qa l t))]
  have : qa l l.length = qa l 0 := by have := qa_add l 0; rwa [Nat.zero_add] at this
  rw [this]; omega
theorem cs_arc (F : Pt × Pt → Int) (l : List Pt) (i m : Nat) : cs F (arc l i m) = rs (fun t => F (qa l (i + t), qa l (i + (t + 1)))) m + F (qa l (i + m), qa l i) := by
  rw [cs_rs, arc_len, rs_succ]
  have e1 : ∀ t, t ≤ m → qa (arc l i m) t = qa l (i + t) := fun t ht => by rw [qa_lt (by rw [arc_len]; omega), arc_pa ht]
  have e2 : qa (arc l i m) (m + 1) = qa l i := by
    have := qa_add (arc l i m) 0
    rw [arc_len, Nat.zero_add] at this
    rw [this, e1 0 (by omega), Nat.add_zero]
  rw [e2, e1 m (Nat.le_refl _)]
  congr 1
  exact rs_congr fun t ht => by rw [e1 t (by omega), e1 (t + 1) (by omega)]
/-- The parts of a cut have the sum of the whole. -/
theorem cs_cut {F : Pt × Pt → Int} (anti : ∀ a b, F (a, b) = - F (b, a)) (l : List Pt) {i k : Nat} (hi : i < l.length) (hk : k < l.length) (h : i ≠ k) : cs F (arc l i (stp l.length i k)) + cs F (arc l k (stp l.length k i)) = cs F l := by
  have hs := stp_sum hi hk h
  have h1 := stp_at hi hk
  have h2 := stp_at hk hi
  have q1 : qa l (i + stp l.length i k) = qa l k := by rw [← qa_mod, h1]
  have q2 : qa l (k + stp l.length k i) = qa l i := by rw [← qa_mod, h2]
  rw [cs_arc, cs_arc, q1, q2, anti (qa l i) (qa l k), cs_rs]
  have r := rs_rot (f := fun t => F (qa l t, qa l (t + 1))) (n := l.length) (fun t => by
    rw [qa_add, show t + l.length + 1 = t + 1 + l.length by omega, qa_add]) i
  rw [← r]
  have a := rs_add (fun t => F (qa l (i + t), qa l (i + t + 1))) (stp l.length i k) (stp l.length k i)
  rw [hs] at a
  rw [a]
  have c : rs (fun t => F (qa l (i + (stp l.length i k + t)), qa l (i + (stp l.length i k + t) + 1))) (stp l.length k i) = rs (fun t => F (qa l (k + t), qa l (k + (t + 1)))) (stp l.length k i) := rs_congr fun t _ => by
    have e : ∀ t, qa l (i + (stp l.length i k + t)) = qa l (k + t) := fun t => by
      rw [← Nat.add_assoc, ← qa_mod, Nat.add_mod, h1, ← Nat.mod_eq_of_lt hk, ← Nat.add_mod, qa_mod]
      rw [Nat.mod_eq_of_lt hk]
    rw [e, show i + (stp l.length i k + t) + 1 = i + (stp l.length i k + (t + 1)) by omega, e]
  rw [c]
  simp only [Nat.add_assoc]
  omega
def crs (a b : Pt) : Int := a.1 * b.2 - a.2 * b.1
theorem area_cs (l : List Pt) : areaS l = cs (fun e => crs e.1 e.2) l := cs_eq (H := fun p => crs p (pa l 0)) l fun e => by
  unfold arE trn crs; grind
theorem momX_cs (l : List Pt) : momX l = cs (fun e => crs e.1 e.2 * (e.1.1 + e.2.1)) l := cs_eq (H := fun p => crs p (pa l 0) * (p.1 + (pa l 0).1)) l fun e => by
  unfold mxE trn crs; grind
theorem momY_cs (l : List Pt) : momY l = cs (fun e => crs e.1 e.2 * (e.1.2 + e.2.2)) l := cs_eq (H := fun p => crs p (pa l 0) * (p.2 + (pa l 0).2)) l fun e => by
  unfold myE trn crs; grind
theorem cut_sums (l : List Pt) {i k : Nat} (hi : i < l.length) (hk : k < l.length) (h : i ≠ k) :
    areaS (arc l i (stp l.length i k)) + areaS (arc l k (stp l.length k i)) = areaS l ∧ momX (arc l i (stp l.length i k)) + momX (arc l k (stp l.length k i)) = momX l ∧ momY (arc l i (stp l.length i k)) + momY (arc l k (stp l.length k i)) = momY l := by
  simp only [area_cs, momX_cs, momY_cs]
  refine ⟨cs_cut (fun a b => ?_) l hi hk h, cs_cut (fun a b => ?_) l hi hk h, cs_cut (fun a b => ?_) l hi hk h⟩ <;> (unfold crs; simp only; grind)
end Go.Proofs.Ytojciffnkbfbhaa.Am
