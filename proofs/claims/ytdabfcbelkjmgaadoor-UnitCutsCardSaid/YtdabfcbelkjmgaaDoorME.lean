import Derived.Test.YtdabfcbelkjmgaaDoorM9
import Derived.Test.YtdabfcbelkjmgaaDoorMG
import Derived.Test.YtdabfcbelkjmgaaDoorDA
/-
  Plain laws: cuts.
-/
namespace Go.Proofs.YtdabfcbelkjmgaaDoor.Am
set_option linter.unusedSimpArgs false
set_option linter.unusedVariables false
theorem pa_ext {u v : List Pt} (h : u.length = v.length) (hp : ∀ i, i < u.length → pa u i = pa v i) : u = v := by
  apply List.ext_getElem h
  intro i h1 h2
  have := hp i h1
  rwa [pa_get h1, pa_get h2] at this
theorem arc_take {l : List Pt} {i k : Nat} (hik : i ≤ k) (hk : k < l.length) : (l.drop i).take (k + 1 - i) = arc l i (k - i) := by
  apply pa_ext
  · rw [arc_len, List.length_take, List.length_drop]; omega
  · intro t ht
    rw [List.length_take, List.length_drop] at ht
    rw [arc_pa (by omega), qa_lt (by omega), pa_get (by rw [List.length_take, List.length_drop]; omega), pa_get (by omega), List.getElem_take, List.getElem_drop]
theorem arc_wrap {l : List Pt} {i k : Nat} (hik : k < i) (hi : i < l.length) : l.drop i ++ l.take (k + 1) = arc l i (k + l.length - i) := by
  apply pa_ext
  · rw [arc_len, List.length_append, List.length_take, List.length_drop]; omega
  · intro t ht
    rw [List.length_append, List.length_take, List.length_drop] at ht
    rw [arc_pa (by omega)]
    by_cases h : t < l.length - i
    · rw [pa_app1 (by rw [List.length_drop]; omega), qa_lt (by omega), pa_get (by rw [List.length_drop]; omega), pa_get (by omega), List.getElem_drop]
    · rw [pa_app2 (by rw [List.length_drop]; omega) (by rw [List.length_drop, List.length_take]; omega), List.length_drop, pa_get (by rw [List.length_take]; omega), List.getElem_take]
      have e : i + t = (t - (l.length - i)) + l.length := by omega
      rw [e, qa_add, qa_lt (by omega), pa_get (by omega)]
theorem concat_eq {N : Nat} (hN : 100 ≤ N) {u v : List Pt} (h : 0 < u.length) (hu : u.length ≤ 1000) (hv : v.length ≤ 1000) : D_slices_Concat_api_Place_api_Place N [u, v] = some (u ++ v) := by
  unfold D_slices_Concat_api_Place_api_Place
  have s1 : ∀ n, D_slices_Concat_api_Place_api_Place_L1 N [u, v] (n + 1 + 1 + 1) 0 0 = some (0 + (u.length : Int) + (v.length : Int)) := fun n => by
    rw [D_slices_Concat_api_Place_api_Place_L1, cT' _ (by rfl), show nth [u, v] 0 = some u from rfl, bS, gd_of (by unfold I64; omega), gd_of (decide_eq_false (by omega)), gd_of (by decide), D_slices_Concat_api_Place_api_Place_L1, cT' _ (by rfl), show nth [u, v] (0 + 1) = some v from rfl, bS, gd_of (by unfold I64; omega), gd_of (decide_eq_false (by omega)), gd_of (by decide), D_slices_Concat_api_Place_api_Place_L1, cF' _ (by rfl)]
  have s3 : ∀ n, D_slices_Concat_api_Place_api_Place_L3 N [u, v] (n + 1 + 1 + 1) 0 [] = some ([] ++ u ++ v) := fun n => by
    rw [D_slices_Concat_api_Place_api_Place_L3, cT' _ (by rfl), show nth [u, v] 0 = some u from rfl, bS, gd_of (by simp; omega), gd_of (by decide), D_slices_Concat_api_Place_api_Place_L3, cT' _ (by rfl), show nth [u, v] (0 + 1) = some v from rfl, bS, gd_of (by simp; omega), gd_of (by decide), D_slices_Concat_api_Place_api_Place_L3, cF' _ (by rfl)]
  obtain ⟨n, e⟩ : ∃ n, N = n + 1 + 1 + 1 := ⟨N - 3, by omega⟩
  have h1 := s1 n
  have h3 := s3 n
  rw [← e] at h1 h3
  rw [h1, bS, gd_of (decide_eq_false (by omega)), gd_of (by unfold I64; omega), cT' _ (decide_eq_true (by omega)), gd_of (by decide), gd_of (by omega), gd_of (by omega), h3, bS, List.nil_append]
theorem stp_le {n i k : Nat} (hik : i ≤ k) (hk : k < n) : stp n i k = k - i := by
  unfold stp; rw [Nat.mod_eq_sub_mod (by omega), Nat.mod_eq_of_lt (by omega)]; omega
theorem stp_gt {n i k : Nat} (hik : k < i) (hi : i < n) : stp n i k = k + n - i := by
  unfold stp; rw [Nat.mod_eq_of_lt (by omega)]
theorem stp_sum {n i k : Nat} (hi : i < n) (hk : k < n) (h : i ≠ k) : stp n i k + stp n k i = n := by
  rcases Nat.lt_or_gt_of_ne h with q | q
  · rw [stp_le (by omega) hk, stp_gt q hk]; omega
  · rw [stp_gt q hi, stp_le (by omega) hi]; omega
theorem pcut_eq {N : Nat} (hN : 100 ≤ N) {l : List Pt} (h : VP l) {i k : Nat} (hi : i < l.length) (hk : k < l.length) : D_plane_Cut N l i k = some (cutS l i k) := by
  unfold D_plane_Cut cutS
  have l8 := h.l8
  have t1 : ((k : Int) + 1).toNat = k + 1 := by omega
  have t2 : ((i : Int) + 1).toNat = i + 1 := by omega
  rw [valid_t hN h, bS, cF' _ (by simp; omega), t1, t2, Int.toNat_natCast, Int.toNat_natCast, Nat.sub_zero, Nat.sub_zero]
  have ne : ∀ j m, arc l j m ≠ [] := fun j m e => by have := arc_len l j m; rw [e] at this; simp at this
  rcases Nat.lt_trichotomy i k with q | q | q
  · rw [cT' _ (decide_eq_true (by omega)), cF' _ (decide_eq_false (by omega)), stp_le (by omega) hk, stp_gt q hk, arc_take (by omega) hk]
    rw [gd_of (by unfold I64; omega), gd_of ⟨by omega, by omega, by omega⟩, gd_of (ne _ _), gd_of (by rw [arc_len]; omega), gd_of ⟨by omega, by omega⟩, gd_of (by unfold I64; omega), gd_of ⟨by omega, by omega, by omega⟩,
      concat_eq hN (by rw [List.length_drop]; omega) (by rw [List.length_drop]; omega) (by rw [List.length_take]; omega), bS, arc_wrap q hk, arc_len, arc_len]
    by_cases hc : k - i < 2 ∨ i + l.length - k < 2
    · rw [if_pos hc, cT' _ (decide_eq_true (by omega))]
    · rw [if_neg hc, cF' _ (decide_eq_false (by omega))]
  · subst q
    rw [cT' _ (decide_eq_true (by omega)), cT' _ (decide_eq_true (by omega)), stp_le (by omega) hk, arc_take (by omega) hk]
    rw [gd_of (by unfold I64; omega), gd_of ⟨by omega, by omega, by omega⟩, gd_of (ne _ _), gd_of (by rw [arc_len]; omega), gd_of (by unfold I64; omega), gd_of ⟨by omega, by omega, by omega⟩, gd_of (ne _ _), gd_of (by rw [arc_len]; omega), arc_len, if_pos (by omega), cT' _ (decide_eq_true (by omega))]
  · rw [cF' _ (decide_eq_false (by omega)), stp_gt q hi, stp_le (by omega) hi, arc_take (by omega) hi]
    rw [gd_of ⟨by omega, by omega⟩, gd_of (by unfold I64; omega), gd_of ⟨by omega, by omega, by omega⟩,
      concat_eq hN (by rw [List.length_drop]; omega) (by rw [List.length_drop]; omega) (by rw [List.length_take]; omega), bS, cT' _ (decide_eq_true (by omega)), arc_wrap q hi, gd_of (by unfold I64; omega), gd_of ⟨by omega, by omega, by omega⟩, gd_of (ne _ _), gd_of (by rw [arc_len]; omega), arc_len, arc_len]
    by_cases hc : k + l.length - i < 2 ∨ i - k < 2
    · rw [if_pos hc, cT' _ (decide_eq_true (by omega))]
    · rw [if_neg hc, cF' _ (decide_eq_false (by omega))]
/-! ### Sums round a polygon -/
def rs (f : Nat → Int) (n : Nat) : Int := ((List.range n).map f).sum
theorem rs_zero (f : Nat → Int) : rs f 0 = 0 := rfl
theorem rs_succ (f : Nat → Int) (n : Nat) : rs f (n + 1) = rs f n + f n := by
  unfold rs; rw [List.range_succ, List.map_append, List.sum_append]; simp
theorem rs_add (f : Nat → Int) (m : Nat) : ∀ k, rs f (m + k) = rs f m + rs (fun t => f (m + t)) k
  | 0 => by rw [Nat.add_zero, rs_zero, Int.add_zero]
  | k + 1 => by rw [← Nat.add_assoc, rs_succ, rs_succ, rs_add f m k, Int.add_assoc]
theorem rs_congr {f g : Nat → Int} {n : Nat} (h : ∀ t, t < n → f t = g t) : rs f n = rs g n := by
  unfold rs
  congr 1
  exact List.map_congr_left fun t ht => h t (by simpa using ht)
theorem rs_rot {f : Nat → Int} {n : Nat} (per : ∀ t, f (t + n) = f t) (i : Nat) : rs (fun t => f (i + t)) n = rs f n := by
  have h1 := rs_add f i n
  have h2 := rs_add f n i
  have h3 : rs (fun t => f (n + t)) i = rs f i := rs_congr fun t _ => by rw [Nat.add_comm]; exact per t
  rw [Nat.add_comm] at h2
  omega
theorem rs_tel (h : Nat → Int) : ∀ n, rs (fun t => h (t + 1) - h t) n = h n - h 0
  | 0 => by rw [rs_zero]; omega
  | n + 1 => by rw [rs_succ, rs_tel h n]; omega
theorem rs_plus (f g : Nat → Int) : ∀ n, rs (fun t => f t + g t) n = rs f n + rs g n
  | 0 => rfl
  | n + 1 => by rw [rs_succ, rs_succ, rs_succ, rs_plus f g n]; omega
/-- The sum of what edges count. -/
def cs (F : Pt × Pt → Int) (l : List Pt) : Int := ((edgesL l).map F).sum
theorem cs_rs (F : Pt × Pt → Int) (l : List Pt) : cs F l = rs (fun t => F (qa l t, qa l (t + 1))) l.length := by
  unfold cs rs edgesL
  rw [List.map_map]
  congr 1
  refine List.map_congr_left fun t ht => ?_
  rw [List.mem_range] at ht
  show F (pa l t, pa l ((t + 1) % l.length)) = F (qa l t, qa l (t + 1))
  rw [qa_lt ht]; rfl
/-- What only differs by what its ends count has the same sum. -/
theorem cs_eq {F G : Pt × Pt → Int} {H : Pt → Int} (l : List Pt) (h : ∀ e, G e = F e + (H e.2 - H e.1)) : cs G l = cs F l := by
  rw [cs_rs, cs_rs]
  have e : rs (fun t => G (qa l t, qa l (t + 1))) l.length = rs (fun t => F (qa l t, qa l (t + 1)) + (H (qa l (t + 1)) - H (qa l t))) l.length := rs_congr fun t _ => h _
  rw [e, rs_plus (fun t => F (qa l t, qa l (t + 1))) (fun t => H (qa l (t + 1)) - H (qa l t)), rs_tel (fun t => H (qa l t))]
  have : qa l l.length = qa l 0 := by have := qa_add l 0; rwa [Nat.zero_add] at this
  rw [this]; omega
theorem cs_arc (F : Pt × Pt → Int) (l : List Pt) (i m : Nat) : cs F (arc l i m) = rs (fun t => F (qa l (i + t), qa l (i + (t + 1)))) m + F (qa l (i + m), qa l i) := by
  rw [cs_rs, arc_len, rs_succ]
  have e1 : ∀ t, t ≤ m → qa (arc l i m) t = qa l (i + t) := fun t ht => by rw [qa_lt (by rw [arc_len]; omega), arc_pa ht]
  have e2 : qa (arc l i m) (m + 1) = qa l i := by
    have := qa_add (arc l i m) 0
    rw [arc_len, Nat.zero_add] at this
    rw [this, e1 0 (by omega), Nat.add_zero]
  rw [e2, e1 m (Nat.le_refl _)]
  congr 1
  exact rs_congr fun t ht => by rw [e1 t (by omega), e1 (t + 1) (by omega)]
/-- The parts of a cut have the sum of the whole. -/
theorem cs_cut {F : Pt × Pt → Int} (anti : ∀ a b, F (a, b) = - F (b, a)) (l : List Pt) {i k : Nat} (hi : i < l.length) (hk : k < l.length) (h : i ≠ k) : cs F (arc l i (stp l.length i k)) + cs F (arc l k (stp l.length k i)) = cs F l := by
  have hs := stp_sum hi hk h
  have h1 := stp_at hi hk
  have h2 := stp_at hk hi
  have q1 : qa l (i + stp l.length i k) = qa l k := by rw [← qa_mod, h1]
  have q2 : qa l (k + stp l.length k i) = qa l i := by rw [← qa_mod, h2]
  rw [cs_arc, cs_arc, q1, q2, anti (qa l i) (qa l k), cs_rs]
  have r := rs_rot (f := fun t => F (qa l t, qa l (t + 1))) (n := l.length) (fun t => by
    rw [qa_add, show t + l.length + 1 = t + 1 + l.length by omega, qa_add]) i
  rw [← r]
  have a := rs_add (fun t => F (qa l (i + t), qa l (i + t + 1))) (stp l.length i k) (stp l.length k i)
  rw [hs] at a
  rw [a]
  have c : rs (fun t => F (qa l (i + (stp l.length i k + t)), qa l (i + (stp l.length i k + t) + 1))) (stp l.length k i) = rs (fun t => F (qa l (k + t), qa l (k + (t + 1)))) (stp l.length k i) := rs_congr fun t _ => by
    have e : ∀ t, qa l (i + (stp l.length i k + t)) = qa l (k + t) := fun t => by
      rw [← Nat.add_assoc, ← qa_mod, Nat.add_mod, h1, ← Nat.mod_eq_of_lt hk, ← Nat.add_mod, qa_mod]
      rw [Nat.mod_eq_of_lt hk]
    rw [e, show i + (stp l.length i k + t) + 1 = i + (stp l.length i k + (t + 1)) by omega, e]
  rw [c]
  simp only [Nat.add_assoc]
  omega
def crs (a b : Pt) : Int := a.1 * b.2 - a.2 * b.1
theorem area_cs (l : List Pt) : areaS l = cs (fun e => crs e.1 e.2) l := cs_eq (H := fun p => crs p (pa l 0)) l fun e => by
  unfold arE trn crs; grind
theorem momX_cs (l : List Pt) : momX l = cs (fun e => crs e.1 e.2 * (e.1.1 + e.2.1)) l := cs_eq (H := fun p => crs p (pa l 0) * (p.1 + (pa l 0).1)) l fun e => by
  unfold mxE trn crs; grind
theorem momY_cs (l : List Pt) : momY l = cs (fun e => crs e.1 e.2 * (e.1.2 + e.2.2)) l := cs_eq (H := fun p => crs p (pa l 0) * (p.2 + (pa l 0).2)) l fun e => by
  unfold myE trn crs; grind
theorem cut_sums (l : List Pt) {i k : Nat} (hi : i < l.length) (hk : k < l.length) (h : i ≠ k) :
    areaS (arc l i (stp l.length i k)) + areaS (arc l k (stp l.length k i)) = areaS l ∧ momX (arc l i (stp l.length i k)) + momX (arc l k (stp l.length k i)) = momX l ∧ momY (arc l i (stp l.length i k)) + momY (arc l k (stp l.length k i)) = momY l := by
  simp only [area_cs, momX_cs, momY_cs]
  refine ⟨cs_cut (fun a b => ?_) l hi hk h, cs_cut (fun a b => ?_) l hi hk h, cs_cut (fun a b => ?_) l hi hk h⟩ <;> (unfold crs; simp only; grind)
end Go.Proofs.YtdabfcbelkjmgaaDoor.Am
/-
  Plain laws: what a cut does to places and seams.
-/
namespace Go.Proofs.YtdabfcbelkjmgaaDoor.Am
set_option linter.unusedSimpArgs false
set_option linter.unusedVariables false
theorem arc_qa {l : List Pt} {i m t : Nat} (ht : t ≤ m) : qa (arc l i m) t = qa l (i + t) := by rw [qa_lt (by rw [arc_len]; omega), arc_pa ht]
theorem arc_qa_end (l : List Pt) (i m : Nat) : qa (arc l i m) (m + 1) = qa l i := by
  have := qa_add (arc l i m) 0
  rw [arc_len, Nat.zero_add] at this
  rw [this, arc_qa (Nat.zero_le _), Nat.add_zero]
theorem arc_E {l : List Pt} {i m t : Nat} (ht : t < m) (p : Pt) : E (arc l i m) t p = trn (qa l (i + t)) (qa l (i + t + 1)) p := by
  rw [qa_E (by rw [arc_len]; omega) (by rw [arc_len]; omega), arc_qa (by omega), arc_qa (by omega)]; rfl
theorem arc_E_end {l : List Pt} {i m : Nat} (p : Pt) : E (arc l i m) m p = trn (qa l (i + m)) (qa l i) p := by
  rw [qa_E (by rw [arc_len]; omega) (by rw [arc_len]; omega), arc_qa (Nat.le_refl _), arc_qa_end]
theorem mem_arc {l : List Pt} {i m : Nat} {p : Pt} : p ∈ arc l i m ↔ ∃ t, t ≤ m ∧ p = qa l (i + t) := by
  unfold arc
  simp only [List.mem_map, List.mem_range]
  exact ⟨fun ⟨t, h, e⟩ => ⟨t, by omega, e.symm⟩, fun ⟨t, h, e⟩ => ⟨t, by omega, e.symm⟩⟩
/-- No corner is to the right of an edge. -/
theorem along_id (u w p i k v : Pt) : (trn u w p - trn u w i) * trn i v k - (trn u w k - trn u w i) * trn i v p = -trn i k p * ((w.1 - u.1) * (v.2 - i.2) - (w.2 - u.2) * (v.1 - i.1)) := by
  unfold trn; grind
/-- The two parts of a polygon that is cut. -/
structure CutAt (l : List Pt) (i k m m' : Nat) : Prop where
  h : VP l
  hm : 2 ≤ m
  hm' : 2 ≤ m'
  hs : m + m' = l.length
  hk : qa l (i + m) = qa l k
  hi : qa l (k + m') = qa l i
  hkt : ∀ t, qa l (i + (m + t)) = qa l (k + t)
theorem diag_ne {l : List Pt} {i k m m' : Nat} (C : CutAt l i k m m') : qa l k ≠ qa l i := by
  obtain ⟨h, hm, hm', hs, hk, hi, hkt⟩ := id C
  intro e
  have := conv_q h.cv (s := i) (a := m) hm (by omega)
  rw [hk, e, trn_self1] at this
  omega
/-- Seen from an edge of the first part, only its ends are on its line, of all corners of the second one. -/
theorem first_edge {l : List Pt} {i k m m' : Nat} (C : CutAt l i k m m') {t s : Nat} (ht : t < m) (hs' : s ≤ m') (hz : trn (qa l (i + t)) (qa l (i + t + 1)) (qa l (k + s)) = 0) : (s = 0 ∧ t + 1 = m) ∨ (s = m' ∧ t = 0) := by
  obtain ⟨h, hm, hm', hs, hk, hi, hkt⟩ := id C
  have e : qa l (k + s) = qa l (i + t + (m + s - t)) := by rw [← hkt]; congr 1; omega
  rw [e] at hz
  by_cases a1 : m + s - t = 1
  · exact .inl ⟨by omega, by omega⟩
  by_cases a2 : m + s - t = l.length
  · exact .inr ⟨by omega, by omega⟩
  have := conv_q h.cv (s := i + t) (a := m + s - t) (by omega) (by omega)
  omega
theorem diag_corner {l : List Pt} {i k m m' : Nat} (C : CutAt l i k m m') {s : Nat} (hs' : s ≤ m') (hz : trn (qa l k) (qa l i) (qa l (k + s)) = 0) : s = 0 ∨ s = m' := by
  obtain ⟨h, hm, hm', hs, hk, hi, hkt⟩ := id C
  by_cases h0 : s = 0
  · exact .inl h0
  by_cases h1 : s = m'
  · exact .inr h1
  exfalso
  have := triple h.cv k s (by omega) (m' - s - 1) (by omega)
  rw [show k + (s + (m' - s - 1) + 1) = k + m' by omega, hi] at this
  have e : trn (qa l k) (qa l i) (qa l (k + s)) = - trn (qa l k) (qa l (k + s)) (qa l i) := by unfold trn; grind
  omega
theorem edge_arc {l a : List Pt} {j n : Nat} {e : Pt × Pt} (ea : a = arc l j n) (he : e ∈ edgesL a) : (∃ t, t < n ∧ e = (qa l (j + t), qa l (j + t + 1))) ∨ e = (qa l (j + n), qa l j) := by
  subst ea
  obtain ⟨t, ht, rfl⟩ := mem_edges.1 he
  rw [arc_len] at ht ⊢
  by_cases e : t = n
  · subst e
    rw [Nat.mod_self, arc_pa (Nat.le_refl _), arc_pa (Nat.zero_le _), Nat.add_zero]
    exact .inr rfl
  · rw [Nat.mod_eq_of_lt (by omega), arc_pa (by omega), arc_pa (by omega)]
    exact .inl ⟨t, by omega, rfl⟩
theorem cand_diag {l : List Pt} {i k m m' : Nat} (C : CutAt l i k m m') : cand (qa l k, qa l i) (qa l i, qa l k) = some (qa l k, qa l i) := by
  obtain ⟨h, hm, hm', hs, hk, hi, hkt⟩ := id C
  have hne := diag_ne C
  generalize qa l k = P at *
  generalize qa l i = Q at *
  unfold cand
  rw [if_neg (by simp only [trn_self1, trn_self2]; simp)]
  have z : ordS P Q ≠ 0 := fun e => hne (ord_z.1 e)
  have ll : ∀ u v : Pt, lo u v = lo v u := fun u v => by
    unfold lo
    split <;> split <;> rename_i h1 h2
    · rw [ord_lt] at h1 h2; omega
    · rfl
    · rfl
    · have : ordS u v = 0 := by
        have h3 : ¬ 0 < ordS u v := fun q => h1 (by rw [ord_lt]; rw [ord_gt] at q; omega)
        omega
      exact ord_z.1 this
  have hh : ∀ u v : Pt, Am.hi u v = Am.hi v u := fun u v => by
    unfold Am.hi
    split <;> split <;> rename_i h1 h2
    · rw [ord_lt] at h1 h2; omega
    · rfl
    · rfl
    · have : ordS u v = 0 := by
        have h3 : ¬ 0 < ordS u v := fun q => h1 (by rw [ord_lt]; rw [ord_gt] at q; omega)
        omega
      exact (ord_z.1 this).symm
  have mx : ∀ u : Pt, maxO u u = u := fun u => by unfold maxO; split <;> rfl
  have mn : ∀ u : Pt, minO u u = u := fun u => by unfold minO; split <;> rfl
  have ec : comS P Q Q P = (lo P Q, Am.hi P Q) := by
    unfold comS
    rw [ll Q P, hh Q P, mx, mn]
  rw [ec]
  by_cases hg : 0 < ordS P Q
  · have h1 : ordS Q P < 0 := by rw [ord_lt]; rw [ord_gt] at hg; exact hg
    have e1 : lo P Q = Q := if_pos h1
    have e2 : Am.hi P Q = P := if_pos h1
    simp only [e1, e2]
    rw [if_neg (by
      rintro (q | q)
      · exact hne q.symm
      · omega), if_pos hg]
  · have h1 : ¬ ordS Q P < 0 := fun q => hg (by rw [ord_gt]; rw [ord_lt] at q; exact q)
    have e1 : lo P Q = P := if_neg h1
    have e2 : Am.hi P Q = Q := if_neg h1
    simp only [e1, e2]
    rw [if_neg (by
      rintro (q | q)
      · exact hne q
      · exact hg q), if_neg hg]
/-- Every edge of the whole is one of a part. -/
theorem edge_part {l : List Pt} {i k m m' : Nat} (C : CutAt l i k m m') (j : Nat) : (∃ t, t < m ∧ ∀ p, E l (j % l.length) p = E (arc l i m) t p) ∨ ∃ t, t < m' ∧ ∀ p, E l (j % l.length) p = E (arc l k m') t p := by
  obtain ⟨h, hm, hm', hs, hk, hi, hkt⟩ := id C
  have l3 := h.l3
  have hn : 0 < l.length := by omega
  have hst := stp_lt (n := l.length) (i := i % l.length) (k := j % l.length) hn
  have ha := stp_at (Nat.mod_lt i hn) (Nat.mod_lt j hn)
  rw [Nat.mod_add_mod] at ha
  have e : ∀ p, E l (j % l.length) p = trn (qa l (i + stp l.length (i % l.length) (j % l.length))) (qa l (i + stp l.length (i % l.length) (j % l.length) + 1)) p := fun p => by
    rw [E_qa hn, ha]
  generalize stp l.length (i % l.length) (j % l.length) = t at *
  by_cases c : t < m
  · exact .inl ⟨t, c, fun p => by rw [e, arc_E c]⟩
  · refine .inr ⟨t - m, by omega, fun p => ?_⟩
    rw [e, arc_E (by omega)]
    have q1 : qa l (i + t) = qa l (k + (t - m)) := by rw [← hkt]; congr 1; omega
    have q2 : qa l (i + t + 1) = qa l (k + (t - m) + 1) := by rw [show k + (t - m) + 1 = k + (t - m + 1) by omega, ← hkt]; congr 1; omega
    rw [q1, q2]
theorem part_edge1 {l : List Pt} {i k m m' : Nat} (C : CutAt l i k m m') {t : Nat} (ht : t < m) (p : Pt) : E (arc l i m) t p = E l ((i + t) % l.length) p := by
  obtain ⟨h, hm, hm', hs, hk, hi, hkt⟩ := id C
  rw [arc_E ht, E_qa (by omega)]
theorem part_edge2 {l : List Pt} {i k m m' : Nat} (C : CutAt l i k m m') {t : Nat} (ht : t < m') (p : Pt) : E (arc l k m') t p = E l ((k + t) % l.length) p := by
  obtain ⟨h, hm, hm', hs, hk, hi, hkt⟩ := id C
  rw [arc_E ht, E_qa (by omega)]
theorem diag1 {l : List Pt} {i k m m' : Nat} (C : CutAt l i k m m') (p : Pt) : E (arc l i m) m p = trn (qa l k) (qa l i) p := by
  obtain ⟨h, hm, hm', hs, hk, hi, hkt⟩ := id C
  rw [arc_E_end, hk]
theorem diag2 {l : List Pt} {i k m m' : Nat} (C : CutAt l i k m m') (p : Pt) : E (arc l k m') m' p = - trn (qa l k) (qa l i) p := by
  obtain ⟨h, hm, hm', hs, hk, hi, hkt⟩ := id C
  rw [arc_E_end, hi, trn_swap]
theorem part_inn {l : List Pt} {i k m m' : Nat} (C : CutAt l i k m m') {a : List Pt} (h0 : 0 < a.length) (hsub : ∀ q ∈ a, q ∈ l) {p : Pt} (hp : inn a p) : inn l p := by
  obtain ⟨h, hm, hm', hs, hk, hi, hkt⟩ := id C
  have l3 := h.l3
  intro j hj
  rcases Int.lt_or_le 0 (E l j p) with q | q
  · exact q
  exfalso
  have hmj : (j + 1) % l.length < l.length := Nat.mod_lt _ (by omega)
  have hv := h.ne hj
  refine inn_half h0 hp (g := ((pa l j).2 - (pa l ((j + 1) % l.length)).2, (pa l ((j + 1) % l.length)).1 - (pa l j).1)) (fun e => hv (by
    have e1 := congrArg Prod.fst e
    have e2 := congrArg Prod.snd e
    simp only at e1 e2
    exact Prod.ext (by omega) (by omega))) fun x hx => ?_
  obtain ⟨t, ht, rfl⟩ := pa_of (hsub x hx)
  have := q_nn h j t
  rw [qa_lt ht, E_qa (by omega), Nat.mod_eq_of_lt hj] at this
  have e : lin ((pa l j).2 - (pa l ((j + 1) % l.length)).2, (pa l ((j + 1) % l.length)).1 - (pa l j).1) p (pa l t) = E l j (pa l t) - E l j p := by
    unfold E lin trn; grind
  omega
theorem cut_inn {l : List Pt} {i k m m' : Nat} (C : CutAt l i k m m') (p : Pt) : inn l p ↔ inn (arc l i m) p ∨ inn (arc l k m') p ∨ ((clo (arc l i m) p ∧ clo (arc l k m') p) ∧ p ≠ qa l i ∧ p ≠ qa l k) := by
  obtain ⟨h, hm, hm', hs, hk, hi, hkt⟩ := id C
  have l3 := h.l3
  have hn : 0 < l.length := by omega
  constructor
  · intro hp
    have c1 : ∀ t, t < m → 0 < E (arc l i m) t p := fun t ht => by rw [part_edge1 C ht]; exact hp _ (Nat.mod_lt _ hn)
    have c2 : ∀ t, t < m' → 0 < E (arc l k m') t p := fun t ht => by rw [part_edge2 C ht]; exact hp _ (Nat.mod_lt _ hn)
    have d1 := diag1 C p
    have d2 := diag2 C p
    rcases Int.lt_trichotomy 0 (trn (qa l k) (qa l i) p) with q | q | q
    · refine .inl fun t ht => ?_
      rw [arc_len] at ht
      by_cases e : t = m
      · rw [e]; omega
      · exact c1 t (by omega)
    · refine .inr (.inr ⟨⟨fun t ht => ?_, fun t ht => ?_⟩, ?_, ?_⟩)
      · rw [arc_len] at ht
        by_cases e : t = m
        · rw [e]; omega
        · exact Int.le_of_lt (c1 t (by omega))
      · rw [arc_len] at ht
        by_cases e : t = m'
        · rw [e]; omega
        · exact Int.le_of_lt (c2 t (by omega))
      · intro e
        have := hp (i % l.length) (Nat.mod_lt _ hn)
        rw [← E_qa hn, e, trn_self1] at this
        omega
      · intro e
        have := hp (k % l.length) (Nat.mod_lt _ hn)
        rw [← E_qa hn, e, trn_self1] at this
        omega
    · refine .inr (.inl fun t ht => ?_)
      rw [arc_len] at ht
      by_cases e : t = m'
      · rw [e]; omega
      · exact c2 t (by omega)
  · rintro (hp | hp | ⟨⟨p1, p2⟩, n1, n2⟩)
    · exact part_inn C (by rw [arc_len]; omega) (fun q hq => arc_mem hn hq) hp
    · exact part_inn C (by rw [arc_len]; omega) (fun q hq => arc_mem hn hq) hp
    · have z : trn (qa l k) (qa l i) p = 0 := by
        have a1 := p1 m (by rw [arc_len]; omega)
        have a2 := p2 m' (by rw [arc_len]; omega)
        rw [diag1 C] at a1
        rw [diag2 C] at a2
        omega
      have nn : ∀ j, 0 ≤ E l (j % l.length) p := fun j => by
        rcases edge_part C j with ⟨t, ht, e⟩ | ⟨t, ht, e⟩
        · rw [e]; exact p1 t (by rw [arc_len]; omega)
        · rw [e]; exact p2 t (by rw [arc_len]; omega)
      intro j hj
      have f0 := nn j
      rw [Nat.mod_eq_of_lt hj] at f0
      rcases Int.lt_or_eq_of_le f0 with q | q
      · exact q
      exfalso
      -- how far along the diagonal the place is, seen from its two ends
      have A : 0 < trn (qa l i) (qa l (i + 1)) (qa l k) := by rw [← hk]; exact conv_q h.cv hm (by omega)
      have B : 0 < trn (qa l k) (qa l (k + 1)) (qa l i) := by rw [← hi]; exact conv_q h.cv hm' (by omega)
      have α : 0 ≤ trn (qa l i) (qa l (i + 1)) p := by rw [E_qa hn]; exact nn i
      have β : 0 ≤ trn (qa l k) (qa l (k + 1)) p := by rw [E_qa hn]; exact nn k
      have z2 : trn (qa l i) (qa l k) p = 0 := by rw [trn_swap]; omega
      have α' : trn (qa l i) (qa l (i + 1)) p ≠ 0 := fun e => n1 (trn_z e z2 (by omega))
      have β' : trn (qa l k) (qa l (k + 1)) p ≠ 0 := fun e => n2 (trn_z e z (by omega))
      have g1 := q_nn h j i
      have g2 := q_nn h j k
      have fp : trn (qa l j) (qa l (j + 1)) p = 0 := by rw [E_qa hn, Nat.mod_eq_of_lt hj]; omega
      -- what counts along a line
      have along : ∀ u w : Pt, (trn u w p - trn u w (qa l i)) * trn (qa l i) (qa l (i + 1)) (qa l k) = (trn u w (qa l k) - trn u w (qa l i)) * trn (qa l i) (qa l (i + 1)) p := fun u w => by
        have := along_id u w p (qa l i) (qa l k) (qa l (i + 1))
        rw [z2, Int.neg_zero, Int.zero_mul] at this
        omega
      have al2 := along (qa l k) (qa l (k + 1))
      rw [trn_self1] at al2
      have al1 := along (qa l j) (qa l (j + 1))
      rw [fp] at al1
      -- both ends are on the edge's line
      have both : trn (qa l j) (qa l (j + 1)) (qa l i) = 0 ∧ trn (qa l j) (qa l (j + 1)) (qa l k) = 0 := by
        generalize trn (qa l i) (qa l (i + 1)) (qa l k) = A' at *
        generalize trn (qa l k) (qa l (k + 1)) (qa l i) = B' at *
        generalize trn (qa l i) (qa l (i + 1)) p = a' at *
        generalize trn (qa l k) (qa l (k + 1)) p = b' at *
        generalize trn (qa l j) (qa l (j + 1)) (qa l i) = x at *
        generalize trn (qa l j) (qa l (j + 1)) (qa l k) = y at *
        have e1 : B' * (A' - a') = A' * b' := by grind
        have e2 := Int.mul_pos A (show 0 < b' by omega)
        have e3 : 0 < A' - a' := pos_of_mul B (by omega)
        have e4 : x * (A' - a') + y * a' = 0 := by grind
        have e5 := Int.mul_nonneg g1 (Int.le_of_lt e3)
        have e6 := Int.mul_nonneg g2 α
        have e7 : x * (A' - a') = 0 := by omega
        have e8 : y * a' = 0 := by omega
        rcases Int.mul_eq_zero.1 e7 with c | c
        · rcases Int.mul_eq_zero.1 e8 with c' | c'
          · exact ⟨c, c'⟩
          · omega
        · omega
      rcases edge_part C j with ⟨t, ht, e⟩ | ⟨t, ht, e⟩
      · have b1 := both.1
        have b2 := both.2
        rw [E_qa hn, e, arc_E ht] at b1 b2
        have k1 := first_edge C ht (Nat.le_refl m') (by rw [hi]; exact b1)
        have k2 := first_edge C ht (Nat.zero_le m') (by rw [Nat.add_zero]; exact b2)
        omega
      · have b1 := both.1
        have b2 := both.2
        rw [E_qa hn, e, arc_E ht] at b1 b2
        -- the same seen from the other part
        by_cases c1 : t = 0
        · subst c1
          rw [Nat.add_zero] at b1
          omega
        · have := conv_q h.cv (s := k + t) (a := l.length - t) (by omega) (by omega)
          rw [show k + t + (l.length - t) = k + l.length by omega, qa_add] at this
          omega
end Go.Proofs.YtdabfcbelkjmgaaDoor.Am
