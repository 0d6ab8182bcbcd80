import Derived.Test.YtdabfcbelkjmgaaDoorM4
import Derived.Test.YtdabfcbelkjmgaaDoorD2
/-
  Plain laws: parts of a polygon; pairs of polygons.
-/
namespace Go.Proofs.YtdabfcbelkjmgaaDoor.Am
set_option linter.unusedSimpArgs false
set_option linter.unusedVariables false
/-! ### Corners counted on and on -/
def qa (l : List Pt) (t : Nat) : Pt := pa l (t % l.length)
theorem qa_lt {l : List Pt} {t : Nat} (h : t < l.length) : qa l t = pa l t := by unfold qa; rw [Nat.mod_eq_of_lt h]
theorem qa_add (l : List Pt) (t : Nat) : qa l (t + l.length) = qa l t := by unfold qa; rw [Nat.add_mod_right]
theorem qa_mod (l : List Pt) (t : Nat) : qa l (t % l.length) = qa l t := by unfold qa; rw [Nat.mod_mod]
theorem qa_mem {l : List Pt} (h : 0 < l.length) (t : Nat) : qa l t ∈ l := pa_mem (Nat.mod_lt _ h)
theorem mod_ne {n s a b : Nat} (ha : a < n) (hb : b < n) (h : a ≠ b) : (s + a) % n ≠ (s + b) % n := fun e => h (mod_add_inj ha hb e)
theorem conv_q {l : List Pt} (h : Conv l) {s a : Nat} (h2 : 2 ≤ a) (ha : a < l.length) : 0 < trn (qa l s) (qa l (s + 1)) (qa l (s + a)) := by
  have hn : 0 < l.length := by omega
  have e := h (s % l.length) ((s + a) % l.length) (Nat.mod_lt _ hn) (Nat.mod_lt _ hn) (fun e => mod_ne (s := s) (by omega : a < l.length) (by omega : 0 < l.length) (by omega) (by simpa using e)) (fun e => mod_ne (s := s) (by omega : a < l.length) (by omega : 1 < l.length) (by omega) (by rw [e, Nat.mod_add_mod]))
  rw [Nat.mod_add_mod] at e
  exact e
/-- Three corners, as they come. -/
theorem triple {l : List Pt} (h : Conv l) (s a : Nat) (h1 : 1 ≤ a) : ∀ d, a + d + 1 < l.length → 0 < trn (qa l s) (qa l (s + a)) (qa l (s + (a + d + 1)))
  | 0, hd => by
    have e := conv_q h (s := s + a) (a := l.length - a) (by omega) (by omega)
    rw [show s + a + (l.length - a) = s + l.length by omega, qa_add, trn_rot, trn_rot] at e
    have e2 := trn_rot (qa l s) (qa l (s + a)) (qa l (s + a + 1))
    rw [show s + (a + 0 + 1) = s + a + 1 by omega]
    have e3 := trn_rot (qa l (s + a)) (qa l (s + a + 1)) (qa l s)
    omega
  | d + 1, hd => by
    have ih := triple h s a h1 d (by omega)
    have ed := triple h s (a + d + 1) (by omega) 0 (by omega)
    rw [show s + (a + d + 1 + 0 + 1) = s + (a + (d + 1) + 1) by omega] at ed
    have lb : 0 < trn (qa l s) (qa l (s + 1)) (qa l (s + (a + d + 1))) := conv_q h (by omega) (by omega)
    have lc : 0 < trn (qa l s) (qa l (s + 1)) (qa l (s + (a + (d + 1) + 1))) := conv_q h (by omega) (by omega)
    have la : 0 ≤ trn (qa l s) (qa l (s + 1)) (qa l (s + a)) := by
      by_cases e : a = 1
      · rw [e, trn_self2]; omega
      · exact Int.le_of_lt (conv_q h (by omega) (by omega))
    generalize qa l (s + 1) = v at *
    generalize qa l (s + (a + (d + 1) + 1)) = C at *
    generalize qa l (s + (a + d + 1)) = B at *
    generalize qa l (s + a) = A at *
    generalize qa l s = o at *
    have key : trn o v B * trn o A C = trn o v A * trn o B C + trn o v C * trn o A B := by unfold trn; grind
    have k1 : 0 ≤ trn o v A * trn o B C := Int.mul_nonneg la (by omega)
    have k2 := Int.mul_pos lc ih
    exact pos_of_mul lb (by omega)
/-- Some corners, from one on. -/
def arc (l : List Pt) (i m : Nat) : List Pt := (List.range (m + 1)).map fun t => qa l (i + t)
theorem arc_len (l : List Pt) (i m : Nat) : (arc l i m).length = m + 1 := by simp [arc]
theorem arc_pa {l : List Pt} {i m t : Nat} (h : t ≤ m) : pa (arc l i m) t = qa l (i + t) := by
  rw [pa_get (by rw [arc_len]; omega)]; simp [arc]
theorem arc_mem {l : List Pt} (hl : 0 < l.length) {i m : Nat} {p : Pt} (h : p ∈ arc l i m) : p ∈ l := by
  unfold arc at h
  obtain ⟨t, _, rfl⟩ := List.mem_map.1 h
  exact qa_mem hl _
theorem arc_vp {l : List Pt} (h : VP l) {i m : Nat} (h2 : 2 ≤ m) (hm : m < l.length) : VP (arc l i m) := by
  have l3 := h.l3
  refine ⟨by rw [arc_len]; omega, by rw [arc_len]; have := h.l8; omega, fun p hp => h.on p (arc_mem (by omega) hp), ?_⟩
  intro t k ht hk n1 n2
  rw [arc_len] at ht hk n2 ⊢
  by_cases e : t = m
  · subst e
    rw [Nat.mod_self] at n2 ⊢
    rw [arc_pa (Nat.le_refl _), arc_pa (Nat.zero_le _), arc_pa (by omega)]
    have := triple h.cv i k (by omega) (t - k - 1) (by omega)
    rw [show k + (t - k - 1) + 1 = t by omega] at this
    rw [Nat.add_zero, trn_rot, trn_rot]
    exact this
  · rw [Nat.mod_eq_of_lt (by omega)] at n2 ⊢
    rw [arc_pa (by omega), arc_pa (by omega), arc_pa (by omega)]
    by_cases hkt : t < k
    · have := conv_q h.cv (s := i + t) (a := k - t) (by omega) (by omega)
      rw [show i + t + (k - t) = i + k by omega] at this
      exact this
    · have := conv_q h.cv (s := i + t) (a := l.length + k - t) (by omega) (by omega)
      rw [show i + t + (l.length + k - t) = i + k + l.length by omega, qa_add] at this
      exact this
/-! ### The reference's valid polygons, and its cuts -/
theorem ron_eq (N : Nat) (p : Pt) : D_putlogref07_OnMap N p.1 p.2 = some (decide (On p)) := by
  unfold D_putlogref07_OnMap
  congr 1
  by_cases h : On p
  · rw [decide_eq_true h]
    unfold On at h
    simp only [Bool.and_eq_true, decide_eq_true_eq]
    omega
  · rw [decide_eq_false h]
    unfold On at h
    rw [Bool.eq_false_iff]
    simp only [ne_eq, Bool.and_eq_true, decide_eq_true_eq]
    omega
theorem rend_eq (N : Nat) {l : List Pt} {i : Nat} (hl : l.length ≤ 1000) (h : i < l.length) : D_putlogref07_end N l i = some (pa l ((i + 1) % l.length)) := by
  unfold D_putlogref07_end
  rw [gd_of (by unfold I64; omega), gd_of (by omega), tmod_nat, nth_pa (Nat.mod_lt _ (by omega)), bS]
open Classical in
theorem rvalid_L4 {N : Nat} {l : List Pt} (hl : l.length ≤ 50) (ho : ∀ p ∈ l, Sml p) {i : Nat} (hi : i < l.length) (n : Nat) (hn : l.length < n) :
    D_putlogref07_Valid_L4 N l i n 0 = some (if ∀ k, k < l.length → k ≠ i → k ≠ (i + 1) % l.length → 0 < trn (pa l i) (pa l ((i + 1) % l.length)) (pa l k) then .inl () else .inr false) := by
  have hm : (i + 1) % l.length < l.length := Nat.mod_lt _ (by omega)
  have step : ∀ n (k : Nat), k < l.length → D_putlogref07_Valid_L4 N l i (n + 1) k = if (k ≠ i ∧ k ≠ (i + 1) % l.length) ∧ trn (pa l i) (pa l ((i + 1) % l.length)) (pa l k) ≤ 0 then some (.inr false) else D_putlogref07_Valid_L4 N l i n ((k + 1 : Nat) : Int) := fun n k hk => by
    rw [D_putlogref07_Valid_L4]
    have tu := rturn_eq (N := N) (ho _ (pa_mem hi)) (ho _ (pa_mem hm)) (ho _ (pa_mem hk))
    have e2 : l.getD (i : Int).toNat (0, 0) = pa l i := by rw [Int.toNat_natCast]; rfl
    have e3 : l.getD (k : Int).toNat (0, 0) = pa l k := by rw [Int.toNat_natCast]; rfl
    rw [dlt hk, cT, rend_eq N (by omega) hi, e2, e3, Option.getD_some, tu, tmod_nat, Option.getD_some]
    rw [gd_of (fun _ => by unfold I64; omega), gd_of (fun _ => by omega), gd_of (fun _ => ⟨by omega, by omega⟩), gd_of (fun _ => Option.isSome_some), gd_of (fun _ => ⟨by omega, by omega⟩), gd_of (fun _ => Option.isSome_some), gd_of (by unfold I64; omega)]
    by_cases h : (k ≠ i ∧ k ≠ (i + 1) % l.length) ∧ trn (pa l i) (pa l ((i + 1) % l.length)) (pa l k) ≤ 0
    · rw [if_pos h]
      rw [cT' _ (by
        obtain ⟨⟨h1, h2⟩, h3⟩ := h
        simp only [Bool.and_eq_true, decide_eq_true_eq]
        exact ⟨⟨by omega, by omega⟩, h3⟩)]
    · rw [if_neg h]
      rw [cF' _ (by
        rw [Bool.eq_false_iff]
        intro hb
        simp only [Bool.and_eq_true, decide_eq_true_eq] at hb
        exact h ⟨⟨by omega, by omega⟩, hb.2⟩), ns]
  have key := find0 (L := D_putlogref07_Valid_L4 N l i) (len := l.length) (fun k => if (k ≠ i ∧ k ≠ (i + 1) % l.length) ∧ trn (pa l i) (pa l ((i + 1) % l.length)) (pa l k) ≤ 0 then some false else none)
    (fun n k hk hf => by
      rw [step n k hk, if_neg]
      intro h; rw [if_pos h] at hf; cases hf) (fun n k r hk hf => by
      by_cases h : (k ≠ i ∧ k ≠ (i + 1) % l.length) ∧ trn (pa l i) (pa l ((i + 1) % l.length)) (pa l k) ≤ 0
      · rw [step n k hk, if_pos h]; rw [if_pos h] at hf; cases hf; rfl
      · rw [if_neg h] at hf; cases hf) (fun n => by
      rw [D_putlogref07_Valid_L4, dge, cF]) n (by omega)
  rcases key with ⟨e, h⟩ | ⟨j, r, a2, a3, a4, e⟩
  · rw [e, if_pos]
    intro k hk h1 h2
    have := h k hk
    rcases Int.lt_or_le 0 (trn (pa l i) (pa l ((i + 1) % l.length)) (pa l k)) with h3 | h3
    · exact h3
    · rw [if_pos ⟨⟨h1, h2⟩, h3⟩] at this; cases this
  · rw [e]
    split at a3
    · rename_i h; cases a3
      rw [if_neg]
      intro hA
      have := hA j a2 h.1.1 h.1.2
      omega
    · cases a3
open Classical in
theorem rvalid_eq {N : Nat} (hN : 100 ≤ N) (l : List Pt) : D_putlogref07_Valid N l = some (vB l) := by
  unfold D_putlogref07_Valid
  by_cases hl : l.length < 3 ∨ 8 < l.length
  · have e2 : vB l = false := vB_f.2 fun h => by have := h.l3; have := h.l8; omega
    rw [cT' _ (by simp; omega), e2]
  rw [cF' _ (by simp; omega)]
  have key := find0 (L := D_putlogref07_Valid_L1 N l) (len := l.length) (fun i => if On (pa l i) then none else some false) (fun n k hk hf => by
      rw [D_putlogref07_Valid_L1]
      have hon : On (pa l k) := by
        by_cases h : On (pa l k)
        · exact h
        · simp [h] at hf
      rw [dlt hk, cT, nth_pa hk, bS]
      simp only
      rw [ron_eq, bS, decide_eq_true hon, cF' _ (by rfl), gd_of (by unfold I64; omega), ns]) (fun n k r hk hf => by
      rw [D_putlogref07_Valid_L1]
      have hon : ¬ On (pa l k) := fun h => by simp [h] at hf
      rw [if_neg hon] at hf
      rw [dlt hk, cT, nth_pa hk, bS]
      simp only
      rw [ron_eq, bS, decide_eq_false hon, cT' _ (by rfl), ← Option.some.inj hf]) (fun n => by
      rw [D_putlogref07_Valid_L1, dge, cF]) N (by omega)
  rcases key with ⟨e, h⟩ | ⟨j, r, a2, a3, a4, e⟩
  · rw [e, bS]
    simp only
    have hon : ∀ p ∈ l, On p := fun p hp => by
      obtain ⟨i, hi, rfl⟩ := pa_of hp
      have := h i hi
      by_cases ho : On (pa l i)
      · exact ho
      · simp [ho] at this
    have hs : ∀ p ∈ l, Sml p := fun p hp => (hon p hp).sml
    have step : ∀ n (i : Nat), i < l.length → D_putlogref07_Valid_L2 N l (n + 1) i = if ∀ k, k < l.length → k ≠ i → k ≠ (i + 1) % l.length → 0 < trn (pa l i) (pa l ((i + 1) % l.length)) (pa l k) then D_putlogref07_Valid_L2 N l n ((i + 1 : Nat) : Int) else some (.inr false) := fun n i hi => by
      rw [D_putlogref07_Valid_L2, dlt hi, cT, rvalid_L4 (by omega) hs hi N (by omega)]
      split
      · rw [bS]
        simp only
        rw [gd_of (by unfold I64; omega), ns]
      · rw [bS]
    have key := find0 (L := D_putlogref07_Valid_L2 N l) (len := l.length) (fun i => if ∀ k, k < l.length → k ≠ i → k ≠ (i + 1) % l.length → 0 < trn (pa l i) (pa l ((i + 1) % l.length)) (pa l k) then none else some false)
      (fun n k hk hf => by
        rw [step n k hk]
        split
        · rfl
        · rename_i h; simp [if_neg h] at hf) (fun n k r hk hf => by
        rw [step n k hk]
        split
        · rename_i h; rw [if_pos h] at hf; cases hf
        · rename_i h; rw [if_neg h] at hf; cases hf; rfl) (fun n => by
        rw [D_putlogref07_Valid_L2, dge, cF]) N (by omega)
    rcases key with ⟨e, h⟩ | ⟨j, r, a2, a3, a4, e⟩
    · rw [e, bS]
      simp only
      congr 1
      symm
      refine vB_t.2 ⟨by omega, by omega, hon, fun i k hi hk n1 n2 => ?_⟩
      have := h i hi
      split at this
      · rename_i h; exact h k hk n1 n2
      · cases this
    · rw [e, bS]
      simp only
      split at a3
      · cases a3
      · rename_i h; cases a3
        congr 1
        symm
        exact vB_f.2 fun hv => h fun k hk n1 n2 => hv.cv j k a2 hk n1 n2
  · rw [e, bS]
    simp only
    by_cases hon : On (pa l j)
    · simp [hon] at a3
    · simp only [hon, if_false, Option.some.injEq] at a3
      subst a3
      congr 1
      symm
      exact vB_f.2 fun hv => hon (hv.on _ (pa_mem a2))
/-- How many steps it is from a corner on to another one. -/
def stp (n i k : Nat) : Nat := (k + n - i) % n
theorem stp_lt {n i k : Nat} (h : 0 < n) : stp n i k < n := Nat.mod_lt _ h
theorem stp_at {n i k : Nat} (hi : i < n) (hk : k < n) : (i + stp n i k) % n = k := by
  unfold stp
  by_cases h : i ≤ k
  · have e : (k + n - i) % n = k - i := by rw [Nat.mod_eq_sub_mod (by omega), Nat.mod_eq_of_lt (by omega)]; omega
    rw [e, show i + (k - i) = k by omega, Nat.mod_eq_of_lt hk]
  · have e : (k + n - i) % n = k + n - i := Nat.mod_eq_of_lt (by omega)
    rw [e, show i + (k + n - i) = k + n by omega, Nat.add_mod_right, Nat.mod_eq_of_lt hk]
theorem arc_snoc (l : List Pt) (i m : Nat) : arc l i m ++ [qa l (i + m + 1)] = arc l i (m + 1) := by
  unfold arc
  rw [List.range_succ (n := m + 1), List.map_append]; rfl
theorem walk_loop (N : Nat) {l : List Pt} (hl : l.length ≤ 1000) {i k : Nat} (hi : i < l.length) (hk : k < l.length) : ∀ (n t : Nat), t ≤ stp l.length i k → stp l.length i k < n + t → D_putlogref07_walk_L1 N k l n (((i + t) % l.length : Nat) : Int) (arc l i t) = some (arc l i (stp l.length i k))
  | 0, t, h1, h2 => by omega
  | n + 1, t, h1, h2 => by
    rw [D_putlogref07_walk_L1]
    have hs := stp_lt (i := i) (k := k) (show 0 < l.length by omega)
    have ha := stp_at hi hk
    by_cases e : t = stp l.length i k
    · subst e
      rw [ha, cF' _ (by simp)]
    · have hne : (i + t) % l.length ≠ k := fun q => e (mod_add_inj (by omega) hs (by rw [q, ha]))
      have hm : (i + t) % l.length < l.length := Nat.mod_lt _ (by omega)
      rw [cT' _ (decide_eq_true (by omega)), gd_of (by unfold I64; omega), gd_of (by omega), tmod_nat, nth_pa (Nat.mod_lt _ (by omega)), bS]
      simp only
      rw [gd_of (by rw [arc_len]; omega)]
      have e2 : [((pa l (((i + t) % l.length + 1) % l.length)).1, (pa l (((i + t) % l.length + 1) % l.length)).2)] = [qa l (i + t + 1)] := by
        unfold qa; rw [Nat.mod_add_mod]
      rw [e2, arc_snoc, Nat.mod_add_mod]
      exact walk_loop N hl hi hk n (t + 1) (by omega) (by omega)
theorem walk_eq {N : Nat} (hN : 100 ≤ N) {l : List Pt} (hl : l.length ≤ 50) {i k : Nat} (hi : i < l.length) (hk : k < l.length) : D_putlogref07_walk N l i k = some (arc l i (stp l.length i k)) := by
  unfold D_putlogref07_walk
  have hs := stp_lt (i := i) (k := k) (show 0 < l.length by omega)
  have := walk_loop N (by omega) hi hk N 0 (by omega) (by omega)
  rw [Nat.add_zero, Nat.mod_eq_of_lt hi] at this
  have e : arc l i 0 = [((pa l i).1, (pa l i).2)] := by
    unfold arc
    simp [qa_lt hi]
  rw [e] at this
  rw [nth_pa hi, bS]
  simp only
  rw [this, bS]
/-- What a cut gives. -/
def cutS (l : List Pt) (i k : Nat) : List Pt × List Pt × Int :=
  if stp l.length i k < 2 ∨ stp l.length k i < 2 then ([], [], 70) else (arc l i (stp l.length i k), arc l k (stp l.length k i), 0)
theorem rcut_eq {N : Nat} (hN : 100 ≤ N) {l : List Pt} (h : VP l) {i k : Nat} (hi : i < l.length) (hk : k < l.length) : D_putlogref07_Cut N l i k = some (cutS l i k) := by
  unfold D_putlogref07_Cut cutS
  have l8 := h.l8
  rw [rvalid_eq hN, vB_t.2 h, bS, cF' _ (by simp; omega), walk_eq hN (by omega) hi hk, bS, walk_eq hN (by omega) hk hi, bS, arc_len, arc_len]
  by_cases hc : stp l.length i k < 2 ∨ stp l.length k i < 2
  · rw [if_pos hc, cT' _ (by simp; omega)]
  · rw [if_neg hc, cF' _ (by rw [Bool.eq_false_iff]; simp; omega)]
theorem pair_loop {N : Nat} {x : List Pt} (hx : In2 x) : ∀ (n i : Nat) (out : List Pt), i ≤ 6 → i ≤ x.length → out.length = i → In2 out → 6 < n + i → ∃ P, D_putlogref07_Pair_L14 N x n i out = some P ∧ P.length ≤ 6 ∧ In2 P
  | 0, i, out, h8, hi, ho, hp, hn => by omega
  | n + 1, i, out, h8, hi, ho, hp, hn => by
    rw [D_putlogref07_Pair_L14]
    by_cases hc : i < x.length ∧ i < 6
    · obtain ⟨c1, c2⟩ := hc
      rw [cT' _ (by simp; omega), nth_pa c1, bS]
      simp only
      rw [gd_of (by omega), gd_of (by unfold I64; omega), ← ns]
      refine pair_loop hx n (i + 1) _ (by omega) (by omega) (by simp; omega) (fun p hp' => ?_) (by omega)
      rcases List.mem_append.1 hp' with h | h
      · exact hp p h
      · simp at h
        subst h
        exact hx _ (pa_mem c1)
    · rw [cF' _ (by rw [Bool.eq_false_iff]; simp; omega)]
      exact ⟨out, rfl, by omega, hp⟩
theorem pair_loop2 {N : Nat} {x : List Pt} (hx : In2 x) : ∀ (n i : Nat) (out : List Pt), i ≤ 6 → i ≤ x.length → out.length = i → In2 out → 6 < n + i → ∃ P, D_putlogref07_Pair_L16 N x n i out = some P ∧ P.length ≤ 6 ∧ In2 P
  | 0, i, out, h8, hi, ho, hp, hn => by omega
  | n + 1, i, out, h8, hi, ho, hp, hn => by
    rw [D_putlogref07_Pair_L16]
    by_cases hc : i < x.length ∧ i < 6
    · obtain ⟨c1, c2⟩ := hc
      rw [cT' _ (by simp; omega), nth_pa c1, bS]
      simp only
      rw [gd_of (by omega), gd_of (by unfold I64; omega), ← ns]
      refine pair_loop2 hx n (i + 1) _ (by omega) (by omega) (by simp; omega) (fun p hp' => ?_) (by omega)
      rcases List.mem_append.1 hp' with h | h
      · exact hp p h
      · simp at h
        subst h
        exact hx _ (pa_mem c1)
    · rw [cF' _ (by rw [Bool.eq_false_iff]; simp; omega)]
      exact ⟨out, rfl, by omega, hp⟩
theorem tdiv_I64 {n d : Int} (h : I64 n) (hd : 1 < d) (hd2 : d ≤ 1000) : I64 (n.tdiv d) := by
  unfold I64 at *
  rcases Int.le_total 0 n with h0 | h0
  · have h1 := Int.tdiv_nonneg h0 (show 0 ≤ d by omega)
    have h2 : n.tdiv d ≤ n := Int.tdiv_le_self d h0
    omega
  · have e : n.tdiv d = - ((-n).tdiv d) := by rw [Int.neg_tdiv, Int.neg_neg]
    have h1 := Int.tdiv_nonneg (show 0 ≤ -n by omega) (show 0 ≤ d by omega)
    have h2 : (-n).tdiv d ≤ -n := Int.tdiv_le_self d (by omega)
    omega
theorem pair_ok {N : Nat} (hN : 1000 ≤ N) (hNb : N ≤ 4000) {x y : List Pt} {how : Int} (hx : In2 x) (hy : In2 y) (hh : I64 how) : ∃ a b, D_putlogref07_Pair N x y how = some (a, b) ∧ VP a ∧ VP b := by
  unfold D_putlogref07_Pair
  rw [rpick_eq hh (by omega), bS]
  obtain ⟨X, eX, hX⟩ := made_ok hN hNb hx (low := 0) (high := 40) (by omega) (by omega) (by omega)
  obtain ⟨Y, eY, hY⟩ := made_ok hN hNb hy (low := 0) (high := 40) (by omega) (by omega) (by omega)
  by_cases c0 : pk how 3 = 0
  · rw [decide_eq_true c0, cT, eX, bS, eY, bS]
    exact ⟨X, Y, rfl, hX.vp, hY.vp⟩
  rw [decide_eq_false c0, cF]
  have d3 := tdiv_I64 (d := 3) hh (by omega) (by omega)
  by_cases c1 : pk how 3 = 1
  · rw [decide_eq_true c1, cT]
    obtain ⟨P, eP, lP, hP⟩ := pair_loop (N := N) hx N 0 [] (by omega) (by omega) rfl (by intro p hp; simp at hp) (by omega)
    obtain ⟨Q, eQ, lQ, hQ⟩ := pair_loop2 (N := N) hy N 0 [] (by omega) (by omega) rfl (by intro p hp; simp at hp) (by omega)
    rw [Int.natCast_zero] at eP eQ
    have d90 := tdiv_I64 (d := 90) hh (by omega) (by omega)
    have d900 := tdiv_I64 (d := 900) hh (by omega) (by omega)
    have d7 := tdiv_I64 (d := 7) hh (by omega) (by omega)
    have b1 := @pk_bd (how.tdiv 3) 30 (by omega)
    have b2 := @pk_bd (how.tdiv 90) 10 (by omega)
    have b3 := @pk_bd (how.tdiv 900) 40 (by omega)
    have b4 := @pk_bd (how.tdiv 7) 40 (by omega)
    rw [eP, bS, eQ, bS, gd_of d3, rpick_eq d3 (by omega), bS, gd_of (by unfold I64; omega), gd_of d90, rpick_eq d90 (by omega), bS, gd_of (by unfold I64; omega), gd_of (by omega), gd_of d900, rpick_eq d900 (by omega), bS, gd_of d7, rpick_eq d7 (by omega), bS, gd_of (by omega)]
    have q1 : In2 (P ++ [(20, pk (how.tdiv 3) 30), (20, pk (how.tdiv 3) 30 + 1 + pk (how.tdiv 90) 10)]) := fun p hp => by
      rcases List.mem_append.1 hp with h | h
      · exact hP p h
      · simp at h
        rcases h with rfl | rfl <;> unfold I64 <;> simp only <;> omega
    have q2 : In2 (Q ++ [(0, pk (how.tdiv 900) 40), (0, pk (how.tdiv 7) 40)]) := fun p hp => by
      rcases List.mem_append.1 hp with h | h
      · exact hQ p h
      · simp at h
        rcases h with rfl | rfl <;> unfold I64 <;> simp only <;> omega
    obtain ⟨A, eA, hA⟩ := made_ok hN hNb q1 (low := 0) (high := 20) (by omega) (by omega) (by omega)
    obtain ⟨B, eB, hB⟩ := made_ok hN hNb q2 (low := 20) (high := 40) (by omega) (by omega) (by omega)
    rw [eA, bS, eB, bS]
    exact ⟨A, B, rfl, hA.vp, hB.vp⟩
  rw [decide_eq_false c1, cF]
  have l3 := hX.vp.l3
  have l8 := hX.vp.l8
  have b := @pk_bd (how.tdiv 3) (X.length : Int) (by omega)
  rw [eX, bS, gd_of d3, rpick_eq d3 (by omega), bS]
  obtain ⟨k, hk⟩ : ∃ k : Nat, pk (how.tdiv 3) (X.length : Int) = k := ⟨(pk (how.tdiv 3) (X.length : Int)).toNat, by omega⟩
  rw [hk] at b ⊢
  have e2 : ((k : Int) + 2).tmod (X.length : Int) = (((k + 2) % X.length : Nat) : Int) := by
    rw [Int.tmod_eq_emod_of_nonneg (by omega)]; rfl
  have hk' : k < X.length := by omega
  have hm : (k + 2) % X.length < X.length := Nat.mod_lt _ (by omega)
  rw [gd_of (by unfold I64; omega), gd_of (by omega), e2, rcut_eq (by omega) hX.vp hk' hm, bS]
  unfold cutS
  by_cases hc : stp X.length k ((k + 2) % X.length) < 2 ∨ stp X.length ((k + 2) % X.length) k < 2
  · rw [if_pos hc]
    simp only
    rw [cT' _ (by decide), eY, bS]
    exact ⟨X, Y, rfl, hX.vp, hY.vp⟩
  · rw [if_neg hc]
    simp only
    rw [cF' _ (by decide)]
    exact ⟨_, _, rfl, arc_vp hX.vp (by omega) (stp_lt (by omega)), arc_vp hX.vp (by omega) (stp_lt (by omega))⟩
end Go.Proofs.YtdabfcbelkjmgaaDoor.Am
/-
  Plain laws: edges that separate.
-/
namespace Go.Proofs.YtdabfcbelkjmgaaDoor.Am
set_option linter.unusedSimpArgs false
set_option linter.unusedVariables false
/-- An edge of a polygon that no place of a list is to the left of. -/
def sep (l : List Pt) (i : Nat) (b : List Pt) : Prop := ∀ p ∈ b, E l i p ≤ 0
open Classical in
noncomputable def fstS (l b : List Pt) : Option Nat := (List.range l.length).find? fun i => decide (sep l i b)
def apart (a b : List Pt) : Prop := (∃ i, i < a.length ∧ sep a i b) ∨ ∃ i, i < b.length ∧ sep b i a
theorem apart.symm {a b : List Pt} (h : apart a b) : apart b a := Or.symm h
theorem fstS_some {l b : List Pt} {i : Nat} (h : fstS l b = some i) : i < l.length ∧ sep l i b := by
  unfold fstS at h
  have h1 := List.find?_some h
  have h2 := List.mem_of_find?_eq_some h
  exact ⟨by simpa using h2, by simpa using h1⟩
theorem fstS_none {l b : List Pt} (h : fstS l b = none) : ∀ i, i < l.length → ¬ sep l i b := by
  unfold fstS at h
  rw [List.find?_eq_none] at h
  intro i hi hs
  exact h i (by simpa using hi) (by simpa using hs)
open Classical in
theorem left_eq {N : Nat} {b : List Pt} (hb : b.length ≤ 1000) (hN : 1000 < N) (hs : ∀ p ∈ b, Sml p) {u w : Pt} (hu : Sml u) (hw : Sml w) : D_slices_ContainsFunc_api_Place_api_Place_v84 N b u.1 u.2 w.1 w.2 = some (decide (∃ p ∈ b, 0 < trn u w p)) := by
  unfold D_slices_ContainsFunc_api_Place_api_Place_v84 D_slices_IndexFunc_api_Place_api_Place_v84
  have step : ∀ n (k : Nat), k < b.length → D_slices_IndexFunc_api_Place_api_Place_v84_L1 N b u.1 u.2 w.1 w.2 (n + 1) k = if 0 < trn u w (pa b k) then some (.inr (k : Int)) else D_slices_IndexFunc_api_Place_api_Place_v84_L1 N b u.1 u.2 w.1 w.2 n ((k + 1 : Nat) : Int) := fun n k hk => by
    rw [D_slices_IndexFunc_api_Place_api_Place_v84_L1, dlt hk, cT, nth_pa hk, bS]
    simp only
    unfold D_plane_first_1
    rw [turn_eq hu hw (hs _ (pa_mem hk)), bS, bS, gd_of (by unfold I64; omega), ns]
    by_cases h : 0 < trn u w (pa b k)
    · rw [decide_eq_true h, cT, if_pos h]
    · rw [decide_eq_false h, cF, if_neg h]
  have key := find0 (L := D_slices_IndexFunc_api_Place_api_Place_v84_L1 N b u.1 u.2 w.1 w.2) (len := b.length) (fun k => if 0 < trn u w (pa b k) then some (k : Int) else none)
    (fun n k hk hf => by
      rw [step n k hk, if_neg]
      intro h; rw [if_pos h] at hf; cases hf) (fun n k r hk hf => by
      by_cases h : 0 < trn u w (pa b k)
      · rw [step n k hk, if_pos h]; rw [if_pos h] at hf; rw [← Option.some.inj hf]
      · rw [if_neg h] at hf; cases hf) (fun n => by
      rw [D_slices_IndexFunc_api_Place_api_Place_v84_L1, dge, cF]) N (by omega)
  rcases key with ⟨e, h⟩ | ⟨j, r, a2, a3, a4, e⟩
  · rw [e, bS]
    simp only
    rw [bS]
    congr 1
    rw [decide_eq_false (by decide)]
    symm
    rw [decide_eq_false_iff_not]
    rintro ⟨p, hp, hn⟩
    obtain ⟨i, hi, rfl⟩ := pa_of hp
    have := h i hi
    rw [if_pos hn] at this; cases this
  · rw [e, bS]
    simp only
    rw [bS]
    split at a3
    · rename_i h
      rw [← Option.some.inj a3, decide_eq_true (by omega)]
      congr 1
      symm
      rw [decide_eq_true_eq]
      exact ⟨_, pa_mem a2, h⟩
    · cases a3
open Classical in
theorem first_loop {N : Nat} (hN : 1000 < N) {l b : List Pt} (hl : l.length ≤ 1000) (hb : b.length ≤ 1000) (hsl : ∀ p ∈ l, Sml p) (hsb : ∀ p ∈ b, Sml p) : ∀ (k j : Nat), j + k = l.length →
    D_plane_first_L1 N b ((List.range' j k).map fun i => (pa l i, pa l ((i + 1) % l.length))) (j : Int) = some (match (List.range' j k).find? fun i => decide (sep l i b) with | some i => .inr (i : Int) | none => .inl ())
  | 0, j, h => by simp [D_plane_first_L1]
  | k + 1, j, h => by
    have hm : (j + 1) % l.length < l.length := Nat.mod_lt _ (by omega)
    rw [List.range'_succ, List.map_cons, List.find?_cons]
    rw [show (pa l j, pa l ((j + 1) % l.length)) = (((pa l j).1, (pa l j).2), ((pa l ((j + 1) % l.length)).1, (pa l ((j + 1) % l.length)).2)) from rfl, D_plane_first_L1, left_eq hb hN hsb (hsl _ (pa_mem (by omega))) (hsl _ (pa_mem hm)), bS]
    by_cases hs : sep l j b
    · have e : ¬ ∃ p ∈ b, 0 < trn (pa l j) (pa l ((j + 1) % l.length)) p := by
        rintro ⟨p, hp, hq⟩
        have := hs p hp
        unfold E at this; omega
      rw [decide_eq_false e, cT' _ (by rfl), decide_eq_true hs]
    · have e : ∃ p ∈ b, 0 < trn (pa l j) (pa l ((j + 1) % l.length)) p := by
        by_cases h : ∃ p ∈ b, 0 < trn (pa l j) (pa l ((j + 1) % l.length)) p
        · exact h
        · exact absurd (fun p hp => by
            rcases Int.lt_or_le 0 (E l j p) with h1 | h1
            · exact absurd ⟨p, hp, h1⟩ h
            · exact h1) hs
      rw [decide_eq_true e, cF' _ (by rfl), decide_eq_false hs, gd_of (by unfold I64; omega), ← ns]
      exact first_loop hN hl hb hsl hsb k (j + 1) (by omega)
theorem first_eq {N : Nat} (hN : 1000 < N) {l b : List Pt} (hl : l.length ≤ 1000) (hb : b.length ≤ 1000) (hsl : ∀ p ∈ l, Sml p) (hsb : ∀ p ∈ b, Sml p) : D_plane_first N l b = some (match fstS l b with | some i => (i : Int) | none => -1) := by
  unfold D_plane_first
  have := first_loop hN hl hb hsl hsb l.length 0 (by omega)
  rw [← List.range_eq_range', Int.natCast_zero] at this
  rw [gd_of (by omega), show edgesL l = (List.range l.length).map fun i => (pa l i, pa l ((i + 1) % l.length)) from rfl, this, bS]
  unfold fstS
  cases (List.range l.length).find? fun i => @decide (sep l i b) (Classical.propDecidable _) <;> rfl
noncomputable def sideS (a b : List Pt) : Int × Int × Bool := match fstS a b with
  | some i => (0, (i : Int), true)
  | none => match fstS b a with
    | some i => (1, (i : Int), true)
    | none => (0, 0, false)
theorem sideS_cases (a b : List Pt) : (∃ i, i < a.length ∧ sep a i b ∧ sideS a b = (0, (i : Int), true)) ∨ (∃ i, i < b.length ∧ sep b i a ∧ sideS a b = (1, (i : Int), true)) ∨ (¬ apart a b ∧ sideS a b = (0, 0, false)) := by
  unfold sideS
  cases h : fstS a b with
  | some i => exact .inl ⟨i, (fstS_some h).1, (fstS_some h).2, rfl⟩
  | none =>
    cases h2 : fstS b a with
    | some i => exact .inr (.inl ⟨i, (fstS_some h2).1, (fstS_some h2).2, rfl⟩)
    | none =>
      refine .inr (.inr ⟨?_, rfl⟩)
      rintro (⟨i, hi, hs⟩ | ⟨i, hi, hs⟩)
      · exact fstS_none h i hi hs
      · exact fstS_none h2 i hi hs
theorem sideS_t {a b : List Pt} : (sideS a b).2.2 = true ↔ apart a b := by
  rcases sideS_cases a b with ⟨i, h1, h2, h3⟩ | ⟨i, h1, h2, h3⟩ | ⟨h1, h3⟩ <;> rw [h3]
  · simp only [true_iff]; exact .inl ⟨i, h1, h2⟩
  · simp only [true_iff]; exact .inr ⟨i, h1, h2⟩
  · simp [h1]
theorem sideE {N : Nat} (hN : 1001 ≤ N) {a b : List Pt} (ha : VP a) (hb : VP b) : D_plane_Side N a b = some (sideS a b) := by
  unfold D_plane_Side
  have a8 := ha.l8
  have b8 := hb.l8
  rw [valid_t (by omega) ha, valid_t (by omega) hb, bS, gd_of (fun _ => Option.isSome_some), Option.getD_some, cF' _ (by rfl), first_eq (by omega) (by omega) (by omega) ha.sml hb.sml, bS, first_eq (by omega) (by omega) (by omega) hb.sml ha.sml]
  unfold sideS
  cases fstS a b with
  | some i => simp only; rw [cT' _ (decide_eq_true (by omega))]
  | none =>
    simp only
    rw [cF' _ (by decide), bS]
    cases fstS b a with
    | some i => simp only; rw [cT' _ (decide_eq_true (by omega))]
    | none => simp only; rw [cF' _ (by decide)]
theorem overlap_eq {N : Nat} (hN : 1001 ≤ N) {a b : List Pt} (ha : VP a) (hb : VP b) : D_plane_Overlap N a b = some (!(sideS a b).2.2) := by
  unfold D_plane_Overlap
  rw [sideE hN ha hb, show sideS a b = ((sideS a b).1, (sideS a b).2.1, (sideS a b).2.2) from rfl, bS, valid_t (by omega) ha, valid_t (by omega) hb]
  simp only
  rw [bS, gd_of (fun _ => Option.isSome_some)]
  rfl
theorem apart_self {a : List Pt} (h : VP a) : ¬ apart a a := by
  have l3 := h.l3
  have key : ∀ i, i < a.length → ¬ sep a i a := fun i hi hs => by
    obtain ⟨k, hk, n1, n2⟩ : ∃ k, k < a.length ∧ k ≠ i ∧ k ≠ (i + 1) % a.length := by
      by_cases h0 : 0 ≠ i ∧ 0 ≠ (i + 1) % a.length
      · exact ⟨0, by omega, h0.1, h0.2⟩
      by_cases h1 : 1 ≠ i ∧ 1 ≠ (i + 1) % a.length
      · exact ⟨1, by omega, h1.1, h1.2⟩
      exact ⟨2, by omega, by omega, by omega⟩
    have e1 := h.cv i k hi hk n1 n2
    have e2 := hs _ (pa_mem hk)
    unfold E at e2
    omega
  rintro (⟨i, hi, hs⟩ | ⟨i, hi, hs⟩)
  · exact key i hi hs
  · exact key i hi hs

/-! ### What is inside has corners on both sides of every line through it -/
theorem cross0 {g p a b : Pt} (ha : lin g p a = 0) (hb : lin g p b = 0) (hg : g ≠ (0, 0)) : trn p a b = 0 := by
  have e1 : g.1 * trn p a b = lin g p a * (b.2 - p.2) - lin g p b * (a.2 - p.2) := by unfold lin trn; grind
  have e2 : g.2 * trn p a b = lin g p b * (a.1 - p.1) - lin g p a * (b.1 - p.1) := by unfold lin trn; grind
  rw [ha, hb] at e1 e2
  simp only [Int.zero_mul, Int.sub_self, Int.mul_eq_zero] at e1 e2
  rcases e1 with e1 | e1
  · rcases e2 with e2 | e2
    · exact absurd (Prod.ext e1 e2) hg
    · exact e2
  · exact e1
theorem no_half {n : Nat} {v : Nat → Pt} (hn : 0 < n) (per : ∀ t, v (t + n) = v t) {p g : Pt} (h : ∀ t, 0 < trn (v t) (v (t + 1)) p) (hg : g ≠ (0, 0)) (hh : ∀ t, 0 ≤ lin g p (v t)) : False := by
  have h' : ∀ t, 0 < trn p (v t) (v (t + 1)) := fun t => by rw [← trn_rot]; exact h t
  obtain ⟨m, hm⟩ : ∃ m, 0 < lin g p (v m) := by
    by_cases h0 : 0 < lin g p (v 0)
    · exact ⟨0, h0⟩
    by_cases h1 : 0 < lin g p (v 1)
    · exact ⟨1, h1⟩
    have z0 := hh 0
    have z1 := hh 1
    have := cross0 (show lin g p (v 0) = 0 by omega) (show lin g p (v 1) = 0 by omega) hg
    have : 0 < trn p (v 0) (v 1) := h' 0
    omega
  have key : ∀ t, 0 < trn p (v m) (v (m + (t + 1))) := by
    intro t
    induction t with
    | zero => exact h' m
    | succ t ih =>
      have pl := pluck g p (v m) (v (m + (t + 1))) (v (m + (t + 1 + 1)))
      have hb := hh (m + (t + 1))
      have hc := hh (m + (t + 1 + 1))
      have hbc := h' (m + (t + 1))
      rw [show m + (t + 1) + 1 = m + (t + 1 + 1) by omega] at hbc
      have k1 := Int.mul_pos hm hbc
      have k2 := Int.mul_nonneg hc (Int.le_of_lt ih)
      have hb' : 0 < lin g p (v (m + (t + 1))) := by
        rcases Int.lt_or_eq_of_le hb with q | q
        · exact q
        · rw [← q, Int.zero_mul] at pl; omega
      exact pos_of_mul hb' (by omega)
  have := key (n - 1)
  rw [show m + (n - 1 + 1) = m + n by omega, per, trn_self2] at this
  omega
theorem E_qa {l : List Pt} (hl : 0 < l.length) (t : Nat) (p : Pt) : trn (qa l t) (qa l (t + 1)) p = E l (t % l.length) p := by
  unfold E qa
  rw [Nat.mod_add_mod]
/-- If all corners are on one side of a place, or on a line through it, the place is not inside. -/
theorem inn_half {l : List Pt} (hl : 0 < l.length) {p g : Pt} (h : inn l p) (hg : g ≠ (0, 0)) (hh : ∀ q ∈ l, 0 ≤ lin g p q) : False :=
  no_half (v := qa l) hl (qa_add l) (p := p) (g := g) (fun t => by rw [E_qa hl]; exact h _ (Nat.mod_lt _ hl)) hg fun t => hh _ (qa_mem hl t)
theorem trn_lin (a b p q : Pt) : lin (b.2 - a.2, a.1 - b.1) p q = trn a b p - trn a b q := by unfold lin trn; grind
theorem sep_inn {a b : List Pt} {i : Nat} (hi : i < a.length) (hb : 0 < b.length) (hs : sep a i b) {p : Pt} (h1 : inn a p) (h2 : inn b p) : False := by
  have e1 := h1 i hi
  unfold E at e1
  have hh : ∀ q ∈ b, 0 < lin ((pa a ((i + 1) % a.length)).2 - (pa a i).2, (pa a i).1 - (pa a ((i + 1) % a.length)).1) p q := fun q hq => by
    rw [trn_lin]
    have := hs q hq
    unfold E at this
    omega
  refine inn_half hb h2 (fun e => ?_) fun q hq => Int.le_of_lt (hh q hq)
  have := hh _ (pa_mem hb)
  rw [e] at this
  simp [lin] at this
theorem apart_inn {a b : List Pt} (ha : 0 < a.length) (hb : 0 < b.length) (h : apart a b) {p : Pt} (h1 : inn a p) (h2 : inn b p) : False := by
  rcases h with ⟨i, hi, hs⟩ | ⟨i, hi, hs⟩
  · exact sep_inn hi hb hs h1 h2
  · exact sep_inn hi ha hs h2 h1
theorem dbl_E {l : List Pt} {i : Nat} (hi : i < l.length) (q : Pt) : E (l.map dbl) i (dbl q) = 4 * E l i q := by
  have hm : (i + 1) % l.length < l.length := Nat.mod_lt _ (by omega)
  unfold E
  rw [List.length_map, pa_map hi, pa_map hm]
  generalize pa l i = a
  generalize pa l ((i + 1) % l.length) = b
  unfold trn dbl; grind
theorem dbl_sep {a b : List Pt} {i : Nat} (hi : i < a.length) (h : sep a i b) : sep (a.map dbl) i (b.map dbl) := fun q hq => by
  obtain ⟨r, hr, rfl⟩ := List.mem_map.1 hq
  rw [dbl_E hi]
  have := h r hr
  omega
theorem dbl_apart {a b : List Pt} (h : apart a b) : apart (a.map dbl) (b.map dbl) := by
  rcases h with ⟨i, hi, hs⟩ | ⟨i, hi, hs⟩
  · exact .inl ⟨i, by simpa using hi, dbl_sep hi hs⟩
  · exact .inr ⟨i, by simpa using hi, dbl_sep hi hs⟩
end Go.Proofs.YtdabfcbelkjmgaaDoor.Am
