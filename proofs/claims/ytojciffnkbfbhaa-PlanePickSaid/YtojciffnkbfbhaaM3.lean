import Derived.Test.YtojciffnkbfbhaaM2
/-
  Plain laws: the polygons that integers determine are valid.
-/
namespace Go.Proofs.Ytojciffnkbfbhaa.Am
set_option linter.unusedSimpArgs false
set_option linter.unusedVariables false
def pk (c n : Int) : Int := if c < 0 then (-(c + 1)).tmod n else c.tmod n
theorem pk_bd {c n : Int} (hn : 0 < n) : 0 ≤ pk c n ∧ pk c n < n := by
  unfold pk
  split
  · exact ⟨Int.tmod_nonneg _ (by omega), Int.tmod_lt_of_pos _ hn⟩
  · exact ⟨Int.tmod_nonneg _ (by omega), Int.tmod_lt_of_pos _ hn⟩
theorem rpick_eq {N : Nat} {c n : Int} (hc : I64 c) (hn : 0 < n) : D_putlogref07_pick N c n = some (pk c n) := by
  unfold D_putlogref07_pick pk
  unfold I64 at hc
  by_cases h : c < 0
  · rw [decide_eq_true h, cT, if_pos h, gd_of (by unfold I64; omega), gd_of (by unfold I64; omega), gd_of (by omega)]
  · rw [decide_eq_false h, cF, if_neg h, gd_of (by omega)]
theorem drop_pa {l : List Pt} {i : Nat} (h : i < l.length) : l.drop i = pa l i :: l.drop (i + 1) := by
  rw [pa_get h]; exact List.drop_eq_getElem_cons h
theorem dlt {k n : Nat} (h : k < n) : decide ((k : Int) < (n : Int)) = true := by simp; omega
theorem dge (n : Nat) : decide ((n : Int) < (n : Int)) = false := by simp
theorem low_loop (N : Nat) (l : List Pt) (hl : l.length ≤ 1000) : ∀ (n i : Nat) (f : Pt), i ≤ l.length → l.length < n + i → D_putlogref07_Hull_L1 N l n i f.1 f.2 = some ((l.drop i).foldl lowStep f)
  | 0, i, f, hi, hn => by omega
  | n + 1, i, f, hi, hn => by
    rw [D_putlogref07_Hull_L1]
    by_cases he : i = l.length
    · subst he
      rw [dge, cF, List.drop_length]; rfl
    have hi' : i < l.length := by omega
    rw [dlt hi', cT, nth_pa hi', bS, drop_pa hi', List.foldl_cons]
    simp only
    rw [gd_of (by unfold I64; omega), gd_of (by unfold I64; omega), ← ns, low_loop N l hl n (i + 1) (pa l i) (by omega) (by omega), low_loop N l hl n (i + 1) f (by omega) (by omega)]
    by_cases h : (pa l i).2 < f.2 ∨ ((pa l i).2 = f.2 ∧ (pa l i).1 < f.1)
    · rw [cT' _ (by simpa using h), show lowStep f (pa l i) = pa l i from if_pos h]
    · rw [cF' _ (by rw [Bool.eq_false_iff]; simpa using h), show lowStep f (pa l i) = f from if_neg h]
theorem far_eq {N : Nat} {a b : Pt} (ha : Sml a) (hb : Sml b) : D_putlogref07_far N a.1 a.2 b.1 b.2 = some (dst a b) := by
  unfold Sml at *
  have h1 := mulb (x := a.1 - b.1) (y := a.1 - b.1) (by omega) (by omega)
  have h2 := mulb (x := a.2 - b.2) (y := a.2 - b.2) (by omega) (by omega)
  unfold D_putlogref07_far dst
  rw [gd_of (by unfold I64; omega), gd_of (by unfold I64; omega), gd_of (by unfold I64; omega), gd_of (by unfold I64; omega), gd_of (by unfold I64; omega), gd_of (by unfold I64; omega), gd_of (by unfold I64; omega)]
theorem ptE {p q : Pt} : (decide (p.1 = q.1) && decide (p.2 = q.2)) = decide (p = q) := by
  rw [Bool.eq_iff_iff]
  simp only [Bool.and_eq_true, decide_eq_true_eq]
  exact ⟨fun h => Prod.ext h.1 h.2, fun h => by rw [h]; exact ⟨rfl, rfl⟩⟩
theorem sel_loop (N : Nat) (l : List Pt) (hl : l.length ≤ 1000) (hs : ∀ p ∈ l, Sml p) (o : Pt) (ho : Sml o) : ∀ (n i : Nat) (q : Pt), Sml q → i ≤ l.length → l.length < n + i → D_putlogref07_Hull_L6 N l o.1 o.2 n i q.1 q.2 = some ((l.drop i).foldl (selStep o) q)
  | 0, i, f, _, hi, hn => by omega
  | n + 1, i, q, hq, hi, hn => by
    rw [D_putlogref07_Hull_L6]
    by_cases he : i = l.length
    · subst he
      rw [dge, cF, List.drop_length]; rfl
    have hi' : i < l.length := by omega
    have hp := hs _ (pa_mem hi')
    rw [dlt hi', cT, nth_pa hi', bS, drop_pa hi', List.foldl_cons]
    simp only
    rw [ptE]
    rw [gd_of (by unfold I64; omega), ← ns, sel_loop N l hl hs o ho n (i + 1) q hq (by omega) (by omega), gd_of (by unfold I64; omega), sel_loop N l hl hs o ho n (i + 1) (pa l i) hp (by omega) (by omega), rturn_eq ho hq hp, bS, far_eq ho hp, far_eq ho hq]
    rw [gd_of (fun _ => Option.isSome_some), gd_of (fun _ => Option.isSome_some), Option.getD_some, Option.getD_some, ptE]
    by_cases hpo : pa l i = o
    · rw [decide_eq_true hpo, cT, show selStep o q (pa l i) = q from if_pos hpo]
    · rw [decide_eq_false hpo, cF]
      by_cases h : q = o ∨ trn o q (pa l i) < 0 ∨ (trn o q (pa l i) = 0 ∧ dst o q < dst o (pa l i))
      · rw [cT' _ (by simpa only [Bool.or_eq_true, Bool.and_eq_true, decide_eq_true_eq, or_assoc] using h), show selStep o q (pa l i) = pa l i from by unfold selStep; rw [if_neg hpo, if_pos h]]
      · rw [cF' _ (by rw [Bool.eq_false_iff]; simpa only [ne_eq, Bool.or_eq_true, Bool.and_eq_true, decide_eq_true_eq, or_assoc] using h), show selStep o q (pa l i) = q from by unfold selStep; rw [if_neg hpo, if_neg h]]
theorem sel_sml {l : List Pt} {o : Pt} (hs : ∀ p ∈ l, Sml p) : ∀ (q : Pt), Sml q → Sml (l.foldl (selStep o) q) := by
  induction l with
  | nil => intro q h; exact h
  | cons p l ih =>
    intro q h
    rw [List.foldl_cons]
    refine ih (fun r hr => hs r (by simp [hr])) _ ?_
    unfold selStep
    split
    · exact h
    · split
      · exact hs p (by simp)
      · exact h
theorem hull_loop {N : Nat} {l : List Pt} (hN : 1000 ≤ N) (hl : l.length ≤ 100) (hs : ∀ p ∈ l, Sml p) (f : Pt) : ∀ (n : Nat) (o : Pt) (out r : List Pt), Sml o → out.length + n ≤ 5000 → hullLoop l f n o out = some r → D_putlogref07_Hull_L4 N l f.1 f.2 n o.1 o.2 out = some r
  | 0, o, out, r, _, _, h => by simp [hullLoop] at h
  | n + 1, o, out, r, ho, hb, h => by
    rw [D_putlogref07_Hull_L4]
    have e0 : ((0 : Nat) : Int) = 0 := rfl
    have es := sel_loop N l (by omega) hs o ho N 0 o ho (by omega) (by omega)
    rw [e0, List.drop_zero] at es
    have esl : l.foldl (selStep o) o = sel o l := rfl
    have es : D_putlogref07_Hull_L6 N l o.1 o.2 N 0 o.1 o.2 = some ((sel o l).1, (sel o l).2) := es
    rw [es, bS]
    simp only
    rw [ptE, ptE]
    rw [hullLoop] at h
    by_cases hc : sel o l = o ∨ sel o l = f
    · rw [if_pos hc] at h
      rw [cT' _ (by simpa using hc)]
      exact h
    · rw [if_neg hc] at h
      rw [cF' _ (by rw [Bool.eq_false_iff]; simpa using hc), gd_of (by omega)]
      refine hull_loop hN hl hs f n (sel o l) _ r ?_ (by simp; omega) h
      rw [← esl]; exact sel_sml hs o ho
/-- The convex hull. -/
theorem hull_eq {N : Nat} {l : List Pt} (hN : 1000 ≤ N) (h0 : 0 < l.length) (hl : l.length ≤ 100) (hs : ∀ p ∈ l, Sml p) (hNb : N ≤ 4000) : ∃ r, D_putlogref07_Hull N l = some r ∧ HullOK l r := by
  unfold D_putlogref07_Hull
  have e0 : nth l 0 = some ((pa l 0).1, (pa l 0).2) := nth_pa (i := 0) h0
  rw [e0, bS]
  simp only
  have el := low_loop N l (by omega) N 0 (pa l 0) (by omega) (by omega)
  rw [show ((0 : Nat) : Int) = 0 from rfl, List.drop_zero] at el
  have el : D_putlogref07_Hull_L1 N l N 0 (pa l 0).1 (pa l 0).2 = some ((low (pa l 0) l).1, (low (pa l 0) l).2) := el
  rw [el, bS]
  simp only
  obtain ⟨h1, h2⟩ := low_spec l (pa l 0)
  have hm : low (pa l 0) l ∈ l := by
    rcases List.mem_cons.1 h1 with h | h
    · rw [h]; exact pa_mem h0
    · exact h
  have hx := low_ext hs hm (fun p hp => h2 p (by simp [hp]))
  obtain ⟨r, hr, ho⟩ := hull_ok hs (low (pa l 0) l) N (low (pa l 0) l) [low (pa l 0) l] (good_one hm hx) (by simp; omega)
  refine ⟨r, ?_, ho⟩
  rw [show [((low (pa l 0) l).1, (low (pa l 0) l).2)] = [low (pa l 0) l] from rfl, hull_loop hN hl hs _ N _ _ r (hs _ hm) (by simp; omega) hr, bS]
/-- Lists of pairs of machine numbers. -/
def In2 (x : List Pt) : Prop := ∀ p ∈ x, I64 p.1 ∧ I64 p.2
theorem made_L2 {N : Nat} {x : List Pt} {low high : Int} (hx : In2 x) (h0 : 0 ≤ low) (hlh : low ≤ high) (h1 : high ≤ 40) : ∀ (n i : Nat) (out : List Pt), i ≤ 8 → i ≤ x.length → out.length = i → (∀ p ∈ out, On p ∧ low ≤ p.1 ∧ p.1 ≤ high) → 8 < n + i →
    ∃ P, D_putlogref07_Made_L2 N x high low n i out = some P ∧ P.length ≤ 8 ∧ ∀ p ∈ P, On p ∧ low ≤ p.1 ∧ p.1 ≤ high
  | 0, i, out, h8, hi, ho, hp, hn => by omega
  | n + 1, i, out, h8, hi, ho, hp, hn => by
    rw [D_putlogref07_Made_L2]
    by_cases hc : i < x.length ∧ i < 8
    · obtain ⟨c1, c2⟩ := hc
      have hm := hx _ (pa_mem c1)
      have b1 := @pk_bd (pa x i).1 ((high - low) + 1) (by omega)
      have b2 := @pk_bd (pa x i).2 41 (by omega)
      rw [cT' _ (by simp; omega), nth_pa c1, bS]
      simp only
      rw [gd_of (by unfold I64; omega), gd_of (by unfold I64; omega), rpick_eq hm.1 (by omega), bS, gd_of (by unfold I64; omega), rpick_eq hm.2 (by omega), bS, gd_of (by omega), gd_of (by unfold I64; omega), ← ns]
      refine made_L2 hx h0 hlh h1 n (i + 1) _ (by omega) (by omega) (by simp; omega) (fun p hp' => ?_) (by omega)
      rcases List.mem_append.1 hp' with h | h
      · exact hp p h
      · simp at h
        subst h
        refine ⟨⟨⟨?_, ?_⟩, ?_, ?_⟩, ?_, ?_⟩ <;> simp only <;> omega
    · rw [cF' _ (by rw [Bool.eq_false_iff]; simp; omega)]
      exact ⟨out, rfl, by omega, hp⟩
/-- Beginning at another corner. -/
theorem rot_pa {l : List Pt} {k i : Nat} (hk : k ≤ l.length) (hi : i < l.length) : pa (l.drop k ++ l.take k) i = pa l ((k + i) % l.length) := by
  by_cases h : i < l.length - k
  · rw [pa_app1 (by simp; omega), Nat.mod_eq_of_lt (by omega), pa_get (by simp; omega), pa_get (by omega), List.getElem_drop]
  · rw [pa_app2 (by simp; omega) (by simp; omega), pa_get (by simp; omega), List.getElem_take, pa_get (Nat.mod_lt _ (by omega))]
    congr 1
    simp only [List.length_drop]
    rw [Nat.mod_eq_sub_mod (by omega), Nat.mod_eq_of_lt (by omega)]
    omega
theorem rot_len {l : List Pt} {k : Nat} (hk : k ≤ l.length) : (l.drop k ++ l.take k).length = l.length := by simp; omega
theorem mod_add_inj {n k i j : Nat} (hi : i < n) (hj : j < n) (h : (k + i) % n = (k + j) % n) : i = j := by
  have h1 : ((k % n + i) % n) = ((k % n + j) % n) := by simpa [Nat.add_mod] using h
  have hk : k % n < n := Nat.mod_lt _ (by omega)
  generalize k % n = m at *
  by_cases a : m + i < n <;> by_cases b : m + j < n
  · rw [Nat.mod_eq_of_lt a, Nat.mod_eq_of_lt b] at h1; omega
  · rw [Nat.mod_eq_of_lt a, Nat.mod_eq_sub_mod (by omega), Nat.mod_eq_of_lt (by omega)] at h1; omega
  · rw [Nat.mod_eq_of_lt b, Nat.mod_eq_sub_mod (by omega), Nat.mod_eq_of_lt (by omega)] at h1; omega
  · rw [Nat.mod_eq_sub_mod (by omega), Nat.mod_eq_of_lt (by omega), Nat.mod_eq_sub_mod (by omega : n ≤ m + j), Nat.mod_eq_of_lt (by omega)] at h1; omega
theorem rot_conv {l : List Pt} {k : Nat} (hk : k ≤ l.length) (h : Conv l) : Conv (l.drop k ++ l.take k) := by
  intro i j hi hj n1 n2
  rw [rot_len hk] at hi hj n2 ⊢
  have hi2 : (i + 1) % l.length < l.length := Nat.mod_lt _ (by omega)
  rw [rot_pa hk hi, rot_pa hk hj, rot_pa hk hi2]
  have e : (k + (i + 1) % l.length) % l.length = ((k + i) % l.length + 1) % l.length := by
    rw [Nat.add_mod_mod, Nat.mod_add_mod, Nat.add_assoc]
  rw [e]
  refine h _ _ (Nat.mod_lt _ (by omega)) (Nat.mod_lt _ (by omega)) (fun q => n1 (mod_add_inj hj hi q)) (fun q => n2 ?_)
  rw [← e] at q
  exact mod_add_inj hj hi2 q
/-- What is true of all polygons that integers determine. -/
structure MP (low high : Int) (l : List Pt) : Prop where
  vp : VP l
  box : ∀ p ∈ l, low ≤ p.1 ∧ p.1 ≤ high
theorem MP.rot {low high : Int} {l : List Pt} (h : MP low high l) {k : Nat} (hk : k ≤ l.length) : MP low high (l.drop k ++ l.take k) := by
  have hm : ∀ p ∈ l.drop k ++ l.take k, p ∈ l := fun p hp => by
    rcases List.mem_append.1 hp with h | h
    · exact List.mem_of_mem_drop h
    · exact List.mem_of_mem_take h
  exact ⟨⟨by rw [rot_len hk]; exact h.vp.l3, by rw [rot_len hk]; exact h.vp.l8, fun p hp => h.vp.on p (hm p hp), rot_conv hk h.vp.cv⟩, fun p hp => h.box p (hm p hp)⟩
theorem tri_conv {low high : Int} (h0 : 0 ≤ low) (hlh : low < high) (h1 : high ≤ 40) : MP low high [(low, 10), (high, 10), (low, 20)] := by
  have e : (high - low) * 10 > 0 := by omega
  refine ⟨⟨by simp, by simp, ?_, ?_⟩, ?_⟩
  · intro p hp
    simp at hp
    rcases hp with rfl | rfl | rfl <;> refine ⟨⟨?_, ?_⟩, ?_, ?_⟩ <;> simp only <;> omega
  · intro i k hi hk n1 n2
    have hi' : i = 0 ∨ i = 1 ∨ i = 2 := by simp at hi; omega
    have hk' : k = 0 ∨ k = 1 ∨ k = 2 := by simp at hk; omega
    rcases hi' with rfl | rfl | rfl <;> rcases hk' with rfl | rfl | rfl <;> simp at n1 n2 <;> simp [trn, pa] <;> omega
  · intro p hp
    simp at hp
    rcases hp with rfl | rfl | rfl <;> simp only <;> omega
theorem made_ok {N : Nat} (hN : 1000 ≤ N) (hNb : N ≤ 4000) {x : List Pt} {low high : Int} (hx : In2 x) (h0 : 0 ≤ low) (hlh : low < high) (h1 : high ≤ 40) : ∃ l, D_putlogref07_Made N x low high = some l ∧ MP low high l := by
  unfold D_putlogref07_Made
  obtain ⟨P, eP, hP8, hP⟩ := made_L2 (N := N) hx h0 (Int.le_of_lt hlh) h1 N 0 [] (by omega) (by omega) rfl (by simp) (by omega)
  rw [show ((0 : Nat) : Int) = 0 from rfl] at eP
  rw [eP, bS]
  have key : ∃ l, (bif decide (0 < (P.length : Int)) then ((D_putlogref07_Hull N P).bind fun r193 => bif decide (3 ≤ (r193.length : Int)) then (some r193) else (some [(low, 10), (high, 10), (low, 20)])) else (some [(low, 10), (high, 10), (low, 20)]) : Option (List (Int × Int))) = some l ∧ MP low high l := by
    by_cases hp : 0 < P.length
    · rw [decide_eq_true (by omega), cT]
      obtain ⟨r, hr, ho⟩ := hull_eq hN hp (by omega) (fun p h => (hP p h).1.sml) hNb
      rw [hr, bS]
      by_cases h3 : 3 ≤ r.length
      · rw [decide_eq_true (by omega), cT]
        refine ⟨r, rfl, ⟨h3, ?_, fun p h => (hP p (ho.sub p h)).1, ho.conv h3⟩, fun p h => (hP p (ho.sub p h)).2⟩
        have := nodup_len r P ho.nd ho.sub
        omega
      · rw [decide_eq_false (by omega), cF]
        exact ⟨_, rfl, tri_conv h0 hlh h1⟩
    · rw [decide_eq_false (by omega), cF]
      exact ⟨_, rfl, tri_conv h0 hlh h1⟩
  obtain ⟨l, el, hl⟩ := key
  rw [el, bS]
  have l3 := hl.vp.l3
  have l8 := hl.vp.l8
  by_cases hxl : 0 < x.length
  · have hm := hx _ (pa_mem hxl)
    have e0 : nth x 0 = some ((pa x 0).1, (pa x 0).2) := nth_pa (i := 0) hxl
    rw [decide_eq_true (by omega), cT, e0, bS]
    simp only
    have hq : I64 ((pa x 0).1.tdiv 41) := by
      obtain ⟨⟨m1, m2⟩, _⟩ := hm
      have q1 := Int.tdiv_le_tdiv (c := 41) (by omega) m2
      have q2 := Int.tdiv_le_tdiv (c := 41) (by omega) m1
      have q3 : (-9223372036854775808 : Int).tdiv 41 = -224960293581823800 := by decide +kernel
      have q4 : (9223372036854775807 : Int).tdiv 41 = 224960293581823800 := by decide +kernel
      rw [q3] at q2
      rw [q4] at q1
      unfold I64; omega
    have b := @pk_bd ((pa x 0).1.tdiv 41) (l.length : Int) (by omega)
    rw [gd_of hq, rpick_eq hq (by omega), bS]
    generalize pk ((pa x 0).1.tdiv 41) (l.length : Int) = r at *
    obtain ⟨k, rfl⟩ : ∃ k : Nat, r = k := ⟨r.toNat, by omega⟩
    have hk : k ≤ l.length := by omega
    rw [Int.toNat_natCast, Nat.sub_zero]
    rw [gd_of ⟨by omega, by omega⟩, gd_of (by simp; omega), gd_of ⟨by omega, by omega, by omega⟩, gd_of (by simp; omega)]
    exact ⟨_, rfl, hl.rot hk⟩
  · rw [decide_eq_false (by omega), cF, gd_of ⟨by omega, by omega⟩, gd_of (by simp; omega), gd_of ⟨by omega, by omega, by omega⟩, gd_of (by simp; omega)]
    exact ⟨_, rfl, by simpa using hl⟩
end Go.Proofs.Ytojciffnkbfbhaa.Am
