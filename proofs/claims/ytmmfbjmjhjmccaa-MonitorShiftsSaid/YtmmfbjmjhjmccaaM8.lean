/-
  Plain laws: values that are shifted.
-/
import Derived.Test.YtmmfbjmjhjmccaaM5
import Derived.Test.YtmmfbjmjhjmccaaD2
namespace Go.Proofs.Ytmmfbjmjhjmccaa.Am
set_option linter.unusedSimpArgs false
set_option linter.unusedVariables false
open Go
attribute [local irreducible] made05 made24
theorem gd_true {α : Type} [Decidable True] {k : Option α} : gd True k = k := gd_of trivial
def shS (n : Int) (s : Sm) : Sm := (s.1, s.2 + n)
def shF (n : Int) (f : Fc) : Fc := (f.1, f.2.1 + n, f.2.2.1 + n, f.2.2.2)
theorem counted_sh {d : Int} {R : List Rd3} {tol n : Int} : ∀ (S : List Sm) (i : Int), countedL d R tol i (S.map (shS n)) = (countedL d R tol i S).map (shF n)
  | [], i => rfl
  | (a, v) :: S, i => by
    simp only [List.map_cons, shS, countedL]
    rw [counted_sh S (i + 1)]
    split
    · simp only [List.map_cons, shF, List.cons.injEq, Prod.mk.injEq, and_true, true_and]
      omega
    · rfl
theorem reach_sh {rate t n : Int} {f : Fc} : reachS rate (shF n f) t = reachS rate f t := rfl

/-- Bounds that are those of no other quantity grow by the number. -/
theorem look_sh_low {rate t n : Int} {xs : List Fc} (h1 : (lookS rate t xs).1 ≠ -1000000) (h2 : (lookS rate t (xs.map (shF n))).1 ≠ -1000000) : (lookS rate t (xs.map (shF n))).1 = (lookS rate t xs).1 + n := by
  have a := (look_low (rate := rate) (t := t) (xs := xs) (z := (lookS rate t xs).1)).1 (Int.le_refl _)
  have b := (look_low (rate := rate) (t := t) (xs := xs.map (shF n)) (z := (lookS rate t (xs.map (shF n))).1)).1 (Int.le_refl _)
  have c := (look_low (rate := rate) (t := t) (xs := xs.map (shF n)) (z := max (-1000000) ((lookS rate t xs).1 + n))).2 ⟨by omega, fun f hf => by
    obtain ⟨g, hg, rfl⟩ := List.mem_map.1 hf
    have := a.2 g hg
    rw [reach_sh]
    show g.2.1 + n - _ ≤ _
    omega⟩
  have d := (look_low (rate := rate) (t := t) (xs := xs) (z := max (-1000000) ((lookS rate t (xs.map (shF n))).1 - n))).2 ⟨by omega, fun f hf => by
    have := b.2 (shF n f) (List.mem_map_of_mem hf)
    rw [reach_sh] at this
    have e : (shF n f).2.1 = f.2.1 + n := rfl
    omega⟩
  omega
theorem look_sh_high {rate t n : Int} {xs : List Fc} (h1 : (lookS rate t xs).2.1 ≠ 1000000) (h2 : (lookS rate t (xs.map (shF n))).2.1 ≠ 1000000) : (lookS rate t (xs.map (shF n))).2.1 = (lookS rate t xs).2.1 + n := by
  have a := (look_high (rate := rate) (t := t) (xs := xs) (z := (lookS rate t xs).2.1)).1 (Int.le_refl _)
  have b := (look_high (rate := rate) (t := t) (xs := xs.map (shF n)) (z := (lookS rate t (xs.map (shF n))).2.1)).1 (Int.le_refl _)
  have c := (look_high (rate := rate) (t := t) (xs := xs.map (shF n)) (z := min 1000000 ((lookS rate t xs).2.1 + n))).2 ⟨by omega, fun f hf => by
    obtain ⟨g, hg, rfl⟩ := List.mem_map.1 hf
    have := a.2 g hg
    rw [reach_sh]
    show _ ≤ g.2.2.1 + n + _
    omega⟩
  have d := (look_high (rate := rate) (t := t) (xs := xs) (z := min 1000000 ((lookS rate t (xs.map (shF n))).2.1 - n))).2 ⟨by omega, fun f hf => by
    have := b.2 (shF n f) (List.mem_map_of_mem hf)
    rw [reach_sh] at this
    have e : (shF n f).2.2.1 = f.2.2.1 + n := rfl
    omega⟩
  omega

/-- The gauge whose values are greater by n. -/
def movG (g : Ga) (n : Int) : Ga := ⟨g.d, g.R, g.tol, g.rate, g.S.map (shS n)⟩
theorem facts_mov (g : Ga) (n : Int) : factsG (movG g n) = (factsG g).map (shF n) := counted_sh g.S 0
theorem mov_valid (x : Sty) {n : Int} (hn : -1000 ≤ n ∧ n ≤ 1000) : validG (movG (made24 x) n) = true := by
  have hv := made24_valid x
  obtain ⟨v1, v2, v3, v4, v5⟩ := validG_parts hv
  obtain ⟨hl, _, hS⟩ := made24_S x
  have ht := @pick_bd x.tol 31 (by omega)
  simp only [validG, movG, Bool.and_eq_true, decide_eq_true_eq, List.length_map]
  refine ⟨?_, ⟨⟨v2, ?_⟩, ?_⟩, ?_⟩
  rotate_left
  · exact ⟨decide_eq_true v3.1, decide_eq_true v3.2⟩
  · exact ⟨decide_eq_true v4.1, decide_eq_true v4.2⟩
  · omega
  rw [chain2_pair] at v1 ⊢
  refine ⟨?_, ?_⟩
  · rw [List.pairwise_map]
    exact v1.1
  · intro s hs
    obtain ⟨s0, h0, rfl⟩ := List.mem_map.1 hs
    have h1 := v1.2 s0 h0
    obtain ⟨u, hu1, hu2, hu3, hu4, hu5⟩ := hS s0 h0
    have hvb := valueS_bd x.rate x.first x.steps u.toNat
    simp only [shS]
    omega
/-- Both have bounds. -/
theorem mov_found (x : Sty) {n t : Int} (hn : -1000 ≤ n ∧ n ≤ 1000) (ht : 0 ≤ t ∧ t ≤ 10000) : foundS (movG (made24 x) n) t = (lookS (made24 x).rate t ((factsG (made24 x)).map (shF n)), true) ∧ (lookS (made24 x).rate t ((factsG (made24 x)).map (shF n))).1 ≤ (lookS (made24 x).rate t ((factsG (made24 x)).map (shF n))).2.1 := by
  have hv := mov_valid x hn
  have hvb := valueS_bd x.rate x.first x.steps t.toNat
  have hT := facts_true x (t := t) (by omega)
  have a := (look_low (rate := (made24 x).rate) (t := t) (xs := (factsG (made24 x)).map (shF n)) (z := valueS x.rate x.first x.steps t.toNat + n)).2 ⟨by omega, fun f hf => by
    obtain ⟨g, hg, rfl⟩ := List.mem_map.1 hf
    have := (hT g hg).1
    rw [reach_sh]
    show g.2.1 + n - _ ≤ _
    omega⟩
  have b := (look_high (rate := (made24 x).rate) (t := t) (xs := (factsG (made24 x)).map (shF n)) (z := valueS x.rate x.first x.steps t.toNat + n)).2 ⟨by omega, fun f hf => by
    obtain ⟨g, hg, rfl⟩ := List.mem_map.1 hf
    have := (hT g hg).2
    rw [reach_sh]
    show _ ≤ g.2.2.1 + n + _
    omega⟩
  refine ⟨?_, by omega⟩
  unfold foundS
  rw [if_pos ⟨hv, by omega⟩, facts_mov]
  have : (lookS (made24 x).rate t ((factsG (made24 x)).map (shF n))).1 ≤ (lookS (made24 x).rate t ((factsG (made24 x)).map (shF n))).2.1 := by omega
  show (lookS (made24 x).rate t _, _) = _
  simp only [this, decide_true, movG]

theorem watch_sh {rate : Int} {xs : List Fc} {n : Int} {limit : Int} : ∀ (k : Nat) (t s m : Int), (∀ i : Int, t ≤ i → i < t + k → (lookS rate i (xs.map (shF n))).1 = (lookS rate i xs).1 + n ∧ (lookS rate i (xs.map (shF n))).2.1 = (lookS rate i xs).2.1 + n) →
    watchS rate (xs.map (shF n)) (limit + n) k t s m = watchS rate xs limit k t s m
  | 0, t, s, m, _ => rfl
  | k + 1, t, s, m, h => by
    obtain ⟨h1, h2⟩ := h t (Int.le_refl _) (by omega)
    simp only [watchS]
    rw [h1, h2]
    rw [watch_sh k (t + 1) _ _ fun i a b => h i (by omega) (by omega)]
    have e1 : ((lookS rate t xs).2.1 + n < (lookS rate t xs).1 + n) = ((lookS rate t xs).2.1 < (lookS rate t xs).1) := by simp
    have e2 : (limit + n < (lookS rate t xs).1 + n ∧ s < 0) = (limit < (lookS rate t xs).1 ∧ s < 0) := by simp
    have e3 : (limit + n < (lookS rate t xs).2.1 + n ∧ m < 0) = (limit < (lookS rate t xs).2.1 ∧ m < 0) := by simp
    simp only [e1, e2, e3]

/-! ### The law's loops -/
theorem shifts_L2 (N : Nat) (g : Ga) (r : Int) (hr : 0 ≤ r ∧ r ≤ 2000) (hl : g.S.length ≤ 1000) (hS : ∀ s ∈ g.S, -1000000 ≤ s.2 ∧ s.2 ≤ 1000000) : ∀ (n k : Nat), k ≤ g.S.length → g.S.length < n + k →
    D_putloglaw24_MonitorShifts_L2 N g r n k ((g.S.take k).map (shS (r - 1000))) = some (g.S.map (shS (r - 1000)))
  | 0, k, hk, hn => by omega
  | n + 1, k, hk, hn => by
    rw [D_putloglaw24_MonitorShifts_L2]
    by_cases h : k < g.S.length
    · have e1 : decide ((k : Int) < (g.S.length : Int)) = true := by simp; omega
      have ih := shifts_L2 N g r hr hl hS n (k + 1) (by omega) (by omega)
      obtain ⟨⟨a, v⟩, hav⟩ : ∃ s, g.S[k] = s := ⟨_, rfl⟩
      have hb := hS (a, v) (by rw [← hav]; exact List.getElem_mem _)
      have hn : nth g.S (k : Int) = some (a, v) := by rw [nth_nat, List.getElem?_eq_getElem h, hav]
      have g1 : I64 (v + (r - 1000)) := by unfold I64; simp only at hb; omega
      have g2 : (((g.S.take k).map (shS (r - 1000))).length + 1) * 16 ≤ 140737488355328 := by simp; omega
      have g3 : I64 ((k : Int) + 1) := by unfold I64; omega
      rw [List.take_add_one, List.getElem?_eq_getElem h, hav] at ih
      simp only [Option.toList_some, List.map_append, List.map_cons, List.map_nil, shS] at ih
      simp only [e1, cond_true, hn, Option.bind_some, gd_of g1, gd_of g2, gd_of g3]
      exact ih
    · have e1 : decide ((k : Int) < (g.S.length : Int)) = false := by simp; omega
      rw [e1, cond_false, List.take_of_length_le (by omega)]
theorem free_eq (N : Nat) (m : Int) : D_putloglaw24_free N m = some ((decide (m ≠ 1000000)) && (decide (m ≠ (-1000000)))) := rfl
def freeP (m : Int) : Prop := m ≠ 1000000 ∧ m ≠ -1000000
theorem shifts_L3 (N : Nat) (fr q : Int) (g g' : Ga) (hg : g'.d = g.d ∧ g'.R = g.R ∧ g'.tol = g.tol ∧ g'.rate = g.rate) (hf : 0 ≤ fr ∧ fr ≤ 1000) (hq : 0 ≤ q ∧ q ≤ 100) (hl : g.S.length ≤ 1000) (hl' : g'.S.length ≤ 1000) : ∀ (n k : Nat), fr + (k : Int) ≤ fr + 1 + q → q + 1 < n + (k : Int) →
    D_putloglaw24_MonitorShifts_L3 N fr q g g'.S n (fr + k) = some (.inr true) ∨ (D_putloglaw24_MonitorShifts_L3 N fr q g g'.S n (fr + k) = some (.inl ()) ∧ ∀ i : Int, fr + k ≤ i → i < fr + 1 + q → freeP (boundsS g i).1 ∧ freeP (boundsS g i).2.1 ∧ freeP (boundsS g' i).1 ∧ freeP (boundsS g' i).2.1)
  | 0, k, hk, hn => by omega
  | n + 1, k, hk, hn => by
    rw [D_putloglaw24_MonitorShifts_L3]
    obtain ⟨d, R, tol, rate, S⟩ := g
    obtain ⟨d', R', tol', rate', S'⟩ := g'
    obtain ⟨rfl, rfl, rfl, rfl⟩ := hg
    by_cases h : fr + (k : Int) < fr + 1 + q
    · have e1 : decide (fr + (k : Int) < fr + 1 + q) = true := by simpa using h
      have ih := shifts_L3 N fr q ⟨d', R', tol', rate', S⟩ ⟨d', R', tol', rate', S'⟩ ⟨rfl, rfl, rfl, rfl⟩ hf hq hl hl' n (k + 1) (by omega) (by omega)
      have g3 : I64 (fr + (k : Int) + 1) := by unfold I64; omega
      simp only at hl hl'
      obtain ⟨B, hB⟩ : ∃ B, boundsS ⟨d', R', tol', rate', S⟩ (fr + (k : Int)) = B := ⟨_, rfl⟩
      obtain ⟨C, hC⟩ : ∃ C, boundsS ⟨d', R', tol', rate', S'⟩ (fr + (k : Int)) = C := ⟨_, rfl⟩
      simp only [e1, cond_true, gd_of hl, gd_of hl', hB, hC, Option.bind_some, free_eq, Option.isSome_some, implies_true, gd_true, Option.getD_some, gd_of g3]
      by_cases hfree : freeP B.1 ∧ freeP B.2.1 ∧ freeP C.1 ∧ freeP C.2.1
      · have e2 : ((((!(decide (B.1 ≠ 1000000) && decide (B.1 ≠ -1000000))) || (!(decide (B.2.1 ≠ 1000000) && decide (B.2.1 ≠ -1000000)))) || (!(decide (C.1 ≠ 1000000) && decide (C.1 ≠ -1000000)))) || (!(decide (C.2.1 ≠ 1000000) && decide (C.2.1 ≠ -1000000)))) = false := by
          unfold freeP at hfree
          simp
          omega
        rw [e2, cond_false]
        have e3 : fr + ((k + 1 : Nat) : Int) = fr + (k : Int) + 1 := by omega
        rw [e3] at ih
        rcases ih with ih | ⟨ih, hA⟩
        · exact .inl ih
        · refine .inr ⟨ih, fun i a b => ?_⟩
          rcases (by omega : i = fr + (k : Int) ∨ fr + (k : Int) + 1 ≤ i) with rfl | hi
          · rw [hB, hC]; exact hfree
          · exact hA i hi b
      · have e2 : ((((!(decide (B.1 ≠ 1000000) && decide (B.1 ≠ -1000000))) || (!(decide (B.2.1 ≠ 1000000) && decide (B.2.1 ≠ -1000000)))) || (!(decide (C.1 ≠ 1000000) && decide (C.1 ≠ -1000000)))) || (!(decide (C.2.1 ≠ 1000000) && decide (C.2.1 ≠ -1000000)))) = true := by
          unfold freeP at hfree
          simp
          omega
        rw [e2, cond_true]
        exact .inl rfl
    · have e1 : decide (fr + (k : Int) < fr + 1 + q) = false := by simpa using h
      rw [e1, cond_false]
      exact .inr ⟨rfl, fun i a b => by omega⟩

attribute [local irreducible] boundsS alarmS
theorem pureShifts (x : Sty) (hx : x.In) (plus t limit fro many : Int) (h1 : inI plus) (h2 : inI t) (h3 : inI limit) (h4 : inI fro) (h5 : inI many) : D_putloglaw24_MonitorShifts 3000 x.drift x.start x.rates x.rd x.tol x.rate x.first x.steps x.sm plus t limit fro many = some true := by
  have p1 := @pick_bd plus 2001 (by omega)
  have p2 := @pick_bd t 400 (by omega)
  have p3 := @pick_bd limit 3001 (by omega)
  have p4 := @pick_bd fro 400 (by omega)
  have p5 := @pick_bd many 40 (by omega)
  unfold D_putloglaw24_MonitorShifts
  obtain ⟨r, hr⟩ : ∃ s, pickS plus 2001 = s := ⟨_, rfl⟩
  obtain ⟨s, hs⟩ : ∃ s, pickS t 400 = s := ⟨_, rfl⟩
  obtain ⟨k, hk⟩ : ∃ s, pickS limit 3001 = s := ⟨_, rfl⟩
  obtain ⟨fr, hf⟩ : ∃ s, pickS fro 400 = s := ⟨_, rfl⟩
  obtain ⟨q, hq⟩ : ∃ s, pickS many 40 = s := ⟨_, rfl⟩
  rw [hr] at p1; rw [hs] at p2; rw [hk] at p3; rw [hf] at p4; rw [hq] at p5
  have hn : -1000 ≤ r - 1000 ∧ r - 1000 ≤ 1000 := by omega
  have hbA : ∀ i : Int, 0 ≤ i → i ≤ 10000 → boundsS (made24 x) i = ((lookS (made24 x).rate i (factsG (made24 x))).1, (lookS (made24 x).rate i (factsG (made24 x))).2.1, 0) := fun i a b => by
    unfold boundsS
    rw [(found_sound x (t := i) ⟨a, b⟩).1]
    rfl
  have hbB : ∀ i : Int, 0 ≤ i → i ≤ 10000 → boundsS (movG (made24 x) (r - 1000)) i = ((lookS (made24 x).rate i ((factsG (made24 x)).map (shF (r - 1000)))).1, (lookS (made24 x).rate i ((factsG (made24 x)).map (shF (r - 1000)))).2.1, 0) := fun i a b => by
    unfold boundsS
    rw [(mov_found x hn (t := i) ⟨a, b⟩).1]
    rfl
  have hlo := fun i => @look_sh_low (made24 x).rate i (r - 1000) (factsG (made24 x))
  have hhi := fun i => @look_sh_high (made24 x).rate i (r - 1000) (factsG (made24 x))
  have hlA := (made24_S x).1
  have hval := chain2_pair.1 (validG_parts (made24_valid x)).1
  obtain ⟨su, m, hal, _, _⟩ := alarm_sound x (limit := k - 1500) (fr := fr) (to := fr + 1 + q) (by omega)
  have hal2 : (∀ i : Int, fr ≤ i → i < fr + 1 + q → freeP (boundsS (made24 x) i).1 ∧ freeP (boundsS (made24 x) i).2.1 ∧ freeP (boundsS (movG (made24 x) (r - 1000)) i).1 ∧ freeP (boundsS (movG (made24 x) (r - 1000)) i).2.1) → alarmS (movG (made24 x) (r - 1000)) (k - 1500 + (r - 1000)) fr (fr + 1 + q) = (su, m, 0) := fun hA => by
    rw [← hal]
    unfold alarmS
    rw [if_neg (by unfold alarmBad; rw [mov_valid x hn]; simp; omega), if_neg (by unfold alarmBad; rw [made24_valid x]; simp; omega), facts_mov]
    show (match watchS (made24 x).rate _ _ _ _ _ _ with | none => _ | some (s, m) => _) = _
    have hw := @watch_sh (made24 x).rate (factsG (made24 x)) (r - 1000) (k - 1500) (fr + 1 + q - fr).toNat fr (-1) (-1) (fun i a b => by
      have hi := hA i a (by omega)
      rw [hbA i (by omega) (by omega), hbB i (by omega) (by omega)] at hi
      simp only [freeP] at hi
      exact ⟨hlo i hi.1.2 hi.2.2.1.2, hhi i hi.2.1.1 hi.2.2.2.1⟩)
    rw [hw]
    rfl
  have hB0 := hbB s (by omega) (by omega)
  have hA0 := hbA s (by omega) (by omega)
  have hlo0 := hlo s
  have hhi0 := hhi s
  have hL2 := shifts_L2 3000 (made24 x) r (by omega) (by omega) (fun z hz => ⟨(hval.2 z hz).2.2.1, (hval.2 z hz).2.2.2⟩) 3000 0 (by omega) (by omega)
  have hL3 := shifts_L3 3000 fr q (made24 x) (movG (made24 x) (r - 1000)) ⟨rfl, rfl, rfl, rfl⟩ (by omega) (by omega) (by omega) (by simp only [movG, List.length_map]; omega) 3000 0 (by omega) (by omega)
  have bl := (look_low (rate := (made24 x).rate) (t := s) (xs := factsG (made24 x)) (z := (lookS (made24 x).rate s (factsG (made24 x))).1)).1 (Int.le_refl _)
  have bh := (look_high (rate := (made24 x).rate) (t := s) (xs := factsG (made24 x)) (z := (lookS (made24 x).rate s (factsG (made24 x))).2.1)).1 (Int.le_refl _)
  have bs := (found_sound x (t := s) (by omega)).2
  have bv := valueS_bd x.rate x.first x.steps s.toNat
  generalize (lookS (made24 x).rate s (factsG (made24 x))).1 = a at *
  generalize (lookS (made24 x).rate s (factsG (made24 x))).2.1 = b at *
  generalize (lookS (made24 x).rate s ((factsG (made24 x)).map (shF (r - 1000)))).1 = c at *
  generalize (lookS (made24 x).rate s ((factsG (made24 x)).map (shF (r - 1000)))).2.1 = d at *
  have i1 : I64 (r - 1000) := by unfold I64; omega
  have i2 : I64 (a + (r - 1000)) := by unfold I64; omega
  have i3 : I64 (b + (r - 1000)) := by unfold I64; omega
  have i4 : I64 (fr + 1) := by unfold I64; omega
  have i5 : I64 (fr + 1 + q) := by unfold I64; omega
  have i6 : I64 (k - 1500) := by unfold I64; omega
  have i7 : I64 (k - 1500 + (r - 1000)) := by unfold I64; omega
  have i8 : -9223372036854775808 ≤ fr := by omega
  have i9 : fr + 1 + q ≤ 9223372036854775807 := by omega
  have l1 : (made24 x).S.length ≤ 1000 := by omega
  have l2 : ((made24 x).S.map (shS (r - 1000))).length ≤ 1000 := by simp; omega
  have hc : ((((decide (a ≠ 1000000) && decide (a ≠ -1000000)) && (decide (c ≠ 1000000) && decide (c ≠ -1000000))) && decide (c ≠ a + (r - 1000))) || (((decide (b ≠ 1000000) && decide (b ≠ -1000000)) && (decide (d ≠ 1000000) && decide (d ≠ -1000000))) && decide (d ≠ b + (r - 1000)))) = false := by
    simp only [Bool.or_eq_false_iff, Bool.and_eq_false_iff, decide_eq_false_iff_not]
    omega
  have hL2' : D_putloglaw24_MonitorShifts_L2 3000 (made24 x) r 3000 0 [] = some ((made24 x).S.map (shS (r - 1000))) := hL2
  have hL3' : D_putloglaw24_MonitorShifts_L3 3000 fr q (made24 x) ((made24 x).S.map (shS (r - 1000))) 3000 fr = some (.inr true) ∨ (D_putloglaw24_MonitorShifts_L3 3000 fr q (made24 x) ((made24 x).S.map (shS (r - 1000))) 3000 fr = some (.inl ()) ∧ ∀ i : Int, fr ≤ i → i < fr + 1 + q → freeP (boundsS (made24 x) i).1 ∧ freeP (boundsS (made24 x) i).2.1 ∧ freeP (boundsS (movG (made24 x) (r - 1000)) i).1 ∧ freeP (boundsS (movG (made24 x) (r - 1000)) i).2.1) := by
    simpa [movG] using hL3
  have hB0' : boundsS ⟨(made24 x).d, (made24 x).R, (made24 x).tol, (made24 x).rate, (made24 x).S.map (shS (r - 1000))⟩ s = (c, d, 0) := hB0
  clear hbA hbB hlo hhi hval hB0 hL2 hL3
  have hA : made24 ⟨x.drift, x.start, x.rates, x.rd, x.tol, x.rate, x.first, x.steps, x.sm⟩ = made24 x := rfl
  have eta : (⟨(made24 x).d, (made24 x).R, (made24 x).tol, (made24 x).rate, (made24 x).S⟩ : Ga) = made24 x := rfl
  simp only [gd_of hx.drift, gd_of hx.start, gd_of hx.rates, gd_of hx.rd, gd_of hx.tol, gd_of hx.rate, gd_of hx.first, gd_of hx.steps, gd_of hx.sm, hA, Option.bind_some, gd_of h1, gd_of h2, hr, hs, gd_of i1, hL2', gd_of l1, gd_of l2, eta, hA0, hB0', ne_eq, not_true_eq_false, decide_false, Bool.or_self, cond_false, free_eq, Option.isSome_some, Option.getD_some, implies_true, eq_true i2, eq_true i3, gd_true]
  simp only [ne_eq] at hc
  simp only [hc, cond_false, gd_of h4, hf, Option.bind_some, gd_of i4, gd_of h5, hq, gd_of i5]
  rcases hL3' with h | ⟨h, hA2⟩
  · simp only [h, Option.bind_some]
  · have hal3 : alarmS ⟨(made24 x).d, (made24 x).R, (made24 x).tol, (made24 x).rate, (made24 x).S.map (shS (r - 1000))⟩ (k - 1500 + (r - 1000)) fr (fr + 1 + q) = (su, m, 0) := hal2 hA2
    simp only [h, Option.bind_some, gd_of h3, hk, gd_of i6, gd_of l1, gd_of i8, gd_of i9, hal, gd_of i7, gd_of l2, hal3]
    simp
end Go.Proofs.Ytmmfbjmjhjmccaa.Am
