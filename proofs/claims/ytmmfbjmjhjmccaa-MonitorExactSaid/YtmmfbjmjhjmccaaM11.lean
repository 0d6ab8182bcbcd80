/-
  Plain laws: MonitorExact.
-/
import Derived.Test.YtmmfbjmjhjmccaaM10
namespace Go.Proofs.Ytmmfbjmjhjmccaa.Am
set_option linter.unusedSimpArgs false
set_option linter.unusedVariables false
set_option maxHeartbeats 4000000
open Go
attribute [local irreducible] boundsS atS
theorem gd_tr {α : Type} [Decidable True] {k : Option α} : gd True k = k := gd_of trivial
/-! ### The gauge -/
def GoodT (T : List Sm) (t : Int) (k : Nat) : Prop := T.length ≤ k ∧ 0 ≤ t ∧ t ≤ 30 * (k : Int) ∧ (T.Pairwise fun a b => a.1 < b.1) ∧ ∀ c ∈ T, 1 ≤ c.1 ∧ c.1 ≤ t ∧ -10000 ≤ c.2 ∧ c.2 ≤ 10000
theorem exact_L2 (N : Nat) (S : List Sm) (start p rate first : Int) (steps : List Int) (tol : Int) (hS : ∀ r ∈ S, inI r.1 ∧ inI r.2) (h1 : inI start) (h2 : inI rate) (h3 : inI first) (h4 : ∀ r ∈ steps, inI r) (hp : 0 ≤ p ∧ p < 1000) (ht : 0 ≤ tol ∧ tol ≤ 30) :
    ∀ (n k : Nat) (t : Int) (T : List Sm), k ≤ 12 → 12 < n + k → GoodT T t k → ∃ T' t' k', k' ≤ 12 ∧ D_putlogref24_Exact_L2 N S start p rate first steps tol n t k (T.map (shT p)) = some (T'.map (shT p)) ∧ GoodT T' t' k'
  | 0, k, t, T, hk, hn, hT => by omega
  | n + 1, k, t, T, hk, hn, hT => by
    rw [D_putlogref24_Exact_L2]
    by_cases hc : k < S.length ∧ k < 12
    · have e1 : (decide ((k : Int) < (S.length : Int)) && decide ((k : Int) < 12)) = true := by simp; omega
      obtain ⟨⟨a, b⟩, hab⟩ : ∃ s, S[k] = s := ⟨_, rfl⟩
      have hI := hS (a, b) (by rw [← hab]; exact List.getElem_mem _)
      have hn1 : nth S (k : Int) = some (a, b) := by rw [nth_nat, List.getElem?_eq_getElem hc.1, hab]
      have q1 := @pick_bd a 30 (by omega)
      have q2 := @pick_bd b (4 * tol + 1) (by omega)
      obtain ⟨g1, g2, g3, g4, g5⟩ := hT
      have hv := valueS_bd rate first steps (t + 1 + pickS a 30).toNat
      simp only [e1, cond_true, hn1, Option.bind_some]
      obtain ⟨v, hvv⟩ : ∃ v, valueS rate first steps (t + 1 + pickS a 30).toNat = v := ⟨_, rfl⟩
      obtain ⟨u, hu⟩ : ∃ u, pickS a 30 = u := ⟨_, rfl⟩
      obtain ⟨w, hw⟩ : ∃ u, pickS b (4 * tol + 1) = u := ⟨_, rfl⟩
      rw [hu] at q1
      rw [hw] at q2
      rw [hvv] at hv
      rw [hu] at hvv
      rw [hu] at hv
      have i1 := hI.1
      have i2 := hI.2
      simp only at i1 i2
      have j1 : I64 (t + 1) := by unfold I64; omega
      have j2 : I64 (t + 1 + u) := by unfold I64; omega
      have j3 : I64 (p + (t + 1 + u)) := by unfold I64; omega
      have j4 : 0 ≤ t + 1 + u ∧ t + 1 + u ≤ 100000 := by omega
      have j5 : I64 (4 * tol) := by unfold I64; omega
      have j6 : I64 (4 * tol + 1) := by unfold I64; omega
      have j7 : 0 < 4 * tol + 1 := by omega
      have j8 : I64 (v + w) := by unfold I64; omega
      have j9 : I64 (2 * tol) := by unfold I64; omega
      have j10 : I64 (v + w - 2 * tol) := by unfold I64; omega
      have j11 : ((T.map (shT p)).length + 1) * 16 ≤ 140737488355328 := by simp; omega
      have j12 : I64 ((k : Int) + 1) := by unfold I64; omega
      simp only [gd_of j1, gd_of i1, hu, Option.bind_some, gd_of j2, gd_of h1, gd_of j3, gd_of h2, gd_of h3, gd_of h4, gd_of j4, hvv, gd_of j5, gd_of j6, gd_of i2, gd_of j7, hw, gd_of j8, gd_of j9, gd_of j10, gd_of j11, gd_of j12]
      have ih := exact_L2 N S start p rate first steps tol hS h1 h2 h3 h4 hp ht n (k + 1) (t + 1 + u) (T ++ [(t + 1 + u, v + w - 2 * tol)]) (by omega) (by omega) ⟨by simp; omega, by omega, by omega, by
        rw [List.pairwise_append]
        refine ⟨g4, by simp, fun c hc' d hd => ?_⟩
        simp only [List.mem_singleton] at hd
        subst hd
        have := g5 c hc'
        simp only
        omega, fun c hc' => by
        rcases List.mem_append.1 hc' with h | h
        · have := g5 c h
          omega
        · simp only [List.mem_singleton] at h
          subst h
          simp only
          omega⟩
      rw [List.map_append] at ih
      exact ih
    · have e1 : (decide ((k : Int) < (S.length : Int)) && decide ((k : Int) < 12)) = false := by
        rw [← Bool.not_eq_true]
        simp only [Bool.and_eq_true, decide_eq_true_eq]
        omega
      rw [e1, cond_false]
      exact ⟨T, t, k, hk, rfl, hT⟩

theorem exact_total (x : Sty) (hx : x.In) : ∃ y : Ex, y.Ok ∧ D_putlogref24_Exact 3000 x.drift x.start x.rates x.rd x.tol x.rate x.first x.steps x.sm = some ((0, [(y.p + 50, 50, 50)]), y.tol, y.rate, y.T.map (shT y.p)) := by
  have p1 := @pick_bd x.start 1000 (by omega)
  have p2 := @pick_bd x.tol 31 (by omega)
  have p3 := @pick_bd x.rate 21 (by omega)
  unfold D_putlogref24_Exact
  obtain ⟨T, t, k, hk, hL, hT⟩ := exact_L2 3000 x.sm x.start (pickS x.start 1000) x.rate x.first x.steps (pickS x.tol 31) hx.sm hx.start hx.rate hx.first hx.steps (by omega) (by omega) 3000 0 0 [] (by omega) (by omega) ⟨by simp, by omega, by omega, by simp, by simp⟩
  obtain ⟨g1, g2, g3, g4, g5⟩ := hT
  refine ⟨⟨pickS x.start 1000, pickS x.tol 31, pickS x.rate 21, T⟩, ⟨by simp only; omega, by simp only; omega, by simp only; omega, by simp only; omega, g4, fun c hc => by have := g5 c hc; omega⟩, ?_⟩
  have i1 : I64 (pickS x.start 1000 + 50) := by unfold I64; omega
  have hL' : D_putlogref24_Exact_L2 3000 x.sm x.start (pickS x.start 1000) x.rate x.first x.steps (pickS x.tol 31) 3000 0 0 [] = some (T.map (shT (pickS x.start 1000))) := hL
  simp only [gd_of hx.start, Option.bind_some, gd_of i1, gd_of hx.tol, gd_of hx.rate, hL']

/-! ### The law's loops -/
theorem ex_nth {x : Ex} (_ : x.Ok) {k : Nat} (hk : k < x.T.length) : nth x.G.S (k : Int) = some (x.p + x.T[k].1, x.T[k].2) := by
  rw [nth_nat]
  simp [Ex.G, hk, shT]
theorem ex_sec {x : Ex} (_ : x.Ok) {k : Nat} (hk : k < x.T.length) : nth (x.T.map (·.1)) (k : Int) = some x.T[k].1 := by
  rw [nth_nat]
  simp [hk]
section
variable {x : Ex} (h : x.Ok)
include h
theorem ex_L3 (N : Nat) : ∀ (n k : Nat) (bad : Bool), k ≤ x.T.length → x.T.length < n + k →
    D_putloglaw24_MonitorExact_L3 N x.G.S 0 [(x.p + 50, 50, 50)] x.tol x.rate n bad k ((x.T.take k).map fun c => (boundsS x.G c.1).1) ((x.T.take k).map (·.1)) = some (.inl (bad || (x.T.drop k).any (fun c => decide ((boundsS x.G c.1).2.2 ≠ 0)), x.T.map (fun c => (boundsS x.G c.1).1), x.T.map (·.1)))
  | 0, k, bad, hk, hn => by omega
  | n + 1, k, bad, hk, hn => by
    rw [D_putloglaw24_MonitorExact_L3]
    have hl := h.len
    have hlen : x.G.S.length = x.T.length := by simp [Ex.G]
    rw [hlen]
    by_cases hc : k < x.T.length
    · have e1 : decide ((k : Int) < (x.T.length : Int)) = true := by simp; omega
      obtain ⟨⟨t, v⟩, hab⟩ : ∃ s, x.T[k] = s := ⟨_, rfl⟩
      have hb := h.bd (t, v) (by rw [← hab]; exact List.getElem_mem _)
      have hn1 := ex_nth h hc
      rw [hab] at hn1
      have ha := @exact_at x.p t h.p (by simp only at hb; omega)
      have j0 : x.T.length ≤ 1000 := by omega
      have j1 : (((x.T.take k).map (·.1)).length + 1) * 8 ≤ 140737488355328 := by simp; omega
      have j2 : (((x.T.take k).map fun c => (boundsS x.G c.1).1).length + 1) * 8 ≤ 140737488355328 := by simp; omega
      have j3 : I64 ((k : Int) + 1) := by unfold I64; omega
      obtain ⟨⟨B1, B2, B3⟩, hB⟩ : ∃ B, boundsS x.G t = B := ⟨_, rfl⟩
      have hB' : boundsS ⟨0, [(x.p + 50, 50, 50)], x.tol, x.rate, x.G.S⟩ t = (B1, B2, B3) := hB
      have ih := ex_L3 N n (k + 1) (bad || decide (B3 ≠ 0)) (by omega) (by omega)
      have etk : x.T.take (k + 1) = x.T.take k ++ [(t, v)] := by rw [List.take_add_one, List.getElem?_eq_getElem hc, hab]; rfl
      have edk : x.T.drop k = (t, v) :: x.T.drop (k + 1) := by rw [List.drop_eq_getElem_cons hc, hab]
      rw [etk] at ih
      simp only [List.map_append, List.map_cons, List.map_nil, hB] at ih
      simp only [e1, cond_true, hn1, Option.bind_some, ha, gd_of j0, hB', ne_eq, not_true_eq_false, decide_false, Bool.or_self, cond_false, gd_of j1, gd_of j2, gd_of j3]
      rw [edk, List.any_cons, hB]
      simp only [ne_eq, Bool.or_assoc] at ih ⊢
      exact ih
    · have e1 : decide ((k : Int) < (x.T.length : Int)) = false := by simp; omega
      rw [e1, cond_false, List.take_of_length_le (by omega), List.drop_eq_nil_of_le (by omega)]
      simp

theorem ex_L9 (N : Nat) (i : Nat) (hi : i < x.T.length) : ∀ (n k : Nat), k ≤ x.T.length → x.T.length < n + k →
    D_putloglaw24_MonitorExact_L9 N (x.T.map (·.1)) i x.rate x.G.S x.tol n k = some (.inr true) ∨ (D_putloglaw24_MonitorExact_L9 N (x.T.map (·.1)) i x.rate x.G.S x.tol n k = some (.inl ()) ∧ ∀ j (hj : j < x.T.length), k ≤ j → ¬ (2 * x.tol + x.rate * Dst x.T[i].1 x.T[j].1 < x.T[i].2 - x.T[j].2))
  | 0, k, hk, hn => by omega
  | n + 1, k, hk, hn => by
    rw [D_putloglaw24_MonitorExact_L9]
    simp only [List.length_map]
    by_cases hc : k < x.T.length
    · have e1 : decide ((k : Int) < (x.T.length : Int)) = true := by simp; omega
      have b1 := h.bd x.T[i] (List.getElem_mem _)
      have b2 := h.bd x.T[k] (List.getElem_mem _)
      have hm := @mul_small x.rate (max (x.T[i].1 - x.T[k].1) (x.T[k].1 - x.T[i].1)) h.rate (by omega)
      have htol := h.tol
      have hl := h.len
      have ih := ex_L9 N i hi n (k + 1) (by omega) (by omega)
      simp only [e1, cond_true, ex_sec h hi, ex_sec h hc, ex_nth h hi, ex_nth h hc, Option.bind_some]
      have hd : x.rate * Dst x.T[i].1 x.T[k].1 = x.rate * max (x.T[i].1 - x.T[k].1) (x.T[k].1 - x.T[i].1) := rfl
      generalize x.rate * max (x.T[i].1 - x.T[k].1) (x.T[k].1 - x.T[i].1) = far at *
      have j1 : I64 (x.T[i].1 - x.T[k].1) := by unfold I64; omega
      have j2 : I64 (x.T[k].1 - x.T[i].1) := by unfold I64; omega
      have j3 : I64 far := by unfold I64; omega
      have j4 : I64 (x.T[i].2 - x.T[k].2) := by unfold I64; omega
      have j5 : I64 (2 * x.tol) := by unfold I64; omega
      have j6 : I64 (2 * x.tol + far) := by unfold I64; omega
      have j7 : I64 ((k : Int) + 1) := by unfold I64; omega
      simp only [gd_of j1, gd_of j2, gd_of j3, gd_of j4, gd_of j5, gd_of j6, gd_of j7]
      by_cases hx : 2 * x.tol + far < x.T[i].2 - x.T[k].2
      · have e2 : decide (2 * x.tol + far < x.T[i].2 - x.T[k].2) = true := by simpa using hx
        rw [e2, cond_true]
        exact .inl rfl
      · have e2 : decide (2 * x.tol + far < x.T[i].2 - x.T[k].2) = false := by simpa using hx
        rw [e2, cond_false]
        rcases ih with ih | ⟨ih, hA⟩
        · exact .inl ih
        · refine .inr ⟨ih, fun j hj hkj => ?_⟩
          rcases Nat.eq_or_lt_of_le hkj with e | hlt
          · subst e
            rw [hd]
            exact hx
          · exact hA j hj hlt
    · have e1 : decide ((k : Int) < (x.T.length : Int)) = false := by simp; omega
      rw [e1, cond_false]
      exact .inr ⟨rfl, fun j hj hkj => by omega⟩

theorem ex_L7 (N : Nat) (hN : x.T.length < N) : ∀ (n i : Nat), i ≤ x.T.length → x.T.length < n + i →
    D_putloglaw24_MonitorExact_L7 N (x.T.map (·.1)) x.rate x.G.S x.tol n i = some (.inr true) ∨ (D_putloglaw24_MonitorExact_L7 N (x.T.map (·.1)) x.rate x.G.S x.tol n i = some (.inl ()) ∧ ∀ i' (hi : i' < x.T.length) j (hj : j < x.T.length), i ≤ i' → ¬ (2 * x.tol + x.rate * Dst x.T[i'].1 x.T[j].1 < x.T[i'].2 - x.T[j].2))
  | 0, k, hk, hn => by omega
  | n + 1, i, hk, hn => by
    rw [D_putloglaw24_MonitorExact_L7]
    simp only [List.length_map]
    have hl := h.len
    by_cases hc : i < x.T.length
    · have e1 : decide ((i : Int) < (x.T.length : Int)) = true := by simp; omega
      rw [e1, cond_true]
      have j7 : I64 ((i : Int) + 1) := by unfold I64; omega
      have h9 := ex_L9 h N i hc N 0 (by omega) (by omega)
      have e0 : ((0 : Nat) : Int) = 0 := rfl
      rw [e0] at h9
      have ih := ex_L7 N hN n (i + 1) (by omega) (by omega)
      rcases h9 with h9 | ⟨h9, hA⟩
      · rw [h9]
        exact .inl rfl
      · rw [h9]
        simp only [Option.bind_some, gd_of j7]
        rcases ih with ih | ⟨ih, hB⟩
        · exact .inl ih
        · refine .inr ⟨ih, fun i' hi j hj hii => ?_⟩
          rcases Nat.eq_or_lt_of_le hii with e | hlt
          · subst e
            exact hA j hj (Nat.zero_le _)
          · exact hB i' hi j hj hlt
    · have e1 : decide ((i : Int) < (x.T.length : Int)) = false := by simp; omega
      rw [e1, cond_false]
      exact .inr ⟨rfl, fun i' hi j hj hii => by omega⟩

/-- The values that show that bounds cannot be narrowed. -/
def Wv (x : Ex) (w at_ : Int) (c : Sm) : Int := max (x.lo c.1) (w - x.rate * max (c.1 - at_) (at_ - c.1))
theorem wv_lip (w at_ : Int) {c d : Sm} (hcd : c.1 < d.1) : Wv x w at_ d - Wv x w at_ c ≤ x.rate * (d.1 - c.1) ∧ Wv x w at_ c - Wv x w at_ d ≤ x.rate * (d.1 - c.1) := by
  have a := Ex.lo_lip h d.1 c.1
  have b := Ex.lo_lip h c.1 d.1
  have e1 : Dst d.1 c.1 = d.1 - c.1 := by unfold Dst; omega
  have e2 : Dst c.1 d.1 = d.1 - c.1 := by unfold Dst; omega
  rw [e1] at a
  rw [e2] at b
  have t1 := dst_tri h.rate.1 c.1 at_ d.1
  have t2 := dst_tri h.rate.1 d.1 at_ c.1
  rw [e2] at t1
  rw [e1] at t2
  have e3 : x.rate * Dst c.1 at_ = x.rate * max (c.1 - at_) (at_ - c.1) := rfl
  have e4 : x.rate * Dst d.1 at_ = x.rate * max (d.1 - at_) (at_ - d.1) := rfl
  rw [e3, e4] at t1 t2
  unfold Wv
  omega
theorem ex_L14 (N : Nat) (w1 w2 at_ : Int) (i : Nat) (hi : i < x.T.length) (hw : ∀ c ∈ x.T, -1000000 ≤ Wv x (w1 + w2) at_ c ∧ Wv x (w1 + w2) at_ c ≤ 1000000) : ∀ (n k : Nat), k ≤ i → i < n + k →
    D_putloglaw24_MonitorExact_L14 N i (x.T.map (·.1)) x.T[i].1 x.rate ((x.T.take i).map (Wv x (w1 + w2) at_)) (x.lo x.T[i].1) w1 w2 at_ n k = some (.inl ())
  | 0, k, hk, hn => by omega
  | n + 1, k, hk, hn => by
    rw [D_putloglaw24_MonitorExact_L14]
    by_cases hc : k < i
    · have e1 : decide ((k : Int) < (i : Int)) = true := by simp; omega
      have hk' : k < x.T.length := by omega
      have ih := ex_L14 N w1 w2 at_ i hi hw n (k + 1) (by omega) (by omega)
      have hl := h.len
      have b1 := h.bd x.T[i] (List.getElem_mem _)
      have b2 := h.bd x.T[k] (List.getElem_mem _)
      have w1' := hw x.T[i] (List.getElem_mem _)
      have w2' := hw x.T[k] (List.getElem_mem _)
      have hlt : x.T[k].1 < x.T[i].1 := List.pairwise_iff_getElem.1 h.asc k i hk' hi hc
      have lip := wv_lip h (w1 + w2) at_ hlt
      have hn1 : nth ((x.T.take i).map (Wv x (w1 + w2) at_) ++ [max (x.lo x.T[i].1) (w1 + w2 - x.rate * max (x.T[i].1 - at_) (at_ - x.T[i].1))]) (k : Int) = some (Wv x (w1 + w2) at_ x.T[k]) := by
        rw [nth_nat, List.getElem?_append_left (by simp; omega)]
        simp [hc, hk']
      have hW : max (x.lo x.T[i].1) (w1 + w2 - x.rate * max (x.T[i].1 - at_) (at_ - x.T[i].1)) = Wv x (w1 + w2) at_ x.T[i] := rfl
      simp only [e1, cond_true, ex_sec h hk', hn1, Option.bind_some]
      simp only [hW]
      have hm := @mul_small x.rate (x.T[i].1 - x.T[k].1) h.rate (by omega)
      generalize x.rate * (x.T[i].1 - x.T[k].1) = far at *
      generalize Wv x (w1 + w2) at_ x.T[i] = A at *
      generalize Wv x (w1 + w2) at_ x.T[k] = B at *
      have j1 : I64 (x.T[i].1 - x.T[k].1) := by unfold I64; omega
      have j2 : I64 far := by unfold I64; omega
      have j3 : I64 (A - B) := by unfold I64; omega
      have j4 : I64 (B - A) := by unfold I64; omega
      have j5 : I64 ((k : Int) + 1) := by unfold I64; omega
      have e2 : (decide (far < A - B) || decide (far < B - A)) = false := by simp; omega
      simp only [gd_of j1, gd_of j2, gd_of j3, eq_true j4, implies_true, gd_tr, e2, cond_false, gd_of j5]
      exact ih
    · have e1 : decide ((k : Int) < (i : Int)) = false := by simp; omega
      rw [e1, cond_false]

theorem ex_L12 (N : Nat) (w1 w2 at_ : Int) (hN : 12 < N) (hat : 0 ≤ at_ ∧ at_ ≤ 400) (hgood : ∀ c ∈ x.T, boundsS x.G c.1 = (x.lo c.1, x.hi c.1, 0)) (hle : ∀ c ∈ x.T, x.lo c.1 ≤ x.hi c.1) (hlo : x.lo at_ ≤ w1 + w2) (hhi : w1 + w2 ≤ x.hi at_) : ∀ (n i : Nat), i ≤ x.T.length → x.T.length < n + i →
    D_putloglaw24_MonitorExact_L12 N (x.T.map (·.1)) at_ x.rate (x.T.map fun c => (boundsS x.G c.1).1) w1 w2 x.G.S x.tol n i ((x.T.take i).map (Wv x (w1 + w2) at_)) = some (.inl ())
  | 0, k, hk, hn => by omega
  | n + 1, i, hk, hn => by
    have htol := h.tol
    have hl := h.len
    have key : ∀ c ∈ x.T, Wv x (w1 + w2) at_ c - c.2 ≤ x.tol ∧ c.2 - Wv x (w1 + w2) at_ c ≤ x.tol ∧ Wv x (w1 + w2) at_ c - (w1 + w2) ≤ x.rate * max (c.1 - at_) (at_ - c.1) ∧ (w1 + w2) - Wv x (w1 + w2) at_ c ≤ x.rate * max (c.1 - at_) (at_ - c.1) ∧ -1000000 ≤ Wv x (w1 + w2) at_ c ∧ Wv x (w1 + w2) at_ c ≤ 1000000 ∧ 0 ≤ x.rate * max (c.1 - at_) (at_ - c.1) ∧ x.rate * max (c.1 - at_) (at_ - c.1) ≤ 20000 := fun c hc => by
      have hb := h.bd c hc
      have a1 := Ex.lo_self h hc
      have a2 := Ex.hi_self h hc
      have a3 := hle c hc
      have a4 := Ex.hi_c h at_ hc
      have a5 := Ex.lo_lip h c.1 at_
      have a6 := Ex.lo_ge h c.1
      have hm := @mul_small x.rate (max (c.1 - at_) (at_ - c.1)) h.rate (by omega)
      rw [dst_comm] at a4
      have e3 : x.rate * Dst c.1 at_ = x.rate * max (c.1 - at_) (at_ - c.1) := rfl
      rw [e3] at a4 a5
      unfold Wv
      omega
    rw [D_putloglaw24_MonitorExact_L12]
    simp only [List.length_map]
    by_cases hc : i < x.T.length
    · have e1 : decide ((i : Int) < (x.T.length : Int)) = true := by simp; omega
      have ih := ex_L12 N w1 w2 at_ hN hat hgood hle hlo hhi n (i + 1) (by omega) (by omega)
      have hmem : x.T[i] ∈ x.T := List.getElem_mem _
      have hb := h.bd x.T[i] hmem
      have hk' := key x.T[i] hmem
      have hn1 : nth (x.T.map fun c => (boundsS x.G c.1).1) (i : Int) = some (x.lo x.T[i].1) := by
        rw [nth_nat]
        simp [hc, hgood x.T[i] hmem]
      have h14 := ex_L14 h N w1 w2 at_ i hc (fun c hc' => ⟨(key c hc').2.2.2.2.1, (key c hc').2.2.2.2.2.1⟩) N 0 (by omega) (by omega)
      have e0 : ((0 : Nat) : Int) = 0 := rfl
      rw [e0] at h14
      have etk : x.T.take (i + 1) = x.T.take i ++ [x.T[i]] := by rw [List.take_add_one, List.getElem?_eq_getElem hc]; rfl
      rw [etk, List.map_append] at ih
      simp only [List.map_cons, List.map_nil] at ih
      have hW : max (x.lo x.T[i].1) (w1 + w2 - x.rate * max (x.T[i].1 - at_) (at_ - x.T[i].1)) = Wv x (w1 + w2) at_ x.T[i] := rfl
      have j0 : I64 (w1 + w2 - x.rate * max (x.T[i].1 - at_) (at_ - x.T[i].1)) := by
        have c1 := Ex.lo_ge h at_
        have c2 := Ex.hi_le h at_
        unfold I64; omega
      have j9 : I64 (x.rate * max (x.T[i].1 - at_) (at_ - x.T[i].1)) := by unfold I64; omega
      simp only [e1, cond_true, ex_sec h hc, ex_nth h hc, hn1, Option.bind_some, hW, gd_of j0, gd_of j9]
      obtain ⟨W, hWe⟩ : ∃ W, Wv x (w1 + w2) at_ x.T[i] = W := ⟨_, rfl⟩
      obtain ⟨far, hf⟩ : ∃ f, x.rate * max (x.T[i].1 - at_) (at_ - x.T[i].1) = f := ⟨_, rfl⟩
      rw [hWe, hf] at hk'
      rw [hWe] at ih
      simp only [hWe, hf]
      have c1 := Ex.lo_ge h at_
      have c2 := Ex.hi_le h at_
      have j1 : I64 (x.T[i].1 - at_) := by unfold I64; omega
      have j2 : I64 (at_ - x.T[i].1) := by unfold I64; omega
      have j4 : I64 (W - x.T[i].2) := by unfold I64; omega
      have j5 : I64 (x.T[i].2 - W) := by unfold I64; omega
      have j6 : I64 (W - (w1 + w2)) := by unfold I64; omega
      have j7 : I64 ((w1 + w2) - W) := by unfold I64; omega
      have j8 : ((x.T.take i).length + 1) * 8 ≤ 140737488355328 := by simp; omega
      have j10 : I64 ((i : Int) + 1) := by unfold I64; omega
      have e2 : (((((decide (x.tol < W - x.T[i].2) || decide (x.tol < x.T[i].2 - W)) || decide (far < W - (w1 + w2))) || decide (far < (w1 + w2) - W)) || decide (W < -1000000)) || decide (1000000 < W)) = false := by
        simp; omega
      simp only [gd_of j1, gd_of j2, gd_of j4, eq_true j5, eq_true j6, eq_true j7, implies_true, gd_tr, e2, cond_false, gd_of j8, h14, Option.bind_some, gd_of j10]
      exact ih
    · have e1 : decide ((i : Int) < (x.T.length : Int)) = false := by simp; omega
      rw [e1, cond_false]
end

theorem pureExact (x : Sty) (hx : x.In) (t which : Int) (h1 : inI t) (h2 : inI which) : D_putloglaw24_MonitorExact 3000 x.drift x.start x.rates x.rd x.tol x.rate x.first x.steps x.sm t which = some true := by
  obtain ⟨y, hy, hE⟩ := exact_total x hx
  have p1 := @pick_bd t 400 (by omega)
  unfold D_putloglaw24_MonitorExact
  obtain ⟨s, hs⟩ : ∃ s, pickS t 400 = s := ⟨_, rfl⟩
  rw [hs] at p1
  have hl := hy.len
  have g1 : (y.T.map (shT y.p)).length ≤ 1000 := by simp; omega
  have hb := Ex.bnd hy (s := s) (by omega)
  have hL3 := ex_L3 hy 3000 3000 0 (decide ((boundsS y.G s).2.2 ≠ 0)) (by omega) (by omega)
  have hL7 := ex_L7 hy 3000 (by omega) 3000 0 (by omega) (by omega)
  obtain ⟨⟨B1, B2, B3⟩, hB⟩ : ∃ B, boundsS y.G s = B := ⟨_, rfl⟩
  rw [hB] at hb hL3
  have hB' : boundsS ⟨0, [(y.p + 50, 50, 50)], y.tol, y.rate, y.T.map (shT y.p)⟩ s = (B1, B2, B3) := hB
  have hGS : y.G.S = y.T.map (shT y.p) := rfl
  rw [hGS] at hL3 hL7
  simp only [List.take_zero, List.map_nil, List.drop_zero] at hL3
  have e0 : ((0 : Nat) : Int) = 0 := rfl
  rw [e0] at hL3 hL7
  simp only [hE, Option.bind_some, gd_of h1, hs, gd_of g1, hB']
  try simp only at hL3
  rw [hL3]
  simp only [Option.bind_some]
  by_cases hbad : y.lo s ≤ y.hi s ∧ ∀ c ∈ y.T, y.lo c.1 ≤ y.hi c.1
  · obtain ⟨b1, b2⟩ := hbad
    rw [if_pos b1] at hb
    simp only [Prod.mk.injEq] at hb
    obtain ⟨rfl, rfl, rfl⟩ := hb
    have hgood : ∀ c ∈ y.T, boundsS y.G c.1 = (y.lo c.1, y.hi c.1, 0) := fun c hc => by
      have := hy.bd c hc
      rw [Ex.bnd hy (by omega), if_pos (b2 c hc)]
    have hany : (decide ((0 : Int) ≠ 0) || y.T.any fun c => decide ((boundsS y.G c.1).2.2 ≠ 0)) = false := by
      simp only [ne_eq, not_true_eq_false, decide_false, Bool.false_or, List.any_eq_false, decide_eq_true_eq, Classical.not_not]
      intro c hc
      rw [hgood c hc]
    have c1 := Ex.lo_ge hy s
    have c2 := Ex.hi_le hy s
    rw [hany, cond_false]
    have q := @pick_bd which (y.hi s - y.lo s + 1) (by omega)
    obtain ⟨u, hu⟩ : ∃ u, pickS which (y.hi s - y.lo s + 1) = u := ⟨_, rfl⟩
    rw [hu] at q
    have hL12 := ex_L12 hy 3000 (y.lo s) u s (by omega) (by omega) hgood b2 (by omega) (by omega) 3000 0 (by omega) (by omega)
    simp only [List.take_zero, List.map_nil] at hL12
    rw [e0, hGS] at hL12
    have j1 : I64 (y.hi s - y.lo s) := by unfold I64; omega
    have j2 : I64 (y.hi s - y.lo s + 1) := by unfold I64; omega
    have j3 : 0 < y.hi s - y.lo s + 1 := by omega
    have j4 : I64 (y.lo s + u) := by unfold I64; omega
    simp only [gd_of j1, gd_of j2, gd_of h2, gd_of j3, hu, Option.bind_some, gd_of j4, hL12]
    simp [b1, c1, c2]
  · have hany : (decide (B3 ≠ 0) || y.T.any fun c => decide ((boundsS y.G c.1).2.2 ≠ 0)) = true := by
      by_cases b1 : y.lo s ≤ y.hi s
      · have b2 : ¬ ∀ c ∈ y.T, y.lo c.1 ≤ y.hi c.1 := fun b2 => hbad ⟨b1, b2⟩
        simp only [Classical.not_forall] at b2
        obtain ⟨c, hc, hlt⟩ := b2
        have := hy.bd c hc
        have e : boundsS y.G c.1 = (0, 0, 240) := by rw [Ex.bnd hy (by omega), if_neg hlt]
        have : (y.T.any fun c => decide ((boundsS y.G c.1).2.2 ≠ 0)) = true := List.any_eq_true.2 ⟨c, hc, by rw [e]; rfl⟩
        rw [this, Bool.or_true]
      · rw [if_neg b1] at hb
        simp only [Prod.mk.injEq] at hb
        rw [hb.2.2]
        rfl
    rw [hany, cond_true]
    have hcon : ∃ a ∈ y.T, ∃ b ∈ y.T, 2 * y.tol + y.rate * Dst a.1 b.1 < a.2 - b.2 := by
      by_cases b1 : y.lo s ≤ y.hi s
      · have b2 : ¬ ∀ c ∈ y.T, y.lo c.1 ≤ y.hi c.1 := fun b2 => hbad ⟨b1, b2⟩
        simp only [Classical.not_forall] at b2
        obtain ⟨c, hc, hlt⟩ := b2
        exact Ex.contra hy (s := c.1) (by omega)
      · exact Ex.contra hy (s := s) (by omega)
    rcases hL7 with h7 | ⟨h7, hA⟩
    · rw [h7]
      rfl
    · exfalso
      obtain ⟨a, ha, b, hb', hlt⟩ := hcon
      obtain ⟨i, hi, rfl⟩ := List.mem_iff_getElem.1 ha
      obtain ⟨j, hj, rfl⟩ := List.mem_iff_getElem.1 hb'
      exact hA i hi j hj (Nat.zero_le _) hlt
end Go.Proofs.Ytmmfbjmjhjmccaa.Am
