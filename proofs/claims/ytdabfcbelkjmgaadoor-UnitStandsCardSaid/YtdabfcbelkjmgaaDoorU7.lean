import Derived.Test.YtdabfcbelkjmgaaDoorUM
import Derived.Test.YtdabfcbelkjmgaaDoorL2
/-
  UnitStands.
-/
namespace Go.Proofs.YtdabfcbelkjmgaaDoor.Am
set_option linter.unusedSimpArgs false
set_option linter.unusedVariables false
/-- Of an edge on the ground: it goes to the right, and all other corners lie above. -/
theorem ground_edge {l : List Pt} (h : VP l) (hy : ∀ p ∈ l, 0 ≤ p.2) {i : Nat} (hi : i < l.length) (h0 : (pa l i).2 = 0) (h1 : (pa l ((i + 1) % l.length)).2 = 0) :
    (pa l i).1 < (pa l ((i + 1) % l.length)).1 ∧ ∀ k, k < l.length → k ≠ i → k ≠ (i + 1) % l.length → 0 < (pa l k).2 := by
  have key : ∀ k, k < l.length → k ≠ i → k ≠ (i + 1) % l.length → 0 < ((pa l ((i + 1) % l.length)).1 - (pa l i).1) * (pa l k).2 := fun k hk k1 k2 => by
    have := h.cv i k hi hk k1 k2
    unfold trn at this
    rw [h0, h1] at this
    simpa using this
  have pos : ∀ k, k < l.length → k ≠ i → k ≠ (i + 1) % l.length → 0 < (pa l k).2 := fun k hk k1 k2 => by
    have h2 := key k hk k1 k2
    have h3 := hy _ (pa_mem hk)
    rcases Int.lt_or_eq_of_le h3 with h4 | h4
    · exact h4
    · rw [← h4] at h2; simp at h2
  refine ⟨?_, pos⟩
  have l3 := h.l3
  obtain ⟨k, hk, k1, k2⟩ : ∃ k, k < l.length ∧ k ≠ i ∧ k ≠ (i + 1) % l.length := by
    by_cases a0 : 0 ≠ i ∧ 0 ≠ (i + 1) % l.length
    · exact ⟨0, by omega, a0⟩
    by_cases a1 : 1 ≠ i ∧ 1 ≠ (i + 1) % l.length
    · exact ⟨1, by omega, a1⟩
    · exact ⟨2, by omega, by omega, by omega⟩
  have h2 := key k hk k1 k2
  have h3 := pos k hk k1 k2
  by_cases h4 : (pa l i).1 < (pa l ((i + 1) % l.length)).1
  · exact h4
  · have : 0 ≤ ((pa l i).1 - (pa l ((i + 1) % l.length)).1) * (pa l k).2 := Int.mul_nonneg (by omega) (by omega)
    rw [Int.sub_mul] at this h2
    omega
/-- Two corners on the ground are neighbours. -/
theorem ground_two {l : List Pt} (h : VP l) (hy : ∀ p ∈ l, 0 ≤ p.2) {i k : Nat} (hi : i < l.length) (hk : k < l.length) (hne : k ≠ i) (h0 : (pa l i).2 = 0) (h1 : (pa l k).2 = 0) : k = (i + 1) % l.length ∨ i = (k + 1) % l.length := by
  have l3 := h.l3
  by_cases n1 : k = (i + 1) % l.length
  · exact .inl n1
  by_cases n2 : i = (k + 1) % l.length
  · exact .inr n2
  exfalso
  have a := h.cv i k hi hk hne n1
  have b := h.cv k i hk hi (Ne.symm hne) n2
  have ya := hy _ (pa_mem (l := l) (Nat.mod_lt (i + 1) (by omega)))
  have yb := hy _ (pa_mem (l := l) (Nat.mod_lt (k + 1) (by omega)))
  unfold trn at a b
  rw [h0, h1] at a b
  simp only [Int.sub_zero, Int.sub_self, Int.mul_zero, Int.zero_sub] at a b
  have a2 : (pa l k).1 < (pa l i).1 := by
    by_cases c : (pa l k).1 < (pa l i).1
    · exact c
    · have := Int.mul_nonneg ya (show 0 ≤ (pa l k).1 - (pa l i).1 by omega)
      omega
  have b2 : (pa l i).1 < (pa l k).1 := by
    by_cases c : (pa l i).1 < (pa l k).1
    · exact c
    · have := Int.mul_nonneg yb (show 0 ≤ (pa l i).1 - (pa l k).1 by omega)
      omega
  omega
theorem stands_low (N : Nat) (l : List Pt) (hl : l.length ≤ 1000) : ∀ (n i : Nat) (u : Int), i ≤ l.length → l.length < n + i → ∃ u', D_putloglaw08_UnitStands_L1 N l n u i = some u' ∧ u' ≤ u ∧ (∀ j, i ≤ j → j < l.length → u' ≤ (pa l j).2) ∧ (u' ≠ u → ∃ j, j < l.length ∧ u' = (pa l j).2)
  | 0, i, u, hi, hn => by omega
  | n + 1, i, u, hi, hn => by
    rw [D_putloglaw08_UnitStands_L1]
    by_cases he : i = l.length
    · subst he
      rw [dge, cF]
      exact ⟨u, rfl, Int.le_refl _, fun j h1 h2 => by omega, fun h => absurd rfl h⟩
    have hi' : i < l.length := by omega
    rw [dlt hi', cT, nth_pa hi', bS]
    simp only
    rw [gd_of (by unfold I64; omega), ← ns]
    obtain ⟨u', e, h1, h2, h3⟩ := stands_low N l hl n (i + 1) (min u (pa l i).2) (by omega) (by omega)
    refine ⟨u', e, by clear h3; omega, fun j hj hl => ?_, fun hne => ?_⟩
    · by_cases hji : j = i
      · subst hji; clear h3; omega
      · exact h2 j (by omega) hl
    · by_cases c : u' = min u (pa l i).2
      · exact ⟨i, hi', by clear h3; omega⟩
      · exact h3 c
theorem stands_cnt (N : Nat) (l : List Pt) (hl : l.length ≤ 1000) : ∀ (n i : Nat) (c : Int), i ≤ l.length → l.length < n + i → 0 ≤ c ∧ c ≤ i → D_putloglaw08_UnitStands_L2 N l n c i = some (c + (((l.drop i).filter fun p => decide (p.2 = 0)).length : Int))
  | 0, i, c, hi, hn, _ => by omega
  | n + 1, i, c, hi, hn, hc => by
    rw [D_putloglaw08_UnitStands_L2]
    by_cases he : i = l.length
    · subst he
      rw [dge, cF, List.drop_length]
      simp
    have hi' : i < l.length := by omega
    rw [dlt hi', cT, nth_pa hi', bS, drop_pa hi', List.filter_cons]
    simp only
    by_cases h : (pa l i).2 = 0
    · rw [decide_eq_true h, cT, gd_of (by unfold I64; omega), gd_of (by unfold I64; omega), ← ns, stands_cnt N l hl n (i + 1) (c + 1) (by omega) (by omega) (by omega), if_pos rfl, List.length_cons]
      congr 1
      omega
    · rw [decide_eq_false h, cF, gd_of (by unfold I64; omega), ← ns, stands_cnt N l hl n (i + 1) c (by omega) (by omega) (by omega), if_neg (by simp)]
theorem stands_ends (N : Nat) (l : List Pt) (P Q : Pt) (hl : l.length ≤ 1000) : ∀ (n i : Nat) (c : Int), i ≤ l.length → l.length < n + i → 0 ≤ c ∧ c ≤ i → D_putloglaw08_UnitStands_L3 N l P.1 P.2 Q.1 Q.2 n c i = some (c + (((l.drop i).filter fun x => decide (x = P) || decide (x = Q)).length : Int))
  | 0, i, c, hi, hn, _ => by omega
  | n + 1, i, c, hi, hn, hc => by
    rw [D_putloglaw08_UnitStands_L3]
    by_cases he : i = l.length
    · subst he
      rw [dge, cF, List.drop_length]
      simp
    have hi' : i < l.length := by omega
    have e1 : ∀ R : Pt, (decide ((pa l i).1 = R.1) && decide ((pa l i).2 = R.2)) = decide (pa l i = R) := fun R => by
      rw [Bool.eq_iff_iff]
      simp only [Bool.and_eq_true, decide_eq_true_eq]
      exact ⟨fun h => Prod.ext h.1 h.2, fun h => by rw [h]; exact ⟨rfl, rfl⟩⟩
    rw [dlt hi', cT, nth_pa hi', bS, drop_pa hi', List.filter_cons]
    simp only
    rw [e1, e1]
    cases h : (decide (pa l i = P) || decide (pa l i = Q)) with
    | true =>
      rw [cT, gd_of (by unfold I64; omega), gd_of (by unfold I64; omega), ← ns, stands_ends N l P Q hl n (i + 1) (c + 1) (by omega) (by omega) (by omega), if_pos rfl, List.length_cons]
      congr 1
      omega
    | false =>
      rw [cF, gd_of (by unfold I64; omega), ← ns, stands_ends N l P Q hl n (i + 1) c (by omega) (by omega) (by omega), if_neg (by simp)]
/-- unit.Stands: the first edge on the ground. -/
theorem ustands_eq {N : Nat} (hN : 100 ≤ N) {a b c : Int} {l : List Pt} {p q : Int} (h : UP a b c l p q) :
    (D_unit_Stands N a b c l p q = some ((0, 0, ((0, 0), (0, 0)), 0, 0), false) ∧ ∀ i, i < l.length → ¬ ((pa l i).2 = 0 ∧ (pa l ((i + 1) % l.length)).2 = 0)) ∨
    ∃ i, i < l.length ∧ ((pa l i).2 = 0 ∧ (pa l ((i + 1) % l.length)).2 = 0) ∧ D_unit_Stands N a b c l p q = some ((a, -1, (pa l i, pa l ((i + 1) % l.length)), p, q), true) := by
  have l3 := h.l.l3
  have l8 := h.l.l8
  let f : Nat → Option ((Int × Int × (Pt × Pt) × Int × Int) × Bool) := fun i => if (pa l i).2 = 0 ∧ (pa l ((i + 1) % l.length)).2 = 0 then some ((a, -1, (pa l i, pa l ((i + 1) % l.length)), p, q), true) else none
  have step : ∀ n (k : Nat), k < l.length → D_unit_Stands_L1 N l a p q (n + 1) k = (match f k with | some r => some (.inr r) | none => D_unit_Stands_L1 N l a p q n ((k + 1 : Nat) : Int)) := fun n k hk => by
    rw [D_unit_Stands_L1, dlt hk, cT, nth_pa hk, bS]
    simp only
    rw [gd_of (by unfold I64; omega), gd_of (by omega), tmod_nat, nth_pa (Nat.mod_lt _ (by omega)), bS]
    simp only
    by_cases e : (pa l k).2 = 0 ∧ (pa l ((k + 1) % l.length)).2 = 0
    · rw [cT' _ (by simp [e.1, e.2]), show f k = _ from if_pos e]
    · rw [cF' _ (by rw [Bool.eq_false_iff]; simpa using e), show f k = _ from if_neg e, gd_of (by unfold I64; omega), ns]
  have F := find0 (L := D_unit_Stands_L1 N l a p q) (len := l.length) f (fun n k hk e => by rw [step n k hk, e]) (fun n k r hk e => by rw [step n k hk, e]) (fun n => by rw [D_unit_Stands_L1, dge, cF]) N (by omega)
  unfold D_unit_Stands
  rw [uvalid_t hN h, bS, cF' _ (by rfl)]
  rcases F with ⟨e, hf⟩ | ⟨j, r, hj, hf, _, e⟩
  · left
    refine ⟨by rw [e, bS], fun i hi hc => ?_⟩
    have := hf i hi
    rw [show f i = _ from if_pos hc] at this
    cases this
  · right
    by_cases hc : (pa l j).2 = 0 ∧ (pa l ((j + 1) % l.length)).2 = 0
    · rw [show f j = _ from if_pos hc] at hf
      cases hf
      exact ⟨j, hj, hc, by rw [e, bS]⟩
    · rw [show f j = _ from if_neg hc] at hf
      cases hf
theorem vp_nodup {l : List Pt} (h : VP l) : l.Nodup := by
  have l3 := h.l3
  rw [List.Nodup, List.pairwise_iff_getElem]
  intro i k hi hk hlt e
  rw [← pa_get hi, ← pa_get hk] at e
  by_cases c : k = (i + 1) % l.length
  · exact h.ne hi (by rw [e, ← c])
  · have := h.cv i k hi hk (by omega) c
    rw [← e] at this
    unfold trn at this
    simp at this
theorem two_len {xs : List Pt} (h : xs.Nodup) {u v : Pt} (hu : u ∈ xs) (hv : v ∈ xs) (hne : u ≠ v) (ho : ∀ x ∈ xs, x = u ∨ x = v) : xs.length = 2 := by
  have a := nodup_len xs [u, v] h fun p hp => by rcases ho p hp with e | e <;> simp [e]
  have b := nodup_len [u, v] xs (by simp [hne]) fun p hp => by
    rcases List.mem_cons.1 hp with e | e
    · rw [e]; exact hu
    · rw [List.mem_singleton.1 e]; exact hv
  simp only [List.length_cons, List.length_nil] at a b
  omega
theorem stands_n {l : List Pt} (h : VP l) (hy : ∀ p ∈ l, 0 ≤ p.2) : ((l.filter fun p => decide (p.2 = 0)).length = 2) ↔ ∃ i, i < l.length ∧ ((pa l i).2 = 0 ∧ (pa l ((i + 1) % l.length)).2 = 0) := by
  have nd := vp_nodup h
  have l3 := h.l3
  constructor
  · intro h2
    have nf : (l.filter fun p => decide (p.2 = 0)).Nodup := nd.filter _
    match hm : l.filter fun p => decide (p.2 = 0) with
    | [] => rw [hm] at h2; simp at h2
    | [_] => rw [hm] at h2; simp at h2
    | _ :: _ :: _ :: _ => rw [hm] at h2; simp at h2
    | [u, v] =>
      rw [hm] at nf
      have hu : u ∈ l.filter fun p => decide (p.2 = 0) := by rw [hm]; simp
      have hv : v ∈ l.filter fun p => decide (p.2 = 0) := by rw [hm]; simp
      rw [List.mem_filter, decide_eq_true_eq] at hu hv
      obtain ⟨i, hi, rfl⟩ := pa_of hu.1
      obtain ⟨k, hk, rfl⟩ := pa_of hv.1
      have hne : k ≠ i := fun e => by subst e; simp at nf
      rcases ground_two h hy hi hk hne hu.2 hv.2 with e | e
      · exact ⟨i, hi, hu.2, by rw [← e]; exact hv.2⟩
      · exact ⟨k, hk, hv.2, by rw [← e]; exact hu.2⟩
  · rintro ⟨i, hi, h0, h1⟩
    have hm : (i + 1) % l.length < l.length := Nat.mod_lt _ (by omega)
    refine two_len (nd.filter _) (u := pa l i) (v := pa l ((i + 1) % l.length)) (List.mem_filter.2 ⟨pa_mem hi, by simp [h0]⟩) (List.mem_filter.2 ⟨pa_mem hm, by simp [h1]⟩) (h.ne hi) fun x hx => ?_
    rw [List.mem_filter, decide_eq_true_eq] at hx
    obtain ⟨k, hk, rfl⟩ := pa_of hx.1
    by_cases k1 : k = i
    · exact .inl (by rw [k1])
    by_cases k2 : k = (i + 1) % l.length
    · exact .inr (by rw [k2])
    have := (ground_edge h hy hi h0 h1).2 k hk k1 k2
    omega
open Classical in
theorem pureStands (x y : List Pt) (how p0 p1 p2 p3 dy : Int) (hx : In2 x) (hy : In2 y) (h0 : I64 how) (g0 : I64 p0) (g1 : I64 p1) (g2 : I64 p2) (g3 : I64 p3) (k1 : I64 dy) : D_putloglaw08_UnitStands 2000 x y how p0 p1 p2 p3 dy = some true := by
  unfold D_putloglaw08_UnitStands
  obtain ⟨a, b, c, l, p, q, a', b', c', l', p', q', e, u, u'⟩ := pair8_ok (N := 2000) (by omega) (by omega) hx hy h0 g0 g1 g2 g3 g0 g1 g2 g3
  have hsane : D_putloglaw08_sane 2000 = some true := by decide +kernel
  have b1 := @pk_bd dy 8 (by omega)
  have l8 := u.l.l8
  have l3 := u.l.l3
  obtain ⟨low, eL, w1, w2, w3⟩ := stands_low 2000 l (by omega) 2000 0 40 (by omega) (by omega)
  rw [Int.natCast_zero] at eL
  rw [hsane, bS, cF' _ (by rfl), e, bS]
  simp only
  rw [eL, bS]
  have lowm : ∃ j, j < l.length ∧ low = (pa l j).2 := by
    by_cases hlow : low = 40
    · refine ⟨0, by omega, ?_⟩
      have := w2 0 (by omega) (by omega)
      have := (u.l.on _ (pa_mem (l := l) (i := 0) (by omega))).2.2
      omega
    · exact w3 hlow
  obtain ⟨j0, hj0, ej0⟩ := lowm
  have onj := u.l.on _ (pa_mem hj0)
  have lowb : 0 ≤ low ∧ low ≤ 40 := by rw [ej0]; exact onj.2
  have hd : mvOK (0, -low) := by unfold mvOK; simp only; omega
  have oA : ∀ x ∈ l, On (mv (0, -low) x) := fun x hx => by
    have h1 := u.l.on _ hx
    obtain ⟨k, hk, rfl⟩ := pa_of hx
    have h2 := w2 k (by omega) hk
    unfold On at h1 ⊢
    unfold mv
    simp only
    omega
  have mA := umove_eq (N := 2000) (by omega) u hd
  rw [if_pos oA] at mA
  simp only at mA
  rw [gd_of (by unfold I64; omega), mA, bS]
  simp only
  rw [cF' _ (by rfl)]
  have v : UP a b c (l.map (mv (0, -low))) p q := ⟨u.a, u.b, u.c, u.d, mv_vp _ u.l oA⟩
  have hlen : (l.map (mv (0, -low))).length = l.length := List.length_map ..
  generalize l.map (mv (0, -low)) = g at *
  have hgy : ∀ x ∈ g, 0 ≤ x.2 := fun x hx => (v.l.on x hx).2.1
  have hn := stands_n v.l hgy
  have eN := stands_cnt 2000 g (by omega) 2000 0 0 (by omega) (by omega) (by omega)
  rw [Int.natCast_zero, List.drop_zero, Int.zero_add] at eN
  have nN : ((g.filter fun p => decide (p.2 = 0)).length : Int) = 2 ↔ (g.filter fun p => decide (p.2 = 0)).length = 2 := by omega
  rw [eN, bS]
  have hd2 : mvOK (0, 1 + pk dy 8) := by unfold mvOK; simp only; omega
  have mB := umove_eq (N := 2000) (by omega) v hd2
  have still : ∃ z : (Int × Int × Int × List Pt × Int × Int) × Int, ∃ w : (Int × Int × (Pt × Pt) × Int × Int) × Bool, D_unit_Move 2000 a b c g p q 0 (1 + pk dy 8) = some z ∧ D_unit_Stands 2000 z.1.1 z.1.2.1 z.1.2.2.1 z.1.2.2.2.1 z.1.2.2.2.2.1 z.1.2.2.2.2.2 = some w ∧ ¬ (z.2 = 0 ∧ w.2 = true) := by
    by_cases oB : ∀ x ∈ g, On (mv (0, 1 + pk dy 8) x)
    · rw [if_pos oB] at mB
      have v2 : UP a b c (g.map (mv (0, 1 + pk dy 8))) p q := ⟨v.a, v.b, v.c, v.d, mv_vp _ v.l oB⟩
      rcases ustands_eq (N := 2000) (by omega) v2 with ⟨e, _⟩ | ⟨i, hi, hc, _⟩
      · exact ⟨_, ((0, 0, ((0, 0), (0, 0)), 0, 0), false), mB, e, by simp⟩
      · exfalso
        rw [List.length_map] at hi
        rw [pa_map hi] at hc
        have := hgy _ (pa_mem hi)
        have h2 := hc.1
        unfold mv at h2
        simp only at h2
        omega
    · rw [if_neg oB] at mB
      refine ⟨_, ((0, 0, ((0, 0), (0, 0)), 0, 0), false), mB, ?_, by simp⟩
      simp only
      unfold D_unit_Stands
      rw [uvalid_eq (by omega), show (headB 0 0 0 0 0 && vB []) = false from by rw [show headB 0 0 0 0 0 = false from by decide]; rfl, bS, cT' _ (by rfl)]
  obtain ⟨⟨⟨z1, z2, z3, z4, z5, z6⟩, z7⟩, ⟨⟨y1, y2, ⟨⟨y3, y4⟩, y5, y6⟩, y7, y8⟩, y9⟩, eM, eS, hst⟩ := still
  simp only at eS hst
  have hst' : (decide (z7 = 0) && y9) = false := by
    rw [Bool.eq_false_iff]
    intro hc
    rw [Bool.and_eq_true, decide_eq_true_eq] at hc
    exact hst hc
  rcases ustands_eq (N := 2000) (by omega) v with ⟨e2, hno⟩ | ⟨i, hi, hc, e2⟩
  · have hn' : decide (((g.filter fun p => decide (p.2 = 0)).length : Int) = 2) = false := decide_eq_false fun h => by
      obtain ⟨i, hi, hc⟩ := hn.1 (nN.1 h)
      exact hno i hi hc
    rw [e2, bS]
    simp only
    rw [hn', cF' _ (by rfl), lpick_eq k1 (by omega), bS, gd_of (by unfold I64; omega), eM, bS]
    simp only
    rw [eS, bS]
    simp only
    rw [hst', cF, cT' _ (by rfl)]
    rfl
  · have hn' : decide (((g.filter fun p => decide (p.2 = 0)).length : Int) = 2) = true := decide_eq_true (nN.2 (hn.2 ⟨i, hi, hc⟩))
    have hm : (i + 1) % g.length < g.length := Nat.mod_lt _ (by omega)
    have eE := stands_ends 2000 g (pa g i) (pa g ((i + 1) % g.length)) (by omega) 2000 0 0 (by omega) (by omega) (by omega)
    have e3 : (g.filter fun x => decide (x = pa g i) || decide (x = pa g ((i + 1) % g.length))).length = 2 := by
      refine two_len ((vp_nodup v.l).filter _) (u := pa g i) (v := pa g ((i + 1) % g.length)) (List.mem_filter.2 ⟨pa_mem hi, by simp⟩) (List.mem_filter.2 ⟨pa_mem hm, by simp⟩) (v.l.ne hi) fun x hx => ?_
      have := (List.mem_filter.1 hx).2
      simpa using this
    rw [Int.natCast_zero, List.drop_zero, Int.zero_add, e3] at eE
    have hg := (ground_edge v.l hgy hi hc.1 hc.2).1
    rw [e2, bS]
    simp only
    rw [hn', cF' _ (by rfl), lpick_eq k1 (by omega), bS, gd_of (by unfold I64; omega), eM, bS]
    simp only
    rw [eS, bS]
    simp only
    rw [hst', cF, cF' _ (by rfl), eE, bS]
    rw [hc.1, hc.2, decide_eq_true hg]
    simp
end Go.Proofs.YtdabfcbelkjmgaaDoor.Am
