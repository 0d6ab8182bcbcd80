import Derived.Test.YtojciffnkbfbhaaM4
import Derived.Test.YtojciffnkbfbhaaL1
import Derived.Test.YtojciffnkbfbhaaM1
/-
  Plain laws: PlaneConvex.
-/
namespace Go.Proofs.Ytojciffnkbfbhaa.Am
set_option linter.unusedSimpArgs false
set_option linter.unusedVariables false
theorem lpick_eq {N : Nat} {c n : Int} (hc : I64 c) (hn : 0 < n) : D_putloglaw07_pick N c n = some (pk c n) := by
  unfold D_putloglaw07_pick pk
  unfold I64 at hc
  by_cases h : c < 0
  · rw [decide_eq_true h, cT, if_pos h, gd_of (by unfold I64; omega), gd_of (by unfold I64; omega), gd_of (by omega)]
  · rw [decide_eq_false h, cF, if_neg h, gd_of (by omega)]
noncomputable def ins (l : List Pt) (p : Pt) : Int := if On p then sd l p else -1
theorem ins_eq {N : Nat} (hN : 100 ≤ N) {l : List Pt} (h : VP l) (x y : Int) : D_plane_Inside N l x y = some (ins l (x, y)) := inside_eq hN h (x, y)
theorem ins_1 {l : List Pt} {p : Pt} (ho : On p) : ins l p = 1 ↔ inn l p := by unfold ins; rw [if_pos ho, sd_1]
theorem ins_nn {l : List Pt} {p : Pt} : 0 ≤ ins l p ↔ On p ∧ clo l p := by
  unfold ins
  split
  · simp [sd_nn, *]
  · simp [*]
open Classical in
theorem convex_L1 (N : Nat) {l : List Pt} (hl : l.length ≤ 1000) (hs : ∀ p ∈ l, Sml p) {p : Pt} (hp : Sml p) : ∀ (n i : Nat) (b : Bool), i ≤ l.length → l.length < n + i → D_putloglaw07_PlaneConvex_L1 N l p.1 p.2 n b i = some (b && decide (∀ j, i ≤ j → j < l.length → 0 < E l j p))
  | 0, i, b, hi, hn => by omega
  | n + 1, i, b, hi, hn => by
    rw [D_putloglaw07_PlaneConvex_L1]
    by_cases he : i = l.length
    · subst he
      rw [dge, cF]
      congr 1
      rw [decide_eq_true (fun j h1 h2 => by omega), Bool.and_true]
    have hi' : i < l.length := by omega
    have hm : (i + 1) % l.length < l.length := Nat.mod_lt _ (by omega)
    have tu := rturn_eq (N := N) (hs _ (pa_mem hi')) (hs _ (pa_mem hm)) hp
    have g1 : l.getD (i : Int).toNat (0, 0) = pa l i := by rw [Int.toNat_natCast]; rfl
    have g2 : l.getD (((i + 1) % l.length : Nat) : Int).toNat (0, 0) = pa l ((i + 1) % l.length) := by rw [Int.toNat_natCast]; rfl
    rw [dlt hi', cT, tmod_nat, g1, g2, tu, gd_of (fun _ => ⟨by omega, by omega⟩), gd_of (fun _ => by unfold I64; omega), gd_of (fun _ => by omega), gd_of (fun _ => ⟨by omega, by omega⟩), gd_of (fun _ => Option.isSome_some), gd_of (by unfold I64; omega), ← ns, convex_L1 N hl hs hp n (i + 1) _ (by omega) (by omega), Option.getD_some]
    congr 1
    rw [Bool.and_assoc]
    congr 1
    rw [Bool.eq_iff_iff]
    simp only [Bool.and_eq_true, decide_eq_true_eq]
    constructor
    · rintro ⟨h1, h2⟩ j hj hl
      by_cases e : j = i
      · rw [e]; exact h1
      · exact h2 j (by omega) hl
    · intro h
      exact ⟨h i (Nat.le_refl _) hi', fun j hj hl => h j (by omega) hl⟩
theorem half_E {l : List Pt} {p q : Pt} {i : Nat} (h1 : (p.1 + q.1).tmod 2 = 0) (h2 : (p.2 + q.2).tmod 2 = 0) : 2 * E l i ((p.1 + q.1).tdiv 2, (p.2 + q.2).tdiv 2) = E l i p + E l i q := by
  have e1 := Int.mul_tdiv_add_tmod (p.1 + q.1) 2
  have e2 := Int.mul_tdiv_add_tmod (p.2 + q.2) 2
  rw [h1] at e1
  rw [h2] at e2
  generalize (p.1 + q.1).tdiv 2 = u at *
  generalize (p.2 + q.2).tdiv 2 = v at *
  unfold E trn
  simp only
  generalize pa l i = a
  generalize pa l ((i + 1) % l.length) = b
  have e3 : p.1 = 2 * u - q.1 := by omega
  have e4 : p.2 = 2 * v - q.2 := by omega
  rw [e3, e4]
  grind
theorem half_ok {l : List Pt} (hv : VP l) {p q : Pt} (hp : On p) (hq : On q) (h1 : (p.1 + q.1).tmod 2 = 0) (h2 : (p.2 + q.2).tmod 2 = 0) (k1 : 0 ≤ ins l p) (k2 : 0 ≤ ins l q) :
    0 ≤ ins l ((p.1 + q.1).tdiv 2, (p.2 + q.2).tdiv 2) ∧ max (ins l p) (ins l q) ≤ ins l ((p.1 + q.1).tdiv 2, (p.2 + q.2).tdiv 2) := by
  have e1 := Int.mul_tdiv_add_tmod (p.1 + q.1) 2
  have e2 := Int.mul_tdiv_add_tmod (p.2 + q.2) 2
  have ho : On ((p.1 + q.1).tdiv 2, (p.2 + q.2).tdiv 2) := by unfold On at *; omega
  have c1 := (ins_nn.1 k1).2
  have c2 := (ins_nn.1 k2).2
  have hc : clo l ((p.1 + q.1).tdiv 2, (p.2 + q.2).tdiv 2) := fun i hi => by
    have := half_E (l := l) (i := i) h1 h2
    have := c1 i hi
    have := c2 i hi
    omega
  have n0 := ins_nn.2 ⟨ho, hc⟩
  refine ⟨n0, ?_⟩
  have u1 : ins l p ≤ 1 := by
    have := sd_cases l p
    unfold ins; split <;> omega
  have u2 : ins l q ≤ 1 := by
    have := sd_cases l q
    unfold ins; split <;> omega
  by_cases h : ins l p = 1 ∨ ins l q = 1
  · have : ins l ((p.1 + q.1).tdiv 2, (p.2 + q.2).tdiv 2) = 1 := (ins_1 ho).2 fun i hi => by
      have := half_E (l := l) (i := i) h1 h2
      have := c1 i hi
      have := c2 i hi
      rcases h with h | h
      · have := (ins_1 hp).1 h i hi; omega
      · have := (ins_1 hq).1 h i hi; omega
    omega
  · omega
theorem convex_L3 {N : Nat} (hN : 100 ≤ N) {l : List Pt} (hv : VP l) {x y : Int} (hp : On (x, y)) : D_putloglaw07_PlaneConvex_L3 N x y l N true 0 = some ((((decide (0 ≤ ins l (x, y))) && (decide (0 ≤ ins l (x + 1, y)))) && (decide (0 ≤ ins l (x, y + 1)))) && (decide (0 ≤ ins l (x + 1, y + 1)))) := by
  unfold On at hp
  have step : ∀ n (b : Bool) (i u v : Int), 0 ≤ i ∧ i < 4 → i.tmod 2 = u → i.tdiv 2 = v → 0 ≤ u ∧ u ≤ 1 → 0 ≤ v ∧ v ≤ 1 → D_putloglaw07_PlaneConvex_L3 N x y l (n + 1) b i = D_putloglaw07_PlaneConvex_L3 N x y l n (b && (decide (0 ≤ ins l (x + u, y + v)))) (i + 1) := fun n b i u v hi hu hv' h1 h2 => by
    rw [D_putloglaw07_PlaneConvex_L3, decide_eq_true hi.2, cT, hu, hv', ins_eq hN hv, gd_of (fun _ => by unfold I64; omega), gd_of (fun _ => by unfold I64; omega), gd_of (fun _ => by unfold I64; omega), gd_of (fun _ => Option.isSome_some), gd_of (by unfold I64; omega), Option.getD_some]
  obtain ⟨n, rfl⟩ : ∃ n, N = n + 1 + 1 + 1 + 1 + 1 := ⟨N - 5, by omega⟩
  rw [step _ _ 0 0 0 (by omega) (by decide) (by decide) (by omega) (by omega), step _ _ _ 1 0 (by omega) (by decide) (by decide) (by omega) (by omega), step _ _ _ 0 1 (by omega) (by decide) (by decide) (by omega) (by omega), step _ _ _ 1 1 (by omega) (by decide) (by decide) (by omega) (by omega), D_putloglaw07_PlaneConvex_L3, cF' _ (by decide)]
  simp only [Int.add_zero, Bool.true_and]
open Classical in
theorem pureConvex (x : List Pt) (px py qx qy : Int) (hx : In2 x) (h1 : I64 px) (h2 : I64 py) (h3 : I64 qx) (h4 : I64 qy) : D_putloglaw07_PlaneConvex 1000 x px py qx qy = some true := by
  unfold D_putloglaw07_PlaneConvex
  obtain ⟨l, el, hl⟩ := made_ok (N := 1000) (by omega) (by omega) hx (low := 0) (high := 40) (by omega) (by omega) (by omega)
  have hv := hl.vp
  have l8 := hv.l8
  rw [sane_true, bS, cF' _ (by rfl), el, bS, lpick_eq h1 (by omega), bS, lpick_eq h2 (by omega), bS, lpick_eq h3 (by omega), bS, lpick_eq h4 (by omega), bS]
  have b1 := @pk_bd px 41 (by omega)
  have b2 := @pk_bd py 41 (by omega)
  have b3 := @pk_bd qx 41 (by omega)
  have b4 := @pk_bd qy 41 (by omega)
  generalize pk px 41 = a at *
  generalize pk py 41 = b at *
  generalize pk qx 41 = c at *
  generalize pk qy 41 = d at *
  have hp : On (a, b) := by unfold On; simp only; omega
  have hq : On (c, d) := by unfold On; simp only; omega
  have e1 := convex_L1 1000 (l := l) (by omega) hv.sml (p := (a, b)) hp.sml 1000 0 true (by omega) (by omega)
  simp only [Int.natCast_zero, Bool.true_and] at e1
  rw [e1, bS]
  simp only [ins_eq (N := 1000) (by omega) hv]
  rw [bS]
  have e2 : (@decide (∀ j, 0 ≤ j → j < l.length → 0 < E l j (a, b)) (Classical.propDecidable _) != decide (ins l (a, b) = 1)) = false := by
    have : (∀ j, 0 ≤ j → j < l.length → 0 < E l j (a, b)) ↔ ins l (a, b) = 1 := by
      rw [ins_1 hp]
      exact ⟨fun h i hi => h i (by omega) hi, fun h i _ hi => h i hi⟩
    by_cases h : ins l (a, b) = 1
    · rw [decide_eq_true h, decide_eq_true (this.2 h)]; rfl
    · rw [decide_eq_false h, decide_eq_false (fun q => h (this.1 q))]; rfl
  rw [cF' _ e2, gd_of (by unfold I64; omega), gd_of (fun _ => by unfold I64; omega), gd_of (fun _ => Option.isSome_some), gd_of (fun _ => Option.isSome_some)]
  simp only [Option.getD_some]
  have last : (((D_putloglaw07_PlaneConvex_L3 1000 a b l 1000 true 0).bind fun whole1562 => gd ((!(!whole1562)) = true → ((D_plane_Cell 1000 l a b).isSome = true)) (some ((!whole1562) || (decide ((D_plane_Cell 1000 l a b).getD 0 = 1))))) : Option Bool) = some true := by
    rw [convex_L3 (by omega) hv hp, bS]
    have ec := cell_eq (N := 1000) (by omega) hv (a, b)
    simp only at ec
    rw [ec, gd_of (fun _ => Option.isSome_some), Option.getD_some]
    congr 1
    by_cases hw : ((((decide (0 ≤ ins l (a, b))) && (decide (0 ≤ ins l (a + 1, b)))) && (decide (0 ≤ ins l (a, b + 1)))) && (decide (0 ≤ ins l (a + 1, b + 1)))) = true
    · rw [hw]
      simp only [Bool.and_eq_true, decide_eq_true_eq] at hw
      obtain ⟨⟨⟨w1, w2⟩, w3⟩, w4⟩ := hw
      have o4 := (ins_nn.1 w4).1
      unfold On at o4
      simp only at o4
      rw [if_pos (by omega), sd_1.2 (cell_inn hv (ins_nn.1 w1).2 (ins_nn.1 w2).2 (ins_nn.1 w3).2 (ins_nn.1 w4).2)]
      rfl
    · rw [Bool.not_eq_true] at hw
      rw [hw]; rfl
  by_cases hc : ((a + c).tmod 2 = 0 ∧ (b + d).tmod 2 = 0) ∧ 0 ≤ ins l (a, b) ∧ 0 ≤ ins l (c, d)
  · obtain ⟨⟨c1, c2⟩, c3, c4⟩ := hc
    have := half_ok hv hp hq c1 c2 c3 c4
    simp only at this
    obtain ⟨k1, k2⟩ := this
    have q1 := Int.mul_tdiv_add_tmod (a + c) 2
    have q2 := Int.mul_tdiv_add_tmod (b + d) 2
    rw [cT' _ (by simp only [c1, c2, c3, c4, decide_true, Bool.and_true]), gd_of (by unfold I64; omega), gd_of (by unfold I64; omega), gd_of (by unfold I64; omega), gd_of (by unfold I64; omega), bS, gd_of (fun _ => Option.isSome_some), gd_of (fun _ => Option.isSome_some), decide_eq_false (show ¬ ins l ((a + c).tdiv 2, (b + d).tdiv 2) < 0 by omega), decide_eq_false (show ¬ ins l ((a + c).tdiv 2, (b + d).tdiv 2) < max (ins l (a, b)) (ins l (c, d)) by omega), cF' _ (by rfl), bS]
    exact last
  · rw [cF' _ (by rw [Bool.eq_false_iff]; intro h; simp only [Bool.and_eq_true, decide_eq_true_eq] at h; exact hc ⟨h.1.1, h.1.2, h.2⟩), bS]
    exact last
end Go.Proofs.Ytojciffnkbfbhaa.Am
