import Derived.Test.YtojciffnkbfbhaaMH
import Derived.Test.YtojciffnkbfbhaaM1
import Derived.Test.YtojciffnkbfbhaaL5
/-
  Plain laws: PlaneSeams.
-/
namespace Go.Proofs.Ytojciffnkbfbhaa.Am
set_option linter.unusedSimpArgs false
set_option linter.unusedVariables false
noncomputable def ins (l : List Pt) (p : Pt) : Int := if On p then sd l p else -1
theorem ins_eq {N : Nat} (hN : 100 ≤ N) {l : List Pt} (h : VP l) (x y : Int) : D_plane_Inside N l x y = some (ins l (x, y)) := inside_eq hN h (x, y)
theorem ins_0 {l : List Pt} {p : Pt} (ho : On p) : ins l p = 0 ↔ clo l p ∧ ¬ inn l p := by unfold ins; rw [if_pos ho, sd_0]
theorem seamOK_uniq {a b : List Pt} (ha : VP a) {s r : Pt × Pt} (h1 : SeamOK a b s) (h2 : SeamOK a b r) : s = r := by
  have hb : ∀ u w : Pt, btw u w u ∧ btw u w w := fun u w => by
    rcases lexle_tot u w with q | q
    · exact ⟨.inl ⟨lexle_refl _, q⟩, .inl ⟨q, lexle_refl _⟩⟩
    · exact ⟨.inr ⟨q, lexle_refl _⟩, .inr ⟨lexle_refl _, q⟩⟩
  have a1 := (h2.on s.1).1 ((h1.on s.1).2 ⟨trn_self1 _ _, (hb _ _).1⟩)
  have a2 := (h2.on s.2).1 ((h1.on s.2).2 ⟨trn_self2 _ _, (hb _ _).2⟩)
  have b1 := (h1.on r.1).1 ((h2.on r.1).2 ⟨trn_self1 _ _, (hb _ _).1⟩)
  have b2 := (h1.on r.2).1 ((h2.on r.2).2 ⟨trn_self2 _ _, (hb _ _).2⟩)
  have n1 := h1.ne
  have n2 := h2.ne
  have cases2 : (s.1 = r.1 ∧ s.2 = r.2) ∨ (s.1 = r.2 ∧ s.2 = r.1) := by
    rcases lexle_tot s.1 s.2 with q | q <;> rcases lexle_tot r.1 r.2 with w | w
    · left
      constructor
      · apply lexle_anti
        · rcases b1.2 with x | x
          · exact x.1
          · exact lexle_trans q x.1
        · rcases a1.2 with x | x
          · exact x.1
          · exact lexle_trans w x.1
      · apply lexle_anti
        · rcases a2.2 with x | x
          · exact x.2
          · exact lexle_trans x.2 w
        · rcases b2.2 with x | x
          · exact x.2
          · exact lexle_trans x.2 q
    · right
      constructor
      · apply lexle_anti
        · rcases b2.2 with x | x
          · exact x.1
          · exact lexle_trans q x.1
        · rcases a1.2 with x | x
          · exact lexle_trans w x.1
          · exact x.1
      · apply lexle_anti
        · rcases a2.2 with x | x
          · exact lexle_trans x.2 w
          · exact x.2
        · rcases b1.2 with x | x
          · exact x.2
          · exact lexle_trans x.2 q
    · right
      constructor
      · apply lexle_anti
        · rcases a1.2 with x | x
          · exact x.2
          · exact lexle_trans x.2 w
        · rcases b2.2 with x | x
          · exact lexle_trans x.2 q
          · exact x.2
      · apply lexle_anti
        · rcases b1.2 with x | x
          · exact lexle_trans q x.1
          · exact x.1
        · rcases a2.2 with x | x
          · exact x.1
          · exact lexle_trans w x.1
    · left
      constructor
      · apply lexle_anti
        · rcases a1.2 with x | x
          · exact lexle_trans x.2 w
          · exact x.2
        · rcases b1.2 with x | x
          · exact lexle_trans x.2 q
          · exact x.2
      · apply lexle_anti
        · rcases b2.2 with x | x
          · exact lexle_trans q x.1
          · exact x.1
        · rcases a2.2 with x | x
          · exact lexle_trans w x.1
          · exact x.1
  rcases cases2 with ⟨e1, e2⟩ | ⟨e1, e2⟩
  · exact Prod.ext e1 e2
  · exfalso
    have l3 := ha.l3
    have z : ∀ x ∈ a, trn s.1 s.2 x = 0 := fun x hx => by
      have k1 := h1.left x hx
      have k2 := h2.left x hx
      rw [← e1, ← e2, trn_swap] at k2
      omega
    have c := conv_q ha.cv (s := 0) (a := 2) (by omega) (by omega)
    simp only [Nat.zero_add] at c
    have m0 := z _ (qa_mem (show 0 < a.length by omega) 0)
    have m1 := z _ (qa_mem (show 0 < a.length by omega) 1)
    have m2 := z _ (qa_mem (show 0 < a.length by omega) 2)
    have ne : qa a 0 ≠ qa a 1 := fun e => by rw [e, trn_self0] at c; omega
    have := (same_line h1.ne ne m0 m1).2 m2
    omega
theorem cand_swap {a b : List Pt} (ha : VP a) (hb : VP b) (hap : apart a b) {j t : Nat} (hj : j < a.length) (ht : t < b.length) {s : Pt × Pt} (hc : cand (pa a j, pa a ((j + 1) % a.length)) (pa b t, pa b ((t + 1) % b.length)) = some s) :
    cand (pa b t, pa b ((t + 1) % b.length)) (pa a j, pa a ((j + 1) % a.length)) = some (s.2, s.1) := by
  obtain ⟨_, kn, _, _, _⟩ := cand_ok ha hb hap hj ht hc
  obtain ⟨zR, zS, ne, le, hs⟩ := cand_some hc
  simp only at zR zS ne le hs
  have nPQ := ha.ne hj
  have nRS := hb.ne ht
  have L := fun x => same_line (x := x) nPQ nRS zR zS
  have mc : ∀ u v : Pt, maxO u v = maxO v u := fun u v => by
    apply lexle_anti
    · exact le_max.2 ⟨(le_max.1 (lexle_refl (maxO v u))).2, (le_max.1 (lexle_refl (maxO v u))).1⟩
    · exact le_max.2 ⟨(le_max.1 (lexle_refl (maxO u v))).2, (le_max.1 (lexle_refl (maxO u v))).1⟩
  have nc : ∀ u v : Pt, minO u v = minO v u := fun u v => by
    apply lexle_anti
    · exact le_min.2 ⟨(le_min.1 (lexle_refl (minO u v))).2, (le_min.1 (lexle_refl (minO u v))).1⟩
    · exact le_min.2 ⟨(le_min.1 (lexle_refl (minO v u))).2, (le_min.1 (lexle_refl (minO v u))).1⟩
  have cc : comS (pa b t) (pa b ((t + 1) % b.length)) (pa a j) (pa a ((j + 1) % a.length)) = comS (pa a j) (pa a ((j + 1) % a.length)) (pa b t) (pa b ((t + 1) % b.length)) := by
    unfold comS
    rw [mc (lo _ _) (lo (pa a j) _), nc (Am.hi _ _) (Am.hi (pa a j) _)]
  have h := cand_of (e := (pa b t, pa b ((t + 1) % b.length))) (f := (pa a j, pa a ((j + 1) % a.length))) ((L _).2 (trn_self1 _ _)) ((L _).2 (trn_self2 _ _)) (by simp only; rw [cc]; exact ne) (by simp only; rw [cc]; exact le)
  simp only at h
  rw [h, cc, hs]
  by_cases hg : 0 < ordS (pa a j) (pa a ((j + 1) % a.length))
  · have hQP : lexle (pa a ((j + 1) % a.length)) (pa a j) := by rw [ord_gt] at hg; unfold lexle; omega
    have s1 : trn (pa a ((j + 1) % a.length)) (pa a j) (pa b t) = 0 := by rw [trn_swap]; omega
    have s2 : trn (pa a ((j + 1) % a.length)) (pa a j) (pa b ((t + 1) % b.length)) = 0 := by rw [trn_swap]; omega
    have ee : ∀ x, dd (pa a ((j + 1) % a.length)) (pa a j) x = dd (pa a j) (pa a ((j + 1) % a.length)) (pa a ((j + 1) % a.length)) - dd (pa a j) (pa a ((j + 1) % a.length)) x := fun x => by unfold dd; grind
    have o := (dd_lex (Ne.symm nPQ) hQP s1 s2).1 (by rw [ee, ee]; omega)
    rw [if_pos hg, if_neg (lexle_ord.1 o)]
  · have hPQ : lexle (pa a j) (pa a ((j + 1) % a.length)) := lexle_ord.2 hg
    have o := (dd_lex nPQ hPQ zS zR).1 (by omega)
    have o2 : 0 < ordS (pa b t) (pa b ((t + 1) % b.length)) := by
      rw [ord_gt]
      have : pa b ((t + 1) % b.length) ≠ pa b t := Ne.symm nRS
      unfold lexle at o
      by_cases x1 : (pa b ((t + 1) % b.length)).1 < (pa b t).1
      · exact .inl x1
      · refine .inr ⟨by omega, ?_⟩
        have : (pa b ((t + 1) % b.length)).2 ≠ (pa b t).2 := fun q => this (Prod.ext (by omega) q)
        omega
    rw [if_neg hg, if_pos o2]
theorem seam1_some {a b : List Pt} {s : Pt × Pt} (h : seam1 a b = some s) : ∃ j t, j < a.length ∧ t < b.length ∧ cand (pa a j, pa a ((j + 1) % a.length)) (pa b t, pa b ((t + 1) % b.length)) = some s := by
  unfold seam1 at h
  obtain ⟨e, he, h⟩ := List.exists_of_findSome?_eq_some h
  obtain ⟨f, hf, h⟩ := List.exists_of_findSome?_eq_some h
  obtain ⟨j, hj, rfl⟩ := mem_edges.1 he
  obtain ⟨t, ht, rfl⟩ := mem_edges.1 hf
  exact ⟨j, t, hj, ht, h⟩
theorem seam1_none {a b : List Pt} (h : seam1 a b = none) {e f : Pt × Pt} (he : e ∈ edgesL a) (hf : f ∈ edgesL b) : cand e f = none := by
  unfold seam1 at h
  rw [List.findSome?_eq_none_iff] at h
  have := h e he
  rw [List.findSome?_eq_none_iff] at this
  exact this f hf
theorem seam1_swap {a b : List Pt} (ha : VP a) (hb : VP b) (hap : apart a b) : seam1 b a = (seam1 a b).map fun s => (s.2, s.1) := by
  cases h : seam1 a b with
  | none =>
    cases h2 : seam1 b a with
    | none => rfl
    | some r =>
      obtain ⟨t, j, ht, hj, hc⟩ := seam1_some h2
      have := cand_swap hb ha hap.symm ht hj hc
      rw [seam1_none h (mem_edges.2 ⟨j, hj, rfl⟩) (mem_edges.2 ⟨t, ht, rfl⟩)] at this
      cases this
  | some s =>
    obtain ⟨j, t, hj, ht, hc⟩ := seam1_some h
    have hs := cand_swap ha hb hap hj ht hc
    cases h2 : seam1 b a with
    | none =>
      rw [seam1_none h2 (mem_edges.2 ⟨t, ht, rfl⟩) (mem_edges.2 ⟨j, hj, rfl⟩)] at hs
      cases hs
    | some r =>
      obtain ⟨t', j', ht', hj', hc'⟩ := seam1_some h2
      have o1 := (cand_ok hb ha hap.symm ht hj hs).1
      have o2 := (cand_ok hb ha hap.symm ht' hj' hc').1
      rw [Option.map_some, seamOK_uniq hb o1 o2]
/-- A place is on a segment if it is on its line and in its box. -/
theorem box_btw {u w p : Pt} (hne : u ≠ w) (hz : trn u w p = 0) : (((min u.1 w.1 ≤ p.1 ∧ p.1 ≤ max u.1 w.1) ∧ min u.2 w.2 ≤ p.2) ∧ p.2 ≤ max u.2 w.2) ↔ btw u w p := by
  constructor
  · intro h
    rw [dd_btw hne hz]
    have sg : ∀ a b c : Int, min a b ≤ c → c ≤ max a b → 0 ≤ (b - a) * (c - a) ∧ 0 ≤ (b - a) * (b - c) := fun a b c h1 h2 => by
      rcases Int.le_total a b with q | q
      · exact ⟨Int.mul_nonneg (by omega) (by omega), Int.mul_nonneg (by omega) (by omega)⟩
      · exact ⟨Int.mul_nonneg_of_nonpos_of_nonpos (by omega) (by omega), Int.mul_nonneg_of_nonpos_of_nonpos (by omega) (by omega)⟩
    have x := sg u.1 w.1 p.1 h.1.1.1 h.1.1.2
    have y := sg u.2 w.2 p.2 h.1.2 h.2
    have e : dd u w w - dd u w p = (w.1 - u.1) * (w.1 - p.1) + (w.2 - u.2) * (w.2 - p.2) := by unfold dd; grind
    have e2 : dd u w p = (w.1 - u.1) * (p.1 - u.1) + (w.2 - u.2) * (p.2 - u.2) := rfl
    omega
  · have key : ∀ u w : Pt, u ≠ w → trn u w p = 0 → lexle u p → lexle p w → (((min u.1 w.1 ≤ p.1 ∧ p.1 ≤ max u.1 w.1) ∧ min u.2 w.2 ≤ p.2) ∧ p.2 ≤ max u.2 w.2) := fun u w hne hz h1 h2 => by
      have e : (w.1 - u.1) * (p.2 - u.2) = (w.2 - u.2) * (p.1 - u.1) := by unfold trn at hz; omega
      have e3 : (w.1 - u.1) * (w.2 - p.2) = (w.2 - u.2) * (w.1 - p.1) := by
        have : (w.1 - u.1) * (w.2 - p.2) - (w.2 - u.2) * (w.1 - p.1) = - ((w.1 - u.1) * (p.2 - u.2) - (w.2 - u.2) * (p.1 - u.1)) := by grind
        omega
      unfold lexle at h1 h2
      by_cases hw : u.1 = w.1
      · omega
      have A : 0 < w.1 - u.1 := by omega
      rcases Int.le_total u.2 w.2 with q | q
      · have m1 := Int.mul_nonneg (show 0 ≤ w.2 - u.2 by omega) (show 0 ≤ p.1 - u.1 by omega)
        have m2 := Int.mul_nonneg (show 0 ≤ w.2 - u.2 by omega) (show 0 ≤ w.1 - p.1 by omega)
        have k1 := nn_of_mul A (b := p.2 - u.2) (by omega)
        have k2 := nn_of_mul A (b := w.2 - p.2) (by omega)
        omega
      · have m1 := Int.mul_nonneg (show 0 ≤ u.2 - w.2 by omega) (show 0 ≤ p.1 - u.1 by omega)
        have m2 := Int.mul_nonneg (show 0 ≤ u.2 - w.2 by omega) (show 0 ≤ w.1 - p.1 by omega)
        have e4 : (w.1 - u.1) * (u.2 - p.2) = (u.2 - w.2) * (p.1 - u.1) := by grind
        have e5 : (w.1 - u.1) * (p.2 - w.2) = (u.2 - w.2) * (w.1 - p.1) := by grind
        have k1 := nn_of_mul A (b := u.2 - p.2) (by omega)
        have k2 := nn_of_mul A (b := p.2 - w.2) (by omega)
        omega
    rintro (⟨h1, h2⟩ | ⟨h1, h2⟩)
    · exact key u w hne hz h1 h2
    · have := key w u (Ne.symm hne) (by rw [trn_swap]; omega) h1 h2
      omega
def onP (s : Pt × Pt) (p : Pt) : Prop := trn s.1 s.2 p = 0 ∧ (((min s.1.1 s.2.1 ≤ p.1 ∧ p.1 ≤ max s.1.1 s.2.1) ∧ min s.1.2 s.2.2 ≤ p.2) ∧ p.2 ≤ max s.1.2 s.2.2)
instance (s : Pt × Pt) (p : Pt) : Decidable (onP s p) := inferInstanceAs (Decidable (_ ∧ (((_ ∧ _) ∧ _) ∧ _)))
theorem on_eq (N : Nat) {s : Pt × Pt} {p : Pt} (h1 : Sml s.1) (h2 : Sml s.2) (hp : Sml p) : D_putloglaw07_on N s.1.1 s.1.2 s.2.1 s.2.2 p.1 p.2 = some (decide (onP s p)) := by
  unfold D_putloglaw07_on
  rw [rturn_eq h1 h2 hp, bS]
  congr 1
  rw [Bool.eq_iff_iff]
  simp only [Bool.and_eq_true, decide_eq_true_eq]
  unfold onP
  constructor
  · rintro ⟨⟨⟨⟨a, b⟩, c⟩, d⟩, e⟩; exact ⟨a, ⟨⟨⟨b, c⟩, d⟩, e⟩⟩
  · rintro ⟨a, ⟨⟨⟨b, c⟩, d⟩, e⟩⟩; exact ⟨⟨⟨⟨a, b⟩, c⟩, d⟩, e⟩
section
variable {a b : List Pt} {s : Pt × Pt} {is : Bool} {lone : Prop}
def XX (a b : List Pt) (p : Pt) : Prop := ins a p = 0 ∧ ins b p = 0
def InvS (lone : Prop) (a b : List Pt) (i k : Nat) (c : Int) : Prop := (0 ≤ c ∧ c ≤ 41 * i + k) ∧ (lone → c = 0 ∨ (c = 1 ∧ ∃ x y : Nat, (x < i ∨ (x = i ∧ y < k)) ∧ On ((x : Int), (y : Int)) ∧ XX a b ((x : Int), (y : Int))))
theorem onN {x y : Nat} (hx : x ≤ 40) (hy : y ≤ 40) : On ((x : Int), (y : Int)) := by unfold On; simp only; omega
theorem seams_L3 {N : Nat} (hN : 100 ≤ N) (ha : VP a) (hb : VP b) (hs : Sml s.1 ∧ Sml s.2) (h1 : is = true → ∀ p, On p → (XX a b p ↔ onP s p)) (h2 : lone → ∀ p q, On p → On q → XX a b p → XX a b q → p = q) {i : Nat} (hi : i ≤ 40) : ∀ (n k : Nat) (c : Int), k ≤ 41 → 41 < n + k → InvS lone a b i k c →
    ∃ c', D_putloglaw07_PlaneSeams_L3 N a i b is s.1.1 s.1.2 s.2.1 s.2.2 n c k = some (.inl c') ∧ InvS lone a b i 41 c'
  | 0, k, c, hk, hn, _ => by omega
  | n + 1, k, c, hk, hn, hI => by
    rw [D_putloglaw07_PlaneSeams_L3]
    by_cases hk' : k = 41
    · subst hk'
      rw [cF' _ (by decide)]
      exact ⟨c, rfl, hI⟩
    have ho := onN hi (show k ≤ 40 by omega)
    obtain ⟨⟨b1, b2⟩, b3⟩ := hI
    have eo := on_eq N hs.1 hs.2 ho.sml
    simp only at eo
    rw [cT' _ (decide_eq_true (by omega)), ins_eq hN ha, bS, ins_eq hN hb, gd_of (fun _ => Option.isSome_some), Option.getD_some, eo, Option.getD_some, ← ns]
    by_cases hx : XX a b ((i : Int), (k : Int))
    · have e0 : ((decide (ins a ((i : Int), (k : Int)) = 0)) && (decide (ins b ((i : Int), (k : Int)) = 0))) = true := by simp only [Bool.and_eq_true, decide_eq_true_eq]; exact hx
      have e1 : (is && (((decide (ins a ((i : Int), (k : Int)) = 0)) && (decide (ins b ((i : Int), (k : Int)) = 0))) != (decide (onP s ((i : Int), (k : Int)))))) = false := by
        rw [e0]
        cases is with
        | false => rfl
        | true => rw [decide_eq_true ((h1 rfl _ ho).1 hx)]; rfl
      rw [cT' _ e0, gd_of (by unfold I64; omega), gd_of (fun _ => Option.isSome_some), cF' _ e1, gd_of (by unfold I64; omega)]
      refine seams_L3 hN ha hb hs h1 h2 hi n (k + 1) _ (by omega) (by omega) ⟨⟨by omega, by omega⟩, fun hl => ?_⟩
      rcases b3 hl with q | ⟨q, x, y, w1, w2, w3⟩
      · exact .inr ⟨by omega, i, k, .inr ⟨rfl, by omega⟩, ho, hx⟩
      · have := h2 hl _ _ w2 ho w3 hx
        have e1 := congrArg Prod.fst this
        have e2 := congrArg Prod.snd this
        simp only at e1 e2
        omega
    · have e0 : ((decide (ins a ((i : Int), (k : Int)) = 0)) && (decide (ins b ((i : Int), (k : Int)) = 0))) = false := by
        rw [Bool.eq_false_iff]; simp only [ne_eq, Bool.and_eq_true, decide_eq_true_eq]; exact hx
      have e1 : (is && (((decide (ins a ((i : Int), (k : Int)) = 0)) && (decide (ins b ((i : Int), (k : Int)) = 0))) != (decide (onP s ((i : Int), (k : Int)))))) = false := by
        rw [e0]
        cases is with
        | false => rfl
        | true => rw [decide_eq_false (fun q => hx ((h1 rfl _ ho).2 q))]; rfl
      rw [cF' _ e0, gd_of (fun _ => Option.isSome_some), cF' _ e1, gd_of (by unfold I64; omega)]
      refine seams_L3 hN ha hb hs h1 h2 hi n (k + 1) _ (by omega) (by omega) ⟨⟨b1, by omega⟩, fun hl => ?_⟩
      rcases b3 hl with q | ⟨q, x, y, w1, w2, w3⟩
      · exact .inl q
      · exact .inr ⟨q, x, y, by omega, w2, w3⟩
theorem seams_L1 {N : Nat} (hN : 100 ≤ N) (ha : VP a) (hb : VP b) (hs : Sml s.1 ∧ Sml s.2) (h1 : is = true → ∀ p, On p → (XX a b p ↔ onP s p)) (h2 : lone → ∀ p q, On p → On q → XX a b p → XX a b q → p = q) : ∀ (n i : Nat) (c : Int), i ≤ 41 → 41 < n + i → InvS lone a b i 0 c →
    ∃ c', D_putloglaw07_PlaneSeams_L1 N a b is s.1.1 s.1.2 s.2.1 s.2.2 n c i = some (.inl c') ∧ InvS lone a b 41 0 c'
  | 0, i, c, hk, hn, _ => by omega
  | n + 1, i, c, hk, hn, hI => by
    rw [D_putloglaw07_PlaneSeams_L1]
    by_cases hi' : i = 41
    · subst hi'
      rw [cF' _ (by decide)]
      exact ⟨c, rfl, hI⟩
    obtain ⟨c', e, hI'⟩ := seams_L3 hN ha hb hs h1 h2 (show i ≤ 40 by omega) N 0 c (by omega) (by omega) hI
    rw [Int.natCast_zero] at e
    rw [cT' _ (decide_eq_true (by omega)), e, bS]
    simp only
    rw [gd_of (by unfold I64; omega), ← ns]
    obtain ⟨⟨b1, b2⟩, b3⟩ := hI'
    refine seams_L1 hN ha hb hs h1 h2 n (i + 1) c' (by omega) (by omega) ⟨⟨b1, by omega⟩, fun hl => ?_⟩
    rcases b3 hl with q | ⟨q, x, y, w1, w2, w3⟩
    · exact .inl q
    · exact .inr ⟨q, x, y, by unfold On at w2; simp only at w2; omega, w2, w3⟩
theorem seams_L4 (N : Nat) (ha : VP a) (hs : Sml s.1 ∧ Sml s.2) (hl : ∀ x ∈ a, 0 ≤ trn s.1 s.2 x) : ∀ (n i : Nat), i ≤ a.length → a.length < n + i → D_putloglaw07_PlaneSeams_L4 N a s.1.1 s.1.2 s.2.1 s.2.2 n i = some (.inl ())
  | 0, i, h1, h2 => by omega
  | n + 1, i, h1, h2 => by
    rw [D_putloglaw07_PlaneSeams_L4]
    by_cases he : i = a.length
    · subst he
      rw [dge, cF]
    have hi' : i < a.length := by omega
    have l8 := ha.l8
    have := hl _ (pa_mem hi')
    rw [dlt hi', cT, nth_pa hi', bS]
    simp only
    rw [rturn_eq hs.1 hs.2 (ha.sml _ (pa_mem hi')), bS, cF' _ (decide_eq_false (by omega)), gd_of (by unfold I64; omega), ← ns]
    exact seams_L4 N ha hs hl n (i + 1) (by omega) (by omega)
end
theorem pureSeams (x y : List Pt) (how : Int) (hx : In2 x) (hy : In2 y) (h0 : I64 how) : D_putloglaw07_PlaneSeams 2000 x y how = some true := by
  unfold D_putloglaw07_PlaneSeams
  obtain ⟨a, b, eP, ha, hb⟩ := pair_ok (N := 2000) (by omega) (by omega) hx hy h0
  have a8 := ha.l8
  have hsane : D_putloglaw07_sane 2000 = some true := by decide +kernel
  rw [hsane, bS, cF' _ (by rfl), eP, bS]
  simp only
  rw [seam_eq (by omega) ha hb, seam_eq (by omega) hb ha, overlap_eq (by omega) ha hb]
  have z00 : Sml ((0 : Int), (0 : Int)) := by unfold Sml; simp only; omega
  by_cases hap : apart a b
  · have ov : (sideS a b).2.2 = true := sideS_t.2 hap
    have sw := seam1_swap ha hb hap
    cases h : seam1 a b with
    | none =>
      rw [h] at sw
      have e1 : seamS a b = ((((0, 0), (0, 0)), false)) := by unfold seamS; rw [if_pos hap, h]
      have e2 : seamS b a = ((((0, 0), (0, 0)), false)) := by unfold seamS; rw [if_pos hap.symm, sw]; rfl
      rw [e1, e2, bS]
      simp only
      rw [bS]
      simp only
      rw [ov, gd_of (fun _ => Option.isSome_some), cF' _ (by rfl)]
      obtain ⟨c, ec, hI⟩ := seams_L1 (N := 2000) (s := (((0 : Int), (0 : Int)), ((0 : Int), (0 : Int)))) (is := false) (lone := True) (by omega) ha hb ⟨z00, z00⟩ (fun q => by cases q) (fun _ p q hp hq xp xq => by
        by_cases e : p = q
        · exact e
        exfalso
        have p1 := (ins_0 hp).1 xp.1
        have p2 := (ins_0 hp).1 xp.2
        have q1 := (ins_0 hq).1 xq.1
        have q2 := (ins_0 hq).1 xq.2
        obtain ⟨e', he, f, hf, s, hc⟩ := seam_two ha hb hap e ⟨p1.1, p2.1⟩ ⟨q1.1, q2.1⟩ hp.sml hq.sml
        rw [seam1_none h he hf] at hc
        cases hc) 2000 0 0 (by omega) (by omega) ⟨⟨by omega, by omega⟩, fun _ => .inl rfl⟩
      rw [Int.natCast_zero] at ec
      simp only at ec
      have := hI.2 True.intro
      rw [ec, bS]
      simp only
      rw [cT' _ (by rfl), bS, decide_eq_true (show c ≤ 1 by rcases this with q | q <;> omega)]
      rfl
    | some s =>
      rw [h] at sw
      obtain ⟨j, t, hj, ht, hc⟩ := seam1_some h
      obtain ⟨ok, _, _, _, _⟩ := cand_ok ha hb hap hj ht hc
      have hs : Sml s.1 ∧ Sml s.2 := by
        have h1 : ∀ u v : Pt, Sml u → Sml v → Sml (lo u v) ∧ Sml (Am.hi u v) ∧ Sml (maxO u v) ∧ Sml (minO u v) := fun u v a b => by
          unfold lo Am.hi maxO minO
          refine ⟨?_, ?_, ?_, ?_⟩ <;> split <;> assumption
        obtain ⟨_, _, _, _, es⟩ := cand_some hc
        have q0 := ha.sml _ (pa_mem hj)
        have q1 := ha.sml _ (pa_mem (Nat.mod_lt (j + 1) (show 0 < a.length by omega)))
        have q2 := hb.sml _ (pa_mem ht)
        have q3 := hb.sml _ (pa_mem (Nat.mod_lt (t + 1) (show 0 < b.length by omega)))
        have r1 := (h1 _ _ (h1 _ _ q0 q1).1 (h1 _ _ q2 q3).1).2.2.1
        have r2 := (h1 _ _ (h1 _ _ q0 q1).2.1 (h1 _ _ q2 q3).2.1).2.2.2
        rw [es]
        split
        · exact ⟨r2, r1⟩
        · exact ⟨r1, r2⟩
      have e1 : seamS a b = (s, true) := by unfold seamS; rw [if_pos hap, h]
      have e2 : seamS b a = ((s.2, s.1), true) := by unfold seamS; rw [if_pos hap.symm, sw]; rfl
      rw [e1, e2, show (s, true) = (((s.1.1, s.1.2), (s.2.1, s.2.2)), true) from rfl, show ((s.2, s.1), true) = (((s.2.1, s.2.2), (s.1.1, s.1.2)), true) from rfl, bS]
      simp only
      rw [bS]
      simp only
      have ne : (decide (s.1.1 = s.2.1) && decide (s.1.2 = s.2.2)) = false := by rw [ptE]; exact decide_eq_false ok.ne
      rw [ov, gd_of (fun _ => Option.isSome_some), ne, cF' _ (by simp)]
      obtain ⟨c, ec, hI⟩ := seams_L1 (N := 2000) (s := s) (is := true) (lone := False) (by omega) ha hb hs (fun _ p hp => by
        unfold XX
        rw [ins_0 hp, ins_0 hp, ok.on p]
        unfold onP
        constructor
        · rintro ⟨q1, q2⟩; exact ⟨q1, (box_btw ok.ne q1).2 q2⟩
        · rintro ⟨q1, q2⟩; exact ⟨q1, (box_btw ok.ne q1).1 q2⟩) (fun q => q.elim) 2000 0 0 (by omega) (by omega) ⟨⟨by omega, by omega⟩, fun q => q.elim⟩
      rw [Int.natCast_zero] at ec
      have e4 := seams_L4 2000 ha hs ok.left 2000 0 (by omega) (by omega)
      rw [Int.natCast_zero] at e4
      rw [ec, bS]
      simp only
      rw [cF' _ (by rfl), e4, bS]
  · have ov : (sideS a b).2.2 = false := by rw [Bool.eq_false_iff]; intro q; exact hap (sideS_t.1 q)
    have e1 : seamS a b = ((((0, 0), (0, 0)), false)) := if_neg hap
    have e2 : seamS b a = ((((0, 0), (0, 0)), false)) := if_neg (fun q => hap q.symm)
    rw [e1, e2, bS]
    simp only
    rw [bS]
    simp only
    rw [ov, gd_of (fun _ => Option.isSome_some), cF' _ (by rfl)]
    obtain ⟨c, ec, hI⟩ := seams_L1 (N := 2000) (s := (((0 : Int), (0 : Int)), ((0 : Int), (0 : Int)))) (is := false) (lone := False) (by omega) ha hb ⟨z00, z00⟩ (fun q => by cases q) (fun q => q.elim) 2000 0 0 (by omega) (by omega) ⟨⟨by omega, by omega⟩, fun q => q.elim⟩
    rw [Int.natCast_zero] at ec
    simp only at ec
    rw [ec, bS]
    simp only
    rw [cT' _ (by rfl), bS]
    rfl
end Go.Proofs.Ytojciffnkbfbhaa.Am
