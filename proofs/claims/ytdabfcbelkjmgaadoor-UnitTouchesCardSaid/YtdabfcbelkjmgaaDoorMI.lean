import Derived.Test.YtdabfcbelkjmgaaDoorMH
/-
  Plain laws: PlaneSeams.
-/
namespace Go.Proofs.YtdabfcbelkjmgaaDoor.Am
set_option linter.unusedSimpArgs false
set_option linter.unusedVariables false
noncomputable def ins (l : List Pt) (p : Pt) : Int := if On p then sd l p else -1
theorem ins_eq {N : Nat} (hN : 100 ≤ N) {l : List Pt} (h : VP l) (x y : Int) : D_plane_Inside N l x y = some (ins l (x, y)) := inside_eq hN h (x, y)
theorem ins_0 {l : List Pt} {p : Pt} (ho : On p) : ins l p = 0 ↔ clo l p ∧ ¬ inn l p := by unfold ins; rw [if_pos ho, sd_0]
theorem seamOK_uniq {a b : List Pt} (ha : VP a) {s r : Pt × Pt} (h1 : SeamOK a b s) (h2 : SeamOK a b r) : s = r := by
  have hb : ∀ u w : Pt, btw u w u ∧ btw u w w := fun u w => by
    rcases lexle_tot u w with q | q
    · exact ⟨.inl ⟨lexle_refl _, q⟩, .inl ⟨q, lexle_refl _⟩⟩
    · exact ⟨.inr ⟨q, lexle_refl _⟩, .inr ⟨lexle_refl _, q⟩⟩
  have a1 := (h2.on s.1).1 ((h1.on s.1).2 ⟨trn_self1 _ _, (hb _ _).1⟩)
  have a2 := (h2.on s.2).1 ((h1.on s.2).2 ⟨trn_self2 _ _, (hb _ _).2⟩)
  have b1 := (h1.on r.1).1 ((h2.on r.1).2 ⟨trn_self1 _ _, (hb _ _).1⟩)
  have b2 := (h1.on r.2).1 ((h2.on r.2).2 ⟨trn_self2 _ _, (hb _ _).2⟩)
  have n1 := h1.ne
  have n2 := h2.ne
  have cases2 : (s.1 = r.1 ∧ s.2 = r.2) ∨ (s.1 = r.2 ∧ s.2 = r.1) := by
    rcases lexle_tot s.1 s.2 with q | q <;> rcases lexle_tot r.1 r.2 with w | w
    · left
      constructor
      · apply lexle_anti
        · rcases b1.2 with x | x
          · exact x.1
          · exact lexle_trans q x.1
        · rcases a1.2 with x | x
          · exact x.1
          · exact lexle_trans w x.1
      · apply lexle_anti
        · rcases a2.2 with x | x
          · exact x.2
          · exact lexle_trans x.2 w
        · rcases b2.2 with x | x
          · exact x.2
          · exact lexle_trans x.2 q
    · right
      constructor
      · apply lexle_anti
        · rcases b2.2 with x | x
          · exact x.1
          · exact lexle_trans q x.1
        · rcases a1.2 with x | x
          · exact lexle_trans w x.1
          · exact x.1
      · apply lexle_anti
        · rcases a2.2 with x | x
          · exact lexle_trans x.2 w
          · exact x.2
        · rcases b1.2 with x | x
          · exact x.2
          · exact lexle_trans x.2 q
    · right
      constructor
      · apply lexle_anti
        · rcases a1.2 with x | x
          · exact x.2
          · exact lexle_trans x.2 w
        · rcases b2.2 with x | x
          · exact lexle_trans x.2 q
          · exact x.2
      · apply lexle_anti
        · rcases b1.2 with x | x
          · exact lexle_trans q x.1
          · exact x.1
        · rcases a2.2 with x | x
          · exact x.1
          · exact lexle_trans w x.1
    · left
      constructor
      · apply lexle_anti
        · rcases a1.2 with x | x
          · exact lexle_trans x.2 w
          · exact x.2
        · rcases b1.2 with x | x
          · exact lexle_trans x.2 q
          · exact x.2
      · apply lexle_anti
        · rcases b2.2 with x | x
          · exact lexle_trans q x.1
          · exact x.1
        · rcases a2.2 with x | x
          · exact lexle_trans w x.1
          · exact x.1
  rcases cases2 with ⟨e1, e2⟩ | ⟨e1, e2⟩
  · exact Prod.ext e1 e2
  · exfalso
    have l3 := ha.l3
    have z : ∀ x ∈ a, trn s.1 s.2 x = 0 := fun x hx => by
      have k1 := h1.left x hx
      have k2 := h2.left x hx
      rw [← e1, ← e2, trn_swap] at k2
      omega
    have c := conv_q ha.cv (s := 0) (a := 2) (by omega) (by omega)
    simp only [Nat.zero_add] at c
    have m0 := z _ (qa_mem (show 0 < a.length by omega) 0)
    have m1 := z _ (qa_mem (show 0 < a.length by omega) 1)
    have m2 := z _ (qa_mem (show 0 < a.length by omega) 2)
    have ne : qa a 0 ≠ qa a 1 := fun e => by rw [e, trn_self0] at c; omega
    have := (same_line h1.ne ne m0 m1).2 m2
    omega
theorem cand_swap {a b : List Pt} (ha : VP a) (hb : VP b) (hap : apart a b) {j t : Nat} (hj : j < a.length) (ht : t < b.length) {s : Pt × Pt} (hc : cand (pa a j, pa a ((j + 1) % a.length)) (pa b t, pa b ((t + 1) % b.length)) = some s) :
    cand (pa b t, pa b ((t + 1) % b.length)) (pa a j, pa a ((j + 1) % a.length)) = some (s.2, s.1) := by
  obtain ⟨_, kn, _, _, _⟩ := cand_ok ha hb hap hj ht hc
  obtain ⟨zR, zS, ne, le, hs⟩ := cand_some hc
  simp only at zR zS ne le hs
  have nPQ := ha.ne hj
  have nRS := hb.ne ht
  have L := fun x => same_line (x := x) nPQ nRS zR zS
  have mc : ∀ u v : Pt, maxO u v = maxO v u := fun u v => by
    apply lexle_anti
    · exact le_max.2 ⟨(le_max.1 (lexle_refl (maxO v u))).2, (le_max.1 (lexle_refl (maxO v u))).1⟩
    · exact le_max.2 ⟨(le_max.1 (lexle_refl (maxO u v))).2, (le_max.1 (lexle_refl (maxO u v))).1⟩
  have nc : ∀ u v : Pt, minO u v = minO v u := fun u v => by
    apply lexle_anti
    · exact le_min.2 ⟨(le_min.1 (lexle_refl (minO u v))).2, (le_min.1 (lexle_refl (minO u v))).1⟩
    · exact le_min.2 ⟨(le_min.1 (lexle_refl (minO v u))).2, (le_min.1 (lexle_refl (minO v u))).1⟩
  have cc : comS (pa b t) (pa b ((t + 1) % b.length)) (pa a j) (pa a ((j + 1) % a.length)) = comS (pa a j) (pa a ((j + 1) % a.length)) (pa b t) (pa b ((t + 1) % b.length)) := by
    unfold comS
    rw [mc (lo _ _) (lo (pa a j) _), nc (Am.hi _ _) (Am.hi (pa a j) _)]
  have h := cand_of (e := (pa b t, pa b ((t + 1) % b.length))) (f := (pa a j, pa a ((j + 1) % a.length))) ((L _).2 (trn_self1 _ _)) ((L _).2 (trn_self2 _ _)) (by simp only; rw [cc]; exact ne) (by simp only; rw [cc]; exact le)
  simp only at h
  rw [h, cc, hs]
  by_cases hg : 0 < ordS (pa a j) (pa a ((j + 1) % a.length))
  · have hQP : lexle (pa a ((j + 1) % a.length)) (pa a j) := by rw [ord_gt] at hg; unfold lexle; omega
    have s1 : trn (pa a ((j + 1) % a.length)) (pa a j) (pa b t) = 0 := by rw [trn_swap]; omega
    have s2 : trn (pa a ((j + 1) % a.length)) (pa a j) (pa b ((t + 1) % b.length)) = 0 := by rw [trn_swap]; omega
    have ee : ∀ x, dd (pa a ((j + 1) % a.length)) (pa a j) x = dd (pa a j) (pa a ((j + 1) % a.length)) (pa a ((j + 1) % a.length)) - dd (pa a j) (pa a ((j + 1) % a.length)) x := fun x => by unfold dd; grind
    have o := (dd_lex (Ne.symm nPQ) hQP s1 s2).1 (by rw [ee, ee]; omega)
    rw [if_pos hg, if_neg (lexle_ord.1 o)]
  · have hPQ : lexle (pa a j) (pa a ((j + 1) % a.length)) := lexle_ord.2 hg
    have o := (dd_lex nPQ hPQ zS zR).1 (by omega)
    have o2 : 0 < ordS (pa b t) (pa b ((t + 1) % b.length)) := by
      rw [ord_gt]
      have : pa b ((t + 1) % b.length) ≠ pa b t := Ne.symm nRS
      unfold lexle at o
      by_cases x1 : (pa b ((t + 1) % b.length)).1 < (pa b t).1
      · exact .inl x1
      · refine .inr ⟨by omega, ?_⟩
        have : (pa b ((t + 1) % b.length)).2 ≠ (pa b t).2 := fun q => this (Prod.ext (by omega) q)
        omega
    rw [if_neg hg, if_pos o2]
theorem seam1_swap {a b : List Pt} (ha : VP a) (hb : VP b) (hap : apart a b) : seam1 b a = (seam1 a b).map fun s => (s.2, s.1) := by
  cases h : seam1 a b with
  | none =>
    cases h2 : seam1 b a with
    | none => rfl
    | some r =>
      obtain ⟨t, j, ht, hj, hc⟩ := seam1_some h2
      have := cand_swap hb ha hap.symm ht hj hc
      rw [seam1_none h (mem_edges.2 ⟨j, hj, rfl⟩) (mem_edges.2 ⟨t, ht, rfl⟩)] at this
      cases this
  | some s =>
    obtain ⟨j, t, hj, ht, hc⟩ := seam1_some h
    have hs := cand_swap ha hb hap hj ht hc
    cases h2 : seam1 b a with
    | none =>
      rw [seam1_none h2 (mem_edges.2 ⟨t, ht, rfl⟩) (mem_edges.2 ⟨j, hj, rfl⟩)] at hs
      cases hs
    | some r =>
      obtain ⟨t', j', ht', hj', hc'⟩ := seam1_some h2
      have o1 := (cand_ok hb ha hap.symm ht hj hs).1
      have o2 := (cand_ok hb ha hap.symm ht' hj' hc').1
      rw [Option.map_some, seamOK_uniq hb o1 o2]
/-- A place is on a segment if it is on its line and in its box. -/
theorem box_btw {u w p : Pt} (hne : u ≠ w) (hz : trn u w p = 0) : (((min u.1 w.1 ≤ p.1 ∧ p.1 ≤ max u.1 w.1) ∧ min u.2 w.2 ≤ p.2) ∧ p.2 ≤ max u.2 w.2) ↔ btw u w p := by
  constructor
  · intro h
    rw [dd_btw hne hz]
    have sg : ∀ a b c : Int, min a b ≤ c → c ≤ max a b → 0 ≤ (b - a) * (c - a) ∧ 0 ≤ (b - a) * (b - c) := fun a b c h1 h2 => by
      rcases Int.le_total a b with q | q
      · exact ⟨Int.mul_nonneg (by omega) (by omega), Int.mul_nonneg (by omega) (by omega)⟩
      · exact ⟨Int.mul_nonneg_of_nonpos_of_nonpos (by omega) (by omega), Int.mul_nonneg_of_nonpos_of_nonpos (by omega) (by omega)⟩
    have x := sg u.1 w.1 p.1 h.1.1.1 h.1.1.2
    have y := sg u.2 w.2 p.2 h.1.2 h.2
    have e : dd u w w - dd u w p = (w.1 - u.1) * (w.1 - p.1) + (w.2 - u.2) * (w.2 - p.2) := by unfold dd; grind
    have e2 : dd u w p = (w.1 - u.1) * (p.1 - u.1) + (w.2 - u.2) * (p.2 - u.2) := rfl
    omega
  · have key : ∀ u w : Pt, u ≠ w → trn u w p = 0 → lexle u p → lexle p w → (((min u.1 w.1 ≤ p.1 ∧ p.1 ≤ max u.1 w.1) ∧ min u.2 w.2 ≤ p.2) ∧ p.2 ≤ max u.2 w.2) := fun u w hne hz h1 h2 => by
      have e : (w.1 - u.1) * (p.2 - u.2) = (w.2 - u.2) * (p.1 - u.1) := by unfold trn at hz; omega
      have e3 : (w.1 - u.1) * (w.2 - p.2) = (w.2 - u.2) * (w.1 - p.1) := by
        have : (w.1 - u.1) * (w.2 - p.2) - (w.2 - u.2) * (w.1 - p.1) = - ((w.1 - u.1) * (p.2 - u.2) - (w.2 - u.2) * (p.1 - u.1)) := by grind
        omega
      unfold lexle at h1 h2
      by_cases hw : u.1 = w.1
      · omega
      have A : 0 < w.1 - u.1 := by omega
      rcases Int.le_total u.2 w.2 with q | q
      · have m1 := Int.mul_nonneg (show 0 ≤ w.2 - u.2 by omega) (show 0 ≤ p.1 - u.1 by omega)
        have m2 := Int.mul_nonneg (show 0 ≤ w.2 - u.2 by omega) (show 0 ≤ w.1 - p.1 by omega)
        have k1 := nn_of_mul A (b := p.2 - u.2) (by omega)
        have k2 := nn_of_mul A (b := w.2 - p.2) (by omega)
        omega
      · have m1 := Int.mul_nonneg (show 0 ≤ u.2 - w.2 by omega) (show 0 ≤ p.1 - u.1 by omega)
        have m2 := Int.mul_nonneg (show 0 ≤ u.2 - w.2 by omega) (show 0 ≤ w.1 - p.1 by omega)
        have e4 : (w.1 - u.1) * (u.2 - p.2) = (u.2 - w.2) * (p.1 - u.1) := by grind
        have e5 : (w.1 - u.1) * (p.2 - w.2) = (u.2 - w.2) * (w.1 - p.1) := by grind
        have k1 := nn_of_mul A (b := u.2 - p.2) (by omega)
        have k2 := nn_of_mul A (b := p.2 - w.2) (by omega)
        omega
    rintro (⟨h1, h2⟩ | ⟨h1, h2⟩)
    · exact key u w hne hz h1 h2
    · have := key w u (Ne.symm hne) (by rw [trn_swap]; omega) h1 h2
      omega
def onP (s : Pt × Pt) (p : Pt) : Prop := trn s.1 s.2 p = 0 ∧ (((min s.1.1 s.2.1 ≤ p.1 ∧ p.1 ≤ max s.1.1 s.2.1) ∧ min s.1.2 s.2.2 ≤ p.2) ∧ p.2 ≤ max s.1.2 s.2.2)
instance (s : Pt × Pt) (p : Pt) : Decidable (onP s p) := inferInstanceAs (Decidable (_ ∧ (((_ ∧ _) ∧ _) ∧ _)))
section
variable {a b : List Pt} {s : Pt × Pt} {is : Bool} {lone : Prop}
def XX (a b : List Pt) (p : Pt) : Prop := ins a p = 0 ∧ ins b p = 0
def InvS (lone : Prop) (a b : List Pt) (i k : Nat) (c : Int) : Prop := (0 ≤ c ∧ c ≤ 41 * i + k) ∧ (lone → c = 0 ∨ (c = 1 ∧ ∃ x y : Nat, (x < i ∨ (x = i ∧ y < k)) ∧ On ((x : Int), (y : Int)) ∧ XX a b ((x : Int), (y : Int))))
end
end Go.Proofs.YtdabfcbelkjmgaaDoor.Am
