import Derived.Test.YtdabfcbelkjmgaaDoorM9
import Derived.Test.YtdabfcbelkjmgaaDoorMA
/-
  Plain laws: moved polygons.
-/
namespace Go.Proofs.YtdabfcbelkjmgaaDoor.Am
set_option linter.unusedSimpArgs false
set_option linter.unusedVariables false
def mv (d p : Pt) : Pt := (p.1 + d.1, p.2 + d.2)
theorem mv_trn (d a b c : Pt) : trn (mv d a) (mv d b) (mv d c) = trn a b c := by unfold trn mv; grind
theorem mv_inj {d p q : Pt} (h : mv d p = mv d q) : p = q := by
  unfold mv at h
  have h1 := congrArg Prod.fst h
  have h2 := congrArg Prod.snd h
  simp only at h1 h2
  exact Prod.ext (by omega) (by omega)
theorem mv_eq {d p q : Pt} : mv d p = mv d q ↔ p = q := ⟨mv_inj, fun h => by rw [h]⟩
def mv2 (d : Pt) (e : Pt × Pt) : Pt × Pt := (mv d e.1, mv d e.2)
theorem mv_edges (d : Pt) (l : List Pt) : edgesL (l.map (mv d)) = (edgesL l).map (mv2 d) := by
  unfold edgesL
  rw [List.map_map, List.length_map]
  refine List.map_congr_left fun i hi => ?_
  rw [List.mem_range] at hi
  have hm : (i + 1) % l.length < l.length := Nat.mod_lt _ (by omega)
  rw [pa_map hi, pa_map hm]; rfl
theorem mv_E (d : Pt) {l : List Pt} {i : Nat} (hi : i < l.length) (p : Pt) : E (l.map (mv d)) i (mv d p) = E l i p := by
  have hm : (i + 1) % l.length < l.length := Nat.mod_lt _ (by omega)
  unfold E
  rw [List.length_map, pa_map hi, pa_map hm, mv_trn]
theorem mv_conv (d : Pt) {l : List Pt} (h : Conv l) : Conv (l.map (mv d)) := by
  intro i k hi hk n1 n2
  rw [List.length_map] at hi hk n2 ⊢
  have hm : (i + 1) % l.length < l.length := Nat.mod_lt _ (by omega)
  rw [pa_map hi, pa_map hk, pa_map hm, mv_trn]
  exact h i k hi hk n1 n2
theorem mv_vp (d : Pt) {l : List Pt} (h : VP l) (ho : ∀ p ∈ l, On (mv d p)) : VP (l.map (mv d)) :=
  ⟨by rw [List.length_map]; exact h.l3, by rw [List.length_map]; exact h.l8, fun p hp => by obtain ⟨q, hq, rfl⟩ := List.mem_map.1 hp; exact ho q hq, mv_conv d h.cv⟩
theorem mv_sep (d : Pt) {l b : List Pt} {i : Nat} (hi : i < l.length) : sep (l.map (mv d)) i (b.map (mv d)) ↔ sep l i b := by
  constructor
  · intro h p hp
    have := h (mv d p) (List.mem_map.2 ⟨p, hp, rfl⟩)
    rwa [mv_E d hi] at this
  · intro h q hq
    obtain ⟨p, hp, rfl⟩ := List.mem_map.1 hq
    rw [mv_E d hi]; exact h p hp
open Classical in
theorem mv_fst (d : Pt) (l b : List Pt) : fstS (l.map (mv d)) (b.map (mv d)) = fstS l b := by
  unfold fstS
  rw [List.length_map]
  have : ∀ xs : List Nat, (∀ i ∈ xs, i < l.length) → xs.find? (fun i => @decide (sep (l.map (mv d)) i (b.map (mv d))) (Classical.propDecidable _)) = xs.find? (fun i => @decide (sep l i b) (Classical.propDecidable _)) := by
    intro xs
    induction xs with
    | nil => intro _; rfl
    | cons x xs ih =>
      intro h
      have e : (@decide (sep (l.map (mv d)) x (b.map (mv d))) (Classical.propDecidable _)) = (@decide (sep l x b) (Classical.propDecidable _)) := by
        rw [Bool.eq_iff_iff, decide_eq_true_eq, decide_eq_true_eq]
        exact mv_sep d (h x (by simp))
      rw [List.find?_cons, List.find?_cons, e, ih fun i hi => h i (by simp [hi])]
  exact this _ fun i hi => by simpa using hi
theorem mv_side (d : Pt) (a b : List Pt) : sideS (a.map (mv d)) (b.map (mv d)) = sideS a b := by
  unfold sideS
  rw [mv_fst, mv_fst]
theorem mv_apart (d : Pt) (a b : List Pt) : apart (a.map (mv d)) (b.map (mv d)) ↔ apart a b := by
  rw [← sideS_t, ← sideS_t, mv_side]
theorem mv_ord (d p q : Pt) : ordS (mv d p) (mv d q) = ordS p q := by
  have h1 : ordS (mv d p) (mv d q) < 0 ↔ ordS p q < 0 := by rw [ord_lt, ord_lt]; unfold mv; simp only; omega
  unfold ordS cmpS mv
  simp only
  repeat' split
  all_goals omega
theorem mv_max (d u v : Pt) : maxO (mv d u) (mv d v) = mv d (maxO u v) := by unfold maxO; rw [mv_ord]; split <;> rfl
theorem mv_min (d u v : Pt) : minO (mv d u) (mv d v) = mv d (minO u v) := by unfold minO; rw [mv_ord]; split <;> rfl
theorem mv_lo (d u v : Pt) : lo (mv d u) (mv d v) = mv d (lo u v) := by unfold lo; rw [mv_ord]; split <;> rfl
theorem mv_hi (d u v : Pt) : hi (mv d u) (mv d v) = mv d (hi u v) := by unfold hi; rw [mv_ord]; split <;> rfl
theorem mv_com (d p q r s : Pt) : comS (mv d p) (mv d q) (mv d r) (mv d s) = mv2 d (comS p q r s) := by
  unfold comS mv2
  rw [mv_lo, mv_lo, mv_hi, mv_hi, mv_max, mv_min]
theorem mv_cand (d : Pt) (e f : Pt × Pt) : cand (mv2 d e) (mv2 d f) = (cand e f).map (mv2 d) := by
  unfold cand
  rw [show (mv2 d e).1 = mv d e.1 from rfl, show (mv2 d e).2 = mv d e.2 from rfl, show (mv2 d f).1 = mv d f.1 from rfl, show (mv2 d f).2 = mv d f.2 from rfl, mv_com, mv_trn, mv_trn, mv_ord]
  rw [show (mv2 d (comS e.1 e.2 f.1 f.2)).1 = mv d (comS e.1 e.2 f.1 f.2).1 from rfl, show (mv2 d (comS e.1 e.2 f.1 f.2)).2 = mv d (comS e.1 e.2 f.1 f.2).2 from rfl, mv_ord]
  simp only [mv_eq]
  split
  · rfl
  · split
    · rfl
    · split <;> rfl
theorem findSome_map {α β γ δ : Type} (g : α → β) (h : γ → δ) {f : α → Option γ} {f' : β → Option δ} (hf : ∀ x, f' (g x) = (f x).map h) : ∀ xs : List α, (xs.map g).findSome? f' = (xs.findSome? f).map h
  | [] => rfl
  | x :: xs => by
    rw [List.map_cons, List.findSome?_cons, List.findSome?_cons, hf]
    cases f x with
    | some y => rfl
    | none => exact findSome_map g h hf xs
theorem mv_seam1 (d : Pt) (a b : List Pt) : seam1 (a.map (mv d)) (b.map (mv d)) = (seam1 a b).map (mv2 d) := by
  unfold seam1
  rw [mv_edges, mv_edges]
  exact findSome_map _ _ (fun e => findSome_map _ _ (fun f => mv_cand d e f) _) _
theorem mv_area (d : Pt) {l : List Pt} (hl : 0 < l.length) : areaS (l.map (mv d)) = areaS l := by
  unfold areaS
  rw [mv_edges, List.map_map, pa_map hl]
  congr 1
  refine List.map_congr_left fun e _ => ?_
  exact mv_trn d _ _ _
theorem sum_add {α : Type} (f g : α → Int) : ∀ xs : List α, (xs.map fun x => f x + g x).sum = (xs.map f).sum + (xs.map g).sum
  | [] => rfl
  | x :: xs => by
    simp only [List.map_cons, List.sum_cons, sum_add f g xs]; omega
theorem sum_mul {α : Type} (c : Int) (f : α → Int) : ∀ xs : List α, (xs.map fun x => c * f x).sum = c * (xs.map f).sum
  | [] => by simp
  | x :: xs => by
    simp only [List.map_cons, List.sum_cons, sum_mul c f xs, Int.mul_add]
theorem mv_momX (d : Pt) {l : List Pt} (hl : 0 < l.length) : momX (l.map (mv d)) = momX l + 3 * d.1 * areaS l := by
  unfold momX areaS
  rw [mv_edges, List.map_map, pa_map hl, ← sum_mul, ← sum_add]
  congr 1
  refine List.map_congr_left fun e _ => ?_
  show trn (mv d (pa l 0)) (mv d e.1) (mv d e.2) * ((mv d (pa l 0)).1 + (mv d e.1).1 + (mv d e.2).1) = _
  rw [mv_trn]
  unfold mxE arE mv
  simp only
  grind
theorem mv_momY (d : Pt) {l : List Pt} (hl : 0 < l.length) : momY (l.map (mv d)) = momY l + 3 * d.2 * areaS l := by
  unfold momY areaS
  rw [mv_edges, List.map_map, pa_map hl, ← sum_mul, ← sum_add]
  congr 1
  refine List.map_congr_left fun e _ => ?_
  show trn (mv d (pa l 0)) (mv d e.1) (mv d e.2) * ((mv d (pa l 0)).2 + (mv d e.1).2 + (mv d e.2).2) = _
  rw [mv_trn]
  unfold myE arE mv
  simp only
  grind
theorem mv_bd (d : Pt) (l : List Pt) : bdS (l.map (mv d)) = bdS l := by
  unfold bdS
  rw [mv_edges, List.map_map]
  congr 1
  refine List.map_congr_left fun e _ => ?_
  show gcE (mv2 d e) = gcE e
  unfold gcE mv2 mv
  simp only
  rw [show e.2.1 + d.1 - (e.1.1 + d.1) = e.2.1 - e.1.1 by omega, show e.2.2 + d.2 - (e.1.2 + d.2) = e.2.2 - e.1.2 by omega]
/-! ### The function that moves -/
theorem move_loop (N : Nat) {l : List Pt} (hl : l.length ≤ 1000) (hs : ∀ p ∈ l, Sml p) {d : Pt} (hd : Sml d) : ∀ (n i : Nat), i ≤ l.length → l.length < n + i → D_plane_Move_L1 N l d.1 d.2 n i ((l.take i).map (mv d) ++ l.drop i) = some (l.map (mv d))
  | 0, i, hi, hn => by omega
  | n + 1, i, hi, hn => by
    rw [D_plane_Move_L1]
    by_cases he : i = l.length
    · subst he
      rw [dge, cF, List.drop_length, List.take_length, List.append_nil]
    have hi' : i < l.length := by omega
    have hp := hs _ (pa_mem hi')
    have hd' := hd
    unfold Sml at hp hd'
    have e1 : nth ((l.take i).map (mv d) ++ l.drop i) (i : Int) = some ((pa l i).1, (pa l i).2) := by rw [drop_pa hi', nth_step hi']
    rw [dlt hi', cT, e1, bS]
    simp only
    rw [gd_of (by unfold I64; omega), Int.toNat_natCast, set_step hi', nth_step hi', bS]
    simp only
    rw [gd_of (by unfold I64; omega), gd_of (by unfold I64; omega), set_step2 hi', ← ns, show ((pa l i).1 + d.1, (pa l i).2 + d.2) = mv d (pa l i) from rfl, fin_step hi']
    exact move_loop N hl hs hd n (i + 1) (by omega) (by omega)
def mvOK (d : Pt) : Prop := (-40 ≤ d.1 ∧ d.1 ≤ 40) ∧ -40 ≤ d.2 ∧ d.2 ≤ 40
open Classical in
theorem move_eq {N : Nat} (hN : 100 ≤ N) {l : List Pt} (h : VP l) {d : Pt} (hd : mvOK d) : D_plane_Move N l d.1 d.2 = some (if ∀ p ∈ l, On (mv d p) then (l.map (mv d), 0) else ([], 70)) := by
  unfold D_plane_Move
  have l3 := h.l3
  have l8 := h.l8
  unfold mvOK at hd
  have hc := move_loop N (by omega) h.sml (d := d) (by unfold Sml; omega) N 0 (by omega) (by omega)
  rw [show ((0 : Nat) : Int) = 0 from rfl, List.drop_zero, List.take_zero, List.map_nil, List.nil_append] at hc
  rw [valid_t hN h, bS, cF' _ (by simp; omega), gd_of (by rintro rfl; simp at l3), gd_of (by omega), hc, bS, off_eq hN (by simp; omega), bS]
  by_cases ho : ∀ p ∈ l, On (mv d p)
  · rw [if_pos ho, cF' _ (decide_eq_false (by
      rintro ⟨p, hp, hn⟩
      obtain ⟨q, hq, rfl⟩ := List.mem_map.1 hp
      exact hn (ho q hq)))]
  · rw [if_neg ho, cT' _ (decide_eq_true (by
      by_cases hx : ∃ p ∈ l.map (mv d), ¬ On p
      · exact hx
      · exact absurd (fun p hp => by
          by_cases hq : On (mv d p)
          · exact hq
          · exact absurd ⟨_, List.mem_map.2 ⟨p, hp, rfl⟩, hq⟩ hx) ho))]
theorem mv_back (d : Pt) (l : List Pt) : (l.map (mv d)).map (mv (-d.1, -d.2)) = l := by
  rw [List.map_map]
  have : (mv (-d.1, -d.2) ∘ mv d) = id := by
    funext p
    unfold mv
    simp only [Function.comp, id]
    exact Prod.ext (by simp only; omega) (by simp only; omega)
  rw [this, List.map_id]
end Go.Proofs.YtdabfcbelkjmgaaDoor.Am
