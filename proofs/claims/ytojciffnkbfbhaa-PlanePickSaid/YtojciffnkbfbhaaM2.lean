import Derived.Test.YtojciffnkbfbhaaD6
import Derived.Test.YtojciffnkbfbhaaG1
/-
  Plain laws: loops, what is left of a line, valid polygons, where a place is.
-/
namespace Go.Proofs.Ytojciffnkbfbhaa.Am
set_option linter.unusedSimpArgs false
set_option linter.unusedVariables false
/-! ### Steps that the kernel takes as they are (it must not compare what `gd` guards by unfolding it) -/
theorem cT' {α : Type} (b : Bool) (h : b = true) (x y : α) : (bif b then x else y) = x := by subst h; rfl
theorem cF' {α : Type} (b : Bool) (h : b = false) (x y : α) : (bif b then x else y) = y := by subst h; rfl
theorem bS' {α β : Type} (o : Option α) (a : α) (h : o = some a) (f : α → Option β) : o.bind f = f a := by subst h; rfl
theorem cT {α : Type} (x y : α) : (bif true then x else y) = x := cT' _ rfl x y
theorem cF {α : Type} (x y : α) : (bif false then x else y) = y := cF' _ rfl x y
theorem bS {α β : Type} (a : α) (f : α → Option β) : (some a).bind f = f a := bS' _ a rfl f
/-! ### Loops that look for something -/
theorem find_cases {β : Type} {L : Nat → Int → Option (Sum Unit β)} {len : Nat} (f : Nat → Option β)
    (h1 : ∀ n (k : Nat), k < len → f k = none → L (n + 1) k = L n ((k + 1 : Nat) : Int)) (h2 : ∀ n (k : Nat) r, k < len → f k = some r → L (n + 1) k = some (.inr r)) (h3 : ∀ n, L (n + 1) len = some (.inl ())) :
    ∀ (n k : Nat), k ≤ len → len < n + k → (L n k = some (.inl ()) ∧ ∀ j, k ≤ j → j < len → f j = none) ∨ ∃ j r, k ≤ j ∧ j < len ∧ f j = some r ∧ (∀ i, k ≤ i → i < j → f i = none) ∧ L n k = some (.inr r)
  | 0, k, hk, hn => by omega
  | n + 1, k, hk, hn => by
    by_cases he : k = len
    · subst he
      exact .inl ⟨h3 n, fun j h1 h2 => by omega⟩
    cases hf : f k with
    | some r => exact .inr ⟨k, r, Nat.le_refl _, by omega, hf, fun i _ _ => by omega, h2 n k r (by omega) hf⟩
    | none =>
      rw [h1 n k (by omega) hf]
      rcases find_cases f h1 h2 h3 n (k + 1) (by omega) (by omega) with ⟨e, h⟩ | ⟨j, r, a1, a2, a3, a4, a5⟩
      · refine .inl ⟨e, fun j hj hl => ?_⟩
        by_cases hjk : j = k
        · rw [hjk]; exact hf
        · exact h j (by omega) hl
      · refine .inr ⟨j, r, by omega, a2, a3, fun i h1 h2 => ?_, a5⟩
        by_cases hik : i = k
        · rw [hik]; exact hf
        · exact a4 i (by omega) h2
/-- From the first place on. -/
theorem find0 {β : Type} {L : Nat → Int → Option (Sum Unit β)} {len : Nat} (f : Nat → Option β)
    (h1 : ∀ n (k : Nat), k < len → f k = none → L (n + 1) k = L n ((k + 1 : Nat) : Int)) (h2 : ∀ n (k : Nat) r, k < len → f k = some r → L (n + 1) k = some (.inr r)) (h3 : ∀ n, L (n + 1) len = some (.inl ())) (n : Nat) (hn : len < n) :
    (L n 0 = some (.inl ()) ∧ ∀ j, j < len → f j = none) ∨ ∃ j r, j < len ∧ f j = some r ∧ (∀ i, i < j → f i = none) ∧ L n 0 = some (.inr r) := by
  have := find_cases f h1 h2 h3 n 0 (by omega) (by omega)
  rw [Int.natCast_zero] at this
  rcases this with ⟨e, h⟩ | ⟨j, r, a1, a2, a3, a4, e⟩
  · exact .inl ⟨e, fun j hj => h j (by omega) hj⟩
  · exact .inr ⟨j, r, a2, a3, fun i hi => a4 i (by omega) hi, e⟩
theorem ns (k : Nat) : ((k + 1 : Nat) : Int) = (k : Int) + 1 := by omega
theorem tmod_nat (i n : Nat) : ((i : Int) + 1).tmod (n : Int) = (((i + 1) % n : Nat) : Int) := by
  rw [Int.tmod_eq_emod_of_nonneg (by omega)]; rfl
theorem nth_pa {l : List Pt} {i : Nat} (h : i < l.length) : nth l (i : Int) = some ((pa l i).1, (pa l i).2) := by
  rw [nth_of (0, 0) (by omega) (by omega), Int.toNat_natCast]; rfl
theorem gd_t {α : Type} {p q : Prop} [Decidable p] [Decidable q] {k : Option α} (h : p → q) : gd (p → q) k = k := gd_of h

/-! ### Left of a line -/
theorem trn_b {a b c : Pt} (ha : Sml a) (hb : Sml b) (hc : Sml c) : -2000000 ≤ trn a b c ∧ trn a b c ≤ 2000000 := by
  unfold Sml at *
  have h1 := mulb (x := b.1 - a.1) (y := c.2 - a.2) (by omega) (by omega)
  have h2 := mulb (x := b.2 - a.2) (y := c.1 - a.1) (by omega) (by omega)
  unfold trn; omega
theorem turn_eq {N : Nat} {a b c : Pt} (ha : Sml a) (hb : Sml b) (hc : Sml c) : D_plane_turn N a.1 a.2 b.1 b.2 c.1 c.2 = some (trn a b c) := by
  unfold Sml at *
  have h1 := mulb (x := b.1 - a.1) (y := c.2 - a.2) (by omega) (by omega)
  have h2 := mulb (x := b.2 - a.2) (y := c.1 - a.1) (by omega) (by omega)
  unfold D_plane_turn trn
  rw [gd_of (by unfold I64; omega), gd_of (by unfold I64; omega), gd_of (by unfold I64; omega), gd_of (by unfold I64; omega), gd_of (by unfold I64; omega), gd_of (by unfold I64; omega), gd_of (by unfold I64; omega)]
theorem rturn_eq {N : Nat} {a b c : Pt} (ha : Sml a) (hb : Sml b) (hc : Sml c) : D_putlogref07_Turn N a.1 a.2 b.1 b.2 c.1 c.2 = some (trn a b c) := by
  unfold Sml at *
  have h1 := mulb (x := b.1 - a.1) (y := c.2 - a.2) (by omega) (by omega)
  have h2 := mulb (x := b.2 - a.2) (y := c.1 - a.1) (by omega) (by omega)
  unfold D_putlogref07_Turn trn
  rw [gd_of (by unfold I64; omega), gd_of (by unfold I64; omega), gd_of (by unfold I64; omega), gd_of (by unfold I64; omega), gd_of (by unfold I64; omega), gd_of (by unfold I64; omega), gd_of (by unfold I64; omega)]

/-! ### Valid polygons -/
def On (p : Pt) : Prop := (0 ≤ p.1 ∧ p.1 ≤ 40) ∧ (0 ≤ p.2 ∧ p.2 ≤ 40)
instance (p : Pt) : Decidable (On p) := inferInstanceAs (Decidable ((_ ∧ _) ∧ (_ ∧ _)))
theorem On.sml {p : Pt} (h : On p) : Sml p := by unfold On at h; unfold Sml; omega
structure VP (l : List Pt) : Prop where
  l3 : 3 ≤ l.length
  l8 : l.length ≤ 8
  on : ∀ p ∈ l, On p
  cv : Conv l
open Classical in
noncomputable def vB (l : List Pt) : Bool := decide (VP l)
theorem vB_t {l : List Pt} : vB l = true ↔ VP l := by unfold vB; simp
theorem vB_f {l : List Pt} : vB l = false ↔ ¬ VP l := by unfold vB; simp
theorem isOff_eq (N : Nat) (p : Pt) : D_plane_isOff N p.1 p.2 = some (!decide (On p)) := by
  unfold D_plane_isOff
  congr 1
  by_cases h : On p
  · rw [decide_eq_true h]
    unfold On at h
    simp only [Bool.not_true, Bool.or_eq_false_iff, decide_eq_false_iff_not]
    omega
  · rw [decide_eq_false h]
    unfold On at h
    simp only [Bool.not_false, Bool.or_eq_true, decide_eq_true_eq]
    omega
open Classical in
theorem off_eq {N : Nat} {l : List Pt} (hN : 100 ≤ N) (hl : l.length ≤ 50) : D_slices_ContainsFunc_api_Place_api_Place_v48 N l = some (decide (∃ p ∈ l, ¬ On p)) := by
  unfold D_slices_ContainsFunc_api_Place_api_Place_v48 D_slices_IndexFunc_api_Place_api_Place_v48
  have key := find0 (L := D_slices_IndexFunc_api_Place_api_Place_v48_L1 N l) (len := l.length) (fun i => if On (pa l i) then none else some (i : Int)) (fun n k hk hf => by
      rw [D_slices_IndexFunc_api_Place_api_Place_v48_L1]
      have e1 : decide ((k : Int) < (l.length : Int)) = true := by simp; omega
      have hon : On (pa l k) := by
        by_cases h : On (pa l k)
        · exact h
        · simp [h] at hf
      rw [e1, cT, nth_pa hk]
      simp only [bS]
      rw [isOff_eq]
      simp only [bS, hon, decide_true, Bool.not_true, cF]
      rw [gd_of (by unfold I64; omega), ns]) (fun n k r hk hf => by
      rw [D_slices_IndexFunc_api_Place_api_Place_v48_L1]
      have e1 : decide ((k : Int) < (l.length : Int)) = true := by simp; omega
      have hon : ¬ On (pa l k) := fun h => by simp [h] at hf
      rw [if_neg hon] at hf
      rw [e1, cT, nth_pa hk]
      simp only [bS]
      rw [isOff_eq]
      simp only [bS, hon, decide_false, Bool.not_false, cT]
      rw [← Option.some.inj hf]) (fun n => by
      rw [D_slices_IndexFunc_api_Place_api_Place_v48_L1]
      have e1 : decide ((l.length : Int) < (l.length : Int)) = false := by simp
      rw [e1, cF]) N (by omega)
  rcases key with ⟨e, h⟩ | ⟨j, r, a2, a3, a4, e⟩
  · rw [e]
    simp only [bS]
    congr 1
    symm
    simp only [show decide ((0 : Int) ≤ -1) = false from rfl, decide_eq_false_iff_not]
    rintro ⟨p, hp, hn⟩
    obtain ⟨i, hi, rfl⟩ := pa_of hp
    have := h i hi
    simp [hn] at this
  · rw [e]
    simp only [bS]
    by_cases hon : On (pa l j)
    · simp [hon] at a3
    · simp only [hon, if_false, Option.some.injEq] at a3
      subst a3
      congr 1
      rw [show decide ((0 : Int) ≤ (j : Int)) = true from by simp]
      symm
      simp only [decide_eq_true_eq]
      exact ⟨_, pa_mem a2, hon⟩

open Classical in
theorem valid_L3 {N : Nat} {l : List Pt} (hl : l.length ≤ 50) (ho : ∀ p ∈ l, Sml p) {i : Nat} (hi : i < l.length) (n : Nat) (hn : l.length < n) :
    D_plane_Valid_L3 N l i (pa l i).1 (pa l i).2 n 0 = some (if ∀ k, k < l.length → k ≠ i → k ≠ (i + 1) % l.length → 0 < trn (pa l i) (pa l ((i + 1) % l.length)) (pa l k) then .inl () else .inr false) := by
  have hm : (i + 1) % l.length < l.length := Nat.mod_lt _ (by omega)
  have step : ∀ n (k : Nat), k < l.length → D_plane_Valid_L3 N l i (pa l i).1 (pa l i).2 (n + 1) k = if (k ≠ i ∧ k ≠ (i + 1) % l.length) ∧ trn (pa l i) (pa l ((i + 1) % l.length)) (pa l k) ≤ 0 then some (.inr false) else D_plane_Valid_L3 N l i (pa l i).1 (pa l i).2 n ((k + 1 : Nat) : Int) := fun n k hk => by
    rw [D_plane_Valid_L3]
    have e1 : decide ((k : Int) < (l.length : Int)) = true := by simp; omega
    have tu := turn_eq (N := N) (ho _ (pa_mem hi)) (ho _ (pa_mem hm)) (ho _ (pa_mem hk))
    have e2 : (l.getD (((i + 1) % l.length : Nat) : Int).toNat (0, 0)) = pa l ((i + 1) % l.length) := by rw [Int.toNat_natCast]; rfl
    rw [e1, cT, nth_pa hk]
    simp only [bS, tmod_nat, e2, tu, Option.isSome_some, Option.getD_some]
    rw [gd_of (fun _ => ⟨by omega, by omega⟩), gd_of (fun _ => True.intro), gd_of (by unfold I64; omega)]
    by_cases h : (k ≠ i ∧ k ≠ (i + 1) % l.length) ∧ trn (pa l i) (pa l ((i + 1) % l.length)) (pa l k) ≤ 0
    · rw [if_pos h]
      have e3 : (((decide ((k : Int) ≠ (i : Int))) && (decide ((k : Int) ≠ (((i + 1) % l.length : Nat) : Int)))) && (decide (trn (pa l i) (pa l ((i + 1) % l.length)) (pa l k) ≤ 0))) = true := by
        obtain ⟨⟨h1, h2⟩, h3⟩ := h
        simp only [Bool.and_eq_true, decide_eq_true_eq]
        exact ⟨⟨by omega, by omega⟩, h3⟩
      rw [e3, cT]
    · rw [if_neg h]
      have e3 : (((decide ((k : Int) ≠ (i : Int))) && (decide ((k : Int) ≠ (((i + 1) % l.length : Nat) : Int)))) && (decide (trn (pa l i) (pa l ((i + 1) % l.length)) (pa l k) ≤ 0))) = false := by
        rw [Bool.eq_false_iff]
        intro hb
        simp only [Bool.and_eq_true, decide_eq_true_eq] at hb
        exact h ⟨⟨by omega, by omega⟩, hb.2⟩
      rw [e3, cF, ns]
  have key := find0 (L := D_plane_Valid_L3 N l i (pa l i).1 (pa l i).2) (len := l.length) (fun k => if (k ≠ i ∧ k ≠ (i + 1) % l.length) ∧ trn (pa l i) (pa l ((i + 1) % l.length)) (pa l k) ≤ 0 then some false else none)
    (fun n k hk hf => by
      rw [step n k hk, if_neg]
      intro h; rw [if_pos h] at hf; cases hf) (fun n k r hk hf => by
      by_cases h : (k ≠ i ∧ k ≠ (i + 1) % l.length) ∧ trn (pa l i) (pa l ((i + 1) % l.length)) (pa l k) ≤ 0
      · rw [step n k hk, if_pos h]; rw [if_pos h] at hf; cases hf; rfl
      · rw [if_neg h] at hf; cases hf) (fun n => by
      rw [D_plane_Valid_L3]
      have e1 : decide ((l.length : Int) < (l.length : Int)) = false := by simp
      rw [e1, cF]) n (by omega)
  rcases key with ⟨e, h⟩ | ⟨j, r, a2, a3, a4, e⟩
  · rw [e, if_pos]
    intro k hk h1 h2
    have := h k hk
    rcases Int.lt_or_le 0 (trn (pa l i) (pa l ((i + 1) % l.length)) (pa l k)) with h3 | h3
    · exact h3
    · rw [if_pos ⟨⟨h1, h2⟩, h3⟩] at this; cases this
  · rw [e]
    split at a3
    · rename_i h; cases a3
      rw [if_neg]
      intro hA
      have := hA j a2 h.1.1 h.1.2
      omega
    · cases a3
open Classical in
theorem valid_eq {N : Nat} (hN : 100 ≤ N) (l : List Pt) : D_plane_Valid N l = some (vB l) := by
  unfold D_plane_Valid
  by_cases hl : l.length < 3 ∨ 8 < l.length
  · have e1 : ((decide ((l.length : Int) < 3)) || (decide (8 < (l.length : Int)))) = true := by simp; omega
    have e2 : vB l = false := vB_f.2 fun h => by have := h.l3; have := h.l8; omega
    simp only [e1, Bool.not_true, Bool.false_eq_true, Bool.true_or, cT, e2]
    rw [gd_of (fun h => by simp at h)]
  have e1 : ((decide ((l.length : Int) < 3)) || (decide (8 < (l.length : Int)))) = false := by simp; omega
  rw [gd_of (fun _ => by rw [off_eq hN (by omega)]; rfl), off_eq hN (by omega)]
  simp only [e1, Bool.false_or, Option.getD_some]
  by_cases ho : ∃ p ∈ l, ¬ On p
  · rw [show decide (∃ p ∈ l, ¬ On p) = true from by simpa using ho, cT]
    have e2 : vB l = false := vB_f.2 fun h => by obtain ⟨p, hp, hn⟩ := ho; exact hn (h.on p hp)
    rw [e2]
  rw [show decide (∃ p ∈ l, ¬ On p) = false from by simpa using ho, cF]
  have hon : ∀ p ∈ l, On p := fun p hp => by
    by_cases h : On p
    · exact h
    · exact absurd ⟨p, hp, h⟩ ho
  have hs : ∀ p ∈ l, Sml p := fun p hp => (hon p hp).sml
  have step : ∀ n (i : Nat), i < l.length → D_plane_Valid_L1 N l (n + 1) i = if ∀ k, k < l.length → k ≠ i → k ≠ (i + 1) % l.length → 0 < trn (pa l i) (pa l ((i + 1) % l.length)) (pa l k) then D_plane_Valid_L1 N l n ((i + 1 : Nat) : Int) else some (.inr false) := fun n i hi => by
    rw [D_plane_Valid_L1]
    have e1 : decide ((i : Int) < (l.length : Int)) = true := by simp; omega
    rw [e1, cT, nth_pa hi]
    simp only [bS]
    rw [gd_of (by unfold I64; omega), gd_of (by omega), valid_L3 (by omega) hs hi N (by omega)]
    split
    · simp only [bS]
      rw [gd_of (by unfold I64; omega), ns]
    · simp only [bS]
  have key := find0 (L := D_plane_Valid_L1 N l) (len := l.length) (fun i => if ∀ k, k < l.length → k ≠ i → k ≠ (i + 1) % l.length → 0 < trn (pa l i) (pa l ((i + 1) % l.length)) (pa l k) then none else some false)
    (fun n k hk hf => by
      rw [step n k hk]
      split
      · rfl
      · rename_i h; simp [if_neg h] at hf) (fun n k r hk hf => by
      rw [step n k hk]
      split
      · rename_i h; rw [if_pos h] at hf; cases hf
      · rename_i h; rw [if_neg h] at hf; cases hf; rfl) (fun n => by
      rw [D_plane_Valid_L1]
      have e1 : decide ((l.length : Int) < (l.length : Int)) = false := by simp
      rw [e1, cF]) N (by omega)
  rcases key with ⟨e, h⟩ | ⟨j, r, a2, a3, a4, e⟩
  · rw [e]
    simp only [bS]
    congr 1
    symm
    refine vB_t.2 ⟨by omega, by omega, hon, fun i k hi hk n1 n2 => ?_⟩
    have := h i hi
    split at this
    · rename_i h; exact h k hk n1 n2
    · cases this
  · rw [e]
    simp only [bS]
    split at a3
    · cases a3
    · rename_i h; cases a3
      congr 1
      symm
      exact vB_f.2 fun hv => h fun k hk n1 n2 => hv.cv j k a2 hk n1 n2
theorem valid_t {N : Nat} (hN : 100 ≤ N) {l : List Pt} (h : VP l) : D_plane_Valid N l = some true := by rw [valid_eq hN, vB_t.2 h]
end Go.Proofs.Ytojciffnkbfbhaa.Am
