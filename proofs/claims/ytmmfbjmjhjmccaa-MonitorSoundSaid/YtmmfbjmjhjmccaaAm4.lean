/-
  The abstract machine, part 4: stores, arrays made and grown, arrays given up.
-/
import Derived.Test.YtmmfbjmjhjmccaaAm3
namespace Go.Proofs.Ytmmfbjmjhjmccaa.Am
set_option linter.unusedSimpArgs false
set_option linter.unusedVariables false
open Go

def nmOf : Loc → Bool × Nm
  | .c n _ => (false, n)
  | .a n => (true, n)

theorem Owns.M {σ : Cf} {hp : Hp} (h : HInv σ hp) {p : Bool × Nm} {b : Nat} (ho : Owns σ hp p b) : σ.M b ∧ σ.al p.2 := by
  rcases ho with ⟨h1, h2, j, c, hc⟩ | ⟨h1, ⟨sz, rows, d, hc⟩, o, cap, h3, h4⟩
  · have := h.cel _ j c hc
    exact ⟨h2 ▸ this.2.1, this.1⟩
  · obtain ⟨g1, _, _, k⟩ := h.arr _ sz true rows d hc
    refine ⟨?_, g1⟩
    rcases k with ⟨a, k1, _⟩ | ⟨b', o', cap', k1, k2, k3, k4, k5, k6⟩
    · rw [h3] at k1
      have := congrArg Prod.snd k1
      simp at this; omega
    · rw [h3] at k1
      have := congrArg Prod.fst k1
      simp at this
      rw [this.1]
      exact (k5 rfl).1

/-- One name's memory is changed; all else is kept. -/
theorem HInv.upd {σ σ' : Cf} {hp hp' : Hp} (h : HInv σ hp) (e : Evo σ σ') (p : Bool × Nm)
    (hM : ∀ x, σ.M x → ¬ Owns σ hp p x → σ'.M x ∧ σ'.w.heap[x]? = σ.w.heap[x]?)
    (hkey : ∀ l, nmOf l ≠ p → hl hp' l = hl hp l)
    (hra : ∀ n, (true, n) ≠ p → σ.al n → σ'.ra n = σ.ra n)
    (hln : ∀ n, σ'.ln n = lenOf hp' n)
    (hcel : ∀ n j c, p = (false, n) → hl hp' (.c n j) = some c → CelF σ' n j c)
    (harr : ∀ n sz live rows d, p = (true, n) → hl hp' (.a n) = some (.sl sz live rows d) → ArrF σ' n sz live rows)
    (hinj : ∀ x, Owns σ' hp' p x → Owns σ hp p x ∨ σ.w.heap.size ≤ x)
    (hlt : ∀ b, σ'.M b → b < σ'.w.heap.size) (hsz : σ.w.heap.size ≤ σ'.w.heap.size) (hdis : ∀ b, σ'.M b → ¬ σ.M b → σ.w.heap.size ≤ b) : HInv σ' hp' := by
  have hother : ∀ q x, q ≠ p → Owns σ hp q x → ¬ Owns σ hp p x := fun q x hq h1 h2 => hq (h.inj q p x h1 h2)
  have hback : ∀ q x, q ≠ p → Owns σ' hp' q x → Owns σ hp q x := by
    rintro ⟨k, m⟩ x hq ho
    rcases ho with ⟨h1, h2, j, c, hc⟩ | ⟨h1, ⟨sz, rows, d, hc⟩, o, cap, h3, h4⟩
    · simp only at h1 h2 hc
      subst h1
      rw [hkey (.c m j) hq] at hc
      have k := h.cel m j c hc
      exact .inl ⟨rfl, by rw [← h2]; exact (e.box m k.1).2.symm, j, c, hc⟩
    · simp only at h1 hc h3
      subst h1
      rw [hkey (.a m) hq] at hc
      have k := h.arr m sz true rows d hc
      rw [hra m hq k.1] at h3
      exact .inr ⟨rfl, ⟨sz, rows, d, hc⟩, o, cap, h3, h4⟩
  refine ⟨hln, fun n j c hc => ?_, fun n sz live rows d hc => ?_, fun q r x hq hr => ?_, hlt, fun b hb => by rw [e.out] at hb; exact Nat.lt_of_lt_of_le (h.ou b hb) hsz, fun b hb hO => ?_⟩
  rotate_left 3
  · rw [e.out] at hO
    by_cases hm : σ.M b
    · exact h.dis b hm hO
    · have := hdis b hb hm; have := h.ou b hO; omega
  · by_cases hp : (false, n) = p
    · exact hcel n j c hp.symm hc
    · rw [hkey (.c n j) hp] at hc
      have k := h.cel n j c hc
      have ho : Owns σ _ (false, n) (σ.rb n) := .inl ⟨rfl, rfl, j, c, hc⟩
      obtain ⟨g1, g2⟩ := hM _ k.2.1 (hother _ _ hp ho)
      exact k.keep e g1 g2
  · by_cases hp : (true, n) = p
    · exact harr n sz live rows d hp.symm hc
    · rw [hkey (.a n) hp] at hc
      have k := h.arr n sz live rows d hc
      refine k.keep e (hra n hp k.1) fun hl b o cap h1 h2 h3 => ?_
      subst hl
      exact hM b h3 (hother _ _ hp (.inr ⟨rfl, ⟨sz, rows, d, hc⟩, o, cap, h1, h2⟩))
  · by_cases hqp : q = p <;> by_cases hrp : r = p
    · rw [hqp, hrp]
    · subst hqp
      have h2 := hback r x hrp hr
      rcases hinj x hq with h1 | h1
      · exact h.inj _ _ x h1 h2
      · have := h.lt x (h2.M h).1; omega
    · subst hrp
      have h2 := hback q x hqp hq
      rcases hinj x hr with h1 | h1
      · exact h.inj _ _ x h2 h1
      · have := h.lt x (h2.M h).1; omega
    · exact h.inj q r x (hback q x hqp hq) (hback r x hrp hr)

/-- Cells xs laid into block b from o on. -/
def putAt (w : World) (b : Nat) : Nat → List Value → World
  | _, [] => w
  | o, x :: xs => putAt (w.setCell ⟨b, o, none⟩ x) b (o + 1) xs

theorem size_putAt {b : Nat} : ∀ (xs : List Value) (o : Nat) (w : World), (putAt w b o xs).heap.size = w.heap.size
  | [], _, _ => rfl
  | x :: xs, o, w => by simp [putAt, size_putAt xs (o + 1)]

theorem heap_setCell_other {w : World} {a : Addr} {x : Value} {b : Nat} (h : b ≠ a.block) : (w.setCell a x).heap[b]? = w.heap[b]? := by
  simp [World.setCell, Array.getElem?_modify, Ne.symm h]

theorem heap_putAt_other {b c : Nat} (h : c ≠ b) : ∀ (xs : List Value) (o : Nat) (w : World), (putAt w b o xs).heap[c]? = w.heap[c]?
  | [], _, _ => rfl
  | x :: xs, o, w => by rw [putAt, heap_putAt_other h xs (o + 1), heap_setCell_other h]

theorem heap_setCell_same {w : World} {b o : Nat} {x : Value} {cs : Array Value} {T : TypeId} {f : Nat × Nat} (h : w.heap[b]? = some (.cells cs T f)) :
    (w.setCell ⟨b, o, none⟩ x).heap[b]? = some (.cells (cs.setIfInBounds o x) T f) := by
  simp [World.setCell, Array.getElem?_modify, h]

theorem heap_putAt_same {b : Nat} {T : TypeId} {f : Nat × Nat} : ∀ (xs : List Value) (o : Nat) (w : World) (cs : Array Value), w.heap[b]? = some (.cells cs T f) →
    ∃ ds : Array Value, (putAt w b o xs).heap[b]? = some (.cells ds T f) ∧ ds.size = cs.size ∧
      ∀ j, ds[j]? = if o ≤ j ∧ j < o + xs.length ∧ j < cs.size then xs[j - o]? else cs[j]?
  | [], o, w, cs, h => ⟨cs, h, rfl, fun j => by
      have : ¬ (o ≤ j ∧ j < o + ([] : List Value).length ∧ j < cs.size) := by simp; omega
      rw [if_neg this]⟩
  | x :: xs, o, w, cs, h => by
    obtain ⟨ds, h1, h2, h3⟩ := heap_putAt_same xs (o + 1) (w.setCell ⟨b, o, none⟩ x) _ (heap_setCell_same h)
    refine ⟨ds, h1, by simpa using h2, fun j => ?_⟩
    rw [h3 j]
    simp only [Array.size_setIfInBounds, List.length_cons, Array.getElem?_setIfInBounds]
    by_cases hj : o = j
    · subst hj
      by_cases hc : o < cs.size
      · simp [hc, show ¬ o + 1 ≤ o from by omega]
      · simp [hc, show ¬ o + 1 ≤ o from by omega, Array.getElem?_eq_none (Nat.le_of_not_lt hc)]
    · by_cases h1 : o + 1 ≤ j ∧ j < o + 1 + xs.length ∧ j < cs.size
      · rw [if_pos h1, if_pos (by omega)]
        have : j - o = (j - (o + 1)) + 1 := by omega
        rw [this]; simp
      · have hne : ¬ (o ≤ j ∧ j < o + (xs.length + 1) ∧ j < cs.size) := by omega
        rw [if_neg h1, if_neg hne]
        simp [hj]

theorem run_storeCells {P : Program} {b : Nat} : ∀ (xs : List Value) (o i : Nat) (w : World) (cs : Array Value) (T : TypeId), w.heap[b]? = some (.cells cs T (0, 0)) → (∀ x ∈ xs, oneC x = true) → o + i + xs.length ≤ cs.size →
    (storeCells ⟨b, o, none⟩ xs i).run P w = .ok () (putAt w b (o + i) xs)
  | [], o, i, w, cs, T, _, _, _ => by simp [storeCells, putAt]
  | x :: xs, o, i, w, cs, T, h, h1, hl => by
    have hadd : (⟨b, o, none⟩ : Addr).add i = ⟨b, o + i, none⟩ := by
      unfold Addr.add; split
      · subst_vars; rfl
      · rfl
    have hlt : o + i < cs.size := by simp at hl; omega
    have hc : w.cell? ⟨b, o + i, none⟩ = some cs[o + i] := by simp [World.cell?, h, hlt]
    have hf : w.frozen? ⟨b, o + i, none⟩ = false := by simp [World.frozen?, h]
    have hx := h1 x (by simp)
    have hr : (store ⟨b, o + i, none⟩ x).run P w = .ok () (w.setCell ⟨b, o + i, none⟩ x) := by
      cases x <;> simp [oneC] at hx <;> simp [store, Sem.run, hc, hf]
    simp only [storeCells, Sem.run_bind, hadd, hr, Result.andThen]
    rw [run_storeCells xs o (i + 1) _ _ T (heap_setCell_same h) (fun y hy => h1 y (by simp [hy])) (by simp at hl ⊢; omega)]
    simp [putAt, Nat.add_assoc]

theorem sput_keys {hp : Hp} {n : Nm} : ∀ {cs : List AV} {o : Nat} {ws : Hp}, sput hp n o cs = some ws →
    (∀ l, nmOf l ≠ (false, n) → hl ws l = none) ∧ (∀ j, hl ws (.c n j) = if o ≤ j then cs[j - o]? else none) ∧ (∀ j, j < cs.length → ∃ c, hl hp (.c n (o + j)) = some c)
  | [], o, ws, h => by
    simp [sput] at h; subst h
    exact ⟨fun _ _ => rfl, fun j => by simp [hl], fun j hj => by simp at hj⟩
  | c :: cs, o, ws, h => by
    simp only [sput] at h
    split at h
    · rename_i c0 hc0
      cases hs : sput hp n (o + 1) cs with
      | none => simp [hs] at h
      | some ws' =>
        simp [hs] at h
        subst h
        obtain ⟨h1, h2, h3⟩ := sput_keys hs
        refine ⟨fun l hl' => ?_, fun j => ?_, fun j hj => ?_⟩
        · simp only [hl]
          rw [if_neg]
          · exact h1 l hl'
          · intro e; subst e; exact hl' rfl
        · simp only [hl, Loc.c.injEq, true_and, h2]
          by_cases hj : o = j
          · subst hj; simp
          · by_cases hle : o ≤ j
            · have : j - o = (j - (o + 1)) + 1 := by omega
              simp [hj, hle, show o + 1 ≤ j from by omega, this]
            · simp [hj, hle, show ¬ o + 1 ≤ j from by omega]
        · cases j with
          | zero => exact ⟨c0, by simpa using hc0⟩
          | succ j =>
            have := h3 j (by simpa using hj)
            rwa [show o + 1 + j = o + (j + 1) from by omega] at this
    · simp at h

theorem sameO_putAt (w : World) (b : Nat) : ∀ (o : Nat) (xs : List Value), SameO w (putAt w b o xs)
  | _, [] => SameO.refl _
  | o, x :: xs => (show SameO w (w.setCell ⟨b, o, none⟩ x) from ⟨rfl, rfl⟩).trans (sameO_putAt (w.setCell ⟨b, o, none⟩ x) b (o + 1) xs)

/-- A store into a box. -/
theorem HInv.store {P : Program} {σ : Cf} {hp : Hp} (h : HInv σ hp) {n : Nm} {o : Nat} {cs : List AV} {xs : List Value} {ws : Hp} (hs : sput hp n o cs = some ws)
    (hx : RepL σ cs xs) (h1 : ∀ x ∈ xs, oneC x = true) :
    ∃ w', (storeCells ⟨σ.rb n, o, none⟩ xs).run P σ.w = .ok () w' ∧ Evo σ (σ.at w') ∧ HInv (σ.at w') (ws ++ hp) := by
  cases hcs : cs with
  | nil =>
    subst hcs
    simp [RepL] at hx; subst hx
    simp [sput] at hs; subst hs
    exact ⟨σ.w, by simp [storeCells], Evo.refl _, h⟩
  | cons c0 cs0 =>
    have hlen := repL_len hx
    obtain ⟨k1, k2, k3⟩ := sput_keys hs
    obtain ⟨c1, hc1⟩ := k3 0 (by simp [hcs])
    obtain ⟨f1, f2, ar, T, x0, f3, f4, f5, f6⟩ := h.cel n _ c1 hc1
    have hsz : o + xs.length ≤ ar.size := by
      obtain ⟨c2, hc2⟩ := k3 (cs.length - 1) (by simp [hcs])
      obtain ⟨_, _, ar2, T2, x2, g3, g4, _⟩ := h.cel n _ c2 hc2
      rw [f3] at g3; cases g3
      have := (Array.getElem?_eq_some_iff.1 g4).1
      have : 0 < cs.length := by simp [hcs]
      omega
    refine ⟨putAt σ.w (σ.rb n) o xs, ?_, ?_, ?_⟩
    · exact run_storeCells xs o 0 σ.w ar T f3 h1 (by simpa using hsz)
    · refine ⟨fun _ h => ⟨h, rfl⟩, fun _ _ l h => ⟨l, h, Nat.le_refl _, fun _ => rfl⟩, fun b x hb hM => ⟨?_, hM⟩, rfl, by simp only [Cf.at]; rw [size_putAt]; exact Nat.le_refl _, sameO_putAt _ _ _ _⟩
      have : b ≠ σ.rb n := fun e => hM (e ▸ f2)
      simp only [Cf.at]
      rw [heap_putAt_other this]; exact hb
    · have e : Evo σ (σ.at (putAt σ.w (σ.rb n) o xs)) := by
        refine ⟨fun _ h => ⟨h, rfl⟩, fun _ _ l h => ⟨l, h, Nat.le_refl _, fun _ => rfl⟩, fun b x hb hM => ⟨?_, hM⟩, rfl, by simp only [Cf.at]; rw [size_putAt]; exact Nat.le_refl _, sameO_putAt _ _ _ _⟩
        have : b ≠ σ.rb n := fun e => hM (e ▸ f2)
        simp only [Cf.at]
        rw [heap_putAt_other this]; exact hb
      obtain ⟨ds, d1, d2, d3⟩ := heap_putAt_same xs o σ.w ar f3
      have hold : Owns σ hp (false, n) (σ.rb n) := .inl ⟨rfl, rfl, _, c1, hc1⟩
      refine h.upd e (false, n) (fun x hxM hno => ⟨hxM, ?_⟩) (fun l hl' => ?_) (fun _ _ _ => rfl) (fun m => ?_) (fun m j c hm hc => ?_) (fun m sz live rows d hm hc => ?_) (fun x ho => ?_) (fun b hb => ?_) (by simp only [Cf.at]; rw [size_putAt]; exact Nat.le_refl _) (fun b hb hn => absurd hb hn)
      · have : x ≠ σ.rb n := fun e => hno (e ▸ hold)
        simp only [Cf.at]
        exact heap_putAt_other this _ _ _
      · rw [hl_app, k1 l hl']; simp
      · simp only [Cf.at, lenOf, hl_app, k1 (.a m) (by simp [nmOf])]
        simpa [lenOf] using h.ln m
      · simp only [Prod.mk.injEq, true_and] at hm; subst hm
        rw [hl_app, k2] at hc
        by_cases hin : o ≤ j ∧ j - o < cs.length
        · rw [if_pos hin.1, List.getElem?_eq_getElem hin.2] at hc
          simp at hc
          obtain ⟨x, e1, e2⟩ := repL_get hx (j - o) c (by rw [List.getElem?_eq_getElem hin.2, hc])
          refine ⟨f1, f2, ds, T, x, d1, ?_, h1 x (List.mem_of_getElem? e1), e2.mono e⟩
          rw [d3, if_pos ⟨hin.1, by omega, by omega⟩]; exact e1
        · have hnone : (if o ≤ j then cs[j - o]? else none) = none := by
            split
            · rename_i hle; simp; omega
            · rfl
          rw [hnone] at hc
          simp at hc
          obtain ⟨_, _, ar2, T2, x2, g3, g4, g5, g6⟩ := h.cel n j c hc
          rw [f3] at g3; cases g3
          refine ⟨f1, f2, ds, T, x2, d1, ?_, g5, g6.mono e⟩
          rw [d3, if_neg (by omega)]; exact g4
      · simp at hm
      · rcases ho with ⟨_, g2, _⟩ | ⟨g1, _⟩
        · left
          have : σ.rb n = x := g2
          exact this ▸ hold
        · cases g1
      · simp only [Cf.at]
        rw [size_putAt]; exact h.lt b hb
end Go.Proofs.Ytmmfbjmjhjmccaa.Am
