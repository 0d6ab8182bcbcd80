/-
  The abstract machine: a looser way from one memory to another, on which what others do is allowed.
-/
import Derived.Test.YtmmfbjmjhjmccaaAm13
namespace Go.Proofs.Ytmmfbjmjhjmccaa.Am
set_option linter.unusedSimpArgs false
set_option linter.unusedVariables false
open Go

structure Ev (σ σ' : Cf) : Prop where
  box : ∀ n, σ.al n → σ'.al n ∧ σ'.rb n = σ.rb n
  arr : ∀ n, σ.al n → ∀ l', σ'.ln n = some l' → ∃ l, σ.ln n = some l ∧ l ≤ l' ∧ (l = l' → σ'.ra n = σ.ra n)
  fz : ∀ b, Fz σ b → Fz σ' b
  cell : ∀ b o x, Fz σ b → σ.w.cell? ⟨b, o, none⟩ = some x → σ'.w.cell? ⟨b, o, none⟩ = some x

theorem Evo.ev {σ σ' : Cf} (h : Evo σ σ') : Ev σ σ' := ⟨h.box, h.arr, fun _ hb => h.fz hb, fun _ _ _ hb hc => h.cell hb.1 hc⟩
theorem Ev.refl (σ : Cf) : Ev σ σ := (Evo.refl σ).ev
theorem Ev.trans {a b c : Cf} (h : Ev a b) (k : Ev b c) : Ev a c where
  box n hn := ⟨(k.box n (h.box n hn).1).1, ((k.box n (h.box n hn).1).2).trans (h.box n hn).2⟩
  arr n hn l' hl' := by
    obtain ⟨l, h1, h2, h3⟩ := k.arr n (h.box n hn).1 l' hl'
    obtain ⟨m, g1, g2, g3⟩ := h.arr n hn l h1
    refine ⟨m, g1, Nat.le_trans g2 h2, fun e => ?_⟩
    have e1 : m = l := by omega
    have e2 : l = l' := by omega
    rw [h3 e2, g3 e1]
  fz b hb := k.fz b (h.fz b hb)
  cell b o x hb hc := k.cell b o x (h.fz b hb) (h.cell b o x hb hc)

mutual
theorem Rep.monoE {σ σ' : Cf} (h : Ev σ σ') : ∀ (a : AV) (v : Value), Rep σ a v → Rep σ' a v
  | .v x, v, hr => by simpa [Rep] using hr
  | .sl sz full rows _, v, hr => by
    simp only [Rep] at hr ⊢
    obtain ⟨base, cap, h1, h2, h3, hp, h4⟩ := hr
    refine ⟨base, cap, h1, h2, h3, hp, ?_⟩
    rcases h4 with h4 | ⟨b, o, h5, h6, h7⟩
    · exact .inl h4
    · exact .inr ⟨b, o, h5, h.fz b h6, RepRows.monoE h sz b h6 rows o h7⟩
  | .ro cells off, v, hr => by
    simp only [Rep] at hr ⊢
    obtain ⟨b, o, h1, h2, hp, h3⟩ := hr
    exact ⟨b, o, h1, h.fz b h2, hp, RepCells.monoE h b h2 cells o h3⟩
  | .agg cs, v, hr => by
    simp only [Rep] at hr ⊢
    obtain ⟨xs, h1, h2, h3⟩ := hr
    exact ⟨xs, h1, h2, RepL.monoE h cs xs h3⟩
  | .tup cs, v, hr => by
    simp only [Rep] at hr ⊢
    obtain ⟨xs, h1, h3⟩ := hr
    exact ⟨xs, h1, RepL.monoE h cs xs h3⟩
  | .clo fn first caps, v, hr => by
    simp only [Rep] at hr ⊢
    obtain ⟨xs, ys, h1, h2, h3⟩ := hr
    exact ⟨xs, ys, h1, RepL.monoE h first xs h2, RepL.monoE h caps ys h3⟩
  | .box n off, v, hr => by
    simp only [Rep] at hr ⊢
    obtain ⟨h1, h2⟩ := h.box n hr.1
    exact ⟨h1, by rw [h2]; exact hr.2⟩
  | .own n len, v, hr => by
    simp only [Rep] at hr ⊢
    refine ⟨(h.box n hr.1).1, hr.2.1, fun l' hl' => ?_⟩
    obtain ⟨l, g1, g2, g3⟩ := h.arr n hr.1 l' hl'
    obtain ⟨k1, k2⟩ := hr.2.2 l g1
    refine ⟨by omega, fun e => ?_⟩
    have e1 : l = l' := by omega
    rw [g3 e1]; exact k2 (by omega)
  | .elem n len sz i off, v, hr => by
    simp only [Rep] at hr ⊢
    refine ⟨(h.box n hr.1).1, hr.2.1, fun l' hl' => ?_⟩
    obtain ⟨l, g1, g2, g3⟩ := h.arr n hr.1 l' hl'
    obtain ⟨k1, k2⟩ := hr.2.2 l g1
    refine ⟨by omega, fun e => ?_⟩
    have e1 : l = l' := by omega
    rw [g3 e1]; exact k2 (by omega)
  | .gd b x, v, hr => by
    simp only [Rep] at hr ⊢
    exact ⟨fun hb => Rep.monoE h x v (hr.1 hb), hr.2⟩
  | .un, _, _ => by simp [Rep]
theorem RepCells.monoE {σ σ' : Cf} (h : Ev σ σ') (b : Nat) (hM : Fz σ b) : ∀ (cs : List AV) (o : Nat), RepCells σ b o cs → RepCells σ' b o cs
  | [], _, _ => by simp [RepCells]
  | c :: cs, o, hr => by
    simp only [RepCells] at hr ⊢
    obtain ⟨⟨x, h1, h2, h3⟩, h4⟩ := hr
    exact ⟨⟨x, h.cell b _ _ hM h1, h2, Rep.monoE h c x h3⟩, RepCells.monoE h b hM cs (o + 1) h4⟩
theorem RepRows.monoE {σ σ' : Cf} (h : Ev σ σ') (sz b : Nat) (hM : Fz σ b) : ∀ (rs : List (List AV)) (o : Nat), RepRows σ sz b o rs → RepRows σ' sz b o rs
  | [], _, _ => by simp [RepRows]
  | r :: rs, o, hr => by
    simp only [RepRows] at hr ⊢
    exact ⟨hr.1, RepCells.monoE h b hM r o hr.2.1, RepRows.monoE h sz b hM rs (o + sz) hr.2.2⟩
theorem RepL.monoE {σ σ' : Cf} (h : Ev σ σ') : ∀ (cs : List AV) (xs : List Value), RepL σ cs xs → RepL σ' cs xs
  | [], xs, hr => by simpa [RepL] using hr
  | c :: cs, xs, hr => by
    simp only [RepL] at hr ⊢
    obtain ⟨y, ys, h1, h2, h3⟩ := hr
    exact ⟨y, ys, h1, Rep.monoE h c y h2, RepL.monoE h cs ys h3⟩
end
theorem RepCells.keepE {σ σ' : Cf} (h : Ev σ σ') {b o : Nat} {cs : List AV} (hc : RepCells σ b o cs)
    (hm : ∀ j x, j < cs.length → σ.w.cell? ⟨b, o + j, none⟩ = some x → σ'.w.cell? ⟨b, o + j, none⟩ = some x) : RepCells σ' b o cs :=
  repCells_of fun j c hj => by
    obtain ⟨x, h1, h2, h3⟩ := repCells_get hc j c hj
    exact ⟨x, hm j x (List.getElem?_eq_some_iff.1 hj).1 h1, h2, h3.monoE h⟩

theorem RepRows.keepE {σ σ' : Cf} (h : Ev σ σ') {sz b o : Nat} {rs : List (List AV)} (hc : RepRows σ sz b o rs)
    (hm : ∀ j x, j < rs.length * sz → σ.w.cell? ⟨b, o + j, none⟩ = some x → σ'.w.cell? ⟨b, o + j, none⟩ = some x) : RepRows σ' sz b o rs :=
  repRows_of fun i r hi => by
    obtain ⟨h1, h2⟩ := repRows_get hc i r hi
    refine ⟨h1, h2.keepE h fun j x hj hx => ?_⟩
    have hi' := (List.getElem?_eq_some_iff.1 hi).1
    have hlt : i * sz + j < rs.length * sz := by
      have : (i + 1) * sz ≤ rs.length * sz := Nat.mul_le_mul_right _ (by omega)
      rw [Nat.succ_mul] at this
      omega
    have := hm (i * sz + j) x hlt (by rwa [← Nat.add_assoc])
    rwa [← Nat.add_assoc] at this

theorem CelF.keepE {σ σ' : Cf} (h : Ev σ σ') {n : Nm} {j : Nat} {c : AV} (k : CelF σ n j c) (hM : σ'.M (σ.rb n)) (hw : σ'.w.heap[σ.rb n]? = σ.w.heap[σ.rb n]?) : CelF σ' n j c := by
  obtain ⟨h1, h2, cs, T, x, h3, h4, h5, h6⟩ := k
  obtain ⟨g1, g2⟩ := h.box n h1
  refine ⟨g1, by rw [g2]; exact hM, cs, T, x, by rw [g2, hw]; exact h3, h4, h5, h6.monoE h⟩

theorem ArrF.keepE {σ σ' : Cf} (h : Ev σ σ') {n : Nm} {sz : Nat} {live : Bool} {rows : List (List AV)} (k : ArrF σ n sz live rows) (hra : σ'.ra n = σ.ra n)
    (hM : live = true → ∀ b o cap, σ.ra n = (some ⟨b, o, none⟩, cap) → 0 < cap → σ.M b → σ'.M b ∧ σ'.w.heap[b]? = σ.w.heap[b]?) : ArrF σ' n sz live rows := by
  obtain ⟨h1, h2, hp, h3⟩ := k
  refine ⟨(h.box n h1).1, h2, hp, ?_⟩
  rcases h3 with ⟨a, h3, h4⟩ | ⟨b, o, cap, h3, h4, h5, h6, h7, h8⟩
  · exact .inl ⟨a, by rw [hra]; exact h3, h4⟩
  · refine .inr ⟨b, o, cap, by rw [hra]; exact h3, h4, h5, ?_, ?_, fun e => h.fz _ (h8 e)⟩
    · cases live with
      | true =>
        obtain ⟨g1, _⟩ := h7 rfl
        exact h6.keepE h fun j x _ hx => by rw [cell_of_heap (hM rfl b o cap h3 h4 g1).2]; exact hx
      | false => exact h6.monoE h _ _ (h8 rfl)
    · intro e
      obtain ⟨g1, cs, T, g2, g3⟩ := h7 e
      obtain ⟨k1, k2⟩ := hM e b o cap h3 h4 g1
      exact ⟨k1, cs, T, by rw [k2]; exact g2, g3⟩


/-- Others have done something; what is ours is as it was. -/
structure Oth (σ σ' : Cf) : Prop where
  rb : σ'.rb = σ.rb
  ra : σ'.ra = σ.ra
  ln : σ'.ln = σ.ln
  al : σ'.al = σ.al
  M : σ'.M = σ.M
  ou : ∀ b, σ'.O b → b < σ'.w.heap.size ∧ ¬ σ.M b ∧ ¬ Fz σ b
  sz : σ.w.heap.size ≤ σ'.w.heap.size
  mem : ∀ b, σ.M b → σ'.w.heap[b]? = σ.w.heap[b]?
  fro : ∀ b o x, Fz σ b → σ.w.cell? ⟨b, o, none⟩ = some x → σ'.w.cell? ⟨b, o, none⟩ = some x
  io : SameO σ.w σ'.w

theorem Oth.ev {σ σ' : Cf} (h : Oth σ σ') : Ev σ σ' where
  box n hn := by rw [h.al, h.rb]; exact ⟨hn, rfl⟩
  arr n hn l hl' := by rw [h.ln] at hl'; rw [h.ra]; exact ⟨l, hl', Nat.le_refl _, fun _ => rfl⟩
  fz b hb := ⟨by rw [h.M]; exact hb.1, fun hO => (h.ou b hO).2.2 hb, Nat.lt_of_lt_of_le hb.2.2 h.sz⟩
  cell := h.fro

theorem HInv.oth {σ σ' : Cf} {hp : Hp} (h : HInv σ hp) (k : Oth σ σ') : HInv σ' hp where
  ln n := by rw [k.ln]; exact h.ln n
  cel n j c hc := by
    have kk := h.cel n j c hc
    exact kk.keepE k.ev (by rw [k.M]; exact kk.2.1) (k.mem _ kk.2.1)
  arr n sz live rows d hc := (h.arr n sz live rows d hc).keepE k.ev (by rw [k.ra]) fun _ b _ _ _ _ hM => ⟨by rw [k.M]; exact hM, k.mem b hM⟩
  inj p q b hp hq := h.inj p q b (by simpa only [Owns, k.rb, k.ra] using hp) (by simpa only [Owns, k.rb, k.ra] using hq)
  lt b hb := by rw [k.M] at hb; exact Nat.lt_of_lt_of_le (h.lt b hb) k.sz
  ou b hb := (k.ou b hb).1
  dis b hb hO := (k.ou b hO).2.1 (by rw [k.M] at hb; exact hb)

theorem TInv.ev {σ σ' : Cf} {env : Env} {a : Act} (h : TInv σ env a) (k : Ev σ σ') : TInv σ' env a := fun t => (h t).monoE k
end Go.Proofs.Ytmmfbjmjhjmccaa.Am
