/-
  The abstract machine, part 3: what holds of memory, and how it is kept by each thing that is done to it.
-/
import Derived.Test.YtmmfbjmjhjmccaaAm2
namespace Go.Proofs.Ytmmfbjmjhjmccaa.Am
set_option linter.unusedSimpArgs false
set_option linter.unusedVariables false
open Go

theorem repL_len {σ : Cf} : ∀ {cs : List AV} {xs : List Value}, RepL σ cs xs → xs.length = cs.length
  | [], xs, h => by simp [RepL] at h; simp [h]
  | c :: cs, xs, h => by
    simp only [RepL] at h
    obtain ⟨y, ys, rfl, _, h3⟩ := h
    simp [repL_len h3]

theorem repL_get {σ : Cf} : ∀ {cs : List AV} {xs : List Value}, RepL σ cs xs → ∀ (i : Nat) (c : AV), cs[i]? = some c → ∃ x, xs[i]? = some x ∧ Rep σ c x
  | [], xs, h, i, c, hc => by simp at hc
  | c :: cs, xs, h, i, c', hc => by
    simp only [RepL] at h
    obtain ⟨y, ys, rfl, h2, h3⟩ := h
    cases i with
    | zero => simp at hc; subst hc; exact ⟨y, by simp, h2⟩
    | succ i => simpa using repL_get h3 i c' (by simpa using hc)

theorem repL_of {σ : Cf} : ∀ {cs : List AV} {xs : List Value}, xs.length = cs.length → (∀ (i : Nat) (c : AV), cs[i]? = some c → ∃ x, xs[i]? = some x ∧ Rep σ c x) → RepL σ cs xs
  | [], xs, h, _ => by simp at h; simp [RepL, h]
  | c :: cs, [], h, _ => by simp at h
  | c :: cs, x :: xs, h, hg => by
    simp only [RepL]
    refine ⟨x, xs, rfl, ?_, repL_of (by simpa using h) fun i c' hc => ?_⟩
    · obtain ⟨y, h1, h2⟩ := hg 0 c (by simp)
      simp at h1; subst h1; exact h2
    · simpa using hg (i + 1) c' (by simpa using hc)

theorem repL_app {σ : Cf} : ∀ {cs ds : List AV} {xs ys : List Value}, RepL σ cs xs → RepL σ ds ys → RepL σ (cs ++ ds) (xs ++ ys)
  | [], ds, xs, ys, h, k => by simp [RepL] at h; simpa [h] using k
  | c :: cs, ds, xs, ys, h, k => by
    simp only [RepL] at h
    obtain ⟨y, zs, rfl, h2, h3⟩ := h
    simp only [List.cons_append, RepL]
    exact ⟨y, zs ++ ys, rfl, h2, repL_app h3 k⟩

theorem repCells_get {σ : Cf} {b : Nat} : ∀ {cs : List AV} {o : Nat}, RepCells σ b o cs → ∀ (j : Nat) (c : AV), cs[j]? = some c →
    ∃ x, σ.w.cell? ⟨b, o + j, none⟩ = some x ∧ oneC x = true ∧ Rep σ c x
  | [], _, _, j, c, hc => by simp at hc
  | c :: cs, o, h, j, c', hc => by
    simp only [RepCells] at h
    obtain ⟨h1, h2⟩ := h
    cases j with
    | zero => simp at hc; subst hc; simpa using h1
    | succ j =>
      have := repCells_get h2 j c' (by simpa using hc)
      rwa [show o + 1 + j = o + (j + 1) from by omega] at this

theorem repCells_of {σ : Cf} {b : Nat} : ∀ {cs : List AV} {o : Nat}, (∀ (j : Nat) (c : AV), cs[j]? = some c →
    ∃ x, σ.w.cell? ⟨b, o + j, none⟩ = some x ∧ oneC x = true ∧ Rep σ c x) → RepCells σ b o cs
  | [], _, _ => by simp [RepCells]
  | c :: cs, o, h => by
    simp only [RepCells]
    refine ⟨by simpa using h 0 c (by simp), repCells_of fun j c' hc => ?_⟩
    have := h (j + 1) c' (by simpa using hc)
    rwa [show o + (j + 1) = o + 1 + j from by omega] at this

theorem repRows_get {σ : Cf} {sz b : Nat} : ∀ {rs : List (List AV)} {o : Nat}, RepRows σ sz b o rs → ∀ (i : Nat) (r : List AV), rs[i]? = some r →
    r.length = sz ∧ RepCells σ b (o + i * sz) r
  | [], _, _, i, r, hr => by simp at hr
  | r :: rs, o, h, i, r', hr => by
    simp only [RepRows] at h
    cases i with
    | zero => simp at hr; subst hr; simpa using ⟨h.1, h.2.1⟩
    | succ i =>
      have := repRows_get h.2.2 i r' (by simpa using hr)
      rwa [show o + sz + i * sz = o + (i + 1) * sz from by rw [Nat.succ_mul]; omega] at this

theorem repRows_of {σ : Cf} {sz b : Nat} : ∀ {rs : List (List AV)} {o : Nat}, (∀ (i : Nat) (r : List AV), rs[i]? = some r →
    r.length = sz ∧ RepCells σ b (o + i * sz) r) → RepRows σ sz b o rs
  | [], _, _ => by simp [RepRows]
  | r :: rs, o, h => by
    simp only [RepRows]
    have h0 := h 0 r (by simp)
    refine ⟨h0.1, by simpa using h0.2, repRows_of fun i r' hr => ?_⟩
    have := h (i + 1) r' (by simpa using hr)
    rwa [show o + (i + 1) * sz = o + sz + i * sz from by rw [Nat.succ_mul]; omega] at this

/-- Cells stay what they were: the same memory, values that are kept. -/
theorem RepCells.keep {σ σ' : Cf} (h : Evo σ σ') {b o : Nat} {cs : List AV} (hc : RepCells σ b o cs)
    (hm : ∀ j x, j < cs.length → σ.w.cell? ⟨b, o + j, none⟩ = some x → σ'.w.cell? ⟨b, o + j, none⟩ = some x) : RepCells σ' b o cs :=
  repCells_of fun j c hj => by
    obtain ⟨x, h1, h2, h3⟩ := repCells_get hc j c hj
    exact ⟨x, hm j x (List.getElem?_eq_some_iff.1 hj).1 h1, h2, h3.mono h⟩

theorem RepRows.keep {σ σ' : Cf} (h : Evo σ σ') {sz b o : Nat} {rs : List (List AV)} (hc : RepRows σ sz b o rs)
    (hm : ∀ j x, j < rs.length * sz → σ.w.cell? ⟨b, o + j, none⟩ = some x → σ'.w.cell? ⟨b, o + j, none⟩ = some x) : RepRows σ' sz b o rs :=
  repRows_of fun i r hi => by
    obtain ⟨h1, h2⟩ := repRows_get hc i r hi
    refine ⟨h1, h2.keep h fun j x hj hx => ?_⟩
    have hi' := (List.getElem?_eq_some_iff.1 hi).1
    have hlt : i * sz + j < rs.length * sz := by
      have : (i + 1) * sz ≤ rs.length * sz := Nat.mul_le_mul_right _ (by omega)
      rw [Nat.succ_mul] at this
      omega
    have := hm (i * sz + j) x hlt (by rwa [← Nat.add_assoc])
    rwa [← Nat.add_assoc] at this

def lenOf (hp : Hp) (n : Nm) : Option Nat :=
  match hl hp (.a n) with
  | some (.sl _ _ rows _) => some rows.length
  | _ => none

/-- The fact about one cell. -/
def CelF (σ : Cf) (n : Nm) (j : Nat) (c : AV) : Prop :=
  σ.al n ∧ σ.M (σ.rb n) ∧ ∃ cs T x, σ.w.heap[σ.rb n]? = some (.cells cs T (0, 0)) ∧ cs[j]? = some x ∧ oneC x = true ∧ Rep σ c x

/-- The fact about one array. -/
def ArrF (σ : Cf) (n : Nm) (sz : Nat) (live : Bool) (rows : List (List AV)) : Prop :=
  σ.al n ∧ 0 < sz ∧ (∀ r ∈ rows, pureL r = true) ∧ ((∃ a, σ.ra n = (a, 0) ∧ rows = []) ∨ ∃ b o cap, σ.ra n = (some ⟨b, o, none⟩, cap) ∧ 0 < cap ∧ rows.length ≤ cap ∧ RepRows σ sz b o rows ∧
    (live = true → σ.M b ∧ ∃ cs T, σ.w.heap[b]? = some (.cells cs T (0, 0)) ∧ o + cap * sz ≤ cs.size) ∧ (live = false → Fz σ b))

/-- Who writes a block. -/
def Owns (σ : Cf) (hp : Hp) (p : Bool × Nm) (b : Nat) : Prop :=
  (p.1 = false ∧ σ.rb p.2 = b ∧ ∃ j c, hl hp (.c p.2 j) = some c) ∨
  (p.1 = true ∧ (∃ sz rows d, hl hp (.a p.2) = some (.sl sz true rows d)) ∧ ∃ o cap, σ.ra p.2 = (some ⟨b, o, none⟩, cap) ∧ 0 < cap)

structure HInv (σ : Cf) (hp : Hp) : Prop where
  ln : ∀ n, σ.ln n = lenOf hp n
  cel : ∀ n j c, hl hp (.c n j) = some c → CelF σ n j c
  arr : ∀ n sz live rows d, hl hp (.a n) = some (.sl sz live rows d) → ArrF σ n sz live rows
  inj : ∀ p q b, Owns σ hp p b → Owns σ hp q b → p = q
  lt : ∀ b, σ.M b → b < σ.w.heap.size
  ou : ∀ b, σ.O b → b < σ.w.heap.size
  dis : ∀ b, σ.M b → ¬ σ.O b

theorem CelF.keep {σ σ' : Cf} (h : Evo σ σ') {n : Nm} {j : Nat} {c : AV} (k : CelF σ n j c) (hM : σ'.M (σ.rb n)) (hw : σ'.w.heap[σ.rb n]? = σ.w.heap[σ.rb n]?) : CelF σ' n j c := by
  obtain ⟨h1, h2, cs, T, x, h3, h4, h5, h6⟩ := k
  obtain ⟨g1, g2⟩ := h.box n h1
  refine ⟨g1, by rw [g2]; exact hM, cs, T, x, by rw [g2, hw]; exact h3, h4, h5, h6.mono h⟩

theorem cell_of_heap {w w' : World} {b : Nat} (h : w'.heap[b]? = w.heap[b]?) (o : Nat) : w'.cell? ⟨b, o, none⟩ = w.cell? ⟨b, o, none⟩ := by
  simp [World.cell?, h]

theorem ArrF.keep {σ σ' : Cf} (h : Evo σ σ') {n : Nm} {sz : Nat} {live : Bool} {rows : List (List AV)} (k : ArrF σ n sz live rows) (hra : σ'.ra n = σ.ra n)
    (hM : live = true → ∀ b o cap, σ.ra n = (some ⟨b, o, none⟩, cap) → 0 < cap → σ.M b → σ'.M b ∧ σ'.w.heap[b]? = σ.w.heap[b]?) : ArrF σ' n sz live rows := by
  obtain ⟨h1, h2, hp, h3⟩ := k
  refine ⟨(h.box n h1).1, h2, hp, ?_⟩
  rcases h3 with ⟨a, h3, h4⟩ | ⟨b, o, cap, h3, h4, h5, h6, h7, h8⟩
  · exact .inl ⟨a, by rw [hra]; exact h3, h4⟩
  · refine .inr ⟨b, o, cap, by rw [hra]; exact h3, h4, h5, ?_, ?_, fun e => h.fz (h8 e)⟩
    · cases live with
      | true =>
        obtain ⟨g1, _⟩ := h7 rfl
        exact h6.keep h fun j x _ hx => by rw [cell_of_heap (hM rfl b o cap h3 h4 g1).2]; exact hx
      | false => exact h6.mono h _ _ (h8 rfl).1
    · intro e
      obtain ⟨g1, cs, T, g2, g3⟩ := h7 e
      obtain ⟨k1, k2⟩ := hM e b o cap h3 h4 g1
      exact ⟨k1, cs, T, by rw [k2]; exact g2, g3⟩

theorem hl_app (xs ys : Hp) (l : Loc) : hl (xs ++ ys) l = (hl xs l).or (hl ys l) := by
  induction xs with
  | nil => simp [hl]
  | cons x xs ih =>
    obtain ⟨k, v⟩ := x
    simp only [List.cons_append, hl]
    split
    · simp
    · exact ih

theorem hl_newc (n m : Nm) : ∀ (cs : List AV) (o j : Nat), hl (newc n o cs) (.c m j) = if m = n ∧ o ≤ j then cs[j - o]? else none
  | [], o, j => by simp [newc, hl]
  | c :: cs, o, j => by
    simp only [newc, hl, Loc.c.injEq]
    rw [hl_newc n m cs (o + 1) j]
    by_cases hn : n = m
    · subst hn
      by_cases hj : o = j
      · subst hj; simp
      · by_cases hle : o ≤ j
        · have : j - o = (j - (o + 1)) + 1 := by omega
          rw [this]
          simp [hj, hle, show o + 1 ≤ j from by omega]
        · simp [hj, hle, show ¬ o + 1 ≤ j from by omega]
    · simp [hn, Ne.symm hn]

theorem hl_newc_a (n m : Nm) : ∀ (cs : List AV) (o : Nat), hl (newc n o cs) (.a m) = none
  | [], o => by simp [newc, hl]
  | c :: cs, o => by simp [newc, hl, hl_newc_a n m cs (o + 1)]

theorem heap_alloc_lt {w : World} {o : Obj} {b : Nat} (h : b < w.heap.size) : (w.alloc o).heap[b]? = w.heap[b]? := by
  show (w.heap.push o)[b]? = _
  rw [Array.getElem?_push, if_neg (Nat.ne_of_lt h)]
theorem heap_alloc_new {w : World} {o : Obj} : (w.alloc o).heap[w.heap.size]? = some o := by
  show (w.heap.push o)[w.heap.size]? = _
  simp

/-- Memory when nothing but the draws has changed, or blocks that are nobody's are new. -/
def Cf.at (σ : Cf) (w : World) : Cf := { σ with w := w }

/-- New blocks that nobody writes. -/
theorem size_le {w w' : World} (hw : ∀ (b : Nat) (o : Obj), w.heap[b]? = some o → w'.heap[b]? = some o) : w.heap.size ≤ w'.heap.size := by
  rcases Nat.lt_or_ge w'.heap.size w.heap.size with h | h
  · have := hw w'.heap.size _ (Array.getElem?_eq_getElem h)
    have := (Array.getElem?_eq_some_iff.1 this).1
    omega
  · exact h
theorem Evo.at {σ : Cf} {w : World} (hw : ∀ (b : Nat) (o : Obj), σ.w.heap[b]? = some o → w.heap[b]? = some o) (ho : SameO σ.w w) : Evo σ (σ.at w) :=
  ⟨fun _ h => ⟨h, rfl⟩, fun _ _ l h => ⟨l, h, Nat.le_refl _, fun _ => rfl⟩, fun _ _ h h' => ⟨hw _ _ h, h'⟩, rfl, size_le hw, ho⟩

theorem HInv.at {σ : Cf} {hp : Hp} {w : World} (h : HInv σ hp) (hw : ∀ (b : Nat) (o : Obj), σ.w.heap[b]? = some o → w.heap[b]? = some o) (ho : SameO σ.w w) : HInv (σ.at w) hp := by
  have e := Evo.at hw ho
  have hs : ∀ b, σ.M b → w.heap[b]? = σ.w.heap[b]? := fun b hb => by
    have := Array.getElem?_eq_getElem (h.lt b hb)
    rw [hw b _ this, this]
  refine ⟨h.ln, fun n j c hc => ?_, fun n sz live rows d hc => ?_, h.inj, fun b hb => ?_, fun b hb => ?_, h.dis⟩
  · have k := h.cel n j c hc
    exact k.keep e k.2.1 (hs _ k.2.1)
  · exact (h.arr n sz live rows d hc).keep e rfl fun _ b _ _ _ _ hM => ⟨hM, hs b hM⟩
  · have := Array.getElem?_eq_getElem (h.lt b hb)
    exact (Array.getElem?_eq_some_iff.1 (hw b _ this)).1
  · have := Array.getElem?_eq_getElem (h.ou b hb)
    exact (Array.getElem?_eq_some_iff.1 (hw b _ this)).1

/-- A new box. -/
def Cf.newBox (σ : Cf) (n : Nm) (w : World) : Cf :=
  { σ with rb := fun m => if m = n then σ.w.heap.size else σ.rb m, M := fun b => σ.M b ∨ b = σ.w.heap.size, al := fun m => σ.al m ∨ m = n, w := w }

theorem Evo.newBox {σ : Cf} {n : Nm} {o : Obj} (hn : ¬ σ.al n) : Evo σ (σ.newBox n (σ.w.alloc o)) where
  box m hm := ⟨.inl hm, by
    have : m ≠ n := fun e => hn (e ▸ hm)
    simp [Cf.newBox, this]⟩
  arr m _ l h := ⟨l, h, Nat.le_refl _, fun _ => rfl⟩
  fro b x hb hM := by
    have hlt := (Array.getElem?_eq_some_iff.1 hb).1
    refine ⟨by simp only [Cf.newBox]; rw [heap_alloc_lt hlt]; exact hb, ?_⟩
    simp only [Cf.newBox]
    rintro (h | h)
    · exact hM h
    · omega
  out := rfl
  sz := by simp [Cf.newBox]
  io := ⟨rfl, rfl⟩

theorem HInv.newBox {σ : Cf} {hp : Hp} (h : HInv σ hp) {n : Nm} (hn : ¬ σ.al n) {cs : List AV} {xs : List Value} {T : TypeId} (hx : RepL σ cs xs) (h1 : ∀ x ∈ xs, oneC x = true) :
    HInv (σ.newBox n (σ.w.alloc (.cells xs.toArray T))) (newc n 0 cs ++ hp) := by
  have e := Evo.newBox (σ := σ) (n := n) (o := .cells xs.toArray T) hn
  have hold : ∀ m j c, hl hp (.c m j) = some c → m ≠ n := fun m j c hc e => hn (e ▸ (h.cel m j c hc).1)
  have holda : ∀ m sz live rows d, hl hp (.a m) = some (.sl sz live rows d) → m ≠ n := fun m sz live rows d hc e => hn (e ▸ (h.arr m sz live rows d hc).1)
  have hs : ∀ b, σ.M b → (σ.w.alloc (.cells xs.toArray T)).heap[b]? = σ.w.heap[b]? := fun b hb => heap_alloc_lt (h.lt b hb)
  have hlook : ∀ m j c, hl (newc n 0 cs ++ hp) (.c m j) = some c → (m = n ∧ cs[j]? = some c) ∨ (m ≠ n ∧ hl hp (.c m j) = some c) := by
    intro m j c hc
    rw [hl_app, hl_newc] at hc
    by_cases hm : m = n
    · subst hm
      simp only [Nat.zero_le, and_self, if_true, Nat.sub_zero] at hc
      cases hcs : cs[j]? with
      | some c' => rw [hcs] at hc; simp at hc; subst hc; exact .inl ⟨rfl, rfl⟩
      | none => rw [hcs] at hc; simp at hc; exact absurd rfl (hold _ _ _ hc)
    · simp [hm] at hc; exact .inr ⟨hm, hc⟩
  have hlooka : ∀ m, hl (newc n 0 cs ++ hp) (.a m) = hl hp (.a m) := fun m => by rw [hl_app, hl_newc_a]; simp
  refine ⟨fun m => ?_, fun m j c hc => ?_, fun m sz live rows d hc => ?_, fun p q b hp' hq => ?_, fun b hb => ?_, fun b hb => ?_, fun b hb hO => ?_⟩
  · simp only [Cf.newBox, lenOf, hlooka]
    exact h.ln m
  · rcases hlook m j c hc with ⟨rfl, hcs⟩ | ⟨hm, hc⟩
    · obtain ⟨x, hx1, hx2⟩ := repL_get hx j c hcs
      refine ⟨.inr rfl, .inr (by simp [Cf.newBox]), xs.toArray, T, x, ?_, by simpa using hx1, h1 x (List.mem_of_getElem? hx1), hx2.mono e⟩
      simp only [Cf.newBox, if_true]
      exact heap_alloc_new
    · have k := h.cel m j c hc
      refine k.keep e (.inl k.2.1) (hs _ k.2.1)
  · rw [hlooka] at hc
    exact (h.arr m sz live rows d hc).keep e rfl fun _ b _ _ _ _ hM => ⟨.inl hM, hs b hM⟩
  · have conv : ∀ p b, Owns (σ.newBox n (σ.w.alloc (.cells xs.toArray T))) (newc n 0 cs ++ hp) p b → (p = (false, n) ∧ b = σ.w.heap.size) ∨ (Owns σ hp p b ∧ σ.M b) := by
      rintro ⟨k, m⟩ b ho
      rcases ho with ⟨h1, h2, j, c, hc⟩ | ⟨h1, ⟨sz, rows, d, hc⟩, o, cap, h3, h4⟩
      · simp only at h1 h2 hc
        subst h1
        rcases hlook m j c hc with ⟨rfl, hcs⟩ | ⟨hm, hc⟩
        · left; simp [Cf.newBox] at h2; exact ⟨rfl, h2.symm⟩
        · right
          have : σ.rb m = b := by simpa [Cf.newBox, hm] using h2
          subst this
          exact ⟨.inl ⟨rfl, rfl, j, c, hc⟩, (h.cel m j c hc).2.1⟩
      · simp only at h1 hc h3
        subst h1
        rw [hlooka] at hc
        right
        refine ⟨.inr ⟨rfl, ⟨sz, rows, d, hc⟩, o, cap, h3, h4⟩, ?_⟩
        obtain ⟨_, _, _, k⟩ := h.arr m sz true rows d hc
        rcases k with ⟨a, k1, _⟩ | ⟨b', o', cap', k1, k2, k3, k4, k5, k6⟩
        · have h3' : σ.ra m = (some ⟨b, o, none⟩, cap) := h3
          rw [h3'] at k1
          have := congrArg Prod.snd k1
          simp at this; omega
        · have h3' : σ.ra m = (some ⟨b, o, none⟩, cap) := h3
          rw [h3'] at k1
          have := congrArg Prod.fst k1
          simp at this
          rw [this.1]
          exact (k5 rfl).1
    rcases conv p b hp' with ⟨h1, h2⟩ | ⟨h1, h2⟩ <;> rcases conv q b hq with ⟨h3, h4⟩ | ⟨h3, h4⟩
    · rw [h1, h3]
    · have := h.lt b h4; omega
    · have := h.lt b h2; omega
    · exact h.inj p q b h1 h3
  · rcases hb with hb | hb
    · have := h.lt b hb; simp [Cf.newBox]; omega
    · simp [Cf.newBox]; omega
  · have := h.ou b hb; simp [Cf.newBox]; omega
  · rcases hb with hb | hb
    · exact h.dis b hb hO
    · have := h.ou b hO; omega
end Go.Proofs.Ytmmfbjmjhjmccaa.Am
