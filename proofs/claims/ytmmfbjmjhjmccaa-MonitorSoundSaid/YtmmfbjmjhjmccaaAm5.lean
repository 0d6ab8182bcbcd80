/-
  The abstract machine, part 5: arrays: read, made, grown, written, given up.
-/
import Derived.Test.YtmmfbjmjhjmccaaAm4
namespace Go.Proofs.Ytmmfbjmjhjmccaa.Am
set_option linter.unusedSimpArgs false
set_option linter.unusedVariables false
open Go

/-- What lies at an address. -/
def Lies (w : World) (b o : Nat) (vs : List Value) : Prop := ∀ j v, vs[j]? = some v → w.cell? ⟨b, o + j, none⟩ = some v

theorem repCells_vals {σ : Cf} {b : Nat} : ∀ {cs : List AV} {o : Nat}, RepCells σ b o cs → ∃ vs, RepL σ cs vs ∧ (∀ x ∈ vs, oneC x = true) ∧ Lies σ.w b o vs
  | [], o, _ => ⟨[], by simp [RepL], by simp, by intro j v h; simp at h⟩
  | c :: cs, o, h => by
    simp only [RepCells] at h
    obtain ⟨⟨x, h1, h2, h3⟩, h4⟩ := h
    obtain ⟨vs, g1, g2, g3⟩ := repCells_vals h4
    refine ⟨x :: vs, ⟨x, vs, rfl, h3, g1⟩, fun y hy => (List.mem_cons.1 hy).elim (fun e => e ▸ h2) (g2 y), fun j v hj => ?_⟩
    cases j with
    | zero => simp at hj; subst hj; exact h1
    | succ j => have := g3 j v (by simpa using hj); rwa [show o + 1 + j = o + (j + 1) from by omega] at this

theorem repCells_of_vals {σ : Cf} {b : Nat} {cs : List AV} {vs : List Value} {o : Nat} (h : RepL σ cs vs) (h1 : ∀ x ∈ vs, oneC x = true) (hl : Lies σ.w b o vs) : RepCells σ b o cs :=
  repCells_of fun j c hc => by
    obtain ⟨x, g1, g2⟩ := repL_get h j c hc
    exact ⟨x, hl j x g1, h1 x (List.mem_of_getElem? g1), g2⟩

theorem Lies.left {w : World} {b o : Nat} {vs us : List Value} (h : Lies w b o (vs ++ us)) : Lies w b o vs := fun j v hj =>
  h j v (by rw [List.getElem?_append_left (List.getElem?_eq_some_iff.1 hj).1]; exact hj)
theorem Lies.right {w : World} {b o : Nat} {vs us : List Value} (h : Lies w b o (vs ++ us)) : Lies w b (o + vs.length) us := fun j v hj => by
  rw [Nat.add_assoc]
  exact h (vs.length + j) v (by rw [List.getElem?_append_right (by omega)]; simpa using hj)
theorem Lies.app {w : World} {b o : Nat} {vs us : List Value} (h : Lies w b o vs) (k : Lies w b (o + vs.length) us) : Lies w b o (vs ++ us) := fun j v hj => by
  by_cases hlt : j < vs.length
  · rw [List.getElem?_append_left hlt] at hj; exact h j v hj
  · rw [List.getElem?_append_right (by omega)] at hj
    have := k (j - vs.length) v hj
    rwa [show o + vs.length + (j - vs.length) = o + j from by omega] at this

theorem repRows_vals {σ : Cf} {sz b : Nat} : ∀ {rs : List (List AV)} {o : Nat}, RepRows σ sz b o rs →
    ∃ vs, RepL σ rs.flatten vs ∧ (∀ x ∈ vs, oneC x = true) ∧ Lies σ.w b o vs ∧ (∀ r ∈ rs, r.length = sz) ∧ vs.length = rs.length * sz
  | [], o, _ => ⟨[], by simp [RepL], by simp, by intro j v h; simp at h, by simp, by simp⟩
  | r :: rs, o, h => by
    simp only [RepRows] at h
    obtain ⟨h1, h2, h3⟩ := h
    obtain ⟨us, f1, f2, f3⟩ := repCells_vals h2
    obtain ⟨vs, g1, g2, g3, g4, g5⟩ := repRows_vals h3
    have hl := repL_len f1
    refine ⟨us ++ vs, by simpa using repL_app f1 g1, ?_, f3.app (by rw [hl, h1]; exact g3), ?_, ?_⟩
    · exact fun x hx => (List.mem_append.1 hx).elim (f2 x) (g2 x)
    · exact fun r' hr' => (List.mem_cons.1 hr').elim (fun e => e ▸ h1) (g4 r')
    · simp [g5, hl, h1, Nat.succ_mul]; omega

theorem repL_split {σ : Cf} : ∀ {cs ds : List AV} {zs : List Value}, RepL σ (cs ++ ds) zs → ∃ xs ys, zs = xs ++ ys ∧ RepL σ cs xs ∧ RepL σ ds ys
  | [], ds, zs, h => ⟨[], zs, rfl, by simp [RepL], h⟩
  | c :: cs, ds, zs, h => by
    simp only [List.cons_append, RepL] at h
    obtain ⟨y, ys, rfl, h2, h3⟩ := h
    obtain ⟨xs, us, rfl, g1, g2⟩ := repL_split h3
    exact ⟨y :: xs, us, rfl, ⟨y, xs, rfl, h2, g1⟩, g2⟩

theorem repRows_of_vals {σ : Cf} {sz b : Nat} : ∀ {rs : List (List AV)} {o : Nat} {vs : List Value}, RepL σ rs.flatten vs → (∀ x ∈ vs, oneC x = true) → Lies σ.w b o vs → (∀ r ∈ rs, r.length = sz) → RepRows σ sz b o rs
  | [], _, _, _, _, _, _ => by simp [RepRows]
  | r :: rs, o, vs, h, h1, hl, hr => by
    simp only [List.flatten_cons] at h
    obtain ⟨xs, ys, rfl, g1, g2⟩ := repL_split h
    have hx := repL_len g1
    have hrl := hr r (by simp)
    simp only [RepRows]
    refine ⟨hrl, repCells_of_vals g1 (fun x hx => h1 x (by simp [hx])) hl.left, repRows_of_vals g2 (fun x hx => h1 x (by simp [hx])) ?_ (fun r' hr' => hr r' (by simp [hr']))⟩
    have := hl.right
    rwa [hx, hrl] at this

/-- A slice's cells. -/
def SlV (w : World) (base : Option Addr) (vs : List Value) : Prop := vs = [] ∨ ∃ b o, base = some ⟨b, o, none⟩ ∧ Lies w b o vs

theorem addr_add (b o j : Nat) : (⟨b, o, none⟩ : Addr).add j = ⟨b, o + j, none⟩ := by
  unfold Addr.add; split
  · subst_vars; rfl
  · rfl

theorem run_firstCells {P : Program} {w : World} {base : Option Addr} {vs : List Value} (h : SlV w base vs) (size n len cap : Nat) (hl : vs.length = n * size) :
    (Builtin.firstCells size n (.slice base len cap)).run P w = .ok vs.toArray w := by
  cases base with
  | none =>
    rcases h with rfl | ⟨b, o, h, _⟩
    · simp [Builtin.firstCells]
    · cases h
  | some a =>
    refine run_firstCells_some w size n a len cap vs hl fun j v hj => ?_
    rcases h with rfl | ⟨b, o, h, hl'⟩
    · simp at hj
    · cases h
      rw [addr_add]; exact hl' j v hj

theorem rep_sl_vals {σ : Cf} {sz : Nat} {full : Bool} {rows : List (List AV)} {d : List AV} {v : Value} (h : Rep σ (.sl sz full rows d) v) :
    ∃ base cap vs, v = .slice base rows.length cap ∧ rows.length ≤ cap ∧ (full = true → cap = rows.length) ∧ RepL σ rows.flatten vs ∧ (∀ x ∈ vs, oneC x = true) ∧ SlV σ.w base vs ∧
      (rows = [] ∨ ((∀ r ∈ rows, r.length = sz) ∧ vs.length = rows.length * sz)) ∧ (rows = [] → vs = []) ∧ (rows = [] ∨ ∃ b o, base = some ⟨b, o, none⟩ ∧ Fz σ b ∧ Lies σ.w b o vs) ∧ (∀ r ∈ rows, pureL r = true) := by
  simp only [Rep] at h
  obtain ⟨base, cap, h1, h2, h3, hp, h4⟩ := h
  rcases h4 with rfl | ⟨b, o, h5, h6, h7⟩
  · exact ⟨base, cap, [], h1, h2, h3, by simp [RepL], by simp, .inl rfl, .inl rfl, fun _ => rfl, .inl rfl, by simp⟩
  · obtain ⟨vs, g1, g2, g3, g4, g5⟩ := repRows_vals h7
    exact ⟨base, cap, vs, h1, h2, h3, g1, g2, .inr ⟨b, o, h5, g3⟩, .inr ⟨g4, g5⟩, fun e => by subst e; simp at g5; exact g5, .inr ⟨b, o, h5, h6, g3⟩, hp⟩

theorem run_append_grown {P : Program} {w : World} (t ty e : TypeId) (i : TypeInfo) (z : Value) (ht : P.underlying t = some (.slice e)) (hi : P.info? e = some i) (hz : i.zero = some z)
    {sb xb : Option Addr} {olds news : List Value} (ho : SlV w sb olds) (hn : SlV w xb news) (n m cap cx : Nat) (hlo : olds.length = n * i.size) (hln : news.length = m * i.size)
    (hg : cap < n + m) (hb : (n + m) * i.bytes ≤ 140737488355328) (hb0 : 0 < i.bytes) :
    (Builtin.append_ #[t, t] ty #[.slice sb n cap, .slice xb m cx]).run P w =
      .ok (.slice (some ⟨w.heap.size, 0, none⟩) (n + m) (grownCap w (n + m) cap e))
        (w.drew.alloc (.cells (olds.toArray ++ news.toArray ++ Builtin.zeroCells z.cells (grownCap w (n + m) cap e - (n + m))) e)) := by
  have h1 : ¬ (n + m ≤ cap) := by omega
  have h63 : n + m ≤ 140737488355328 := Nat.le_trans (Nat.le_mul_of_pos_right _ hb0) hb
  have h63' : ¬ (9223372036854775807 < ((n : Int) + (m : Int))) := by omega
  have h48' : ¬ (281474976710656 < Builtin.nextslicecap (n + m) cap * i.bytes) := by have := growslice_fits (bytes := i.bytes) hg hb; omega
  have ho' : SlV w.drew sb olds := by simpa [SlV, Lies] using ho
  have hn' : SlV w.drew xb news := by simpa [SlV, Lies] using hn
  have hf := run_firstCells (P := P) hn' i.size m m cx hln
  have hfo := run_firstCells (P := P) ho' i.size n n cap hlo
  simp [Builtin.append_, run_underlying ht, sizeOf, typeInfo, zeroValue, hi, hz, Builtin.lenOf, h1, h63', h48', Question.forced, hf, hfo, newRow, grownCap]
  congr 2
  apply Array.ext'
  simp [List.append_assoc]

theorem run_append_stays {P : Program} {w : World} (t ty e : TypeId) (i : TypeInfo) (ht : P.underlying t = some (.slice e)) (hi : P.info? e = some i)
    {sb xb : Option Addr} (n cap cx : Nat) (hc : n ≤ cap) :
    (Builtin.append_ #[t, t] ty #[.slice sb n cap, .slice xb 0 cx]).run P w = .ok (.slice sb n cap) w := by
  have hf := run_firstCells (P := P) (w := w) (base := xb) (vs := []) (.inl rfl) i.size 0 0 cx (by simp)
  cases sb <;> simp [Builtin.append_, run_underlying ht, sizeOf, typeInfo, hi, Builtin.lenOf, hc, hf, storeCells]

theorem run_append_in {P : Program} {w : World} (t ty e : TypeId) (i : TypeInfo) (ht : P.underlying t = some (.slice e)) (hi : P.info? e = some i)
    {b o : Nat} {xb : Option Addr} {news : List Value} (hn : SlV w xb news) (n m cap cx : Nat) (hln : news.length = m * i.size) (h1 : ∀ x ∈ news, oneC x = true)
    {cs : Array Value} {T : TypeId} (hcs : w.heap[b]? = some (.cells cs T (0, 0))) (hfit : o + n * i.size + news.length ≤ cs.size) (hc : n + m ≤ cap) :
    (Builtin.append_ #[t, t] ty #[.slice (some ⟨b, o, none⟩) n cap, .slice xb m cx]).run P w = .ok (.slice (some ⟨b, o, none⟩) (n + m) cap) (putAt w b (o + n * i.size) news) := by
  have hf := run_firstCells (P := P) hn i.size m m cx hln
  have hst := run_storeCells (P := P) news (o + n * i.size) 0 w cs T hcs h1 (by simpa using hfit)
  simp only [Nat.add_zero] at hst
  simp [Builtin.append_, run_underlying ht, sizeOf, typeInfo, hi, Builtin.lenOf, hc, hf, addr_add, hst]

/-- The memory of array n is set anew. -/
def Cf.setArr (σ : Cf) (n : Nm) (a : Option Addr × Nat) (M : Nat → Prop) (len : Nat) (w : World) : Cf :=
  { σ with ra := fun m => if m = n then a else σ.ra m, M := M, ln := fun m => if m = n then some len else σ.ln m, al := fun m => σ.al m ∨ m = n, w := w }

theorem Evo.setArr {σ : Cf} {n : Nm} {a : Option Addr × Nat} {M : Nat → Prop} {len : Nat} {w : World}
    (hn : ¬ σ.al n ∨ ∃ l, σ.ln n = some l ∧ l ≤ len ∧ (l = len → a = σ.ra n))
    (hw : ∀ (b : Nat) (o : Obj), σ.w.heap[b]? = some o → ¬ σ.M b → w.heap[b]? = some o ∧ ¬ M b) (hs : σ.w.heap.size ≤ w.heap.size) (ho : SameO σ.w w) : Evo σ (σ.setArr n a M len w) where
  box m hm := ⟨.inl hm, rfl⟩
  arr m hm l' h := by
    simp only [Cf.setArr] at h ⊢
    by_cases e : m = n
    · subst e
      simp only [if_true, Option.some.injEq] at h ⊢
      subst h
      rcases hn with hn | ⟨l, h1, h2, h3⟩
      · exact absurd hm hn
      · exact ⟨l, h1, h2, h3⟩
    · simp only [if_neg e] at h ⊢
      exact ⟨l', h, Nat.le_refl _, fun _ => trivial⟩
  fro := hw
  out := rfl
  sz := hs
  io := ho

theorem lenOf_cons (n m : Nm) (sz : Nat) (live : Bool) (rows : List (List AV)) (d : List AV) (hp : Hp) :
    lenOf ((.a n, .sl sz live rows d) :: hp) m = if m = n then some rows.length else lenOf hp m := by
  unfold lenOf
  simp only [hl, Loc.a.injEq]
  by_cases h : n = m
  · subst h; simp
  · simp [h, Ne.symm h]

theorem HInv.setArr {σ : Cf} {hp : Hp} (h : HInv σ hp) {n : Nm} {a : Option Addr × Nat} {M : Nat → Prop} {sz : Nat} {live : Bool} {rows : List (List AV)} {d : List AV} {w : World}
    (e : Evo σ (σ.setArr n a M rows.length w))
    (hM : ∀ x, σ.M x → ¬ Owns σ hp (true, n) x → M x ∧ w.heap[x]? = σ.w.heap[x]?)
    (harr : ArrF (σ.setArr n a M rows.length w) n sz live rows)
    (hinj : live = true → ∀ b o cap, a = (some ⟨b, o, none⟩, cap) → 0 < cap → Owns σ hp (true, n) b ∨ σ.w.heap.size ≤ b)
    (hlt : ∀ b, M b → b < w.heap.size) (hwz : σ.w.heap.size ≤ w.heap.size) (hdis : ∀ b, M b → ¬ σ.M b → σ.w.heap.size ≤ b := by exact fun _ h k => absurd h k) : HInv (σ.setArr n a M rows.length w) ((.a n, .sl sz live rows d) :: hp) := by
  refine h.upd e (true, n) hM (fun l hl' => ?_) (fun m hm _ => ?_) (fun m => ?_) (fun m j c hm _ => ?_) (fun m sz' live' rows' d' hm hc => ?_) (fun x ho => ?_) hlt hwz hdis
  · simp only [hl]
    rw [if_neg]
    intro e; subst e; exact hl' rfl
  · have : m ≠ n := fun e => hm (by rw [e])
    simp [Cf.setArr, this]
  · rw [lenOf_cons]
    simp only [Cf.setArr]
    rw [h.ln m]
  · simp at hm
  · simp only [Prod.mk.injEq, true_and] at hm; subst hm
    simp only [hl, if_true, Option.some.injEq, AV.sl.injEq] at hc
    obtain ⟨rfl, rfl, rfl, rfl⟩ := hc
    exact harr
  · rcases ho with ⟨g1, _⟩ | ⟨_, ⟨sz', rows', d', hc⟩, o, cap, g3, g4⟩
    · cases g1
    · simp only [hl, if_true, Option.some.injEq, AV.sl.injEq] at hc
      refine hinj hc.2.1 x o cap ?_ g4
      simpa [Cf.setArr] using g3

/-- A new array in a block of its own. -/
theorem HInv.newArr {σ : Cf} {hp : Hp} (h : HInv σ hp) {n : Nm} (hn : ¬ σ.al n) {sz cap : Nat} {rows : List (List AV)} {d : List AV} {vs us : List Value} {T : TypeId}
    (hsz : 0 < sz) (hv : RepL σ rows.flatten vs) (h1 : ∀ x ∈ vs, oneC x = true) (hr : ∀ r ∈ rows, r.length = sz) (hpu : ∀ r ∈ rows, pureL r = true) (hle : rows.length ≤ cap) (hcap : cap * sz ≤ (vs ++ us).length) :
    Evo σ (σ.setArr n (some ⟨σ.w.heap.size, 0, none⟩, cap) (fun b => σ.M b ∨ b = σ.w.heap.size) rows.length (σ.w.alloc (.cells (vs ++ us).toArray T))) ∧
    HInv (σ.setArr n (some ⟨σ.w.heap.size, 0, none⟩, cap) (fun b => σ.M b ∨ b = σ.w.heap.size) rows.length (σ.w.alloc (.cells (vs ++ us).toArray T))) ((.a n, .sl sz true rows d) :: hp) := by
  have e : Evo σ (σ.setArr n (some ⟨σ.w.heap.size, 0, none⟩, cap) (fun b => σ.M b ∨ b = σ.w.heap.size) rows.length (σ.w.alloc (.cells (vs ++ us).toArray T))) := by
    refine Evo.setArr (.inl hn) (fun b o hb hM => ?_) (by simp) ⟨rfl, rfl⟩
    have hlt := (Array.getElem?_eq_some_iff.1 hb).1
    refine ⟨by rw [heap_alloc_lt hlt]; exact hb, ?_⟩
    rintro (k | k)
    · exact hM k
    · omega
  refine ⟨e, h.setArr e (fun x hx _ => ⟨.inl hx, heap_alloc_lt (h.lt x hx)⟩) ?_ ?_ ?_ (by simp) (fun b hb hn => hb.elim (fun h => absurd h hn) (fun h => by omega))⟩
  · refine ⟨.inr rfl, hsz, hpu, ?_⟩
    by_cases hc : cap = 0
    · subst hc
      exact .inl ⟨some ⟨σ.w.heap.size, 0, none⟩, by simp [Cf.setArr], List.eq_nil_of_length_eq_zero (by omega)⟩
    · refine .inr ⟨σ.w.heap.size, 0, cap, by simp [Cf.setArr], by omega, hle, ?_, fun _ => ⟨.inr rfl, _, T, heap_alloc_new, by simpa using hcap⟩, by simp⟩
      refine repRows_of_vals (hv.mono e) h1 (fun j v hj => ?_) hr
      have hc := World.cell?_alloc_new σ.w (vs ++ us).toArray T (0 + j)
      simp only [Cf.setArr]
      rw [hc]
      have := (List.getElem?_eq_some_iff.1 hj).1
      simp [List.getElem?_append_left this, hj]
  · intro _ b o cap' hab _
    right
    simp at hab
    omega
  · intro b hb
    rcases hb with hb | hb
    · have := h.lt b hb; simp; omega
    · simp; omega
end Go.Proofs.Ytmmfbjmjhjmccaa.Am
