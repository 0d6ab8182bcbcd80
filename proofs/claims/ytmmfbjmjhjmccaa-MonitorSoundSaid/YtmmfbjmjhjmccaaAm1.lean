/-
  The abstract machine, part 1: abstract values, what it means that a concrete value represents one, how this is kept.
-/
import Derived.WalkKit
import Derived.CallsIn
import Derived.OrdersIn
import Derived.RangeFuncIn
import Derived.KernelRfl
namespace Go.Proofs.Ytmmfbjmjhjmccaa.Am
set_option linter.unusedSimpArgs false
set_option linter.unusedVariables false
open Go

/-- The name of a piece of memory that the walk itself made: a slot, a version. -/
abbrev Nm := Nat × Nat

/-- Abstract values. -/
inductive AV where
  | v (x : Value)
  | sl (sz : Nat) (full : Bool) (rows : List (List AV)) (d : List AV)
  | ro (cells : List AV) (off : Nat)
  | agg (cs : List AV)
  | tup (cs : List AV)
  | clo (fn : Fn) (first caps : List AV)
  | box (n : Nm) (off : Nat)
  | own (n : Nm) (len : Nat)
  | elem (n : Nm) (len sz i off : Nat)
  | gd (b : Bool) (x : AV)
  | un
  deriving Inhabited

@[reducible] def AV.i (n : Int) : AV := .v (.int .i64 n)
@[reducible] def AV.b (x : Bool) : AV := .v (.bool x)

def oneC : Value → Bool
  | .agg _ => false
  | .tuple _ => false
  | _ => true

/-- The link between abstract and concrete memory. -/
structure Cf where
  rb : Nm → Nat
  ra : Nm → Option Addr × Nat
  M : Nat → Prop
  O : Nat → Prop
  ln : Nm → Option Nat
  al : Nm → Prop
  w : World

mutual
/-- No name of a piece of memory stands in it. -/
def pureA : AV → Bool
  | .v _ => true
  | .sl _ _ _ _ => true
  | .ro _ _ => true
  | .agg cs => pureL cs
  | .tup cs => pureL cs
  | .clo _ xs ys => pureL xs && pureL ys
  | .gd _ x => pureA x
  | .un => true
  | _ => false
def pureL : List AV → Bool
  | [] => true
  | c :: cs => pureA c && pureL cs
end

/-- A block that is there and that nobody writes any more. -/
def Fz (σ : Cf) (b : Nat) : Prop := ¬ σ.M b ∧ ¬ σ.O b ∧ b < σ.w.heap.size

mutual
def Rep (σ : Cf) : AV → Value → Prop
  | .v x, v => v = x
  | .sl sz full rows _, v => ∃ base cap, v = .slice base rows.length cap ∧ rows.length ≤ cap ∧ (full = true → cap = rows.length) ∧ (∀ r ∈ rows, pureL r = true) ∧
      (rows = [] ∨ ∃ b o, base = some ⟨b, o, none⟩ ∧ Fz σ b ∧ RepRows σ sz b o rows)
  | .ro cells off, v => ∃ b o, v = .pointer (some ⟨b, o + off, none⟩) ∧ Fz σ b ∧ pureL cells = true ∧ RepCells σ b o cells
  | .agg cs, v => ∃ xs : List Value, v = .agg xs.toArray ∧ (∀ x ∈ xs, oneC x = true) ∧ RepL σ cs xs
  | .tup cs, v => ∃ xs : List Value, v = .tuple xs.toArray ∧ RepL σ cs xs
  | .clo fn first caps, v => ∃ xs ys : List Value, v = .func fn xs.toArray ys.toArray ∧ RepL σ first xs ∧ RepL σ caps ys
  | .box n off, v => σ.al n ∧ v = .pointer (some ⟨σ.rb n, off, none⟩)
  | .own n len, v => σ.al n ∧ oneC v = true ∧ ∀ l, σ.ln n = some l → len ≤ l ∧ (len = l → v = .slice (σ.ra n).1 len (σ.ra n).2)
  | .elem n len sz i off, v => σ.al n ∧ (∃ b k, v = .pointer (some ⟨b, k, none⟩)) ∧ ∀ l, σ.ln n = some l → len ≤ l ∧ (len = l → ∃ b o, (σ.ra n).1 = some ⟨b, o, none⟩ ∧ v = .pointer (some ⟨b, o + i * sz + off, none⟩))
  | .gd b x, v => (b = true → Rep σ x v) ∧ (b = false → v = undef)
  | .un, _ => True
def RepCells (σ : Cf) (b : Nat) : Nat → List AV → Prop
  | _, [] => True
  | o, c :: cs => (∃ x : Value, σ.w.cell? ⟨b, o, none⟩ = some x ∧ oneC x = true ∧ Rep σ c x) ∧ RepCells σ b (o + 1) cs
def RepRows (σ : Cf) (sz b : Nat) : Nat → List (List AV) → Prop
  | _, [] => True
  | o, r :: rs => r.length = sz ∧ RepCells σ b o r ∧ RepRows σ sz b (o + sz) rs
def RepL (σ : Cf) : List AV → List Value → Prop
  | [], xs => xs = []
  | c :: cs, xs => ∃ y ys, xs = y :: ys ∧ Rep σ c y ∧ RepL σ cs ys
end

/-- Nothing goes out. -/
def SameO (w w' : World) : Prop := w'.os = w.os ∧ w'.output = w.output
theorem SameO.refl (w : World) : SameO w w := ⟨rfl, rfl⟩
theorem SameO.trans {a b c : World} (h : SameO a b) (k : SameO b c) : SameO a c := ⟨k.1.trans h.1, k.2.trans h.2⟩

/-- What happens to memory as the walk goes on. -/
structure Evo (σ σ' : Cf) : Prop where
  box : ∀ n, σ.al n → σ'.al n ∧ σ'.rb n = σ.rb n
  arr : ∀ n, σ.al n → ∀ l', σ'.ln n = some l' → ∃ l, σ.ln n = some l ∧ l ≤ l' ∧ (l = l' → σ'.ra n = σ.ra n)
  fro : ∀ b o, σ.w.heap[b]? = some o → ¬ σ.M b → σ'.w.heap[b]? = some o ∧ ¬ σ'.M b
  out : σ'.O = σ.O
  sz : σ.w.heap.size ≤ σ'.w.heap.size
  io : SameO σ.w σ'.w

theorem Evo.refl (σ : Cf) : Evo σ σ := ⟨fun _ h => ⟨h, rfl⟩, fun _ _ l h => ⟨l, h, Nat.le_refl _, fun _ => rfl⟩, fun _ _ h h' => ⟨h, h'⟩, rfl, Nat.le_refl _, SameO.refl _⟩

theorem Evo.trans {a b c : Cf} (h : Evo a b) (k : Evo b c) : Evo a c where
  box n hn := ⟨(k.box n (h.box n hn).1).1, ((k.box n (h.box n hn).1).2).trans (h.box n hn).2⟩
  arr n hn l' hl' := by
    obtain ⟨l, h1, h2, h3⟩ := k.arr n (h.box n hn).1 l' hl'
    obtain ⟨m, g1, g2, g3⟩ := h.arr n hn l h1
    refine ⟨m, g1, Nat.le_trans g2 h2, fun e => ?_⟩
    have e1 : m = l := by omega
    have e2 : l = l' := by omega
    rw [h3 e2, g3 e1]
  fro b o hb hM := by
    obtain ⟨h1, h2⟩ := h.fro b o hb hM
    exact k.fro b o h1 h2
  out := k.out.trans h.out
  sz := Nat.le_trans h.sz k.sz
  io := h.io.trans k.io

theorem Evo.fz {σ σ' : Cf} (h : Evo σ σ') {b : Nat} (hb : Fz σ b) : Fz σ' b := by
  obtain ⟨h1, h2⟩ := h.fro b _ (Array.getElem?_eq_getElem hb.2.2) hb.1
  exact ⟨h2, by rw [h.out]; exact hb.2.1, (Array.getElem?_eq_some_iff.1 h1).1⟩

theorem Evo.cell {σ σ' : Cf} (h : Evo σ σ') {b o : Nat} {x : Value} (hM : ¬ σ.M b) (hc : σ.w.cell? ⟨b, o, none⟩ = some x) :
    σ'.w.cell? ⟨b, o, none⟩ = some x := by
  cases hb : σ.w.heap[b]? with
  | none => simp [World.cell?, hb] at hc
  | some ob =>
    obtain ⟨h1, _⟩ := h.fro b ob hb hM
    simp only [World.cell?, hb] at hc
    simp only [World.cell?, h1]
    exact hc

mutual
theorem Rep.mono {σ σ' : Cf} (h : Evo σ σ') : ∀ (a : AV) (v : Value), Rep σ a v → Rep σ' a v
  | .v x, v, hr => by simpa [Rep] using hr
  | .sl sz full rows _, v, hr => by
    simp only [Rep] at hr ⊢
    obtain ⟨base, cap, h1, h2, h3, hp, h4⟩ := hr
    refine ⟨base, cap, h1, h2, h3, hp, ?_⟩
    rcases h4 with h4 | ⟨b, o, h5, h6, h7⟩
    · exact .inl h4
    · exact .inr ⟨b, o, h5, h.fz h6, RepRows.mono h sz b h6.1 rows o h7⟩
  | .ro cells off, v, hr => by
    simp only [Rep] at hr ⊢
    obtain ⟨b, o, h1, h2, hp, h3⟩ := hr
    exact ⟨b, o, h1, h.fz h2, hp, RepCells.mono h b h2.1 cells o h3⟩
  | .agg cs, v, hr => by
    simp only [Rep] at hr ⊢
    obtain ⟨xs, h1, h2, h3⟩ := hr
    exact ⟨xs, h1, h2, RepL.mono h cs xs h3⟩
  | .tup cs, v, hr => by
    simp only [Rep] at hr ⊢
    obtain ⟨xs, h1, h3⟩ := hr
    exact ⟨xs, h1, RepL.mono h cs xs h3⟩
  | .clo fn first caps, v, hr => by
    simp only [Rep] at hr ⊢
    obtain ⟨xs, ys, h1, h2, h3⟩ := hr
    exact ⟨xs, ys, h1, RepL.mono h first xs h2, RepL.mono h caps ys h3⟩
  | .box n off, v, hr => by
    simp only [Rep] at hr ⊢
    obtain ⟨h1, h2⟩ := h.box n hr.1
    exact ⟨h1, by rw [h2]; exact hr.2⟩
  | .own n len, v, hr => by
    simp only [Rep] at hr ⊢
    refine ⟨(h.box n hr.1).1, hr.2.1, fun l' hl' => ?_⟩
    obtain ⟨l, g1, g2, g3⟩ := h.arr n hr.1 l' hl'
    obtain ⟨k1, k2⟩ := hr.2.2 l g1
    refine ⟨by omega, fun e => ?_⟩
    have e1 : l = l' := by omega
    rw [g3 e1]; exact k2 (by omega)
  | .elem n len sz i off, v, hr => by
    simp only [Rep] at hr ⊢
    refine ⟨(h.box n hr.1).1, hr.2.1, fun l' hl' => ?_⟩
    obtain ⟨l, g1, g2, g3⟩ := h.arr n hr.1 l' hl'
    obtain ⟨k1, k2⟩ := hr.2.2 l g1
    refine ⟨by omega, fun e => ?_⟩
    have e1 : l = l' := by omega
    rw [g3 e1]; exact k2 (by omega)
  | .gd b x, v, hr => by
    simp only [Rep] at hr ⊢
    exact ⟨fun hb => Rep.mono h x v (hr.1 hb), hr.2⟩
  | .un, _, _ => by simp [Rep]
theorem RepCells.mono {σ σ' : Cf} (h : Evo σ σ') (b : Nat) (hM : ¬ σ.M b) : ∀ (cs : List AV) (o : Nat), RepCells σ b o cs → RepCells σ' b o cs
  | [], _, _ => by simp [RepCells]
  | c :: cs, o, hr => by
    simp only [RepCells] at hr ⊢
    obtain ⟨⟨x, h1, h2, h3⟩, h4⟩ := hr
    exact ⟨⟨x, h.cell hM h1, h2, Rep.mono h c x h3⟩, RepCells.mono h b hM cs (o + 1) h4⟩
theorem RepRows.mono {σ σ' : Cf} (h : Evo σ σ') (sz b : Nat) (hM : ¬ σ.M b) : ∀ (rs : List (List AV)) (o : Nat), RepRows σ sz b o rs → RepRows σ' sz b o rs
  | [], _, _ => by simp [RepRows]
  | r :: rs, o, hr => by
    simp only [RepRows] at hr ⊢
    exact ⟨hr.1, RepCells.mono h b hM r o hr.2.1, RepRows.mono h sz b hM rs (o + sz) hr.2.2⟩
theorem RepL.mono {σ σ' : Cf} (h : Evo σ σ') : ∀ (cs : List AV) (xs : List Value), RepL σ cs xs → RepL σ' cs xs
  | [], xs, hr => by simpa [RepL] using hr
  | c :: cs, xs, hr => by
    simp only [RepL] at hr ⊢
    obtain ⟨y, ys, h1, h2, h3⟩ := hr
    exact ⟨y, ys, h1, Rep.mono h c y h2, RepL.mono h cs ys h3⟩
end
mutual
/-- What bears no name hangs on the memory alone. -/
theorem Rep.ofPure {σ σ' : Cf} (hf : ∀ b, Fz σ b → Fz σ' b) (hw : ∀ b, Fz σ b → σ'.w.heap[b]? = σ.w.heap[b]?) : ∀ (a : AV) (v : Value), pureA a = true → Rep σ a v → Rep σ' a v
  | .v x, v, _, hr => by simpa [Rep] using hr
  | .sl sz full rows _, v, _, hr => by
    simp only [Rep] at hr ⊢
    obtain ⟨base, cap, h1, h2, h3, hp, h4⟩ := hr
    refine ⟨base, cap, h1, h2, h3, hp, ?_⟩
    rcases h4 with h4 | ⟨b, o, h5, h6, h7⟩
    · exact .inl h4
    · exact .inr ⟨b, o, h5, hf b h6, RepRows.ofPure hf hw sz b h6 rows o hp h7⟩
  | .ro cells off, v, _, hr => by
    simp only [Rep] at hr ⊢
    obtain ⟨b, o, h1, h2, hp, h3⟩ := hr
    exact ⟨b, o, h1, hf b h2, hp, RepCells.ofPure hf hw b h2 cells o hp h3⟩
  | .agg cs, v, hp, hr => by
    simp only [Rep] at hr ⊢
    obtain ⟨xs, h1, h2, h3⟩ := hr
    exact ⟨xs, h1, h2, RepL.ofPure hf hw cs xs (by simpa [pureA] using hp) h3⟩
  | .tup cs, v, hp, hr => by
    simp only [Rep] at hr ⊢
    obtain ⟨xs, h1, h3⟩ := hr
    exact ⟨xs, h1, RepL.ofPure hf hw cs xs (by simpa [pureA] using hp) h3⟩
  | .clo fn first caps, v, hp, hr => by
    simp only [Rep] at hr ⊢
    simp only [pureA, Bool.and_eq_true] at hp
    obtain ⟨xs, ys, h1, h2, h3⟩ := hr
    exact ⟨xs, ys, h1, RepL.ofPure hf hw first xs hp.1 h2, RepL.ofPure hf hw caps ys hp.2 h3⟩
  | .box n off, v, hp, _ => by simp [pureA] at hp
  | .own n len, v, hp, _ => by simp [pureA] at hp
  | .elem n len sz i off, v, hp, _ => by simp [pureA] at hp
  | .gd b x, v, hp, hr => by
    simp only [Rep] at hr ⊢
    exact ⟨fun hb => Rep.ofPure hf hw x v (by simpa [pureA] using hp) (hr.1 hb), hr.2⟩
  | .un, _, _, _ => by simp [Rep]
theorem RepCells.ofPure {σ σ' : Cf} (hf : ∀ b, Fz σ b → Fz σ' b) (hw : ∀ b, Fz σ b → σ'.w.heap[b]? = σ.w.heap[b]?) (b : Nat) (hb : Fz σ b) : ∀ (cs : List AV) (o : Nat), pureL cs = true → RepCells σ b o cs → RepCells σ' b o cs
  | [], _, _, _ => by simp [RepCells]
  | c :: cs, o, hp, hr => by
    simp only [RepCells] at hr ⊢
    simp only [pureL, Bool.and_eq_true] at hp
    obtain ⟨⟨x, h1, h2, h3⟩, h4⟩ := hr
    exact ⟨⟨x, by simp only [World.cell?, hw b hb] at h1 ⊢; exact h1, h2, Rep.ofPure hf hw c x hp.1 h3⟩, RepCells.ofPure hf hw b hb cs (o + 1) hp.2 h4⟩
theorem RepRows.ofPure {σ σ' : Cf} (hf : ∀ b, Fz σ b → Fz σ' b) (hw : ∀ b, Fz σ b → σ'.w.heap[b]? = σ.w.heap[b]?) (sz b : Nat) (hb : Fz σ b) : ∀ (rs : List (List AV)) (o : Nat), (∀ r ∈ rs, pureL r = true) → RepRows σ sz b o rs → RepRows σ' sz b o rs
  | [], _, _, _ => by simp [RepRows]
  | r :: rs, o, hp, hr => by
    simp only [RepRows] at hr ⊢
    exact ⟨hr.1, RepCells.ofPure hf hw b hb r o (hp r (by simp)) hr.2.1, RepRows.ofPure hf hw sz b hb rs (o + sz) (fun r hr => hp r (by simp [hr])) hr.2.2⟩
theorem RepL.ofPure {σ σ' : Cf} (hf : ∀ b, Fz σ b → Fz σ' b) (hw : ∀ b, Fz σ b → σ'.w.heap[b]? = σ.w.heap[b]?) : ∀ (cs : List AV) (xs : List Value), pureL cs = true → RepL σ cs xs → RepL σ' cs xs
  | [], xs, _, hr => by simpa [RepL] using hr
  | c :: cs, xs, hp, hr => by
    simp only [RepL] at hr ⊢
    simp only [pureL, Bool.and_eq_true] at hp
    obtain ⟨y, ys, h1, h2, h3⟩ := hr
    exact ⟨y, ys, h1, Rep.ofPure hf hw c y hp.1 h2, RepL.ofPure hf hw cs ys hp.2 h3⟩
end
end Go.Proofs.Ytmmfbjmjhjmccaa.Am
