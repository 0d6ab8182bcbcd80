/-
  The abstract machine, part 16: a region that draws its order.
-/
import Derived.Test.YtmmfbjmjhjmccaaAm15
import Derived.CheckFast
namespace Go.Proofs.Ytmmfbjmjhjmccaa.Am
set_option linter.unusedSimpArgs false
set_option linter.unusedVariables false
open Go

/-! ### What writes, what looks -/

theorem vr_nil {o : Option (Prop × AV)} {vc : Prop} {r : AV} {ws : Hp} (h : vr o = some (vc, r, ws)) : ws = [] := by
  unfold vr at h
  split at h
  · simp at h; exact h.2.2
  · simp at h

theorem exK_nil {S : Tab} {env : Env} {hp : Hp} {nm : Nm} {g : Bool} {k : AK} {vc : Prop} {r : AV} {ws : Hp} (hk : hw k = false) (h : exK S env hp nm g k = some (vc, r, ws)) : ws = [] := by
  cases k with
  | box _ _ => simp [hw] at hk
  | alloc _ => simp [hw] at hk
  | bsl _ _ _ _ => simp [hw] at hk
  | st _ _ _ => simp [hw] at hk
  | call _ _ => simp [hw] at hk
  | cv _ _ => simp [hw] at hk
  | app _ _ _ _ _ => simp [hw] at hk
  | slc _ _ _ _ _ => simp [hw] at hk
  | mv x => simp [exK] at h; exact h.2.2
  | pick c a b =>
    simp only [exK, exPick] at h
    split at h
    · split at h <;> simp at h <;> exact h.2.2
    · simp at h
  | build z ps =>
    simp only [exK, exBuild] at h
    split at h <;> simp at h
    exact h.2.2
  | ld sz ag x =>
    simp only [exK] at h
    generalize ung g (opv env x) = X at h
    unfold exLd at h
    split at h
    · split at h
      · exact vr_nil h
      · simp at h
    · split at h
      · exact vr_nil h
      · simp at h
    · split at h
      · split at h
        · exact vr_nil h
        · simp at h
      · simp at h
    · simp at h
  | fa o x =>
    simp only [exK] at h
    generalize ung g (opv env x) = X at h
    unfold exFa at h
    split at h <;> simp at h <;> exact h.2.2
  | fld o s ag x =>
    simp only [exK] at h
    generalize ung g (opv env x) = X at h
    unfold exFld at h
    split at h
    · split at h
      · exact vr_nil h
      · simp at h
    · simp at h
  | ia sz x i =>
    simp only [exK] at h
    generalize ung g (opv env x) = X at h
    generalize ung g (opv env i) = I at h
    unfold exIa at h
    split at h
    · simp at h; exact h.2.2
    · split at h <;> simp at h
      exact h.2.2
    · simp at h
  | iaA n sz x i =>
    simp only [exK] at h
    generalize ung g (opv env x) = X at h
    generalize ung g (opv env i) = I at h
    unfold exIaA at h
    split at h <;> simp at h <;> exact h.2.2
  | idxA n sz ag x i =>
    simp only [exK] at h
    generalize ung g (opv env x) = X at h
    generalize ung g (opv env i) = I at h
    unfold exIdxA at h
    split at h
    · split at h
      · exact vr_nil h
      · simp at h
    · simp at h
  | bin op tk x y =>
    cases tk with
    | cells n =>
      simp only [exK] at h
      generalize ung g (opv env x) = X at h
      generalize ung g (opv env y) = Y at h
      unfold exEqs at h
      split at h
      · split at h
        · split at h <;> simp at h <;> exact h.2.2
        · simp at h
      · simp at h
    | _ => simp only [exK] at h; exact vr_nil h
  | un op x => simp only [exK] at h; exact vr_nil h
  | ext x i =>
    simp only [exK] at h
    generalize ung g (opv env x) = X at h
    unfold exExt at h
    split at h
    · split at h <;> simp at h
      exact h.2.2
    · simp at h
  | len x =>
    simp only [exK] at h
    generalize ung g (opv env x) = X at h
    unfold exLen at h
    split at h
    · simp at h; exact h.2.2
    · split at h <;> simp at h
      exact h.2.2
    · simp at h
  | mm m xs =>
    simp only [exK] at h
    generalize (xs.map fun x => ung g (opv env x)) = X at h
    unfold exMm at h
    split at h
    · split at h <;> simp at h
      exact h.2.2
    · simp at h
  | mkf f a b => simp [exK] at h; exact h.2.2
  | nilc x =>
    simp only [exK] at h
    generalize ung g (opv env x) = X at h
    unfold exNil at h
    split at h <;> simp at h <;> exact h.2.2
  | cnv k x =>
    simp only [exK] at h
    generalize ung g (opv env x) = X at h
    unfold exCnv at h
    split at h <;> simp at h
    exact h.2.2
  | bad => simp [exK] at h

theorem exop_nil {S : Tab} {env : Env} {hp : Hp} {nm : Nm} {o : AOp} {vc : Prop} {r : AV} {ws : Hp} (hk : hw o.k = false) (h : exop S nm env hp o = some (vc, r, ws)) : ws = [] := by
  unfold exop at h
  split at h
  · exact exK_nil hk h
  · split at h
    · simp at h
    · split at h
      · simp at h; exact h.2.2
      · simp at h; exact h.2.2
      · rename_i he
        have := exK_nil hk he
        simp at this

theorem rdO_nil {env : Env} {hp : Hp} {o : AOp} (hk : ht o.k = false) : rdO env hp o = [] := by
  unfold rdO
  split
  · cases hc : o.k <;> simp [hc, ht, hw] at hk <;> rfl
  · rfl

/-! ### Records of a run in the order of the text -/

structure Rec where
  d : Option Nat
  r : AV
  ws : Hp
  rd : List Tch
  deriving Inhabited

def exdr (S : Tab) (ver : Nat) : Nat → List AOp → Env → Hp → Option (Prop × Env × Hp × List Rec)
  | _, [], env, hp => some (True, env, hp, [])
  | k, o :: r, env, hp =>
    match exop S (k, ver) env hp o with
    | none => none
    | some (vc, x, ws) =>
      match exdr S ver (k + 1) r (putE o.d x env) (ws ++ hp) with
      | none => none
      | some (vcs, e, h, rs) => some (vc ∧ vcs, e, h, ⟨o.d, x, ws, bif ht o.k then rdO env hp o else []⟩ :: rs)

def covB : Tch → Loc → Bool
  | .l x, y => decide (x = y)
  | .b n, .c m _ => decide (n = m)
  | .b _, .a _ => false
theorem covB_of {t : Tch} {l : Loc} (h : cov t l) : covB t l = true := by
  cases t with
  | l x => simpa [covB, cov] using h
  | b n => obtain ⟨j, rfl⟩ := h; simp [covB]

def hasL (l : Loc) (ws : Hp) : Bool := ws.any fun p => decide (p.1 = l)
def disj (a b : Rec) : Bool :=
  (a.ws.all fun p => (b.rd.all fun t => !covB t p.1) && !hasL p.1 b.ws) && b.ws.all fun p => a.rd.all fun t => !covB t p.1
def unOK (recs : List Rec) : List (Nat × Nat) → Bool
  | [] => true
  | (k, j) :: r => disj (recs.getD k default) (recs.getD j default) && unOK recs r

/-! ### The order, at compile time -/

/-! ### Masks -/

theorem mask_bit {B : List Nat} : ∀ {es : List Nat} {s k : Nat}, (es.foldl (fun s e => s ||| 2 ^ e ||| B.getD e 0) s).testBit k = true ↔ s.testBit k = true ∨ ∃ e ∈ es, k = e ∨ (B.getD e 0).testBit k = true
  | [], s, k => by simp
  | e :: es, s, k => by
    rw [List.foldl_cons, mask_bit]
    simp only [Nat.testBit_or, Bool.or_eq_true, Nat.testBit_two_pow, decide_eq_true_eq, List.mem_cons, exists_eq_or_imp]
    constructor
    · rintro ((h | h) | h)
      · rcases h with h | h
        · exact .inl h
        · exact .inr (.inl (.inl h.symm))
      · exact .inr (.inl (.inr h))
      · exact .inr (.inr h)
    · rintro (h | (h | h) | h)
      · exact .inl (.inl (.inl h))
      · exact .inl (.inl (.inr h.symm))
      · exact .inl (.inr h)
      · exact .inr h

theorem befOK_spec {B : List Nat} : ∀ {l : List Oper} {j : Nat}, befOK B j l = true → ∀ i o, l[i]? = some o → (∀ e ∈ edgesOf o, e < j + i) ∧ B.getD (j + i) 0 = maskOf B (edgesOf o)
  | [], _, _, i, o, ho => by simp at ho
  | p :: r, j, h, i, o, ho => by
    simp only [befOK, Bool.and_eq_true, List.all_eq_true, decide_eq_true_eq, beq_iff_eq] at h
    cases i with
    | zero => simp at ho; subst ho; exact h.1
    | succ i =>
      have := befOK_spec h.2 i o (by simpa using ho)
      rw [show j + (i + 1) = j + 1 + i by omega]
      exact this

theorem tFree_spec {a b : AOp} (h : tFree a b = true) : (∀ t, a.d = some t → t ∉ aopT b ∧ b.d ≠ some t) ∧ ∀ t, b.d = some t → t ∉ aopT a := by
  unfold tFree at h
  simp only [Bool.and_eq_true] at h
  refine ⟨fun t ht => ?_, fun t ht => ?_⟩
  · have := h.1; rw [ht] at this; simpa using this
  · have := h.2; rw [ht] at this; simpa using this

theorem rowOK_spec {B : Nat} {o : AOp} : ∀ {l : List AOp} {k : Nat}, rowOK B o k l = true → ∀ i p, l[i]? = some p → B.testBit (k + i) = true ∨ tFree p o = true
  | [], _, _, i, p, hp => by simp at hp
  | q :: r, k, h, i, p, hp => by
    simp only [rowOK, Bool.and_eq_true, Bool.or_eq_true] at h
    cases i with
    | zero => simp at hp; subst hp; exact h.1
    | succ i =>
      have := rowOK_spec h.2 i p (by simpa using hp)
      rw [show k + (i + 1) = k + 1 + i by omega]
      exact this
theorem rowUn_spec {B j : Nat} {o : AOp} : ∀ {l : List AOp} {k : Nat}, ∀ i p, l[i]? = some p → B.testBit (k + i) = true ∨ ((hw p.k && ht o.k) || (ht p.k && hw o.k)) = false ∨ (k + i, j) ∈ rowUn B j o k l
  | [], _, i, p, hp => by simp at hp
  | q :: r, k, i, p, hp => by
    simp only [rowUn]
    cases i with
    | zero =>
      simp at hp; subst hp
      rw [Nat.add_zero]
      cases h1 : B.testBit k with
      | true => exact .inl rfl
      | false =>
        right
        cases h2 : ((hw q.k && ht o.k) || (ht q.k && hw o.k)) with
        | false => exact .inl rfl
        | true => right; simp
    | succ i =>
      rcases rowUn_spec (B := B) (j := j) (o := o) (k := k + 1) i p (by simpa using hp) with h | h | h
      · rw [show k + (i + 1) = k + 1 + i by omega]; exact .inl h
      · exact .inr (.inl h)
      · right; right
        rw [show k + (i + 1) = k + 1 + i by omega]
        cases (!B.testBit k && ((hw q.k && ht o.k) || (ht q.k && hw o.k))) with
        | true => exact List.mem_cons_of_mem _ h
        | false => exact h
theorem tOK_spec {B : List Nat} {all : List AOp} : ∀ {l : List AOp} {j : Nat}, tOK B all j l = true → ∀ i o, l[i]? = some o → rowOK (B.getD (j + i) 0) o 0 (all.take (j + i)) = true
  | [], _, _, i, o, ho => by simp at ho
  | q :: r, j, h, i, o, ho => by
    simp only [tOK, Bool.and_eq_true] at h
    cases i with
    | zero => simp at ho; subst ho; exact h.1
    | succ i =>
      have := tOK_spec h.2 i o (by simpa using ho)
      rw [show j + (i + 1) = j + 1 + i by omega]
      exact this
theorem unl_spec {B : List Nat} {all : List AOp} : ∀ {l : List AOp} {j : Nat}, ∀ i o, l[i]? = some o → ∀ x ∈ rowUn (B.getD (j + i) 0) (j + i) o 0 (all.take (j + i)), x ∈ unl B all j l
  | [], _, i, o, ho => by simp at ho
  | q :: r, j, i, o, ho => by
    intro x hx
    simp only [unl, List.mem_append]
    cases i with
    | zero => simp at ho; subst ho; exact .inl hx
    | succ i =>
      right
      refine unl_spec (all := all) i o (by simpa using ho) x ?_
      rw [show j + (i + 1) = j + 1 + i by omega] at hx
      exact hx
theorem unOK_spec {recs : List Rec} : ∀ {u : List (Nat × Nat)}, unOK recs u = true → ∀ k j, (k, j) ∈ u → disj (recs.getD k default) (recs.getD j default) = true
  | [], _, k, j, h => by simp at h
  | (a, b) :: r, h, k, j, hm => by
    simp only [unOK, Bool.and_eq_true] at h
    rcases List.mem_cons.1 hm with e | e
    · simp at e; obtain ⟨rfl, rfl⟩ := e; exact h.1
    · exact unOK_spec h.2 k j e

theorem disj_spec {a b : Rec} (h : disj a b = true) (l : Loc) : (hasL l a.ws = true → (∀ t ∈ b.rd, ¬ cov t l) ∧ hasL l b.ws = false) ∧ (hasL l b.ws = true → ∀ t ∈ a.rd, ¬ cov t l) := by
  simp only [disj, Bool.and_eq_true, List.all_eq_true, Bool.not_eq_true'] at h
  constructor
  · intro hl
    simp only [hasL, List.any_eq_true, decide_eq_true_eq] at hl
    obtain ⟨p, hp, rfl⟩ := hl
    obtain ⟨h1, h2⟩ := h.1 p hp
    exact ⟨fun t ht hc => by have := h1 t ht; rw [covB_of hc] at this; simp at this, h2⟩
  · intro hl t ht hc
    simp only [hasL, List.any_eq_true, decide_eq_true_eq] at hl
    obtain ⟨p, hp, rfl⟩ := hl
    have := h.2 p hp t ht
    rw [covB_of hc] at this
    simp at this

/-! ### Lookups in a state made of records -/

def envL (rec : Nat → Rec) (env : Env) : List Nat → Env
  | [] => env
  | i :: L => putE (rec i).d (rec i).r (envL rec env L)
def hpL (rec : Nat → Rec) (hp : Hp) : List Nat → Hp
  | [] => hp
  | i :: L => (rec i).ws ++ hpL rec hp L

theorem lk_put {d : Option Nat} {x : AV} {env : Env} {t : Nat} : lk (putE d x env) t = if d = some t then x else lk env t := by
  cases d with
  | none => simp [putE]
  | some d => simp [putE, lk]

theorem hl_not {ws h : Hp} {l : Loc} (hn : hasL l ws = false) : hl (ws ++ h) l = hl h l := by
  induction ws with
  | nil => rfl
  | cons w ws ih =>
    obtain ⟨k, x⟩ := w
    simp only [hasL, List.any_cons, Bool.or_eq_false_iff, decide_eq_false_iff_not] at hn
    simp only [List.cons_append, hl, if_neg hn.1]
    exact ih hn.2
theorem hl_congr {ws h h' : Hp} {l : Loc} (e : hl h l = hl h' l) : hl (ws ++ h) l = hl (ws ++ h') l := by
  induction ws with
  | nil => exact e
  | cons w ws ih => obtain ⟨k, x⟩ := w; simp only [List.cons_append, hl, ih]

theorem envL_filter {rec : Nat → Rec} {env : Env} {t : Nat} : ∀ (L : List Nat), lk (envL rec env L) t = lk (envL rec env (L.filter fun i => decide ((rec i).d = some t))) t
  | [] => rfl
  | i :: L => by
    rw [List.filter_cons]
    simp only [envL, lk_put]
    by_cases h : (rec i).d = some t
    · simp [h, envL, lk_put]
    · simp only [h, if_neg, not_false_eq_true, decide_false, Bool.false_eq_true, if_false]
      exact envL_filter L
theorem hpL_filter {rec : Nat → Rec} {hp : Hp} {l : Loc} : ∀ (L : List Nat), hl (hpL rec hp L) l = hl (hpL rec hp (L.filter fun i => hasL l (rec i).ws)) l
  | [] => rfl
  | i :: L => by
    rw [List.filter_cons]
    simp only [hpL]
    cases h : hasL l (rec i).ws with
    | true => simp only [if_true, hpL]; exact hl_congr (hpL_filter L)
    | false => simp only [Bool.false_eq_true, if_false]; rw [hl_not h]; exact hpL_filter L

theorem sorted_eq : ∀ {L M : List Nat}, L.Pairwise (· > ·) → M.Pairwise (· > ·) → (∀ i, i ∈ L ↔ i ∈ M) → L = M
  | [], [], _, _, _ => rfl
  | [], m :: M, _, _, h => by have := (h m).2 (by simp); simp at this
  | l :: L, [], _, _, h => by have := (h l).1 (by simp); simp at this
  | l :: L, m :: M, h1, h2, h => by
    rw [List.pairwise_cons] at h1 h2
    have e : l = m := by
      rcases List.mem_cons.1 ((h l).1 (by simp)) with e | e
      · exact e
      · rcases List.mem_cons.1 ((h m).2 (by simp)) with e' | e'
        · exact e'.symm
        · have := h2.1 l e; have := h1.1 m e'; omega
    subst e
    rw [sorted_eq h1.2 h2.2 fun i => ?_]
    constructor
    · intro hi
      rcases List.mem_cons.1 ((h i).1 (List.mem_cons_of_mem _ hi)) with e | e
      · have := h1.1 i hi; omega
      · exact e
    · intro hi
      rcases List.mem_cons.1 ((h i).2 (List.mem_cons_of_mem _ hi)) with e | e
      · have := h2.1 i hi; omega
      · exact e

def down : Nat → List Nat
  | 0 => []
  | n + 1 => n :: down n
theorem mem_down : ∀ {n i : Nat}, i ∈ down n ↔ i < n
  | 0, i => by simp [down]
  | n + 1, i => by simp only [down, List.mem_cons, mem_down]; omega
theorem down_sorted : ∀ n, (down n).Pairwise (· > ·)
  | 0 => .nil
  | n + 1 => List.pairwise_cons.2 ⟨fun i hi => mem_down.1 hi, down_sorted n⟩

/-- Lists of what has been done, in an order that the pairs allow, look alike where it matters. -/
theorem filter_eq {p : Nat → Bool} {L : List Nat} {j : Nat} (hL : (L.filter p).Pairwise (· > ·)) (hm : ∀ i, p i = true → (i ∈ L ↔ i < j)) : L.filter p = (down j).filter p :=
  sorted_eq hL ((down_sorted j).filter p) fun i => by
    simp only [List.mem_filter, mem_down]
    exact ⟨fun h => ⟨(hm i h.2).1 h.1, h.2⟩, fun h => ⟨(hm i h.2).2 h.1, h.2⟩⟩

theorem exdr_spec {S : Tab} {ver bs : Nat} {rec : Nat → Rec} {env0 : Env} {hp0 : Hp} {all : List AOp} : ∀ (l : List AOp) (k : Nat) (rs : List Rec) (vc : Prop) (e : Env) (h : Hp),
    (∀ i, l[i]? = all[k + i]?) → exdr S ver (bs + k) l (envL rec env0 (down k)) (hpL rec hp0 (down k)) = some (vc, e, h, rs) → vc → (∀ i, i < l.length → rs[i]? = some (rec (k + i))) →
    e = envL rec env0 (down (k + l.length)) ∧ h = hpL rec hp0 (down (k + l.length)) ∧
    ∀ i o, l[i]? = some o → ∃ vc : Prop, vc ∧ exop S (bs + (k + i), ver) (envL rec env0 (down (k + i))) (hpL rec hp0 (down (k + i))) o = some (vc, (rec (k + i)).r, (rec (k + i)).ws) ∧ (rec (k + i)).d = o.d ∧ (rec (k + i)).rd = rdO (envL rec env0 (down (k + i))) (hpL rec hp0 (down (k + i))) o
  | [], k, rs, vc, e, h, _, hex, _, _ => by
    simp only [exdr, Option.some.injEq, Prod.mk.injEq] at hex
    obtain ⟨_, rfl, rfl, rfl⟩ := hex
    simp
  | o :: l, k, rs, vc, e, h, hl', hex, hvc, hrs => by
    simp only [exdr] at hex
    split at hex
    · simp at hex
    rename_i v1 r1 ws1 hex1
    split at hex
    · simp at hex
    rename_i v2 e2 h2 rs2 hex2
    simp only [Option.some.injEq, Prod.mk.injEq] at hex
    obtain ⟨rfl, rfl, rfl, rfl⟩ := hex
    have h0 := hrs 0 (by simp)
    simp only [List.getElem?_cons_zero, Option.some.injEq, Nat.add_zero] at h0
    have hd : (rec k).d = o.d := by rw [← h0]
    have hr : (rec k).r = r1 := by rw [← h0]
    have hw' : (rec k).ws = ws1 := by rw [← h0]
    have hrd : (rec k).rd = rdO (envL rec env0 (down k)) (hpL rec hp0 (down k)) o := by
      rw [← h0]
      cases hk : ht o.k with
      | true => rfl
      | false => simp only [cond_false]; exact (rdO_nil hk).symm
    have ih := exdr_spec (all := all) (rec := rec) (env0 := env0) (hp0 := hp0) l (k + 1) rs2 v2 e2 h2 (fun i => by have := hl' (i + 1); simpa [Nat.add_assoc, Nat.add_comm 1 i] using this)
      (by simp only [down, envL, hpL, hd, hr, hw']; exact hex2) hvc.2 (fun i hi => by
        have := hrs (i + 1) (by simp; omega)
        simpa [Nat.add_assoc, Nat.add_comm 1 i] using this)
    obtain ⟨i1, i2, i3⟩ := ih
    refine ⟨by rw [i1]; simp [Nat.add_assoc, Nat.add_comm 1], by rw [i2]; simp [Nat.add_assoc, Nat.add_comm 1], fun i p hp => ?_⟩
    cases i with
    | zero =>
      simp at hp; subst hp
      exact ⟨v1, hvc.1, by rw [Nat.add_zero, hr, hw']; exact hex1, hd, hrd⟩
    | succ i =>
      have := i3 i p (by simpa using hp)
      rw [show k + (i + 1) = k + 1 + i by omega]
      exact this
end Go.Proofs.Ytmmfbjmjhjmccaa.Am
