/-
  The abstract machine, part 14: the end of a function; a function's contract out of its code.
-/
import Derived.Test.YtmmfbjmjhjmccaaAmE
import Derived.RangeFuncRecord
namespace Go.Proofs.Ytmmfbjmjhjmccaa.Am
set_option linter.unusedSimpArgs false
set_option linter.unusedVariables false
open Go

inductive RV where
  | t (n : Nat)
  | c (n sz : Nat) (ag : Bool)
  deriving Inhabited

def cRV (P : Program) : ResultVar → Option RV
  | .tmp t => some (.t t)
  | .cell a t => match P.underlying t, P.info? t with
    | some d, some i => some (.c a i.size (isAggD d))
    | _, _ => none
def cRes (P : Program) : List ResultVar → Option (List RV)
  | [] => some []
  | r :: rs => match cRV P r, cRes P rs with
    | some x, some xs => some (x :: xs)
    | _, _ => none

def exRV (env : Env) (hp : Hp) : RV → Option (Prop × AV)
  | .t n => some (True, ung true (lk env n))
  | .c n sz ag => match exLd hp sz ag (ung true (lk env n)) with
    | some (vc, r, _) => some (vc, r)
    | none => none
def exRVs (env : Env) (hp : Hp) : List RV → Option (Prop × List AV)
  | [] => some (True, [])
  | r :: rs => match exRV env hp r, exRVs env hp rs with
    | some (v, x), some (vs, xs) => some (v ∧ vs, x :: xs)
    | _, _ => none
def one : List AV → AV
  | [x] => x
  | xs => .tup xs

mutual
/-- What is said less of a value. -/
def wk : AV → AV → Prop
  | .sl z f rows _, .sl z' f' rows' _ => rows = rows' ∧ (z = z' ∨ rows = []) ∧ (f' = true → f = true)
  | .agg a, .agg b => wkL a b
  | .tup a, .tup b => wkL a b
  | x, y => x = y
def wkL : List AV → List AV → Prop
  | [], [] => True
  | x :: xs, y :: ys => wk x y ∧ wkL xs ys
  | _, _ => False
end

mutual
theorem wk_sound {σ : Cf} : ∀ (x y : AV) (v : Value), wk x y → Rep σ x v → Rep σ y v
  | .sl z f rows d, y, v, h, hr => by
    cases y with
    | sl z' f' rows' d' =>
      simp only [wk] at h
      obtain ⟨rfl, h2, h3⟩ := h
      simp only [Rep] at hr ⊢
      obtain ⟨base, cap, e1, e2, e3, e4, e5⟩ := hr
      refine ⟨base, cap, e1, e2, fun e => e3 (h3 e), e4, ?_⟩
      rcases e5 with e5 | e5
      · exact .inl e5
      · rcases h2 with rfl | h2
        · exact .inr e5
        · exact .inl h2
    | _ => simp only [wk] at h; cases h
  | .agg a, y, v, h, hr => by
    cases y with
    | agg b =>
      simp only [wk] at h
      simp only [Rep] at hr ⊢
      obtain ⟨xs, e1, e2, e3⟩ := hr
      exact ⟨xs, e1, e2, wkL_sound a b xs h e3⟩
    | _ => simp only [wk] at h; cases h
  | .tup a, y, v, h, hr => by
    cases y with
    | tup b =>
      simp only [wk] at h
      simp only [Rep] at hr ⊢
      obtain ⟨xs, e1, e3⟩ := hr
      exact ⟨xs, e1, wkL_sound a b xs h e3⟩
    | _ => simp only [wk] at h; cases h
  | .v x, y, v, h, hr => by simp only [wk] at h; rw [← h]; exact hr
  | .ro _ _, y, v, h, hr => by simp only [wk] at h; rw [← h]; exact hr
  | .clo _ _ _, y, v, h, hr => by simp only [wk] at h; rw [← h]; exact hr
  | .box _ _, y, v, h, hr => by simp only [wk] at h; rw [← h]; exact hr
  | .own _ _, y, v, h, hr => by simp only [wk] at h; rw [← h]; exact hr
  | .elem _ _ _ _ _, y, v, h, hr => by simp only [wk] at h; rw [← h]; exact hr
  | .gd _ _, y, v, h, hr => by simp only [wk] at h; rw [← h]; exact hr
  | .un, y, v, h, hr => by simp only [wk] at h; rw [← h]; exact hr
theorem wkL_sound {σ : Cf} : ∀ (xs ys : List AV) (vs : List Value), wkL xs ys → RepL σ xs vs → RepL σ ys vs
  | [], [], vs, _, h => h
  | x :: xs, y :: ys, vs, h, hr => by
    simp only [wkL] at h
    simp only [RepL] at hr ⊢
    obtain ⟨u, us, e1, e2, e3⟩ := hr
    exact ⟨u, us, e1, wk_sound x y u h.1 e2, wkL_sound xs ys us h.2 e3⟩
  | [], _ :: _, vs, h, _ => by simp [wkL] at h
  | _ :: _, [], vs, h, _ => by simp [wkL] at h
end

/-- At the end of a function: its result is r. -/
def retOK (rvs : List RV) (r : AV) (s : St) : Prop :=
  ∃ vc xs, exRVs s.env s.hp rvs = some (vc, xs) ∧ vc ∧ rvc s.hp (one xs) ∧ wk (res s.hp (one xs)) r ∧ pureA r = true
def endK (rvs : List RV) (r : AV) : AE → St → Prop
  | .n, s => retOK rvs r s
  | .r, s => retOK rvs r s
  | .x _, _ => False

theorem endK_r {rvs : List RV} {r : AV} {e : Env} {h : Hp} {c : Nat} {vc : Prop} {xs : List AV} (h1 : exRVs e h rvs = some (vc, xs)) (h2 : vc) (h3 : rvc h (one xs)) (h4 : wk (res h (one xs)) r) (h5 : pureA r = true) : endK rvs r .r ⟨e, h, c⟩ := ⟨vc, xs, h1, h2, h3, h4, h5⟩
theorem endK_n {rvs : List RV} {r : AV} {e : Env} {h : Hp} {c : Nat} {vc : Prop} {xs : List AV} (h1 : exRVs e h rvs = some (vc, xs)) (h2 : vc) (h3 : rvc h (one xs)) (h4 : wk (res h (one xs)) r) (h5 : pureA r = true) : endK rvs r .n ⟨e, h, c⟩ := ⟨vc, xs, h1, h2, h3, h4, h5⟩

section
variable {P : Program}

def rv1 (tmps : Array Value) : ResultVar → Sem Value
  | .tmp t => pure (tmps.getD t undef)
  | .cell k t => do loadVar t (← asAddr (tmps.getD k undef))

theorem rv1_cell {tmps : Array Value} {k : Nat} {t : TypeId} {ad : Addr} {u : Value} {w : World} (h1 : tmps.getD k undef = .pointer (some ad)) (h2 : (loadVar t ad).run P w = .ok u w) : (rv1 tmps (.cell k t)).run P w = .ok u w := by
  simp only [rv1, Sem.run_bind, h1, asAddr, Sem.run_pure, Result.andThen, h2]

theorem exRVs_sound {σ : Cf} {s : St} {a : Act} {nt hb : Nat} (hI : Inv σ s.env s.hp a nt hb) : ∀ {rs : List ResultVar} {rvs : List RV} {vc : Prop} {xs : List AV}, cRes P rs = some rvs → exRVs s.env s.hp rvs = some (vc, xs) → vc →
    ∃ vs, (rs.mapM (rv1 a.tmps)).run P σ.w = .ok vs σ.w ∧ RepL σ xs vs
  | [], rvs, vc, xs, hc, hex, hvc => by
    simp [cRes] at hc; subst hc
    simp [exRVs] at hex
    obtain ⟨_, rfl⟩ := hex
    exact ⟨[], by simp, by simp [RepL]⟩
  | r :: rs, rvs, vc, xs, hc, hex, hvc => by
    simp only [cRes] at hc
    split at hc
    · rename_i rv rvs' h1 h2
      simp at hc; subst hc
      simp only [exRVs] at hex
      split at hex
      · rename_i v1 x1 v2 xs2 g1 g2
        simp only [Option.some.injEq, Prod.mk.injEq] at hex
        obtain ⟨rfl, rfl⟩ := hex
        obtain ⟨vs, k1, k2⟩ := exRVs_sound hI h2 g2 hvc.2
        cases r with
        | tmp t =>
          simp [cRV] at h1; subst h1
          simp only [exRV, Option.some.injEq, Prod.mk.injEq] at g1
          obtain ⟨_, rfl⟩ := g1
          refine ⟨a.tmps.getD t undef :: vs, ?_, _, _, rfl, ung_rep rfl (hI.t t), k2⟩
          rw [List.mapM_cons]
          simp only [Sem.run_bind, Sem.run_pure, Result.andThen, k1, rv1]
        | cell k t =>
          simp only [cRV] at h1
          split at h1
          · rename_i d i hd hi
            simp at h1; subst h1
            simp only [exRV] at g1
            split at g1
            · rename_i vc' r' ws' hex'
              simp only [Option.some.injEq, Prod.mk.injEq] at g1
              obtain ⟨rfl, rfl⟩ := g1
              obtain ⟨_, b, kk, u, e1, e2, e3⟩ := ld_run (P := P) hI.h hd hi (ung_rep rfl (hI.t k)) hex' hvc.1
              refine ⟨u :: vs, ?_, _, _, rfl, e3, k2⟩
              rw [List.mapM_cons]
              simp only [Sem.run_bind, Sem.run_pure, Result.andThen, k1, rv1_cell e1 e2]
            · simp at g1
          · simp at h1
      · simp at hex
    · simp at hc

theorem results_run {fn : Func} {tmps : Array Value} {w : World} {vs : List Value} (h : (fn.results.toList.mapM (rv1 tmps)).run P w = .ok vs w) :
    (results fn tmps).run P w = .ok (if h : vs.toArray.size = 1 then vs.toArray[0] else .tuple vs.toArray) w := by
  have hm : fn.results.mapM (rv1 tmps) = List.toArray <$> fn.results.toList.mapM (rv1 tmps) := by
    rw [Array.mapM_eq_mapM_toList]
  show (do let vs ← fn.results.mapM (rv1 tmps); pure (if h : vs.size = 1 then vs[0] else .tuple vs) : Sem Value).run P w = _
  rw [hm]
  simp only [Sem.run_bind, Sem.run_map, h, Result.andThen, Sem.run_pure]

def envOf : Nat → List AV → Env
  | _, [] => []
  | k, x :: xs => (k, x) :: envOf (k + 1) xs

theorem envOf_lk : ∀ (xs : List AV) (k t : Nat), lk (envOf k xs) t = if k ≤ t ∧ t < k + xs.length then xs.getD (t - k) .un else .un
  | [], k, t => by simp [envOf, lk]
  | x :: xs, k, t => by
    simp only [envOf, lk]
    by_cases h : k = t
    · subst h; simp
    · rw [if_neg h, envOf_lk xs (k + 1) t]
      by_cases h2 : k + 1 ≤ t ∧ t < k + 1 + xs.length
      · rw [if_pos h2, if_pos (by simp; omega), show t - k = (t - (k + 1)) + 1 from by omega]
        simp
      · rw [if_neg h2, if_neg (by simp; omega)]

theorem Oth.refl {σ : Cf} (h : ∀ b, σ.O b → b < σ.w.heap.size ∧ ¬ σ.M b) : Oth σ σ :=
  ⟨rfl, rfl, rfl, rfl, rfl, fun b hb => ⟨(h b hb).1, (h b hb).2, fun hf => hf.2.1 hb⟩, Nat.le_refl _, fun _ _ => rfl, fun _ _ _ _ h => h, SameO.refl _⟩
theorem Oth.trans {a b c : Cf} (h : Oth a b) (k : Oth b c) : Oth a c where
  rb := k.rb.trans h.rb
  ra := k.ra.trans h.ra
  ln := k.ln.trans h.ln
  al := k.al.trans h.al
  M := k.M.trans h.M
  ou x hx := ⟨(k.ou x hx).1, by have := (k.ou x hx).2.1; rw [h.M] at this; exact this, fun hf => (k.ou x hx).2.2 (h.ev.fz x hf)⟩
  sz := Nat.le_trans h.sz k.sz
  mem x hx := (k.mem x (by rw [h.M]; exact hx)).trans (h.mem x hx)
  fro x o y hf hc := k.fro x o y (h.ev.fz x hf) (h.fro x o y hf hc)
  io := h.io.trans k.io

/-- The marks are taken away. -/
theorem leaves_marks {F : Fence} {n hb : Nat} {fn : Func} {tmps : Array Value} {R : Ending → World → Prop} : ∀ (ds : List Deferred) (σ : Cf), (∀ b, σ.O b → b < σ.w.heap.size ∧ ¬ σ.M b) → DOK hb σ ds →
    (∀ τ, Oth σ τ → τ.O = σ.O → (∀ (b : Nat) (o : Obj), b < hb ∨ σ.O b → σ.w.heap[b]? = some o → τ.w.heap[b]? = some o) → ∃ v, (results fn tmps).run P τ.w = .ok v τ.w ∧ R (.returned v) τ.w) → LeavesInM F n P fn tmps R ds .returning σ.w
  | [], σ, hO, _, h => h σ (Oth.refl hO) rfl fun _ _ _ h => h
  | d :: ds, σ, hO, hd, h => by
    obtain ⟨r, h1, h2, h3, h4, h5⟩ := hd.all d (by simp)
    have hnd := hd.nd
    rw [List.pairwise_cons] at hnd
    let τ : Cf := { σ with w := σ.w.putObj r (.deferred none) }
    have hsz : τ.w.heap.size = σ.w.heap.size := World.putObj_size
    have k : Oth σ τ :=
      { rb := rfl, ra := rfl, ln := rfl, al := rfl, M := rfl
        ou := fun b hb => ⟨by rw [hsz]; exact (hO b hb).1, (hO b hb).2, fun hf => hf.2.1 hb⟩
        sz := by rw [hsz]; exact Nat.le_refl _
        mem := fun b hb => World.putObj_heap_other (by rintro rfl; exact h4 hb)
        fro := fun b o x _ hc => by
          by_cases e : b = r
          · subst e; simp [World.cell?, h3] at hc
          · simp only [World.cell?, show τ.w.heap[b]? = σ.w.heap[b]? from World.putObj_heap_other e]
            exact hc
        io := ⟨rfl, rfl⟩ }
    refine ⟨by simp, .inl ⟨r, τ.w, by rw [h1], run_takeDeferred h3, ?_⟩⟩
    refine leaves_marks ds τ (fun b hb => by rw [hsz]; exact hO b hb) ⟨fun d' hd' => ?_, hnd.2, by rw [hsz]; exact hd.le⟩ fun ρ k2 hO2 k3 => h ρ (k.trans k2) hO2 fun b o hb hc => k3 b o hb ?_
    · obtain ⟨r', g1, g2, g3, g4, g5⟩ := hd.all d' (by simp [hd'])
      have hne : r' ≠ r := by
        rintro rfl
        exact hnd.1 d' hd' (by rw [h1, g1])
      exact ⟨r', g1, g2, (World.putObj_heap_other hne).trans g3, g4, g5⟩
    · refine (World.putObj_heap_other ?_).trans hc
      rcases hb with hb | hb
      · omega
      · rintro rfl; exact h5 hb

/-- Nobody's memory but what is new. -/
def Cf.fresh (σ : Cf) : Cf := { rb := fun _ => 0, ra := fun _ => (none, 0), M := fun _ => False, O := fun b => σ.M b ∨ σ.O b, ln := fun _ => none, al := fun _ => False, w := σ.w }

theorem pcall_of {S : Tab} (hS : TabOK P S) {f : Nat} {fn : Func} {code : Code} {c : AC} {rvs : List RV} {args : List AV} {r : AV} (hf : P.funcs[f]? = some fn) (hb : fn.body = some code) (hc : cCode P fn.ntmps code = some c) (hr : cRes P fn.results.toList = some rvs)
    (hn : args.length ≤ fn.ntmps) (h : ∀ hb, awp (Ctx.fn P S fn.ntmps hb) c (endK rvs r) ⟨envOf 0 args, [], 0⟩) : PCall P f args r := by
  intro σ vs hlt hp hx
  have hlen := repL_len hx
  let τ := σ.fresh
  have hx' : RepL τ args vs := RepL.ofPure (σ := σ) (σ' := τ) (fun b hb => ⟨fun h => h, by rintro (h | h); exact hb.1 h; exact hb.2.1 h, hb.2.2⟩) (fun _ _ => rfl) args vs hp hx
  have hI : Inv τ (envOf 0 args) [] { tmps := vs.toArray ++ Array.replicate (fn.ntmps - vs.toArray.size) undef, defers := [] } fn.ntmps σ.w.heap.size := by
    refine ⟨⟨fun n => rfl, fun n j c h => by simp [hl] at h, fun n sz live rows d h => by simp [hl] at h, ?_, fun b h => h.elim, hlt, fun b h => h.elim⟩, fun t => ?_, by simp; omega, DOK.nil (Nat.le_refl _)⟩
    · rintro p q b (⟨_, _, j, c, h⟩ | ⟨_, ⟨_, _, _, h⟩, _⟩) _ <;> simp [hl] at h
    · rw [envOf_lk]
      split
      · rename_i ht
        simp only [Nat.zero_le, Nat.zero_add, true_and] at ht
        have hg : args[t]? = some args[t] := List.getElem?_eq_getElem ht
        obtain ⟨x, g1, g2⟩ := repL_get hx' t _ hg
        have e1 : args.getD (t - 0) .un = args[t] := by simp [ht]
        have hlt' : t < vs.length := by omega
        have e2 : (vs.toArray ++ Array.replicate (fn.ntmps - vs.toArray.size) undef).getD t undef = x := by
          rw [List.getElem?_eq_getElem hlt'] at g1
          simp at g1
          simp [Array.getD_eq_getD_getElem?, Array.getElem?_append_left, hlt', g1]
        rw [e1, e2]; exact g2
      · simp [Rep]
  have hw := h σ.w.heap.size code hc τ _ ⟨hI, fun m hm => hm.elim, trivial⟩
  refine callsIn_wide.1 (callsIn_of_wp_marks (n := 0) hf hb trivial (wpIn_mono hw ?_))
  rintro e a' w' ⟨σ', s', e', rfl, h2, h3, h4, h5⟩
  have h2 : Evo τ σ' := h2
  have key : ∀ (s' : St), At (Ctx.fn P S fn.ntmps σ.w.heap.size) σ' s' a' → retOK rvs r s' → LeavesInM Fence.wide 0 P fn a'.tmps (fun e w' => ∃ v', e = .returned v' ∧ (∀ (b : Nat) (o : Obj), σ.w.heap[b]? = some o → w'.heap[b]? = some o) ∧ SameO σ.w w' ∧ pureA r = true ∧ Rep (σ.at w') r v') a'.defers .returning σ'.w := by
    rintro s' hA ⟨vc, xs, g1, g2, g3, g4, g5⟩
    refine leaves_marks a'.defers σ' (fun b hb => ⟨hA.1.h.ou b hb, fun hM => hA.1.h.dis b hM hb⟩) hA.1.df fun ρ0 ko kO kb => ?_
    have hI' : Inv ρ0 s'.env s'.hp { a' with defers := [] } fn.ntmps σ.w.heap.size := ⟨hA.1.h.oth ko, hA.1.t.ev ko.ev, hA.1.sz, DOK.nil (Nat.le_trans hA.1.df.le ko.sz)⟩
    obtain ⟨us, k1, k2⟩ := exRVs_sound hI' hr g1 g2
    refine ⟨_, results_run k1, _, rfl, fun b o hb => kb b o (.inl (Array.getElem?_eq_some_iff.1 hb).1) (h2.fro b o hb (fun h => h)).1, h2.io.trans ko.io, g5, ?_⟩
    have hone : Rep ρ0 (one xs) (if h : us.toArray.size = 1 then us.toArray[0] else .tuple us.toArray) := by
      have hl' := repL_len k2
      unfold one
      split
      · rename_i x
        simp only [RepL] at k2
        obtain ⟨y, ys, rfl, e2, rfl⟩ := k2
        simpa using e2
      · rename_i hno
        have hne : us.toArray.size ≠ 1 := by
          intro h1
          simp at h1
          rw [h1] at hl'
          cases xs with
          | nil => simp at hl'
          | cons x xs => cases xs with
            | nil => exact hno x rfl
            | cons _ _ => simp at hl'
        rw [dif_neg hne]
        simp only [Rep]
        exact ⟨us, rfl, k2⟩
    -- nobody writes any more
    let ρ : Cf := { ρ0 with M := fun _ => False }
    have e : Evo ρ0 ρ := ⟨fun _ h => ⟨h, rfl⟩, fun _ _ l h => ⟨l, h, Nat.le_refl _, fun _ => rfl⟩, fun _ _ h _ => ⟨h, fun h => h⟩, rfl, Nat.le_refl _, SameO.refl _⟩
    have h6 := res_still (τ := ρ) hI'.h e rfl (fun _ h => h) _ _ g3 hone
    have h7 := wk_sound _ _ _ g4 h6
    refine Rep.ofPure (σ := ρ) (σ' := σ.at ρ0.w) (fun b hb => ?_) (fun _ _ => rfl) r _ g5 h7
    have hO : ρ.O = τ.O := kO.trans h2.out
    have hb1 := hb.2.1
    rw [hO] at hb1
    exact ⟨fun h => hb1 (.inl h), fun h => hb1 (.inr h), hb.2.2⟩
  cases e with
  | normal => simp [AE.of] at h4; subst h4; exact key s' h3 h5
  | ret => simp [AE.of] at h4; subst h4; exact key s' h3 h5
  | exit i => simp [AE.of] at h4; subst h4; exact h5.elim
  | goto l => simp [AE.of] at h4
  | panic c => simp [AE.of] at h4
  | outgrown => simp [AE.of] at h4

/-- A function, as the machine has it. -/
def cFun (P : Program) (fn : Func) : Option (AC × List RV) :=
  match fn.body with
  | some b => match cCode P fn.ntmps b, cRes P fn.results.toList with
    | some c, some r => some (c, r)
    | _, _ => none
  | none => none

theorem pcall_fn {S : Tab} (hS : TabOK P S) {f : Nat} {fn : Func} {c : AC} {rvs : List RV} {args : List AV} {r : AV} (nt : Nat) (hf : P.funcs[f]? = some fn) (hc : cFun P fn = some (c, rvs)) (hnt : fn.ntmps = nt)
    (hn : args.length ≤ nt) (h : ∀ hb, awp (Ctx.fn P S nt hb) c (endK rvs r) ⟨envOf 0 args, [], 0⟩) : PCall P f args r := by
  subst hnt
  unfold cFun at hc
  split at hc
  · rename_i b hb
    split at hc
    · rename_i c' r' h1 h2
      simp at hc
      obtain ⟨rfl, rfl⟩ := hc
      exact pcall_of hS hf hb h1 h2 hn h
    · simp at hc
  · simp at hc
end
end Go.Proofs.Ytmmfbjmjhjmccaa.Am
