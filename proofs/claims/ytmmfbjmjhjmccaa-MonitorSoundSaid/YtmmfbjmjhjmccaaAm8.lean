/-
  The abstract machine, part 8: contracts of functions; the operations, one by one.
-/
import Derived.Test.YtmmfbjmjhjmccaaAm7
namespace Go.Proofs.Ytmmfbjmjhjmccaa.Am
set_option linter.unusedSimpArgs false
set_option linter.unusedVariables false
open Go

/-- A function that leaves what was there as it was, and whose result hangs on its arguments alone. -/
def PCall (P : Program) (f : Nat) (args : List AV) (r : AV) : Prop :=
  ∀ (σ : Cf) (vs : List Value), (∀ b, σ.M b ∨ σ.O b → b < σ.w.heap.size) → pureL args = true → RepL σ args vs →
    Calls P f vs.toArray σ.w fun e w' => ∃ v, e = .returned v ∧ (∀ (b : Nat) (o : Obj), σ.w.heap[b]? = some o → w'.heap[b]? = some o) ∧ SameO σ.w w' ∧ pureA r = true ∧ Rep (σ.at w') r v

/-- A function with a body of its own. -/
def okF (P : Program) (f : Nat) : Prop := ∃ fn, P.funcs[f]? = some fn ∧ fn.body.isNone = false ∧ (fn.name == "runtime.NumGoroutine") = false

def TabOK (P : Program) (S : Tab) : Prop := ∀ f args vc r, S f args = some (vc, r) → vc → okF P f ∧ PCall P f args r

/-- The temporaries. -/
def TInv (σ : Cf) (env : Env) (a : Act) : Prop := ∀ t, Rep σ (lk env t) (a.tmps.getD t undef)

/-- What an operation does. -/
def Step (P : Program) (o : Oper) (a : Act) (σ : Cf) (nm : Nm) (hp' : Hp) (r : AV) : Prop :=
  (∃ v w' σ', ((execOp a.eval o).run P σ.w = .ok (.value v) w' ∨ ((execOp a.eval o).run P σ.w = .ok .skip w' ∧ v = undef)) ∧ Next σ nm hp' w' σ' ∧ Rep σ' r v) ∨
  (∃ f args, (execOp a.eval o).run P σ.w = .ok (.enter f args) σ.w ∧ Calls P f args σ.w fun e w' => ∃ v σ', e = .returned v ∧ Next σ nm hp' w' σ' ∧ Rep σ' r v)

theorem Next.same {σ : Cf} {nm : Nm} {hp : Hp} (h : HInv σ hp) : Next σ nm ([] ++ hp) σ.w σ := ⟨Evo.refl σ, h, rfl, fun _ h => .inl h⟩

/-- The operation leaves the memory alone. -/
theorem Step.quiet {P : Program} {o : Oper} {a : Act} {σ : Cf} {nm : Nm} {hp : Hp} {r : AV} {v : Value} (h : HInv σ hp) (hr : (execOp a.eval o).run P σ.w = .ok (.value v) σ.w) (hv : Rep σ r v) :
    Step P o a σ nm ([] ++ hp) r := .inl ⟨v, σ.w, σ, .inl hr, Next.same h, hv⟩

theorem ung_rep {σ : Cf} {g : Bool} (hg : g = true) {x : AV} {v : Value} (h : Rep σ x v) : Rep σ (ung g x) v := by
  unfold ung
  split
  · rename_i b y
    simp only [Rep] at h
    cases hb : imp g b with
    | true =>
      subst hg
      simp [imp] at hb
      simpa using h.1 hb
    | false => simp [Rep]
  · exact h

def ofC : Value → AV
  | .slice none 0 0 => .sl 0 true [] []
  | v => .v v
def ofV : Value → AV
  | .agg cs => if cs.toList.all oneC = true then .agg (cs.toList.map ofC) else .v (.agg cs)
  | v => ofC v

theorem ofC_rep (σ : Cf) (v : Value) : Rep σ (ofC v) v := by
  unfold ofC
  split
  · simp [Rep]
  · simp [Rep]

theorem ofCs_rep (σ : Cf) : ∀ xs : List Value, RepL σ (xs.map ofC) xs
  | [] => by simp [RepL]
  | x :: xs => ⟨x, xs, rfl, ofC_rep σ x, ofCs_rep σ xs⟩

theorem ofV_rep (σ : Cf) (v : Value) : Rep σ (ofV v) v := by
  unfold ofV
  split
  · split
    · rename_i cs h
      simp only [Rep]
      exact ⟨cs.toList, by simp, List.all_eq_true.1 h, ofCs_rep σ _⟩
    · simp [Rep]
  · exact ofC_rep σ v

def opd : Operand → Opd
  | .tmp t => .t t
  | .const v => .k (ofV v)
  | .global g => .k (.v (.pointer (some ⟨g, 0, none⟩)))
  | .func f => .k (.clo (.func f) [] [])

theorem opd_rep {σ : Cf} {env : Env} {a : Act} (h : TInv σ env a) (x : Operand) : Rep σ (opv env (opd x)) (a.eval x) := by
  cases x with
  | tmp t => exact h t
  | const v => exact ofV_rep σ v
  | global g => simp [opd, opv, Act.eval, Rep]
  | func f => simp [opd, opv, Act.eval, Rep, RepL]

theorem arg_rep {σ : Cf} {env : Env} {a : Act} {g : Bool} (hg : g = true) (h : TInv σ env a) (x : Operand) : Rep σ (ung g (opv env (opd x))) (a.eval x) := ung_rep hg (opd_rep h x)

theorem args_rep {σ : Cf} {env : Env} {a : Act} {g : Bool} (hg : g = true) (h : TInv σ env a) : ∀ xs : List Operand, RepL σ ((xs.map opd).map fun x => ung g (opv env x)) (xs.map a.eval)
  | [] => by simp [RepL]
  | x :: xs => ⟨_, _, rfl, arg_rep hg h x, args_rep hg h xs⟩

theorem inR_wrap {k : IntKind} {n : Int} (h : inR k n) : k.wrap n = n := by
  cases k <;> first | exact IntWalk.i64_in n h | exact h

/-- A value's cells. -/
theorem cells_rep {σ : Cf} {x : AV} {cs : List AV} {v : Value} (hc : x.cells = some cs) (hr : Rep σ x v) : RepL σ cs v.cells.toList ∧ ∀ y ∈ v.cells.toList, oneC y = true := by
  have one : ∀ (y : AV), Rep σ y v → oneC v = true → RepL σ [y] v.cells.toList ∧ ∀ z ∈ v.cells.toList, oneC z = true := by
    intro y hy h1
    have : v.cells.toList = [v] := by cases v <;> simp_all [Value.cells, oneC]
    rw [this]
    exact ⟨⟨v, [], rfl, hy, rfl⟩, by simpa using h1⟩
  cases x with
  | agg ds =>
    simp only [AV.cells, Option.some.injEq] at hc
    subst hc
    simp only [Rep] at hr
    obtain ⟨xs, rfl, h1, h2⟩ := hr
    exact ⟨by simpa [Value.cells] using h2, by simpa [Value.cells] using h1⟩
  | v y =>
    simp only [AV.cells] at hc
    split at hc
    · rename_i h1
      simp at hc; subst hc
      have : v = y := by simpa [Rep] using hr
      subst this
      exact one _ hr h1
    · simp at hc
  | sl a b c d =>
    simp only [AV.cells, Option.some.injEq] at hc; subst hc
    refine one _ hr ?_
    simp only [Rep] at hr; obtain ⟨_, _, rfl, _⟩ := hr; rfl
  | ro a b =>
    simp only [AV.cells, Option.some.injEq] at hc; subst hc
    refine one _ hr ?_
    simp only [Rep] at hr; obtain ⟨_, _, rfl, _⟩ := hr; rfl
  | clo a b c =>
    simp only [AV.cells, Option.some.injEq] at hc; subst hc
    refine one _ hr ?_
    simp only [Rep] at hr; obtain ⟨_, _, rfl, _⟩ := hr; rfl
  | box a b =>
    simp only [AV.cells, Option.some.injEq] at hc; subst hc
    refine one _ hr ?_
    simp only [Rep] at hr; obtain ⟨_, rfl⟩ := hr; rfl
  | own a b =>
    simp only [AV.cells, Option.some.injEq] at hc; subst hc
    refine one _ hr ?_
    simp only [Rep] at hr; exact hr.2.1
  | tup _ => simp [AV.cells] at hc
  | elem _ _ _ _ _ => simp [AV.cells] at hc
  | gd _ _ => simp [AV.cells] at hc
  | un => simp [AV.cells] at hc

theorem repL_pureL_map {σ : Cf} {cs : List AV} {xs : List Value} (h : RepL σ cs xs) : xs.length = cs.length := repL_len h

/-- The memory of a box, read. -/
theorem hcut_vals {σ : Cf} {hp : Hp} (h : HInv σ hp) {n : Nm} : ∀ {k o : Nat} {cs : List AV}, hcut hp n o k = some cs → ∃ vs, RepL σ cs vs ∧ (∀ x ∈ vs, oneC x = true) ∧ Lies σ.w (σ.rb n) o vs ∧ vs.length = k
  | 0, o, cs, hc => by
    simp [hcut] at hc; subst hc
    exact ⟨[], by simp [RepL], by simp, by intro j v hj; simp at hj, rfl⟩
  | k + 1, o, cs, hc => by
    simp only [hcut] at hc
    split at hc
    · rename_i c hl'
      cases hk : hcut hp n (o + 1) k with
      | none => simp [hk] at hc
      | some ds =>
        simp [hk] at hc; subst hc
        obtain ⟨vs, h1, h2, h3, h4⟩ := hcut_vals h hk
        obtain ⟨_, _, ar, T, x, g3, g4, g5, g6⟩ := h.cel n o c hl'
        refine ⟨x :: vs, ⟨x, vs, rfl, g6, h1⟩, fun y hy => (List.mem_cons.1 hy).elim (fun e => e ▸ g5) (h2 y), fun j v hj => ?_, by simp [h4]⟩
        cases j with
        | zero => simp at hj; subst hj; simp [World.cell?, g3, g4]
        | succ j => have := h3 j v (by simpa using hj); rwa [show o + 1 + j = o + (j + 1) from by omega] at this
    · simp at hc

theorem cut_spec : ∀ {o k : Nat} {cs ds : List AV}, cut o k cs = some ds → (∀ j, j < k → ds[j]? = cs[o + j]?) ∧ ds.length = k ∧ o + k ≤ cs.length
  | 0, 0, cs, ds, h => by simp [cut] at h; subst h; simp
  | 0, k + 1, [], ds, h => by simp [cut] at h
  | 0, k + 1, c :: cs, ds, h => by
    simp only [cut] at h
    cases hk : cut 0 k cs with
    | none => simp [hk] at h
    | some es =>
      simp [hk] at h; subst h
      obtain ⟨h1, h2, h3⟩ := cut_spec hk
      refine ⟨fun j hj => ?_, by simp [h2], by simp; omega⟩
      cases j with
      | zero => simp
      | succ j => simpa using h1 j (by omega)
  | o + 1, k, [], ds, h => by cases k <;> simp [cut] at h
  | o + 1, k, c :: cs, ds, h => by
    simp only [cut] at h
    obtain ⟨h1, h2, h3⟩ := cut_spec h
    refine ⟨fun j hj => ?_, h2, by simp; omega⟩
    rw [h1 j hj, show o + 1 + j = (o + j) + 1 from by omega]
    simp

theorem cut_vals {σ : Cf} {cs ds : List AV} {xs : List Value} {o k : Nat} (hc : cut o k cs = some ds) (h : RepL σ cs xs) : ∃ vs, vs = (xs.drop o).take k ∧ RepL σ ds vs ∧ vs.length = k := by
  obtain ⟨h1, h2, h3⟩ := cut_spec hc
  have hl := repL_len h
  refine ⟨_, rfl, repL_of (by simp; omega) fun i c hi => ?_, by simp; omega⟩
  have hlt : i < k := by have := (List.getElem?_eq_some_iff.1 hi).1; omega
  rw [h1 i hlt] at hi
  obtain ⟨x, g1, g2⟩ := repL_get h _ c hi
  refine ⟨x, ?_, g2⟩
  rw [List.getElem?_take_of_lt hlt, List.getElem?_drop]; exact g1

def isAggD : TypeDesc → Bool
  | .struct _ => true
  | .array _ _ => true
  | _ => false

theorem run_isAgg {P : Program} {t : TypeId} {d : TypeDesc} (h : P.underlying t = some d) (w : World) : (isAgg t).run P w = .ok (isAggD d) w := by
  unfold isAgg
  simp only [Sem.run_bind, run_underlying h, Result.andThen]
  cases d <;> simp [isAggD]

theorem run_sizeOf {P : Program} {t : TypeId} {i : TypeInfo} (h : P.info? t = some i) (w : World) : (sizeOf t).run P w = .ok i.size w := by
  simp [sizeOf, typeInfo, h]

theorem run_load {P : Program} {w : World} {a : Addr} {v : Value} (h : w.cell? a = some v) : (load a).run P w = .ok v w := by
  simp [load, Sem.run, h]

/-- A variable read: its cells lie there. -/
theorem run_loadVar {P : Program} {t : TypeId} {d : TypeDesc} {i : TypeInfo} (hd : P.underlying t = some d) (hi : P.info? t = some i) {w : World} {b o : Nat} {vs : List Value} (hl : Lies w b o vs) (hn : vs.length = i.size) {σ : Cf} {cs : List AV} {r : AV}
    (hr : RepL σ cs vs) (h1 : ∀ x ∈ vs, oneC x = true) (hm : mkv (isAggD d) cs = some r) : ∃ v, (loadVar t ⟨b, o, none⟩).run P w = .ok v w ∧ Rep σ r v := by
  unfold loadVar
  cases ha : isAggD d with
  | true =>
    rw [ha] at hm
    simp [mkv] at hm
    subst hm
    refine ⟨.agg vs.toArray, ?_, by simp only [Rep]; exact ⟨vs, rfl, h1, hr⟩⟩
    have hlc := run_loadCells_list (P := P) w ⟨b, o, none⟩ vs (fun j v hj => by rw [addr_add]; exact hl j v hj)
    simp [run_isAgg hd, ha, run_sizeOf hi, ← hn, hlc]
  | false =>
    rw [ha] at hm
    cases cs with
    | nil => simp [mkv] at hm
    | cons c cs =>
      cases cs with
      | cons _ _ => simp [mkv] at hm
      | nil =>
        simp [mkv] at hm
        subst hm
        simp only [RepL] at hr
        obtain ⟨v, ys, rfl, hv, rfl⟩ := hr
        refine ⟨v, ?_, hv⟩
        have := run_load (P := P) (hl 0 v (by simp))
        simp at this
        simp [run_isAgg hd, ha, this]

theorem rowAt_get {rows : List (List AV)} {d : List AV} {i : Nat} (h : i < rows.length) : rows[i]? = some (rowAt rows d i) := by
  simp [rowAt, h]
end Go.Proofs.Ytmmfbjmjhjmccaa.Am
