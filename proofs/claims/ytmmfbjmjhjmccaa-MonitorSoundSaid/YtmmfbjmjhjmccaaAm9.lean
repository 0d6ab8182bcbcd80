/-
  The abstract machine, part 9: what the operations of a program are to it, and that they do what it says.
-/
import Derived.Test.YtmmfbjmjhjmccaaAm8
namespace Go.Proofs.Ytmmfbjmjhjmccaa.Am
set_option linter.unusedSimpArgs false
set_option linter.unusedVariables false
open Go

def cZero (P : Program) (t : TypeId) : Option (List AV) :=
  match P.info? t with
  | some i => match i.zero with
    | some z => if z.cells.toList.all oneC = true ∧ z.cells.size = i.size then some (z.cells.toList.map ofC) else none
    | none => none
  | none => none

/-- Where the parts of a value lie. -/
def placesF (P : Program) (t : TypeId) : Option (Nat → Option (Nat × Nat)) :=
  match P.underlying t with
  | some (.struct fs) => (fs.toList.mapM (fun f => (P.info? f.type).map fun i => (f.offset, i.size))).map fun pl => (pl.toArray[·]?)
  | some (.array _ e) => (P.info? e).map fun j => fun i => some (i * j.size, j.size)
  | _ => none

def cParts (pf : Nat → Option (Nat × Nat)) : List (Nat × Operand) → Option (List (Nat × Nat × Opd))
  | [] => some []
  | (i, x) :: r =>
    match pf i, cParts pf r with
    | some (o, s), some ps => some ((o, s, opd x) :: ps)
    | _, _ => none

def cBuild (P : Program) (t : TypeId) (parts : List (Nat × Operand)) : AK :=
  match cZero P t, placesF P t with
  | some zs, some pf => match cParts pf parts with
    | some ps => .build zs ps
    | none => .bad
  | _, _ => .bad

def cBin (P : Program) (op : BinOp) (t : TypeId) (x y : Opd) : AK :=
  match op with
  | .shl => .bad
  | .shr => .bad
  | op => match P.underlying t with
    | some (.int _) => .bin op .int x y
    | some .bool => .bin op .bool x y
    | _ => .bad

def cCall (P : Program) (c : Call) : AK :=
  match c.callee with
  | .value (.func f) => .call f (c.args.toList.map opd)
  | .value x => .cv (opd x) (c.args.toList.map opd)
  | .builtin .len => match c.args.toList, c.argTypes.toList with
    | [x], [t] => match P.underlying t with
      | some (.slice _) => .len (opd x)
      | _ => .bad
    | _, _ => .bad
  | .builtin .append => match c.args.toList, c.argTypes.toList with
    | [s, x], [t, t'] => if t = t' then match P.underlying t with
      | some (.slice e) => match P.info? e, cZero P e with
        | some i, some zs => if 0 < i.size ∧ 0 < i.bytes then .app i.size i.bytes zs (opd s) (opd x) else .bad
        | _, _ => .bad
      | _ => .bad
      else .bad
    | _, _ => .bad
  | .builtin .max => .mm true (c.args.toList.map opd)
  | .builtin .min => .mm false (c.args.toList.map opd)
  | _ => .bad

def cK (P : Program) (op : Op) : AK :=
  match op with
  | .move x => .mv (opd x)
  | .assign x => .mv (opd x)
  | .pick c a b => .pick (opd c) (opd a) (opd b)
  | .alloc t => match cZero P t with
    | some zs => .alloc zs
    | none => .bad
  | .box t x => .box (P.cellsOf t) (opd x)
  | .build t parts => cBuild P t parts.toList
  | .buildSlice t len parts => match P.underlying t with
    | some (.slice e) => match P.info? e, cZero P e with
      | some i, some zs => if 0 < i.size ∧ len * i.size ≤ 16777216 then .bsl i.size len zs (parts.toList.map fun (j, x) => (j, opd x)) else .bad
      | _, _ => .bad
    | _ => .bad
  | .load t x => match P.underlying t, P.info? t with
    | some d, some i => .ld i.size (isAggD d) (opd x)
    | _, _ => .bad
  | .store t a x => match P.info? t with
    | some i => .st i.size (opd a) (opd x)
    | none => .bad
  | .fieldAddr s x f => match P.underlying s with
    | some (.struct fs) => match fs[f]? with
      | some fd => match P.info? fd.type with
        | some i => if i.size = 0 then .bad else .fa fd.offset (opd x)
        | none => .bad
      | none => .bad
    | _ => .bad
  | .field t x f => match P.underlying t with
    | some (.struct fs) => match fs[f]? with
      | some fd => match P.underlying fd.type, P.info? fd.type with
        | some d, some i => .fld fd.offset i.size (isAggD d) (opd x)
        | _, _ => .bad
      | none => .bad
    | _ => .bad
  | .indexAddr t x ix => match P.underlying t with
    | some (.slice e) => match P.info? e with
      | some i => .ia i.size (opd x) (opd ix)
      | none => .bad
    | some (.array n e) => match P.info? e with
      | some i => .iaA n i.size (opd x) (opd ix)
      | none => .bad
    | _ => .bad
  | .index t x ix => match P.underlying t with
    | some (.array n e) => match P.underlying e, P.info? e with
      | some d, some i => .idxA n i.size (isAggD d) (opd x) (opd ix)
      | _, _ => .bad
    | _ => .bad
  | .binOp op t x y _ => cBin P op t (opd x) (opd y)
  | .unOp op _ x => .un op (opd x)
  | .extract x i => .ext (opd x) i
  | .call c => cCall P c
  | .makeFunc fn a b => .mkf fn (a.toList.map opd) (b.toList.map opd)
  | .slice t x lo hi mx => match P.underlying t with
    | some (.slice e) => match P.info? e with
      | some i => .slc i.size (opd x) (lo.map opd) (hi.map opd) (mx.map opd)
      | none => .bad
    | _ => .bad
  | .nilCheck x => .nilc (opd x)
  | .convert src dst x => match P.underlying src, P.underlying dst with
    | some (.int _), some (.int k) => .cnv k (opd x)
    | _, _ => .bad
  | _ => .bad

section
variable {P : Program} {o : Oper} {a : Act} {σ : Cf} {nm : Nm} {hp : Hp} {r : AV} {vc : Prop} {ws : Hp}

theorem cZero_spec {t : TypeId} {zs : List AV} (h : cZero P t = some zs) : ∃ i z, P.info? t = some i ∧ i.zero = some z ∧ (∀ x ∈ z.cells.toList, oneC x = true) ∧ z.cells.size = i.size ∧ zs = z.cells.toList.map ofC := by
  unfold cZero at h
  split at h
  · rename_i i hi
    split at h
    · rename_i z hz
      split at h
      · rename_i hc
        simp at h
        exact ⟨i, z, hi, hz, List.all_eq_true.1 hc.1, hc.2, h.symm⟩
      · simp at h
    · simp at h
  · simp at h

theorem step_box (h : HInv σ hp) (hnm : ¬ σ.al nm) {t : TypeId} {x : Operand} {X : AV} {cs : List AV} (ho : o.op = .box t x) (hx : Rep σ X (a.eval x)) (hc : X.cells = some cs) :
    Step P o a σ nm (newc nm 0 cs ++ hp) (.box nm 0) := by
  obtain ⟨h1, h2⟩ := cells_rep hc hx
  have e := Evo.newBox (σ := σ) (n := nm) (o := .cells (a.eval x).cells t) hnm
  have hi := h.newBox hnm (T := t) h1 h2
  rw [Array.toArray_toList] at hi
  refine .inl ⟨_, _, _, .inl ?_, ⟨e, hi, rfl, fun m hm => hm⟩, ⟨.inr rfl, rfl⟩⟩
  simp [execOp, ho, Instr.box, newVar, newRow, newObj, Sem.run, Cf.newBox]

theorem step_alloc (h : HInv σ hp) (hnm : ¬ σ.al nm) {t : TypeId} {zs : List AV} (ho : o.op = .alloc t) (hz : cZero P t = some zs) :
    Step P o a σ nm (newc nm 0 zs ++ hp) (.box nm 0) := by
  obtain ⟨i, z, h1, h2, h3, _, rfl⟩ := cZero_spec hz
  have e := Evo.newBox (σ := σ) (n := nm) (o := .cells z.cells t) hnm
  have hi := h.newBox hnm (T := t) (ofCs_rep σ z.cells.toList) h3
  rw [Array.toArray_toList] at hi
  refine .inl ⟨_, _, _, .inl ?_, ⟨e, hi, rfl, fun m hm => hm⟩, ⟨.inr rfl, rfl⟩⟩
  simp [execOp, ho, Instr.alloc, zeroValue, typeInfo, h1, h2, newVar, newRow, newObj, Sem.run, Cf.newBox]

theorem elem_addr (h : HInv σ hp) {n : Nm} {l es i' k sz : Nat} {live : Bool} {rows : List (List AV)} {d : List AV} {v : Value} (hn : hl hp (.a n) = some (.sl sz live rows d))
    (hr : Rep σ (.elem n l es i' k) v) (he : es = sz) (hl1 : l = rows.length) (hlt : i' < rows.length) :
    ∃ b k0 cap, σ.ra n = (some ⟨b, k0, none⟩, cap) ∧ v = .pointer (some ⟨b, k0 + i' * sz + k, none⟩) ∧ 0 < cap ∧ rows.length ≤ cap ∧ RepRows σ sz b k0 rows ∧
      (live = true → σ.M b ∧ ∃ cs T, σ.w.heap[b]? = some (.cells cs T (0, 0)) ∧ k0 + cap * sz ≤ cs.size) := by
  subst he hl1
  have hln : σ.ln n = some rows.length := by have := h.ln n; simpa [lenOf, hn] using this
  simp only [Rep] at hr
  obtain ⟨b, k0, h1, h2⟩ := (hr.2.2 _ hln).2 rfl
  obtain ⟨_, _, _, h3⟩ := h.arr n es live rows d hn
  rcases h3 with ⟨a, h3, rfl⟩ | ⟨b', o', cap, h3, h4, h5, h6, h7, _⟩
  · simp at hlt
  · rw [h3] at h1
    simp at h1
    obtain ⟨rfl, rfl⟩ := h1
    exact ⟨b', o', cap, h3, h2, h4, h5, h6, h7⟩

theorem ld_run (h : HInv σ hp) {t : TypeId} {xv : Value} {X : AV} {d : TypeDesc} {i : TypeInfo} (hd : P.underlying t = some d) (hi : P.info? t = some i) (hx : Rep σ X xv)
    (hex : exLd hp i.size (isAggD d) X = some (vc, r, ws)) (hvc : vc) : ws = [] ∧ ∃ b k u, xv = .pointer (some ⟨b, k, none⟩) ∧ (loadVar t ⟨b, k, none⟩).run P σ.w = .ok u σ.w ∧ Rep σ r u := by
  have fin : ∀ (b k : Nat) (vs : List Value) (cs : List AV), xv = .pointer (some ⟨b, k, none⟩) → Lies σ.w b k vs → vs.length = i.size → RepL σ cs vs → (∀ y ∈ vs, oneC y = true) → mkv (isAggD d) cs = some r → ws = [] → ws = [] ∧ ∃ b k u, xv = .pointer (some ⟨b, k, none⟩) ∧ (loadVar t ⟨b, k, none⟩).run P σ.w = .ok u σ.w ∧ Rep σ r u := by
    intro b k vs cs e1 e2 e3 e4 e5 e6 e7
    obtain ⟨v, g1, g2⟩ := run_loadVar hd hi e2 e3 e4 e5 e6
    exact ⟨e7, b, k, v, e1, g1, g2⟩
  have fromCut : ∀ (b k0 k : Nat) (cs ds : List AV), xv = .pointer (some ⟨b, k0 + k, none⟩) → RepCells σ b k0 cs → cut k i.size cs = some ds → mkv (isAggD d) ds = some r → ws = [] → ws = [] ∧ ∃ b k u, xv = .pointer (some ⟨b, k, none⟩) ∧ (loadVar t ⟨b, k, none⟩).run P σ.w = .ok u σ.w ∧ Rep σ r u := by
    intro b k0 k cs ds e1 e4 hds hm e7
    obtain ⟨vs, g1, g2, g3⟩ := repCells_vals e4
    obtain ⟨us, rfl, k1, k2⟩ := cut_vals hds g1
    refine fin _ _ _ ds e1 (fun j v hj => ?_) k2 k1 (fun y hy => g2 y (List.mem_of_mem_drop (List.mem_of_mem_take hy))) hm e7
    have hlt := (List.getElem?_eq_some_iff.1 hj).1
    rw [List.getElem?_take_of_lt (by omega), List.getElem?_drop] at hj
    rw [Nat.add_assoc]
    exact g3 _ _ hj
  cases X with
  | box n k =>
    simp only [Rep] at hx
    simp only [exLd] at hex
    split at hex
    · rename_i cs hcs
      cases hm : mkv (isAggD d) cs with
      | none => simp [hm, vr] at hex
      | some r' =>
        simp only [hm, vr, Option.map_some, Option.some.injEq, Prod.mk.injEq] at hex
        obtain ⟨_, rfl, rfl⟩ := hex
        obtain ⟨vs, g1, g2, g3, g4⟩ := hcut_vals h hcs
        exact fin _ _ vs cs hx.2 g3 g4 g1 g2 hm rfl
    · simp at hex
  | ro cs k =>
    simp only [Rep] at hx
    obtain ⟨b, k0, e1, e2, _, e4⟩ := hx
    simp only [exLd] at hex
    split at hex
    · rename_i ds hds
      cases hm : mkv (isAggD d) ds with
      | none => simp [hm, vr] at hex
      | some r' =>
        simp only [hm, vr, Option.map_some, Option.some.injEq, Prod.mk.injEq] at hex
        obtain ⟨_, rfl, rfl⟩ := hex
        exact fromCut b k0 k cs ds e1 e4 hds hm rfl
    · simp at hex
  | elem n l es i' k =>
    simp only [exLd] at hex
    split at hex
    · rename_i sz live rows d' hn
      split at hex
      · rename_i ds hds
        cases hm : mkv (isAggD d) ds with
        | none => simp [hm, vr] at hex
        | some r' =>
          simp only [hm, vr, Option.map_some, Option.some.injEq, Prod.mk.injEq] at hex
          obtain ⟨rfl, rfl, rfl⟩ := hex
          obtain ⟨he, hl1, hlt⟩ := hvc
          obtain ⟨b, k0, cap, g1, g2, _, _, g5, _⟩ := elem_addr h hn hx he hl1 hlt
          exact fromCut b (k0 + i' * sz) k _ ds g2 (repRows_get g5 i' _ (rowAt_get hlt)).2 hds hm rfl
      · simp at hex
    · simp at hex
  | _ => simp [exLd] at hex

theorem step_ld (h : HInv σ hp) {t : TypeId} {x : Operand} {X : AV} {d : TypeDesc} {i : TypeInfo} (ho : o.op = .load t x) (hd : P.underlying t = some d) (hi : P.info? t = some i) (hx : Rep σ X (a.eval x))
    (hex : exLd hp i.size (isAggD d) X = some (vc, r, ws)) (hvc : vc) : Step P o a σ nm (ws ++ hp) r := by
  obtain ⟨rfl, b, k, u, e1, e2, e3⟩ := ld_run h hd hi hx hex hvc
  refine Step.quiet h ?_ e3
  simp [execOp, ho, Instr.loadAt, Instr.sureAddr, e1, e2]

theorem over_spec : ∀ {cs ds rs : List AV} {k : Nat}, over cs k ds = some rs → rs.length = cs.length ∧ k + ds.length ≤ cs.length ∧ ∀ j, rs[j]? = if k ≤ j ∧ j < k + ds.length then ds[j - k]? else cs[j]?
  | cs, [], rs, 0, h => by
    have : rs = cs := by cases cs <;> simp [over] at h <;> simp [h]
    subst this
    refine ⟨rfl, by simp, fun j => ?_⟩
    rw [if_neg (by simp)]
  | c :: cs, ds, rs, k + 1, h => by
    simp only [over] at h
    cases hk : over cs k ds with
    | none => simp [hk] at h
    | some rs' =>
      simp [hk] at h; subst h
      obtain ⟨h1, h2, h3⟩ := over_spec hk
      refine ⟨by simp [h1], by simp; omega, fun j => ?_⟩
      cases j with
      | zero => simp
      | succ j => simp [h3 j, Nat.succ_le_succ_iff, show k + 1 + ds.length = (k + ds.length) + 1 from by omega]
  | [], ds, rs, k + 1, h => by simp [over] at h
  | c :: cs, d :: ds, rs, 0, h => by
    simp only [over] at h
    cases hk : over cs 0 ds with
    | none => simp [hk] at h
    | some rs' =>
      simp [hk] at h; subst h
      obtain ⟨h1, h2, h3⟩ := over_spec hk
      refine ⟨by simp [h1], by simp at h2 ⊢; omega, fun j => ?_⟩
      cases j with
      | zero => simp
      | succ j => simp at h3; simp [h3 j]
  | [], d :: ds, rs, 0, h => by simp [over] at h

/-- A store into an array of one's own. -/
theorem HInv.stElem (h : HInv σ hp) {n : Nm} {sz i' k : Nat} {rows : List (List AV)} {d row cs : List AV} {xs : List Value} {b k0 cap : Nat} (hn : hl hp (.a n) = some (.sl sz true rows d))
    (hra : σ.ra n = (some ⟨b, k0, none⟩, cap)) (hcap : 0 < cap) (hle : rows.length ≤ cap) (hrows : RepRows σ sz b k0 rows) (hM : σ.M b) {ar : Array Value} {T : TypeId} (har : σ.w.heap[b]? = some (.cells ar T (0, 0)))
    (hfit : k0 + cap * sz ≤ ar.size) (hlt : i' < rows.length) (hrow : over (rowAt rows d i') k cs = some row) (hpu : pureL row = true) (hx : RepL σ cs xs) (h1 : ∀ x ∈ xs, oneC x = true) :
    ∃ w', (storeCells ⟨b, k0 + i' * sz + k, none⟩ xs).run P σ.w = .ok () w' ∧ ∃ σ', Next σ n ((.a n, .sl sz true (rows.set i' row) d) :: hp) w' σ' := by
  obtain ⟨q1, q2, q3⟩ := over_spec hrow
  obtain ⟨r1, r2⟩ := repRows_get hrows i' _ (rowAt_get (d := d) hlt)
  have hxl := repL_len hx
  have hmul : (i' + 1) * sz ≤ cap * sz := Nat.mul_le_mul_right _ (by omega)
  rw [Nat.succ_mul] at hmul
  have hbound : k0 + i' * sz + k + xs.length ≤ ar.size := by omega
  have hln : σ.ln n = some rows.length := by have := h.ln n; simpa [lenOf, hn] using this
  have hown : Owns σ hp (true, n) b := .inr ⟨rfl, ⟨_, _, _, hn⟩, k0, cap, hra, hcap⟩
  have hlen : (rows.set i' row).length = rows.length := by simp
  have evo : Evo σ (σ.setArr n (σ.ra n) σ.M (rows.set i' row).length (putAt σ.w b (k0 + i' * sz + k) xs)) := by
    refine Evo.setArr (.inr ⟨_, hln, by simp, fun _ => rfl⟩) (fun c ob hb hMc => ⟨?_, hMc⟩) (by rw [size_putAt]; exact Nat.le_refl _) (sameO_putAt _ _ _ _)
    rw [heap_putAt_other (fun (e : c = b) => hMc (by rw [e]; exact hM))]; exact hb
  obtain ⟨ds, d1, d2, d3⟩ := heap_putAt_same xs (k0 + i' * sz + k) σ.w ar har
  obtain ⟨a1, a2, a3, _⟩ := h.arr n sz true rows d hn
  refine ⟨_, run_storeCells xs _ 0 σ.w ar T har h1 (by simpa using hbound), σ.setArr n (σ.ra n) σ.M (rows.set i' row).length (putAt σ.w b (k0 + i' * sz + k) xs), evo, ?_, rfl, fun m hm => hm⟩
  refine h.setArr evo (fun x hxM hno => ⟨hxM, heap_putAt_other (fun (e : x = b) => hno (by rw [e]; exact hown)) _ _ _⟩) ⟨.inr rfl, a2, fun r hr => ?_, .inr ⟨b, k0, cap, by simp [Cf.setArr, hra], hcap, by simpa using hle, ?_, fun _ => ⟨hM, ds, T, d1, by rw [d2]; exact hfit⟩, by simp⟩⟩
    (fun _ b' o' cap' g1 g2 => .inl (.inr ⟨rfl, ⟨_, _, _, hn⟩, o', cap', g1, g2⟩)) (fun c hc => by rw [size_putAt]; exact h.lt c hc) (by rw [size_putAt]; exact Nat.le_refl _)
  · rcases List.mem_or_eq_of_mem_set hr with hr | rfl
    · exact a3 r hr
    · exact hpu
  · refine repRows_of fun i2 r2' hi2 => ?_
    have hi2l := (List.getElem?_eq_some_iff.1 hi2).1
    rw [hlen] at hi2l
    have hmul2 : (i2 + 1) * sz ≤ cap * sz := Nat.mul_le_mul_right _ (by omega)
    rw [Nat.succ_mul] at hmul2
    by_cases hie : i' = i2
    · subst hie
      rw [List.getElem?_set_self hlt] at hi2
      simp at hi2; subst hi2
      refine ⟨by rw [q1]; exact r1, repCells_of fun j c hc => ?_⟩
      have hj := (List.getElem?_eq_some_iff.1 hc).1
      rw [q3] at hc
      by_cases hin : k ≤ j ∧ j < k + cs.length
      · rw [if_pos hin] at hc
        obtain ⟨x, e1, e2⟩ := repL_get hx (j - k) c hc
        refine ⟨x, ?_, h1 x (List.mem_of_getElem? e1), e2.mono evo⟩
        simp only [Cf.setArr, World.cell?, d1, Option.isSome_none, if_false, Bool.false_eq_true]
        rw [d3, if_pos ⟨by omega, by omega, by omega⟩, show k0 + i' * sz + j - (k0 + i' * sz + k) = j - k from by omega]
        exact e1
      · rw [if_neg hin] at hc
        obtain ⟨x, e1, e2, e3⟩ := repCells_get r2 j c hc
        refine ⟨x, ?_, e2, e3.mono evo⟩
        simp only [Cf.setArr, World.cell?, d1, Option.isSome_none, if_false, Bool.false_eq_true]
        rw [d3, if_neg (by omega)]
        simpa [World.cell?, har] using e1
    · rw [List.getElem?_set_ne hie] at hi2
      obtain ⟨f1, f2⟩ := repRows_get hrows i2 _ hi2
      refine ⟨f1, f2.keep evo fun j x hj hc => ?_⟩
      simp only [Cf.setArr, World.cell?, d1, Option.isSome_none, if_false, Bool.false_eq_true]
      rw [d3, if_neg]
      · simpa [World.cell?, har] using hc
      · rintro ⟨g1, g2, _⟩
        rw [r1] at q2
        rcases Nat.lt_or_gt_of_ne hie with hlt2 | hlt2
        · have : (i' + 1) * sz ≤ i2 * sz := Nat.mul_le_mul_right _ hlt2
          rw [Nat.succ_mul] at this; omega
        · have : (i2 + 1) * sz ≤ i' * sz := Nat.mul_le_mul_right _ hlt2
          rw [Nat.succ_mul] at this; omega

mutual
theorem res_id {hp : Hp} : ∀ x : AV, nob x = true → ons x = [] → res hp x = x
  | .own n l, _, h => by simp [ons] at h
  | .box n l, h, _ => by simp [nob] at h
  | .agg cs, h, k => by simp only [res]; rw [resL_id cs (by simpa [nob] using h) (by simpa [ons] using k)]
  | .tup cs, h, k => by simp only [res]; rw [resL_id cs (by simpa [nob] using h) (by simpa [ons] using k)]
  | .clo f xs ys, h, k => by
    simp only [nob, Bool.and_eq_true] at h
    simp only [ons, List.append_eq_nil_iff] at k
    simp only [res]; rw [resL_id xs h.1 k.1, resL_id ys h.2 k.2]
  | .v _, _, _ => rfl
  | .sl _ _ _ _, _, _ => rfl
  | .ro _ _, _, _ => rfl
  | .elem _ _ _ _ _, _, _ => rfl
  | .gd _ _, _, _ => rfl
  | .un, _, _ => rfl
theorem resL_id {hp : Hp} : ∀ xs : List AV, nobL xs = true → onsL xs = [] → resL hp xs = xs
  | [], _, _ => rfl
  | x :: xs, h, k => by
    simp only [nobL, Bool.and_eq_true] at h
    simp only [onsL, List.append_eq_nil_iff] at k
    simp only [resL]; rw [res_id x h.1 k.1, resL_id xs h.2 k.2]
end

theorem step_st (h : HInv σ hp) {t : TypeId} {x y : Operand} {X Y : AV} {i : TypeInfo} (ho : o.op = .store t x y) (hi : P.info? t = some i) (hx : Rep σ X (a.eval x)) (hy : Rep σ Y (a.eval y))
    (hex : exSt hp i.size X Y = some (vc, r, ws)) (hvc : vc) (hnm : ∀ m, σ.al m → σ.al m ∨ m = nm) : Step P o a σ nm (ws ++ hp) r := by
  unfold exSt at hex
  split at hex
  · simp at hex
  rename_i cs hcs
  split at hex
  case isFalse => simp at hex
  rename_i hsz
  obtain ⟨g1, g2⟩ := cells_rep hcs hy
  have hlen := repL_len g1
  have run : ∀ (ad : Addr) (w' : World), a.eval x = .pointer (some ad) → (storeCells ad (a.eval y).cells.toList).run P σ.w = .ok () w' → (execOp a.eval o).run P σ.w = .ok .skip w' := by
    intro ad w' e1 e2
    have hsz' : (a.eval y).cells.size = i.size := by rw [← hsz, ← hlen]; simp
    simp [execOp, ho, Instr.storeAt, Instr.sureAddr, e1, storeVar, run_sizeOf hi, hsz', e2]
  cases X with
  | box n k =>
    simp only at hex
    split at hex
    · rename_i ws' hws
      simp only [Option.some.injEq, Prod.mk.injEq] at hex
      obtain ⟨_, rfl, rfl⟩ := hex
      simp only [Rep] at hx
      obtain ⟨w', e1, e2, e3⟩ := h.store (P := P) hws g1 g2
      exact .inl ⟨undef, w', σ.at w', .inr ⟨run _ w' hx.2 e1, rfl⟩, ⟨e2, e3, rfl, fun m hm => .inl hm⟩, by simp [Rep]⟩
    · simp at hex
  | elem n l es i' k =>
    simp only at hex
    split at hex
    · rename_i sz live rows d hn
      split at hex
      · rename_i row hrow
        simp only [Option.some.injEq, Prod.mk.injEq] at hex
        obtain ⟨rfl, rfl, rfl⟩ := hex
        obtain ⟨v1, v2, v3, v4, rfl, v6, v7, v8⟩ := hvc
        rw [resL_id cs v2 v4] at hrow
        obtain ⟨b, k0, cap, f1, f2, f3, f4, f5, f6⟩ := elem_addr h hn hx v6 v7 v8
        obtain ⟨f7, ar, T, f8, f9⟩ := f6 rfl
        obtain ⟨w', e1, σ', e2⟩ := h.stElem (P := P) hn f1 f3 f4 f5 f7 f8 f9 v8 hrow v3 g1 g2
        exact .inl ⟨undef, w', σ', .inr ⟨run _ w' f2 e1, rfl⟩, ⟨e2.evo, e2.inv, e2.w, fun m hm => (e2.al m hm).elim .inl (fun e => .inl (e ▸ (h.arr n sz true rows d hn).1))⟩, by simp [Rep]⟩
      · simp at hex
    · simp at hex
  | _ => simp at hex
end
end Go.Proofs.Ytmmfbjmjhjmccaa.Am
