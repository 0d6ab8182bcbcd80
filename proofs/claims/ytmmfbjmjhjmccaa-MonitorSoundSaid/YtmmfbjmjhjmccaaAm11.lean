/-
  The abstract machine, part 11: values built, slices cut, functions called.
-/
import Derived.Test.YtmmfbjmjhjmccaaAm10
namespace Go.Proofs.Ytmmfbjmjhjmccaa.Am
set_option linter.unusedSimpArgs false
set_option linter.unusedVariables false
open Go
section
variable {P : Program} {o : Oper} {a : Act} {σ : Cf} {nm : Nm} {hp : Hp} {r : AV} {vc : Prop} {ws : Hp}

theorem fold_set (off : Nat) : ∀ (l : List Value) (k : Nat) (cs : Array Value), off + k + l.length ≤ cs.size →
    ((l.zipIdx k).foldl (fun (cs : Array Value) (p : Value × Nat) => cs.setIfInBounds (off + p.2) p.1) cs).size = cs.size ∧
    ∀ j, ((l.zipIdx k).foldl (fun (cs : Array Value) (p : Value × Nat) => cs.setIfInBounds (off + p.2) p.1) cs)[j]? = if off + k ≤ j ∧ j < off + k + l.length then l[j - (off + k)]? else cs[j]?
  | [], k, cs, _ => ⟨rfl, fun j => by simp; omega⟩
  | x :: l, k, cs, h => by
    simp only [List.zipIdx_cons, List.foldl_cons]
    simp only [List.length_cons] at h
    obtain ⟨h1, h2⟩ := fold_set off l (k + 1) (cs.setIfInBounds (off + k) x) (by simp; omega)
    refine ⟨by rw [h1]; simp, fun j => ?_⟩
    rw [h2 j]
    simp only [List.length_cons, Array.getElem?_setIfInBounds]
    by_cases hj : off + k = j
    · subst hj
      have hne : ¬ (off + (k + 1) ≤ off + k ∧ off + k < off + (k + 1) + l.length) := by omega
      have hlt : off + k < cs.size := by omega
      rw [if_neg hne, if_pos (by omega)]
      simp [hlt]
    · by_cases h1 : off + (k + 1) ≤ j ∧ j < off + (k + 1) + l.length
      · rw [if_pos h1, if_pos (by omega)]
        have : j - (off + k) = (j - (off + (k + 1))) + 1 := by omega
        rw [this]; simp
      · have hne : ¬ (off + k ≤ j ∧ j < off + k + (l.length + 1)) := by omega
        rw [if_neg h1, if_neg hne, if_neg hj]

/-- Parts laid over zero cells. -/
theorem over_fill {cs ds rs : List AV} {off : Nat} {cells xs : Array Value} (h : over cs off ds = some rs) (hc : RepL σ cs cells.toList) (h1 : ∀ x ∈ cells.toList, oneC x = true) (hd : RepL σ ds xs.toList) (h2 : ∀ x ∈ xs.toList, oneC x = true) :
    off + xs.size ≤ cells.size ∧ RepL σ rs (xs.zipIdx.foldl (fun (cs : Array Value) (p : Value × Nat) => cs.setIfInBounds (off + p.2) p.1) cells).toList ∧
      ∀ x ∈ (xs.zipIdx.foldl (fun (cs : Array Value) (p : Value × Nat) => cs.setIfInBounds (off + p.2) p.1) cells).toList, oneC x = true := by
  obtain ⟨q1, q2, q3⟩ := over_spec h
  have l1 := repL_len hc
  have l2 := repL_len hd
  simp only [Array.length_toList] at l1 l2
  have hle : off + xs.size ≤ cells.size := by omega
  obtain ⟨f1, f2⟩ := fold_set off xs.toList 0 cells (by simpa using hle)
  have hz : xs.zipIdx.foldl (fun (cs : Array Value) (p : Value × Nat) => cs.setIfInBounds (off + p.2) p.1) cells =
      (xs.toList.zipIdx 0).foldl (fun (cs : Array Value) (p : Value × Nat) => cs.setIfInBounds (off + p.2) p.1) cells := by
    rw [← Array.foldl_toList, Array.toList_zipIdx]
  rw [hz]
  generalize (xs.toList.zipIdx 0).foldl (fun (cs : Array Value) (p : Value × Nat) => cs.setIfInBounds (off + p.2) p.1) cells = res at f1 f2
  simp only [Nat.add_zero, Array.length_toList] at f2
  refine ⟨hle, repL_of (by simp; omega) fun j c hj => ?_, fun x hx => ?_⟩
  · rw [q3] at hj
    rw [Array.getElem?_toList, f2]
    by_cases hin : off ≤ j ∧ j < off + xs.size
    · rw [if_pos hin]
      rw [if_pos (by omega)] at hj
      exact repL_get hd _ c hj
    · rw [if_neg hin]
      rw [if_neg (by omega)] at hj
      simpa using repL_get hc j c hj
  · obtain ⟨j, hj, rfl⟩ := List.mem_iff_getElem.1 hx
    simp only [Array.length_toList] at hj
    have hg := f2 j
    rw [Array.getElem?_eq_getElem hj] at hg
    simp only [Array.getElem_toList]
    by_cases hin : off ≤ j ∧ j < off + xs.size
    · rw [if_pos hin] at hg
      exact h2 _ (List.mem_of_getElem? hg.symm)
    · rw [if_neg hin] at hg
      exact h1 _ (by rw [Array.mem_toList_iff]; exact Array.mem_of_getElem? hg.symm)

theorem fill_sound {pf : Nat → Option (Nat × Nat)} : ∀ {qs : List (Nat × Operand)} {ps : List (Nat × Nat × Opd)} {f : Opd → AV} {zs cs : List AV} {cells : Array Value}, cParts pf qs = some ps → (∀ p ∈ qs, Rep σ (f (opd p.2)) (a.eval p.2)) →
    fillA zs (ps.map fun (o, s, x) => (o, s, f x)) = some cs → RepL σ zs cells.toList → (∀ x ∈ cells.toList, oneC x = true) →
    ∃ cells', Instr.fill pf cells (qs.map fun (i, x) => (i, a.eval x)) = some cells' ∧ RepL σ cs cells'.toList ∧ ∀ x ∈ cells'.toList, oneC x = true
  | [], ps, f, zs, cs, cells, hp, _, hf, hz, h1 => by
    simp [cParts] at hp; subst hp
    simp [fillA] at hf; subst hf
    exact ⟨cells, by simp [Instr.fill], hz, h1⟩
  | (i, x) :: qs, ps, f, zs, cs, cells, hp, hr, hf, hz, h1 => by
    simp only [cParts] at hp
    split at hp
    · rename_i off s ps' hpf hps
      simp at hp; subst hp
      simp only [List.map_cons, fillA] at hf
      split at hf
      · rename_i xs hxs
        split at hf
        · rename_i hlen
          split at hf
          · rename_i cs' hov
            have hrx : Rep σ (f (opd x)) (a.eval x) := hr (i, x) (by simp)
            obtain ⟨g1, g2⟩ := cells_rep hxs hrx
            have hl := repL_len g1
            obtain ⟨k1, k2, k3⟩ := over_fill hov hz h1 g1 g2
            obtain ⟨cells', m1, m2, m3⟩ := fill_sound hps (fun p hp => hr p (by simp [hp])) hf k2 k3
            refine ⟨cells', ?_, m2, m3⟩
            simp only [List.map_cons, Instr.fill, hpf]
            simp only [Array.length_toList] at hl
            rw [if_neg (by simp; omega)]
            exact m1
          · simp at hf
        · simp at hf
      · simp at hf
    · simp at hp

theorem step_build (h : HInv σ hp) {t : TypeId} {parts : Array (Nat × Operand)} {zs : List AV} {ps : List (Nat × Nat × Opd)} {pf : Nat → Option (Nat × Nat)} {f : Opd → AV} (ho : o.op = .build t parts)
    (hz : cZero P t = some zs) (hpf : placesF P t = some pf) (hps : cParts pf parts.toList = some ps) (hr : ∀ x, Rep σ (f (opd x)) (a.eval x))
    (hex : exBuild zs (ps.map fun (o, s, x) => (o, s, f x)) = some (vc, r, ws)) : Step P o a σ nm (ws ++ hp) r := by
  unfold exBuild at hex
  split at hex
  · rename_i cs hcs
    simp only [Option.some.injEq, Prod.mk.injEq] at hex
    obtain ⟨_, rfl, rfl⟩ := hex
    obtain ⟨i, z, e1, e2, e3, e4, rfl⟩ := cZero_spec hz
    obtain ⟨cells', m1, m2, m3⟩ := fill_sound hps (fun p _ => hr p.2) hcs (ofCs_rep σ z.cells.toList) e3
    refine Step.quiet h (v := .agg cells') ?_ (by simp only [Rep]; exact ⟨cells'.toList, by simp, m3, m2⟩)
    have hb : P.built t (parts.map fun (i, x) => (i, a.eval x)).toList = some cells' := by
      unfold Program.built
      unfold placesF at hpf
      rw [Array.toList_map]
      split at hpf
      · rename_i fs hu
        cases hm : fs.toList.mapM (fun f => (P.info? f.type).map fun i => (f.offset, i.size)) with
        | none => simp [hm] at hpf
        | some pl =>
          simp [hm] at hpf
          subst hpf
          simp only [e1, hu, e2, hm]
          simpa using m1
      · rename_i n e hu
        cases hm : P.info? e with
        | none => simp [hm] at hpf
        | some j =>
          simp [hm] at hpf
          subst hpf
          simp only [e1, hu, e2, hm]
          simpa using m1
      · simp at hpf
    have := run_build (P := P) σ.w t _ cells' hb
    simp [execOp, ho, this]
  · simp at hex

theorem over_app : ∀ (xs cs ds rs : List AV) (k : Nat), over cs k ds = some rs → over (xs ++ cs) (xs.length + k) ds = some (xs ++ rs)
  | [], cs, ds, rs, k, h => by simpa using h
  | x :: xs, cs, ds, rs, k, h => by
    have := over_app xs cs ds rs k h
    rw [show (x :: xs).length + k = (xs.length + k) + 1 from by simp; omega]
    simp [over, this]

theorem over_all : ∀ (xs ds cs : List AV), xs.length = ds.length → over (xs ++ cs) 0 ds = some (ds ++ cs)
  | [], [], cs, _ => by cases cs <;> simp [over]
  | [], _ :: _, _, h => by simp at h
  | _ :: _, [], _, h => by simp at h
  | x :: xs, d :: ds, cs, h => by simp [over, over_all xs ds cs (by simpa using h)]

theorem over_flatten {sz : Nat} : ∀ (rows : List (List AV)) (i : Nat) (xs : List AV), (∀ r ∈ rows, r.length = sz) → xs.length = sz → i < rows.length → over rows.flatten (i * sz) xs = some (rows.set i xs).flatten
  | [], i, xs, _, _, h => by simp at h
  | r :: rows, 0, xs, hr, hx, _ => by
    simp only [List.flatten_cons, Nat.zero_mul, List.set_cons_zero]
    exact over_all _ _ _ (by rw [hr r (by simp), hx])
  | r :: rows, i + 1, xs, hr, hx, h => by
    simp only [List.flatten_cons, List.set_cons_succ]
    rw [Nat.succ_mul, Nat.add_comm, ← hr r (by simp)]
    refine over_app _ _ _ _ _ ?_
    rw [hr r (by simp)]
    exact over_flatten rows i xs (fun r' h' => hr r' (by simp [h'])) hx (by simpa using h)

theorem fillR_fillA {sz : Nat} : ∀ {ps : List (Nat × AV)} {rows rows' : List (List AV)}, fillR sz rows ps = some rows' → (∀ r ∈ rows, r.length = sz) →
    fillA rows.flatten (ps.map fun (i, x) => (i * sz, sz, x)) = some rows'.flatten ∧ (∀ r ∈ rows', r.length = sz) ∧ rows'.length = rows.length
  | [], rows, rows', h, hr => by
    simp [fillR] at h; subst h
    exact ⟨by simp [fillA], hr, rfl⟩
  | (i, x) :: ps, rows, rows', h, hr => by
    simp only [fillR] at h
    split at h
    · rename_i xs hxs
      split at h
      · rename_i hc
        obtain ⟨h1, h2, h3⟩ := fillR_fillA h (fun r hr' => by
          rcases List.mem_or_eq_of_mem_set hr' with hr' | rfl
          · exact hr r hr'
          · exact hc.1)
        refine ⟨?_, h2, by rw [h3]; simp⟩
        simp only [List.map_cons, fillA, hxs, hc.1, if_true, over_flatten rows i xs hr hc.1 hc.2]
        exact h1
      · simp at h
    · simp at h

theorem flat_rep {zs : List AV} {sz : Nat} (hz : zs.length = sz) (h0 : 0 < sz) : ∀ (len j : Nat), (List.replicate len zs).flatten[j]? = if j < len * sz then zs[j % sz]? else none
  | 0, j => by simp
  | len + 1, j => by
    simp only [List.replicate_succ, List.flatten_cons]
    by_cases hj : j < zs.length
    · rw [List.getElem?_append_left hj, Nat.mod_eq_of_lt (by omega), if_pos (by rw [Nat.succ_mul]; omega)]
    · rw [List.getElem?_append_right (by omega), flat_rep hz h0 len, hz]
      have hm : (j - sz) % sz = j % sz := (Nat.mod_eq_sub_mod (by omega)).symm
      rw [hm]
      by_cases hl : j - sz < len * sz
      · rw [if_pos hl, if_pos (by rw [Nat.succ_mul]; omega)]
      · rw [if_neg hl, if_neg (by rw [Nat.succ_mul]; omega)]

theorem flatten_len {sz : Nat} : ∀ {rows : List (List AV)}, (∀ r ∈ rows, r.length = sz) → rows.flatten.length = rows.length * sz
  | [], _ => by simp
  | r :: rs, h => by
    have := flatten_len (rows := rs) (fun r hr => h r (by simp [hr]))
    simp only [List.flatten_cons, List.length_append, List.length_cons, Nat.succ_mul, this, h r (by simp)]
    omega

theorem onsL_mem {n : Nm} : ∀ {xs : List AV} {x : AV}, x ∈ xs → n ∈ ons x → n ∈ onsL xs
  | y :: ys, x, hx, hn => by
    simp only [onsL, List.mem_append]
    rcases List.mem_cons.1 hx with rfl | hx
    · exact .inl hn
    · exact .inr (onsL_mem hx hn)
theorem rvcL_mem : ∀ {xs : List AV} {x : AV}, rvcL hp xs → x ∈ xs → rvc hp x
  | y :: ys, x, h, hx => by
    simp only [rvcL] at h
    rcases List.mem_cons.1 hx with rfl | hx
    · exact h.1
    · exact rvcL_mem h.2 hx
theorem nobL_mem : ∀ {xs : List AV} {x : AV}, nobL xs = true → x ∈ xs → nob x = true
  | y :: ys, x, h, hx => by
    simp only [nobL, Bool.and_eq_true] at h
    rcases List.mem_cons.1 hx with rfl | hx
    · exact h.1
    · exact nobL_mem h.2 hx

theorem step_bsl (h : HInv σ hp) (hnm : ¬ σ.al nm) {t e : TypeId} {len : Nat} {parts : Array (Nat × Operand)} {zs : List AV} {i : TypeInfo} {f : Opd → AV} (ho : o.op = .buildSlice t len parts) (ht : P.underlying t = some (.slice e)) (hi : P.info? e = some i)
    (hz : cZero P e = some zs) (h0 : 0 < i.size ∧ len * i.size ≤ 16777216) (hr : ∀ x, Rep σ (f (opd x)) (a.eval x))
    (hex : exBsl hp nm i.size len zs ((parts.toList.map fun (j, x) => (j, opd x)).map fun (j, x) => (j, f x)) = some (vc, r, ws)) (hvc : vc) : Step P o a σ nm (ws ++ hp) r := by
  unfold exBsl at hex
  split at hex
  case h_2 => simp at hex
  rename_i rows hrows
  simp only [Option.some.injEq, Prod.mk.injEq] at hex
  obtain ⟨rfl, rfl, rfl⟩ := hex
  obtain ⟨v1, v2, v3⟩ := hvc
  obtain ⟨i', z, e1, e2, e3, e4, e5⟩ := cZero_spec hz
  rw [hi] at e1; cases e1
  generalize hps : ((parts.toList.map fun (j, x) => (j, opd x)).map fun (j, x) => (j, f x)) = ps at *
  obtain ⟨σ1, f1, f2, f3, f4, f5, f6, f7, f8⟩ := h.frz (onsL (ps.map (·.2)))
  have hzl : zs.length = i.size := by rw [e5]; simp [e4]
  have hrep : ∀ p ∈ parts.toList, Rep σ1 (res hp (f (opd p.2))) (a.eval p.2) := by
    intro p hp'
    have hm : f (opd p.2) ∈ ps.map (·.2) := by
      rw [← hps]
      simp only [List.map_map, List.mem_map]
      exact ⟨p, hp', rfl⟩
    exact res_frz h f1 f3 _ f7 _ _ (rvcL_mem v1 hm) (nobL_mem v2 hm) (fun n hn => onsL_mem hm hn) (hr p.2)
  have hcp : ∀ qs : List (Nat × Operand), cParts (fun j => some (j * i.size, i.size)) qs = some (qs.map fun (j, x) => (j * i.size, i.size, opd x)) := by
    intro qs
    induction qs with
    | nil => rfl
    | cons q qs ih => obtain ⟨j, x⟩ := q; simp [cParts, ih]
  obtain ⟨g1, g2, g3⟩ := fillR_fillA hrows (fun r hr' => by rw [List.eq_of_mem_replicate hr']; exact hzl)
  have hcells : RepL σ1 (List.replicate len zs).flatten ((Array.range (len * i.size)).map (z.cells[· % z.cells.size]!)).toList := by
    refine repL_of (by simp [hzl]) fun j c hj => ?_
    rw [flat_rep hzl h0.1] at hj
    split at hj
    · rename_i hlt
      have hm : j % i.size < i.size := Nat.mod_lt _ h0.1
      rw [e5, List.getElem?_map] at hj
      refine ⟨z.cells[j % i.size]!, ?_, ?_⟩
      · simp [hlt, e4]
      · rw [← e4] at hm
        simp only [e4] at hm hj
        cases hzc : z.cells.toList[j % i.size]? with
        | none => rw [hzc] at hj; simp at hj
        | some x =>
          rw [hzc] at hj; simp at hj; subst hj
          have : z.cells[j % i.size]! = x := by
            simp at hzc
            rw [getElem!_def]
            simp [hzc]
          rw [this]; exact ofC_rep σ1 x
    · simp at hj
  have hone : ∀ x ∈ ((Array.range (len * i.size)).map (z.cells[· % z.cells.size]!)).toList, oneC x = true := by
    intro x hx
    simp only [Array.toList_map, List.mem_map] at hx
    obtain ⟨j, _, rfl⟩ := hx
    have hm : j % z.cells.size < z.cells.size := Nat.mod_lt _ (by omega)
    have hg : z.cells[j % z.cells.size]! = z.cells[j % z.cells.size]'hm := getElem!_pos z.cells _ hm
    exact e3 _ (by rw [hg, Array.mem_toList_iff]; exact Array.getElem_mem hm)
  have hfm : (parts.toList.map fun (j, x) => (j * i.size, i.size, opd x)).map (fun (o, s, x) => (o, s, res hp (f x))) = (ps.map fun (j, x) => (j, res hp x)).map fun (j, x) => (j * i.size, i.size, x) := by
    rw [← hps]; simp [List.map_map, Function.comp_def]
  obtain ⟨cells', m1, m2, m3⟩ := fill_sound (σ := σ1) (f := fun x => res hp (f x)) (hcp parts.toList) hrep (by rw [hfm]; exact g1) hcells hone
  have hrl : rows.length = len := by rw [g3]; simp
  have hnm1 : ¬ σ1.al nm := fun hc => hnm (f4 nm hc)
  have hml := repL_len m2
  have hfl := flatten_len g2
  obtain ⟨k1, k2⟩ := f2.newArr (d := zs) (us := []) (T := e) hnm1 h0.1 m2 m3 g2 (fun r hr => List.all_eq_true.1 v3 r hr) (Nat.le_refl _) (by rw [List.append_nil, hml, hfl]; exact Nat.le_refl _)
  rw [List.append_nil, Array.toArray_toList, f3] at k1 k2
  refine .inl ⟨.slice (some ⟨σ.w.heap.size, 0, none⟩) len len, _, _, .inl ?_, ⟨f1.trans k1, k2, rfl, fun m hm => hm.elim (fun h => .inl (f4 m h)) .inr⟩, ?_⟩
  · have hfill : Instr.fill (fun j => some (j * i.size, i.size)) ((Array.range (len * i.size)).map (z.cells[· % z.cells.size]!)) (parts.map fun (j, x) => (j, a.eval x)).toList = some cells' := by
      rw [Array.toList_map]; exact m1
    have h24 : ¬ (2 ^ 24 < len * i.size) := by have := h0.2; omega
    by_cases hl0 : len * i.size = 0
    · have hr0 : (Array.range (len * i.size)).map ((#[] : Array Value)[· % (#[] : Array Value).size]!) = (Array.range (len * i.size)).map (z.cells[· % z.cells.size]!) := by simp [hl0]
      rw [← hr0] at hfill
      simp [execOp, ho, Instr.buildSlice, run_underlying ht, run_sizeOf hi, h24, hl0]
      simp [hl0] at hfill
      simp [hfill, newRow, newObj, Sem.run, Cf.setArr]
    · simp [execOp, ho, Instr.buildSlice, run_underlying ht, run_sizeOf hi, h24, hl0, zeroValue, typeInfo, hi, e2]
      simp at hfill
      simp [hfill, newRow, newObj, Sem.run, Cf.setArr]
  · simp [Rep, Cf.setArr, oneC, hrl]

theorem run_bound {X : AV} {v : Value} {n : Int} (hx : Rep σ X v) (ha : asI X = some n) (y : Nat) (code : BoundsCode) (h0 : 0 ≤ n) (h1 : n ≤ y) (w : World) : (Instr.sliceBound v y code).run P w = .ok n.toNat w := by
  unfold asI at ha
  split at ha
  · rename_i k m
    simp at ha; subst ha
    have e := rep_int (X := .un) hx
    simp [Instr.sliceBound, e, asIntOf, h0, h1]
  · simp at ha

theorem slRows_sound {full : Bool} {rows rs : List (List AV)} {lo hi mx : Option AV} {lv hv mv : Option Value} {f : Bool} {p : Prop} {cap : Nat} (hex : slRows full rows lo hi mx = some (p, f, rs)) (hp : p)
    (hlo : ∀ x, lo = some x → ∃ v, lv = some v ∧ Rep σ x v) (hlo' : lo = none → lv = none) (hhi : ∀ x, hi = some x → ∃ v, hv = some v ∧ Rep σ x v) (hhi' : hi = none → hv = none) (hmx : ∀ x, mx = some x → ∃ v, mv = some v ∧ Rep σ x v) (hmx' : mx = none → mv = none)
    (hcap : rows.length ≤ cap) (hfull : full = true → cap = rows.length) :
    ∃ l h m : Nat, (Instr.sliceBounds true rows.length cap lv hv mv).run P σ.w = .ok (l, h, m) σ.w ∧ l ≤ h ∧ h ≤ m ∧ m ≤ cap ∧ h ≤ rows.length ∧ rs = (rows.drop l).take (h - l) ∧ (f = true → m = h) := by
  have low : ∀ (n : Int) (h : Nat) (c : BoundsCode), loB lo = some n → 0 ≤ n → n ≤ h → (lv = none ∧ n = 0) ∨ ∃ v, lv = some v ∧ (Instr.sliceBound v h c).run P σ.w = .ok n.toNat σ.w := by
    intro n h c h1 h2 h3
    cases hlc : lo with
    | none =>
      rw [hlc] at h1
      simp [loB] at h1; subst h1
      exact .inl ⟨hlo' hlc, rfl⟩
    | some x =>
      rw [hlc] at h1
      obtain ⟨v, e1, e2⟩ := hlo x hlc
      exact .inr ⟨v, e1, run_bound e2 h1 h c h2 h3 _⟩
  unfold slRows at hex
  split at hex
  · rename_i l hl
    simp only [Option.some.injEq, Prod.mk.injEq] at hex
    obtain ⟨rfl, rfl, rfl⟩ := hex
    have e1 := hhi' rfl
    have e2 := hmx' rfl
    subst e1 e2
    have hl2 := low l rows.length .sliceB hl hp.1 (by omega)
    refine ⟨l.toNat, rows.length, cap, ?_, by omega, hcap, Nat.le_refl _, Nat.le_refl _, ?_, hfull⟩
    · rcases hl2 with ⟨rfl, rfl⟩ | ⟨v, rfl, hl3⟩
      · simp [Instr.sliceBounds]
      · simp [Instr.sliceBounds, hl3]
    · rw [List.take_of_length_le (by simp)]
  · rename_i l h hl
    obtain ⟨v, e1, e3⟩ := hhi h rfl
    have e2 := hmx' rfl
    subst e1 e2
    split at hex
    · rename_i h' hh
      simp only [Option.some.injEq, Prod.mk.injEq] at hex
      obtain ⟨rfl, rfl, rfl⟩ := hex
      have hh2 := run_bound (P := P) e3 hh cap .sliceAcap (by omega) (by omega) σ.w
      have hl2 := low l h'.toNat .sliceB hl hp.1 (by omega)
      refine ⟨l.toNat, h'.toNat, cap, ?_, by omega, by omega, Nat.le_refl _, by omega, rfl, ?_⟩
      · rcases hl2 with ⟨rfl, rfl⟩ | ⟨v, rfl, hl3⟩
        · simp [Instr.sliceBounds, hh2]
        · simp [Instr.sliceBounds, hh2, hl3]
      · intro hf
        simp only [Bool.and_eq_true, decide_eq_true_eq] at hf
        have := hfull hf.1
        omega
    · simp at hex
  · rename_i l h m hl
    obtain ⟨v, e1, e3⟩ := hhi h rfl
    obtain ⟨u, e2, e4⟩ := hmx m rfl
    subst e1 e2
    split at hex
    · rename_i h' m' hh hm
      simp only [Option.some.injEq, Prod.mk.injEq] at hex
      obtain ⟨rfl, rfl, rfl⟩ := hex
      have hm2 := run_bound (P := P) e4 hm cap .slice3Acap (by omega) (by omega) σ.w
      have hh2 := run_bound (P := P) e3 hh m'.toNat .slice3B (by omega) (by omega) σ.w
      have hl2 := low l h'.toNat .slice3C hl hp.1 (by omega)
      refine ⟨l.toNat, h'.toNat, m'.toNat, ?_, by omega, by omega, by omega, by omega, rfl, ?_⟩
      · rcases hl2 with ⟨rfl, rfl⟩ | ⟨v, rfl, hl3⟩
        · simp [Instr.sliceBounds, hm2, hh2]
        · simp [Instr.sliceBounds, hm2, hh2, hl3]
      · intro hf
        simp only [decide_eq_true_eq] at hf
        rw [hf]
    · simp at hex
  · simp at hex

/-- A part of a slice. -/
theorem rep_part {sz l h m : Nat} {f : Bool} {rows : List (List AV)} {d : List AV} {base : Option Addr} (hpu : ∀ r ∈ rows, pureL r = true) (hrow : rows = [] ∨ ∃ b k, base = some ⟨b, k, none⟩ ∧ Fz σ b ∧ RepRows σ sz b k rows)
    (h1 : l ≤ h) (h2 : h ≤ m) (h3 : h ≤ rows.length) (hf : f = true → m = h) :
    Rep σ (.sl sz f ((rows.drop l).take (h - l)) d) (.slice (if m = l then base else base.map (·.add (l * sz))) (h - l) (m - l)) := by
  have hlen : ((rows.drop l).take (h - l)).length = h - l := by simp; omega
  simp only [Rep]
  refine ⟨_, m - l, by rw [hlen], by rw [hlen]; omega, fun e => by rw [hlen, hf e], fun r hr => hpu r (List.mem_of_mem_drop (List.mem_of_mem_take hr)), ?_⟩
  by_cases he : h = l
  · left
    apply List.eq_nil_of_length_eq_zero
    rw [hlen]; omega
  · right
    rcases hrow with rfl | ⟨b, k, rfl, k1, k2⟩
    · simp at h3; omega
    · refine ⟨b, k + l * sz, ?_, k1, repRows_of fun i r hi => ?_⟩
      · rw [if_neg (by omega)]; simp [addr_add]
      · have hil := (List.getElem?_eq_some_iff.1 hi).1
        rw [hlen] at hil
        rw [List.getElem?_take_of_lt hil, List.getElem?_drop] at hi
        have := repRows_get k2 (l + i) r hi
        rw [Nat.add_mul, ← Nat.add_assoc] at this
        exact this

theorem step_slc (h : HInv σ hp) {t e : TypeId} {x : Operand} {lo hi mx : Option Operand} {X : AV} {i : TypeInfo} {f : Operand → AV} (ho : o.op = .slice t x lo hi mx) (ht : P.underlying t = some (.slice e)) (hi' : P.info? e = some i) (hx : Rep σ X (a.eval x))
    (hr : ∀ x, Rep σ (f x) (a.eval x)) (hex : exSlc hp i.size X (lo.map f) (hi.map f) (mx.map f) = some (vc, r, ws)) (hvc : vc) : Step P o a σ nm (ws ++ hp) r := by
  have bnd : ∀ y : Option Operand, (∀ x, y.map f = some x → ∃ v, y.map a.eval = some v ∧ Rep σ x v) ∧ (y.map f = none → y.map a.eval = none) := by
    intro y
    cases y with
    | none => simp
    | some y => simp only [Option.map_some, Option.some.injEq, reduceCtorEq, false_implies, and_true]; rintro _ rfl; exact ⟨_, rfl, hr y⟩
  have run : ∀ (base : Option Addr) (n cap l h' m : Nat), a.eval x = .slice base n cap → (Instr.sliceBounds true n cap (lo.map a.eval) (hi.map a.eval) (mx.map a.eval)).run P σ.w = .ok (l, h', m) σ.w →
      (execOp a.eval o).run P σ.w = .ok (.value (.slice (if m = l then base else base.map (·.add (l * i.size))) (h' - l) (m - l))) σ.w := by
    intro base n cap l h' m e1 e2
    simp [execOp, ho, Instr.sliceAt, Instr.slice, run_underlying ht, e1, e2, run_sizeOf hi']
  unfold exSlc at hex
  split at hex
  · rename_i sz' full rows d
    split at hex
    · rename_i p fl rs hs
      simp only [Option.some.injEq, Prod.mk.injEq] at hex
      obtain ⟨rfl, rfl, rfl⟩ := hex
      simp only [Rep] at hx
      obtain ⟨base, cap, e1, e2, e3, e4, e5⟩ := hx
      obtain ⟨l, h', m, g1, g2, g3, g4, g5, rfl, g7⟩ := slRows_sound (P := P) hs hvc.2 (bnd lo).1 (bnd lo).2 (bnd hi).1 (bnd hi).2 (bnd mx).1 (bnd mx).2 e2 e3
      refine Step.quiet h (run _ _ _ l h' m e1 g1) ?_
      rcases hvc.1 with rfl | rfl
      · exact rep_part e4 e5 g2 g3 g5 g7
      · have hz : h' = 0 := by simpa using g5
        subst hz
        have hl0 : l = 0 := by omega
        subst hl0
        simp only [List.drop_nil, List.take_nil, Rep]
        exact ⟨if m = 0 then base else base.map (·.add (0 * i.size)), m, by simp, by simp, fun e => by have := g7 e; simp [this], by simp, .inl trivial⟩
    · simp at hex
  · rename_i n l0
    split at hex
    · rename_i sz' live rows d hn
      split at hex
      · rename_i p fl rs hs
        simp only [Option.some.injEq, Prod.mk.injEq] at hex
        obtain ⟨rfl, rfl, rfl⟩ := hex
        obtain ⟨rfl, v2, v3⟩ := hvc
        obtain ⟨σ1, f1, f2, f3, f4, f5, f6, f7, f8⟩ := h.frz [n]
        have hv := own_vals h hn hx v2
        have hsl := own_res h f1 f3 hn v2 hx (f7 n (by simp))
        simp only [Rep] at hsl
        obtain ⟨base, cap, e1, e2, e3, e4, e5⟩ := hsl
        obtain ⟨l, h', m, g1, g2, g3, g4, g5, rfl, g7⟩ := slRows_sound (P := P) hs v3 (bnd lo).1 (bnd lo).2 (bnd hi).1 (bnd hi).2 (bnd mx).1 (bnd mx).2 e2 (by simp)
        exact .inl ⟨_, σ.w, σ1, .inl (run _ _ _ l h' m e1 g1), ⟨f1, f2, f3, fun m hm => .inl (f4 m hm)⟩, rep_part e4 e5 g2 g3 g5 g7⟩
      · simp at hex
    · simp at hex
  · simp at hex

mutual
theorem flat_rep' {τ : Cf} : ∀ (x : AV) (v : Value), flat x = true → Rep σ x v → Rep τ x v
  | .v x, v, _, h => by simpa [Rep] using h
  | .agg cs, v, hf, h => by
    simp only [Rep] at h ⊢
    obtain ⟨xs, h1, h2, h3⟩ := h
    exact ⟨xs, h1, h2, flatL_rep' cs xs (by simpa [flat] using hf) h3⟩
  | .tup cs, v, hf, h => by
    simp only [Rep] at h ⊢
    obtain ⟨xs, h1, h3⟩ := h
    exact ⟨xs, h1, flatL_rep' cs xs (by simpa [flat] using hf) h3⟩
  | .sl _ _ _ _, v, hf, _ => by simp [flat] at hf
  | .ro _ _, v, hf, _ => by simp [flat] at hf
  | .clo _ _ _, v, hf, _ => by simp [flat] at hf
  | .box _ _, v, hf, _ => by simp [flat] at hf
  | .own _ _, v, hf, _ => by simp [flat] at hf
  | .elem _ _ _ _ _, v, hf, _ => by simp [flat] at hf
  | .gd _ _, v, hf, _ => by simp [flat] at hf
  | .un, v, hf, _ => by simp [flat] at hf
theorem flatL_rep' {τ : Cf} : ∀ (xs : List AV) (vs : List Value), flatL xs = true → RepL σ xs vs → RepL τ xs vs
  | [], vs, _, h => by simpa [RepL] using h
  | x :: xs, vs, hf, h => by
    simp only [flatL, Bool.and_eq_true] at hf
    simp only [RepL] at h ⊢
    obtain ⟨y, ys, h1, h2, h3⟩ := h
    exact ⟨y, ys, h1, flat_rep' x y hf.1 h2, flatL_rep' xs ys hf.2 h3⟩
end

theorem run_call {f : Nat} (hf : okF P f) (args : Array Value) (w : World) : (callFunc f args).run P w = .ok (.enter f args) w := by
  obtain ⟨fn, h1, h2, h3⟩ := hf
  have h4 : fn.name ≠ "runtime.NumGoroutine" := by simpa using h3
  have h5 : fn.body ≠ none := by intro e; simp [e] at h2
  unfold callFunc
  simp [program, Sem.run, h1, h4, h5]

/-- A call through the table. -/
theorem call_sound {S : Tab} (hS : TabOK P S) (h : HInv σ hp) {f : Nat} {args : List AV} {vs : List Value} (hx : RepL σ args vs) (hex : exCall S hp f args = some (vc, r, ws)) (hvc : vc) :
    okF P f ∧ Calls P f vs.toArray σ.w fun e w' => ∃ v σ', e = .returned v ∧ Next σ nm (ws ++ hp) w' σ' ∧ Rep σ' r v := by
  unfold exCall at hex
  split at hex
  · rename_i p r' hs
    cases hfl : flat r' with
    | true =>
      simp only [hfl, cond_true, Option.some.injEq, Prod.mk.injEq] at hex
      obtain ⟨rfl, rfl, rfl⟩ := hex
      obtain ⟨v1, v2, v3⟩ := hvc
      obtain ⟨k1, k2⟩ := hS f _ _ _ hs v3
      refine ⟨k1, ?_⟩
      let τ : Cf := { σ with M := fun _ => False }
      have e : Evo σ τ := ⟨fun _ h => ⟨h, rfl⟩, fun _ _ l h => ⟨l, h, Nat.le_refl _, fun _ => rfl⟩, fun _ _ h _ => ⟨h, fun h => h⟩, rfl, Nat.le_refl _, SameO.refl _⟩
      have hr := resL_still (τ := τ) h e rfl (fun _ h => h) args vs v1 hx
      refine (k2 τ vs (fun b hb => hb.elim False.elim (h.ou b)) v2 hr).mono ?_
      rintro en w' ⟨v, rfl, g1, go, g2, g3⟩
      have g1' : ∀ (b : Nat) (o : Obj), σ.w.heap[b]? = some o → w'.heap[b]? = some o := g1
      exact ⟨v, σ.at w', rfl, ⟨Evo.at g1' go, h.at g1' go, rfl, fun m hm => .inl hm⟩, flat_rep' _ v hfl g3⟩
    | false =>
      simp only [hfl, cond_false] at hex
      cases hnb : nobL args with
      | false => simp [hnb] at hex
      | true =>
        simp only [hnb, cond_true, Option.some.injEq, Prod.mk.injEq] at hex
        obtain ⟨rfl, rfl, rfl⟩ := hex
        obtain ⟨v1, v2, v3⟩ := hvc
        obtain ⟨k1, k2⟩ := hS f _ _ _ hs v3
        refine ⟨k1, ?_⟩
        obtain ⟨σ1, f1, f2, f3, f4, f5, f6, f7, f8⟩ := h.frz (onsL args)
        have hr := resL_frz h f1 f3 (onsL args) f7 args vs v1 hnb (fun _ h => h) hx
        have := k2 σ1 vs (fun b hb => hb.elim (f2.lt b) (f2.ou b)) v2 hr
        rw [f3] at this
        refine this.mono ?_
        rintro en w' ⟨v, rfl, g1, go, g2, g3⟩
        have g1' : ∀ (b : Nat) (o : Obj), σ1.w.heap[b]? = some o → w'.heap[b]? = some o := by rw [f3]; exact g1
        have go' : SameO σ1.w w' := by rw [f3]; exact go
        exact ⟨v, σ1.at w', rfl, ⟨f1.trans (Evo.at g1' go'), f2.at g1' go', rfl, fun m hm => .inl (f4 m hm)⟩, g3⟩
  · simp at hex

theorem step_call {S : Tab} (hS : TabOK P S) (h : HInv σ hp) {c : Call} {f : Nat} {args : List AV} (ho : o.op = .call c) (hc : c.callee = .value (.func f)) (hx : RepL σ args (c.args.toList.map a.eval))
    (hex : exCall S hp f args = some (vc, r, ws)) (hvc : vc) : Step P o a σ nm (ws ++ hp) r := by
  obtain ⟨k1, k2⟩ := call_sound (nm := nm) hS h hx hex hvc
  refine .inr ⟨f, _, ?_, k2⟩
  have hr := run_call k1 (c.args.map a.eval) σ.w
  rw [← Array.toList_map, Array.toArray_toList]
  simp [execOp, ho, resolve, hc, Act.eval, Deferred.ofValue, invoke, hr]

theorem step_cv {S : Tab} (hS : TabOK P S) (h : HInv σ hp) {c : Call} {x : Operand} {X : AV} {args : List AV} (ho : o.op = .call c) (hc : c.callee = .value x) (hX : Rep σ X (a.eval x)) (hx : RepL σ args (c.args.toList.map a.eval))
    (hex : exCv S hp X args = some (vc, r, ws)) (hvc : vc) : Step P o a σ nm (ws ++ hp) r := by
  unfold exCv at hex
  split at hex
  · rename_i f first caps
    simp only [Rep] at hX
    obtain ⟨xs, ys, e1, e2, e3⟩ := hX
    obtain ⟨k1, k2⟩ := call_sound (nm := nm) hS h (repL_app (repL_app e2 hx) e3) hex hvc
    refine .inr ⟨f, _, ?_, k2⟩
    have hr := fun args => run_call k1 args σ.w
    simp only [execOp, ho, resolve, hc, e1, Sem.run_bind, Deferred.ofValue, Sem.run_pure, Result.andThen, invoke, hr]
    congr 1
    congr 1
    apply Array.ext'
    simp
  · simp at hex
end
end Go.Proofs.Ytmmfbjmjhjmccaa.Am
