/-
  The abstract machine, part 10: the other operations.
-/
import Derived.Test.YtmmfbjmjhjmccaaAm9
namespace Go.Proofs.Ytmmfbjmjhjmccaa.Am
set_option linter.unusedSimpArgs false
set_option linter.unusedVariables false
open Go
section
variable {P : Program} {o : Oper} {a : Act} {σ : Cf} {nm : Nm} {hp : Hp} {r : AV} {vc : Prop} {ws : Hp}

theorem step_mv (h : HInv σ hp) {x : Operand} {X : AV} (ho : o.op = .move x ∨ o.op = .assign x) (hx : Rep σ X (a.eval x)) : Step P o a σ nm ([] ++ hp) X := by
  refine Step.quiet h (v := a.eval x) ?_ hx
  rcases ho with ho | ho <;> simp [execOp, ho]

theorem step_pick (h : HInv σ hp) {c x y : Operand} {C X Y : AV} {g : Bool} (hg : g = true) (ho : o.op = .pick c x y) (hc : Rep σ C (a.eval c)) (hx : Rep σ X (a.eval x)) (hy : Rep σ Y (a.eval y))
    (hex : exPick g C X Y = some (vc, r, ws)) : Step P o a σ nm (ws ++ hp) r := by
  unfold exPick at hex
  split at hex
  case h_2 => simp at hex
  rename_i cb hcb
  have hc' := ung_rep hg hc
  rw [hcb] at hc'
  simp only [Rep] at hc'
  have key : ws = [] ∧ Rep σ r (if cb = true then a.eval x else a.eval y) := by
    subst hg
    split at hex
    · rename_i bx by' hX hY
      simp only [Option.some.injEq, Prod.mk.injEq] at hex
      obtain ⟨_, rfl, rfl⟩ := hex
      refine ⟨rfl, ?_⟩
      cases cb with
      | true =>
        have := ung_rep (g := true && true) rfl hx
        rw [hX] at this
        simpa [Rep] using this
      | false =>
        have := ung_rep (g := true && !false) rfl hy
        rw [hY] at this
        simpa [Rep] using this
    · simp only [Option.some.injEq, Prod.mk.injEq] at hex
      obtain ⟨_, rfl, rfl⟩ := hex
      refine ⟨rfl, ?_⟩
      cases cb with
      | true => simpa using ung_rep (g := true && true) rfl hx
      | false => simpa using ung_rep (g := true && !false) rfl hy
  obtain ⟨rfl, hr⟩ := key
  refine Step.quiet h ?_ hr
  simp [execOp, ho, hc', asBool]

theorem step_fa (h : HInv σ hp) {s : TypeId} {x : Operand} {f : Nat} {X : AV} {fs : Array Field} {fd : Field} {i : TypeInfo} (ho : o.op = .fieldAddr s x f) (hs : P.underlying s = some (.struct fs)) (hf : fs[f]? = some fd)
    (hi : P.info? fd.type = some i) (hi0 : i.size ≠ 0) (hx : Rep σ X (a.eval x)) (hex : exFa fd.offset X = some (vc, r, ws)) : Step P o a σ nm (ws ++ hp) r := by
  have run : ∀ b k : Nat, a.eval x = .pointer (some ⟨b, k, none⟩) → (execOp a.eval o).run P σ.w = .ok (.value (.pointer (some ⟨b, k + fd.offset, none⟩))) σ.w := by
    intro b k e
    simp [execOp, ho, Instr.fieldAt, run_underlying hs, hf, Instr.sureAddr, e, fieldPlace, run_sizeOf hi, hi0, addr_add]
  cases X with
  | box n k =>
    simp only [exFa, Option.some.injEq, Prod.mk.injEq] at hex
    obtain ⟨_, rfl, rfl⟩ := hex
    simp only [Rep] at hx
    exact Step.quiet h (run _ _ hx.2) (by simp only [Rep]; exact ⟨hx.1, trivial⟩)
  | ro cs k =>
    simp only [exFa, Option.some.injEq, Prod.mk.injEq] at hex
    obtain ⟨_, rfl, rfl⟩ := hex
    simp only [Rep] at hx
    obtain ⟨b, k0, e1, e2, e3, e4⟩ := hx
    exact Step.quiet h (run _ _ e1) (by simp only [Rep]; exact ⟨b, k0, by rw [Nat.add_assoc], e2, e3, e4⟩)
  | elem n l sz i' k =>
    simp only [exFa, Option.some.injEq, Prod.mk.injEq] at hex
    obtain ⟨_, rfl, rfl⟩ := hex
    simp only [Rep] at hx
    obtain ⟨h1, h2, h3⟩ := hx
    obtain ⟨b, k0, e⟩ := h2
    refine Step.quiet h (run _ _ e) ?_
    simp only [Rep]
    refine ⟨h1, ⟨_, _, rfl⟩, fun l' hl' => ⟨(h3 l' hl').1, fun he => ?_⟩⟩
    obtain ⟨b', k', g1, g2⟩ := (h3 l' hl').2 he
    rw [e] at g2
    simp at g2
    exact ⟨b', k', g1, by rw [g2.1, g2.2]; simp [Nat.add_assoc]⟩
  | _ => simp [exFa] at hex

theorem rep_int {X : AV} {v : Value} {k : IntKind} {n : Int} (h : Rep σ (.v (.int k n)) v) : v = .int k n := by simpa [Rep] using h

theorem run_part {t : TypeId} {d : TypeDesc} {i : TypeInfo} (hd : P.underlying t = some d) (hi : P.info? t = some i) {xs : List Value} {cs ds : List AV} {off : Nat} (hr : RepL σ cs xs) (h1 : ∀ x ∈ xs, oneC x = true)
    (hc : cut off i.size cs = some ds) (hm : mkv (isAggD d) ds = some r) : ∃ v, (part t xs.toArray off).run P σ.w = .ok v σ.w ∧ Rep σ r v := by
  obtain ⟨us, rfl, k1, k2⟩ := cut_vals hc hr
  unfold part
  cases ha : isAggD d with
  | true =>
    rw [ha] at hm
    simp [mkv] at hm
    subst hm
    refine ⟨.agg ((xs.drop off).take i.size).toArray, ?_, by simp only [Rep]; exact ⟨_, rfl, fun y hy => h1 y (List.mem_of_mem_drop (List.mem_of_mem_take hy)), k1⟩⟩
    simp [run_isAgg hd, ha, run_sizeOf hi, List.extract_eq_take_drop]
  | false =>
    rw [ha] at hm
    cases ds with
    | nil => simp [mkv] at hm
    | cons c cs' =>
      cases cs' with
      | cons _ _ => simp [mkv] at hm
      | nil =>
        simp [mkv] at hm
        subst hm
        simp only [RepL] at k1
        obtain ⟨v, ys, e1, e2, rfl⟩ := k1
        refine ⟨v, ?_, e2⟩
        have h0 : i.size = 1 := by rw [e1] at k2; simpa using k2.symm
        have hx : xs[off]? = some v := by
          have : ((xs.drop off).take i.size)[0]? = some v := by rw [e1]; rfl
          rw [h0] at this
          simpa using this
        simp [run_isAgg hd, ha, hx]

theorem step_fld (h : HInv σ hp) {t : TypeId} {x : Operand} {f : Nat} {X : AV} {fs : Array Field} {fd : Field} {d : TypeDesc} {i : TypeInfo} (ho : o.op = .field t x f) (hs : P.underlying t = some (.struct fs)) (hf : fs[f]? = some fd)
    (hd : P.underlying fd.type = some d) (hi : P.info? fd.type = some i) (hx : Rep σ X (a.eval x)) (hex : exFld fd.offset i.size (isAggD d) X = some (vc, r, ws)) : Step P o a σ nm (ws ++ hp) r := by
  cases X with
  | agg cs =>
    simp only [exFld] at hex
    split at hex
    · rename_i ds hds
      cases hm : mkv (isAggD d) ds with
      | none => simp [hm, vr] at hex
      | some r' =>
        simp only [hm, vr, Option.map_some, Option.some.injEq, Prod.mk.injEq] at hex
        obtain ⟨_, rfl, rfl⟩ := hex
        simp only [Rep] at hx
        obtain ⟨xs, e1, e2, e3⟩ := hx
        obtain ⟨v, g1, g2⟩ := run_part hd hi e3 e2 hds hm
        refine Step.quiet h ?_ g2
        simp [execOp, ho, Instr.field, run_underlying hs, hf, e1, asAgg, g1]
    · simp at hex
  | _ => simp [exFld] at hex

theorem step_ia (h : HInv σ hp) {t e : TypeId} {x ix : Operand} {X I : AV} {i : TypeInfo} (ho : o.op = .indexAddr t x ix) (ht : P.underlying t = some (.slice e)) (hi : P.info? e = some i)
    (hx : Rep σ X (a.eval x)) (hI : Rep σ I (a.eval ix)) (hex : exIa hp i.size X I = some (vc, r, ws)) (hvc : vc) : Step P o a σ nm (ws ++ hp) r := by
  have run : ∀ (b k len cap : Nat) (ik : IntKind) (n : Int), a.eval x = .slice (some ⟨b, k, none⟩) len cap → a.eval ix = .int ik n → 0 ≤ n → n < len →
      (execOp a.eval o).run P σ.w = .ok (.value (.pointer (some ⟨b, k + n.toNat * i.size, none⟩))) σ.w := by
    intro b k len cap ik n e1 e2 e3 e4
    simp [execOp, ho, Instr.indexAt, run_underlying ht, e1, e2, asIntOf, e3, e4, run_sizeOf hi, addr_add]
  unfold exIa at hex
  split at hex
  · rename_i sz' f rows d ik n
    simp only [Option.some.injEq, Prod.mk.injEq] at hex
    obtain ⟨rfl, rfl, rfl⟩ := hex
    obtain ⟨rfl, v1, v2⟩ := hvc
    have hI' := rep_int (X := .un) hI
    simp only [Rep] at hx
    obtain ⟨base, cap, e1, e2, e3, e4, e5⟩ := hx
    rcases e5 with rfl | ⟨b, k, rfl, e6, e7⟩
    · simp at v2; omega
    · refine Step.quiet h (run b k _ cap ik n e1 hI' v1 v2) ?_
      have hlt : n.toNat < rows.length := by omega
      obtain ⟨g1, g2⟩ := repRows_get e7 n.toNat _ (rowAt_get (d := d) hlt)
      simp only [Rep]
      exact ⟨b, _, rfl, e6, e4 _ (List.mem_of_getElem? (rowAt_get (d := d) hlt)), g2⟩
  · rename_i n l ik j
    split at hex
    · rename_i sz' live rows d hn
      simp only [Option.some.injEq, Prod.mk.injEq] at hex
      obtain ⟨rfl, rfl, rfl⟩ := hex
      obtain ⟨rfl, hl1, v1, v2⟩ := hvc
      have hI' := rep_int (X := .un) hI
      have hv := own_vals h hn hx hl1
      obtain ⟨a1, a2, a3, a4⟩ := h.arr n i.size live rows d hn
      have hln : σ.ln n = some rows.length := by have := h.ln n; simpa [lenOf, hn] using this
      rcases a4 with ⟨a4, a5, rfl⟩ | ⟨b, k, cap, a4, _⟩
      · simp at v2; omega
      · rw [a4] at hv
        refine Step.quiet h (run b k _ _ ik j hv hI' v1 v2) ?_
        simp only [Rep]
        subst hl1
        refine ⟨a1, ⟨_, _, rfl⟩, fun l' hl' => ?_⟩
        rw [hln] at hl'
        simp at hl'
        subst hl'
        exact ⟨Nat.le_refl _, fun _ => ⟨b, k, by rw [a4], by simp⟩⟩
    · simp at hex
  · simp at hex

theorem step_iaA (h : HInv σ hp) {t e : TypeId} {x ix : Operand} {X I : AV} {i : TypeInfo} {n : Nat} (ho : o.op = .indexAddr t x ix) (ht : P.underlying t = some (.array n e)) (hi : P.info? e = some i)
    (hx : Rep σ X (a.eval x)) (hI : Rep σ I (a.eval ix)) (hex : exIaA n i.size X I = some (vc, r, ws)) (hvc : vc) : Step P o a σ nm (ws ++ hp) r := by
  have run : ∀ (b k : Nat) (ik : IntKind) (j : Int), a.eval x = .pointer (some ⟨b, k, none⟩) → a.eval ix = .int ik j → 0 ≤ j → j < n →
      (execOp a.eval o).run P σ.w = .ok (.value (.pointer (some ⟨b, k + j.toNat * i.size, none⟩))) σ.w := by
    intro b k ik j e1 e2 e3 e4
    simp [execOp, ho, Instr.indexAt, run_underlying ht, e1, e2, asIntOf, e3, e4, run_sizeOf hi, addr_add, Instr.sureAddr]
  unfold exIaA at hex
  split at hex
  · rename_i m k ik j
    simp only [Option.some.injEq, Prod.mk.injEq] at hex
    obtain ⟨rfl, rfl, rfl⟩ := hex
    simp only [Rep] at hx
    exact Step.quiet h (run _ _ ik j hx.2 (rep_int (X := .un) hI) hvc.1 hvc.2) (by simp only [Rep]; exact ⟨hx.1, trivial⟩)
  · rename_i cs k ik j
    simp only [Option.some.injEq, Prod.mk.injEq] at hex
    obtain ⟨rfl, rfl, rfl⟩ := hex
    simp only [Rep] at hx
    obtain ⟨b, k0, e1, e2, e3, e4⟩ := hx
    exact Step.quiet h (run _ _ ik j e1 (rep_int (X := .un) hI) hvc.1 hvc.2) (by simp only [Rep]; exact ⟨b, k0, by rw [Nat.add_assoc], e2, e3, e4⟩)
  · rename_i m l es k' o' ik j
    simp only [Option.some.injEq, Prod.mk.injEq] at hex
    obtain ⟨rfl, rfl, rfl⟩ := hex
    simp only [Rep] at hx
    obtain ⟨h1, h2, h3⟩ := hx
    obtain ⟨b, k0, e⟩ := h2
    refine Step.quiet h (run _ _ ik j e (rep_int (X := .un) hI) hvc.1 hvc.2) ?_
    simp only [Rep]
    refine ⟨h1, ⟨_, _, rfl⟩, fun l' hl' => ⟨(h3 l' hl').1, fun he => ?_⟩⟩
    obtain ⟨b', k', g1, g2⟩ := (h3 l' hl').2 he
    rw [e] at g2
    simp at g2
    exact ⟨b', k', g1, by rw [g2.1, g2.2]; simp [Nat.add_assoc]⟩
  · simp at hex

theorem step_idxA (h : HInv σ hp) {t e : TypeId} {x ix : Operand} {X I : AV} {d : TypeDesc} {i : TypeInfo} {n : Nat} (ho : o.op = .index t x ix) (ht : P.underlying t = some (.array n e)) (hd : P.underlying e = some d) (hi : P.info? e = some i)
    (hx : Rep σ X (a.eval x)) (hI : Rep σ I (a.eval ix)) (hex : exIdxA n i.size (isAggD d) X I = some (vc, r, ws)) (hvc : vc) : Step P o a σ nm (ws ++ hp) r := by
  unfold exIdxA at hex
  split at hex
  · rename_i cs ik j
    split at hex
    · rename_i ds hds
      cases hm : mkv (isAggD d) ds with
      | none => simp [hm, vr] at hex
      | some r' =>
        simp only [hm, vr, Option.map_some, Option.some.injEq, Prod.mk.injEq] at hex
        obtain ⟨rfl, rfl, rfl⟩ := hex
        simp only [Rep] at hx
        obtain ⟨xs, e1, e2, e3⟩ := hx
        obtain ⟨v, g1, g2⟩ := run_part hd hi e3 e2 hds hm
        refine Step.quiet h ?_ g2
        have hI' := rep_int (X := .un) hI
        simp [execOp, ho, Instr.index, run_underlying ht, e1, hI', asIntOf, hvc.1, hvc.2, run_sizeOf hi, g1]
    · simp at hex
  · simp at hex

theorem step_ext (h : HInv σ hp) {x : Operand} {X : AV} {i : Nat} (ho : o.op = .extract x i) (hx : Rep σ X (a.eval x)) (hex : exExt i X = some (vc, r, ws)) : Step P o a σ nm (ws ++ hp) r := by
  cases X with
  | tup cs =>
    simp only [exExt] at hex
    split at hex
    · rename_i c hc
      simp only [Option.some.injEq, Prod.mk.injEq] at hex
      obtain ⟨_, rfl, rfl⟩ := hex
      simp only [Rep] at hx
      obtain ⟨xs, e1, e2⟩ := hx
      obtain ⟨v, g1, g2⟩ := repL_get e2 i _ hc
      refine Step.quiet h ?_ g2
      simp [execOp, ho, Instr.extract, e1, g1]
    · simp at hex
  | _ => simp [exExt] at hex

theorem step_len (h : HInv σ hp) {c : Call} {x : Operand} {X : AV} {t e : TypeId} (ho : o.op = .call c) (hc : c.callee = .builtin .len) (ha : c.args.toList = [x]) (hat : c.argTypes.toList = [t]) (ht : P.underlying t = some (.slice e))
    (hx : Rep σ X (a.eval x)) (hex : exLen hp X = some (vc, r, ws)) (hvc : vc) : Step P o a σ nm (ws ++ hp) r := by
  have ha' : c.args = #[x] := Array.toList_inj.1 ha
  have hat' : c.argTypes = #[t] := Array.toList_inj.1 hat
  have run : ∀ (base : Option Addr) (n cap : Nat), a.eval x = .slice base n cap → (execOp a.eval o).run P σ.w = .ok (.value (.int .i64 n)) σ.w := by
    intro base n cap e1
    simp [execOp, ho, resolve, hc, invoke, builtin, ha', hat', Builtin.len_, run_underlying ht, e1, goInt]
  cases X with
  | sl sz f rows d =>
    simp only [exLen, Option.some.injEq, Prod.mk.injEq] at hex
    obtain ⟨_, rfl, rfl⟩ := hex
    simp only [Rep] at hx
    obtain ⟨base, cap, e1, _⟩ := hx
    exact Step.quiet h (run _ _ _ e1) (by simp [Rep])
  | own n l =>
    simp only [exLen] at hex
    split at hex
    · rename_i sz live rows d hn
      simp only [Option.some.injEq, Prod.mk.injEq] at hex
      obtain ⟨rfl, rfl, rfl⟩ := hex
      exact Step.quiet h (run _ _ _ (own_vals h hn hx hvc)) (by simp [Rep])
    · simp at hex
  | _ => simp [exLen] at hex

theorem step_app (h : HInv σ hp) (hnm : ¬ σ.al nm) {c : Call} {s x : Operand} {X Y : AV} {t e : TypeId} {i : TypeInfo} {zs : List AV} (ho : o.op = .call c) (hc : c.callee = .builtin .append) (ha : c.args.toList = [s, x]) (hat : c.argTypes.toList = [t, t])
    (ht : P.underlying t = some (.slice e)) (hi : P.info? e = some i) (hz : cZero P e = some zs) (h0 : 0 < i.size ∧ 0 < i.bytes) (hx : Rep σ X (a.eval s)) (hy : Rep σ Y (a.eval x))
    (hex : exApp hp nm i.size i.bytes zs X Y = some (vc, r, ws)) (hvc : vc) : Step P o a σ nm (ws ++ hp) r := by
  have ha' : c.args = #[s, x] := Array.toList_inj.1 ha
  have hat' : c.argTypes = #[t, t] := Array.toList_inj.1 hat
  obtain ⟨i', z, e1, e2, e3, e4, e5⟩ := cZero_spec hz
  rw [hi] at e1
  cases e1
  obtain ⟨v, w', σ', g1, g2, g3⟩ := app_sound h hnm t o.type e i z ht hi e2 rfl rfl e4 h0.1 h0.2 hex hvc hx hy
  refine .inl ⟨v, w', σ', .inl ?_, g2, g3⟩
  simp [execOp, ho, resolve, hc, invoke, builtin, ha', hat', g1]

theorem mm_sound {isMax : Bool} : ∀ {ys : List AV} {X Z : AV} {vs : List Value} {v : Value}, mmL isMax X ys = some Z → Rep σ X v → RepL σ ys vs →
    ∃ z, (vs.foldlM (if isMax then Builtin.max2 else Builtin.min2) v).run P σ.w = .ok z σ.w ∧ Rep σ Z z
  | [], X, Z, vs, v, hm, hx, hy => by
    simp [mmL] at hm; subst hm
    simp [RepL] at hy; subst hy
    exact ⟨v, by simp, hx⟩
  | Y :: ys, X, Z, vs, v, hm, hx, hy => by
    simp only [mmL] at hm
    simp only [RepL] at hy
    obtain ⟨y, us, rfl, h2, h3⟩ := hy
    split at hm
    · rename_i U hU
      unfold mm2 at hU
      split at hU
      · rename_i k n k' m
        simp at hU
        have e1 := rep_int (X := .un) hx
        have e2 := rep_int (X := .un) h2
        subst e1 e2
        have hrun : ((if isMax then Builtin.max2 else Builtin.min2) (.int k n) (.int k' m)).run P σ.w = .ok (.int k (bif isMax then max n m else min n m)) σ.w := by
          cases isMax
          · simp [Builtin.min2]; omega
          · simp [Builtin.max2]; omega
        subst hU
        obtain ⟨z, g1, g2⟩ := mm_sound (vs := us) hm (v := .int k (bif isMax then max n m else min n m)) (by simp [Rep]) h3
        exact ⟨z, by simp [List.foldlM_cons, hrun, g1], g2⟩
      · simp at hU
    · simp at hm

theorem step_mm (h : HInv σ hp) {c : Call} {Xs : List AV} {isMax : Bool} (ho : o.op = .call c) (hc : c.callee = .builtin (if isMax then .max else .min)) (hx : RepL σ Xs (c.args.toList.map a.eval))
    (hex : exMm isMax Xs = some (vc, r, ws)) : Step P o a σ nm (ws ++ hp) r := by
  cases Xs with
  | nil => simp [exMm] at hex
  | cons X Ys =>
    simp only [exMm] at hex
    split at hex
    · rename_i Z hZ
      simp only [Option.some.injEq, Prod.mk.injEq] at hex
      obtain ⟨_, rfl, rfl⟩ := hex
      simp only [RepL] at hx
      obtain ⟨v, vs, e1, e2, e3⟩ := hx
      obtain ⟨z, g1, g2⟩ := mm_sound (P := P) hZ e2 e3
      refine Step.quiet h ?_ g2
      cases isMax
      · simp at g1 hc
        simp [execOp, ho, resolve, hc, invoke, builtin, Builtin.min_, e1, g1]
      · simp at g1 hc
        simp [execOp, ho, resolve, hc, invoke, builtin, Builtin.max_, e1, g1]
    · simp at hex

theorem step_mkf (h : HInv σ hp) {fn : Fn} {f c : Array Operand} {Xs Ys : List AV} (ho : o.op = .makeFunc fn f c) (hx : RepL σ Xs (f.toList.map a.eval)) (hy : RepL σ Ys (c.toList.map a.eval)) :
    Step P o a σ nm ([] ++ hp) (.clo fn Xs Ys) := by
  refine Step.quiet h (v := .func fn (f.map a.eval) (c.map a.eval)) ?_ ?_
  · simp [execOp, ho, Instr.makeFunc]
  · simp only [Rep]
    exact ⟨_, _, by rw [← Array.toList_map, ← Array.toList_map, Array.toArray_toList, Array.toArray_toList], hx, hy⟩

theorem step_nil (h : HInv σ hp) {x : Operand} {X : AV} (ho : o.op = .nilCheck x) (hx : Rep σ X (a.eval x)) (hex : exNil X = some (vc, r, ws)) : Step P o a σ nm (ws ++ hp) r := by
  unfold exNil at hex
  split at hex
  · simp only [Option.some.injEq, Prod.mk.injEq] at hex
    obtain ⟨_, rfl, rfl⟩ := hex
    have hx' := hx
    simp only [Rep] at hx
    exact Step.quiet h (v := a.eval x) (by simp [execOp, ho, hx.2]) hx'
  · simp only [Option.some.injEq, Prod.mk.injEq] at hex
    obtain ⟨_, rfl, rfl⟩ := hex
    have hx' := hx
    simp only [Rep] at hx
    obtain ⟨b, k0, e1, _⟩ := hx
    exact Step.quiet h (v := a.eval x) (by simp [execOp, ho, e1]) hx'
  · simp only [Option.some.injEq, Prod.mk.injEq] at hex
    obtain ⟨_, rfl, rfl⟩ := hex
    have hx' := hx
    simp only [Rep] at hx
    obtain ⟨xs, ys, e1, _⟩ := hx
    exact Step.quiet h (v := a.eval x) (by simp [execOp, ho, e1]) hx'
  · simp at hex

theorem step_cnv (h : HInv σ hp) {src dst : TypeId} {x : Operand} {X : AV} {k k' : IntKind} (ho : o.op = .convert src dst x) (hs : P.underlying src = some (.int k')) (hd : P.underlying dst = some (.int k)) (hx : Rep σ X (a.eval x))
    (hex : exCnv k X = some (vc, r, ws)) (hvc : vc) : Step P o a σ nm (ws ++ hp) r := by
  unfold exCnv at hex
  split at hex
  · rename_i k0 n
    simp only [Option.some.injEq, Prod.mk.injEq] at hex
    obtain ⟨rfl, rfl, rfl⟩ := hex
    have e := rep_int (X := .un) hx
    refine Step.quiet h (v := .int k n) ?_ (by simp [Rep])
    simp [execOp, ho, convert, run_underlying hs, run_underlying hd, e, Conv.intToInt, inR_wrap hvc]
  · simp at hex

theorem step_un (h : HInv σ hp) {t : TypeId} {op : UnOp} {x : Operand} {X : AV} (ho : o.op = .unOp op t x) (hx : Rep σ X (a.eval x)) (hex : vr (exUn op X) = some (vc, r, ws)) (hvc : vc) : Step P o a σ nm (ws ++ hp) r := by
  unfold exUn at hex
  split at hex
  · rename_i b
    simp only [vr, Option.some.injEq, Prod.mk.injEq] at hex
    obtain ⟨rfl, rfl, rfl⟩ := hex
    have e : a.eval x = .bool b := by simpa [Rep] using hx
    exact Step.quiet h (v := .bool (!b)) (by simp [execOp, ho, Op.unary, e]) (by simp [Rep])
  · rename_i k n
    simp only [vr, Option.some.injEq, Prod.mk.injEq] at hex
    obtain ⟨rfl, rfl, rfl⟩ := hex
    have e := rep_int (X := .un) hx
    refine Step.quiet h (v := .int k (-n)) ?_ (by simp [Rep])
    have := inR_wrap hvc
    simp [execOp, ho, Op.unary, e, Op.intArith, this]
  · simp [vr] at hex

theorem cmpB_spec {op : BinOp} {x y : Int} {b : Bool} (h : cmpB op x y = some b) (k : IntKind) (t : TypeId) (w : World) : (binOp op t (.int k x) (.int k y)).run P w = .ok (.bool b) w := by
  cases op <;> simp only [cmpB, Option.some.injEq, reduceCtorEq] at h
  case neq => subst h; simp [binOp, Op.intCmp]; rw [Bool.eq_iff_iff]; simp
  case eql => subst h; simp [binOp, Op.intCmp]; rw [Bool.eq_iff_iff]; simp
  all_goals (subst h; simp [binOp, Op.intCmp])

theorem arB_spec {op : BinOp} {k : IntKind} {x y z : Int} {p : Prop} (h : arB op k x y = some (p, z)) (hp : p) (t : TypeId) (w : World) : (binOp op t (.int k x) (.int k y)).run P w = .ok (.int k z) w := by
  cases op <;> simp only [arB, Option.some.injEq, Prod.mk.injEq, reduceCtorEq] at h <;> obtain ⟨rfl, rfl⟩ := h
  · simp [binOp, Op.intArith, inR_wrap hp]
  · simp [binOp, Op.intArith, inR_wrap hp]
  · simp [binOp, Op.intArith, inR_wrap hp]
  · simp [binOp, Op.intDiv, hp.1, inR_wrap hp.2]
  · simp [binOp, Op.intDiv, hp]

theorem eqGuard_int (op : BinOp) (t : TypeId) (x y : Operand) (k k' : IntKind) (m n : Int) (w : World) : (eqGuard op t x y (.int k m) (.int k' n)).run P w = .ok () w := by
  cases op <;> simp [eqGuard]
theorem eqGuard_bool (op : BinOp) (t : TypeId) (x y : Operand) (m n : Bool) (w : World) : (eqGuard op t x y (.bool m) (.bool n)).run P w = .ok () w := by
  cases op <;> simp [eqGuard]

theorem eqIn_bool {t : TypeId} (hu : P.underlying t = some .bool) (d : Nat) (b1 b2 : Bool) (w : World) : (Op.equalIn (d + 1) t (.bool b1) (.bool b2)).run P w = .ok (b1 == b2) w := by
  simp [Op.equalIn, run_underlying hu]

theorem step_bin (h : HInv σ hp) {t yt : TypeId} {op : BinOp} {x y : Operand} {X Y : AV} (ho : o.op = .binOp op t x y yt) (hop : cBin P op t (opd x) (opd y) = .bin op .int (opd x) (opd y) ∨ cBin P op t (opd x) (opd y) = .bin op .bool (opd x) (opd y) ∧ P.underlying t = some .bool)
    {tk : TK} (htk : cBin P op t (opd x) (opd y) = .bin op tk (opd x) (opd y)) (hx : Rep σ X (a.eval x)) (hy : Rep σ Y (a.eval y)) (hex : vr (exBin op tk X Y) = some (vc, r, ws)) (hvc : vc) : Step P o a σ nm (ws ++ hp) r := by
  unfold exBin at hex
  split at hex
  · rename_i k m k' n
    have e1 := rep_int (X := .un) hx
    have e2 := rep_int (X := .un) hy
    split at hex
    · rename_i b hb
      simp only [vr, Option.some.injEq, Prod.mk.injEq] at hex
      obtain ⟨rfl, rfl, rfl⟩ := hex
      subst hvc
      refine Step.quiet h (v := .bool b) ?_ (by simp [Rep])
      have g1 := eqGuard_int (P := P) op t x y k k m n σ.w
      have g2 := cmpB_spec (P := P) hb k t σ.w
      simp [execOp, ho, e1, e2, g1, g2]
    · split at hex
      · rename_i p z hz
        simp only [vr, Option.some.injEq, Prod.mk.injEq] at hex
        obtain ⟨rfl, rfl, rfl⟩ := hex
        obtain ⟨rfl, hp'⟩ := hvc
        refine Step.quiet h (v := .int k z) ?_ (by simp [Rep])
        have g1 := eqGuard_int (P := P) op t x y k k m n σ.w
        have g2 := arB_spec (P := P) hz hp' t σ.w
        simp [execOp, ho, e1, e2, g1, g2]
      · simp [vr] at hex
  · rename_i b1 b2
    have e1 : a.eval x = .bool b1 := by simpa [Rep] using hx
    have e2 : a.eval y = .bool b2 := by simpa [Rep] using hy
    have hu : P.underlying t = some .bool := by
      rcases hop with hop | hop
      · rw [htk] at hop; simp at hop
      · exact hop.2
    have heq : ∀ w, (Op.equal t (.bool b1) (.bool b2)).run P w = .ok (b1 == b2) w := by
      intro w
      exact eqIn_bool hu 9999 b1 b2 w
    have g1 := fun op => eqGuard_bool (P := P) op t x y b1 b2 σ.w
    split at hex
    · simp only [vr, Option.some.injEq, Prod.mk.injEq] at hex
      obtain ⟨rfl, rfl, rfl⟩ := hex
      refine Step.quiet h (v := .bool (b1 == b2)) ?_ (by simp [Rep])
      simp [execOp, ho, e1, e2, g1, binOp, heq]
    · simp only [vr, Option.some.injEq, Prod.mk.injEq] at hex
      obtain ⟨rfl, rfl, rfl⟩ := hex
      refine Step.quiet h (v := .bool (b1 != b2)) ?_ (by simp [Rep])
      simp [execOp, ho, e1, e2, g1, binOp, heq, bne]
    · simp [vr] at hex
  · simp [vr] at hex
end
end Go.Proofs.Ytmmfbjmjhjmccaa.Am
