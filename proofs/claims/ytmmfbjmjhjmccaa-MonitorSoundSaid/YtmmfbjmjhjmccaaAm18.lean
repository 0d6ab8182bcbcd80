/-
  The abstract machine, part 18: the rule for a region that draws its order.
-/
import Derived.Test.YtmmfbjmjhjmccaaAm17
namespace Go.Proofs.Ytmmfbjmjhjmccaa.Am
set_option linter.unusedSimpArgs false
set_option linter.unusedVariables false
open Go

theorem exdr_length {S : Tab} {ver : Nat} : ∀ {l : List AOp} {k : Nat} {env : Env} {hp : Hp} {vc : Prop} {e : Env} {h : Hp} {rs : List Rec}, exdr S ver k l env hp = some (vc, e, h, rs) → rs.length = l.length
  | [], _, _, _, _, _, _, _, hex => by simp [exdr] at hex; simp [hex.2.2.2]
  | o :: l, k, env, hp, vc, e, h, rs, hex => by
    simp only [exdr] at hex
    split at hex
    · simp at hex
    split at hex
    · simp at hex
    rename_i hex2
    simp only [Option.some.injEq, Prod.mk.injEq] at hex
    obtain ⟨_, _, _, rfl⟩ := hex
    simp [exdr_length hex2]

theorem cOps_spec {P : Program} {nt : Nat} {ops : Array Oper} : ∀ {l : List Oper} {xs : List AOp}, cOps P nt ops l = some xs → xs.length = l.length ∧ ∀ (i : Nat) (o : Oper), l[i]? = some o → ∃ x, xs[i]? = some x ∧ cOp P nt ops o = some x
  | [], xs, h => by simp [cOps] at h; subst h; simp
  | p :: l, xs, h => by
    simp only [cOps] at h
    split at h
    · rename_i x ys hx hys
      simp at h; subst h
      obtain ⟨h1, h2⟩ := cOps_spec hys
      refine ⟨by simp [h1], fun i o ho => ?_⟩
      cases i with
      | zero => simp at ho; subst ho; exact ⟨x, rfl, hx⟩
      | succ i => exact h2 i o (by simpa using ho)
    · simp at h

theorem cDraw_spec {ops : Array Oper} {l : List AOp} {un : List (Nat × Nat)} (h : cDraw ops l = some un) : ∃ B, befOK B 0 ops.toList = true ∧ tOK B l 0 l = true ∧ un = unl B l 0 l := by
  unfold cDraw at h
  rw [forceL_eq] at h
  generalize (CheckFast.beforeF ops).toList = B at h
  refine ⟨B, ?_⟩
  cases h1 : befOK B 0 ops.toList <;> cases h2 : tOK B l 0 l <;> simp [h1, h2] at h
  exact ⟨rfl, rfl, h.symm⟩

theorem hw_ht {k : AK} (h : ht k = false) : hw k = false := by cases k <;> simp [ht, hw] at h ⊢

theorem At.drawn {Γ : Ctx} {σ : Cf} {s : St} {a : Act} (h : At Γ σ s a) (d : Nat) : ∃ σ', σ'.w = { σ.w with drawn := d } ∧ Evo σ σ' ∧ At Γ σ' s a := by
  obtain ⟨⟨h1, h2, h3, h4⟩, h5, h6⟩ := h
  let τ : Cf := { σ with w := { σ.w with drawn := d } }
  have e : Evo σ τ := ⟨fun _ h => ⟨h, rfl⟩, fun _ _ l h => ⟨l, h, Nat.le_refl _, fun _ => rfl⟩, fun _ _ h h' => ⟨h, h'⟩, rfl, Nat.le_refl _, ⟨rfl, rfl⟩⟩
  refine ⟨τ, rfl, e, ⟨⟨h1.ln, fun n j c hc => ?_, fun n sz live rows d hc => ?_, h1.inj, h1.lt, h1.ou, h1.dis⟩, ?_, h3, h4.mono e⟩, h5, Γ.g h6 e fun _ _ => .inr rfl⟩
  · have kk := h1.cel n j c hc
    exact kk.keep e kk.2.1 rfl
  · exact (h1.arr n sz live rows d hc).keep e rfl fun _ _ _ _ _ _ hM => ⟨hM, rfl⟩
  · exact fun t => (h2 t).mono e

variable {Γ : Ctx}

theorem awp_drw (hΓ : Γ.OK) {rid : Nat} {ops : List AOp} {un : List (Nat × Nat)} {Q : AE → St → Prop} {s : St} {vc : Prop} {env : Env} {hp : Hp} {recs : List Rec} (hex : exdr Γ.S (s.cnt + 1) (100 * rid) ops s.env s.hp = some (vc, env, hp, recs)) (hvc : vc) (hun : unOK recs un = true)
    (hQ : Q .n ⟨env, hp, s.cnt + 1⟩) : awp Γ (.drw rid ops un) Q s := by
  intro code hc σ a hA
  cases code with
  | region id ops' d =>
    simp only [cCode] at hc
    obtain ⟨l, hx, ⟨_, e⟩ | ⟨rfl, hf, un', hu, e⟩⟩ := cReg_inv hc
    · cases e
    · cases e
      refine wpIn_region_any hf ?_
      obtain ⟨B, b1, b2, rfl⟩ := cDraw_spec hu
      obtain ⟨c1, c2⟩ := cOps_spec hx
      have hlen : ops.length = ops'.size := by simpa using c1
      have hrl := exdr_length hex
      have hop : ∀ i o, ops'[i]? = some o → ∃ x, ops[i]? = some x ∧ cOp Γ.P Γ.nt ops' o = some x := fun i o ho => c2 i o (by simpa using ho)
      have hao : ∀ i x, ops[i]? = some x → ops.getD i default = x := fun i x h => by simp [List.getD_eq_getElem?_getD, h]
      have hsp := exdr_spec (rec := fun i => recs.getD i default) (env0 := s.env) (hp0 := s.hp) (all := ops) (bs := 100 * rid) ops 0 recs vc env hp (fun i => by simp) hex hvc (fun i hi => by
        have : i < recs.length := by omega
        simp [List.getD_eq_getElem?_getD, this])
      simp only [Nat.zero_add] at hsp
      obtain ⟨e1, e2, run⟩ := hsp
      have get : ∀ i, i < ops.length → ops[i]? = some (ops.getD i default) := fun i hi => by simp [List.getD_eq_getElem?_getD, hi]
      have hws : ∀ i, i < ops.length → hw (ops.getD i default).k = false → (recs.getD i default).ws = [] := fun i hi h => by
        obtain ⟨_, _, g, _⟩ := run i _ (get i hi)
        exact exop_nil h g
      have hrd : ∀ i, i < ops.length → ht (ops.getD i default).k = false → (recs.getD i default).rd = [] := fun i hi h => by
        obtain ⟨_, _, _, _, g⟩ := run i _ (get i hi)
        rw [g]; exact rdO_nil h
      have G : Good Γ.P Γ.S Γ.nt (100 * rid) (s.cnt + 1) ops.length ops' B (fun i => recs.getD i default) s.env s.hp fun i => ops.getD i default :=
        { sz := hlen.symm
          bef := fun i o ho => by
            have := befOK_spec b1 i o (by simpa using ho)
            simpa using this
          op := fun i o ho => by
            obtain ⟨x, h1, h2⟩ := hop i o ho
            simp only [hao i x h1]; exact h2
          run := fun i hi => run i _ (get i hi)
          tmp := fun k j hk hj => by
            have h1 := tOK_spec b2 j _ (get j hj)
            rw [Nat.zero_add] at h1
            have h2 := rowOK_spec h1 k (ops.getD k default) (by rw [List.getElem?_take, if_pos hk]; exact get k (by omega))
            rwa [Nat.zero_add] at h2
          mem := fun k j hk hj => by
            have h2 := rowUn_spec (B := B.getD j 0) (j := j) (o := ops.getD j default) (l := ops.take j) (k := 0) k (ops.getD k default) (by rw [List.getElem?_take, if_pos hk]; exact get k (by omega))
            rw [Nat.zero_add] at h2
            rcases h2 with h | h | h
            · exact .inl h
            · right; right
              simp only [Bool.or_eq_false_iff, Bool.and_eq_false_iff] at h
              have hk' : k < ops.length := by omega
              rcases h.1 with g1 | g1
              · rcases h.2 with g2 | g2
                · exact .inr (.inr ⟨hws k hk' g1, hrd k hk' g2⟩)
                · exact .inl ⟨hws k hk' g1, hws j hj g2⟩
              · exact .inr (.inl ⟨hws j hj (hw_ht g1), hrd j hj g1⟩)
            · exact .inr (.inl (unOK_spec hun k j (unl_spec (all := ops) (j := 0) j _ (get j hj) _ (by rw [Nat.zero_add]; exact h)))) }
      obtain ⟨σ', w1, w2, w3⟩ := hA.drawn (σ.w.drawn + 1)
      rw [← w1]
      refine any_run hΓ G (by rw [← e1, ← e2]; exact hQ) hA.2.2 ops'.size [] _ σ' a ⟨by simp, by simp, .nil⟩ (by simp) (fun i hi => ?_) (by rw [left_nil, hlen]) w2 w3.1 fun m hm => .inl (w3.2.1 m hm)
      simp [Array.getD, hi]
  | seq x y => simp only [cCode] at hc; split at hc <;> simp at hc
  | cond c x y => simp only [cCode] at hc; split at hc <;> simp at hc
  | rangeFunc f ps x y => simp only [cCode] at hc; split at hc <;> simp at hc
  | _ => simp [cCode] at hc

theorem awp_d (hΓ : Γ.OK) {rid : Nat} {ops : List AOp} {un : List (Nat × Nat)} {Q : AE → St → Prop} {e e' : Env} {h h' : Hp} {c : Nat} {vc : Prop} {recs : List Rec} (hex : exdr Γ.S (c + 1) (100 * rid) ops e h = some (vc, e', h', recs)) (hun : unOK recs un = true) (hvc : vc)
    (hQ : Q .n ⟨e', h', c + 1⟩) : awp Γ (.drw rid ops un) Q ⟨e, h, c⟩ := awp_drw hΓ hex hvc hun hQ
theorem awp_sd (hΓ : Γ.OK) {rid : Nat} {ops : List AOp} {un : List (Nat × Nat)} {b : AC} {Q : AE → St → Prop} {e e' : Env} {h h' : Hp} {c : Nat} {vc : Prop} {recs : List Rec} (hex : exdr Γ.S (c + 1) (100 * rid) ops e h = some (vc, e', h', recs)) (hun : unOK recs un = true) (hvc : vc)
    (hQ : awp Γ b Q ⟨e', h', c + 1⟩) : awp Γ (.seq (.drw rid ops un) b) Q ⟨e, h, c⟩ := awp_seq (awp_drw hΓ hex hvc hun hQ)
end Go.Proofs.Ytmmfbjmjhjmccaa.Am
