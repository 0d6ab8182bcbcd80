/-
  The abstract machine, part 20: the rule for a yield; an iterator's contract.
-/
import Derived.Test.YtmmfbjmjhjmccaaAm19
namespace Go.Proofs.Ytmmfbjmjhjmccaa.Am
set_option linter.unusedSimpArgs false
set_option linter.unusedVariables false
open Go

/-- The end of an iterator. -/
def itK (n : Nat) : AE → St → Prop
  | .x _, _ => False
  | _, s => lk s.env gs = ghost n ∨ lk s.env gs = ghost (-1)

section
variable {P : Program} {S : Tab} {nt hb : Nat} {J : Int → Cf → Prop} {hnt : nt ≤ gs} {evo : ∀ {k : Int} {σ σ' : Cf}, J k σ → Evo σ σ' → J k σ'} {l : Nat} {xs : List (List AV)}

theorem awp_yield (hS : TabOK P S) (hR : Rng P Fence.wide l hb xs J) (i : Nat) {rid : Nat} {ops : List AOp} {yo : AOp} {Q : AE → St → Prop} {e e1 : Env} {h h1 : Hp} {c : Nat} {vc : Prop} {x : Opd} {as : List Opd} {k : Nat} {args : List AV}
    (hyo : ops[i]? = some yo) (hk : yo.k = .cv x as) (hex : exops S (c + 1) (100 * rid) (ops.take i) e h = some (vc, e1, h1)) (hvc : vc) (hg : gval e1 yo.g = some true) (hx : ung true (opv e1 x) = .clo (.yield l) [] [])
    (hgh : lk e gs = ghost k) (hargs : as.map (fun x => ung true (opv e1 x)) = args) (hxs : xs[k]? = some args)
    (hQ : ∀ b : Bool, ∃ (vc2 : Prop) (e2 : Env) (h2 : Hp), exops S (c + 1) (100 * rid + (i + 1)) (ops.drop (i + 1)) (putE yo.d (.v (.bool b)) ((gs, ghost (if b = true then k + 1 else -1)) :: e1)) h1 = some (vc2, e2, h2) ∧ vc2 ∧ Q .n ⟨e2, h2, c + 1⟩) :
    awp (Ctx.it P Fence.wide S nt hb J hnt evo) (.reg rid ops) Q ⟨e, h, c⟩ := by
  intro code hc σ a hA
  have hΓ : (Ctx.it P Fence.wide S nt hb J hnt evo).OK := ⟨hS, .inl rfl⟩
  cases code with
  | region id ops' d =>
    simp only [cCode] at hc
    obtain ⟨l0, hx0, ⟨rfl, e0⟩ | ⟨_, _, _, _, e0⟩⟩ := cReg_inv hc
    · cases e0
      refine wpIn_region ?_
      obtain ⟨c1, c2⟩ := cOps_spec hx0
      obtain ⟨t1, t2⟩ := cOps_take i hx0
      obtain ⟨_, t3⟩ := cOps_take (i + 1) hx0
      have hi : i < ops.length := (List.getElem?_eq_some_iff.1 hyo).1
      have hsz : ops.length = ops'.size := c1.trans (by simp)
      have hi' : i < ops'.size := by omega
      have ho : ops'[i]? = some ops'[i] := Array.getElem?_eq_getElem hi'
      obtain ⟨yo', g1, g2⟩ := c2 i ops'[i] (by simp)
      rw [hyo] at g1
      cases g1
      obtain ⟨cl, y, k1, k2, rfl, rfl, k3, k4⟩ := cOp_cv g2 hk
      have hr : List.range ops'.size = List.range' 0 (ops'.toList.take i).length ++ (i :: List.range' (i + 1) (ops'.toList.drop (i + 1)).length) := by
        have e1 : (ops'.toList.take i).length = i := by simp; omega
        have e2 : (ops'.toList.drop (i + 1)).length = ops'.size - (i + 1) := by simp
        rw [e1, e2, List.range_eq_range', ← List.range'_succ]
        have := List.range'_append_1 (s := 0) (m := i) (n := ops'.size - (i + 1) + 1)
        rw [Nat.zero_add] at this
        rw [this]
        congr 1
        omega
      rw [hr]
      refine wpOps_pre hΓ (cnt := c) (100 * rid) e _ (ops'.toList.take i) 0 (ops.take i) σ e e1 h h1 a vc (fun _ _ => rfl) (fun j hj => ?_) t1 hex hvc hA.1 (fun m hm => .inl (hA.2.1 m hm)) fun a1 σ1 ev1 hI1 hal1 hfar1 => ?_
      · have : j < i := by simp at hj; omega
        simp [List.getElem?_take, this]
      rw [wpOpsIn_cons]
      unfold wpOpIn
      simp only [ho]
      have hw := gval_sound hI1.t k4 hg
      simp only [hw, if_true]
      refine ⟨fun f _ => trivial, ?_⟩
      have hno : ∀ c, ops'[i].op ≠ .defer c := fun c hd => by rw [k1] at hd; cases hd
      rw [Oper.semAt_eq _ a1.eval _ hno]
      have hX := arg_rep (g := true) rfl hI1.t y
      rw [hx] at hX
      simp only [Rep, RepL] at hX
      obtain ⟨xs0, ys0, hX, rfl, rfl⟩ := hX
      have hV := args_rep (g := true) rfl hI1.t cl.args.toList
      have hJ : J k σ1 := evo (hA.2.2 k hgh) ev1
      have hV' : RepL σ1 args (cl.args.toList.map a1.eval) := by
        rw [← hargs]
        exact hV
      obtain ⟨f, tmps, assign, body, y1, y2⟩ := hR.rnd hJ hI1.h hxs hV'
      show Oper.uponIn Fence.wide 0 P ops'[i] a1 _ _ (Sem.run P (execOp a1.eval ops'[i]) σ1.w)
      rw [yield_run k1 k2 (by simpa using hX) y1]
      rw [Oper.uponIn_round]
      refine ⟨fun h => by simp [Fence.wide] at h, y2.mono ?_⟩
      rintro en w' ⟨b, σ2, rfl, rfl, oth, old, hJ2⟩
      obtain ⟨vc2, e2, h2, q1, q2, q3⟩ := hQ b
      have hd : ∀ k, ops'[i].dst = some k → k < a1.tmps.size := by
        rw [k3]; intro d hd
        rw [hI1.sz]; exact cOp_d g2 d hd
      have hI2 : Inv σ2 (putE yo.d (.v (.bool b)) ((gs, ghost (if b = true then k + 1 else -1)) :: e1)) h1 (a1.put ops'[i].dst (.bool b)) nt hb := by
        refine ⟨hI1.h.oth oth, ?_, by rw [Act.size_put]; exact hI1.sz, ?_⟩
        · rw [← k3]
          refine TInv.put (r := .v (.bool b)) (fun t => ?_) hd (by simp [Rep])
          simp only [lk]
          by_cases ht : gs = t
          · rw [if_pos ht]
            subst ht
            have : ¬ gs < a1.tmps.size := by rw [hI1.sz]; exact Nat.not_lt.2 hnt
            simp [Rep, Array.getD, this]
          · rw [if_neg ht]; exact hI1.t.ev oth.ev t
        · rw [Act.defers_put]
          refine ⟨fun d hd => ?_, hI1.df.nd, Nat.le_trans hI1.df.le oth.sz⟩
          obtain ⟨r, r1, r2, r3, r4, r5⟩ := hI1.df.all d hd
          obtain ⟨o1, o2⟩ := old r _ r5 r3
          exact ⟨r, r1, r2, o1, by rw [oth.M]; exact r4, o2⟩
      have hgh2 : lk (putE yo.d (.v (.bool b)) ((gs, ghost (if b = true then k + 1 else -1)) :: e1)) gs = ghost (if b = true then k + 1 else -1) := by
        rw [lk_putE (cOp_d g2) hnt]; simp [lk]
      have hG2 : (Ctx.it P Fence.wide S nt hb J hnt evo).G (putE yo.d (.v (.bool b)) ((gs, ghost (if b = true then k + 1 else -1)) :: e1)) σ2 := by
        intro k' hk'
        rw [hgh2] at hk'
        have : (if b = true then (k : Int) + 1 else -1) = k' := by simpa using hk'
        rw [← this]
        exact hJ2
      have hal2 : ∀ m, σ2.al m → m.2 ≤ c ∨ (m.2 = c + 1 ∧ m.1 < 100 * rid + (i + 1)) := by
        intro m hm
        rw [oth.al] at hm
        rcases hal1 m hm with h | ⟨h3, h4⟩
        · exact .inl h
        · right; simp at h4; omega
      have hh := wpOps_seq hΓ (ops := ops') (Q := Q) (cnt := c) (100 * rid) _ σ2 hG2 (ops'.toList.drop (i + 1)) (i + 1) (ops.drop (i + 1)) σ2 _ _ _ _ _ vc2 (fun _ _ => rfl) (fun j => by simp) (by simp; omega) t3 q1 q2 (Evo.refl σ2) hI2 hal2 q3
      have hl : lift (Ctx.it P Fence.wide S nt hb J hnt evo) σ2 Q = lift (Ctx.it P Fence.wide S nt hb J hnt evo) σ Q := rfl
      rw [hl] at hh
      exact hh
    · cases e0
  | seq x y => simp only [cCode] at hc; split at hc <;> simp at hc
  | cond c x y => simp only [cCode] at hc; split at hc <;> simp at hc
  | rangeFunc f ps x y => simp only [cCode] at hc; split at hc <;> simp at hc
  | _ => simp [cCode] at hc
end
end Go.Proofs.Ytmmfbjmjhjmccaa.Am
