/-
  The abstract machine, part 28: a call that is walked into: it may change what is the caller's.
-/
import Derived.Test.YtmmfbjmjhjmccaaAm27
namespace Go.Proofs.Ytmmfbjmjhjmccaa.Am
set_option linter.unusedSimpArgs false
set_option linter.unusedVariables false
open Go

def inlK (rvs : List RV) (K : AV → St → Prop) : AE → St → Prop
  | .x _, _ => False
  | _, s => ∃ vc xs, exRVs s.env s.hp rvs = some (vc, xs) ∧ vc ∧ K (one xs) s

theorem inlK_r {rvs : List RV} {K : AV → St → Prop} {e : Env} {h : Hp} {c : Nat} {vc : Prop} {xs : List AV} (h1 : exRVs e h rvs = some (vc, xs)) (h2 : vc) (h3 : K (one xs) ⟨e, h, c⟩) : inlK rvs K .r ⟨e, h, c⟩ := ⟨vc, xs, h1, h2, h3⟩
theorem inlK_n {rvs : List RV} {K : AV → St → Prop} {e : Env} {h : Hp} {c : Nat} {vc : Prop} {xs : List AV} (h1 : exRVs e h rvs = some (vc, xs)) (h2 : vc) (h3 : K (one xs) ⟨e, h, c⟩) : inlK rvs K .n ⟨e, h, c⟩ := ⟨vc, xs, h1, h2, h3⟩

/-- The arguments with which an operation calls a function. -/
def callOf (env : Env) : AK → Option (Nat × List AV)
  | .call f as => some (f, as.map fun x => ung true (opv env x))
  | .cv x as => match ung true (opv env x) with
    | .clo (.func f) fst cps => some (f, fst ++ as.map (fun x => ung true (opv env x)) ++ cps)
    | _ => none
  | _ => none

/-- How the rest of a region goes on. -/
def restK (S : Tab) (rid i : Nat) (d : Option Nat) (post : List AOp) (e1 : Env) (Q : AE → St → Prop) (r : AV) (s : St) : Prop :=
  ∃ (vc2 : Prop) (e2 : Env) (h2 : Hp), exops S (s.cnt + 1) (100 * rid + (i + 1)) post (putE d r e1) s.hp = some (vc2, e2, h2) ∧ vc2 ∧ Q .n ⟨e2, h2, s.cnt + 1⟩

section
variable {P : Program} {S : Tab}

/-- A function's code, walked in the caller's memory. -/
theorem inl_call (hS : TabOK P S) {f : Nat} {fn : Func} {c : AC} {rvs : List RV} {args : List AV} {ntf cnt : Nat} {K : AV → St → Prop} (hf : P.funcs[f]? = some fn) (hc : cFun P fn = some (c, rvs)) (hnt : fn.ntmps = ntf) (hn : args.length ≤ ntf)
    {σ : Cf} {h1 : Hp} {vals : List Value} (hI : HInv σ h1) (hal : ∀ m, σ.al m → m.2 ≤ cnt) (hv : RepL σ args vals) (h : awp (Ctx.fn P S ntf σ.w.heap.size) c (inlK rvs K) ⟨envOf 0 args, h1, cnt⟩) :
    CallsIn Fence.wide 0 P f vals.toArray σ.w fun en w' => ∃ v τ s r, en = .returned v ∧ τ.w = w' ∧ Evo σ τ ∧ HInv τ s.hp ∧ (∀ m, τ.al m → m.2 ≤ s.cnt) ∧ Rep τ r v ∧ K r s := by
  subst hnt
  unfold cFun at hc
  split at hc
  · rename_i b hbd
    split at hc
    · rename_i c' r' g1 g2
      simp at hc
      obtain ⟨rfl, rfl⟩ := hc
      have hlen := repL_len hv
      have hw := h b g1 σ { tmps := vals.toArray ++ Array.replicate (fn.ntmps - vals.toArray.size) undef, defers := [] } ?_
      · refine callsIn_of_wp_marks (n := 0) hf hbd trivial (wpIn_mono hw ?_)
        rintro e a' w' ⟨σ', s', e', rfl, ev, h3, h4, h5⟩
        have ev : Evo σ σ' := ev
        have key : (∃ vc xs, exRVs s'.env s'.hp r' = some (vc, xs) ∧ vc ∧ K (one xs) s') → LeavesInM Fence.wide 0 P fn a'.tmps (fun en w' => ∃ v τ s r, en = .returned v ∧ τ.w = w' ∧ Evo σ τ ∧ HInv τ s.hp ∧ (∀ m, τ.al m → m.2 ≤ s.cnt) ∧ Rep τ r v ∧ K r s) a'.defers .returning σ'.w := by
          rintro ⟨vc, xs, k1, k2, k3⟩
          refine leaves_marks a'.defers σ' (fun b hb => ⟨h3.1.h.ou b hb, fun hM => h3.1.h.dis b hM hb⟩) h3.1.df fun ρ ko kO kb => ?_
          have hI' : Inv ρ s'.env s'.hp { a' with defers := [] } fn.ntmps σ.w.heap.size := ⟨h3.1.h.oth ko, h3.1.t.ev ko.ev, h3.1.sz, DOK.nil (Nat.le_trans h3.1.df.le ko.sz)⟩
          obtain ⟨us, u1, u2⟩ := exRVs_sound hI' g2 k1 k2
          have evρ : Evo σ ρ := ⟨fun n hn => by rw [ko.al, ko.rb]; exact ev.box n hn, fun n hn l' hl' => by rw [ko.ra]; rw [ko.ln] at hl'; exact ev.arr n hn l' hl', fun b o hb hm => by
            obtain ⟨q1, q2⟩ := ev.fro b o hb hm
            exact ⟨kb b o (.inl (Array.getElem?_eq_some_iff.1 hb).1) q1, by rw [ko.M]; exact q2⟩, kO.trans ev.out, Nat.le_trans ev.sz ko.sz, ev.io.trans ko.io⟩
          refine ⟨_, results_run u1, _, ρ, s', one xs, rfl, rfl, evρ, hI'.h, fun m hm => h3.2.1 m (by rw [ko.al] at hm; exact hm), ?_, k3⟩
          have hl' := repL_len u2
          unfold one
          split
          · rename_i x
            simp only [RepL] at u2
            obtain ⟨y, ys, rfl, e2, rfl⟩ := u2
            simpa using e2
          · rename_i hno
            have hne : us.toArray.size ≠ 1 := by
              intro h1
              simp at h1
              rw [h1] at hl'
              cases xs with
              | nil => simp at hl'
              | cons x xs => cases xs with
                | nil => exact hno x rfl
                | cons _ _ => simp at hl'
            rw [dif_neg hne]
            simp only [Rep]
            exact ⟨us, rfl, u2⟩
        cases e with
        | normal => simp [AE.of] at h4; subst h4; exact key h5
        | ret => simp [AE.of] at h4; subst h4; exact key h5
        | exit i => simp [AE.of] at h4; subst h4; exact h5.elim
        | goto l => simp [AE.of] at h4
        | panic c => simp [AE.of] at h4
        | outgrown => simp [AE.of] at h4
      · refine ⟨⟨hI, fun t => ?_, by show _ = fn.ntmps; simp; omega, DOK.nil (Nat.le_refl _)⟩, hal, trivial⟩
        rw [envOf_lk]
        split
        · rename_i ht
          simp only [Nat.zero_le, Nat.zero_add, true_and] at ht
          have hg : args[t]? = some args[t] := List.getElem?_eq_getElem ht
          obtain ⟨x, g1, g2⟩ := repL_get hv t _ hg
          have e1 : args.getD (t - 0) .un = args[t] := by simp [ht]
          have hlt' : t < vals.length := by omega
          have e2 : (vals.toArray ++ Array.replicate (fn.ntmps - vals.toArray.size) undef).getD t undef = x := by
            rw [List.getElem?_eq_getElem hlt'] at g1
            simp at g1
            simp [Array.getD_eq_getD_getElem?, Array.getElem?_append_left, hlt', g1]
          rw [e1, e2]; exact g2
        · simp [Rep]
    · simp at hc
  · simp at hc
end
end Go.Proofs.Ytmmfbjmjhjmccaa.Am
