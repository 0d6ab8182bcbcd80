/-
  The abstract machine, A9: loops round by round.
-/
import Derived.Test.YtdabfcbelkjmgaaDoorA8
import Derived.LoopNIn
namespace Go.Proofs.YtdabfcbelkjmgaaDoor.Am
set_option linter.unusedSimpArgs false
set_option linter.unusedVariables false
open Go
def rndN (Γ : Ctx) (b : AC) (Q : AE → St → Prop) : Nat → St → Prop
  | 0, _ => False
  | m + 1, s => awp Γ b (fun e s' => match e with | .n => rndN Γ b Q m s' | .x i => Q (.x i) s' | .r => Q .r s' | .p v => Q (.p v) s') s
def rndK (Γ : Ctx) (b : AC) (Q : AE → St → Prop) (m : Nat) : AE → St → Prop := fun e s' => match e with | .n => rndN Γ b Q m s' | .x i => Q (.x i) s' | .r => Q .r s' | .p v => Q (.p v) s'
section
variable {Γ : Ctx}
theorem rndK_n {b : AC} {Q : AE → St → Prop} {m : Nat} {s : St} (h : awp Γ b (rndK Γ b Q m) s) : rndK Γ b Q (m + 1) .n s := h
theorem rndK_x {b : AC} {Q : AE → St → Prop} {m i : Nat} {s : St} (h : Q (.x i) s) : rndK Γ b Q m (.x i) s := h
theorem rndK_r {b : AC} {Q : AE → St → Prop} {m : Nat} {s : St} (h : Q .r s) : rndK Γ b Q m .r s := h
theorem awp_unroll (m : Nat) {b : AC} {Q : AE → St → Prop} {s : St} (h : awp Γ b (rndK Γ b Q m) s) : awp Γ (.loop b) Q s := by
  intro code hc σ a hA
  cases code with
  | loop c =>
    simp only [cCode] at hc
    cases hx : cCode Γ.P Γ.nt c with
    | none => simp [hx] at hc
    | some x' =>
      simp [hx] at hc
      subst hc
      refine wpIn_loop_rounds (m + 1) ?_
      have key : ∀ (m : Nat) (s : St) (σ' : Cf) (a' : Act), rndN Γ x' Q m s → At Γ σ' s a' → Γ.R σ σ' → Code.roundsIn Γ.F 0 Γ.P c (lift Γ σ Q) m a' σ'.w := by
        intro m
        induction m with
        | zero => intro s σ' a' h; exact h.elim
        | succ m ih =>
          intro s σ' a' h hA' hR
          rw [roundsIn_succ]
          refine wpIn_mono (h c hx σ' a' hA') ?_
          rintro e a1 w1 ⟨τ, s', e', rfl, h2, h3, h4, h5⟩
          cases e with
          | normal =>
            simp [AE.of] at h4; subst h4
            exact ih s' τ a1 h5 h3 (Γ.tr hR h2)
          | exit j => simp [AE.of] at h4; subst h4; exact ⟨τ, s', _, rfl, Γ.tr hR h2, h3, rfl, h5⟩
          | ret => simp [AE.of] at h4; subst h4; exact ⟨τ, s', _, rfl, Γ.tr hR h2, h3, rfl, h5⟩
          | goto l => simp [AE.of] at h4
          | panic c => obtain ⟨v, rfl, rfl⟩ := AE.of_panic h4; exact ⟨τ, s', _, rfl, Γ.tr hR h2, h3, rfl, h5⟩
          | outgrown => simp [AE.of] at h4
      exact key (m + 1) s σ a h hA (Ctx.rfl Γ σ)
  | region id ops d =>
    simp only [cCode] at hc
    obtain ⟨_, _, ⟨_, e⟩ | ⟨_, _, _, _, e⟩⟩ := cReg_inv hc <;> cases e
  | seq x y => simp only [cCode] at hc; split at hc <;> simp at hc
  | cond c x y => simp only [cCode] at hc; split at hc <;> simp at hc
  | rangeFunc f ps x y => simp only [cCode] at hc; split at hc <;> simp at hc
  | _ => simp [cCode] at hc
end

/-! ### A box gets another name -/
/-- The memory without what is said of a box. -/
def dropC (n : Nm) : Hp → Hp
  | [] => []
  | (.c m j, x) :: r => if m = n then dropC n r else (.c m j, x) :: dropC n r
  | (.a m, x) :: r => (.a m, x) :: dropC n r
theorem hl_dropC_c {n m : Nm} (hm : m ≠ n) (j : Nat) : ∀ h : Hp, hl (dropC n h) (.c m j) = hl h (.c m j)
  | [] => rfl
  | (.c k i, x) :: r => by
    simp only [dropC]
    split
    · rename_i e; subst e
      simp only [hl]
      rw [if_neg (by intro e; cases e; exact hm rfl)]
      exact hl_dropC_c hm j r
    · simp only [hl]; rw [hl_dropC_c hm j r]
  | (.a k, x) :: r => by simp only [dropC, hl]; rw [hl_dropC_c hm j r]
theorem hl_dropC_n {n : Nm} (j : Nat) : ∀ h : Hp, hl (dropC n h) (.c n j) = none
  | [] => rfl
  | (.c k i, x) :: r => by
    simp only [dropC]
    split
    · exact hl_dropC_n j r
    · rename_i hk
      simp only [hl]
      rw [if_neg (by intro e; cases e; exact hk rfl)]
      exact hl_dropC_n j r
  | (.a k, x) :: r => by simp only [dropC, hl]; rw [if_neg (by intro e; cases e)]; exact hl_dropC_n j r
theorem hl_dropC_a {n m : Nm} : ∀ h : Hp, hl (dropC n h) (.a m) = hl h (.a m)
  | [] => rfl
  | (.c k i, x) :: r => by
    simp only [dropC]
    split
    · simp only [hl]; rw [if_neg (by intro e; cases e)]; exact hl_dropC_a r
    · simp only [hl]; rw [hl_dropC_a r]
  | (.a k, x) :: r => by simp only [dropC, hl]; rw [hl_dropC_a r]
theorem hcut_get {h : Hp} {n : Nm} : ∀ {k o : Nat} {cs : List AV}, hcut h n o k = some cs → cs.length = k ∧ ∀ j, j < k → ∃ c, cs[j]? = some c ∧ hl h (.c n (o + j)) = some c
  | 0, o, cs, hc => by simp [hcut] at hc; subst hc; exact ⟨rfl, fun j hj => by omega⟩
  | k + 1, o, cs, hc => by
    simp only [hcut] at hc
    split at hc
    · rename_i c h0
      cases hr : hcut h n (o + 1) k with
      | none => simp [hr] at hc
      | some ds =>
        simp [hr] at hc
        subst hc
        obtain ⟨g1, g2⟩ := hcut_get hr
        refine ⟨by simp [g1], fun j hj => ?_⟩
        cases j with
        | zero => exact ⟨c, rfl, h0⟩
        | succ j =>
          obtain ⟨c', e1, e2⟩ := g2 j (by omega)
          exact ⟨c', by simpa using e1, by rw [show o + (j + 1) = o + 1 + j by omega]; exact e2⟩
    · simp at hc
def Cf.rebox (σ : Cf) (n m : Nm) : Cf := { σ with rb := fun k => if k = m then σ.rb n else σ.rb k, al := fun k => σ.al k ∨ k = m, ln := fun k => if k = m then none else σ.ln k }
theorem Evo.rebox {σ : Cf} {n m : Nm} (hm : ¬ σ.al m) : Evo σ (σ.rebox n m) where
  box k hk := by
    have : ¬ k = m := by rintro rfl; exact hm hk
    exact ⟨.inl hk, by simp [Cf.rebox, this]⟩
  arr k hk l hl := by
    have : ¬ k = m := by rintro rfl; exact hm hk
    simp only [Cf.rebox, if_neg this] at hl ⊢
    exact ⟨l, hl, Nat.le_refl _, fun _ => trivial⟩
  fro b o h h' := ⟨h, h'⟩
  out := rfl
  sz := Nat.le_refl _
  io := SameO.refl _
theorem HInv.rebox {σ : Cf} {hp : Hp} (h : HInv σ hp) {n m : Nm} (hm : ¬ σ.al m) {k : Nat} (hk : 0 < k) {cs : List AV} (hc : hcut hp n 0 k = some cs) : HInv (σ.rebox n m) (newc m 0 cs ++ dropC n hp) := by
  obtain ⟨g1, g2⟩ := hcut_get hc
  have ev := Evo.rebox (n := n) hm
  have hcell : ∀ (p : Nm) (j : Nat) (c : AV), hl (newc m 0 cs ++ dropC n hp) (.c p j) = some c → (p = m ∧ hl hp (.c n j) = some c) ∨ (p ≠ m ∧ p ≠ n ∧ hl hp (.c p j) = some c) := by
    intro p j c hh
    rw [hl_app, hl_newc] at hh
    by_cases hp' : p = m
    · subst hp'
      simp only [Nat.zero_le, and_true, if_true, Nat.sub_zero] at hh
      by_cases hj : j < k
      · obtain ⟨c', e1, e2⟩ := g2 j hj
        rw [e1] at hh
        simp at hh
        subst hh
        exact .inl ⟨rfl, by simpa using e2⟩
      · rw [List.getElem?_eq_none (by omega)] at hh
        simp only [Option.none_or] at hh
        by_cases hpn : p = n
        · subst hpn; rw [hl_dropC_n] at hh; cases hh
        · rw [hl_dropC_c hpn] at hh
          exact absurd (h.cel p j c hh).1 hm
    · rw [if_neg (by intro e; exact hp' e.1)] at hh
      simp only [Option.none_or] at hh
      by_cases hpn : p = n
      · subst hpn; rw [hl_dropC_n] at hh; cases hh
      · rw [hl_dropC_c hpn] at hh
        exact .inr ⟨hp', hpn, hh⟩
  have harr : ∀ p, hl (newc m 0 cs ++ dropC n hp) (.a p) = hl hp (.a p) := by
    intro p
    rw [hl_app, hl_newc_a, hl_dropC_a]; rfl
  have hnm : ∀ sz live rows d, hl hp (.a m) ≠ some (.sl sz live rows d) := fun sz live rows d e => hm (h.arr m sz live rows d e).1
  refine ⟨fun p => ?_, fun p j c hh => ?_, fun p sz live rows d hh => ?_, fun p q b hp' hq' => ?_, h.lt, h.ou, h.dis⟩
  · have := h.ln p
    unfold lenOf at this ⊢
    rw [harr]
    by_cases e : p = m
    · subst e
      have : (σ.rebox n p).ln p = none := by simp [Cf.rebox]
      rw [this]
      cases hh : hl hp (.a p) with
      | none => rfl
      | some y =>
        cases y with
        | sl sz live rows d => exact absurd hh (hnm _ _ _ _)
        | _ => rfl
    · simp only [Cf.rebox, if_neg e]; exact this
  · rcases hcell p j c hh with ⟨rfl, e⟩ | ⟨e1, e2, e⟩
    · obtain ⟨q1, q2, cs', T, x, q3, q4, q5, q6⟩ := h.cel n j c e
      exact ⟨.inr rfl, by simpa [Cf.rebox] using q2, cs', T, x, by simpa [Cf.rebox] using q3, q4, q5, q6.mono ev⟩
    · have q := h.cel p j c e
      exact q.keep ev (by simpa [Cf.rebox] using q.2.1) rfl
  · rw [harr] at hh
    exact (h.arr p sz live rows d hh).keep ev rfl fun _ _ _ _ _ _ hM => ⟨hM, rfl⟩
  · have key : ∀ p b, Owns (σ.rebox n m) (newc m 0 cs ++ dropC n hp) p b → (p = (false, m) ∧ Owns σ hp (false, n) b) ∨ (p ≠ (false, m) ∧ p ≠ (false, n) ∧ Owns σ hp p b) := by
      rintro ⟨f, p⟩ b (⟨h1, h2, j, c, h3⟩ | ⟨h1, ⟨sz, rows, d, h2⟩, o, cap, h3, h4⟩)
      · simp only at h1 h2 h3
        subst h1
        rcases hcell p j c h3 with ⟨rfl, e⟩ | ⟨e1, e2, e⟩
        · exact .inl ⟨rfl, .inl ⟨rfl, by simpa [Cf.rebox] using h2, j, c, e⟩⟩
        · refine .inr ⟨by simp [e1], by simp [e2], .inl ⟨rfl, by simpa [Cf.rebox, e1] using h2, j, c, e⟩⟩
      · simp only at h1 h2 h3
        subst h1
        rw [harr] at h2
        exact .inr ⟨by simp, by simp, .inr ⟨rfl, ⟨sz, rows, d, h2⟩, o, cap, by simpa [Cf.rebox] using h3, h4⟩⟩
    rcases key p b hp' with ⟨rfl, a1⟩ | ⟨a0, a2, a1⟩ <;> rcases key q b hq' with ⟨rfl, b1⟩ | ⟨b0, b2, b1⟩
    · rfl
    · exact absurd (h.inj _ _ _ a1 b1).symm b2
    · exact absurd (h.inj _ _ _ a1 b1) a2
    · exact h.inj _ _ _ a1 b1
theorem awp_rebox {Γ : Ctx} (kn t k : Nat) {n : Nm} {cs : List AV} {x : AC} {Q : AE → St → Prop} {e : Env} {h : Hp} {c : Nat} (ht : t < Γ.nt) (hk : 0 < k) (he : lk e t = .box n 0) (hc : hcut h n 0 k = some cs)
    (hQ : awp Γ x Q ⟨(t, .box (kn, c + 1) 0) :: e, newc (kn, c + 1) 0 cs ++ dropC n h, c + 1⟩) : awp Γ x Q ⟨e, h, c⟩ := by
  intro code hcc σ a hA
  have hr := hA.1.t t
  rw [he] at hr
  simp only [Rep] at hr
  have hn : ¬ σ.al (kn, c + 1) := fun hm => by have := hA.2.1 _ hm; simp at this; omega
  have ev := Evo.rebox (n := n) hn
  refine wpIn_mono (hQ code hcc (σ.rebox n (kn, c + 1)) a ⟨⟨hA.1.h.rebox hn hk hc, fun t' => ?_, hA.1.sz, (hA.1.df.mono ev).un (.inr (lk_dk ht))⟩, fun m hm => ?_, Γ.g hA.2.2 ev fun t' ht' => ?_⟩) fun e a w k => k.mono (Γ.ofE ev)
  · simp only [lk]
    by_cases e : t = t'
    · subst e
      rw [if_pos rfl]
      simp only [Rep]
      exact ⟨.inr rfl, by rw [hr.2]; simp [Cf.rebox]⟩
    · rw [if_neg e]; exact (hA.1.t t').mono ev
  · rcases hm with hm | rfl
    · have := hA.2.1 m hm; simp at this ⊢; omega
    · simp
  · right
    simp only [lk]
    rw [if_neg (by omega)]
/-- An array of one's own is written no more. -/
theorem awp_frzE {Γ : Ctx} (t : Nat) {n : Nm} {l z : Nat} {live : Bool} {rows : List (List AV)} {d : List AV} {x : AC} {Q : AE → St → Prop} {e : Env} {h : Hp} {c : Nat} (ht : t < Γ.nt) (he : lk e t = .own n l) (hn : hl h (.a n) = some (.sl z live rows d))
    (hl' : l = rows.length) (hQ : awp Γ x Q ⟨(t, .sl z false rows d) :: e, frz h [n] ++ h, c⟩) : awp Γ x Q ⟨e, h, c⟩ := by
  intro code hcc σ a hA
  obtain ⟨τ, ev, hI, hw, hal, hM, _, hown, _⟩ := hA.1.h.frz [n]
  have hr := hA.1.t t
  rw [he] at hr
  have hv : Rep τ (.sl z false rows d) (a.tmps.getD t undef) := by
    have := res_frz hA.1.h ev hw [n] hown (.own n l) _ (by simp only [rvc, hn]; exact hl') rfl (by simp [ons]) hr
    simpa only [res, hn] using this
  rw [← hw]
  refine wpIn_mono (hQ code hcc τ a ⟨⟨hI, fun t' => ?_, hA.1.sz, (hA.1.df.mono ev).un (.inr (lk_dk ht))⟩, fun m hm => hA.2.1 m (hal m hm), Γ.g hA.2.2 ev fun t' ht' => ?_⟩) fun e a w k => k.mono (Γ.ofE ev)
  · simp only [lk]
    by_cases e : t = t'
    · subst e; rw [if_pos rfl]; exact hv
    · rw [if_neg e]; exact (hA.1.t t').mono ev
  · right
    simp only [lk]
    rw [if_neg (by omega)]
theorem rowAt_zero (r : List AV) (rs : List (List AV)) (d : List AV) : rowAt (r :: rs) d 0 = r := rfl
theorem rowAt_succ (r : List AV) (rs : List (List AV)) (d : List AV) (n : Nat) : rowAt (r :: rs) d (n + 1) = rowAt rs d n := rfl
attribute [go_sem] dropC
end Go.Proofs.YtdabfcbelkjmgaaDoor.Am
