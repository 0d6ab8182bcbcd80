/-
  The abstract machine, part 7: arrays given up, arguments of a call, a store into an array.
-/
import Derived.Test.YtmmfbjmjhjmccaaAm6
namespace Go.Proofs.Ytmmfbjmjhjmccaa.Am
set_option linter.unusedSimpArgs false
set_option linter.unusedVariables false
open Go

/-- One array is written no more. -/
theorem HInv.frz1 {σ : Cf} {hp : Hp} (h : HInv σ hp) {n : Nm} {sz : Nat} {live : Bool} {rows : List (List AV)} {d : List AV} (hn : hl hp (.a n) = some (.sl sz live rows d)) :
    Evo σ (σ.setArr n (σ.ra n) (fun b => σ.M b ∧ ¬ Owns σ hp (true, n) b) rows.length σ.w) ∧
    HInv (σ.setArr n (σ.ra n) (fun b => σ.M b ∧ ¬ Owns σ hp (true, n) b) rows.length σ.w) ((.a n, .sl sz false rows d) :: hp) := by
  have hln : σ.ln n = some rows.length := by have := h.ln n; simpa [lenOf, hn] using this
  have e : Evo σ (σ.setArr n (σ.ra n) (fun b => σ.M b ∧ ¬ Owns σ hp (true, n) b) rows.length σ.w) :=
    Evo.setArr (.inr ⟨_, hln, Nat.le_refl _, fun _ => rfl⟩) (fun b o hb hM => ⟨hb, fun k => hM k.1⟩) (Nat.le_refl _) (SameO.refl _)
  refine ⟨e, h.setArr e (fun x hx hno => ⟨⟨hx, hno⟩, rfl⟩) ?_ (by simp) (fun b hb => h.lt b hb.1) (Nat.le_refl _) (fun b hb hn => absurd hb.1 hn)⟩
  obtain ⟨h1, h2, hp', h3⟩ := h.arr n sz live rows d hn
  refine ⟨.inr rfl, h2, hp', ?_⟩
  rcases h3 with ⟨a, h3, h4⟩ | ⟨b, o, cap, h3, h4, h5, h6, h7, h8⟩
  · exact .inl ⟨a, by simp [Cf.setArr, h3], h4⟩
  · refine .inr ⟨b, o, cap, by simp [Cf.setArr, h3], h4, h5, h6.keep e fun _ _ _ hx => hx, by simp, fun _ => ?_⟩
    cases live with
    | true =>
      obtain ⟨g1, cs, T, g2, _⟩ := h7 rfl
      refine ⟨fun k => k.2 (.inr ⟨rfl, ⟨sz, rows, d, hn⟩, o, cap, h3, h4⟩), ?_, (Array.getElem?_eq_some_iff.1 g2).1⟩
      exact fun hO => h.dis b g1 hO
    | false => exact e.fz (h8 rfl)

theorem HInv.frz {σ : Cf} {hp : Hp} (h : HInv σ hp) : ∀ ns : List Nm, ∃ σ', Evo σ σ' ∧ HInv σ' (frz hp ns ++ hp) ∧ σ'.w = σ.w ∧ (∀ m, σ'.al m → σ.al m) ∧ (∀ b, σ'.M b → σ.M b) ∧ (∀ m, σ'.ra m = σ.ra m) ∧ (∀ n ∈ ns, ∀ b, Owns σ hp (true, n) b → ¬ σ'.M b) ∧
    (∀ n sz live rows d, hl hp (.a n) = some (.sl sz live rows d) → ∃ live', hl (frz hp ns ++ hp) (.a n) = some (.sl sz live' rows d) ∧ (n ∈ ns → live' = false))
  | [] => ⟨σ, Evo.refl σ, by simpa [Am.frz] using h, rfl, fun _ h => h, fun _ h => h, fun _ => rfl, by simp, fun n sz live rows d hn => ⟨live, by simpa [Am.frz] using hn, by simp⟩⟩
  | n :: ns => by
    obtain ⟨σ1, e1, h1, w1, a1, m1, r1, o1, l1⟩ := HInv.frz h ns
    simp only [Am.frz]
    split
    · rename_i sz live rows d hn
      obtain ⟨live', hn', _⟩ := l1 n sz live rows d hn
      obtain ⟨e2, h2⟩ := h1.frz1 hn'
      refine ⟨_, e1.trans e2, h2, w1, fun m hm => ?_, fun b hb => m1 b hb.1, fun m => ?_, fun m hm b hb => ?_, fun m sz2 live2 rows2 d2 hm => ?_⟩
      · rcases hm with hm | rfl
        · exact a1 m hm
        · exact (h.arr m sz live rows d hn).1
      · simp only [Cf.setArr]
        by_cases e : m = n
        · rw [if_pos e, e]; exact r1 n
        · rw [if_neg e]; exact r1 m
      · rintro ⟨k1, k2⟩
        rcases List.mem_cons.1 hm with rfl | hm
        · rcases hb with ⟨c, _⟩ | ⟨_, ⟨sz3, rows3, d3, hb1⟩, o3, cap3, hb2, hb3⟩
          · cases c
          · simp only at hb1 hb2
            rw [hn] at hb1
            simp only [Option.some.injEq, AV.sl.injEq] at hb1
            obtain ⟨rfl, rfl, rfl, rfl⟩ := hb1
            cases live' with
            | true => exact k2 (.inr ⟨rfl, ⟨_, _, _, hn'⟩, o3, cap3, by rw [r1]; exact hb2, hb3⟩)
            | false =>
              obtain ⟨_, _, _, k⟩ := h1.arr m sz false rows d hn'
              rcases k with ⟨a, k, _⟩ | ⟨b4, o4, cap4, k, _, _, _, _, k8⟩
              · rw [r1, hb2] at k
                have := congrArg Prod.snd k
                simp at this; omega
              · rw [r1, hb2] at k
                have := congrArg Prod.fst k
                simp at this
                rw [this.1] at k1
                exact (k8 rfl).1 k1
        · exact o1 m hm b hb k1
      · by_cases e : n = m
        · subst e
          rw [hn] at hm
          simp only [Option.some.injEq, AV.sl.injEq] at hm
          obtain ⟨rfl, rfl, rfl, rfl⟩ := hm
          exact ⟨false, by simp [hl], fun _ => rfl⟩
        · obtain ⟨live3, hm3, hm4⟩ := l1 m sz2 live2 rows2 d2 hm
          refine ⟨live3, ?_, fun hmem => hm4 ?_⟩
          · simp only [List.cons_append, hl, Loc.a.injEq, if_neg e]; exact hm3
          · rcases List.mem_cons.1 hmem with rfl | hmem
            · exact absurd rfl e
            · exact hmem
    · rename_i hno
      refine ⟨σ1, e1, h1, w1, a1, m1, r1, fun m hm b hb => ?_, fun m sz2 live2 rows2 d2 hm => ?_⟩
      · rcases List.mem_cons.1 hm with rfl | hm
        · rcases hb with ⟨c, _⟩ | ⟨_, ⟨sz3, rows3, d3, hb1⟩, _⟩
          · cases c
          · exact absurd hb1 (hno _ _ _ _)
        · exact o1 m hm b hb
      obtain ⟨live3, hm3, hm4⟩ := l1 m sz2 live2 rows2 d2 hm
      refine ⟨live3, hm3, fun hmem => ?_⟩
      rcases List.mem_cons.1 hmem with rfl | hmem
      · exact absurd hm (hno sz2 live2 rows2 d2)
      · exact hm4 hmem

/-- An owned array, read as a list in a memory where nobody writes it. -/
theorem own_res {σ τ : Cf} {hp : Hp} (h : HInv σ hp) (e : Evo σ τ) (hw : τ.w = σ.w) {n : Nm} {l sz : Nat} {live : Bool} {rows : List (List AV)} {d : List AV} {v : Value}
    (hn : hl hp (.a n) = some (.sl sz live rows d)) (hlen : l = rows.length) (hr : Rep σ (.own n l) v)
    (hM : ∀ b, Owns σ hp (true, n) b → ¬ τ.M b) : Rep τ (.sl sz false rows d) v := by
  have hv := own_vals h hn hr hlen
  subst hv
  obtain ⟨h1, h2, hpu, h3⟩ := h.arr n sz live rows d hn
  simp only [Rep]
  rcases h3 with ⟨a, h3, h4⟩ | ⟨b, o, cap, h3, h4, h5, h6, h7, h8⟩
  · exact ⟨a, 0, by rw [h3], by simp [h4], by simp, hpu, .inl h4⟩
  · refine ⟨_, cap, by rw [h3], h5, by simp, hpu, .inr ⟨b, o, rfl, ?_, h6.keep e fun _ _ _ hx => by rw [hw]; exact hx⟩⟩
    cases live with
    | true =>
      obtain ⟨g1, cs, T, g2, _⟩ := h7 rfl
      refine ⟨hM b (.inr ⟨rfl, ⟨sz, rows, d, hn⟩, o, cap, h3, h4⟩), ?_, by rw [hw]; exact (Array.getElem?_eq_some_iff.1 g2).1⟩
      rw [e.out]
      exact fun hO => h.dis b g1 hO
    | false => exact e.fz (h8 rfl)

theorem bcells_get {hp : Hp} {n : Nm} : ∀ (k o j : Nat) (c : AV), (bcells hp n o k)[j]? = some c → hl hp (.c n (o + j)) = some c
  | 0, o, j, c, h => by simp [bcells] at h
  | k + 1, o, j, c, h => by
    simp only [bcells] at h
    split at h
    · rename_i c0 hc0
      cases j with
      | zero => simp at h; subst h; simpa using hc0
      | succ j =>
        have := bcells_get k (o + 1) j c (by simpa using h)
        rwa [show o + 1 + j = o + (j + 1) from by omega] at this
    · simp at h

theorem rvc1L_get {hp : Hp} : ∀ {cs : List AV} (_ : rvc1L hp cs) (j : Nat) (c : AV), cs[j]? = some c → rvc1 hp c
  | [], _, j, c, h => by simp at h
  | c0 :: cs, hv, j, c, h => by
    simp only [rvc1L] at hv
    cases j with
    | zero => simp at h; subst h; exact hv.1
    | succ j => exact rvc1L_get hv.2 j c (by simpa using h)

mutual
/-- What the arguments read as in a memory where nobody writes. -/
theorem res_still {σ τ : Cf} {hp : Hp} (h : HInv σ hp) (e : Evo σ τ) (hw : τ.w = σ.w) (hM : ∀ b, ¬ τ.M b) : ∀ (x : AV) (v : Value), rvc hp x → Rep σ x v → Rep τ (res hp x) v
  | .own n l, v, hv, hr => by
    simp only [rvc] at hv
    simp only [res]
    split at hv
    · rename_i sz live rows d hn
      exact own_res h e hw hn hv hr fun b _ => hM b
    · exact hv.elim
  | .box n o, v, hv, hr => by
    simp only [rvc] at hv
    obtain ⟨hv1, hv2, hv3⟩ := hv
    simp only [Rep] at hr
    simp only [res, Rep]
    have hne : ∃ c, hl hp (.c n 0) = some c := by
      cases hb : bcells hp n 0 40 with
      | nil => simp [hb] at hv3
      | cons c cs => exact ⟨c, by simpa using bcells_get 40 0 0 c (by simp [hb])⟩
    obtain ⟨c0, hc0⟩ := hne
    obtain ⟨k1, k2, cs0, T0, x0, k3, k4, _⟩ := h.cel n 0 c0 hc0
    refine ⟨σ.rb n, 0, by rw [hr.2]; simp, ⟨hM _, by rw [e.out]; exact h.dis _ k2, by rw [hw]; exact h.lt _ k2⟩, hv2, ?_⟩
    refine repCells_of fun j c hc => ?_
    rw [List.getElem?_map] at hc
    cases hb : (bcells hp n 0 40)[j]? with
    | none => simp [hb] at hc
    | some c' =>
      simp [hb] at hc
      have hlc := bcells_get 40 0 j c' hb
      obtain ⟨g1, g2, cs, T, x, g3, g4, g5, g6⟩ := h.cel n _ c' hlc
      refine ⟨x, by rw [hw]; simp [World.cell?, g3]; simpa using g4, g5, ?_⟩
      subst hc
      have hrv := rvc1L_get hv1 j c' hb
      cases c' with
      | own m l =>
        simp only [rvc1] at hrv
        simp only [res1]
        split at hrv
        · rename_i sz live rows d hn
          exact own_res h e hw hn hrv g6 fun b _ => hM b
        · exact hrv.elim
      | _ => exact g6.mono e
  | .agg cs, v, hv, hr => by
    simp only [rvc] at hv
    simp only [Rep, res] at hr ⊢
    obtain ⟨xs, h1, h2, h3⟩ := hr
    exact ⟨xs, h1, h2, resL_still h e hw hM cs xs hv h3⟩
  | .tup cs, v, hv, hr => by
    simp only [rvc] at hv
    simp only [Rep, res] at hr ⊢
    obtain ⟨xs, h1, h3⟩ := hr
    exact ⟨xs, h1, resL_still h e hw hM cs xs hv h3⟩
  | .clo f as bs, v, hv, hr => by
    simp only [rvc] at hv
    simp only [Rep, res] at hr ⊢
    obtain ⟨xs, ys, h1, h2, h3⟩ := hr
    exact ⟨xs, ys, h1, resL_still h e hw hM as xs hv.1 h2, resL_still h e hw hM bs ys hv.2 h3⟩
  | .v x, v, _, hr => by simp only [res]; exact hr.mono e
  | .sl a b c d, v, _, hr => by simp only [res]; exact hr.mono e
  | .ro a b, v, _, hr => by simp only [res]; exact hr.mono e
  | .elem a b c d x, v, _, hr => by simp only [res]; exact hr.mono e
  | .gd a b, v, _, hr => by simp only [res]; exact hr.mono e
  | .un, v, _, _ => by simp [res, Rep]
theorem resL_still {σ τ : Cf} {hp : Hp} (h : HInv σ hp) (e : Evo σ τ) (hw : τ.w = σ.w) (hM : ∀ b, ¬ τ.M b) : ∀ (xs : List AV) (vs : List Value), rvcL hp xs → RepL σ xs vs → RepL τ (resL hp xs) vs
  | [], vs, _, hr => by simpa [RepL, resL] using hr
  | x :: xs, vs, hv, hr => by
    simp only [rvcL] at hv
    simp only [RepL, resL] at hr ⊢
    obtain ⟨y, ys, h1, h2, h3⟩ := hr
    exact ⟨y, ys, h1, res_still h e hw hM x y hv.1 h2, resL_still h e hw hM xs ys hv.2 h3⟩
end

mutual
/-- The same where just the arrays among them are given up. -/
theorem res_frz {σ τ : Cf} {hp : Hp} (h : HInv σ hp) (e : Evo σ τ) (hw : τ.w = σ.w) (L : List Nm) (hM : ∀ n ∈ L, ∀ b, Owns σ hp (true, n) b → ¬ τ.M b) :
    ∀ (x : AV) (v : Value), rvc hp x → nob x = true → (∀ n ∈ ons x, n ∈ L) → Rep σ x v → Rep τ (res hp x) v
  | .own n l, v, hv, _, hL, hr => by
    simp only [rvc] at hv
    simp only [res]
    split at hv
    · rename_i sz live rows d hn
      exact own_res h e hw hn hv hr fun b hb => hM n (hL n (by simp [ons])) b hb
    · exact hv.elim
  | .box n o, v, _, hb, _, _ => by simp [nob] at hb
  | .agg cs, v, hv, hb, hL, hr => by
    simp only [rvc] at hv
    simp only [Rep, res] at hr ⊢
    obtain ⟨xs, h1, h2, h3⟩ := hr
    exact ⟨xs, h1, h2, resL_frz h e hw L hM cs xs hv (by simpa [nob] using hb) (by simpa [ons] using hL) h3⟩
  | .tup cs, v, hv, hb, hL, hr => by
    simp only [rvc] at hv
    simp only [Rep, res] at hr ⊢
    obtain ⟨xs, h1, h3⟩ := hr
    exact ⟨xs, h1, resL_frz h e hw L hM cs xs hv (by simpa [nob] using hb) (by simpa [ons] using hL) h3⟩
  | .clo f as bs, v, hv, hb, hL, hr => by
    simp only [rvc] at hv
    simp only [nob, Bool.and_eq_true] at hb
    simp only [Rep, res] at hr ⊢
    obtain ⟨xs, ys, h1, h2, h3⟩ := hr
    exact ⟨xs, ys, h1, resL_frz h e hw L hM as xs hv.1 hb.1 (fun n hn => hL n (by simp [ons, hn])) h2, resL_frz h e hw L hM bs ys hv.2 hb.2 (fun n hn => hL n (by simp [ons, hn])) h3⟩
  | .v x, v, _, _, _, hr => by simp only [res]; exact hr.mono e
  | .sl a b c d, v, _, _, _, hr => by simp only [res]; exact hr.mono e
  | .ro a b, v, _, _, _, hr => by simp only [res]; exact hr.mono e
  | .elem a b c d x, v, _, _, _, hr => by simp only [res]; exact hr.mono e
  | .gd a b, v, _, _, _, hr => by simp only [res]; exact hr.mono e
  | .un, v, _, _, _, _ => by simp [res, Rep]
theorem resL_frz {σ τ : Cf} {hp : Hp} (h : HInv σ hp) (e : Evo σ τ) (hw : τ.w = σ.w) (L : List Nm) (hM : ∀ n ∈ L, ∀ b, Owns σ hp (true, n) b → ¬ τ.M b) :
    ∀ (xs : List AV) (vs : List Value), rvcL hp xs → nobL xs = true → (∀ n ∈ onsL xs, n ∈ L) → RepL σ xs vs → RepL τ (resL hp xs) vs
  | [], vs, _, _, _, hr => by simpa [RepL, resL] using hr
  | x :: xs, vs, hv, hb, hL, hr => by
    simp only [rvcL] at hv
    simp only [nobL, Bool.and_eq_true] at hb
    simp only [RepL, resL] at hr ⊢
    obtain ⟨y, ys, h1, h2, h3⟩ := hr
    exact ⟨y, ys, h1, res_frz h e hw L hM x y hv.1 hb.1 (fun n hn => hL n (by simp [onsL, hn])) h2, resL_frz h e hw L hM xs ys hv.2 hb.2 (fun n hn => hL n (by simp [onsL, hn])) h3⟩
end
end Go.Proofs.Ytmmfbjmjhjmccaa.Am
