/-
  The abstract machine, part 6: append, a store into an array, arrays given up: what the abstract step says, holds.
-/
import Derived.Test.YtmmfbjmjhjmccaaAm5
namespace Go.Proofs.Ytmmfbjmjhjmccaa.Am
set_option linter.unusedSimpArgs false
set_option linter.unusedVariables false
open Go

/-- What is asked behind a step: memory in order, what was kept is kept, at most this name is new. -/
structure Next (σ : Cf) (nm : Nm) (hp' : Hp) (w' : World) (σ' : Cf) : Prop where
  evo : Evo σ σ'
  inv : HInv σ' hp'
  w : σ'.w = w'
  al : ∀ m, σ'.al m → σ.al m ∨ m = nm

theorem ArrF.vals {σ : Cf} {n : Nm} {sz : Nat} {live : Bool} {rows : List (List AV)} (h : ArrF σ n sz live rows) :
    ∃ vs, RepL σ rows.flatten vs ∧ (∀ x ∈ vs, oneC x = true) ∧ SlV σ.w (σ.ra n).1 vs ∧ (∀ r ∈ rows, r.length = sz) ∧ vs.length = rows.length * sz ∧ rows.length ≤ (σ.ra n).2 := by
  obtain ⟨_, _, _, h3⟩ := h
  rcases h3 with ⟨a, h3, rfl⟩ | ⟨b, o, cap, h3, h4, h5, h6, _⟩
  · exact ⟨[], by simp [RepL], by simp, .inl rfl, by simp, by simp, by simp⟩
  · obtain ⟨vs, g1, g2, g3, g4, g5⟩ := repRows_vals h6
    exact ⟨vs, g1, g2, .inr ⟨b, o, by rw [h3], g3⟩, g4, g5, by rw [h3]; exact h5⟩

theorem own_vals {σ : Cf} {hp : Hp} (h : HInv σ hp) {n : Nm} {l sz : Nat} {live : Bool} {rows : List (List AV)} {d : List AV} {v : Value} (hn : hl hp (.a n) = some (.sl sz live rows d))
    (hr : Rep σ (.own n l) v) (hlen : l = rows.length) : v = .slice (σ.ra n).1 rows.length (σ.ra n).2 := by
  subst hlen
  simp only [Rep] at hr
  have := h.ln n
  simp only [lenOf, hn] at this
  exact (hr.2.2 _ this).2 rfl

theorem srows_sound {σ : Cf} {hp : Hp} (h : HInv σ hp) {sz : Nat} {x : AV} {v : Value} {vx : Prop} {rx : List (List AV)} (hs : srows hp sz x = some (vx, rx)) (hvx : vx) (hr : Rep σ x v) :
    ∃ xb cx news, v = .slice xb rx.length cx ∧ RepL σ rx.flatten news ∧ (∀ y ∈ news, oneC y = true) ∧ SlV σ.w xb news ∧ (∀ r ∈ rx, r.length = sz) ∧ news.length = rx.length * sz ∧ (∀ r ∈ rx, pureL r = true) := by
  unfold srows at hs
  split at hs
  · rename_i z f rows d
    simp only [Option.some.injEq, Prod.mk.injEq] at hs
    obtain ⟨rfl, rfl⟩ := hs
    obtain ⟨base, cap, vs, h1, h2, h3, h4, h5, h6, h7, h8, _, hpu⟩ := rep_sl_vals hr
    refine ⟨base, cap, vs, h1, h4, h5, h6, ?_, ?_, hpu⟩
    · rcases h7 with rfl | h7
      · simp
      · rcases hvx with rfl | rfl
        · exact h7.1
        · simp
    · rcases h7 with rfl | h7
      · simp [h8 rfl]
      · rcases hvx with rfl | rfl
        · exact h7.2
        · simp [h8 rfl]
  · rename_i n l
    split at hs
    · rename_i z f rows d hn
      simp only [Option.some.injEq, Prod.mk.injEq] at hs
      obtain ⟨rfl, rfl⟩ := hs
      obtain ⟨hl1, rfl⟩ := hvx
      obtain ⟨vs, g1, g2, g3, g4, g5, g6⟩ := (h.arr n z f rows d hn).vals
      exact ⟨_, _, vs, own_vals h hn hr hl1, g1, g2, g3, g4, g5, (h.arr n z f rows d hn).2.2.1⟩
    · simp at hs
  · simp at hs

theorem grownCap_gt (w : World) (need old : Nat) (e : TypeId) : need ≤ grownCap w need old e := by
  simp [grownCap, Question.cut]

/-- An array of a new name that is what it was. -/
theorem HInv.alias {σ : Cf} {hp : Hp} (h : HInv σ hp) {nm : Nm} (hn : ¬ σ.al nm) {sz : Nat} (hsz : 0 < sz) {rows : List (List AV)} {d : List AV} {base : Option Addr} {cap : Nat}
    (hfull : cap = rows.length) (hpu : ∀ r ∈ rows, pureL r = true) (hrow : rows = [] ∨ ∃ b o, base = some ⟨b, o, none⟩ ∧ Fz σ b ∧ RepRows σ sz b o rows) :
    ∃ σ', Next σ nm ((.a nm, .sl sz rows.isEmpty rows d) :: hp) σ.w σ' ∧ Rep σ' (.own nm rows.length) (.slice base rows.length cap) := by
  subst hfull
  have e : Evo σ (σ.setArr nm (base, rows.length) σ.M rows.length σ.w) := Evo.setArr (.inl hn) (fun b o hb hM => ⟨hb, hM⟩) (Nat.le_refl _) (SameO.refl _)
  refine ⟨_, ⟨e, h.setArr e (fun x hx _ => ⟨hx, rfl⟩) ⟨.inr rfl, hsz, hpu, ?_⟩ ?_ h.lt (Nat.le_refl _), rfl, fun m hm => hm⟩, ?_⟩
  · rcases hrow with rfl | ⟨b, o, h1, h2, h3⟩
    · exact .inl ⟨base, by simp [Cf.setArr], rfl⟩
    · cases hr : rows with
      | nil => exact .inl ⟨base, by simp [Cf.setArr], rfl⟩
      | cons r rs =>
        refine .inr ⟨b, o, rows.length, by simp [Cf.setArr, h1, hr], by simp [hr], by simp [hr], ?_, by simp, fun _ => e.fz h2⟩
        rw [← hr]; exact h3.mono e _ _ h2.1
  · intro hl b o cap hab hc
    have : rows = [] := by simpa using hl
    subst this
    simp at hab
    omega
  · simp [Rep, Cf.setArr, oneC]

theorem app_sound {P : Program} {σ : Cf} {hp : Hp} (h : HInv σ hp) {nm : Nm} (hnm : ¬ σ.al nm) {sz bytes : Nat} {zs : List AV} {s x : AV} {vs vx : Value} {vc : Prop} {r : AV} {ws : Hp}
    (t ty e : TypeId) (i : TypeInfo) (z : Value) (ht : P.underlying t = some (.slice e)) (hi : P.info? e = some i) (hz : i.zero = some z) (hsz : i.size = sz) (hby : i.bytes = bytes) (hzs : z.cells.size = sz)
    (hs0 : 0 < sz) (hb0 : 0 < bytes)
    (hex : exApp hp nm sz bytes zs s x = some (vc, r, ws)) (hvc : vc) (hrs : Rep σ s vs) (hrx : Rep σ x vx) :
    ∃ v w' σ', (Builtin.append_ #[t, t] ty #[vs, vx]).run P σ.w = .ok v w' ∧ Next σ nm (ws ++ hp) w' σ' ∧ Rep σ' r v := by
  subst hsz hby
  unfold exApp at hex
  split at hex
  · simp at hex
  rename_i vx' rx hsr
  -- a new block
  have grown : ∀ (base : Option Addr) (cap : Nat) (rows : List (List AV)) (olds : List Value) (d : List AV) (n : Nm), RepL σ rows.flatten olds → (∀ y ∈ olds, oneC y = true) → SlV σ.w base olds → (∀ r ∈ rows, r.length = i.size) → (∀ r ∈ rows, pureL r = true) →
      olds.length = rows.length * i.size → rx ≠ [] → vx' → (rows ++ rx).length * i.bytes ≤ 140737488355328 → cap < rows.length + rx.length → vs = .slice base rows.length cap → (n = nm ∨ σ.ln n = some rows.length) →
      ∃ v w' σ', (Builtin.append_ #[t, t] ty #[vs, vx]).run P σ.w = .ok v w' ∧ Next σ n ((.a n, .sl i.size true (rows ++ rx) d) :: hp) w' σ' ∧ Rep σ' (.own n (rows ++ rx).length) v := by
    intro base cap rows olds d n o1 o2 o3 o4 hpu o5 hne hvx hb hcap hvs hn
    obtain ⟨xb, cx, news, x1, x2, x3, x4, x5, x6, xpu⟩ := srows_sound h hsr hvx hrx
    subst hvs x1
    have hrun := run_append_grown (P := P) (w := σ.w) t ty e i z ht hi hz o3 x4 rows.length rx.length cap cx o5 x6 hcap (by simpa using hb) hb0
    have hw : ∀ (b : Nat) (o : Obj), σ.w.heap[b]? = some o → σ.w.drew.heap[b]? = some o := fun b o hb => hb
    have h' := h.at hw ⟨rfl, rfl⟩
    have e' : Evo σ (σ.at σ.w.drew) := Evo.at hw ⟨rfl, rfl⟩
    have hlen : (olds ++ news).length = (rows ++ rx).length * i.size := by simp [o5, x6, Nat.add_mul]
    have hcg := grownCap_gt σ.w (rows.length + rx.length) cap e
    have hrep : RepL (σ.at σ.w.drew) (rows ++ rx).flatten (olds ++ news) := by simpa using repL_app (o1.mono e') (x2.mono e')
    have hone : ∀ y ∈ olds ++ news, oneC y = true := fun y hy => (List.mem_append.1 hy).elim (o2 y) (x3 y)
    have hrl : ∀ r ∈ rows ++ rx, r.length = i.size := fun r hr => (List.mem_append.1 hr).elim (o4 r) (x5 r)
    have hcapl : grownCap σ.w (rows.length + rx.length) cap e * i.size ≤ (olds ++ news ++ (Builtin.zeroCells z.cells (grownCap σ.w (rows.length + rx.length) cap e - (rows.length + rx.length))).toList).length := by
      rw [List.length_append, hlen]
      simp only [Array.length_toList, size_zeroCells, hzs, List.length_append, ← Nat.add_mul]
      exact Nat.mul_le_mul_right _ (by omega)
    have hblk : (olds.toArray ++ news.toArray ++ Builtin.zeroCells z.cells (grownCap σ.w (rows.length + rx.length) cap e - (rows.length + rx.length))) =
        (olds ++ news ++ (Builtin.zeroCells z.cells (grownCap σ.w (rows.length + rx.length) cap e - (rows.length + rx.length))).toList).toArray := by
      apply Array.ext'; simp
    have hM : ∀ b, b = σ.w.heap.size → ¬ σ.M b := fun b hb hM => by have := h.lt b hM; omega
    let M' : Nat → Prop := fun b => σ.M b ∨ b = σ.w.heap.size
    have evo : Evo (σ.at σ.w.drew) ((σ.at σ.w.drew).setArr n (some ⟨σ.w.heap.size, 0, none⟩, grownCap σ.w (rows.length + rx.length) cap e) M' (rows ++ rx).length
        (σ.w.drew.alloc (.cells (olds ++ news ++ (Builtin.zeroCells z.cells (grownCap σ.w (rows.length + rx.length) cap e - (rows.length + rx.length))).toList).toArray e))) := by
      refine Evo.setArr ?_ (fun b o hb hMb => ?_) (by show σ.w.heap.size ≤ (σ.w.heap.push _).size; simp) ⟨rfl, rfl⟩
      · rcases hn with rfl | hn
        · exact .inl hnm
        · refine .inr ⟨_, hn, by simp, fun e => ?_⟩
          have : rx.length = 0 := by simp at e; simp [e]
          exact absurd (List.eq_nil_of_length_eq_zero this) hne
      · have hlt := (Array.getElem?_eq_some_iff.1 hb).1
        refine ⟨(heap_alloc_lt (w := σ.w.drew) hlt).trans hb, ?_⟩
        rintro (k | k)
        · exact hMb k
        · have : b < σ.w.heap.size := hlt
          omega
    refine ⟨_, _, _, hrun, ⟨e'.trans evo, ?_, by rw [hblk]; rfl, fun m hm => hm⟩, ?_⟩
    · refine h'.setArr evo (fun x hx _ => ⟨.inl hx, heap_alloc_lt (h'.lt x hx)⟩) ⟨.inr rfl, hs0, fun r hr => (List.mem_append.1 hr).elim (hpu r) (xpu r), ?_⟩ ?_ ?_ (by simp [Cf.at]) (fun b hb hn => hb.elim (fun h => absurd h hn) (fun h => by simp [Cf.at]; omega))
      · have hpos : 0 < rx.length := by cases rx with | nil => exact absurd rfl hne | cons _ _ => simp
        refine .inr ⟨σ.w.heap.size, 0, _, by simp [Cf.setArr]; rfl, by omega, by simpa using hcg, ?_, fun _ => ⟨.inr rfl, _, e, heap_alloc_new, by simpa using hcapl⟩, by simp⟩
        refine repRows_of_vals (hrep.mono evo) hone (fun j v hj => ?_) hrl
        have hc := World.cell?_alloc_new σ.w.drew (olds ++ news ++ (Builtin.zeroCells z.cells (grownCap σ.w (rows.length + rx.length) cap e - (rows.length + rx.length))).toList).toArray e (0 + j)
        simp only [Cf.setArr]
        refine hc.trans ?_
        have := (List.getElem?_eq_some_iff.1 hj).1
        simp only [List.getElem?_toArray, Nat.zero_add]
        rw [List.getElem?_append_left this]; exact hj
      · intro _ b o cap' hab _
        right
        simp at hab
        simp [Cf.at]; omega
      · intro b hb
        rcases hb with hb | hb
        · have := h.lt b hb; simp; omega
        · simp; omega
    · simp [Rep, Cf.setArr, oneC]
  split at hex
  · -- an array of one's own
    rename_i n l
    split at hex
    · rename_i zz live rows d hn
      simp only [Option.some.injEq, Prod.mk.injEq] at hex
      obtain ⟨rfl, rfl, rfl⟩ := hex
      obtain ⟨hvx, rfl, hl1, rfl, hb⟩ := hvc
      have ha := h.arr n i.size true rows d hn
      obtain ⟨olds, o1, o2, o3, o4, o5, o6⟩ := ha.vals
      have hvs := own_vals h hn hrs hl1
      have hln : σ.ln n = some rows.length := by have := h.ln n; simpa [lenOf, hn] using this
      by_cases hrx0 : rx = []
      · subst hrx0
        obtain ⟨xb, cx, news, x1, _⟩ := srows_sound h hsr hvx hrx
        subst hvs x1
        have hrun := run_append_stays (P := P) (w := σ.w) (sb := (σ.ra n).1) (xb := xb) t ty e i ht hi rows.length (σ.ra n).2 cx o6
        have evo : Evo σ (σ.setArr n (σ.ra n) σ.M rows.length σ.w) := Evo.setArr (.inr ⟨_, hln, Nat.le_refl _, fun _ => rfl⟩) (fun b o hb hM => ⟨hb, hM⟩) (Nat.le_refl _) (SameO.refl _)
        refine ⟨_, _, σ.setArr n (σ.ra n) σ.M rows.length σ.w, hrun, ⟨evo, ?_, rfl, fun m hm => hm.elim .inl (fun e => .inl (e ▸ ha.1))⟩, ?_⟩
        · simp only [List.append_nil, List.cons_append, List.nil_append]
          refine h.setArr evo (fun x hx _ => ⟨hx, rfl⟩) (ha.keep evo (by simp [Cf.setArr]) fun _ _ _ _ _ _ hM => ⟨hM, rfl⟩) (fun _ b o cap h1 h2 => .inl (.inr ⟨rfl, ⟨_, _, _, hn⟩, o, cap, h1, h2⟩)) h.lt (Nat.le_refl _)
        · simp [Rep, Cf.setArr, oneC]
      · by_cases hcap : rows.length + rx.length ≤ (σ.ra n).2
        · -- within the capacity
          obtain ⟨xb, cx, news, x1, x2, x3, x4, x5, x6, xpu⟩ := srows_sound h hsr hvx hrx
          have hpos : 0 < rx.length := by cases rx with | nil => exact absurd rfl hrx0 | cons _ _ => simp
          obtain ⟨a1, a2, hpu, a3⟩ := ha
          rcases a3 with ⟨a, a3, _⟩ | ⟨b, o, cap, a3, a4, a5, a6, a7, _⟩
          · have hcap' : rows.length + rx.length ≤ 0 := by rw [a3] at hcap; exact hcap
            omega
          obtain ⟨hMb, cs, T, hcs, hfit⟩ := a7 rfl
          rw [a3] at hcap hvs o3 o6
          simp only at hcap hvs o3 o6
          subst hvs x1
          have hfit' : o + rows.length * i.size + news.length ≤ cs.size := by
            rw [x6]
            have : (rows.length + rx.length) * i.size ≤ cap * i.size := Nat.mul_le_mul_right _ hcap
            rw [Nat.add_mul] at this; omega
          have hrun := run_append_in (P := P) (w := σ.w) t ty e i ht hi (b := b) (o := o) x4 rows.length rx.length cap cx x6 x3 hcs hfit' hcap
          have evo : Evo σ (σ.setArr n (some ⟨b, o, none⟩, cap) σ.M (rows ++ rx).length (putAt σ.w b (o + rows.length * i.size) news)) := by
            refine Evo.setArr (.inr ⟨_, hln, by simp, fun e => ?_⟩) (fun c ob hb hM => ⟨?_, hM⟩) (by rw [size_putAt]; exact Nat.le_refl _) (sameO_putAt _ _ _ _)
            · simp at e; exact absurd (by simp [e]) hrx0
            · rw [heap_putAt_other (fun (e : c = b) => hM (by rw [e]; exact hMb))]; exact hb
          obtain ⟨ds, d1, d2, d3⟩ := heap_putAt_same news (o + rows.length * i.size) σ.w cs hcs
          have hown : Owns σ hp (true, n) b := .inr ⟨rfl, ⟨_, _, _, hn⟩, o, cap, a3, a4⟩
          refine ⟨_, _, σ.setArr n (some ⟨b, o, none⟩, cap) σ.M (rows ++ rx).length (putAt σ.w b (o + rows.length * i.size) news), hrun, ⟨evo, ?_, rfl, fun m hm => hm.elim .inl (fun e => .inl (e ▸ a1))⟩, by simp [Rep, Cf.setArr, oneC]⟩
          refine h.setArr evo (fun x hx hno => ⟨hx, heap_putAt_other (fun (e : x = b) => hno (by rw [e]; exact hown)) _ _ _⟩) ⟨.inr rfl, a2, fun r hr => (List.mem_append.1 hr).elim (hpu r) (xpu r), .inr ⟨b, o, cap, by simp [Cf.setArr], a4, by simpa using hcap, ?_, fun _ => ⟨hMb, ds, T, d1, by rw [d2]; exact hfit⟩, by simp⟩⟩
            (fun _ b' o' cap' h1 h2 => .inl (by simp at h1; obtain ⟨⟨rfl, rfl⟩, rfl⟩ := h1; exact hown)) (fun c hc => by rw [size_putAt]; exact h.lt c hc) (by rw [size_putAt]; exact Nat.le_refl _)
          obtain ⟨olds', p1, p2, p3, p4, p5⟩ := repRows_vals a6
          have hlen := p5
          refine repRows_of_vals (vs := olds' ++ news) (by simpa using repL_app (p1.mono evo) (x2.mono evo)) (fun y hy => (List.mem_append.1 hy).elim (p2 y) (x3 y)) (fun j v hj => ?_) (fun r hr => (List.mem_append.1 hr).elim (p4 r) (x5 r))
          have hjl := (List.getElem?_eq_some_iff.1 hj).1
          simp only [List.length_append] at hjl
          simp only [Cf.setArr, World.cell?, d1, Option.isSome_none, if_false, Bool.false_eq_true]
          rw [d3]
          by_cases hjo : j < olds'.length
          · rw [if_neg (by omega)]
            rw [List.getElem?_append_left hjo] at hj
            have := p3 j v hj
            simpa [World.cell?, hcs] using this
          · rw [List.getElem?_append_right (by omega)] at hj
            rw [if_pos ⟨by omega, by omega, by omega⟩]
            rw [show o + j - (o + rows.length * i.size) = j - olds'.length from by omega]
            exact hj
        · obtain ⟨v, w', σ', g1, g2, g3⟩ := grown (σ.ra n).1 (σ.ra n).2 rows olds d n o1 o2 o3 o4 ha.2.2.1 o5 hrx0 hvx hb (by omega) hvs (.inr hln)
          exact ⟨v, w', σ', g1, ⟨g2.evo, g2.inv, g2.w, fun m hm => (g2.al m hm).elim .inl (fun e => .inl (e ▸ ha.1))⟩, g3⟩
    · simp at hex
  · -- a slice that is full
    rename_i zz full rows d
    simp only [Option.some.injEq, Prod.mk.injEq] at hex
    obtain ⟨rfl, rfl, rfl⟩ := hex
    obtain ⟨hvx, hzz, rfl, hb⟩ := hvc
    obtain ⟨base, cap, olds, h1, h2, h3, h4, h5, h6, h7, h8, h9, hpu⟩ := rep_sl_vals hrs
    have hcap := h3 rfl
    have hrl : ∀ r ∈ rows, r.length = i.size := by
      rcases h7 with rfl | h7
      · simp
      · rcases hzz with rfl | rfl
        · exact h7.1
        · simp
    have hol : olds.length = rows.length * i.size := by
      rcases h7 with rfl | h7
      · simp [h8 rfl]
      · rcases hzz with rfl | rfl
        · exact h7.2
        · simp [h8 rfl]
    by_cases hrx0 : rx = []
    · subst hrx0
      obtain ⟨xb, cx, news, x1, _⟩ := srows_sound h hsr hvx hrx
      subst h1 x1
      have hrun := run_append_stays (P := P) (w := σ.w) (sb := base) (xb := xb) t ty e i ht hi rows.length cap cx h2
      obtain ⟨σ', g1, g2⟩ := h.alias hnm hs0 (rows := rows) (d := bif d.isEmpty then zs else d) (base := base) hcap hpu (by
        rcases h9 with h9 | ⟨b, o, k1, k2, k3⟩
        · exact .inl h9
        · exact .inr ⟨b, o, k1, k2, repRows_of_vals h4 h5 k3 hrl⟩)
      exact ⟨_, _, σ', hrun, by simpa using g1, by simpa using g2⟩
    · have hpos : 0 < rx.length := by cases rx with | nil => exact absurd rfl hrx0 | cons _ _ => simp
      obtain ⟨v, w', σ', g1, g2, g3⟩ := grown base cap rows olds (bif d.isEmpty then zs else d) nm h4 h5 h6 hrl hpu hol hrx0 hvx hb (by omega) h1 (.inl rfl)
      refine ⟨v, w', σ', g1, ?_, g3⟩
      have : (!rx.isEmpty || rows.isEmpty) = true := by cases rx with | nil => exact absurd rfl hrx0 | cons _ _ => simp
      rw [this]; exact g2
  · simp at hex
end Go.Proofs.Ytmmfbjmjhjmccaa.Am
