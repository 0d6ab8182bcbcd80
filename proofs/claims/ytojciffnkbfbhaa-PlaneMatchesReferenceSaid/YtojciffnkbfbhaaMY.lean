import Derived.Test.YtojciffnkbfbhaaMW
import Derived.Test.YtojciffnkbfbhaaL7
/-
  Plain laws: the reference's Seam is plane's.
-/
namespace Go.Proofs.Ytojciffnkbfbhaa.Am
set_option linter.unusedSimpArgs false
set_option linter.unusedVariables false
def lxl (p q : Pt) : Prop := p.1 < q.1 ∨ (p.1 = q.1 ∧ p.2 < q.2)
def ZZ (a b : List Pt) (p : Pt) : Prop := sd a p = 0 ∧ sd b p = 0
structure InvQ (a b : List Pt) (i k : Nat) (l : List Pt) : Prop where
  len : l.length ≤ 41 * i + k
  pw : l.Pairwise lxl
  mem : ∀ p, p ∈ l ↔ ∃ x y : Nat, (x < i ∨ (x = i ∧ y < k)) ∧ y ≤ 40 ∧ p = ((x : Int), (y : Int)) ∧ ZZ a b p
section
variable {a b : List Pt}
theorem rs_L6 {N : Nat} (hN : 100 ≤ N) (ha : VP a) (hb : VP b) {i : Nat} (hi : i ≤ 40) : ∀ (n k : Nat) (out : List Pt), k ≤ 41 → 41 < n + k → InvQ a b i k out → ∃ r, D_putlogref07_Seam_L6 N a i b n k out = some r ∧ InvQ a b i 41 r
  | 0, k, out, h1, h2, _ => by omega
  | n + 1, k, out, h1, h2, hI => by
    rw [D_putlogref07_Seam_L6]
    by_cases he : k = 41
    · subst he
      exact ⟨out, by rw [decide_eq_false (by omega), cF], hI⟩
    have hk : k ≤ 40 := by omega
    have len := hI.len
    rw [decide_eq_true (show (k : Int) ≤ 40 by omega), cT, wsd_eq hN ha hi hk, bS, wsd_eq hN hb hi hk, gd_of (fun _ => Option.isSome_some), Option.getD_some]
    by_cases hz : ZZ a b ((i : Int), (k : Int))
    · rw [cT' _ (by rw [decide_eq_true hz.1, decide_eq_true hz.2]; rfl), gd_of (by omega), gd_of (by unfold I64; omega), ← ns]
      refine rs_L6 hN ha hb hi n (k + 1) _ (by omega) (by omega) ⟨by simp; omega, ?_, fun p => ?_⟩
      · rw [List.pairwise_append]
        refine ⟨hI.pw, by simp, fun p hp q hq => ?_⟩
        rw [List.mem_singleton] at hq
        obtain ⟨x, y, h, _, e, _⟩ := (hI.mem p).1 hp
        rw [e, hq]
        unfold lxl
        simp only
        omega
      · rw [List.mem_append, List.mem_singleton, hI.mem p]
        constructor
        · rintro (⟨x, y, h, hy, e, z⟩ | e)
          · exact ⟨x, y, by omega, hy, e, z⟩
          · exact ⟨i, k, by omega, hk, e, by rw [e]; exact hz⟩
        · rintro ⟨x, y, h, hy, e, z⟩
          by_cases q : x = i ∧ y = k
          · right; rw [e, q.1, q.2]
          · exact .inl ⟨x, y, by omega, hy, e, z⟩
    · rw [cF' _ (by rw [Bool.eq_false_iff]; intro q; rw [Bool.and_eq_true, decide_eq_true_eq, decide_eq_true_eq] at q; exact hz q), gd_of (by unfold I64; omega), ← ns]
      refine rs_L6 hN ha hb hi n (k + 1) _ (by omega) (by omega) ⟨by omega, hI.pw, fun p => ?_⟩
      rw [hI.mem p]
      constructor
      · rintro ⟨x, y, h, hy, e, z⟩
        exact ⟨x, y, by omega, hy, e, z⟩
      · rintro ⟨x, y, h, hy, e, z⟩
        by_cases q : x = i ∧ y = k
        · rw [e, q.1, q.2] at z; exact absurd z hz
        · exact ⟨x, y, by omega, hy, e, z⟩
theorem rs_L4 {N : Nat} (hN : 100 ≤ N) (ha : VP a) (hb : VP b) : ∀ (n i : Nat) (out : List Pt), i ≤ 41 → 41 < n + i → InvQ a b i 0 out → ∃ r, D_putlogref07_Seam_L4 N a b n i out = some r ∧ InvQ a b 41 0 r
  | 0, i, out, h1, h2, _ => by omega
  | n + 1, i, out, h1, h2, hI => by
    rw [D_putlogref07_Seam_L4]
    by_cases he : i = 41
    · subst he
      exact ⟨out, by rw [decide_eq_false (by omega), cF], hI⟩
    have hi : i ≤ 40 := by omega
    obtain ⟨r, er, hr⟩ := rs_L6 hN ha hb hi N 0 out (by omega) (by omega) hI
    rw [Int.natCast_zero] at er
    rw [decide_eq_true (show (i : Int) ≤ 40 by omega), cT, er, bS, gd_of (by unfold I64; omega), ← ns]
    refine rs_L4 hN ha hb n (i + 1) r (by omega) (by omega) ⟨by have := hr.len; omega, hr.pw, fun p => ?_⟩
    rw [hr.mem p]
    constructor
    · rintro ⟨x, y, h, hy, e, z⟩
      exact ⟨x, y, by omega, hy, e, z⟩
    · rintro ⟨x, y, h, hy, e, z⟩
      exact ⟨x, y, by omega, hy, e, z⟩
open Classical in
theorem rs_L7 {N : Nat} {u w : Pt} (ha : VP a) (hN : 100 ≤ N) (hu : Sml u) (hw : Sml w) : D_putlogref07_Seam_L7 N a u.1 u.2 w.1 w.2 N 0 = some (if ∃ x ∈ a, trn u w x < 0 then .inr (((w.1, w.2), (u.1, u.2)), true) else .inl ()) := by
  have a8 := ha.l8
  have step : ∀ n (k : Nat), k < a.length → D_putlogref07_Seam_L7 N a u.1 u.2 w.1 w.2 (n + 1) k = if trn u w (pa a k) < 0 then some (.inr (((w.1, w.2), (u.1, u.2)), true)) else D_putlogref07_Seam_L7 N a u.1 u.2 w.1 w.2 n ((k + 1 : Nat) : Int) := fun n k hk => by
    rw [D_putlogref07_Seam_L7, dlt hk, cT, nth_pa hk, bS]
    simp only
    rw [rturn_eq hu hw (ha.sml _ (pa_mem hk)), bS]
    by_cases h : trn u w (pa a k) < 0
    · rw [decide_eq_true h, cT, if_pos h]
    · rw [decide_eq_false h, cF, if_neg h, gd_of (by unfold I64; omega), ns]
  have key := find0 (L := D_putlogref07_Seam_L7 N a u.1 u.2 w.1 w.2) (len := a.length) (fun k => if trn u w (pa a k) < 0 then some (((w.1, w.2), (u.1, u.2)), true) else none)
    (fun n k hk hf => by
      rw [step n k hk, if_neg]
      intro h; rw [if_pos h] at hf; cases hf) (fun n k r hk hf => by
      by_cases h : trn u w (pa a k) < 0
      · rw [if_pos h] at hf; rw [step n k hk, if_pos h, ← Option.some.inj hf]
      · rw [if_neg h] at hf; cases hf) (fun n => by
      rw [D_putlogref07_Seam_L7, dge, cF]) N (by omega)
  rcases key with ⟨e, h⟩ | ⟨j, r, a2, a3, a4, e⟩
  · rw [e, if_neg]
    rintro ⟨x, hx, q⟩
    obtain ⟨k, hk, rfl⟩ := pa_of hx
    have := h k hk
    rw [if_pos q] at this
    cases this
  · by_cases h : trn u w (pa a j) < 0
    · rw [if_pos h] at a3
      rw [e, ← Option.some.inj a3, if_pos ⟨_, pa_mem a2, h⟩]
    · rw [if_neg h] at a3; cases a3
theorem seam_on (ha : VP a) (hb : VP b) {j t : Nat} (hj : j < a.length) (ht : t < b.length) {s : Pt × Pt} (hc : cand (pa a j, pa a ((j + 1) % a.length)) (pa b t, pa b ((t + 1) % b.length)) = some s) : On s.1 ∧ On s.2 := by
  have h1 : ∀ u v : Pt, On u → On v → On (lo u v) ∧ On (Am.hi u v) ∧ On (maxO u v) ∧ On (minO u v) := fun u v a b => by
    unfold lo Am.hi maxO minO
    refine ⟨?_, ?_, ?_, ?_⟩ <;> split <;> assumption
  obtain ⟨_, _, _, _, es⟩ := cand_some hc
  have q0 := ha.on _ (pa_mem hj)
  have q1 := ha.on _ (pa_mem (Nat.mod_lt (j + 1) (show 0 < a.length by omega)))
  have q2 := hb.on _ (pa_mem ht)
  have q3 := hb.on _ (pa_mem (Nat.mod_lt (t + 1) (show 0 < b.length by omega)))
  have r1 := (h1 _ _ (h1 _ _ q0 q1).1 (h1 _ _ q2 q3).1).2.2.1
  have r2 := (h1 _ _ (h1 _ _ q0 q1).2.1 (h1 _ _ q2 q3).2.1).2.2.2
  rw [es]
  split
  · exact ⟨r2, r1⟩
  · exact ⟨r1, r2⟩
/-- A polygon has a corner off every line. -/
theorem off_line (ha : VP a) {u w : Pt} (hne : u ≠ w) (hl : ∀ x ∈ a, 0 ≤ trn u w x) : ∃ x ∈ a, 0 < trn u w x := by
  have l3 := ha.l3
  by_cases h : ∃ x ∈ a, 0 < trn u w x
  · exact h
  exfalso
  have z : ∀ x ∈ a, trn u w x = 0 := fun x hx => by
    have := hl x hx
    by_cases q : 0 < trn u w x
    · exact absurd ⟨x, hx, q⟩ h
    · omega
  obtain ⟨x, hx, px⟩ := E_other ha (j := 0) (by omega)
  have m0 := pa_mem (l := a) (i := 0) (by omega)
  have m1 := pa_mem (l := a) (i := (0 + 1) % a.length) (Nat.mod_lt _ (by omega))
  have := cross0 (g := (w.2 - u.2, u.1 - w.1)) (p := x) (a := pa a 0) (b := pa a ((0 + 1) % a.length)) (by rw [trn_lin, z _ hx, z _ m0]; omega) (by rw [trn_lin, z _ hx, z _ m1]; omega) (fun e => hne (by
    have e1 := congrArg Prod.fst e
    have e2 := congrArg Prod.snd e
    simp only at e1 e2
    exact Prod.ext (by omega) (by omega)))
  rw [← trn_rot] at this
  unfold E at px
  omega
open Classical in
theorem seam_same1 {N : Nat} (hN : 1001 ≤ N) (ha : VP a) (hb : VP b) : D_putlogref07_Seam N a b = some (seamS a b) := by
  unfold D_putlogref07_Seam
  have a8 := ha.l8
  rw [rvalid_eq (by omega), rvalid_eq (by omega), vB_t.2 ha, vB_t.2 hb, bS, gd_of (fun _ => Option.isSome_some), rover_eq hN ha hb, gd_of (fun _ => Option.isSome_some), Option.getD_some, Option.getD_some]
  by_cases hap : apart a b
  case neg =>
    rw [decide_eq_true hap, cT' _ (by rfl)]
    unfold seamS
    rw [if_neg hap]
  rw [decide_eq_false (fun q => q hap), cF' _ (by rfl)]
  obtain ⟨r, er, hr⟩ := rs_L4 (N := N) (by omega) ha hb N 0 [] (by omega) (by omega) ⟨by simp, by simp, fun p => ⟨by simp, by rintro ⟨x, y, h, _⟩; omega⟩⟩
  rw [Int.natCast_zero] at er
  rw [er, bS]
  have mem : ∀ p, p ∈ r ↔ On p ∧ ZZ a b p := fun p => by
    rw [hr.mem p]
    constructor
    · rintro ⟨x, y, h, hy, e, z⟩
      refine ⟨?_, z⟩
      rw [e]
      exact onN (by omega) hy
    · rintro ⟨ho, z⟩
      unfold On at ho
      exact ⟨p.1.toNat, p.2.toNat, by omega, by omega, Prod.ext (by simp only; omega) (by simp only; omega), z⟩
  have two : ∀ p q, p ∈ r → q ∈ r → p ≠ q → ∃ e ∈ edgesL a, ∃ f ∈ edgesL b, ∃ s, cand e f = some s := fun p q hp hq hne => by
    obtain ⟨op, zp⟩ := (mem p).1 hp
    obtain ⟨oq, zq⟩ := (mem q).1 hq
    exact seam_two ha hb hap hne ⟨(sd_0.1 zp.1).1, (sd_0.1 zp.2).1⟩ ⟨(sd_0.1 zq.1).1, (sd_0.1 zq.2).1⟩ op.sml oq.sml
  cases h : seam1 a b with
  | none =>
    have e1 : seamS a b = ((((0, 0), (0, 0)), false)) := by unfold seamS; rw [if_pos hap, h]
    rw [e1]
    have : r.length < 2 := by
      have pw := hr.pw
      match r, pw, two with
      | [], _, _ => simp
      | [_], _, _ => simp
      | p :: q :: r, pw, two =>
        exfalso
        rw [List.pairwise_cons] at pw
        have hx := pw.1 q (by simp)
        obtain ⟨e, he, f, hf, s, hc⟩ := two p q (by simp) (by simp) (fun w => by rw [w] at hx; unfold lxl at hx; omega)
        rw [seam1_none h he hf] at hc
        cases hc
    rw [cT' _ (by simp; omega)]
  | some s =>
    have e1 : seamS a b = (s, true) := by unfold seamS; rw [if_pos hap, h]
    rw [e1]
    obtain ⟨j, t, hj, ht, hc⟩ := seam1_some h
    obtain ⟨ok, _, _, _, _⟩ := cand_ok ha hb hap hj ht hc
    obtain ⟨o1, o2⟩ := seam_on ha hb hj ht hc
    have mem2 : ∀ p, p ∈ r ↔ On p ∧ (trn s.1 s.2 p = 0 ∧ btw s.1 s.2 p) := fun p => by
      rw [mem p, ← ok.on p]
      unfold ZZ
      rw [sd_0, sd_0]
    have bt : btw s.1 s.2 s.1 ∧ btw s.1 s.2 s.2 := by
      rcases lexle_tot s.1 s.2 with q | q
      · exact ⟨.inl ⟨lexle_refl _, q⟩, .inl ⟨q, lexle_refl _⟩⟩
      · exact ⟨.inr ⟨q, lexle_refl _⟩, .inr ⟨lexle_refl _, q⟩⟩
    have m1 := (mem2 s.1).2 ⟨o1, trn_self1 _ _, bt.1⟩
    have m2 := (mem2 s.2).2 ⟨o2, trn_self2 _ _, bt.2⟩
    have l2 : 2 ≤ r.length := by
      match r, m1, m2 with
      | [], m1, _ => simp at m1
      | [x], m1, m2 =>
        rw [List.mem_singleton] at m1 m2
        exact absurd (m1.trans m2.symm) ok.ne
      | _ :: _ :: _, _, _ => simp
    have first : ∀ p ∈ r, lexle (pa r 0) p := fun p hp => by
      obtain ⟨k, hk, rfl⟩ := pa_of hp
      by_cases q : k = 0
      · subst q; exact lexle_refl _
      · have := List.pairwise_iff_getElem.1 hr.pw 0 k (by omega) hk (by omega)
        rw [← pa_get, ← pa_get] at this
        unfold lxl at this
        unfold lexle
        omega
    have last : ∀ p ∈ r, lexle p (pa r (r.length - 1)) := fun p hp => by
      obtain ⟨k, hk, rfl⟩ := pa_of hp
      by_cases q : k = r.length - 1
      · rw [q]; exact lexle_refl _
      · have := List.pairwise_iff_getElem.1 hr.pw k (r.length - 1) (by omega) (by omega) (by omega)
        rw [← pa_get, ← pa_get] at this
        unfold lxl at this
        unfold lexle
        omega
    have len := hr.len
    have mf := pa_mem (l := r) (i := 0) (by omega)
    have ml := pa_mem (l := r) (i := r.length - 1) (by omega)
    have n0 := nth_pa (l := r) (i := 0) (by omega)
    rw [Int.natCast_zero] at n0
    have nl := nth_pa (l := r) (i := r.length - 1) (by omega)
    rw [show ((r.length - 1 : Nat) : Int) = (r.length : Int) - 1 by omega] at nl
    have bf := ((mem2 _).1 mf).2.2
    have bl := ((mem2 _).1 ml).2.2
    have f1 := first _ m1
    have f2 := first _ m2
    have g1 := last _ m1
    have g2 := last _ m2
    rw [cF' _ (by simp; omega), n0, bS]
    simp only
    rw [gd_of (by unfold I64; omega), nl, bS]
    simp only
    rw [rs_L7 ha (by omega) ((mem2 _).1 mf).1.sml ((mem2 _).1 ml).1.sml, bS]
    rcases lexle_tot s.1 s.2 with q | q
    · have x1 : pa r 0 = s.1 := by
        rcases bf with ⟨a, b⟩ | ⟨a, b⟩
        · exact lexle_anti f1 a
        · exact lexle_anti f1 (lexle_trans q a)
      have x2 : pa r (r.length - 1) = s.2 := by
        rcases bl with ⟨a, b⟩ | ⟨a, b⟩
        · exact lexle_anti b g2
        · exact lexle_anti (lexle_trans b q) g2
      rw [x1, x2, if_neg (by rintro ⟨x, hx, h⟩; have := ok.left x hx; omega)]
    · have x1 : pa r 0 = s.2 := by
        rcases bf with ⟨a, b⟩ | ⟨a, b⟩
        · exact lexle_anti f2 (lexle_trans q a)
        · exact lexle_anti f2 a
      have x2 : pa r (r.length - 1) = s.1 := by
        rcases bl with ⟨a, b⟩ | ⟨a, b⟩
        · exact lexle_anti (lexle_trans b q) g1
        · exact lexle_anti b g1
      obtain ⟨x, hx, px⟩ := off_line ha ok.ne ok.left
      rw [x1, x2, if_pos ⟨x, hx, by rw [trn_swap]; omega⟩]
end
theorem seam_same {N : Nat} (hN : 1001 ≤ N) (a b : List Pt) : ∃ r, D_plane_Seam N a b = some r ∧ D_putlogref07_Seam N a b = some r := by
  by_cases ha : VP a
  · by_cases hb : VP b
    · exact ⟨_, seam_eq hN ha hb, seam_same1 hN ha hb⟩
    · refine ⟨(((0, 0), (0, 0)), false), ?_, ?_⟩
      · unfold D_plane_Seam
        rw [valid_eq (by omega), valid_eq (by omega), vB_t.2 ha, vB_f.2 hb, bS, gd_of (fun _ => Option.isSome_some), gd_of (fun q => by cases q), cT' _ (by rfl)]
      · unfold D_putlogref07_Seam
        rw [rvalid_eq (by omega), rvalid_eq (by omega), vB_t.2 ha, vB_f.2 hb, bS, gd_of (fun _ => Option.isSome_some), gd_of (fun q => by cases q), cT' _ (by rfl)]
  · refine ⟨(((0, 0), (0, 0)), false), ?_, ?_⟩
    · unfold D_plane_Seam
      rw [valid_eq (by omega), vB_f.2 ha, bS, gd_of (fun q => by cases q), gd_of (fun q => by cases q), cT' _ (by rfl)]
    · unfold D_putlogref07_Seam
      rw [rvalid_eq (by omega), vB_f.2 ha, bS, gd_of (fun q => by cases q), gd_of (fun q => by cases q), cT' _ (by rfl)]
end Go.Proofs.Ytojciffnkbfbhaa.Am
/-
  Plain laws: PlaneMatchesReference.
-/
namespace Go.Proofs.Ytojciffnkbfbhaa.Am
set_option linter.unusedSimpArgs false
set_option linter.unusedVariables false
theorem lpickX_eq {N : Nat} {c n : Int} (hc : I64 c) (hn : 0 < n) : D_putloglaw07_pick N c n = some (pk c n) := by
  unfold I64 at hc
  unfold D_putloglaw07_pick pk
  by_cases h : c < 0
  · rw [decide_eq_true h, cT, gd_of (by unfold I64; omega), gd_of (by unfold I64; omega), gd_of (by omega), if_pos h]
  · rw [decide_eq_false h, cF, gd_of (by omega), if_neg h]
theorem bent_ok {N : Nat} {l : List Pt} (l1 : 0 < l.length) (l8 : l.length ≤ 8) {how n at_ : Int} (h1 : I64 how) (h2 : I64 at_) : ∃ r, D_putlogref07_Bent N l how n at_ = some r ∧ r.length ≤ 9 := by
  unfold D_putlogref07_Bent
  rw [gd_of (by omega), decide_eq_false (by omega), cF, rpick_eq h2 (by omega), bS, rpick_eq h1 (by omega), bS]
  have b := @pk_bd at_ (l.length : Int) (by omega)
  obtain ⟨u, hu⟩ : ∃ u : Nat, pk at_ (l.length : Int) = u := ⟨(pk at_ (l.length : Int)).toNat, by omega⟩
  rw [hu] at b ⊢
  have hul : u < l.length := by omega
  generalize pk how 5 = k
  by_cases k0 : k = 0
  · rw [decide_eq_true k0, cT, nth_pa hul, bS]
    simp only
    exact ⟨_, rfl, by rw [List.length_set]; omega⟩
  rw [decide_eq_false k0, cF]
  by_cases k1 : k = 1
  · rw [decide_eq_true k1, cT, nth_pa hul, bS]
    simp only
    exact ⟨_, rfl, by rw [List.length_set]; omega⟩
  rw [decide_eq_false k1, cF]
  by_cases k2 : k = 2
  · rw [decide_eq_true k2, cT, gd_of (by unfold I64; omega), gd_of (by omega), tmod_nat, nth_pa (Nat.mod_lt _ l1), bS]
    simp only
    rw [nth_pa hul, bS]
    exact ⟨_, rfl, by rw [List.length_set]; omega⟩
  rw [decide_eq_false k2, cF]
  by_cases k3 : k = 3
  · rw [decide_eq_true k3, cT, gd_of (by omega), gd_of (by unfold I64; omega), gd_of (by omega), gd_of (by simp only [List.length_take, List.length_drop]; omega)]
    exact ⟨_, rfl, by simp only [List.length_append, List.length_take, List.length_drop]; omega⟩
  have p := @pk_bd at_ 50 (by omega)
  rw [decide_eq_false k3, cF, gd_of (by omega), rpick_eq h2 (by omega), bS, gd_of (by unfold I64; omega), gd_of (by omega), gd_of (by simp only [List.length_drop]; omega), gd_of (by simp only [List.length_append, List.length_take, List.length_drop, List.length_singleton]; omega)]
  exact ⟨_, rfl, by simp only [List.length_append, List.length_take, List.length_drop, List.length_singleton]; omega⟩
section
variable {N : Nat} (hN : 1001 ≤ N)
include hN
theorem one_L1s (l : List Pt) (p q r s u v : Int) {x : Int} (hx : x < 2) (h0 : 0 ≤ x) (hn : nth [(p, q), (r, s)] x = some (u, v)) (n : Nat) : D_putloglaw07_one_L1 N p q r s l (n + 1) x = D_putloglaw07_one_L1 N p q r s l n (x + 1) := by
  obtain ⟨i, i1, i2⟩ := inside_same (N := N) (by omega) l (u, v)
  obtain ⟨c, c1, c2⟩ := cell_same (N := N) (by omega) l (u, v)
  simp only at i1 i2 c1 c2
  rw [D_putloglaw07_one_L1, decide_eq_true hx, cT, hn, bS]
  simp only
  rw [i1, bS, i2, bS, c1, c2, gd_of (fun _ => Option.isSome_some), gd_of (fun _ => Option.isSome_some), cF' _ (by simp), gd_of (by unfold I64; omega)]
theorem one_L1 (l : List Pt) (p q r s : Int) : D_putloglaw07_one_L1 N p q r s l N 0 = some (.inl ()) := by
  obtain ⟨n, hn⟩ : ∃ n, N = n + 1 + 1 + 1 := ⟨N - 3, by omega⟩
  have e1 := one_L1s hN l p q r s p q (x := 0) (by omega) (by omega) rfl (n + 1 + 1)
  have e2 := one_L1s hN l p q r s r s (x := 0 + 1) (by omega) (by omega) rfl (n + 1)
  have e3 : D_putloglaw07_one_L1 N p q r s l (n + 1) (0 + 1 + 1) = some (.inl ()) := by rw [D_putloglaw07_one_L1, decide_eq_false (by omega), cF]
  rw [← hn] at e1
  rw [e1, e2, e3]
theorem one_L2s (l : List Pt) (p q r s u v : Int) {x : Int} (hx : x < 2) (h0 : 0 ≤ x) (hn : nth [(p, q), (r, s)] x = some (u, v)) (n : Nat) : D_putloglaw07_one_L2 N p q r s l (n + 1) x = D_putloglaw07_one_L2 N p q r s l n (x + 1) := by
  obtain ⟨⟨c1, c2, c3⟩, e1, e2, l1, l2⟩ := cut_same (N := N) (by omega) l u v
  simp only at l1 l2
  rw [D_putloglaw07_one_L2, decide_eq_true hx, cT, hn, bS]
  simp only
  rw [e1, bS]
  simp only
  rw [e2, bS]
  simp only
  rw [same_refl hN (by omega), same_refl hN (by omega), gd_of (fun _ => Option.isSome_some), gd_of (fun _ => Option.isSome_some), cF' _ (by simp), gd_of (by unfold I64; omega)]
theorem one_L2 (l : List Pt) (p q r s : Int) : D_putloglaw07_one_L2 N p q r s l N 0 = some (.inl ()) := by
  obtain ⟨n, hn⟩ : ∃ n, N = n + 1 + 1 + 1 := ⟨N - 3, by omega⟩
  have e1 := one_L2s hN l p q r s p q (x := 0) (by omega) (by omega) rfl (n + 1 + 1)
  have e2 := one_L2s hN l p q r s r s (x := 0 + 1) (by omega) (by omega) rfl (n + 1)
  have e3 : D_putloglaw07_one_L2 N p q r s l (n + 1) (0 + 1 + 1) = some (.inl ()) := by rw [D_putloglaw07_one_L2, decide_eq_false (by omega), cF]
  rw [← hn] at e1
  rw [e1, e2, e3]
theorem one_L3s (l : List Pt) (p q r s u v : Int) {x : Int} (hx : x < 2) (h0 : 0 ≤ x) (hn : nth [(p, q), (r - 10, s - 10)] x = some (u, v)) (n : Nat) : D_putloglaw07_one_L3 N p q r s l (n + 1) x = D_putloglaw07_one_L3 N p q r s l n (x + 1) := by
  obtain ⟨⟨c1, c2⟩, e1, e2, l1⟩ := move_same (N := N) (by omega) l u v
  simp only at l1
  rw [D_putloglaw07_one_L3, decide_eq_true hx, cT, hn, bS]
  simp only
  rw [e1, bS]
  simp only
  rw [e2, bS]
  simp only
  rw [same_refl hN (by omega), gd_of (fun _ => Option.isSome_some), cF' _ (by simp), gd_of (by unfold I64; omega)]
theorem one_L3 (l : List Pt) (p q r s : Int) : D_putloglaw07_one_L3 N p q r s l N 0 = some (.inl ()) := by
  obtain ⟨n, hn⟩ : ∃ n, N = n + 1 + 1 + 1 := ⟨N - 3, by omega⟩
  have e1 := one_L3s hN l p q r s p q (x := 0) (by omega) (by omega) rfl (n + 1 + 1)
  have e2 := one_L3s hN l p q r s (r - 10) (s - 10) (x := 0 + 1) (by omega) (by omega) rfl (n + 1)
  have e3 : D_putloglaw07_one_L3 N p q r s l (n + 1) (0 + 1 + 1) = some (.inl ()) := by rw [D_putloglaw07_one_L3, decide_eq_false (by omega), cF]
  rw [← hn] at e1
  rw [e1, e2, e3]
theorem one_t {l : List Pt} (hl : l.length ≤ 9) {p q i k dx dy : Int} (hp : I64 p) (hq : I64 q) (hi : I64 i) (hk : I64 k) (hx : I64 dx) (hy : I64 dy) : D_putloglaw07_one N l p q i k dx dy = some true := by
  unfold D_putloglaw07_one
  obtain ⟨⟨m1, m2⟩, e1, e2⟩ := mom_same (N := N) (by omega) l
  obtain ⟨⟨t1, t2⟩, e3, e4⟩ := lat_same (N := N) (by omega) l
  obtain ⟨ar, e5, e6⟩ := area_same (N := N) (by omega) l
  have px := @pk_bd dx 21 (by omega)
  have py := @pk_bd dy 21 (by omega)
  rw [e1, bS]
  simp only
  rw [e2, bS]
  simp only
  rw [e3, bS]
  simp only
  rw [e4, bS]
  simp only
  rw [valid_eq (by omega), bS, rvalid_eq (by omega), bS, e5, e6, gd_of (fun _ => Option.isSome_some), gd_of (fun _ => Option.isSome_some), cF' _ (by simp), lpickX_eq hp (by omega), bS, lpickX_eq hq (by omega), bS, one_L1 hN, bS]
  simp only
  rw [gd_of (by unfold I64; omega), lpickX_eq hi (by omega), bS, gd_of (by unfold I64; omega), lpickX_eq hk (by omega), bS, one_L2 hN, bS]
  simp only
  rw [lpickX_eq hx (by omega), bS, gd_of (by unfold I64; omega), lpickX_eq hy (by omega), bS, gd_of (by unfold I64; omega), one_L3 hN, bS]
theorem two_t (a b : List Pt) : D_putloglaw07_two N a b = some true := by
  unfold D_putloglaw07_two
  obtain ⟨⟨⟨⟨s1, s2⟩, ⟨s3, s4⟩⟩, s5⟩, e1, e2⟩ := seam_same hN a b
  obtain ⟨⟨d1, d2, d3⟩, e3, e4⟩ := side_same hN a b
  obtain ⟨o, e5, e6⟩ := over_same hN a b
  rw [e1, bS]
  simp only
  rw [e2, bS]
  simp only
  rw [e3, bS]
  simp only
  rw [e4, bS]
  simp only
  rw [e5, bS, e6, bS]
  simp
theorem law_L1s {a b c d : List Pt} {p q i k dx dy : Int} (hp : I64 p) (hq : I64 q) (hi : I64 i) (hk : I64 k) (hx : I64 dx) (hy : I64 dy) {x : Int} (h4 : x < 4) (h0 : 0 ≤ x) {l : List Pt} (hn : nth [a, b, c, d.take ((min (d.length : Int) 9).toNat - 0)] x = some l) (hl : l.length ≤ 9) (n : Nat) :
    D_putloglaw07_PlaneMatchesReference_L1 N a b c d p q i k dx dy (n + 1) x = D_putloglaw07_PlaneMatchesReference_L1 N a b c d p q i k dx dy n (x + 1) := by
  rw [D_putloglaw07_PlaneMatchesReference_L1, decide_eq_true h4, cT, hn, bS, one_t hN hl hp hq hi hk hx hy, bS, two_t hN, two_t hN, gd_of (fun _ => Option.isSome_some), gd_of (fun _ => Option.isSome_some), cF' _ (by rfl), gd_of (by unfold I64; omega)]
end
theorem pureMatches (x y : List Pt) (how : Int) (raw odd : List Pt) (b1 b2 b3 p q i k dx dy : Int) (hx : In2 x) (hy : In2 y) (h0 : I64 how) (hraw : In2 raw) (hodd : In2 odd) (g1 : I64 b1) (g2 : I64 b2) (g3 : I64 b3) (hp : I64 p) (hq : I64 q) (hi : I64 i) (hk : I64 k) (hdx : I64 dx) (hdy : I64 dy) : D_putloglaw07_PlaneMatchesReference 2000 x y how raw odd b1 b2 b3 p q i k dx dy = some true := by
  unfold D_putloglaw07_PlaneMatchesReference
  obtain ⟨a, b, eP, ha, hb⟩ := pair_ok (N := 2000) (by omega) (by omega) hx hy h0
  have a3 := ha.l3
  have a8 := ha.l8
  have b8 := hb.l8
  have hsane : D_putloglaw07_sane 2000 = some true := by decide +kernel
  obtain ⟨c, eB, c9⟩ := bent_ok (N := 2000) (l := a) (by omega) a8 g1 g3 (n := b2)
  rw [hsane, bS, cF' _ (by rfl), eP, bS]
  simp only
  rw [gd_of (by omega), gd_of (by omega), eB, bS]
  have hL : D_putloglaw07_PlaneMatchesReference_L1 2000 a b c raw p q i k dx dy 2000 0 = some (.inl ()) := by
    rw [law_L1s (by omega) hp hq hi hk hdx hdy (by omega) (by omega) (l := a) rfl (by omega) 1999,
      law_L1s (by omega) hp hq hi hk hdx hdy (by omega) (by omega) (l := b) rfl (by omega) 1998,
      law_L1s (by omega) hp hq hi hk hdx hdy (by omega) (by omega) (l := c) rfl (by omega) 1997,
      law_L1s (by omega) hp hq hi hk hdx hdy (by omega) (by omega) (l := raw.take ((min (raw.length : Int) 9).toNat - 0)) rfl (by rw [List.length_take]; omega) 1996,
      D_putloglaw07_PlaneMatchesReference_L1, decide_eq_false (by omega), cF]
  rw [hL, bS]
  simp only
  rw [two_t (by omega), two_t (by omega), gd_of (fun _ => Option.isSome_some), gd_of (fun _ => Option.isSome_some)]
  rfl
end Go.Proofs.Ytojciffnkbfbhaa.Am
