import Derived.Test.YtdabfcbelkjmgaaDoorU3
import Derived.Test.YtdabfcbelkjmgaaDoorMB
import Derived.Test.YtdabfcbelkjmgaaDoorL3
/-
  UnitMoves.
-/
namespace Go.Proofs.YtdabfcbelkjmgaaDoor.Am
set_option linter.unusedSimpArgs false
set_option linter.unusedVariables false
open Classical in
theorem umove_eq {N : Nat} (hN : 100 ≤ N) {a b c : Int} {l : List Pt} {p q : Int} (h : UP a b c l p q) {d : Pt} (hd : mvOK d) :
    D_unit_Move N a b c l p q d.1 d.2 = some (if ∀ x ∈ l, On (mv d x) then ((a, b, c, l.map (mv d), p, q), 0) else ((0, 0, 0, [], 0, 0), 80)) := by
  unfold D_unit_Move
  rw [move_eq hN h.l hd, uvalid_t hN h]
  by_cases ho : ∀ x ∈ l, On (mv d x)
  · rw [if_pos ho, if_pos ho, bS]
    simp only
    rw [gd_t (fun _ => Option.isSome_some), cF' _ (by rfl)]
  · rw [if_neg ho, if_neg ho, bS]
    simp only
    rw [gd_t (fun _ => Option.isSome_some), cT' _ (by rfl)]
theorem same_loop8 (N : Nat) {l : List Pt} (hl : l.length ≤ 1000) : ∀ (n i : Nat), i ≤ l.length → l.length < n + i → D_putlogref08_Same_L1 N l l n i = some (.inl ())
  | 0, i, hi, hn => by omega
  | n + 1, i, hi, hn => by
    rw [D_putlogref08_Same_L1]
    by_cases he : i = l.length
    · subst he; rw [dge, cF]
    have hi' : i < l.length := by omega
    rw [dlt hi', cT, nth_pa hi', bS]
    simp only
    rw [bS]
    simp only
    rw [cF' _ (by simp), gd_of (by unfold I64; omega), ← ns, same_loop8 N hl n (i + 1) (by omega) (by omega)]
theorem usame_refl {N : Nat} (hN : 100 ≤ N) {a b c : Int} {l : List Pt} {p q : Int} (hl : l.length ≤ 8) : D_putlogref08_Same N a b c l p q a b c l p q = some true := by
  unfold D_putlogref08_Same
  have := same_loop8 N (l := l) (by omega) N 0 (by omega) (by omega)
  rw [Int.natCast_zero] at this
  rw [cF' _ (by simp), this, bS]
theorem mv_touch {a a' : Int} {l l' : List Pt} {p q p' q' : Int} (d : Pt) : touchS a a' (l.map (mv d)) (l'.map (mv d)) p q p' q' = (bif (touchS a a' l l' p q p' q').2 then (((touchS a a' l l' p q p' q').1.1, (touchS a a' l l' p q p' q').1.2.1, mv2 d (touchS a a' l l' p q p' q').1.2.2.1, (touchS a a' l l' p q p' q').1.2.2.2), true) else (con0, false)) := by
  unfold touchS
  by_cases hc : max p p' < min q q'
  · rw [if_pos hc, if_pos hc]
    unfold seamS
    by_cases hap : apart l l'
    · rw [if_pos hap, if_pos ((mv_apart d l l').2 hap), mv_seam1]
      cases seam1 l l' <;> rfl
    · rw [if_neg hap, if_neg fun h => hap ((mv_apart d l l').1 h)]
      rfl
  · rw [if_neg hc, if_neg hc]
    rfl
theorem touch_f {a a' : Int} {l l' : List Pt} {p q p' q' : Int} (h : (touchS a a' l l' p q p' q').2 = false) : touchS a a' l l' p q p' q' = (con0, false) := by
  unfold touchS at h ⊢
  by_cases hc : max p p' < min q q'
  · rw [if_pos hc] at h ⊢
    cases hs : (seamS l l').2 with
    | true => rw [hs] at h; cases h
    | false => rfl
  · rw [if_neg hc]
theorem touch_sml {a a' : Int} {l l' : List Pt} {p q p' q' : Int} (hl : VP l) (hl' : VP l') : Sml (touchS a a' l l' p q p' q').1.2.2.1.1 ∧ Sml (touchS a a' l l' p q p' q').1.2.2.1.2 := by
  have z : Sml ((0 : Int), (0 : Int)) := by unfold Sml; simp only; omega
  unfold touchS
  by_cases hc : max p p' < min q q'
  · rw [if_pos hc]
    unfold seamS
    by_cases hap : apart l l'
    · rw [if_pos hap]
      cases h : seam1 l l' with
      | none => exact ⟨z, z⟩
      | some s =>
        obtain ⟨j, t, hj, ht, hcd⟩ := seam1_some h
        have ho := on_seam hl hl' hj ht hcd
        exact ⟨ho.1.sml, ho.2.sml⟩
    · rw [if_neg hap]; exact ⟨z, z⟩
  · rw [if_neg hc]; exact ⟨z, z⟩

open Classical in
theorem pureMoves (x y : List Pt) (how p0 p1 p2 p3 q0 q1 q2 q3 dx dy : Int) (hx : In2 x) (hy : In2 y) (h0 : I64 how) (g0 : I64 p0) (g1 : I64 p1) (g2 : I64 p2) (g3 : I64 p3) (f0 : I64 q0) (f1 : I64 q1) (f2 : I64 q2) (f3 : I64 q3) (k0 : I64 dx) (k1 : I64 dy) : D_putloglaw08_UnitMoves 2000 x y how p0 p1 p2 p3 q0 q1 q2 q3 dx dy = some true := by
  unfold D_putloglaw08_UnitMoves
  obtain ⟨a, b, c, l, p, q, a', b', c', l', p', q', e, u, u'⟩ := pair8_ok (N := 2000) (by omega) (by omega) hx hy h0 g0 g1 g2 g3 f0 f1 f2 f3
  have hsane : D_putloglaw08_sane 2000 = some true := by decide +kernel
  have b1 := @pk_bd dx 13 (by omega)
  have b2 := @pk_bd dy 13 (by omega)
  have l8 := u.l.l8
  have l3 := u.l.l3
  rw [hsane, bS, cF' _ (by rfl), e, bS]
  simp only
  rw [lpick_eq k0 (by omega), bS, gd_of (by unfold I64; omega), lpick_eq k1 (by omega), bS, gd_of (by unfold I64; omega)]
  have c1 : -6 ≤ pk dx 13 - 6 ∧ pk dx 13 - 6 ≤ 6 := by omega
  have c2 : -6 ≤ pk dy 13 - 6 ∧ pk dy 13 - 6 ≤ 6 := by omega
  clear b1 b2
  generalize pk dx 13 - 6 = s at *
  generalize pk dy 13 - 6 = t at *
  have hd : mvOK (s, t) := by unfold mvOK; simp only; omega
  have mA := umove_eq (N := 2000) (by omega) u hd
  have mB := umove_eq (N := 2000) (by omega) u' hd
  have nA := move_eq (N := 2000) (by omega) u.l hd
  have nB := move_eq (N := 2000) (by omega) u'.l hd
  simp only at mA mB nA nB
  rw [mA, mB, nA, nB]
  by_cases oA : ∀ x ∈ l, On (mv (s, t) x)
  · by_cases oB : ∀ x ∈ l', On (mv (s, t) x)
    · have uA : UP a b c (l.map (mv (s, t))) p q := ⟨u.a, u.b, u.c, u.d, mv_vp _ u.l oA⟩
      have uB : UP a' b' c' (l'.map (mv (s, t))) p' q' := ⟨u'.a, u'.b, u'.c, u'.d, mv_vp _ u'.l oB⟩
      have hd2 : mvOK (-s, -t) := by unfold mvOK; simp only; omega
      have mC := umove_eq (N := 2000) (by omega) uA hd2
      have hb := mv_back (s, t) l
      simp only at mC hb
      have oC : ∀ x ∈ l.map (mv (s, t)), On (mv (-s, -t) x) := fun x hx => by
        have : mv (-s, -t) x ∈ (l.map (mv (s, t))).map (mv (-s, -t)) := List.mem_map.2 ⟨x, hx, rfl⟩
        rw [hb] at this
        exact u.l.on _ this
      rw [if_pos oC, hb] at mC
      have hsm := @touch_sml a a' l l' p q p' q' u.l u'.l
      have w1 := u.d
      have w2 := den_bd u.c
      have ha := area_b u.l
      have hm := (mom_b u.l).1
      have v1 := mul_bd ha (y := q - p) (B := 8) (by omega) (by omega)
      have v2 := mul_bd (x := 3 * (areaS l * (q - p))) (A := 400000000) (y := den c) (B := 10) (by omega) (by omega) (by omega)
      have v3 := mul_bd hm (y := q - p) (B := 8) (by omega) (by omega)
      have v4 := mul_bd (x := momX l * (q - p)) (A := 170000000000) (y := den c) (B := 10) (by omega) (by omega) (by omega)
      have v5 : -(4000000000 * 12) ≤ (3 * (areaS l * (q - p)) * den c) * (s + 6) ∧ (3 * (areaS l * (q - p)) * den c) * (s + 6) ≤ 4000000000 * 12 := mul_bd (x := 3 * (areaS l * (q - p)) * den c) (A := 4000000000) (y := s + 6) (B := 12) (by omega) (by omega) (by omega)
      have v6 : s * (3 * (areaS l * (q - p)) * den c) = (3 * (areaS l * (q - p)) * den c) * (s + 6) - 6 * (3 * (areaS l * (q - p)) * den c) := by grind
      have hmo : (momX l + 3 * s * areaS l) * (q - p) * den c = momX l * (q - p) * den c + s * (3 * (areaS l * (q - p)) * den c) := by grind
      have hx' : momX (l.map (mv (s, t))) = momX l + 3 * s * areaS l := mv_momX (s, t) (l := l) (by omega)
      have ha' := mv_area (s, t) (l := l) (by omega)
      rw [if_pos oA, if_pos oB, bS]
      simp only
      rw [bS]
      simp only
      rw [cF' _ (by rfl), utouch_eq (by omega) u u', utouch_eq (by omega) uA uB, mv_touch, bS]
      try simp only
      rw [bS]
      try simp only
      rw [mC, vol_eq (by omega) u, vol_eq (by omega) uA, weight_eq (by omega) u, weight_eq (by omega) uA, moment_eq (by omega) u, moment_eq (by omega) uA, uoverlap_eq (by omega) u u', uoverlap_eq (by omega) uA uB, mv_side, ha', hx', hmo]
      have hTf := @touch_f a a' l l' p q p' q'
      generalize touchS a a' l l' p q p' q' = T at *
      obtain ⟨⟨t1, t2, ⟨⟨z1, z2⟩, ⟨z3, z4⟩⟩, t5, t6⟩, tb⟩ := T
      simp only at hsm hTf ⊢
      unfold Sml at hsm
      simp only at hsm
      cases tb with
      | true =>
        rw [cT' _ (by rfl), gd_of (by unfold I64; omega), gd_of (by unfold I64; omega), gd_of (by unfold I64; omega), gd_of (by unfold I64; omega), bS]
        try simp only
        rw [gd_of (by unfold I64; omega), gd_of (by unfold I64; omega), bS]
        try simp only
        rw [usame_refl (by omega) (by omega)]
        rw [gd_t (fun _ => Option.isSome_some), gd_t (fun _ => Option.isSome_some), gd_t (fun _ => Option.isSome_some), gd_t (fun _ => Option.isSome_some), gd_t (fun _ => Option.isSome_some), gd_t (fun _ => Option.isSome_some), gd_t (fun _ => Option.isSome_some), gd_t (fun _ => Option.isSome_some)]
        rw [gd_t (fun _ => by rw [Option.getD_some]; unfold I64; omega), gd_t (fun _ => by rw [Option.getD_some, Option.getD_some]; unfold I64; omega), gd_t (fun _ => Option.isSome_some), gd_t (fun _ => Option.isSome_some)]
        simp only [Option.getD_some, decide_true, Bool.and_true, Bool.true_and, beq_self_eq_true, cond_true, cond_false, mv2, mv, con0]
      | false =>
        have hT := hTf rfl
        unfold con0 at hT
        injection hT with hT _
        injection hT with e1 hT
        injection hT with e2 hT
        injection hT with hT e3
        injection e3 with e5 e6
        injection hT with hT1 hT2
        injection hT1 with y1 y2
        injection hT2 with y3 y4
        subst e1 e2 e5 e6 y1 y2 y3 y4
        rw [cF' _ (by rfl), bS]
        try simp only
        rw [gd_of (by unfold I64; omega), gd_of (by unfold I64; omega), bS]
        try simp only
        rw [usame_refl (by omega) (by omega)]
        rw [gd_t (fun _ => Option.isSome_some), gd_t (fun _ => Option.isSome_some), gd_t (fun _ => Option.isSome_some), gd_t (fun _ => Option.isSome_some), gd_t (fun _ => Option.isSome_some), gd_t (fun _ => Option.isSome_some), gd_t (fun _ => Option.isSome_some), gd_t (fun _ => Option.isSome_some)]
        rw [gd_t (fun _ => by rw [Option.getD_some]; unfold I64; omega), gd_t (fun _ => by rw [Option.getD_some, Option.getD_some]; unfold I64; omega), gd_t (fun _ => Option.isSome_some), gd_t (fun _ => Option.isSome_some)]
        simp only [Option.getD_some, decide_true, Bool.and_true, Bool.true_and, beq_self_eq_true, cond_true, cond_false, mv2, mv, con0]
    · rw [if_pos oA, if_neg oB, if_pos oA, if_neg oB, bS]
      simp only
      rw [bS]
      simp only
      rw [cT' _ (by rfl), bS]
      simp only
      rw [bS]
      rfl
  · by_cases oB : ∀ x ∈ l', On (mv (s, t) x)
    · rw [if_neg oA, if_pos oB, if_neg oA, if_pos oB, bS]
      simp only
      rw [bS]
      simp only
      rw [cT' _ (by rfl), bS]
      simp only
      rw [bS]
      rfl
    · rw [if_neg oA, if_neg oB, if_neg oA, if_neg oB, bS]
      simp only
      rw [bS]
      simp only
      rw [cT' _ (by rfl), bS]
      simp only
      rw [bS]
      rfl
end Go.Proofs.YtdabfcbelkjmgaaDoor.Am
