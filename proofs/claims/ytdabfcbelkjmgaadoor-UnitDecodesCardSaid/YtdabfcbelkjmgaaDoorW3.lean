import Derived.Test.YtdabfcbelkjmgaaDoorW2
import Derived.Test.YtdabfcbelkjmgaaDoorL6
/-
  UnitDecodes.
-/
namespace Go.Proofs.YtdabfcbelkjmgaaDoor.Am
set_option linter.unusedSimpArgs false
set_option linter.unusedVariables false
theorem usame_eq {N : Nat} {a b c a' b' c' : Int} {l l' : List Pt} {p q p' q' : Int} (hl : l.length < N) (hN : N ≤ 100000) : D_putlogref08_Same N a b c l p q a' b' c' l' p' q' = some (decide ((a, b, c, l, p, q) = (a', b', c', l', p', q'))) := by
  unfold D_putlogref08_Same
  by_cases h : a = a' ∧ b = b' ∧ c = c' ∧ p = p' ∧ q = q' ∧ l.length = l'.length
  · obtain ⟨rfl, rfl, rfl, rfl, rfl, hlen⟩ := h
    rw [cF' _ (by simp [hlen])]
    let f : Nat → Option Bool := fun i => if pa l i = pa l' i then none else some false
    have step : ∀ n (k : Nat), k < l.length → D_putlogref08_Same_L1 N l l' (n + 1) k = (match f k with | some r => some (.inr r) | none => D_putlogref08_Same_L1 N l l' n ((k + 1 : Nat) : Int)) := fun n k hk => by
      rw [D_putlogref08_Same_L1, dlt hk, cT, nth_pa hk, bS]
      simp only
      rw [nth_pa (by omega), bS]
      simp only
      by_cases e : pa l k = pa l' k
      · rw [cF' _ (by simp [e]), show f k = none from if_pos e, gd_of (by unfold I64; omega), ns]
      · rw [cT' _ (by
          rw [Bool.not_eq_true', Bool.and_eq_false_iff]
          simp only [decide_eq_false_iff_not]
          by_cases h1 : (pa l k).1 = (pa l' k).1
          · exact .inr fun h2 => e (Prod.ext h1 h2)
          · exact .inl h1), show f k = some false from if_neg e]
    have F := find0 (L := D_putlogref08_Same_L1 N l l') (len := l.length) f (fun n k hk e => by rw [step n k hk, e]) (fun n k r hk e => by rw [step n k hk, e]) (fun n => by rw [D_putlogref08_Same_L1, dge, cF]) N (by omega)
    rcases F with ⟨e, hf⟩ | ⟨j, r, hj, hf, _, e⟩
    · rw [e, bS]
      have : l = l' := List.ext_getElem hlen fun i h1 h2 => by
        have := hf i h1
        by_cases hp : pa l i = pa l' i
        · rw [pa_get h1, pa_get h2] at hp; exact hp
        · rw [show f i = some false from if_neg hp] at this; cases this
      subst this
      simp
    · rw [e, bS]
      have hne : ¬ l = l' := fun e => by
        subst e
        rw [show f j = none from if_pos rfl] at hf
        cases hf
      by_cases hp : pa l j = pa l' j
      · rw [show f j = none from if_pos hp] at hf; cases hf
      · rw [show f j = some false from if_neg hp] at hf
        cases hf
        simp [hne]
  · rw [cT' _ (by
      simp only [Bool.or_eq_true, decide_eq_true_eq]
      by_cases h1 : a = a'
      · by_cases h2 : b = b'
        · by_cases h3 : c = c'
          · by_cases h4 : p = p'
            · by_cases h5 : q = q'
              · exact .inr fun h6 => h ⟨h1, h2, h3, h4, h5, by omega⟩
              · exact .inl (.inr h5)
            · exact .inl (.inl (.inr h4))
          · exact .inl (.inl (.inl (.inr h3)))
        · exact .inl (.inl (.inl (.inl (.inr h2))))
      · exact .inl (.inl (.inl (.inl (.inl h1)))))]
    congr 1
    symm
    refine decide_eq_false fun e => h ?_
    simp only [Prod.mk.injEq] at e
    obtain ⟨rfl, rfl, rfl, rfl, rfl, rfl⟩ := e
    simp
theorem uenc_t {N : Nat} (hN : 100 ≤ N) {a b c : Int} {l : List Pt} {p q : Int} (h : UP a b c l p q) : D_unit_Encode N a b c l p q = some (encS a b c l p q, 0) := by
  have := h.l.l8
  unfold D_unit_Encode
  rw [uvalid_t hN h, bS, gd_of (by omega)]
  rfl
theorem udec_eq {N : Nat} (hN : 100 ≤ N) {s : List UInt8} (hs : s.length ≤ 1000000000) : D_unit_Decode N s = some (match decS s with | some x => (x, 0) | none => ((0, 0, 0, [], 0, 0), 80)) := by
  unfold D_unit_Decode
  rw [decP_eq hN hs]
  rfl
theorem enc_len {a b c : Int} {l : List Pt} {p q : Int} (h : UP a b c l p q) : 0 < (encS a b c l p q).length ∧ (encS a b c l p q).length ≤ 1000 := by
  have l8 := h.l.l8
  have h1 := ptS_len l
  have h2 := numS_len [a, b, c, p, q, (l.length : Int)]
  have h3 := putS_ne (n := a) (by have := h.a; omega) (by have := h.a; omega)
  have h4 : 0 < (putS a).length := List.length_pos_iff.2 h3
  have h5 : (putS a).length ≤ (numS [a, b, c, p, q, (l.length : Int)]).length := by simp [numS]
  unfold encS headS
  rw [List.length_append]
  simp only [List.length_cons, List.length_nil] at h2
  omega
/-- What can be decoded is encoded so. -/
theorem dec_round {N : Nat} (hN : 100 ≤ N) (hNb : N ≤ 4000) (z1 z2 : List UInt8) {k c13 : Int} {s text : List UInt8} (e : [((s.take k.toNat) ++ [UInt8.ofNat c13.toNat]) ++ (s.drop (k + 1).toNat), text.take (min (text.length : Int) 60).toNat] = [z1, z2]) (h1 : z1.length ≤ 1000000) (h2 : z2.length ≤ 1000000) :
    D_putloglaw08_UnitDecodes_L1 N s k c13 text N 0 = some (.inl ()) := by
  have step : ∀ n (j : Nat), j < 2 → D_putloglaw08_UnitDecodes_L1 N s k c13 text (n + 1) j = D_putloglaw08_UnitDecodes_L1 N s k c13 text n ((j + 1 : Nat) : Int) := fun n j hj => by
    rw [D_putloglaw08_UnitDecodes_L1, decide_eq_true (by omega), cT, e]
    obtain ⟨z, hz, hzl⟩ : ∃ z, nth [z1, z2] (j : Int) = some z ∧ z.length ≤ 1000000 := by
      obtain rfl | rfl : j = 0 ∨ j = 1 := by omega
      · exact ⟨z1, rfl, h1⟩
      · exact ⟨z2, rfl, h2⟩
    rw [hz, bS, udec_eq hN (by omega), bS]
    cases hd : decS z with
    | none =>
      simp only
      rw [cT' _ (by rfl), gd_of (by unfold I64; omega), ns]
    | some x =>
      obtain ⟨a, b, c, l, p, q⟩ := x
      obtain ⟨hu, rfl⟩ := decS_some hd
      simp only
      rw [cF' _ (by rfl), uenc_t hN hu, bS]
      simp only
      rw [uvalid_t hN hu, gd_t (fun _ => Option.isSome_some), cF' _ (by simp), gd_of (by unfold I64; omega), ns]
  obtain ⟨m, rfl⟩ : ∃ m, N = m + 1 + 1 + 1 := ⟨N - 3, by omega⟩
  have s0 := step (m + 1 + 1) 0 (by omega)
  have s1 := step (m + 1) 1 (by omega)
  rw [Int.natCast_zero] at s0
  rw [s0, s1, D_putloglaw08_UnitDecodes_L1, cF' _ (by rfl)]
theorem pureDecodes (x y : List Pt) (how p0 p1 p2 p3 q0 q1 q2 q3 at' c : Int) (text : List UInt8) (hx : In2 x) (hy : In2 y) (h0 : I64 how) (g0 : I64 p0) (g1 : I64 p1) (g2 : I64 p2) (g3 : I64 p3) (f0 : I64 q0) (f1 : I64 q1) (f2 : I64 q2) (f3 : I64 q3) (k0 : I64 at') (_ : 0 ≤ c ∧ c ≤ 255) (_ : text.length ≤ Go.maxLen) : D_putloglaw08_UnitDecodes 2000 x y how p0 p1 p2 p3 q0 q1 q2 q3 at' c text = some true := by
  unfold D_putloglaw08_UnitDecodes
  obtain ⟨a, b, cc, l, p, q, a', b', c', l', p', q', e, u, u'⟩ := pair8_ok (N := 2000) (by omega) (by omega) hx hy h0 g0 g1 g2 g3 f0 f1 f2 f3
  have hsane : D_putloglaw08_sane 2000 = some true := by decide +kernel
  have l8 := u.l.l8
  have l8' := u'.l.l8
  obtain ⟨n0, n1⟩ := enc_len u
  obtain ⟨m0, m1⟩ := enc_len u'
  have pre1 := fun w => enc_pre u u' (w := w)
  have pre2 := fun w => enc_pre u' u (w := w)
  rw [hsane, bS, cF' _ (by rfl), e, bS]
  simp only
  rw [uenc_t (by omega) u, uenc_t (by omega) u', bS]
  simp only
  rw [bS]
  simp only
  rw [udec_eq (by omega) (show (encS a b cc l p q).length ≤ 1000000000 by omega), decS_enc u, bS]
  simp only
  rw [usame_eq (N := 2000) (l := l) (l' := l) (by omega) (by omega), usame_eq (N := 2000) (l := l) (l' := l') (by omega) (by omega), gd_t (fun _ => Option.isSome_some), gd_t (fun _ => Option.isSome_some)]
  have inj : (encS a b cc l p q = encS a' b' c' l' p' q') ↔ (a, b, cc, l, p, q) = (a', b', c', l', p', q') := by
    constructor
    · intro h
      exact (pre1 [] (by rw [List.append_nil]; exact h)).1
    · intro h
      simp only [Prod.mk.injEq] at h
      obtain ⟨rfl, rfl, rfl, rfl, rfl, rfl⟩ := h
      rfl
  generalize encS a b cc l p q = s at *
  generalize encS a' b' c' l' p' q' = t at *
  rw [cF' _ (by
    simp only [Option.getD_some, decide_true, Bool.not_true, Bool.or_false, decide_eq_true_eq, ne_eq, not_true_eq_false, decide_false, Bool.false_or, Bool.or_eq_false_iff, bne_eq_false_iff_eq]
    refine ⟨decide_eq_false (by omega), ?_⟩
    rw [decide_eq_decide]; exact inj)]
  rw [gd_t (fun h => ⟨by omega, by simpa using h⟩), gd_t (fun h => ⟨by omega, by simpa using h⟩)]
  rw [cF' _ (by
    by_cases hst : s = t
    · rw [decide_eq_true hst]; rfl
    · have a1 : ∀ (h : s.length ≤ t.length), ¬ t.take s.length = s := fun h he => hst (by
        have := pre1 (t.drop s.length) (by have := List.take_append_drop s.length t; rw [he] at this; exact this)
        exact inj.2 this.1)
      have a2 : ∀ (h : t.length ≤ s.length), ¬ s.take t.length = t := fun h he => hst (by
        have := pre2 (s.drop t.length) (by have := List.take_append_drop t.length s; rw [he] at this; exact this)
        exact inj.2 this.1.symm)
      rw [decide_eq_false hst]
      simp only [Bool.not_false, Bool.true_and, Bool.or_eq_false_iff, Bool.and_eq_false_iff, decide_eq_false_iff_not, Int.toNat_natCast]
      refine ⟨?_, ?_⟩
      · by_cases h : s.length ≤ t.length
        · exact .inr (a1 h)
        · exact .inl (by omega)
      · by_cases h : t.length ≤ s.length
        · exact .inr (a2 h)
        · exact .inl (by omega))]
  have b1 := @pk_bd at' s.length (by omega)
  rw [lpick_eq k0 (by omega), bS]
  generalize pk at' s.length = k at *
  have tl : (s.take k.toNat).length ≤ 1000 := by rw [List.length_take]; omega
  have dl : (s.drop (k + 1).toNat).length ≤ 1000 := by rw [List.length_drop]; omega
  rw [gd_of (by omega), gd_of (by simp only [List.length_append, List.length_cons, List.length_nil]; omega), gd_of (by unfold I64; omega), gd_of (by omega), gd_of (by simp only [List.length_append, List.length_cons, List.length_nil]; omega), gd_of (by omega)]
  rw [dec_round (N := 2000) (by omega) (by omega) _ _ rfl (by simp only [List.length_append, List.length_cons, List.length_nil]; omega) (by rw [List.length_take]; omega), bS]
end Go.Proofs.YtdabfcbelkjmgaaDoor.Am
