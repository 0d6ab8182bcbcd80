import Derived.Test.YtdabfcbelkjmgaaDoorP9
import Derived.Test.YtdabfcbelkjmgaaDoorW1
import Derived.Test.YtdabfcbelkjmgaaDoorU1
/-
  unit: what is encoded can be decoded, what is decoded was encoded so.
-/
namespace Go.Proofs.YtdabfcbelkjmgaaDoor.Am
set_option linter.unusedSimpArgs false
set_option linter.unusedVariables false
def prs : List Int → List Pt
  | x :: y :: r => (x, y) :: prs r
  | _ => []
def fl : List Pt → List Int
  | [] => []
  | p :: l => p.1 :: p.2 :: fl l
theorem prs_fl : ∀ l : List Pt, prs (fl l) = l
  | [] => rfl
  | p :: l => by simp only [fl, prs, prs_fl l]
theorem fl_len : ∀ l : List Pt, (fl l).length = 2 * l.length
  | [] => rfl
  | p :: l => by simp only [fl, List.length_cons, fl_len l]; omega
theorem fl_prs : ∀ (k : Nat) (xs : List Int), xs.length = 2 * k → fl (prs xs) = xs ∧ (prs xs).length = k
  | 0, [], _ => ⟨rfl, rfl⟩
  | 0, _ :: _, h => by simp at h
  | k + 1, [], h => by simp at h
  | k + 1, [_], h => by simp at h; omega
  | k + 1, x :: y :: r, h => by
    obtain ⟨h1, h2⟩ := fl_prs k r (by simp at h; omega)
    simp only [prs, fl, h1, List.length_cons, h2]
    exact ⟨trivial, trivial⟩
theorem ptS_fl : ∀ l : List Pt, ptS l = numS (fl l)
  | [] => rfl
  | p :: l => by
    have := ptS_fl l
    simp only [ptS, numS, fl, List.map_cons, List.flatten_cons, List.map_nil, List.flatten_nil, List.append_nil, List.append_assoc] at this ⊢
    rw [this]
open Classical in
/-- What bytes say. -/
noncomputable def decS (s : List UInt8) : Option (Int × Int × Int × List Pt × Int × Int) := (rdN 6 s).bind fun hr => match hr.1 with
  | [a, b, c, f, g, n] => if 3 ≤ n ∧ n ≤ 8 then (rdN (2 * n.toNat) hr.2).bind fun xr => if xr.2 = [] ∧ UP a b c (prs xr.1) f g then some (a, b, c, prs xr.1, f, g) else none else none
  | _ => none
theorem dN_eq {N : Nat} (hN : 10 ≤ N) {s : List UInt8} {p : Nat} (hs : s.length ≤ 1000000000) (hp : p ≤ s.length) : dN N s p = some ((rdI (s.drop p)).map fun nm => (nm.1, ((p + nm.2 : Nat) : Int))) := by
  unfold dN
  rw [int_eq hN hs hp]
  cases rdI (s.drop p) with
  | none => rfl
  | some nm => rfl
theorem rdI_pos {s : List UInt8} {p : Nat} {n : Int} {m : Nat} (hp : p ≤ s.length) (h : rdI (s.drop p) = some (n, m)) : p + m ≤ s.length := by
  have := (rdI_some h).2.2.1
  rw [List.length_drop] at this
  omega
theorem dP_eq {N : Nat} (hN : 10 ≤ N) {s : List UInt8} (hs : s.length ≤ 1000000000) : ∀ (k p : Nat) (l : List Pt), p ≤ s.length → dP N s k p l = some ((rdN (2 * k) (s.drop p)).map fun xr => (l ++ prs xr.1, ((s.length - xr.2.length : Nat) : Int)))
  | 0, p, l, hp => by
    simp only [dP, Nat.mul_zero, rdN, Option.map_some, prs, List.append_nil, List.length_drop]
    rw [show s.length - (s.length - p) = p by omega]
  | k + 1, p, l, hp => by
    simp only [dP]
    rw [dN_eq hN hs hp, show 2 * (k + 1) = 2 * k + 1 + 1 by omega]
    simp only [rdN]
    cases h1 : rdI (s.drop p) with
    | none => rfl
    | some nm =>
      obtain ⟨n, m⟩ := nm
      have hp1 := rdI_pos hp h1
      simp only [Option.map_some, pb, Option.bind_some, List.drop_drop]
      rw [dN_eq hN hs hp1]
      cases h2 : rdI (s.drop (p + m)) with
      | none => rfl
      | some nm2 =>
        obtain ⟨n2, m2⟩ := nm2
        have hp2 := rdI_pos hp1 h2
        simp only [Option.map_some, pb, Option.bind_some, List.drop_drop]
        rw [dP_eq hN hs k (p + m + m2) _ hp2]
        cases rdN (2 * k) (s.drop (p + m + m2)) with
        | none => rfl
        | some xr => simp [prs]
theorem decP_eq {N : Nat} (hN : 100 ≤ N) {s : List UInt8} (hs : s.length ≤ 1000000000) : decP N s = some (decS s) := by
  unfold decP decS
  have h10 : 10 ≤ N := by omega
  have e0 := dN_eq h10 hs (Nat.zero_le s.length)
  rw [Int.natCast_zero, List.drop_zero] at e0
  rw [e0, show (6 : Nat) = 0 + 1 + 1 + 1 + 1 + 1 + 1 from rfl]
  simp only [rdN]
  cases h1 : rdI s with
  | none => rfl
  | some nm1 =>
  obtain ⟨a, m1⟩ := nm1
  have p1 := rdI_pos (Nat.zero_le s.length) (by rw [List.drop_zero]; exact h1)
  simp only [Option.map_some, pb, Option.bind_some, List.drop_drop]
  rw [Nat.zero_add] at p1 ⊢
  rw [dN_eq h10 hs p1]
  cases h2 : rdI (s.drop m1) with
  | none => rfl
  | some nm2 =>
  obtain ⟨b, m2⟩ := nm2
  have p2 := rdI_pos p1 h2
  simp only [Option.map_some, pb, Option.bind_some, List.drop_drop]
  rw [dN_eq h10 hs p2]
  cases h3 : rdI (s.drop (m1 + m2)) with
  | none => rfl
  | some nm3 =>
  obtain ⟨c, m3⟩ := nm3
  have p3 := rdI_pos p2 h3
  simp only [Option.map_some, pb, Option.bind_some, List.drop_drop]
  rw [dN_eq h10 hs p3]
  cases h4 : rdI (s.drop (m1 + m2 + m3)) with
  | none => rfl
  | some nm4 =>
  obtain ⟨f, m4⟩ := nm4
  have p4 := rdI_pos p3 h4
  simp only [Option.map_some, pb, Option.bind_some, List.drop_drop]
  rw [dN_eq h10 hs p4]
  cases h5 : rdI (s.drop (m1 + m2 + m3 + m4)) with
  | none => rfl
  | some nm5 =>
  obtain ⟨g, m5⟩ := nm5
  have p5 := rdI_pos p4 h5
  simp only [Option.map_some, pb, Option.bind_some, List.drop_drop]
  rw [dN_eq h10 hs p5]
  cases h6 : rdI (s.drop (m1 + m2 + m3 + m4 + m5)) with
  | none => rfl
  | some nm6 =>
  obtain ⟨n, m6⟩ := nm6
  have p6 := rdI_pos p5 h6
  simp only [Option.map_some, pb, Option.bind_some, List.drop_drop]
  by_cases hn : 3 ≤ n ∧ n ≤ 8
  · rw [if_pos hn, cT' _ (by simp [hn]), dP_eq h10 hs _ _ _ p6]
    cases h7 : rdN (2 * n.toNat) (s.drop (m1 + m2 + m3 + m4 + m5 + m6)) with
    | none => rfl
    | some xr =>
      obtain ⟨xs, r⟩ := xr
      obtain ⟨b1, _, _⟩ := rdN_some _ _ _ _ h7
      have hl : r.length ≤ s.length := by
        have := congrArg List.length b1
        rw [List.length_drop, List.length_append] at this
        omega
      simp only [Option.map_some, pb, Option.bind_some, List.nil_append]
      by_cases hr : r = []
      · subst hr
        rw [cF' _ (by simp), uvalid_eq hN, Option.bind_some]
        by_cases hu : UP a b c (prs xs) f g
        · rw [if_pos ⟨rfl, hu⟩, (up_iff.2 hu)]
          rfl
        · rw [if_neg fun h => hu h.2, show (headB a b c f g && vB (prs xs)) = false by rw [Bool.eq_false_iff]; exact fun h => hu (up_iff.1 h)]
          rfl
      · have : 0 < r.length := List.length_pos_iff.2 hr
        rw [cT' _ (by simp; omega), if_neg fun h => hr h.1]
  · rw [if_neg hn, cF' _ (by rw [Bool.and_eq_false_iff]; simp; omega)]
theorem up_wr {a b c : Int} {l : List Pt} {p q : Int} (h : UP a b c l p q) : (∀ n ∈ [a, b, c, p, q, (l.length : Int)], Wr n) ∧ ∀ n ∈ fl l, Wr n := by
  obtain ⟨h1, h2, h3, h4, h5⟩ := h
  have l8 := h5.l8
  constructor
  · intro n hn
    simp only [List.mem_cons, List.not_mem_nil, or_false] at hn
    unfold Wr
    rcases hn with rfl | rfl | rfl | rfl | rfl | rfl <;> omega
  · have key : ∀ l' : List Pt, (∀ p ∈ l', On p) → ∀ n ∈ fl l', Wr n := by
      intro l'
      induction l' with
      | nil => intro _ n hn; cases hn
      | cons p l' ih =>
        intro h n hn
        have hp := h p (by simp)
        unfold On at hp
        simp only [fl, List.mem_cons] at hn
        unfold Wr
        rcases hn with rfl | rfl | hn
        · omega
        · omega
        · exact ih (fun p hp => h p (by simp [hp])) n hn
    exact key l h5.on
theorem rdN_head {a b c : Int} {l : List Pt} {p q : Int} (h : UP a b c l p q) (w : List UInt8) : rdN 6 (encS a b c l p q ++ w) = some ([a, b, c, p, q, (l.length : Int)], numS (fl l) ++ w) := by
  have := rdN_num [a, b, c, p, q, (l.length : Int)] (numS (fl l) ++ w) (up_wr h).1
  unfold encS headS
  rw [ptS_fl, List.append_assoc]
  exact this
theorem rdN_pts {a b c : Int} {l : List Pt} {p q : Int} (h : UP a b c l p q) (w : List UInt8) : rdN (2 * (l.length : Int).toNat) (numS (fl l) ++ w) = some (fl l, w) := by
  have := rdN_num (fl l) w (up_wr h).2
  rw [fl_len] at this
  exact this
theorem decS_enc {a b c : Int} {l : List Pt} {p q : Int} (h : UP a b c l p q) : decS (encS a b c l p q) = some (a, b, c, l, p, q) := by
  have e := rdN_head h []
  have e2 := rdN_pts h []
  have l3 := h.l.l3
  have l8 := h.l.l8
  rw [List.append_nil] at e
  unfold decS
  rw [e, Option.bind_some]
  simp only
  rw [if_pos (by omega), e2, Option.bind_some]
  simp only
  rw [prs_fl, if_pos ⟨rfl, h⟩]
theorem decS_some {s : List UInt8} {a b c : Int} {l : List Pt} {p q : Int} (h : decS s = some (a, b, c, l, p, q)) : UP a b c l p q ∧ s = encS a b c l p q := by
  unfold decS at h
  obtain ⟨⟨hs, r⟩, h1, h⟩ := Option.bind_eq_some_iff.1 h
  simp only at h
  split at h
  · rename_i a' b' c' f' g' n
    split at h
    · rename_i hn
      obtain ⟨⟨xs, r'⟩, h2, h⟩ := Option.bind_eq_some_iff.1 h
      simp only at h
      split at h
      · rename_i hu
        obtain ⟨rfl, hu⟩ := hu
        simp only [Option.some.injEq, Prod.mk.injEq] at h
        obtain ⟨rfl, rfl, rfl, rfl, rfl, rfl⟩ := h
        obtain ⟨b1, b2, _⟩ := rdN_some _ _ _ _ h1
        obtain ⟨c1, c2, _⟩ := rdN_some _ _ _ _ h2
        obtain ⟨d1, d2⟩ := fl_prs _ _ c2
        refine ⟨hu, ?_⟩
        unfold encS headS
        rw [ptS_fl, d1, d2, b1, c1, List.append_nil, show ((n.toNat : Nat) : Int) = n by omega]
      · cases h
    · cases h
  · cases h
theorem enc_pre {a b c a' b' c' : Int} {l l' : List Pt} {p q p' q' : Int} (h : UP a b c l p q) (h' : UP a' b' c' l' p' q') {w : List UInt8} (e : encS a b c l p q ++ w = encS a' b' c' l' p' q') : (a, b, c, l, p, q) = (a', b', c', l', p', q') ∧ w = [] := by
  have e1 := rdN_head h w
  have e2 := rdN_head h' []
  rw [List.append_nil, ← e, e1] at e2
  simp only [Option.some.injEq, Prod.mk.injEq, List.cons.injEq, and_true] at e2
  obtain ⟨⟨rfl, rfl, rfl, rfl, rfl, hl⟩, e2⟩ := e2
  have f1 := rdN_pts h w
  have f2 := rdN_pts h' []
  rw [← e2, ← hl, f1] at f2
  simp only [Option.some.injEq, Prod.mk.injEq] at f2
  have : l = l' := by rw [← prs_fl l, f2.1, prs_fl]
  subst this
  exact ⟨rfl, f2.2⟩
end Go.Proofs.YtdabfcbelkjmgaaDoor.Am
