import Derived.Test.YtojciffnkbfbhaaMK
import Derived.Test.YtojciffnkbfbhaaMH
/-
  Plain laws: twice the places inside and those on the boundary make the area.
-/
namespace Go.Proofs.Ytojciffnkbfbhaa.Am
set_option linter.unusedSimpArgs false
set_option linter.unusedVariables false
theorem gsum_congr {f g : Pt → Int} (h : ∀ p, On p → f p = g p) : gsum f = gsum g :=
  rs_congr fun x hx => rs_congr fun y hy => h _ (by unfold On; simp only; omega)
theorem gsum_add (f g : Pt → Int) : gsum (fun p => f p + g p) = gsum f + gsum g := by
  unfold gsum
  have e : ∀ x : Nat, rs (fun y => f ((x : Int), (y : Int)) + g ((x : Int), (y : Int))) 41 = rs (fun y => f ((x : Int), (y : Int))) 41 + rs (fun y => g ((x : Int), (y : Int))) 41 := fun x => rs_plus (fun y => f ((x : Int), (y : Int))) (fun y => g ((x : Int), (y : Int))) 41
  simp only [e]
  exact rs_plus _ _ 41
theorem gsum_sub (f g : Pt → Int) : gsum (fun p => f p - g p) = gsum f - gsum g := by
  unfold gsum
  have e : ∀ x : Nat, rs (fun y => f ((x : Int), (y : Int)) - g ((x : Int), (y : Int))) 41 = rs (fun y => f ((x : Int), (y : Int))) 41 - rs (fun y => g ((x : Int), (y : Int))) 41 := fun x => rs_sub (fun y => f ((x : Int), (y : Int))) (fun y => g ((x : Int), (y : Int))) 41
  simp only [e]
  exact rs_sub _ _ 41
theorem rs_one {f : Nat → Int} {n c : Nat} (hc : c < n) (h1 : f c = 1) (h0 : ∀ t, t < n → t ≠ c → f t = 0) : rs f n = 1 := by
  have e := rs_add f (c + 1) (n - (c + 1))
  rw [show c + 1 + (n - (c + 1)) = n by omega, rs_succ, rs_z (n := c) (fun t hturn => h0 t (by omega) (by omega)), rs_z (n := n - (c + 1)) (fun t hturn => h0 _ (by omega) (by omega)), h1] at e
  omega
theorem gsum_pt {c : Pt} (hc : On c) : gsum (fun p => ii (p = c)) = 1 := by
  unfold On at hc
  unfold gsum
  refine rs_one (c := c.1.toNat) (by omega) ?_ fun x _ hx => rs_z fun y _ => ii_f fun e => hx (by rw [← e]; simp)
  refine rs_one (c := c.2.toNat) (by omega) (ii_t (Prod.ext (by simp only; omega) (by simp only; omega))) fun y _ hy => ii_f fun e => hy (by rw [← e]; simp)
theorem rs_swap (f : Nat → Nat → Int) (n : Nat) : ∀ m, rs (fun x => rs (fun y => f x y) n) m = rs (fun y => rs (fun x => f x y) m) n
  | 0 => by rw [rs_zero, rs_z fun y _ => rs_zero _]
  | m + 1 => by
    rw [rs_succ, rs_swap f n m, ← rs_plus (fun y => rs (fun x => f x y) m)]
    exact rs_congr fun y _ => (rs_succ _ _).symm
theorem gsum_rs (f : Nat → Pt → Int) (n : Nat) : gsum (fun p => rs (fun j => f j p) n) = rs (fun j => gsum (f j)) n := by
  unfold gsum
  have e : ∀ x : Nat, rs (fun y => rs (fun j => f j ((x : Int), (y : Int))) n) 41 = rs (fun j => rs (fun y => f j ((x : Int), (y : Int))) 41) n := fun x => rs_swap (fun y j => f j ((x : Int), (y : Int))) n 41
  simp only [e]
  exact rs_swap _ n 41
/-- Turned round the middle of the map. -/
def hturn (p : Pt) : Pt := (40 - p.1, 40 - p.2)
theorem gsum_ht (f : Pt → Int) : gsum (fun p => f (hturn p)) = gsum f := by
  unfold gsum
  have e : ∀ x : Nat, x < 41 → rs (fun y => f (hturn ((x : Int), (y : Int)))) 41 = rs (fun y => f (((40 - x : Nat) : Int), (y : Int))) 41 := fun x hx => by
    rw [← rs_rev (fun y => f (((40 - x : Nat) : Int), (y : Int))) 40]
    refine rs_congr fun y hy => ?_
    unfold hturn
    congr 1
    exact Prod.ext (by simp only; omega) (by simp only; omega)
  rw [rs_congr e]
  exact rs_rev (fun x => rs (fun y => f ((x : Int), (y : Int))) 41) 40
theorem ht_trn (a b c : Pt) : trn (hturn a) (hturn b) (hturn c) = trn a b c := by unfold trn hturn; grind
theorem t3_rot (P Q R p : Pt) : t3 Q R P p = t3 P Q R p := by
  unfold t3
  have e1 : (0 < trn Q R p ∧ 0 < trn R P p ∧ 0 < trn P Q p) ↔ (0 < trn P Q p ∧ 0 < trn Q R p ∧ 0 < trn R P p) := by omega
  have e2 : (0 ≤ trn Q R p ∧ 0 ≤ trn R P p ∧ 0 ≤ trn P Q p) ↔ (0 ≤ trn P Q p ∧ 0 ≤ trn Q R p ∧ 0 ≤ trn R P p) := by omega
  simp only [e1, e2]
theorem t3_ht (P Q R p : Pt) : t3 (hturn P) (hturn Q) (hturn R) (hturn p) = t3 P Q R p := by
  unfold t3
  rw [ht_trn, ht_trn, ht_trn]
theorem ht_on {p : Pt} (h : On p) : On (hturn p) := by unfold On hturn at *; simp only; omega
theorem tri_sorted {P Q R : Pt} (hP : On P) (hQ : On Q) (hR : On R) (ha : 0 < trn P Q R) (h1 : P.1 ≤ Q.1) (h2 : Q.1 ≤ R.1) : gsum (t3 P Q R) = trn P Q R + 2 := by
  unfold On at hP hQ hR
  have e1 : P = tP P.1.toNat P.2 := Prod.ext (by unfold tP; simp only; omega) rfl
  have e2 : Q = tP (P.1.toNat + (Q.1 - P.1).toNat) Q.2 := Prod.ext (by unfold tP; simp only; omega) rfl
  have e3 : R = tP (P.1.toNat + (Q.1 - P.1).toNat + (R.1 - Q.1).toNat) R.2 := Prod.ext (by unfold tP; simp only; omega) rfl
  have := tri_pick (a := P.1.toNat) (d1 := (Q.1 - P.1).toNat) (d2 := (R.1 - Q.1).toNat) (p := P.2) (q := Q.2) (r := R.2) (by omega) (by omega) (by omega) (by omega) (by rw [← e1, ← e2, ← e3]; exact ha)
  rw [← e1, ← e2, ← e3] at this
  exact this
theorem tri_any {P Q R : Pt} (hP : On P) (hQ : On Q) (hR : On R) (ha : 0 < trn P Q R) : gsum (t3 P Q R) = trn P Q R + 2 := by
  have r1 : gsum (t3 Q R P) = gsum (t3 P Q R) := gsum_congr fun p _ => t3_rot P Q R p
  have r2 : gsum (t3 R P Q) = gsum (t3 P Q R) := gsum_congr fun p _ => by rw [t3_rot Q R P, t3_rot P Q R]
  have k1 : trn Q R P = trn P Q R := trn_rot P Q R
  have k2 : trn R P Q = trn P Q R := by rw [trn_rot, trn_rot]
  have hh : ∀ {P Q R : Pt}, On P → On Q → On R → 0 < trn P Q R → Q.1 ≤ P.1 → R.1 ≤ Q.1 → gsum (t3 P Q R) = trn P Q R + 2 := fun {P Q R} hP hQ hR ha h1 h2 => by
    have := tri_sorted (ht_on hP) (ht_on hQ) (ht_on hR) (by rw [ht_trn]; exact ha) (by unfold hturn; simp only; omega) (by unfold hturn; simp only; omega)
    rw [ht_trn, ← gsum_ht] at this
    rw [← this]
    exact gsum_congr fun p _ => (t3_ht P Q R p).symm
  have c : ((P.1 ≤ Q.1 ∧ Q.1 ≤ R.1) ∨ (Q.1 ≤ R.1 ∧ R.1 ≤ P.1) ∨ (R.1 ≤ P.1 ∧ P.1 ≤ Q.1)) ∨ ((Q.1 ≤ P.1 ∧ R.1 ≤ Q.1) ∨ (R.1 ≤ Q.1 ∧ P.1 ≤ R.1) ∨ (P.1 ≤ R.1 ∧ Q.1 ≤ P.1)) := by omega
  rcases c with (c | c | c) | (c | c | c)
  · exact tri_sorted hP hQ hR ha c.1 c.2
  · rw [← r1, ← k1]; exact tri_sorted hQ hR hP (by omega) c.1 c.2
  · rw [← r2, ← k2]; exact tri_sorted hR hP hQ (by omega) c.1 c.2
  · exact hh hP hQ hR ha c.1 c.2
  · rw [← r1, ← k1]; exact hh hQ hR hP (by omega) c.1 c.2
  · rw [← r2, ← k2]; exact hh hR hP hQ (by omega) c.1 c.2
/-- What a place counts. -/
noncomputable def wt (l : List Pt) (p : Pt) : Int := sd l p + 1
theorem wt_2 {l : List Pt} {p : Pt} (h : inn l p) : wt l p = 2 := by unfold wt; rw [sd_1.2 h]; rfl
theorem wt_1 {l : List Pt} {p : Pt} (h : clo l p) (h2 : ¬ inn l p) : wt l p = 1 := by unfold wt; rw [sd_0.2 ⟨h, h2⟩]; rfl
theorem wt_0 {l : List Pt} {p : Pt} (h : ¬ clo l p) : wt l p = 0 := by
  unfold wt
  rcases sd_cases l p with e | e | e
  · exact absurd (sd_1.1 e).clo h
  · exact absurd (sd_0.1 e).1 h
  · rw [e]; rfl
theorem tri_wt {l : List Pt} (h : VP l) (h3 : l.length = 3) : gsum (wt l) = areaS l + 2 := by
  obtain ⟨A, B, C, rfl⟩ : ∃ A B C, l = [A, B, C] := by
    match l, h3 with
    | [A, B, C], _ => exact ⟨A, B, C, rfl⟩
  have e0 : ∀ p, E [A, B, C] 0 p = trn A B p := fun p => rfl
  have e1 : ∀ p, E [A, B, C] 1 p = trn B C p := fun p => rfl
  have e2 : ∀ p, E [A, B, C] 2 p = trn C A p := fun p => by unfold E; simp [pa]
  have c1 : ∀ p, inn [A, B, C] p ↔ 0 < trn A B p ∧ 0 < trn B C p ∧ 0 < trn C A p := fun p => by
    constructor
    · intro q; exact ⟨q 0 (by simp), q 1 (by simp), by rw [← e2]; exact q 2 (by simp)⟩
    · rintro ⟨q0, q1, q2⟩ i hi
      have : i = 0 ∨ i = 1 ∨ i = 2 := by simp at hi; omega
      rcases this with rfl | rfl | rfl
      · exact q0
      · exact q1
      · rw [e2]; exact q2
  have c2 : ∀ p, clo [A, B, C] p ↔ 0 ≤ trn A B p ∧ 0 ≤ trn B C p ∧ 0 ≤ trn C A p := fun p => by
    constructor
    · intro q; exact ⟨q 0 (by simp), q 1 (by simp), by rw [← e2]; exact q 2 (by simp)⟩
    · rintro ⟨q0, q1, q2⟩ i hi
      have : i = 0 ∨ i = 1 ∨ i = 2 := by simp at hi; omega
      rcases this with rfl | rfl | rfl
      · exact q0
      · exact q1
      · rw [e2]; exact q2
  have e : gsum (wt [A, B, C]) = gsum (t3 A B C) := gsum_congr fun p _ => by
    by_cases h1 : inn [A, B, C] p
    · rw [wt_2 h1]; unfold t3; rw [if_pos ((c1 p).1 h1)]
    · by_cases h2 : clo [A, B, C] p
      · rw [wt_1 h2 h1]; unfold t3; rw [if_neg (fun q => h1 ((c1 p).2 q)), if_pos ((c2 p).1 h2)]
      · rw [wt_0 h2]; unfold t3; rw [if_neg (fun q => h1 ((c1 p).2 q)), if_neg (fun q => h2 ((c2 p).2 q))]
  have ar : areaS [A, B, C] = trn A B C := by
    unfold areaS edgesL
    simp [List.range_succ, pa, arE, trn_self0, trn_self1]
  rw [e, ar]
  refine tri_any (h.on A (by simp)) (h.on B (by simp)) (h.on C (by simp)) ?_
  have := h.cv 0 2 (by simp) (by simp) (by decide) (by simp)
  exact this
theorem corner_clo {l : List Pt} (h : VP l) {x : Pt} (hx : x ∈ l) : clo l x := fun j hj => E_nn h hj hx
theorem corner_not {l : List Pt} {x : Pt} (hx : x ∈ l) : ¬ inn l x := fun hi => by
  obtain ⟨j, hj, rfl⟩ := pa_of hx
  have := hi j hj
  unfold E at this
  rw [trn_self1] at this
  omega
theorem part_clo {l a : List Pt} (h : VP l) (va : VP a) (hsub : ∀ q ∈ a, q ∈ l) {p : Pt} (hp : clo a p) : clo l p := fun j hj => by
  have := clo_le va hp (u := pa l ((j + 1) % l.length)) (w := pa l j) fun q hq => by
    have := E_nn h hj (hsub q hq)
    rw [trn_swap]; unfold E at this; omega
  rw [trn_swap] at this
  unfold E; omega
theorem cut_wt {l : List Pt} {i k m m' : Nat} (C : CutAt l i k m m') (p : Pt) : wt l p = wt (arc l i m) p + wt (arc l k m') p - ii (p = qa l i) - ii (p = qa l k) := by
  obtain ⟨h, hm, hm', hs, hk, hi, hkt⟩ := id C
  have l3 := h.l3
  have hn : 0 < l.length := by omega
  have va := arc_vp h (i := i) hm (by omega)
  have vb := arc_vp h (i := k) hm' (by omega)
  have sa : ∀ q ∈ arc l i m, q ∈ l := fun q hq => arc_mem hn hq
  have sb : ∀ q ∈ arc l k m', q ∈ l := fun q hq => arc_mem hn hq
  have ci := cut_inn C p
  have d1 := diag1 C p
  have d2 := diag2 C p
  have ia : qa l i ∈ arc l i m := mem_arc.2 ⟨0, by omega, rfl⟩
  have ka : qa l k ∈ arc l i m := mem_arc.2 ⟨m, Nat.le_refl _, hk.symm⟩
  have kb : qa l k ∈ arc l k m' := mem_arc.2 ⟨0, by omega, rfl⟩
  have ib : qa l i ∈ arc l k m' := mem_arc.2 ⟨m', Nat.le_refl _, hi.symm⟩
  have x1 : inn (arc l i m) p → ¬ clo (arc l k m') p := fun a b => by
    have e1 := a m (by rw [arc_len]; omega)
    have e2 := b m' (by rw [arc_len]; omega)
    omega
  have x2 : inn (arc l k m') p → ¬ clo (arc l i m) p := fun a b => by
    have e1 := a m' (by rw [arc_len]; omega)
    have e2 := b m (by rw [arc_len]; omega)
    omega
  have cl : clo l p ↔ clo (arc l i m) p ∨ clo (arc l k m') p := by
    constructor
    · intro q
      by_cases hz : 0 ≤ trn (qa l k) (qa l i) p
      · refine .inl fun t hturn => ?_
        rw [arc_len] at hturn
        by_cases e : t = m
        · rw [e]; omega
        · rw [part_edge1 C (by omega)]; exact q _ (Nat.mod_lt _ hn)
      · refine .inr fun t hturn => ?_
        rw [arc_len] at hturn
        by_cases e : t = m'
        · rw [e]; omega
        · rw [part_edge2 C (by omega)]; exact q _ (Nat.mod_lt _ hn)
    · rintro (q | q)
      · exact part_clo h va sa q
      · exact part_clo h vb sb q
  have dn := diag_ne C
  by_cases a1 : inn (arc l i m) p
  · have hl := ci.2 (.inl a1)
    have n1 : p ≠ qa l i := fun e => corner_not ia (e ▸ a1)
    have n2 : p ≠ qa l k := fun e => corner_not ka (e ▸ a1)
    rw [wt_2 hl, wt_2 a1, wt_0 (x1 a1), ii_f n1, ii_f n2]; rfl
  by_cases b1 : inn (arc l k m') p
  · have hl := ci.2 (.inr (.inl b1))
    have n1 : p ≠ qa l i := fun e => corner_not ib (e ▸ b1)
    have n2 : p ≠ qa l k := fun e => corner_not kb (e ▸ b1)
    rw [wt_2 hl, wt_2 b1, wt_0 (x2 b1), ii_f n1, ii_f n2]; rfl
  by_cases a2 : clo (arc l i m) p <;> by_cases b2 : clo (arc l k m') p
  · rw [wt_1 a2 a1, wt_1 b2 b1]
    by_cases n1 : p = qa l i
    · rw [ii_t n1, ii_f (fun e => dn (e.symm.trans n1)), wt_1 (cl.2 (.inl a2)) (n1 ▸ corner_not (qa_mem hn i))]; rfl
    · by_cases n2 : p = qa l k
      · rw [ii_f n1, ii_t n2, wt_1 (cl.2 (.inl a2)) (n2 ▸ corner_not (qa_mem hn k))]; rfl
      · rw [ii_f n1, ii_f n2, wt_2 (ci.2 (.inr (.inr ⟨⟨a2, b2⟩, n1, n2⟩)))]; rfl
  · have nl : ¬ inn l p := fun q => by
      rcases ci.1 q with w | w | ⟨⟨_, w⟩, _⟩
      · exact a1 w
      · exact b1 w
      · exact b2 w
    rw [wt_1 a2 a1, wt_0 b2, wt_1 (cl.2 (.inl a2)) nl, ii_f (fun e : p = qa l i => b2 (by rw [e]; exact corner_clo vb ib)), ii_f (fun e : p = qa l k => b2 (by rw [e]; exact corner_clo vb kb))]; rfl
  · have nl : ¬ inn l p := fun q => by
      rcases ci.1 q with w | w | ⟨⟨w, _⟩, _⟩
      · exact a1 w
      · exact b1 w
      · exact a2 w
    rw [wt_0 a2, wt_1 b2 b1, wt_1 (cl.2 (.inr b2)) nl, ii_f (fun e : p = qa l i => a2 (by rw [e]; exact corner_clo va ia)), ii_f (fun e : p = qa l k => a2 (by rw [e]; exact corner_clo va ka))]; rfl
  · have nl : ¬ clo l p := fun q => by
      rcases cl.1 q with w | w
      · exact a2 w
      · exact b2 w
    rw [wt_0 a2, wt_0 b2, wt_0 nl, ii_f (fun e : p = qa l i => a2 (by rw [e]; exact corner_clo va ia)), ii_f (fun e : p = qa l k => a2 (by rw [e]; exact corner_clo va ka))]; rfl
/-- Pick's theorem. -/
theorem pick_wt : ∀ (n : Nat) (l : List Pt), l.length = n + 3 → VP l → gsum (wt l) = areaS l + 2
  | 0, l, hl, h => tri_wt h hl
  | n + 1, l, hl, h => by
    have hi : 0 < l.length := by omega
    have hk : 2 < l.length := by omega
    have s1 : stp l.length 0 2 = 2 := by unfold stp; rw [Nat.mod_eq_sub_mod (by omega), Nat.mod_eq_of_lt (by omega)]; omega
    have s2 : stp l.length 2 0 = n + 2 := by unfold stp; rw [Nat.mod_eq_of_lt (by omega)]; omega
    have C : CutAt l 0 2 2 (n + 2) := by
      refine ⟨h, by omega, by omega, by omega, rfl, ?_, fun t => by rw [Nat.zero_add]⟩
      rw [show 2 + (n + 2) = 0 + l.length by omega, qa_add]
    have su := (cut_sums l hi hk (by omega)).1
    rw [s1, s2] at su
    have w1 := tri_wt (arc_vp h (i := 0) (m := 2) (by omega) (by omega)) (by rw [arc_len])
    have w2 := pick_wt n (arc l 2 (n + 2)) (by rw [arc_len]) (arc_vp h (by omega) (by omega))
    have e : gsum (wt l) = gsum (fun p => wt (arc l 0 2) p + wt (arc l 2 (n + 2)) p - ii (p = qa l 0) - ii (p = qa l 2)) := gsum_congr fun p _ => cut_wt C p
    rw [e, gsum_sub (fun p => wt (arc l 0 2) p + wt (arc l 2 (n + 2)) p - ii (p = qa l 0)), gsum_sub (fun p => wt (arc l 0 2) p + wt (arc l 2 (n + 2)) p), gsum_add (wt (arc l 0 2)), gsum_pt (h.on _ (qa_mem hi 0)), gsum_pt (h.on _ (qa_mem hi 2)), w1, w2]
    omega
end Go.Proofs.Ytojciffnkbfbhaa.Am
/-
  Plain laws: places on the boundary.
-/
namespace Go.Proofs.Ytojciffnkbfbhaa.Am
set_option linter.unusedSimpArgs false
set_option linter.unusedVariables false
theorem coprime_line {u v a b : Int} (h : Int.gcd u v = 1) (e : u * b = v * a) : ∃ t, a = u * t ∧ b = v * t := by
  by_cases hu : u = 0
  · subst hu
    rw [Int.zero_mul] at e
    have hv : v.natAbs = 1 := by simpa [Int.gcd] using h
    have hv' : v = 1 ∨ v = -1 := by omega
    refine ⟨v * b, ?_, ?_⟩
    · rcases hv' with q | q <;> rw [q] at e <;> omega
    · rcases hv' with q | q <;> rw [q] <;> omega
  · have d : u.natAbs ∣ v.natAbs * a.natAbs := by
      rw [← Int.natAbs_mul, ← e, Int.natAbs_mul]
      exact Nat.dvd_mul_right _ _
    have c : Nat.Coprime u.natAbs v.natAbs := h
    have := c.dvd_of_dvd_mul_left d
    obtain ⟨t, rfl⟩ := Int.natAbs_dvd_natAbs.1 this
    refine ⟨t, rfl, ?_⟩
    have e2 : u * (b - v * t) = 0 := by grind
    rcases Int.mul_eq_zero.1 e2 with q | q
    · exact absurd q hu
    · omega
open Classical in
theorem seg_count {P Q : Pt} (hP : On P) (hQ : On Q) (hne : P ≠ Q) : gsum (fun p => ii (trn P Q p = 0 ∧ btw P Q p ∧ p ≠ Q)) = gcE (P, Q) := by
  have hd : Q.1 - P.1 ≠ 0 ∨ Q.2 - P.2 ≠ 0 := by
    by_cases h : Q.1 - P.1 ≠ 0 ∨ Q.2 - P.2 ≠ 0
    · exact h
    · exact absurd (Prod.ext (by omega) (by omega)) hne
  obtain ⟨g, hg⟩ : ∃ g, Int.gcd (Q.1 - P.1) (Q.2 - P.2) = g := ⟨_, rfl⟩
  have gp : 0 < g := by
    rw [← hg]
    rcases hd with h | h
    · exact Int.gcd_pos_of_ne_zero_left _ h
    · exact Int.gcd_pos_of_ne_zero_right _ h
  obtain ⟨u, hu⟩ : ∃ u, Q.1 - P.1 = g * u := by rw [← hg]; exact Int.gcd_dvd_left _ _
  obtain ⟨v, hv⟩ : ∃ v, Q.2 - P.2 = g * v := by rw [← hg]; exact Int.gcd_dvd_right _ _
  have cop : Int.gcd u v = 1 := by
    have : Int.gcd ((g : Int) * u) ((g : Int) * v) = g := by rw [← hu, ← hv]; exact hg
    rw [Int.gcd_mul_left] at this
    have e : g * Int.gcd u v = g * 1 := by simpa using this
    exact Nat.eq_of_mul_eq_mul_left gp e
  have uv : u ≠ 0 ∨ v ≠ 0 := by
    rcases hd with h | h
    · left; intro q; rw [hu, q, Int.mul_zero] at h; exact h rfl
    · right; intro q; rw [hv, q, Int.mul_zero] at h; exact h rfl
  have W : 0 < u * u + v * v := by
    have h1 := sq_nn u
    have h2 := sq_nn v
    rcases uv with h | h
    · have : u * u ≠ 0 := fun q => h (sq0 q); omega
    · have : v * v ≠ 0 := fun q => h (sq0 q); omega
  have gi : (0 : Int) < g := by omega
  -- the places, one by one
  have char : ∀ p : Pt, (trn P Q p = 0 ∧ btw P Q p ∧ p ≠ Q) ↔ ∃ t : Nat, t < g ∧ p = (P.1 + t * u, P.2 + t * v) := fun p => by
    constructor
    · rintro ⟨z, b, n⟩
      have z' : (g : Int) * (u * (p.2 - P.2) - v * (p.1 - P.1)) = 0 := by unfold trn at z; rw [hu, hv] at z; grind
      have z2 : u * (p.2 - P.2) = v * (p.1 - P.1) := by
        rcases Int.mul_eq_zero.1 z' with q | q <;> omega
      obtain ⟨t, e1, e2⟩ := coprime_line cop z2
      rw [dd_btw hne z] at b
      have d1 : dd P Q p = (g : Int) * ((u * u + v * v) * t) := by unfold dd; rw [hu, hv, e1, e2]; grind
      have d2 : dd P Q Q - dd P Q p = (g : Int) * ((u * u + v * v) * (g - t)) := by
        rw [d1]; unfold dd; rw [hu, hv]; grind
      have t0 := nn_of_mul W (nn_of_mul gi (b := (u * u + v * v) * t) (by omega))
      have t1 := nn_of_mul W (nn_of_mul gi (b := (u * u + v * v) * (g - t)) (by omega))
      have tn : t ≠ g := fun q => n (Prod.ext (by
        have : p.1 - P.1 = g * u := by rw [e1, q, Int.mul_comm]
        omega) (by
        have : p.2 - P.2 = g * v := by rw [e2, q, Int.mul_comm]
        omega))
      refine ⟨t.toNat, by omega, Prod.ext ?_ ?_⟩
      · have : ((t.toNat : Nat) : Int) = t := by omega
        simp only [this]
        rw [Int.mul_comm] at e1; omega
      · have : ((t.toNat : Nat) : Int) = t := by omega
        simp only [this]
        rw [Int.mul_comm] at e2; omega
    · rintro ⟨t, ht, rfl⟩
      have z : trn P Q (P.1 + t * u, P.2 + t * v) = 0 := by unfold trn; simp only; rw [hu, hv]; grind
      have d1 : dd P Q (P.1 + t * u, P.2 + t * v) = (g : Int) * ((u * u + v * v) * t) := by unfold dd; simp only; rw [hu, hv]; grind
      have d2 : dd P Q Q - dd P Q (P.1 + t * u, P.2 + t * v) = (g : Int) * ((u * u + v * v) * (g - t)) := by
        rw [d1]; unfold dd; rw [hu, hv]; grind
      have k1 := Int.mul_nonneg (Int.le_of_lt gi) (Int.mul_nonneg (Int.le_of_lt W) (show (0 : Int) ≤ t by omega))
      have k2 := Int.mul_pos gi (Int.mul_pos W (show (0 : Int) < g - t by omega))
      refine ⟨z, (dd_btw hne z).2 ⟨by omega, by omega⟩, fun e => ?_⟩
      rw [e] at d2
      omega
  have inj : ∀ s t : Nat, ((P.1 + s * u, P.2 + s * v) : Pt) = (P.1 + t * u, P.2 + t * v) → s = t := fun s t e => by
    have e1 := congrArg Prod.fst e
    have e2 := congrArg Prod.snd e
    simp only at e1 e2
    have f1 : ((s : Int) - t) * u = 0 := by grind
    have f2 : ((s : Int) - t) * v = 0 := by grind
    rcases uv with h | h
    · rcases Int.mul_eq_zero.1 f1 with q | q
      · omega
      · exact absurd q h
    · rcases Int.mul_eq_zero.1 f2 with q | q
      · omega
      · exact absurd q h
  have onp : ∀ t : Nat, t < g → On (P.1 + t * u, P.2 + t * v) := fun t ht => by
    have hP' := hP
    have hQ' := hQ
    unfold On at hP' hQ'
    have b1 := nb hP'.1 hQ'.1 (d := (g : Int)) (t := (t : Int)) (by omega)
    have b2 := nb hP'.2 hQ'.2 (d := (g : Int)) (t := (t : Int)) (by omega)
    have q1 : Q.1 = P.1 + g * u := by omega
    have q2 : Q.2 = P.2 + g * v := by omega
    have e1 : P.1 * (g - t) + Q.1 * t = g * (P.1 + t * u) := by rw [q1]; grind
    have e2 : P.2 * (g - t) + Q.2 * t = g * (P.2 + t * v) := by rw [q2]; grind
    rw [e1] at b1
    rw [e2] at b2
    have m1 := nn_of_mul gi b1.1
    have m2 := nn_of_mul gi b2.1
    have m3 := nn_of_mul gi (b := 40 - (P.1 + t * u)) (by rw [Int.mul_sub]; omega)
    have m4 := nn_of_mul gi (b := 40 - (P.2 + t * v)) (by rw [Int.mul_sub]; omega)
    unfold On
    simp only
    omega
  have e : gsum (fun p => ii (trn P Q p = 0 ∧ btw P Q p ∧ p ≠ Q)) = gsum (fun p => rs (fun t => ii (p = (P.1 + (t : Int) * u, P.2 + (t : Int) * v))) g) := gsum_congr fun p _ => by
    by_cases h : trn P Q p = 0 ∧ btw P Q p ∧ p ≠ Q
    · obtain ⟨t, ht, et⟩ := (char p).1 h
      rw [ii_t h, rs_one (f := fun s : Nat => ii (p = (P.1 + (s : Int) * u, P.2 + (s : Int) * v))) ht (ii_t et) fun s hs hst => ii_f fun q => hst (inj s t (q.symm.trans et))]
    · rw [ii_f h, rs_z fun t ht => ii_f fun q => h ((char p).2 ⟨t, ht, q⟩)]
  rw [e, gsum_rs (fun t p => ii (p = (P.1 + (t : Int) * u, P.2 + (t : Int) * v))) g, rs_congr (g := fun _ => 1) fun t ht => gsum_pt (onp t ht), rs_const, Int.one_mul]
  show (g : Int) = (Int.gcd (Q.1 - P.1) (Q.2 - P.2) : Int)
  rw [hg]
/-- On the half-open edge. -/
def hE (l : List Pt) (j : Nat) (p : Pt) : Prop := trn (pa l j) (pa l ((j + 1) % l.length)) p = 0 ∧ btw (pa l j) (pa l ((j + 1) % l.length)) p ∧ p ≠ pa l ((j + 1) % l.length)
theorem hE_start {l : List Pt} (h : VP l) {j j' : Nat} (hj : j < l.length) (hj' : j' < l.length) {p : Pt} (h1 : hE l j p) (h2 : hE l j' p) : j = j' ∨ j = (j' + 1) % l.length := by
  obtain ⟨z1, b1, n1⟩ := h1
  obtain ⟨z2, b2, n2⟩ := h2
  have hm : (j + 1) % l.length < l.length := Nat.mod_lt _ (by omega)
  have hne := h.ne hj
  have lo := line_on (u := pa l j') (w := pa l ((j' + 1) % l.length)) z1
  rw [z2, Int.zero_mul] at lo
  rw [dd_btw hne z1] at b1
  have g1 := E_nn h hj' (pa_mem hj)
  have g2 := E_nn h hj' (pa_mem hm)
  unfold E at g1 g2
  have D := dd_pos hne
  have n3 : dd (pa l j) (pa l ((j + 1) % l.length)) p ≠ dd (pa l j) (pa l ((j + 1) % l.length)) (pa l ((j + 1) % l.length)) := fun q => n1 (dd_inj hne z1 (trn_self2 _ _) q)
  have k1 := Int.mul_nonneg g1 (show 0 ≤ dd (pa l j) (pa l ((j + 1) % l.length)) (pa l ((j + 1) % l.length)) - dd (pa l j) (pa l ((j + 1) % l.length)) p by omega)
  have k2 := Int.mul_nonneg g2 b1.1
  have k3 : trn (pa l j') (pa l ((j' + 1) % l.length)) (pa l j) * (dd (pa l j) (pa l ((j + 1) % l.length)) (pa l ((j + 1) % l.length)) - dd (pa l j) (pa l ((j + 1) % l.length)) p) = 0 := by omega
  rcases Int.mul_eq_zero.1 k3 with q | q
  · exact E_corner h hj' hj q
  · omega
theorem hE_uniq {l : List Pt} (h : VP l) {j j' : Nat} (hj : j < l.length) (hj' : j' < l.length) {p : Pt} (h1 : hE l j p) (h2 : hE l j' p) : j = j' := by
  have l3 := h.l3
  rcases hE_start h hj hj' h1 h2 with q | q
  · exact q
  rcases hE_start h hj' hj h2 h1 with w | w
  · exact w.symm
  exfalso
  rw [q, Nat.mod_add_mod] at w
  have := mod_ne (s := j') (n := l.length) (a := 2) (b := 0) (by omega) (by omega) (by omega)
  rw [Nat.add_zero j', Nat.mod_eq_of_lt hj'] at this
  exact this w.symm
open Classical in
theorem bd_one {l : List Pt} (h : VP l) (p : Pt) : ii (sd l p = 0) = rs (fun j => ii (hE l j p)) l.length := by
  have l3 := h.l3
  by_cases h0 : sd l p = 0
  · obtain ⟨hc, hi⟩ := sd_0.1 h0
    obtain ⟨j, hj, ej⟩ : ∃ j, j < l.length ∧ E l j p = 0 := by
      by_cases hex : ∃ j, j < l.length ∧ E l j p = 0
      · exact hex
      · exact absurd (fun j hj => by
          have := hc j hj
          have : E l j p ≠ 0 := fun e => hex ⟨j, hj, e⟩
          omega) hi
    have hm : (j + 1) % l.length < l.length := Nat.mod_lt _ (by omega)
    obtain ⟨t, ht, e⟩ : ∃ t, t < l.length ∧ hE l t p := by
      by_cases e : p = pa l ((j + 1) % l.length)
      · refine ⟨(j + 1) % l.length, hm, ?_, ?_, ?_⟩
        · rw [e, trn_self1]
        · rw [e]
          rcases lexle_tot (pa l ((j + 1) % l.length)) (pa l (((j + 1) % l.length + 1) % l.length)) with q | q
          · exact .inl ⟨lexle_refl _, q⟩
          · exact .inr ⟨q, lexle_refl _⟩
        · rw [e]; exact h.ne hm
      · exact ⟨j, hj, ej, (seg_iff h hj ej).1 hc, e⟩
    rw [ii_t h0, rs_one ht (ii_t e) fun s hs hst => ii_f fun q => hst (hE_uniq h hs ht q e)]
  · rw [ii_f h0, rs_z fun j hj => ii_f fun q => h0 ?_]
    have ej : E l j p = 0 := q.1
    refine sd_0.2 ⟨(seg_iff h hj ej).2 q.2.1, fun hi => ?_⟩
    have := hi j hj
    omega
open Classical in
theorem bd_count {l : List Pt} (h : VP l) : gsum (fun p => ii (sd l p = 0)) = bdS l := by
  have e : gsum (fun p => ii (sd l p = 0)) = gsum (fun p => rs (fun j => ii (hE l j p)) l.length) := gsum_congr fun p _ => bd_one h p
  rw [e, gsum_rs (fun j p => ii (hE l j p)) l.length]
  have e2 : rs (fun j => gsum (fun p => ii (hE l j p))) l.length = rs (fun j => gcE (pa l j, pa l ((j + 1) % l.length))) l.length := rs_congr fun j hj => by
    have hm : (j + 1) % l.length < l.length := Nat.mod_lt _ (by omega)
    have s := seg_count (h.on _ (pa_mem hj)) (h.on _ (pa_mem hm)) (h.ne hj)
    rw [← s]
    refine gsum_congr fun p _ => ?_
    by_cases q : hE l j p
    · rw [ii_t q]; exact (ii_t (show _ ∧ _ from q)).symm
    · rw [ii_f q]; exact (ii_f (show ¬ (_ ∧ _) from q)).symm
  rw [e2]
  unfold rs bdS edgesL
  rw [List.map_map]
  rfl
theorem bd_len {l : List Pt} (h : VP l) : (l.length : Int) ≤ bdS l := by
  have e : bdS l = rs (fun j => gcE (pa l j, pa l ((j + 1) % l.length))) l.length := by
    unfold rs bdS edgesL
    rw [List.map_map]
    rfl
  rw [e]
  have key : ∀ n, n ≤ l.length → (n : Int) ≤ rs (fun j => gcE (pa l j, pa l ((j + 1) % l.length))) n := by
    intro n
    induction n with
    | zero => intro _; rw [rs_zero]; simp
    | succ n ih =>
      intro hn
      rw [rs_succ, ns]
      have := ih (by omega)
      have hne := h.ne (show n < l.length by omega)
      have g1 : 1 ≤ gcE (pa l n, pa l ((n + 1) % l.length)) := by
        unfold gcE
        have : 0 < Int.gcd ((pa l ((n + 1) % l.length)).1 - (pa l n).1) ((pa l ((n + 1) % l.length)).2 - (pa l n).2) := by
          by_cases h1 : (pa l ((n + 1) % l.length)).1 - (pa l n).1 = 0
          · have h2 : (pa l ((n + 1) % l.length)).2 - (pa l n).2 ≠ 0 := fun q => hne (Prod.ext (by omega) (by omega))
            exact Int.gcd_pos_of_ne_zero_right _ h2
          · exact Int.gcd_pos_of_ne_zero_left _ h1
        simp only
        omega
      omega
  exact key l.length (Nat.le_refl _)
end Go.Proofs.Ytojciffnkbfbhaa.Am
