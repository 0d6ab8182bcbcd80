import Derived.Test.YtojciffnkbfbhaaMK
import Derived.Test.YtojciffnkbfbhaaMG
/-
  Plain laws: twice the places inside and those on the boundary make the area.
-/
namespace Go.Proofs.Ytojciffnkbfbhaa.Am
set_option linter.unusedSimpArgs false
set_option linter.unusedVariables false
theorem gsum_congr {f g : Pt → Int} (h : ∀ p, On p → f p = g p) : gsum f = gsum g :=
  rs_congr fun x hx => rs_congr fun y hy => h _ (by unfold On; simp only; omega)
theorem gsum_add (f g : Pt → Int) : gsum (fun p => f p + g p) = gsum f + gsum g := by
  unfold gsum
  have e : ∀ x : Nat, rs (fun y => f ((x : Int), (y : Int)) + g ((x : Int), (y : Int))) 41 = rs (fun y => f ((x : Int), (y : Int))) 41 + rs (fun y => g ((x : Int), (y : Int))) 41 := fun x => rs_plus (fun y => f ((x : Int), (y : Int))) (fun y => g ((x : Int), (y : Int))) 41
  simp only [e]
  exact rs_plus _ _ 41
theorem gsum_sub (f g : Pt → Int) : gsum (fun p => f p - g p) = gsum f - gsum g := by
  unfold gsum
  have e : ∀ x : Nat, rs (fun y => f ((x : Int), (y : Int)) - g ((x : Int), (y : Int))) 41 = rs (fun y => f ((x : Int), (y : Int))) 41 - rs (fun y => g ((x : Int), (y : Int))) 41 := fun x => rs_sub (fun y => f ((x : Int), (y : Int))) (fun y => g ((x : Int), (y : Int))) 41
  simp only [e]
  exact rs_sub _ _ 41
theorem rs_one {f : Nat → Int} {n c : Nat} (hc : c < n) (h1 : f c = 1) (h0 : ∀ t, t < n → t ≠ c → f t = 0) : rs f n = 1 := by
  have e := rs_add f (c + 1) (n - (c + 1))
  rw [show c + 1 + (n - (c + 1)) = n by omega, rs_succ, rs_z (n := c) (fun t hturn => h0 t (by omega) (by omega)), rs_z (n := n - (c + 1)) (fun t hturn => h0 _ (by omega) (by omega)), h1] at e
  omega
theorem gsum_pt {c : Pt} (hc : On c) : gsum (fun p => ii (p = c)) = 1 := by
  unfold On at hc
  unfold gsum
  refine rs_one (c := c.1.toNat) (by omega) ?_ fun x _ hx => rs_z fun y _ => ii_f fun e => hx (by rw [← e]; simp)
  refine rs_one (c := c.2.toNat) (by omega) (ii_t (Prod.ext (by simp only; omega) (by simp only; omega))) fun y _ hy => ii_f fun e => hy (by rw [← e]; simp)
theorem rs_swap (f : Nat → Nat → Int) (n : Nat) : ∀ m, rs (fun x => rs (fun y => f x y) n) m = rs (fun y => rs (fun x => f x y) m) n
  | 0 => by rw [rs_zero, rs_z fun y _ => rs_zero _]
  | m + 1 => by
    rw [rs_succ, rs_swap f n m, ← rs_plus (fun y => rs (fun x => f x y) m)]
    exact rs_congr fun y _ => (rs_succ _ _).symm
theorem gsum_rs (f : Nat → Pt → Int) (n : Nat) : gsum (fun p => rs (fun j => f j p) n) = rs (fun j => gsum (f j)) n := by
  unfold gsum
  have e : ∀ x : Nat, rs (fun y => rs (fun j => f j ((x : Int), (y : Int))) n) 41 = rs (fun j => rs (fun y => f j ((x : Int), (y : Int))) 41) n := fun x => rs_swap (fun y j => f j ((x : Int), (y : Int))) n 41
  simp only [e]
  exact rs_swap _ n 41
/-- Turned round the middle of the map. -/
def hturn (p : Pt) : Pt := (40 - p.1, 40 - p.2)
theorem gsum_ht (f : Pt → Int) : gsum (fun p => f (hturn p)) = gsum f := by
  unfold gsum
  have e : ∀ x : Nat, x < 41 → rs (fun y => f (hturn ((x : Int), (y : Int)))) 41 = rs (fun y => f (((40 - x : Nat) : Int), (y : Int))) 41 := fun x hx => by
    rw [← rs_rev (fun y => f (((40 - x : Nat) : Int), (y : Int))) 40]
    refine rs_congr fun y hy => ?_
    unfold hturn
    congr 1
    exact Prod.ext (by simp only; omega) (by simp only; omega)
  rw [rs_congr e]
  exact rs_rev (fun x => rs (fun y => f ((x : Int), (y : Int))) 41) 40
theorem ht_trn (a b c : Pt) : trn (hturn a) (hturn b) (hturn c) = trn a b c := by unfold trn hturn; grind
theorem t3_rot (P Q R p : Pt) : t3 Q R P p = t3 P Q R p := by
  unfold t3
  have e1 : (0 < trn Q R p ∧ 0 < trn R P p ∧ 0 < trn P Q p) ↔ (0 < trn P Q p ∧ 0 < trn Q R p ∧ 0 < trn R P p) := by omega
  have e2 : (0 ≤ trn Q R p ∧ 0 ≤ trn R P p ∧ 0 ≤ trn P Q p) ↔ (0 ≤ trn P Q p ∧ 0 ≤ trn Q R p ∧ 0 ≤ trn R P p) := by omega
  simp only [e1, e2]
theorem t3_ht (P Q R p : Pt) : t3 (hturn P) (hturn Q) (hturn R) (hturn p) = t3 P Q R p := by
  unfold t3
  rw [ht_trn, ht_trn, ht_trn]
theorem ht_on {p : Pt} (h : On p) : On (hturn p) := by unfold On hturn at *; simp only; omega
theorem tri_sorted {P Q R : Pt} (hP : On P) (hQ : On Q) (hR : On R) (ha : 0 < trn P Q R) (h1 : P.1 ≤ Q.1) (h2 : Q.1 ≤ R.1) : gsum (t3 P Q R) = trn P Q R + 2 := by
  unfold On at hP hQ hR
  have e1 : P = tP P.1.toNat P.2 := Prod.ext (by unfold tP; simp only; omega) rfl
  have e2 : Q = tP (P.1.toNat + (Q.1 - P.1).toNat) Q.2 := Prod.ext (by unfold tP; simp only; omega) rfl
  have e3 : R = tP (P.1.toNat + (Q.1 - P.1).toNat + (R.1 - Q.1).toNat) R.2 := Prod.ext (by unfold tP; simp only; omega) rfl
  have := tri_pick (a := P.1.toNat) (d1 := (Q.1 - P.1).toNat) (d2 := (R.1 - Q.1).toNat) (p := P.2) (q := Q.2) (r := R.2) (by omega) (by omega) (by omega) (by omega) (by rw [← e1, ← e2, ← e3]; exact ha)
  rw [← e1, ← e2, ← e3] at this
  exact this
theorem tri_any {P Q R : Pt} (hP : On P) (hQ : On Q) (hR : On R) (ha : 0 < trn P Q R) : gsum (t3 P Q R) = trn P Q R + 2 := by
  have r1 : gsum (t3 Q R P) = gsum (t3 P Q R) := gsum_congr fun p _ => t3_rot P Q R p
  have r2 : gsum (t3 R P Q) = gsum (t3 P Q R) := gsum_congr fun p _ => by rw [t3_rot Q R P, t3_rot P Q R]
  have k1 : trn Q R P = trn P Q R := trn_rot P Q R
  have k2 : trn R P Q = trn P Q R := by rw [trn_rot, trn_rot]
  have hh : ∀ {P Q R : Pt}, On P → On Q → On R → 0 < trn P Q R → Q.1 ≤ P.1 → R.1 ≤ Q.1 → gsum (t3 P Q R) = trn P Q R + 2 := fun {P Q R} hP hQ hR ha h1 h2 => by
    have := tri_sorted (ht_on hP) (ht_on hQ) (ht_on hR) (by rw [ht_trn]; exact ha) (by unfold hturn; simp only; omega) (by unfold hturn; simp only; omega)
    rw [ht_trn, ← gsum_ht] at this
    rw [← this]
    exact gsum_congr fun p _ => (t3_ht P Q R p).symm
  have c : ((P.1 ≤ Q.1 ∧ Q.1 ≤ R.1) ∨ (Q.1 ≤ R.1 ∧ R.1 ≤ P.1) ∨ (R.1 ≤ P.1 ∧ P.1 ≤ Q.1)) ∨ ((Q.1 ≤ P.1 ∧ R.1 ≤ Q.1) ∨ (R.1 ≤ Q.1 ∧ P.1 ≤ R.1) ∨ (P.1 ≤ R.1 ∧ Q.1 ≤ P.1)) := by omega
  rcases c with (c | c | c) | (c | c | c)
  · exact tri_sorted hP hQ hR ha c.1 c.2
  · rw [← r1, ← k1]; exact tri_sorted hQ hR hP (by omega) c.1 c.2
  · rw [← r2, ← k2]; exact tri_sorted hR hP hQ (by omega) c.1 c.2
  · exact hh hP hQ hR ha c.1 c.2
  · rw [← r1, ← k1]; exact hh hQ hR hP (by omega) c.1 c.2
  · rw [← r2, ← k2]; exact hh hR hP hQ (by omega) c.1 c.2
/-- What a place counts. -/
noncomputable def wt (l : List Pt) (p : Pt) : Int := sd l p + 1
theorem wt_2 {l : List Pt} {p : Pt} (h : inn l p) : wt l p = 2 := by unfold wt; rw [sd_1.2 h]; rfl
theorem wt_1 {l : List Pt} {p : Pt} (h : clo l p) (h2 : ¬ inn l p) : wt l p = 1 := by unfold wt; rw [sd_0.2 ⟨h, h2⟩]; rfl
theorem wt_0 {l : List Pt} {p : Pt} (h : ¬ clo l p) : wt l p = 0 := by
  unfold wt
  rcases sd_cases l p with e | e | e
  · exact absurd (sd_1.1 e).clo h
  · exact absurd (sd_0.1 e).1 h
  · rw [e]; rfl
theorem tri_wt {l : List Pt} (h : VP l) (h3 : l.length = 3) : gsum (wt l) = areaS l + 2 := by
  obtain ⟨A, B, C, rfl⟩ : ∃ A B C, l = [A, B, C] := by
    match l, h3 with
    | [A, B, C], _ => exact ⟨A, B, C, rfl⟩
  have e0 : ∀ p, E [A, B, C] 0 p = trn A B p := fun p => rfl
  have e1 : ∀ p, E [A, B, C] 1 p = trn B C p := fun p => rfl
  have e2 : ∀ p, E [A, B, C] 2 p = trn C A p := fun p => by unfold E; simp [pa]
  have c1 : ∀ p, inn [A, B, C] p ↔ 0 < trn A B p ∧ 0 < trn B C p ∧ 0 < trn C A p := fun p => by
    constructor
    · intro q; exact ⟨q 0 (by simp), q 1 (by simp), by rw [← e2]; exact q 2 (by simp)⟩
    · rintro ⟨q0, q1, q2⟩ i hi
      have : i = 0 ∨ i = 1 ∨ i = 2 := by simp at hi; omega
      rcases this with rfl | rfl | rfl
      · exact q0
      · exact q1
      · rw [e2]; exact q2
  have c2 : ∀ p, clo [A, B, C] p ↔ 0 ≤ trn A B p ∧ 0 ≤ trn B C p ∧ 0 ≤ trn C A p := fun p => by
    constructor
    · intro q; exact ⟨q 0 (by simp), q 1 (by simp), by rw [← e2]; exact q 2 (by simp)⟩
    · rintro ⟨q0, q1, q2⟩ i hi
      have : i = 0 ∨ i = 1 ∨ i = 2 := by simp at hi; omega
      rcases this with rfl | rfl | rfl
      · exact q0
      · exact q1
      · rw [e2]; exact q2
  have e : gsum (wt [A, B, C]) = gsum (t3 A B C) := gsum_congr fun p _ => by
    by_cases h1 : inn [A, B, C] p
    · rw [wt_2 h1]; unfold t3; rw [if_pos ((c1 p).1 h1)]
    · by_cases h2 : clo [A, B, C] p
      · rw [wt_1 h2 h1]; unfold t3; rw [if_neg (fun q => h1 ((c1 p).2 q)), if_pos ((c2 p).1 h2)]
      · rw [wt_0 h2]; unfold t3; rw [if_neg (fun q => h1 ((c1 p).2 q)), if_neg (fun q => h2 ((c2 p).2 q))]
  have ar : areaS [A, B, C] = trn A B C := by
    unfold areaS edgesL
    simp [List.range_succ, pa, arE, trn_self0, trn_self1]
  rw [e, ar]
  refine tri_any (h.on A (by simp)) (h.on B (by simp)) (h.on C (by simp)) ?_
  have := h.cv 0 2 (by simp) (by simp) (by decide) (by simp)
  exact this
theorem corner_clo {l : List Pt} (h : VP l) {x : Pt} (hx : x ∈ l) : clo l x := fun j hj => E_nn h hj hx
theorem corner_not {l : List Pt} {x : Pt} (hx : x ∈ l) : ¬ inn l x := fun hi => by
  obtain ⟨j, hj, rfl⟩ := pa_of hx
  have := hi j hj
  unfold E at this
  rw [trn_self1] at this
  omega
theorem part_clo {l a : List Pt} (h : VP l) (va : VP a) (hsub : ∀ q ∈ a, q ∈ l) {p : Pt} (hp : clo a p) : clo l p := fun j hj => by
  have := clo_le va hp (u := pa l ((j + 1) % l.length)) (w := pa l j) fun q hq => by
    have := E_nn h hj (hsub q hq)
    rw [trn_swap]; unfold E at this; omega
  rw [trn_swap] at this
  unfold E; omega
theorem cut_wt {l : List Pt} {i k m m' : Nat} (C : CutAt l i k m m') (p : Pt) : wt l p = wt (arc l i m) p + wt (arc l k m') p - ii (p = qa l i) - ii (p = qa l k) := by
  obtain ⟨h, hm, hm', hs, hk, hi, hkt⟩ := id C
  have l3 := h.l3
  have hn : 0 < l.length := by omega
  have va := arc_vp h (i := i) hm (by omega)
  have vb := arc_vp h (i := k) hm' (by omega)
  have sa : ∀ q ∈ arc l i m, q ∈ l := fun q hq => arc_mem hn hq
  have sb : ∀ q ∈ arc l k m', q ∈ l := fun q hq => arc_mem hn hq
  have ci := cut_inn C p
  have d1 := diag1 C p
  have d2 := diag2 C p
  have ia : qa l i ∈ arc l i m := mem_arc.2 ⟨0, by omega, rfl⟩
  have ka : qa l k ∈ arc l i m := mem_arc.2 ⟨m, Nat.le_refl _, hk.symm⟩
  have kb : qa l k ∈ arc l k m' := mem_arc.2 ⟨0, by omega, rfl⟩
  have ib : qa l i ∈ arc l k m' := mem_arc.2 ⟨m', Nat.le_refl _, hi.symm⟩
  have x1 : inn (arc l i m) p → ¬ clo (arc l k m') p := fun a b => by
    have e1 := a m (by rw [arc_len]; omega)
    have e2 := b m' (by rw [arc_len]; omega)
    omega
  have x2 : inn (arc l k m') p → ¬ clo (arc l i m) p := fun a b => by
    have e1 := a m' (by rw [arc_len]; omega)
    have e2 := b m (by rw [arc_len]; omega)
    omega
  have cl : clo l p ↔ clo (arc l i m) p ∨ clo (arc l k m') p := by
    constructor
    · intro q
      by_cases hz : 0 ≤ trn (qa l k) (qa l i) p
      · refine .inl fun t hturn => ?_
        rw [arc_len] at hturn
        by_cases e : t = m
        · rw [e]; omega
        · rw [part_edge1 C (by omega)]; exact q _ (Nat.mod_lt _ hn)
      · refine .inr fun t hturn => ?_
        rw [arc_len] at hturn
        by_cases e : t = m'
        · rw [e]; omega
        · rw [part_edge2 C (by omega)]; exact q _ (Nat.mod_lt _ hn)
    · rintro (q | q)
      · exact part_clo h va sa q
      · exact part_clo h vb sb q
  have dn := diag_ne C
  by_cases a1 : inn (arc l i m) p
  · have hl := ci.2 (.inl a1)
    have n1 : p ≠ qa l i := fun e => corner_not ia (e ▸ a1)
    have n2 : p ≠ qa l k := fun e => corner_not ka (e ▸ a1)
    rw [wt_2 hl, wt_2 a1, wt_0 (x1 a1), ii_f n1, ii_f n2]; rfl
  by_cases b1 : inn (arc l k m') p
  · have hl := ci.2 (.inr (.inl b1))
    have n1 : p ≠ qa l i := fun e => corner_not ib (e ▸ b1)
    have n2 : p ≠ qa l k := fun e => corner_not kb (e ▸ b1)
    rw [wt_2 hl, wt_2 b1, wt_0 (x2 b1), ii_f n1, ii_f n2]; rfl
  by_cases a2 : clo (arc l i m) p <;> by_cases b2 : clo (arc l k m') p
  · rw [wt_1 a2 a1, wt_1 b2 b1]
    by_cases n1 : p = qa l i
    · rw [ii_t n1, ii_f (fun e => dn (e.symm.trans n1)), wt_1 (cl.2 (.inl a2)) (n1 ▸ corner_not (qa_mem hn i))]; rfl
    · by_cases n2 : p = qa l k
      · rw [ii_f n1, ii_t n2, wt_1 (cl.2 (.inl a2)) (n2 ▸ corner_not (qa_mem hn k))]; rfl
      · rw [ii_f n1, ii_f n2, wt_2 (ci.2 (.inr (.inr ⟨⟨a2, b2⟩, n1, n2⟩)))]; rfl
  · have nl : ¬ inn l p := fun q => by
      rcases ci.1 q with w | w | ⟨⟨_, w⟩, _⟩
      · exact a1 w
      · exact b1 w
      · exact b2 w
    rw [wt_1 a2 a1, wt_0 b2, wt_1 (cl.2 (.inl a2)) nl, ii_f (fun e : p = qa l i => b2 (by rw [e]; exact corner_clo vb ib)), ii_f (fun e : p = qa l k => b2 (by rw [e]; exact corner_clo vb kb))]; rfl
  · have nl : ¬ inn l p := fun q => by
      rcases ci.1 q with w | w | ⟨⟨w, _⟩, _⟩
      · exact a1 w
      · exact b1 w
      · exact a2 w
    rw [wt_0 a2, wt_1 b2 b1, wt_1 (cl.2 (.inr b2)) nl, ii_f (fun e : p = qa l i => a2 (by rw [e]; exact corner_clo va ia)), ii_f (fun e : p = qa l k => a2 (by rw [e]; exact corner_clo va ka))]; rfl
  · have nl : ¬ clo l p := fun q => by
      rcases cl.1 q with w | w
      · exact a2 w
      · exact b2 w
    rw [wt_0 a2, wt_0 b2, wt_0 nl, ii_f (fun e : p = qa l i => a2 (by rw [e]; exact corner_clo va ia)), ii_f (fun e : p = qa l k => a2 (by rw [e]; exact corner_clo va ka))]; rfl
/-- Pick's theorem. -/
theorem pick_wt : ∀ (n : Nat) (l : List Pt), l.length = n + 3 → VP l → gsum (wt l) = areaS l + 2
  | 0, l, hl, h => tri_wt h hl
  | n + 1, l, hl, h => by
    have hi : 0 < l.length := by omega
    have hk : 2 < l.length := by omega
    have s1 : stp l.length 0 2 = 2 := by unfold stp; rw [Nat.mod_eq_sub_mod (by omega), Nat.mod_eq_of_lt (by omega)]; omega
    have s2 : stp l.length 2 0 = n + 2 := by unfold stp; rw [Nat.mod_eq_of_lt (by omega)]; omega
    have C : CutAt l 0 2 2 (n + 2) := by
      refine ⟨h, by omega, by omega, by omega, rfl, ?_, fun t => by rw [Nat.zero_add]⟩
      rw [show 2 + (n + 2) = 0 + l.length by omega, qa_add]
    have su := (cut_sums l hi hk (by omega)).1
    rw [s1, s2] at su
    have w1 := tri_wt (arc_vp h (i := 0) (m := 2) (by omega) (by omega)) (by rw [arc_len])
    have w2 := pick_wt n (arc l 2 (n + 2)) (by rw [arc_len]) (arc_vp h (by omega) (by omega))
    have e : gsum (wt l) = gsum (fun p => wt (arc l 0 2) p + wt (arc l 2 (n + 2)) p - ii (p = qa l 0) - ii (p = qa l 2)) := gsum_congr fun p _ => cut_wt C p
    rw [e, gsum_sub (fun p => wt (arc l 0 2) p + wt (arc l 2 (n + 2)) p - ii (p = qa l 0)), gsum_sub (fun p => wt (arc l 0 2) p + wt (arc l 2 (n + 2)) p), gsum_add (wt (arc l 0 2)), gsum_pt (h.on _ (qa_mem hi 0)), gsum_pt (h.on _ (qa_mem hi 2)), w1, w2]
    omega
end Go.Proofs.Ytojciffnkbfbhaa.Am
