import Derived.Test.YtojciffnkbfbhaaMG
/-
  Plain laws: the seam of two polygons.
-/
namespace Go.Proofs.Ytojciffnkbfbhaa.Am
set_option linter.unusedSimpArgs false
set_option linter.unusedVariables false
/-- On both closed polygons. -/
def Bth (a b : List Pt) (p : Pt) : Prop := clo a p ∧ clo b p
/-- A polygon on one side of a line, with two places on it, has an edge there. -/
theorem support {b : List Pt} (h : VP b) {P Q : Pt} (hne : P ≠ Q) (hs : ∀ q ∈ b, trn P Q q ≤ 0) (hsm : Sml P ∧ Sml Q) {p1 p2 : Pt} (hp : p1 ≠ p2) (s1 : Sml p1) (c1 : clo b p1) (c2 : clo b p2) (z1 : trn P Q p1 = 0) (z2 : trn P Q p2 = 0) (s2 : Sml p2) :
    ∃ t, t < b.length ∧ trn P Q (pa b t) = 0 ∧ trn P Q (pa b ((t + 1) % b.length)) = 0 := by
  have l3 := h.l3
  have hn : 0 < b.length := by omega
  -- a corner on the line
  have one : ∀ p, clo b p → trn P Q p = 0 → ∃ x, x < b.length ∧ trn P Q (pa b x) = 0 := fun p hc hz => by
    by_cases hex : ∃ x, x < b.length ∧ trn P Q (pa b x) = 0
    · exact hex
    · exact absurd (clo_half h hc (g := (Q.2 - P.2, P.1 - Q.1)) fun q hq => by
        rw [trn_lin, hz]
        obtain ⟨x, hx, rfl⟩ := pa_of hq
        have := hs _ hq
        have : trn P Q (pa b x) ≠ 0 := fun e => hex ⟨x, hx, e⟩
        omega) id
  -- two of them
  have two : ∃ x y, x < y ∧ y < b.length ∧ trn P Q (pa b x) = 0 ∧ trn P Q (pa b y) = 0 := by
    obtain ⟨x, hx, ex⟩ := one p1 c1 z1
    by_cases hex : ∃ y, y < b.length ∧ y ≠ x ∧ trn P Q (pa b y) = 0
    · obtain ⟨y, hy, hyx, ey⟩ := hex
      rcases Nat.lt_or_gt_of_ne hyx with q | q
      · exact ⟨y, x, q, hx, ey, ex⟩
      · exact ⟨x, y, q, hy, ex, ey⟩
    · exfalso
      have lone : ∀ p, Sml p → clo b p → trn P Q p = 0 → p = pa b x := fun p sp hc hz => by
        by_cases e : p = pa b x
        · exact e
        exfalso
        refine clo_half h hc (g := (10000000 * (Q.2 - P.2) + ((pa b x).1 - p.1), 10000000 * (P.1 - Q.1) + ((pa b x).2 - p.2))) fun q hq => ?_
        have el : lin (10000000 * (Q.2 - P.2) + ((pa b x).1 - p.1), 10000000 * (P.1 - Q.1) + ((pa b x).2 - p.2)) p q = 10000000 * (trn P Q p - trn P Q q) + (((pa b x).1 - p.1) * (q.1 - p.1) + ((pa b x).2 - p.2) * (q.2 - p.2)) := by
          unfold lin trn; grind
        rw [el, hz]
        obtain ⟨y, hy, rfl⟩ := pa_of hq
        by_cases hyx : y = x
        · subst hyx
          rw [ex]
          have := dst_pos e
          have e2 : ((pa b y).1 - p.1) * ((pa b y).1 - p.1) + ((pa b y).2 - p.2) * ((pa b y).2 - p.2) = dst p (pa b y) := by unfold dst; grind
          omega
        · have n0 : trn P Q (pa b y) ≠ 0 := fun e => hex ⟨y, hy, hyx, e⟩
          have n1 := hs _ hq
          have sx := h.sml _ (pa_mem hx)
          have sy := h.sml _ (pa_mem hy)
          unfold Sml at sx sy sp
          have b1 := mulb (x := (pa b x).1 - p.1) (y := (pa b y).1 - p.1) (by omega) (by omega)
          have b2 := mulb (x := (pa b x).2 - p.2) (y := (pa b y).2 - p.2) (by omega) (by omega)
          omega
      exact hp ((lone p1 s1 c1 z1).trans (lone p2 s2 c2 z2).symm)
  obtain ⟨x, y, hxy, hy, ex, ey⟩ := two
  by_cases adj : y = x + 1
  · exact ⟨x, by omega, ex, by rw [Nat.mod_eq_of_lt (by omega), ← adj]; exact ey⟩
  by_cases adj2 : x = 0 ∧ y + 1 = b.length
  · exact ⟨y, hy, ey, by rw [adj2.2, Nat.mod_self, ← adj2.1]; exact ex⟩
  exfalso
  -- corners on both sides of the line
  have hxne : pa b x ≠ pa b y := fun e => by
    have := triple h.cv x 1 (by omega) (y - x - 2) (by omega)
    rw [show x + (1 + (y - x - 2) + 1) = y by omega, qa_lt hy, qa_lt (by omega : x < b.length), e, trn_self1] at this
    omega
  have t1 := triple h.cv x 1 (by omega) (y - x - 2) (by omega)
  rw [show x + (1 + (y - x - 2) + 1) = y by omega, qa_lt hy, qa_lt (by omega : x < b.length)] at t1
  obtain ⟨w, hw1, hw2⟩ : ∃ w, y - x < w ∧ w < b.length := ⟨y - x + 1, by omega, by omega⟩
  have t2 := triple h.cv x (y - x) (by omega) (w - (y - x) - 1) (by omega)
  rw [show x + (y - x + (w - (y - x) - 1) + 1) = x + w by omega, show x + (y - x) = y by omega, qa_lt hy, qa_lt (by omega : x < b.length)] at t2
  have r1 := line_s P Q (pa b x) (pa b y) (qa b (x + 1)) ex ey
  have r2 := line_s P Q (pa b x) (pa b y) (qa b (x + w)) ex ey
  have D := dd_pos hne
  have k1 := hs _ (qa_mem hn (x + 1))
  have k2 := hs _ (qa_mem hn (x + w))
  have e1 : trn (pa b x) (pa b y) (qa b (x + 1)) = - trn (pa b x) (qa b (x + 1)) (pa b y) := by unfold trn; grind
  rw [e1] at r1
  generalize dd P Q (pa b y) - dd P Q (pa b x) = s at *
  generalize dd P Q Q = D' at *
  generalize trn (pa b x) (qa b (x + 1)) (pa b y) = A at *
  generalize trn (pa b x) (pa b y) (qa b (x + w)) = B at *
  generalize trn P Q (qa b (x + 1)) = f1 at *
  generalize trn P Q (qa b (x + w)) = f2 at *
  have m1 := Int.mul_pos t1 D
  have m2 := Int.mul_pos t2 D
  have m3 : f1 * s < 0 := by rw [← r1, Int.neg_mul]; omega
  have m4 : 0 < f2 * s := by omega
  rcases Int.lt_or_le 0 s with q | q
  · have := Int.mul_nonneg (show 0 ≤ -f2 by omega) (Int.le_of_lt q)
    rw [Int.neg_mul] at this; omega
  · have := Int.mul_nonneg (show 0 ≤ -f1 by omega) (show 0 ≤ -s by omega)
    rw [Int.neg_mul_neg] at this; omega
theorem cand_some {e f : Pt × Pt} {s : Pt × Pt} (h : cand e f = some s) : trn e.1 e.2 f.1 = 0 ∧ trn e.1 e.2 f.2 = 0 ∧ (comS e.1 e.2 f.1 f.2).1 ≠ (comS e.1 e.2 f.1 f.2).2 ∧ lexle (comS e.1 e.2 f.1 f.2).1 (comS e.1 e.2 f.1 f.2).2 ∧ s = (if 0 < ordS e.1 e.2 then ((comS e.1 e.2 f.1 f.2).2, (comS e.1 e.2 f.1 f.2).1) else comS e.1 e.2 f.1 f.2) := by
  unfold cand at h
  split at h
  · cases h
  · rename_i h1
    split at h
    · cases h
    · rename_i h2
      refine ⟨?_, ?_, fun q => h2 (.inl q), lexle_ord.2 fun q => h2 (.inr q), ?_⟩
      · by_cases z : trn e.1 e.2 f.1 = 0
        · exact z
        · exact absurd (.inl z) h1
      · by_cases z : trn e.1 e.2 f.2 = 0
        · exact z
        · exact absurd (.inr z) h1
      · split at h
        · rename_i h3; rw [if_pos h3]; exact (Option.some.inj h).symm
        · rename_i h3; rw [if_neg h3]; exact (Option.some.inj h).symm
theorem cand_of {e f : Pt × Pt} (h1 : trn e.1 e.2 f.1 = 0) (h2 : trn e.1 e.2 f.2 = 0) (h3 : (comS e.1 e.2 f.1 f.2).1 ≠ (comS e.1 e.2 f.1 f.2).2) (h4 : lexle (comS e.1 e.2 f.1 f.2).1 (comS e.1 e.2 f.1 f.2).2) : cand e f = some (if 0 < ordS e.1 e.2 then ((comS e.1 e.2 f.1 f.2).2, (comS e.1 e.2 f.1 f.2).1) else comS e.1 e.2 f.1 f.2) := by
  unfold cand
  rw [if_neg (by omega), if_neg (by
    rintro (q | q)
    · exact h3 q
    · exact lexle_ord.1 h4 q)]
  split <;> rfl
/-- The places of both segments. -/
theorem com_mem {P Q R S p : Pt} : (lexle (comS P Q R S).1 p ∧ lexle p (comS P Q R S).2) ↔ btw P Q p ∧ btw R S p := by
  unfold comS
  rw [btw_lohi, btw_lohi, le_max, le_min]
  constructor
  · rintro ⟨⟨a, b⟩, c, d⟩; exact ⟨⟨a, c⟩, b, d⟩
  · rintro ⟨⟨a, c⟩, b, d⟩; exact ⟨⟨a, b⟩, c, d⟩
theorem com_on {P Q R S : Pt} (hR : trn P Q R = 0) (hS : trn P Q S = 0) : trn P Q (comS P Q R S).1 = 0 ∧ trn P Q (comS P Q R S).2 = 0 := by
  have h1 : ∀ u v : Pt, trn P Q u = 0 → trn P Q v = 0 → trn P Q (lo u v) = 0 ∧ trn P Q (Am.hi u v) = 0 ∧ trn P Q (maxO u v) = 0 ∧ trn P Q (minO u v) = 0 := fun u v a b => by
    unfold lo Am.hi maxO minO
    refine ⟨?_, ?_, ?_, ?_⟩ <;> split <;> assumption
  have a := h1 P Q (trn_self1 P Q) (trn_self2 P Q)
  have b := h1 R S hR hS
  exact ⟨(h1 _ _ a.1 b.1).2.2.1, (h1 _ _ a.2.1 b.2.1).2.2.2⟩
section
variable {a b : List Pt}
/-- If an edge of the first polygon separates, two places on both make a seam. -/
theorem seam_of1 (ha : VP a) (hb : VP b) {j : Nat} (hj : j < a.length) (hs : sep a j b) {p1 p2 : Pt} (hne : p1 ≠ p2) (b1 : Bth a b p1) (b2 : Bth a b p2) (s1 : Sml p1) (s2 : Sml p2) :
    ∃ t, t < b.length ∧ trn (pa a j) (pa a ((j + 1) % a.length)) (pa b t) = 0 ∧ trn (pa a j) (pa a ((j + 1) % a.length)) (pa b ((t + 1) % b.length)) = 0 ∧ E a j p1 = 0 ∧ E a j p2 = 0 := by
  have hm : (j + 1) % a.length < a.length := Nat.mod_lt _ (by omega)
  have z1 : E a j p1 = 0 := by
    have := b1.1 j hj
    have := clo_le hb b1.2 hs
    unfold E at *; omega
  have z2 : E a j p2 = 0 := by
    have := b2.1 j hj
    have := clo_le hb b2.2 hs
    unfold E at *; omega
  obtain ⟨t, ht, e1, e2⟩ := support hb (ha.ne hj) hs ⟨ha.sml _ (pa_mem hj), ha.sml _ (pa_mem hm)⟩ hne s1 b1.2 b2.2 z1 z2 s2
  exact ⟨t, ht, e1, e2, z1, z2⟩
/-- Two places on both make a seam. -/
theorem seam_two (ha : VP a) (hb : VP b) (hap : apart a b) {p1 p2 : Pt} (hne : p1 ≠ p2) (b1 : Bth a b p1) (b2 : Bth a b p2) (s1 : Sml p1) (s2 : Sml p2) : ∃ e ∈ edgesL a, ∃ f ∈ edgesL b, ∃ s, cand e f = some s := by
  have key : ∃ j t, j < a.length ∧ t < b.length ∧ trn (pa a j) (pa a ((j + 1) % a.length)) (pa b t) = 0 ∧ trn (pa a j) (pa a ((j + 1) % a.length)) (pa b ((t + 1) % b.length)) = 0 ∧ (E a j p1 = 0 ∧ E a j p2 = 0) ∧ E b t p1 = 0 ∧ E b t p2 = 0 := by
    rcases hap with ⟨j, hj, hs⟩ | ⟨t, ht, hs⟩
    · obtain ⟨t, ht, e1, e2, z1, z2⟩ := seam_of1 ha hb hj hs hne b1 b2 s1 s2
      refine ⟨j, t, hj, ht, e1, e2, ⟨z1, z2⟩, ?_, ?_⟩
      · exact (same_line (ha.ne hj) (hb.ne ht) e1 e2).2 z1
      · exact (same_line (ha.ne hj) (hb.ne ht) e1 e2).2 z2
    · obtain ⟨j, hj, e1, e2, z1, z2⟩ := seam_of1 hb ha ht hs hne ⟨b1.2, b1.1⟩ ⟨b2.2, b2.1⟩ s1 s2
      have L := fun x => same_line (x := x) (hb.ne ht) (ha.ne hj) e1 e2
      exact ⟨j, t, hj, ht, (L _).2 (trn_self1 _ _), (L _).2 (trn_self2 _ _), ⟨(L _).2 z1, (L _).2 z2⟩, z1, z2⟩
  obtain ⟨j, t, hj, ht, e1, e2, ⟨z1, z2⟩, w1, w2⟩ := key
  have m1 := com_mem.2 ⟨(seg_iff ha hj z1).1 b1.1, (seg_iff hb ht w1).1 b1.2⟩
  have m2 := com_mem.2 ⟨(seg_iff ha hj z2).1 b2.1, (seg_iff hb ht w2).1 b2.2⟩
  refine ⟨_, mem_edges.2 ⟨j, hj, rfl⟩, _, mem_edges.2 ⟨t, ht, rfl⟩, _, cand_of e1 e2 (fun q => ?_) (lexle_trans m1.1 m1.2)⟩
  simp only at q m1 m2
  rw [← q] at m1 m2
  exact hne ((lexle_anti m1.2 m1.1).trans (lexle_anti m2.2 m2.1).symm)
/-- What a seam is. -/
structure SeamOK (a b : List Pt) (s : Pt × Pt) : Prop where
  ne : s.1 ≠ s.2
  on : ∀ p, (clo a p ∧ ¬ inn a p) ∧ (clo b p ∧ ¬ inn b p) ↔ trn s.1 s.2 p = 0 ∧ btw s.1 s.2 p
  left : ∀ x ∈ a, 0 ≤ trn s.1 s.2 x
theorem cand_ok (ha : VP a) (hb : VP b) (hap : apart a b) {j t : Nat} (hj : j < a.length) (ht : t < b.length) {s : Pt × Pt} (hc : cand (pa a j, pa a ((j + 1) % a.length)) (pa b t, pa b ((t + 1) % b.length)) = some s) :
    SeamOK a b s ∧ (dd (pa a j) (pa a ((j + 1) % a.length)) (pa b ((t + 1) % b.length)) < dd (pa a j) (pa a ((j + 1) % a.length)) (pa b t)) ∧ (trn (pa a j) (pa a ((j + 1) % a.length)) s.1 = 0 ∧ trn (pa a j) (pa a ((j + 1) % a.length)) s.2 = 0) ∧ Bth a b s.1 ∧ Bth a b s.2 := by
  obtain ⟨zR, zS, ne, le, hs⟩ := cand_some hc
  simp only at zR zS ne le hs
  have hmj : (j + 1) % a.length < a.length := Nat.mod_lt _ (by omega)
  have hmt : (t + 1) % b.length < b.length := Nat.mod_lt _ (by omega)
  have nPQ := ha.ne hj
  have nRS := hb.ne ht
  have L := fun x => same_line (x := x) nPQ nRS zR zS
  have D := dd_pos nPQ
  obtain ⟨zf, zt⟩ := com_on zR zS
  -- the two ends are on both
  have mf := com_mem.1 ⟨lexle_refl _, le⟩
  have mt := com_mem.1 ⟨le, lexle_refl _⟩
  have cf : Bth a b (comS (pa a j) (pa a ((j + 1) % a.length)) (pa b t) (pa b ((t + 1) % b.length))).1 := ⟨(seg_iff ha hj zf).2 mf.1, (seg_iff hb ht ((L _).2 zf)).2 mf.2⟩
  have ct : Bth a b (comS (pa a j) (pa a ((j + 1) % a.length)) (pa b t) (pa b ((t + 1) % b.length))).2 := ⟨(seg_iff ha hj zt).2 mt.1, (seg_iff hb ht ((L _).2 zt)).2 mt.2⟩
  have cm : ∀ p, (lexle (comS (pa a j) (pa a ((j + 1) % a.length)) (pa b t) (pa b ((t + 1) % b.length))).1 p ∧ lexle p (comS (pa a j) (pa a ((j + 1) % a.length)) (pa b t) (pa b ((t + 1) % b.length))).2) ↔ btw (pa a j) (pa a ((j + 1) % a.length)) p ∧ btw (pa b t) (pa b ((t + 1) % b.length)) p := fun p => com_mem
  generalize comS (pa a j) (pa a ((j + 1) % a.length)) (pa b t) (pa b ((t + 1) % b.length)) = c at *
  -- only one edge is on this line
  have uniq : ∀ {l : List Pt} (h : VP l) {g i : Nat} (hg : g < l.length) (hi : i < l.length), E l g c.1 = 0 → E l g c.2 = 0 → E l i c.1 = 0 → E l i c.2 = 0 → g = i := by
    intro l h g i hg hi g1 g2 i1 i2
    have l3 := h.l3
    have A := fun x => same_line (x := x) (h.ne hi) ne i1 i2
    have B := fun x => same_line (x := x) (h.ne hg) ne g1 g2
    have hmi : (i + 1) % l.length < l.length := Nat.mod_lt _ (by omega)
    have p1 := E_corner h hg hi ((B _).1 ((A _).2 (trn_self1 _ _)))
    have p2 := E_corner h hg hmi ((B _).1 ((A _).2 (trn_self2 _ _)))
    rcases p1 with p1 | p1
    · exact p1.symm
    · rcases p2 with p2 | p2
      · exfalso
        rw [p1, Nat.mod_add_mod] at p2
        have := mod_ne (s := g) (n := l.length) (a := 2) (b := 0) (by omega) (by omega) (by omega)
        rw [Nat.add_zero g, Nat.mod_eq_of_lt hg] at this
        exact this p2
      · exfalso
        rw [p1, Nat.mod_add_mod] at p2
        have := mod_ne (s := g) (n := l.length) (a := 2) (b := 1) (by omega) (by omega) (by omega)
        exact this p2
  have rel : ∀ x, E b t x * dd (pa a j) (pa a ((j + 1) % a.length)) (pa a ((j + 1) % a.length)) = E a j x * (dd (pa a j) (pa a ((j + 1) % a.length)) (pa b ((t + 1) % b.length)) - dd (pa a j) (pa a ((j + 1) % a.length)) (pa b t)) := fun x => line_s _ _ _ _ x zR zS
  have zero0 : ∀ p, clo a p → clo b p → sep a j b → E a j p = 0 := fun p h1 h2 h3 => by
    have := h1 j hj
    have := clo_le hb h2 h3
    unfold E at *; omega
  -- the second polygon is on the other side
  have opp : sep a j b := by
    rcases hap with ⟨g, hg, hsg⟩ | ⟨g, hg, hsg⟩
    · have v : ∀ p, Bth a b p → E a g p = 0 := fun p hp => by
        have := hp.1 g hg
        have := clo_le hb hp.2 hsg
        unfold E at *; omega
      rw [← uniq ha hg hj (v _ cf) (v _ ct) zf zt]
      exact hsg
    · have v : ∀ p, Bth a b p → E b g p = 0 := fun p hp => by
        have := hp.2 g hg
        have := clo_le ha hp.1 hsg
        unfold E at *; omega
      have e := uniq hb hg ht (v _ cf) (v _ ct) ((L _).2 zf) ((L _).2 zt)
      rw [e] at hsg
      obtain ⟨x, hx, px⟩ := E_other ha hj
      have r := rel x
      have := hsg x hx
      generalize dd (pa a j) (pa a ((j + 1) % a.length)) (pa b ((t + 1) % b.length)) - dd (pa a j) (pa a ((j + 1) % a.length)) (pa b t) = k at *
      have k1 := Int.mul_nonneg (show 0 ≤ - E b t x by omega) (Int.le_of_lt D)
      rw [Int.neg_mul] at k1
      have k0 : k ≤ 0 := by
        rcases Int.lt_or_le 0 k with q | q
        · have := Int.mul_pos px q; omega
        · exact q
      intro q hq
      have r2 := rel q
      have nn := E_nn hb ht hq
      rcases Int.lt_or_le 0 (E a j q) with z | z
      · exfalso
        by_cases kz : k = 0
        · obtain ⟨y, hy, py⟩ := E_other hb ht
          have r3 := rel y
          rw [kz, Int.mul_zero] at r3
          have := Int.mul_pos py D
          omega
        · have m1 := Int.mul_pos z (show 0 < -k by omega)
          rw [Int.mul_neg] at m1
          have m2 := Int.mul_nonneg nn (Int.le_of_lt D)
          omega
      · exact z
  have kneg : dd (pa a j) (pa a ((j + 1) % a.length)) (pa b ((t + 1) % b.length)) - dd (pa a j) (pa a ((j + 1) % a.length)) (pa b t) < 0 := by
    obtain ⟨y, hy, py⟩ := E_other hb ht
    have r := rel y
    have o := opp y hy
    have m1 := Int.mul_pos py D
    generalize dd (pa a j) (pa a ((j + 1) % a.length)) (pa b ((t + 1) % b.length)) - dd (pa a j) (pa a ((j + 1) % a.length)) (pa b t) = k at *
    rcases Int.lt_or_le k 0 with q | q
    · exact q
    · have := Int.mul_nonneg (show 0 ≤ - E a j y by omega) q
      rw [Int.neg_mul] at this; omega
  -- the places on both
  have X : ∀ p, (clo a p ∧ ¬ inn a p) ∧ (clo b p ∧ ¬ inn b p) ↔ E a j p = 0 ∧ lexle c.1 p ∧ lexle p c.2 := fun p => by
    constructor
    · rintro ⟨⟨h1, _⟩, h2, _⟩
      have z := zero0 p h1 h2 opp
      exact ⟨z, (cm p).2 ⟨(seg_iff ha hj z).1 h1, (seg_iff hb ht ((L p).2 z)).1 h2⟩⟩
    · rintro ⟨z, hm⟩
      have := (cm p).1 hm
      have z2 : E b t p = 0 := (L p).2 z
      refine ⟨⟨(seg_iff ha hj z).2 this.1, fun hi => ?_⟩, (seg_iff hb ht z2).2 this.2, fun hi => ?_⟩
      · have := hi j hj; omega
      · have := hi t ht; omega
  have key : ∀ u w : Pt, u ≠ w → trn (pa a j) (pa a ((j + 1) % a.length)) u = 0 → trn (pa a j) (pa a ((j + 1) % a.length)) w = 0 → dd (pa a j) (pa a ((j + 1) % a.length)) u ≤ dd (pa a j) (pa a ((j + 1) % a.length)) w → ∀ x ∈ a, 0 ≤ trn u w x := fun u w huw zu zw hle x hx => by
    have r := line_s _ _ u w x zu zw
    have n := E_nn ha hj hx
    have := Int.mul_nonneg n (show 0 ≤ dd (pa a j) (pa a ((j + 1) % a.length)) w - dd (pa a j) (pa a ((j + 1) % a.length)) u by omega)
    unfold E at this
    exact nn_of_mul D (by rw [Int.mul_comm]; omega)
  by_cases hg : 0 < ordS (pa a j) (pa a ((j + 1) % a.length))
  · rw [if_pos hg] at hs
    subst hs
    have hQP : lexle (pa a ((j + 1) % a.length)) (pa a j) := by rw [ord_gt] at hg; unfold lexle; omega
    have s1 : trn (pa a ((j + 1) % a.length)) (pa a j) c.1 = 0 := by rw [trn_swap]; omega
    have s2 : trn (pa a ((j + 1) % a.length)) (pa a j) c.2 = 0 := by rw [trn_swap]; omega
    have o := (dd_lex (Ne.symm nPQ) hQP s1 s2).2 le
    have ee : ∀ x, dd (pa a ((j + 1) % a.length)) (pa a j) x = dd (pa a j) (pa a ((j + 1) % a.length)) (pa a ((j + 1) % a.length)) - dd (pa a j) (pa a ((j + 1) % a.length)) x := fun x => by unfold dd; grind
    rw [ee, ee] at o
    refine ⟨⟨Ne.symm ne, fun p => ?_, key c.2 c.1 (Ne.symm ne) zt zf (by omega)⟩, by omega, ⟨zt, zf⟩, ct, cf⟩
    rw [X p]
    have sl := same_line (x := p) nPQ (Ne.symm ne) zt zf
    constructor
    · rintro ⟨q1, q2, q3⟩; exact ⟨sl.2 q1, .inr ⟨q2, q3⟩⟩
    · rintro ⟨q1, q2 | q2⟩
      · exact absurd (lexle_anti le (lexle_trans q2.1 q2.2)) ne
      · exact ⟨sl.1 q1, q2⟩
  · rw [if_neg hg] at hs
    subst hs
    have hPQ : lexle (pa a j) (pa a ((j + 1) % a.length)) := lexle_ord.2 hg
    have o := (dd_lex nPQ hPQ zf zt).2 le
    refine ⟨⟨ne, fun p => ?_, key _ _ ne zf zt o⟩, by omega, ⟨zf, zt⟩, cf, ct⟩
    rw [X p]
    have sl := same_line (x := p) nPQ ne zf zt
    constructor
    · rintro ⟨q1, q2, q3⟩; exact ⟨sl.2 q1, .inl ⟨q2, q3⟩⟩
    · rintro ⟨q1, q2 | q2⟩
      · exact ⟨sl.1 q1, q2⟩
      · exact absurd (lexle_anti le (lexle_trans q2.1 q2.2)) ne
end
end Go.Proofs.Ytojciffnkbfbhaa.Am
