/-
  The abstract machine, part 17: a region that draws its order, run in any order.
-/
import Derived.Test.YtmmfbjmjhjmccaaAm16
namespace Go.Proofs.Ytmmfbjmjhjmccaa.Am
set_option linter.unusedSimpArgs false
set_option linter.unusedVariables false
open Go

/-- All that must hold of the records. -/
structure Good (P : Program) (S : Tab) (nt : Nat) (bs ver n : Nat) (ops : Array Oper) (B : List Nat) (rec : Nat → Rec) (env0 : Env) (hp0 : Hp) (ao : Nat → AOp) : Prop where
  sz : ops.size = n
  bef : ∀ i o, ops[i]? = some o → (∀ e ∈ edgesOf o, e < i) ∧ B.getD i 0 = maskOf B (edgesOf o)
  op : ∀ i o, ops[i]? = some o → cOp P nt ops o = some (ao i)
  run : ∀ i, i < n → ∃ vc : Prop, vc ∧ exop S (bs + i, ver) (envL rec env0 (down i)) (hpL rec hp0 (down i)) (ao i) = some (vc, (rec i).r, (rec i).ws) ∧ (rec i).d = (ao i).d ∧ (rec i).rd = rdO (envL rec env0 (down i)) (hpL rec hp0 (down i)) (ao i)
  tmp : ∀ k j, k < j → j < n → (B.getD j 0).testBit k = true ∨ tFree (ao k) (ao j) = true
  mem : ∀ k j, k < j → j < n → (B.getD j 0).testBit k = true ∨ disj (rec k) (rec j) = true ∨ ((rec k).ws = [] ∧ (rec j).ws = []) ∨ ((rec j).ws = [] ∧ (rec j).rd = []) ∨ ((rec k).ws = [] ∧ (rec k).rd = [])

/-- What has been done, the last first. -/
structure Done (n : Nat) (B : List Nat) (L : List Nat) : Prop where
  lt : ∀ i ∈ L, i < n
  cl : ∀ j ∈ L, ∀ k, (B.getD j 0).testBit k = true → k ∈ L
  pw : L.Pairwise fun a b => a ≠ b ∧ ¬ (B.getD b 0).testBit a = true

section
variable {P : Program} {S : Tab} {nt bs ver n : Nat} {ops : Array Oper} {B : List Nat} {rec : Nat → Rec} {env0 : Env} {hp0 : Hp} {ao : Nat → AOp} {L : List Nat}

theorem Good.bit (G : Good P S nt bs ver n ops B rec env0 hp0 ao) {i k : Nat} {o : Oper} (ho : ops[i]? = some o) : (B.getD i 0).testBit k = true ↔ ∃ e ∈ edgesOf o, k = e ∨ (B.getD e 0).testBit k = true := by
  rw [(G.bef i o ho).2, maskOf, mask_bit]
  simp

/-- Before j, in every order. -/
theorem Good.all (G : Good P S nt bs ver n ops B rec env0 hp0 ao) {L : List Nat} (hD : Done n B L) {j : Nat} {o : Oper} (ho : ops[j]? = some o) (he : ∀ e ∈ edgesOf o, e ∈ L) : ∀ k, (B.getD j 0).testBit k = true → k ∈ L := by
  intro k hk
  obtain ⟨e, h1, h2⟩ := (G.bit ho).1 hk
  rcases h2 with rfl | h2
  · exact he _ h1
  · exact hD.cl e (he e h1) k h2

theorem Done.cons (hD : Done n B L) {j : Nat} (hj : j < n) (hn : j ∉ L) (ha : ∀ k, (B.getD j 0).testBit k = true → k ∈ L) : Done n B (j :: L) where
  lt i hi := by rcases List.mem_cons.1 hi with rfl | h; exact hj; exact hD.lt i h
  cl i hi k hk := by
    rcases List.mem_cons.1 hi with rfl | h
    · exact List.mem_cons_of_mem _ (ha k hk)
    · exact List.mem_cons_of_mem _ (hD.cl i h k hk)
  pw := List.pairwise_cons.2 ⟨fun b hb => ⟨fun e => hn (e ▸ hb), fun h => hn (hD.cl b hb j h)⟩, hD.pw⟩

/-- Those of which each pair is ordered stand in the order of the text. -/
theorem Done.sorted (hD : Done n B L) {p : Nat → Bool} (hp : ∀ k j, k < j → j < n → p k = true → p j = true → (B.getD j 0).testBit k = true) : (L.filter p).Pairwise (· > ·) := by
  rw [List.pairwise_filter]
  refine hD.pw.imp_of_mem ?_
  intro a b ha hb ⟨h1, h2⟩ pa pb
  rcases Nat.lt_trichotomy a b with h | h | h
  · exact absurd (hp a b h (hD.lt b hb) pa pb) h2
  · exact absurd h h1
  · exact h

theorem Good.env_pairs (G : Good P S nt bs ver n ops B rec env0 hp0 ao) (t : Nat) : ∀ k j, k < j → j < n → decide ((rec k).d = some t) = true → decide ((rec j).d = some t) = true → (B.getD j 0).testBit k = true := by
  intro k j hk hj h1 h2
  simp only [decide_eq_true_eq] at h1 h2
  obtain ⟨_, _, _, d1, _⟩ := G.run k (by omega)
  obtain ⟨_, _, _, d2, _⟩ := G.run j hj
  rcases G.tmp k j hk hj with h | h
  · exact h
  · exact absurd (d2 ▸ h2) ((tFree_spec h).1 t (d1 ▸ h1)).2

theorem Good.hp_pairs (G : Good P S nt bs ver n ops B rec env0 hp0 ao) (l : Loc) : ∀ k j, k < j → j < n → hasL l (rec k).ws = true → hasL l (rec j).ws = true → (B.getD j 0).testBit k = true := by
  intro k j hk hj h1 h2
  rcases G.mem k j hk hj with h | h | h | h | h
  · exact h
  · rw [((disj_spec h l).1 h1).2] at h2; simp at h2
  · rw [h.1] at h1; simp [hasL] at h1
  · rw [h.1] at h2; simp [hasL] at h2
  · rw [h.1] at h1; simp [hasL] at h1

/-- The next one sees what it sees in the order of the text. -/
theorem Good.same (G : Good P S nt bs ver n ops B rec env0 hp0 ao) {L : List Nat} (hD : Done n B L) {j : Nat} (hj : j < n) (hn : j ∉ L) (ha : ∀ k, (B.getD j 0).testBit k = true → k ∈ L) :
    exop S (bs + j, ver) (envL rec env0 L) (hpL rec hp0 L) (ao j) = exop S (bs + j, ver) (envL rec env0 (down j)) (hpL rec hp0 (down j)) (ao j) := by
  symm
  refine exop_congr (fun t ht => ?_) fun t ht l hl' => ?_
  · rw [envL_filter L, envL_filter (down j)]
    rw [filter_eq (j := j) (hD.sorted (G.env_pairs t)) fun i hi => ?_]
    simp only [decide_eq_true_eq] at hi
    constructor
    · intro hL
      rcases Nat.lt_trichotomy i j with h | h | h
      · exact h
      · subst h; exact absurd hL hn
      · rcases G.tmp j i h (hD.lt i hL) with g | g
        · exact absurd (hD.cl i hL j g) hn
        · obtain ⟨_, _, _, d1, _⟩ := G.run i (hD.lt i hL)
          exact absurd ht ((tFree_spec g).2 t (d1 ▸ hi))
    · intro h
      rcases G.tmp i j h hj with g | g
      · exact ha i g
      · obtain ⟨_, _, _, d1, _⟩ := G.run i (by omega)
        exact absurd ht ((tFree_spec g).1 t (d1 ▸ hi)).1
  · obtain ⟨_, _, _, _, hrd⟩ := G.run j hj
    rw [← hrd] at ht
    rw [hpL_filter L, hpL_filter (down j)]
    rw [filter_eq (j := j) (hD.sorted (G.hp_pairs l)) fun i hi => ?_]
    constructor
    · intro hL
      rcases Nat.lt_trichotomy i j with h | h | h
      · exact h
      · subst h; exact absurd hL hn
      · rcases G.mem j i h (hD.lt i hL) with g | g | g | g | g
        · exact absurd (hD.cl i hL j g) hn
        · exact absurd hl' ((disj_spec g l).2 hi t ht)
        · rw [g.2] at hi; simp [hasL] at hi
        · rw [g.1] at hi; simp [hasL] at hi
        · rw [g.2] at ht; simp at ht
    · intro h
      rcases G.mem i j h hj with g | g | g | g | g
      · exact ha i g
      · exact absurd hl' (((disj_spec g l).1 hi).1 t ht)
      · rw [g.1] at hi; simp [hasL] at hi
      · rw [g.2] at ht; simp at ht
      · rw [g.1] at hi; simp [hasL] at hi

theorem Good.fin (G : Good P S nt bs ver n ops B rec env0 hp0 ao) {L : List Nat} (hD : Done n B L) (hall : ∀ i, i < n → i ∈ L) :
    (∀ t, lk (envL rec env0 L) t = lk (envL rec env0 (down n)) t) ∧ ∀ l, hl (hpL rec hp0 L) l = hl (hpL rec hp0 (down n)) l := by
  refine ⟨fun t => ?_, fun l => ?_⟩
  · rw [envL_filter L, envL_filter (down n)]
    rw [filter_eq (j := n) (hD.sorted (G.env_pairs t)) fun i _ => ⟨hD.lt i, hall i⟩]
  · rw [hpL_filter L, hpL_filter (down n)]
    rw [filter_eq (j := n) (hD.sorted (G.hp_pairs l)) fun i _ => ⟨hD.lt i, hall i⟩]

theorem envL_far {nt t : Nat} : ∀ (L : List Nat), (∀ i ∈ L, ∀ d, (rec i).d = some d → d < nt) → nt ≤ t → lk (envL rec env0 L) t = lk env0 t
  | [], _, _ => rfl
  | i :: L, h, ht => by
    simp only [envL]
    rw [lk_putE (h i (by simp)) ht]
    exact envL_far L (fun j hj => h j (by simp [hj])) ht
theorem Good.far (G : Good P S nt bs ver n ops B rec env0 hp0 ao) (i : Nat) (hi : i < n) : ∀ d, (rec i).d = some d → d < nt := by
  obtain ⟨_, _, _, d1, _⟩ := G.run i hi
  rw [d1]
  have hs : i < ops.size := by rw [G.sz]; exact hi
  exact cOp_d (G.op i ops[i] (Array.getElem?_eq_getElem hs))

/-! ### How many are left -/
def left (L : List Nat) : Nat → Nat
  | 0 => 0
  | n + 1 => left L n + if n ∈ L then 0 else 1

theorem left_zero {L : List Nat} : ∀ {n : Nat}, left L n = 0 → ∀ i, i < n → i ∈ L
  | 0, _, i, h => by omega
  | n + 1, h, i, hi => by
    simp only [left] at h
    by_cases hn : n ∈ L
    · rcases Nat.lt_or_ge i n with h' | h'
      · exact left_zero (by omega) i h'
      · rw [show i = n by omega]; exact hn
    · rw [if_neg hn] at h; omega
theorem left_cons_ge {L : List Nat} {j : Nat} : ∀ {n : Nat}, n ≤ j → left (j :: L) n = left L n
  | 0, _ => rfl
  | n + 1, h => by
    have : n ≠ j := by omega
    have ih : left (j :: L) n = left L n := left_cons_ge (by omega)
    simp only [left, ih, List.mem_cons, this, false_or]
theorem left_cons {L : List Nat} {j : Nat} (hn : j ∉ L) : ∀ {n : Nat}, j < n → left (j :: L) n + 1 = left L n
  | 0, h => by omega
  | n + 1, h => by
    simp only [left]
    by_cases e : n = j
    · subst e
      rw [left_cons_ge (Nat.le_refl _), if_pos (by simp), if_neg hn]
    · have := left_cons hn (n := n) (by omega)
      have e2 : (n ∈ j :: L) ↔ n ∈ L := by simp [e]
      simp only [e2]
      omega
theorem left_nil : ∀ n, left [] n = n
  | 0 => rfl
  | n + 1 => by simp [left, left_nil n]

theorem least (L : List Nat) : ∀ n, (∀ i, i < n → i ∈ L) ∨ ∃ j, j < n ∧ j ∉ L ∧ ∀ i, i < j → i ∈ L
  | 0 => .inl fun i h => by omega
  | n + 1 => by
    rcases least L n with h | ⟨j, h1, h2⟩
    · by_cases hn : n ∈ L
      · left
        intro i hi
        rcases Nat.lt_or_ge i n with h' | h'
        · exact h i h'
        · rw [show i = n by omega]; exact hn
      · exact .inr ⟨n, by omega, hn, h⟩
    · exact .inr ⟨j, by omega, h2⟩

theorem ready_iff {listed : Array Bool} {L : List Nat} (hsz : listed.size = ops.size) (hli : ∀ i, i < ops.size → (listed.getD i true = true ↔ i ∈ L) ∧ (listed.getD i false = true ↔ i ∈ L)) (hb : ∀ i o, ops[i]? = some o → ∀ e ∈ edgesOf o, e < i) (i : Nat) :
    i ∈ Region.ready .any ops listed ↔ i < ops.size ∧ i ∉ L ∧ ∃ o, ops[i]? = some o ∧ ∀ e ∈ edgesOf o, e ∈ L := by
  unfold Region.ready
  rw [List.mem_filter, List.mem_range]
  constructor
  · rintro ⟨h1, h2⟩
    have ho : ops[i]? = some ops[i] := Array.getElem?_eq_getElem h1
    rw [ho] at h2
    simp only [Option.map_some, Option.getD_some, Bool.and_eq_true, Bool.not_eq_true', Array.all_eq_true'] at h2
    refine ⟨h1, fun h => ?_, ops[i], ho, fun e he => ?_⟩
    · rw [((hli i h1).1).2 h] at h2; simp at h2
    · have hlt := hb i _ ho e he
      simp only [edgesOf, List.mem_map, List.mem_filter] at he
      obtain ⟨x, ⟨hx, hbx⟩, rfl⟩ := he
      have := h2.2 x (by simpa using hx)
      rw [hbx] at this
      simp only [Bool.not_true, Bool.false_or] at this
      exact ((hli x.on (by omega)).2).1 this
  · rintro ⟨h1, h2, o, ho, h3⟩
    refine ⟨h1, ?_⟩
    rw [ho]
    simp only [Option.map_some, Option.getD_some, Bool.and_eq_true, Bool.not_eq_true', Array.all_eq_true']
    refine ⟨?_, fun x hx => ?_⟩
    · cases hc : listed.getD i true with
      | false => rfl
      | true => exact absurd (((hli i h1).1).1 hc) h2
    · cases hbx : Region.binds .any x with
      | false => simp
      | true =>
        have hm : x.on ∈ edgesOf o := by
          simp only [edgesOf, List.mem_map, List.mem_filter]
          exact ⟨x, ⟨by simpa using hx, hbx⟩, rfl⟩
        have := hb i o ho _ hm
        simp only [Bool.not_true, Bool.false_or]
        exact ((hli x.on (by omega)).2).2 (h3 _ hm)

variable {Γ : Ctx} {cnt : Nat} {Q : AE → St → Prop}

theorem Inv.congr {σ : Cf} {env env' : Env} {hp hp' : Hp} {a : Act} {nt hb : Nat} (h : Inv σ env hp a nt hb) (he : ∀ t, lk env t = lk env' t) (hh : ∀ l, hl hp l = hl hp' l) : Inv σ env' hp' a nt hb where
  h :=
    { ln := fun n => by rw [h.h.ln n]; simp only [lenOf, hh]
      cel := fun n j c hc => h.h.cel n j c (by rw [hh]; exact hc)
      arr := fun n sz live rows d hc => h.h.arr n sz live rows d (by rw [hh]; exact hc)
      inj := fun p q b hp hq => h.h.inj p q b (by simpa only [Owns, hh] using hp) (by simpa only [Owns, hh] using hq)
      lt := h.h.lt
      ou := h.h.ou
      dis := h.h.dis }
  t := fun t => by rw [← he]; exact h.t t
  sz := h.sz
  df := h.df

theorem any_run (hΓ : Γ.OK) (G : Good Γ.P Γ.S Γ.nt bs (cnt + 1) n ops B rec env0 hp0 ao) (hQ : Q .n ⟨envL rec env0 (down n), hpL rec hp0 (down n), cnt + 1⟩) {σ0 : Cf} (hG : Γ.G env0 σ0) : ∀ (fuel : Nat) (L : List Nat) (listed : Array Bool) (σ : Cf) (a : Act),
    Done n B L → listed.size = ops.size → (∀ i, i < ops.size → (listed.getD i true = true ↔ i ∈ L) ∧ (listed.getD i false = true ↔ i ∈ L)) → left L n = fuel → Evo σ0 σ → Inv σ (envL rec env0 L) (hpL rec hp0 L) a Γ.nt Γ.hb →
    (∀ m, σ.al m → m.2 ≤ cnt ∨ ∃ i ∈ L, m = (bs + i, cnt + 1)) → wpAnyIn Γ.F 0 Γ.P .any ops (lift Γ σ0 Q) fuel listed a σ.w := by
  intro fuel
  have fin : ∀ (L : List Nat) (listed : Array Bool) (σ : Cf) (a : Act), Done n B L → listed.size = ops.size → (∀ i, i < ops.size → (listed.getD i true = true ↔ i ∈ L) ∧ (listed.getD i false = true ↔ i ∈ L)) → Evo σ0 σ → Inv σ (envL rec env0 L) (hpL rec hp0 L) a Γ.nt Γ.hb →
      (∀ m, σ.al m → m.2 ≤ cnt ∨ ∃ i ∈ L, m = (bs + i, cnt + 1)) → (∀ i, i < n → i ∈ L) → lift Γ σ0 Q .normal a σ.w := by
    intro L listed σ a hD h1 h2 he hI hal hall
    obtain ⟨e1, e2⟩ := G.fin hD hall
    refine ⟨σ, _, .n, rfl, Γ.ofE he, ⟨hI.congr e1 e2, fun m hm => ?_, Γ.g hG he fun t ht => .inr (envL_far (down n) (fun i hi => G.far i (mem_down.1 hi)) ht)⟩, rfl, hQ⟩
    rcases hal m hm with h | ⟨i, _, rfl⟩
    · exact Nat.le_succ_of_le h
    · exact Nat.le_refl _
  have none : ∀ (L : List Nat) (listed : Array Bool), listed.size = ops.size → (∀ i, i < ops.size → (listed.getD i true = true ↔ i ∈ L) ∧ (listed.getD i false = true ↔ i ∈ L)) → Region.ready .any ops listed = [] → ∀ i, i < n → i ∈ L := by
    intro L listed h1 h2 hr
    rcases least L n with h | ⟨j, h3, h4, h5⟩
    · exact h
    · exfalso
      have hj : j < ops.size := by rw [G.sz]; exact h3
      have ho : ops[j]? = some ops[j] := Array.getElem?_eq_getElem hj
      have : j ∈ Region.ready .any ops listed := (ready_iff h1 h2 (fun i o ho => (G.bef i o ho).1) j).2 ⟨hj, h4, _, ho, fun e he => h5 e ((G.bef j _ ho).1 e he)⟩
      rw [hr] at this
      simp at this
  induction fuel with
  | zero =>
    intro L listed σ a hD h1 h2 hf he hI hal
    have hall := left_zero hf
    refine ⟨?_, fin L listed σ a hD h1 h2 he hI hal hall⟩
    cases hr : Region.ready .any ops listed with
    | nil => rfl
    | cons x xs =>
      exfalso
      have hx : x ∈ Region.ready .any ops listed := by rw [hr]; simp
      obtain ⟨g1, g2, _⟩ := (ready_iff h1 h2 (fun i o ho => (G.bef i o ho).1) x).1 hx
      exact g2 (hall x (by rw [← G.sz]; exact g1))
  | succ fuel ih =>
    intro L listed σ a hD h1 h2 hf he hI hal
    refine ⟨fun hr => fin L listed σ a hD h1 h2 he hI hal (none L listed h1 h2 hr), fun i hi => ?_⟩
    obtain ⟨g1, g2, o, ho, g3⟩ := (ready_iff h1 h2 (fun i o ho => (G.bef i o ho).1) i).1 hi
    have hin : i < n := by rw [← G.sz]; exact g1
    have ha := G.all hD ho g3
    obtain ⟨vc, hvc, hex, hd, _⟩ := G.run i hin
    rw [← G.same hD hin g2 ha] at hex
    refine exop_sound hΓ.S hΓ.F ho (G.op i o ho) hI ?_ hex hvc fun a' σ' e' hI' hal' => ?_
    · intro h
      rcases hal _ h with h | ⟨k, hk, e⟩
      · exact absurd h (Nat.not_succ_le_self cnt)
      · simp only [Prod.mk.injEq, Nat.add_left_cancel_iff, and_true] at e
        exact g2 (e ▸ hk)
    · refine ih (i :: L) _ σ' a' (hD.cons hin g2 ha) (by simp [h1]) (fun k hk => ?_) ?_ (he.trans e') ?_ fun m hm => ?_
      · by_cases e : i = k
        · subst e
          have : i < listed.size := by omega
          simp [Array.getD, this]
        · have hk' : k < listed.size := by omega
          have q1 : (listed.setIfInBounds i true).getD k true = listed.getD k true := by simp [Array.getD, hk', Array.getElem_setIfInBounds, e]
          have q2 : (listed.setIfInBounds i true).getD k false = listed.getD k false := by simp [Array.getD, hk', Array.getElem_setIfInBounds, e]
          have q3 : k ∈ i :: L ↔ k ∈ L := by
            rw [List.mem_cons]
            exact ⟨fun h => h.resolve_left fun h => e h.symm, .inr⟩
          rw [q1, q2, q3]
          exact h2 k hk
      · have := left_cons g2 hin
        omega
      · simp only [envL, hpL, hd]; exact hI'
      · rcases hal' m hm with h | rfl
        · rcases hal m h with h | ⟨k, hk, e⟩
          · exact .inl h
          · exact .inr ⟨k, List.mem_cons_of_mem _ hk, e⟩
        · exact .inr ⟨i, by simp, rfl⟩
end
end Go.Proofs.Ytmmfbjmjhjmccaa.Am
