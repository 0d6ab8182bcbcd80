/-
  The abstract machine, A10: a yield in a region that draws its order.
-/
import Derived.Test.YtdabfcbelkjmgaaDoorA9
namespace Go.Proofs.YtdabfcbelkjmgaaDoor.Am
set_option linter.unusedSimpArgs false
set_option linter.unusedVariables false
open Go
section
variable {n : Nat} {ops : Array Oper} {B : List Nat} {rec : Nat → Rec} {env0 : Env} {hp0 : Hp} {ao : Nat → AOp} {bs cnt : Nat} {Γ : Ctx}
theorem left_all {L : List Nat} : ∀ {n : Nat}, (∀ i, i < n → i ∈ L) → left L n = 0
  | 0, _ => rfl
  | n + 1, h => by
    simp only [left]
    rw [left_all fun i hi => h i (by omega), if_pos (h n (by omega))]
/-- The first n operations in whatever order, then the others. -/
theorem any_pre (hΓ : Γ.OK) (G : Good Γ.P (fun i e h => exop Γ.S (bs + i, cnt + 1) e h (ao i)) Γ.nt n ops B rec env0 hp0 ao) (late : ∀ j o, n ≤ j → ops[j]? = some o → ∀ k, k < n → (B.getD j 0).testBit k = true) {R : Nat} {Qx : Exit → Act → World → Prop} {σ0 : Cf}
    (hK : ∀ (listed : Array Bool) (σ : Cf) (a : Act), listed.size = ops.size → (∀ i, i < ops.size → (listed.getD i true = true ↔ i < n) ∧ (listed.getD i false = true ↔ i < n)) → Evo σ0 σ → Inv σ (envL rec env0 (down n)) (hpL rec hp0 (down n)) a Γ.nt Γ.hb →
      (∀ m, σ.al m → m.2 ≤ cnt ∨ ∃ i, i < n ∧ m = (bs + i, cnt + 1)) → wpAnyIn Γ.F 0 Γ.P .any ops Qx R listed a σ.w) : ∀ (fuel : Nat) (L : List Nat) (listed : Array Bool) (σ : Cf) (a : Act),
    Done n B L → listed.size = ops.size → (∀ i, i < ops.size → (listed.getD i true = true ↔ i ∈ L) ∧ (listed.getD i false = true ↔ i ∈ L)) → left L n = fuel → Evo σ0 σ → Inv σ (envL rec env0 L) (hpL rec hp0 L) a Γ.nt Γ.hb →
    (∀ m, σ.al m → m.2 ≤ cnt ∨ ∃ i ∈ L, m = (bs + i, cnt + 1)) → wpAnyIn Γ.F 0 Γ.P .any ops Qx (fuel + R) listed a σ.w := by
  intro fuel
  induction fuel with
  | zero =>
    intro L listed σ a hD h1 h2 hf he hI hal
    have hall := left_zero hf
    obtain ⟨e1, e2⟩ := G.fin hD hall
    have hiff : ∀ i, i ∈ L ↔ i < n := fun i => ⟨hD.lt i, hall i⟩
    rw [Nat.zero_add]
    exact hK listed σ a h1 (fun i hi => by rw [← hiff i]; exact h2 i hi) he (hI.congr e1 e2) fun m hm => (hal m hm).imp id fun ⟨i, hi, e⟩ => ⟨i, hD.lt i hi, e⟩
  | succ fuel ih =>
    intro L listed σ a hD h1 h2 hf he hI hal
    rw [show fuel + 1 + R = (fuel + R) + 1 by omega]
    have hmiss : ∃ j, j < n ∧ j ∉ L ∧ ∀ i, i < j → i ∈ L := by
      rcases least L n with h | h
      · rw [left_all h] at hf; omega
      · exact h
    obtain ⟨j0, j1, j2, j3⟩ := hmiss
    refine ⟨fun hr => ?_, fun i hi => ?_⟩
    · exfalso
      have hj : j0 < ops.size := Nat.lt_of_lt_of_le j1 G.sz
      have ho : ops[j0]? = some ops[j0] := Array.getElem?_eq_getElem hj
      have : j0 ∈ Region.ready .any ops listed := (ready_iff h1 h2 (fun i o ho => (G.bef i o ho).1) j0).2 ⟨hj, j2, _, ho, fun e he => j3 e ((G.bef j0 _ ho).1 e he)⟩
      rw [hr] at this
      simp at this
    obtain ⟨g1, g2, o, ho, g3⟩ := (ready_iff h1 h2 (fun i o ho => (G.bef i o ho).1) i).1 hi
    have ha := G.all hD ho g3
    have hin : i < n := by
      rcases Nat.lt_or_ge i n with h | h
      · exact h
      · exact absurd (ha j0 (late i o h ho j0 j1)) j2
    obtain ⟨vc, hvc, hex, hd, _⟩ := G.run i hin
    rw [← G.same hD hin g2 ha] at hex
    refine exop_sound hΓ.S hΓ.F ho (G.op i o ho) hI ?_ hex hvc fun a' σ' e' hI' hal' => ?_
    · intro h
      rcases hal _ h with h | ⟨k, hk, e⟩
      · exact absurd h (Nat.not_succ_le_self cnt)
      · simp only [Prod.mk.injEq, Nat.add_left_cancel_iff, and_true] at e
        exact g2 (e ▸ hk)
    · refine ih (i :: L) _ σ' a' (hD.cons hin g2 ha) (by simp [h1]) (fun k hk => ?_) ?_ (he.trans e') ?_ fun m hm => ?_
      · by_cases e : i = k
        · subst e
          have : i < listed.size := by omega
          simp [Array.getD, this]
        · have hk' : k < listed.size := by omega
          have q1 : (listed.setIfInBounds i true).getD k true = listed.getD k true := by simp [Array.getD, hk', Array.getElem_setIfInBounds, e]
          have q2 : (listed.setIfInBounds i true).getD k false = listed.getD k false := by simp [Array.getD, hk', Array.getElem_setIfInBounds, e]
          have q3 : k ∈ i :: L ↔ k ∈ L := by
            rw [List.mem_cons]
            exact ⟨fun h => h.resolve_left fun h => e h.symm, .inr⟩
          rw [q1, q2, q3]
          exact h2 k hk
      · have := left_cons g2 hin
        omega
      · simp only [envL, hpL, hd]; exact hI'
      · rcases hal' m hm with h | rfl
        · rcases hal m h with h | ⟨k, hk, e⟩
          · exact .inl h
          · exact .inr ⟨k, List.mem_cons_of_mem _ hk, e⟩
        · exact .inr ⟨i, by simp, rfl⟩
/-- Behind k nothing but what lies below. -/
theorem bit_lt (bef : ∀ i o, ops[i]? = some o → (∀ e ∈ edgesOf o, e < i) ∧ B.getD i 0 = maskOf B (edgesOf o)) : ∀ (i : Nat) (o : Oper), ops[i]? = some o → ∀ k, (B.getD i 0).testBit k = true → k < i := by
  intro i
  induction i using Nat.strongRecOn with
  | _ i ih =>
    intro o ho k hk
    rw [(bef i o ho).2, maskOf, mask_bit] at hk
    simp only [Nat.zero_testBit, Bool.false_eq_true, false_or] at hk
    obtain ⟨e, h1, h2⟩ := hk
    have hlt := (bef i o ho).1 e h1
    rcases h2 with rfl | h2
    · exact hlt
    · have : e < ops.size := by have := (Array.getElem?_eq_some_iff.1 ho).1; omega
      have := ih e hlt _ (Array.getElem?_eq_getElem this) k h2
      omega
theorem bit_trans (bef : ∀ i o, ops[i]? = some o → (∀ e ∈ edgesOf o, e < i) ∧ B.getD i 0 = maskOf B (edgesOf o)) : ∀ (j : Nat) (o : Oper), ops[j]? = some o → ∀ i k, (B.getD j 0).testBit i = true → (B.getD i 0).testBit k = true → (B.getD j 0).testBit k = true := by
  intro j
  induction j using Nat.strongRecOn with
  | _ j ih =>
    intro o ho i k hi hk
    rw [(bef j o ho).2, maskOf, mask_bit] at hi ⊢
    simp only [Nat.zero_testBit, Bool.false_eq_true, false_or] at hi ⊢
    obtain ⟨e, h1, h2⟩ := hi
    refine ⟨e, h1, .inr ?_⟩
    rcases h2 with rfl | h2
    · exact hk
    · have hlt := (bef j o ho).1 e h1
      have : e < ops.size := by have := (Array.getElem?_eq_some_iff.1 ho).1; omega
      exact ih e hlt _ (Array.getElem?_eq_getElem this) i k h2 hk
/-- Where each operation waits for all before it, the order is that of the text. -/
theorem any_forced (bef : ∀ i o, ops[i]? = some o → (∀ e ∈ edgesOf o, e < i) ∧ B.getD i 0 = maskOf B (edgesOf o)) {F : Fence} {P : Program} {Q : Exit → Act → World → Prop} (m : Nat) (late : ∀ j o, m ≤ j → ops[j]? = some o → ∀ k, k < j → (B.getD j 0).testBit k = true) :
    ∀ (r j : Nat) (listed : Array Bool) (a : Act) (w : World), m ≤ j → j + r = ops.size → listed.size = ops.size → (∀ i, i < ops.size → (listed.getD i true = true ↔ i < j) ∧ (listed.getD i false = true ↔ i < j)) → wpOpsIn F 0 P ops Q (List.range' j r) a w → wpAnyIn F 0 P .any ops Q r listed a w := by
  intro r
  induction r with
  | zero =>
    intro j listed a w hm hj h1 h2 h
    refine ⟨?_, by simpa [wpOpsIn] using h⟩
    cases hr : Region.ready .any ops listed with
    | nil => rfl
    | cons x xs =>
      exfalso
      have hx : x ∈ Region.ready .any ops listed := by rw [hr]; simp
      obtain ⟨g1, g2, _⟩ := (ready_iff (L := down j) h1 (fun i hi => by rw [mem_down]; exact h2 i hi) (fun i o ho => (bef i o ho).1) x).1 hx
      rw [mem_down] at g2
      omega
  | succ r ih =>
    intro j listed a w hm hj h1 h2 h
    rw [List.range'_succ, wpOpsIn_cons] at h
    have hjs : j < ops.size := by omega
    have hoj : ops[j]? = some ops[j] := Array.getElem?_eq_getElem hjs
    refine ⟨fun hr => ?_, fun i hi => ?_⟩
    · exfalso
      have : j ∈ Region.ready .any ops listed := (ready_iff (L := down j) h1 (fun i hi => by rw [mem_down]; exact h2 i hi) (fun i o ho => (bef i o ho).1) j).2 ⟨hjs, by rw [mem_down]; omega, _, hoj, fun e he => by rw [mem_down]; exact (bef j _ hoj).1 e he⟩
      rw [hr] at this
      simp at this
    · obtain ⟨g1, g2, o, ho, g3⟩ := (ready_iff (L := down j) h1 (fun i hi => by rw [mem_down]; exact h2 i hi) (fun i o ho => (bef i o ho).1) i).1 hi
      rw [mem_down] at g2
      have hij : i = j := by
        rcases Nat.lt_or_ge j i with h | h
        · exfalso
          have hb := late i o (by omega) ho j h
          rw [(bef i o ho).2, maskOf, mask_bit] at hb
          simp only [Nat.zero_testBit, Bool.false_eq_true, false_or] at hb
          obtain ⟨e, q1, q2⟩ := hb
          have q3 := mem_down.1 (g3 e q1)
          rcases q2 with rfl | q2
          · omega
          · have := bit_lt bef e _ (Array.getElem?_eq_getElem (show e < ops.size by omega)) j q2
            omega
        · omega
      subst hij
      refine wpOpIn_mono (fun a w hw => ?_) h
      refine ih (i + 1) _ a w (by omega) (by omega) (by simp [h1]) (fun k hk => ?_) hw
      by_cases e : i = k
      · subst e
        have : i < listed.size := by omega
        simp [Array.getD, this]
      · have hk' : k < listed.size := by omega
        have q1 : (listed.setIfInBounds i true).getD k true = listed.getD k true := by simp [Array.getD, hk', Array.getElem_setIfInBounds, e]
        have q2 : (listed.setIfInBounds i true).getD k false = listed.getD k false := by simp [Array.getD, hk', Array.getElem_setIfInBounds, e]
        rw [q1, q2, (h2 k hk).1, (h2 k hk).2]
        omega
end
/-- j waits for k, by way of temporaries. -/
def dep (all : List AOp) : Nat → Nat → Nat → Bool
  | 0, _, _ => false
  | f + 1, k, j => !tFree (all.getD k default) (all.getD j default) || (List.range j).any fun i => decide (k < i) && !tFree (all.getD i default) (all.getD j default) && dep all f k i
/-- From m on each operation waits for all before it. -/
def lateB (all : List AOp) (m : Nat) : Bool := (List.range all.length).all fun j => !decide (m ≤ j) || (List.range j).all fun k => dep all 8 k j
theorem dep_ok {ops : Array Oper} {B : List Nat} {all : List AOp} (bef : ∀ i o, ops[i]? = some o → (∀ e ∈ edgesOf o, e < i) ∧ B.getD i 0 = maskOf B (edgesOf o)) (hsz : all.length = ops.size)
    (tm : ∀ k j, k < j → j < all.length → (B.getD j 0).testBit k = true ∨ tFree (all.getD k default) (all.getD j default) = true) : ∀ (f k j : Nat), k < j → j < all.length → dep all f k j = true → (B.getD j 0).testBit k = true
  | 0, k, j, _, _, h => by simp [dep] at h
  | f + 1, k, j, hk, hj, h => by
    simp only [dep, Bool.or_eq_true, Bool.not_eq_true', List.any_eq_true, List.mem_range, Bool.and_eq_true, decide_eq_true_eq] at h
    rcases h with h | ⟨i, hi, ⟨h1, h2⟩, h3⟩
    · rcases tm k j hk hj with g | g
      · exact g
      · rw [h] at g; cases g
    · have h4 := dep_ok bef hsz tm f k i h1 (by omega) h3
      rcases tm i j hi hj with g | g
      · exact bit_trans bef j _ (Array.getElem?_eq_getElem (by omega)) i k g h4
      · rw [h2] at g; cases g
section
variable {P : Program} {S : Tab} {nt hb : Nat} {J : Int → Cf → Prop} {hnt : nt ≤ gs} {evo : ∀ {k : Int} {σ σ' : Cf}, J k σ → Evo σ σ' → J k σ'} {l : Nat} {xs : List (List AV)}
theorem awp_yieldD (hS : TabOK P S) (hR : Rng P Fence.wide l hb xs J) (i : Nat) {rid : Nat} {ops : List AOp} {yo : AOp} {Q : AE → St → Prop} {e e1 : Env} {h h1 : Hp} {c : Nat} {vc : Prop} {x : Opd} {as : List Opd} {k : Nat} {args : List AV} {recs : List Rec}
    (hyo : ops[i]? = some yo) (hk : yo.k = .cv x as) (hex : exdr S (c + 1) (100 * rid) (ops.take i) e h = some (vc, e1, h1, recs)) (hlate : lateB ops i = true) (hvc : vc) (hg : gval e1 yo.g = some true) (hx : ung true (opv e1 x) = .clo (.yield l) [] [])
    (hgh : lk e gs = ghost k) (hargs : as.map (fun x => ung true (opv e1 x)) = args) (hxs : xs[k]? = some args)
    (hQ : ∀ b : Bool, ∃ (vc2 : Prop) (e2 : Env) (h2 : Hp), exops S (c + 1) (100 * rid + (i + 1)) (ops.drop (i + 1)) (putE yo.d (.v (.bool b)) ((gs, ghost (if b = true then k + 1 else -1)) :: e1)) h1 = some (vc2, e2, h2) ∧ vc2 ∧ Q .n ⟨e2, h2, c + 1⟩) :
    awp (Ctx.it P Fence.wide S nt hb J hnt evo) (.drw rid ops []) Q ⟨e, h, c⟩ := by
  intro code hc σ a hA
  have hΓ : (Ctx.it P Fence.wide S nt hb J hnt evo).OK := ⟨hS, .inl rfl⟩
  cases code with
  | region id ops' d =>
    simp only [cCode] at hc
    obtain ⟨l0, hx0, ⟨_, e0⟩ | ⟨rfl, hf, un', hu, e0⟩⟩ := cReg_inv hc
    · cases e0
    · cases e0
      refine wpIn_region_any hf ?_
      obtain ⟨B, b1, b2, hun⟩ := cDraw_spec hu
      obtain ⟨c1, c2⟩ := cOps_spec hx0
      obtain ⟨t1, t2⟩ := cOps_take i hx0
      obtain ⟨_, t3⟩ := cOps_take (i + 1) hx0
      have hi : i < ops.length := (List.getElem?_eq_some_iff.1 hyo).1
      have hsz : ops.length = ops'.size := c1.trans (by simp)
      have hi' : i < ops'.size := by omega
      have ho : ops'[i]? = some ops'[i] := Array.getElem?_eq_getElem hi'
      obtain ⟨yo', g1, g2⟩ := c2 i ops'[i] (by simp)
      rw [hyo] at g1
      cases g1
      obtain ⟨cl, y, k1, k2, rfl, rfl, k3, k4⟩ := cOp_cv g2 hk
      have hop : ∀ i o, ops'[i]? = some o → ∃ x, ops[i]? = some x ∧ cOp P nt ops' o = some x := fun i o ho => c2 i o (by simpa using ho)
      have hao : ∀ i x, ops[i]? = some x → ops.getD i default = x := fun i x h => by simp [List.getD_eq_getElem?_getD, h]
      have get : ∀ i, i < ops.length → ops[i]? = some (ops.getD i default) := fun i hi => by simp [List.getD_eq_getElem?_getD, hi]
      have hbef : ∀ i o, ops'[i]? = some o → (∀ e ∈ edgesOf o, e < i) ∧ B.getD i 0 = maskOf B (edgesOf o) := fun i o ho => by
        have := befOK_spec b1 i o (by simpa using ho)
        simpa using this
      have htm : ∀ k j, k < j → j < ops.length → (B.getD j 0).testBit k = true ∨ tFree (ops.getD k default) (ops.getD j default) = true := fun k j hk hj => by
        have h1 := tOK_spec b2 j _ (get j hj)
        rw [Nat.zero_add] at h1
        have h2 := rowOK_spec h1 k (ops.getD k default) (by rw [List.getElem?_take, if_pos hk]; exact get k (by omega))
        rwa [Nat.zero_add] at h2
      have late : ∀ j o, i ≤ j → ops'[j]? = some o → ∀ k, k < j → (B.getD j 0).testBit k = true := fun j o hj ho k hk => by
        have hjl : j < ops.length := by have := (Array.getElem?_eq_some_iff.1 ho).1; omega
        have h0 := List.all_eq_true.1 hlate j (List.mem_range.2 hjl)
        have h1 : decide (i ≤ j) = true := by simpa using hj
        rw [h1] at h0
        have h2 := List.all_eq_true.1 (by simpa using h0) k (List.mem_range.2 hk)
        exact dep_ok hbef hsz htm 8 k j hk hjl h2
      rw [exdr_X] at hex
      have hrl := exdrX_length hex
      have hlt : (ops.take i).length = i := by simp; omega
      have hsp := exdrX_spec (rec := fun i => recs.getD i default) (env0 := e) (hp0 := h) (all := ops.take i) (bs := 100 * rid) (ops.take i) 0 recs vc e1 h1 (fun i => by simp) hex hvc (fun i hi => by
        have : i < recs.length := by omega
        simp [List.getD_eq_getElem?_getD, this])
      simp only [Nat.zero_add, hlt] at hsp
      obtain ⟨e1', e2', run⟩ := hsp
      have run' : ∀ k, k < i → _ := fun k hk => run k (ops.getD k default) (by rw [List.getElem?_take, if_pos hk]; exact get k (by omega))
      have hws : ∀ k, k < i → hw (ops.getD k default).k = false → (recs.getD k default).ws = [] := fun k hk h => by
        obtain ⟨_, _, g, _⟩ := run' k hk
        exact exop_nil h g
      have hrd : ∀ k, k < i → ht (ops.getD k default).k = false → (recs.getD k default).rd = [] := fun k hk h => by
        obtain ⟨_, _, _, _, g⟩ := run' k hk
        rw [g]; exact rdO_nil h
      have G : Good P (fun i e h => exop S (100 * rid + i, c + 1) e h (ops.getD i default)) nt i ops' B (fun i => recs.getD i default) e h fun i => ops.getD i default :=
        { cg := fun i e e' h h' ht hh => exop_congr ht hh
          sz := by omega
          bef := hbef
          op := fun i o ho => by
            obtain ⟨x, h1, h2⟩ := hop i o ho
            simp only [hao i x h1]; exact h2
          run := run'
          tmp := fun k j hk hj => htm k j hk (by omega)
          mem := fun k j hk hj => by
            have h2 := rowUn_spec (B := B.getD j 0) (j := j) (o := ops.getD j default) (l := ops.take j) (k := 0) k (ops.getD k default) (by rw [List.getElem?_take, if_pos hk]; exact get k (by omega))
            rw [Nat.zero_add] at h2
            rcases h2 with h | h | h
            · exact .inl h
            · right; right
              simp only [Bool.or_eq_false_iff, Bool.and_eq_false_iff] at h
              have hk' : k < i := by omega
              rcases h.1 with g1 | g1
              · rcases h.2 with g2 | g2
                · exact .inr (.inr ⟨hws k hk' g1, hrd k hk' g2⟩)
                · exact .inl ⟨hws k hk' g1, hws j hj g2⟩
              · exact .inr (.inl ⟨hws j hj (hw_ht g1), hrd j hj g1⟩)
            · exfalso
              have := unl_spec (all := ops) (j := 0) j _ (get j (by omega)) _ (by rw [Nat.zero_add]; exact h)
              rw [← hun] at this
              simp at this }
      obtain ⟨σd, wd1, wd2, wd3⟩ := hA.drawn (σ.w.drawn + 1)
      rw [← wd1]
      rw [show ops'.size = i + (ops'.size - i) by omega]
      refine any_pre (cnt := c) hΓ G (fun j o hj ho k hk => late j o hj ho k (by omega)) (σ0 := σ) (fun listed σ1 a1 hs1 hl1 ev1 hI1 hal1' => ?_) i [] _ σd a ⟨by simp, by simp, .nil⟩ (by simp; omega) (fun q hq => ?_) (left_nil i) wd2 wd3.1 fun m hm => .inl (wd3.2.1 m hm)
      · refine any_forced hbef i late (ops'.size - i) i listed a1 σ1.w (Nat.le_refl _) (by omega) hs1 hl1 ?_
        rw [← e1', ← e2'] at hI1
        have hal1 : ∀ m, σ1.al m → m.2 ≤ c ∨ (m.2 = c + 1 ∧ m.1 < 100 * rid + i) := fun m hm => (hal1' m hm).imp id fun ⟨q, hq, eq⟩ => by subst eq; simp; omega
        rw [show ops'.size - i = (ops'.toList.drop (i + 1)).length + 1 by simp; omega, List.range'_succ]
        rw [wpOpsIn_cons]
        unfold wpOpIn
        simp only [ho]
        have hw := gval_sound hI1.t k4 hg
        simp only [hw, if_true]
        refine ⟨fun f _ => trivial, ?_⟩
        have hno : ∀ c, ops'[i].op ≠ .defer c := fun c hd => by rw [k1] at hd; cases hd
        rw [Oper.semAt_eq _ a1.eval _ hno]
        have hX := arg_rep (g := true) rfl hI1.t y
        rw [hx] at hX
        simp only [Rep, RepL] at hX
        obtain ⟨xs0, ys0, hX, rfl, rfl⟩ := hX
        have hV := args_rep (g := true) rfl hI1.t cl.args.toList
        have hJ : J k σ1 := evo (hA.2.2 k hgh) ev1
        have hV' : RepL σ1 args (cl.args.toList.map a1.eval) := by
          rw [← hargs]
          exact hV
        obtain ⟨f, tmps, assign, body, y1, y2⟩ := hR.rnd hJ hI1.h hxs hV'
        show Oper.uponIn Fence.wide 0 P ops'[i] a1 _ _ (Sem.run P (execOp a1.eval ops'[i]) σ1.w)
        rw [yield_run k1 k2 (by simpa using hX) y1]
        rw [Oper.uponIn_round]
        refine ⟨fun h => by simp [Fence.wide] at h, y2.mono ?_⟩
        rintro en w' ⟨b, σ2, rfl, rfl, oth, old, hJ2⟩
        obtain ⟨vc2, e2, h2, q1, q2, q3⟩ := hQ b
        have hd : ∀ k, ops'[i].dst = some k → k < a1.tmps.size := by
          rw [k3]; intro d hd
          rw [hI1.sz]; exact cOp_d g2 d hd
        have hI2 : Inv σ2 (putE yo.d (.v (.bool b)) ((gs, ghost (if b = true then k + 1 else -1)) :: e1)) h1 (a1.put ops'[i].dst (.bool b)) nt (hb, false) := by
          refine ⟨hI1.h.oth oth, ?_, by rw [Act.size_put]; exact hI1.sz, ?_⟩
          · rw [← k3]
            refine TInv.put (r := .v (.bool b)) (fun t => ?_) hd (by simp [Rep])
            simp only [lk]
            by_cases ht : gs = t
            · rw [if_pos ht]
              subst ht
              have : ¬ gs < a1.tmps.size := by rw [hI1.sz]; exact Nat.not_lt.2 hnt
              simp [Rep, Array.getD, this]
            · rw [if_neg ht]; exact hI1.t.ev oth.ev t
          · rw [Act.defers_put]
            refine DOK.of rfl (fun d hd => ?_) (hI1.df.nd rfl) (Nat.le_trans hI1.df.le oth.sz) (hI1.df.gl.ev oth.ev)
            obtain ⟨r, r1, r2, r3, r4, r5⟩ := hI1.df.all rfl d hd
            obtain ⟨o1, o2⟩ := old r _ r5 r3
            exact ⟨r, r1, r2, o1, by rw [oth.M]; exact r4, o2⟩
        have hgh2 : lk (putE yo.d (.v (.bool b)) ((gs, ghost (if b = true then k + 1 else -1)) :: e1)) gs = ghost (if b = true then k + 1 else -1) := by
          rw [lk_putE (cOp_d g2) hnt]; simp [lk]
        have hG2 : (Ctx.it P Fence.wide S nt hb J hnt evo).G (putE yo.d (.v (.bool b)) ((gs, ghost (if b = true then k + 1 else -1)) :: e1)) σ2 := by
          intro k' hk'
          rw [hgh2] at hk'
          have : (if b = true then (k : Int) + 1 else -1) = k' := by simpa using hk'
          rw [← this]
          exact hJ2
        have hal2 : ∀ m, σ2.al m → m.2 ≤ c ∨ (m.2 = c + 1 ∧ m.1 < 100 * rid + (i + 1)) := by
          intro m hm
          rw [oth.al] at hm
          rcases hal1 m hm with h | ⟨h3, h4⟩
          · exact .inl h
          · right; exact ⟨h3, by omega⟩
        have hh := wpOps_seq hΓ (ops := ops') (Q := Q) (cnt := c) (100 * rid) _ σ2 hG2 (ops'.toList.drop (i + 1)) (i + 1) (ops.drop (i + 1)) σ2 _ _ _ _ _ vc2 (fun _ _ => rfl) (fun j => by simp) (by simp; omega) t3 q1 q2 (Evo.refl σ2) hI2 hal2 q3
        have hl : lift (Ctx.it P Fence.wide S nt hb J hnt evo) σ2 Q = lift (Ctx.it P Fence.wide S nt hb J hnt evo) σ Q := rfl
        rw [hl] at hh
        exact hh
      · have : q < i + (ops'.size - i) := by omega
        simp [Array.getD, this]
  | seq x y => simp only [cCode] at hc; split at hc <;> simp at hc
  | cond c x y => simp only [cCode] at hc; split at hc <;> simp at hc
  | rangeFunc f ps x y => simp only [cCode] at hc; split at hc <;> simp at hc
  | _ => simp [cCode] at hc
end
abbrev YieldRuleD (Γ : Ctx) (l : Nat) (xs : List (List AV)) : Prop := ∀ (i : Nat) {rid : Nat} {ops post : List AOp} {d : Option Nat} {g : Option (Nat × Bool)} {Q : AE → St → Prop} {e e1 : Env} {h h1 : Hp} {c : Nat} {vc : Prop} {x : Opd} {as : List Opd} {k : Nat} {args : List AV} {vt vf : Prop} {et ef : Env} {ht hf : Hp} {recs : List Rec}
    (_ : ops[i]? = some ⟨d, g, .cv x as⟩) (_ : ops.drop (i + 1) = post) (_ : exdr Γ.S (c + 1) (100 * rid) (ops.take i) e h = some (vc, e1, h1, recs)) (_ : lateB ops i = true) (_ : vc) (_ : gval e1 g = some true) (_ : ung true (opv e1 x) = .clo (.yield l) [] [])
    (_ : lk e gs = ghost k) (_ : as.map (fun x => ung true (opv e1 x)) = args) (_ : xs[k]? = some args)
    (_ : exops Γ.S (c + 1) (100 * rid + (i + 1)) post (putE d (.v (.bool true)) ((gs, ghost (k + 1)) :: e1)) h1 = some (vt, et, ht)) (_ : vt) (_ : Q .n ⟨et, ht, c + 1⟩)
    (_ : exops Γ.S (c + 1) (100 * rid + (i + 1)) post (putE d (.v (.bool false)) ((gs, ghost (-1)) :: e1)) h1 = some (vf, ef, hf)) (_ : vf) (_ : Q .n ⟨ef, hf, c + 1⟩), awp Γ (.drw rid ops []) Q ⟨e, h, c⟩
theorem itc_fnD {P : Program} {S : Tab} (hS : TabOK P S) {f : Nat} {fn : Func} {c : AC} {fst cps : List AV} {xs : List (List AV)} (nt : Nat) (hf : P.funcs[f]? = some fn) (hc : cFun P fn = some (c, [])) (hnt : fn.ntmps = nt) (hgs : nt ≤ gs)
    (hn : (fst ++ cps).length < nt)
    (h : ∀ (l : Nat) (Γ : Ctx), Γ.OK → Γ.S = S → YieldRule Γ l xs → YieldRuleD Γ l xs → awp Γ c (itK xs.length) ⟨(gs, ghost 0) :: envOf 0 (fst ++ AV.clo (.yield l) [] [] :: cps), [], 0⟩) : ItC P f fst cps xs :=
  itc_fn hS nt hf hc hnt hgs hn fun l hb J evo hR => h l _ (Ctx.it_ok hS) (Eq.refl _) (fun i => awp_yieldF hS hR i) fun i {rid ops post d g Q e e1 h h1 c vc x as k args vt vf et ef ht hf recs} hyo hpost hex hl hvc hg hx hgh hargs hxs hxT hvT hQT hxF hvF hQF => by
    subst hpost
    refine awp_yieldD hS hR i hyo rfl hex hl hvc hg hx hgh hargs hxs fun b => ?_
    cases b with
    | true => exact ⟨vt, et, ht, hxT, hvT, hQT⟩
    | false => exact ⟨vf, ef, hf, hxF, hvF, hQF⟩
end Go.Proofs.YtdabfcbelkjmgaaDoor.Am
