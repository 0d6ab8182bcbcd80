/-
  The abstract machine, A6.
-/
import Derived.Test.YtdabfcbelkjmgaaDoorA5
/-
  The abstract machine, part 30: tables of contracts; an empty slice is claimed as an array of one's own.
-/
namespace Go.Proofs.YtdabfcbelkjmgaaDoor.Am
set_option linter.unusedSimpArgs false
set_option linter.unusedVariables false
open Go

abbrev Spec := List AV → Option (Prop × AV)
def tabF : List (Nat × Spec) → Nat → List AV → Option (Prop × AV)
  | [], _, _ => none
  | (k, s) :: r, f, args => if k = f then s args else tabF r f args
def noE : Nat → List AV → List AV → Option (Prop × AV × List (Nat × AV)) := fun _ _ _ => none
def noP : Nat → List AV → List AV → Option (Prop × Value) := fun _ _ _ => none
def tabOf (l : List (Nat × Spec)) : Tab := ⟨tabF l, false, false, noE, noP⟩
theorem tabOf_f (l : List (Nat × Spec)) : (tabOf l).f = tabF l := rfl
theorem tabOf_w (l : List (Nat × Spec)) : (tabOf l).w = false := rfl
/-- The same contracts; sums wrap. -/
def tabW (l : List (Nat × Spec)) : Tab := ⟨tabF l, true, false, noE, noP⟩
theorem tabW_f (l : List (Nat × Spec)) : (tabW l).f = tabF l := rfl
theorem tabW_w (l : List (Nat × Spec)) : (tabW l).w = true := rfl
theorem tabOf_m (l : List (Nat × Spec)) : (tabOf l).m = false := rfl
theorem tabW_m (l : List (Nat × Spec)) : (tabW l).m = false := rfl
/-- The same contracts; a part of one's own array is cut off by giving the array up. -/
def tabM (l : List (Nat × Spec)) : Tab := ⟨tabF l, false, true, noE, noP⟩
theorem tabM_f (l : List (Nat × Spec)) : (tabM l).f = tabF l := rfl
theorem tabM_w (l : List (Nat × Spec)) : (tabM l).w = false := rfl
theorem tabM_m (l : List (Nat × Spec)) : (tabM l).m = true := rfl
theorem tabM_ok {P : Program} {l : List (Nat × Spec)} (h : TabOK P (tabOf l)) : TabOK P (tabM l) := ⟨h.f, h.e, h.p⟩
theorem tabW_ok {P : Program} {l : List (Nat × Spec)} (h : TabOK P (tabOf l)) : TabOK P (tabW l) := ⟨h.f, h.e, h.p⟩

/-- The function keeps its contract. -/
def FOK (P : Program) (k : Nat) (s : Spec) : Prop := okF P k ∧ ∀ args vc r, s args = some (vc, r) → vc → PCall P k args r

theorem tab_nil {P : Program} : TabOK P (tabOf []) := ⟨fun f args vc r h => (by simp [tabOf, tabF] at h), fun _ _ _ _ _ _ _ h => (by cases h), fun _ _ _ _ _ _ h => (by cases h)⟩
theorem tab_cons {P : Program} {k : Nat} {s : Spec} {l : List (Nat × Spec)} (h : FOK P k s) (hr : TabOK P (tabOf l)) : TabOK P (tabOf ((k, s) :: l)) := by
  refine ⟨fun f args vc r hs hv => ?_, fun _ _ _ _ _ _ _ h => (by cases h), fun _ _ _ _ _ _ h => (by cases h)⟩
  simp only [tabOf, tabF] at hs
  split at hs
  · rename_i e; subst e; exact ⟨h.1, h.2 args vc r hs hv⟩
  · exact hr.f f args vc r hs hv
/-- Contracts with effects beside the others. -/
abbrev ESpec := List AV → List AV → Option (Prop × AV × List (Nat × AV))
abbrev PSpec := List AV → List AV → Option (Prop × Value)
def tabEF : List (Nat × ESpec) → Nat → List AV → List AV → Option (Prop × AV × List (Nat × AV))
  | [], _, _, _ => none
  | (k, s) :: r, f, args, cs => if k = f then s args cs else tabEF r f args cs
def tabPF : List (Nat × PSpec) → Nat → List AV → List AV → Option (Prop × Value)
  | [], _, _, _ => none
  | (k, s) :: r, f, args, cs => if k = f then s args cs else tabPF r f args cs
def tabX (l : List (Nat × Spec)) (le : List (Nat × ESpec)) (lp : List (Nat × PSpec)) : Tab := ⟨tabF l, false, false, tabEF le, tabPF lp⟩
theorem tabX_f (l le lp) : (tabX l le lp).f = tabF l := rfl
theorem tabX_w (l le lp) : (tabX l le lp).w = false := rfl
theorem tabX_m (l le lp) : (tabX l le lp).m = false := rfl
theorem tabX_e (l le lp) : (tabX l le lp).e = tabEF le := rfl
theorem tabX_p (l le lp) : (tabX l le lp).p = tabPF lp := rfl
theorem tabOf_e (l) : (tabOf l).e = noE := rfl
theorem tabW_e (l) : (tabW l).e = noE := rfl
theorem tabM_e (l) : (tabM l).e = noE := rfl
def EOK (P : Program) (k : Nat) (s : ESpec) : Prop := okF P k ∧ ∀ args cells vc r us n, s args cells = some (vc, r, us) → vc → boxOf args = some n → ECall P k n args cells r us
def POK (P : Program) (k : Nat) (s : PSpec) : Prop := okF P k ∧ ∀ args cells vc v n, s args cells = some (vc, v) → vc → boxOf args = some n → PnCall P k n args cells v
theorem tabX_ok {P : Program} {l : List (Nat × Spec)} {le : List (Nat × ESpec)} {lp : List (Nat × PSpec)} (h : TabOK P (tabOf l)) (he : ∀ x ∈ le, EOK P x.1 x.2) (hp : ∀ x ∈ lp, POK P x.1 x.2) : TabOK P (tabX l le lp) := by
  refine ⟨h.f, fun f args cells vc r us n hs hv hb => ?_, fun f args cells vc v n hs hv hb => ?_⟩
  · simp only [tabX] at hs
    induction le with
    | nil => simp [tabEF] at hs
    | cons x le ih =>
      simp only [tabEF] at hs
      split at hs
      · rename_i e; subst e; have := he x (by simp); exact ⟨this.1, this.2 _ _ _ _ _ _ hs hv hb⟩
      · exact ih (fun y hy => he y (by simp [hy])) hs
  · simp only [tabX] at hs
    induction lp with
    | nil => simp [tabPF] at hs
    | cons x le ih =>
      simp only [tabPF] at hs
      split at hs
      · rename_i e; subst e; have := hp x (by simp); exact ⟨this.1, this.2 _ _ _ _ _ hs hv hb⟩
      · exact ih (fun y hy => hp y (by simp [hy])) hs

mutual
theorem wk_pure : ∀ (x y : AV), wk x y → pureA x = true → pureA y = true
  | .sl z f rows d, y, h, hr => by
    cases y with
    | sl z' f' rows' d' => simp [pureA]
    | _ => simp only [wk] at h; cases h
  | .agg a, y, h, hr => by
    cases y with
    | agg b => simp only [wk] at h; simp only [pureA] at hr ⊢; exact wkL_pure a b h hr
    | _ => simp only [wk] at h; cases h
  | .tup a, y, h, hr => by
    cases y with
    | tup b => simp only [wk] at h; simp only [pureA] at hr ⊢; exact wkL_pure a b h hr
    | _ => simp only [wk] at h; cases h
  | .v x, y, h, hr => by simp only [wk] at h; rw [← h]; exact hr
  | .ro _ _, y, h, hr => by simp only [wk] at h; rw [← h]; exact hr
  | .clo _ _ _, y, h, hr => by simp only [wk] at h; rw [← h]; exact hr
  | .box _ _, y, h, hr => by simp only [wk] at h; rw [← h]; exact hr
  | .own _ _, y, h, hr => by simp only [wk] at h; rw [← h]; exact hr
  | .elem _ _ _ _ _, y, h, hr => by simp only [wk] at h; rw [← h]; exact hr
  | .gd _ _, y, h, hr => by simp only [wk] at h; rw [← h]; exact hr
  | .un, y, h, hr => by simp only [wk] at h; rw [← h]; exact hr
theorem wkL_pure : ∀ (xs ys : List AV), wkL xs ys → pureL xs = true → pureL ys = true
  | [], [], _, _ => rfl
  | x :: xs, y :: ys, h, hr => by
    simp only [wkL] at h
    simp only [pureL, Bool.and_eq_true] at hr ⊢
    exact ⟨wk_pure x y h.1 hr.1, wkL_pure xs ys h.2 hr.2⟩
  | [], _ :: _, h, _ => by simp [wkL] at h
  | _ :: _, [], h, _ => by simp [wkL] at h
end

theorem PCall.arg {P : Program} {f : Nat} {args args' : List AV} {r : AV} (hw : wkL args args') (h : PCall P f args' r) : PCall P f args r :=
  fun σ vs hg hl hp hr => h σ vs hg hl (wkL_pure _ _ hw hp) (wkL_sound _ _ _ hw hr)
theorem PCall.res {P : Program} {f : Nat} {args : List AV} {r r' : AV} (hw : wk r r') (h : PCall P f args r) : PCall P f args r' :=
  fun σ vs hg hl hp hr => (h σ vs hg hl hp hr).mono fun e w' ⟨v, h1, h2, h0, h3, h4⟩ => ⟨v, h1, h2, h0, wk_pure _ _ hw h3, wk_sound _ _ _ hw h4⟩

theorem K_id {Q : AE → St → Prop} {e : AE} {s : St} (h : Q e s) : Q e s := h
theorem awp_id {Γ : Ctx} {c : AC} {Q : AE → St → Prop} {s : St} (h : awp Γ c Q s) : awp Γ c Q s := h
theorem fn_S {P : Program} {S : Tab} {nt hb : Nat} : (Ctx.fn P S nt hb).S = S := rfl
theorem rd_S {P : Program} {S : Tab} {nt l : Nat} : (Ctx.rd P S nt l).S = S := rfl
theorem it_S {P : Program} {F : Fence} {S : Tab} {nt hb : Nat} {J : Int → Cf → Prop} {hnt : nt ≤ gs} {evo : ∀ {k : Int} {σ σ' : Cf}, J k σ → Evo σ σ' → J k σ'} : (Ctx.it P F S nt hb J hnt evo).S = S := rfl

theorem inlR_n {S : Tab} {rid i : Nat} {d : Option Nat} {post : List AOp} {e1 : Env} {Q : AE → St → Prop} {rvs : List RV} {e : Env} {h : Hp} {c : Nat} {vc : Prop} {xs : List AV} {vc2 : Prop} {e2 : Env} {h2 : Hp} (h1 : exRVs e h rvs = some (vc, xs)) (hv : vc)
    (hx : exops S (c + 1) (100 * rid + (i + 1)) post (putE d (one xs) e1) h = some (vc2, e2, h2)) (hv2 : vc2) (hQ : Q .n ⟨e2, h2, c + 1⟩) : inlK rvs (restK S rid i d post e1 Q) .n ⟨e, h, c⟩ := ⟨vc, xs, h1, hv, vc2, e2, h2, hx, hv2, hQ⟩
theorem inlR_r {S : Tab} {rid i : Nat} {d : Option Nat} {post : List AOp} {e1 : Env} {Q : AE → St → Prop} {rvs : List RV} {e : Env} {h : Hp} {c : Nat} {vc : Prop} {xs : List AV} {vc2 : Prop} {e2 : Env} {h2 : Hp} (h1 : exRVs e h rvs = some (vc, xs)) (hv : vc)
    (hx : exops S (c + 1) (100 * rid + (i + 1)) post (putE d (one xs) e1) h = some (vc2, e2, h2)) (hv2 : vc2) (hQ : Q .n ⟨e2, h2, c + 1⟩) : inlK rvs (restK S rid i d post e1 Q) .r ⟨e, h, c⟩ := ⟨vc, xs, h1, hv, vc2, e2, h2, hx, hv2, hQ⟩

theorem awp_inlF {P : Program} {S : Tab} {nt hb : Nat} (hS : TabOK P S) (i : Nat) {rid : Nat} {ops post : List AOp} {d : Option Nat} {g : Option (Nat × Bool)} {k : AK} {Q : AE → St → Prop} {e e1 : Env} {h h1 : Hp} {c : Nat} {vc : Prop} {f : Nat} {args : List AV} {fn : Func} {ac : AC} {rvs : List RV} {ntf : Nat}
    (hf : P.funcs[f]? = some fn) (hcf : cFun P fn = some (ac, rvs)) (hnt : fn.ntmps = ntf) (hok : okF P f) (hyo : ops[i]? = some ⟨d, g, k⟩) (hpost : ops.drop (i + 1) = post) (hex : exops S (c + 1) (100 * rid) (ops.take i) e h = some (vc, e1, h1)) (hvc : vc) (hg : gval e1 g = some true)
    (hca : callOf e1 k = some (f, args)) (hn : args.length ≤ ntf) (hbody : ∀ hb, awp (Ctx.fn P S ntf hb) ac (inlK rvs (restK S rid i d post e1 Q)) ⟨envOf 0 args, h1, c + 1⟩) : awp (Ctx.fn P S nt hb) (.reg rid ops) Q ⟨e, h, c⟩ := by
  subst hpost
  exact awp_inl (Ctx.fn_ok hS) i hf hcf hnt hok hyo hex hvc hg hca hn hbody
theorem awp_inlR {P : Program} {S : Tab} {nt l : Nat} (hS : TabOK P S) (i : Nat) {rid : Nat} {ops post : List AOp} {d : Option Nat} {g : Option (Nat × Bool)} {k : AK} {Q : AE → St → Prop} {e e1 : Env} {h h1 : Hp} {c : Nat} {vc : Prop} {f : Nat} {args : List AV} {fn : Func} {ac : AC} {rvs : List RV} {ntf : Nat}
    (hf : P.funcs[f]? = some fn) (hcf : cFun P fn = some (ac, rvs)) (hnt : fn.ntmps = ntf) (hok : okF P f) (hyo : ops[i]? = some ⟨d, g, k⟩) (hpost : ops.drop (i + 1) = post) (hex : exops S (c + 1) (100 * rid) (ops.take i) e h = some (vc, e1, h1)) (hvc : vc) (hg : gval e1 g = some true)
    (hca : callOf e1 k = some (f, args)) (hn : args.length ≤ ntf) (hbody : ∀ hb, awp (Ctx.fn P S ntf hb) ac (inlK rvs (restK S rid i d post e1 Q)) ⟨envOf 0 args, h1, c + 1⟩) : awp (Ctx.rd P S nt l) (.reg rid ops) Q ⟨e, h, c⟩ := by
  subst hpost
  exact awp_inl (Ctx.rd_ok hS) i hf hcf hnt hok hyo hex hvc hg hca hn hbody

theorem awp_yieldF {P : Program} {S : Tab} {nt hb : Nat} {J : Int → Cf → Prop} {hnt : nt ≤ gs} {evo : ∀ {k : Int} {σ σ' : Cf}, J k σ → Evo σ σ' → J k σ'} {l : Nat} {xs : List (List AV)}
    (hS : TabOK P S) (hR : Rng P Fence.wide l hb xs J) (i : Nat) {rid : Nat} {ops post : List AOp} {d : Option Nat} {g : Option (Nat × Bool)} {Q : AE → St → Prop} {e e1 : Env} {h h1 : Hp} {c : Nat} {vc : Prop} {x : Opd} {as : List Opd} {k : Nat} {args : List AV} {vt vf : Prop} {et ef : Env} {ht hf : Hp}
    (hyo : ops[i]? = some ⟨d, g, .cv x as⟩) (hpost : ops.drop (i + 1) = post) (hex : exops S (c + 1) (100 * rid) (ops.take i) e h = some (vc, e1, h1)) (hvc : vc) (hg : gval e1 g = some true) (hx : ung true (opv e1 x) = .clo (.yield l) [] [])
    (hgh : lk e gs = ghost k) (hargs : as.map (fun x => ung true (opv e1 x)) = args) (hxs : xs[k]? = some args)
    (hxT : exops S (c + 1) (100 * rid + (i + 1)) post (putE d (.v (.bool true)) ((gs, ghost (k + 1)) :: e1)) h1 = some (vt, et, ht)) (hvT : vt) (hQT : Q .n ⟨et, ht, c + 1⟩)
    (hxF : exops S (c + 1) (100 * rid + (i + 1)) post (putE d (.v (.bool false)) ((gs, ghost (-1)) :: e1)) h1 = some (vf, ef, hf)) (hvF : vf) (hQF : Q .n ⟨ef, hf, c + 1⟩) :
    awp (Ctx.it P Fence.wide S nt hb J hnt evo) (.reg rid ops) Q ⟨e, h, c⟩ := by
  subst hpost
  refine awp_yield hS hR i hyo rfl hex hvc hg hx hgh hargs hxs fun b => ?_
  cases b with
  | true => exact ⟨vt, et, ht, hxT, hvT, hQT⟩
  | false => exact ⟨vf, ef, hf, hxF, hvF, hQF⟩
theorem awp_cp {Γ : Ctx} (p : Prop) [Decidable p] {b : Bool} {cc : Opd} {x y : AC} {Q : AE → St → Prop} {e : Env} {h : Hp} {c : Nat} (hb : ung true (opv e cc) = .v (.bool b)) (hp : b = decide p) (ht : p → awp Γ x Q ⟨e, h, c⟩) (hf : ¬ p → awp Γ y Q ⟨e, h, c⟩) : awp Γ (.cond cc x y) Q ⟨e, h, c⟩ := by
  subst hp
  exact awp_cd hb ht hf
theorem Ctx.it_ok {P : Program} {S : Tab} {nt hb : Nat} {J : Int → Cf → Prop} {hnt : nt ≤ gs} {evo : ∀ {k : Int} {σ σ' : Cf}, J k σ → Evo σ σ' → J k σ'} (h : TabOK P S) : (Ctx.it P Fence.wide S nt hb J hnt evo).OK := ⟨h, .inl (Eq.refl _)⟩
abbrev YieldRule (Γ : Ctx) (l : Nat) (xs : List (List AV)) : Prop := ∀ (i : Nat) {rid : Nat} {ops post : List AOp} {d : Option Nat} {g : Option (Nat × Bool)} {Q : AE → St → Prop} {e e1 : Env} {h h1 : Hp} {c : Nat} {vc : Prop} {x : Opd} {as : List Opd} {k : Nat} {args : List AV} {vt vf : Prop} {et ef : Env} {ht hf : Hp}
    (_ : ops[i]? = some ⟨d, g, .cv x as⟩) (_ : ops.drop (i + 1) = post) (_ : exops Γ.S (c + 1) (100 * rid) (ops.take i) e h = some (vc, e1, h1)) (_ : vc) (_ : gval e1 g = some true) (_ : ung true (opv e1 x) = .clo (.yield l) [] [])
    (_ : lk e gs = ghost k) (_ : as.map (fun x => ung true (opv e1 x)) = args) (_ : xs[k]? = some args)
    (_ : exops Γ.S (c + 1) (100 * rid + (i + 1)) post (putE d (.v (.bool true)) ((gs, ghost (k + 1)) :: e1)) h1 = some (vt, et, ht)) (_ : vt) (_ : Q .n ⟨et, ht, c + 1⟩)
    (_ : exops Γ.S (c + 1) (100 * rid + (i + 1)) post (putE d (.v (.bool false)) ((gs, ghost (-1)) :: e1)) h1 = some (vf, ef, hf)) (_ : vf) (_ : Q .n ⟨ef, hf, c + 1⟩), awp Γ (.reg rid ops) Q ⟨e, h, c⟩

theorem itc_fnF {P : Program} {S : Tab} (hS : TabOK P S) {f : Nat} {fn : Func} {c : AC} {fst cps : List AV} {xs : List (List AV)} (nt : Nat) (hf : P.funcs[f]? = some fn) (hc : cFun P fn = some (c, [])) (hnt : fn.ntmps = nt) (hgs : nt ≤ gs)
    (hn : (fst ++ cps).length < nt)
    (h : ∀ (l : Nat) (Γ : Ctx), Γ.OK → Γ.S = S → YieldRule Γ l xs → awp Γ c (itK xs.length) ⟨(gs, ghost 0) :: envOf 0 (fst ++ AV.clo (.yield l) [] [] :: cps), [], 0⟩) : ItC P f fst cps xs :=
  itc_fn hS nt hf hc hnt hgs hn fun l hb J evo hR => h l _ (Ctx.it_ok hS) (Eq.refl _) fun i => awp_yieldF hS hR i
theorem asgK_n {Γ : Ctx} {b : AC} {Q : AE → St → Prop} {s : St} (h : awp Γ b Q s) : asgK Γ b Q .n s := h
theorem rngK_n {X : Type} {e e' : Env} {I : X → Hp × Nat} {Pre : X → Prop} {K : X → Nat} {j : Nat} {Q : AE → St → Prop} {h : Hp} {c : Nat} (x : X) (h1 : Pre x) (h2 : K x = j) (h3 : Le ⟨e, (I x).1, (I x).2⟩ ⟨e, h, c⟩) : rngK e I Pre K j Q .n ⟨e', h, c⟩ := ⟨x, h1, h2, h3⟩
theorem rngK_x {X : Type} {e e' : Env} {I : X → Hp × Nat} {Pre : X → Prop} {K : X → Nat} {j i : Nat} {Q : AE → St → Prop} {h : Hp} {c : Nat} (hq : Q (.x i) ⟨e, h, c⟩) : rngK e I Pre K j Q (.x i) ⟨e', h, c⟩ := hq
theorem rngK_r {X : Type} {e e' : Env} {I : X → Hp × Nat} {Pre : X → Prop} {K : X → Nat} {j : Nat} {Q : AE → St → Prop} {h : Hp} {c : Nat} (hq : Q .r ⟨e, h, c⟩) : rngK e I Pre K j Q .r ⟨e', h, c⟩ := hq
theorem Le.of {e e' : Env} {h h' : Hp} {c c' : Nat} (h1 : leE e' e) (h2 : leH h' h) (h3 : c ≤ c') : Le ⟨e', h', c'⟩ ⟨e, h, c⟩ := ⟨h1, h2, h3⟩
theorem leE_refl (e : Env) (hn : e.Pairwise fun a b => a.1 ≠ b.1) : leE e e := by
  have key : ∀ (l : Env) (e : Env), (∀ p ∈ l, lk e p.1 = p.2) → leE l e := by
    intro l
    induction l with
    | nil => intro e _; trivial
    | cons p l ih => intro e h; exact ⟨h p (by simp), ih e fun q hq => h q (by simp [hq])⟩
  refine key e e ?_
  induction e with
  | nil => simp
  | cons p l ih =>
    rw [List.pairwise_cons] at hn
    intro q hq
    rcases List.mem_cons.1 hq with rfl | hq
    · simp [lk]
    · simp only [lk]
      rw [if_neg (hn.1 q hq)]
      exact ih hn.2 q hq
theorem itK_n {n : Nat} {s : St} (h : lk s.env gs = ghost n) : itK n .n s := .inl h
theorem itK_r {n : Nat} {s : St} (h : lk s.env gs = ghost n) : itK n .r s := .inl h
theorem itK_n' {n : Nat} {s : St} (h : lk s.env gs = ghost (-1)) : itK n .n s := .inr h
theorem itK_r' {n : Nat} {s : St} (h : lk s.env gs = ghost (-1)) : itK n .r s := .inr h

section
variable {Γ : Ctx}

/-- The memory in which n is an empty array with this base. -/
def Cf.claim (σ : Cf) (n : Nm) (base : Option Addr) : Cf :=
  { σ with ra := fun m => if m = n then (base, 0) else σ.ra m, ln := fun m => if m = n then some 0 else σ.ln m, al := fun m => σ.al m ∨ m = n }

theorem Evo.claim {σ : Cf} {n : Nm} (hn : ¬ σ.al n) (base : Option Addr) : Evo σ (σ.claim n base) where
  box m hm := ⟨.inl hm, rfl⟩
  arr m hm l hl := by
    have : ¬ m = n := by rintro rfl; exact hn hm
    simp only [Cf.claim, if_neg this] at hl ⊢
    exact ⟨l, hl, Nat.le_refl _, fun _ => trivial⟩
  fro b o h h' := ⟨h, h'⟩
  out := rfl
  sz := Nat.le_refl _
  io := SameO.refl _

theorem Rep.claim {σ : Cf} {n : Nm} {base : Option Addr} : Rep (σ.claim n base) (.own n 0) (.slice base 0 0) := by
  simp only [Rep]
  refine ⟨.inr rfl, rfl, fun l hl => ?_⟩
  simp only [Cf.claim, if_true, Option.some.injEq] at hl ⊢
  subst hl
  exact ⟨Nat.le_refl _, fun _ => trivial⟩

theorem HInv.claim {σ : Cf} {hp : Hp} (h : HInv σ hp) {n : Nm} (hn : ¬ σ.al n) (base : Option Addr) {z : Nat} (hz : 0 < z) (d : List AV) : HInv (σ.claim n base) ((.a n, .sl z true [] d) :: hp) where
  ln m := by
    simp only [Cf.claim, lenOf, hl]
    by_cases hm : m = n
    · subst hm; simp
    · rw [if_neg hm, if_neg (by intro e; cases e; exact hm rfl)]; exact h.ln m
  cel m j c hc := by
    simp only [hl] at hc
    rw [if_neg (by intro e; cases e)] at hc
    have k := h.cel m j c hc
    exact k.keep (Evo.claim hn base) k.2.1 rfl
  arr m sz live rows d' hc := by
    simp only [hl] at hc
    by_cases hm : m = n
    · subst hm
      simp at hc
      obtain ⟨rfl, rfl, rfl, rfl⟩ := hc
      exact ⟨.inr rfl, hz, by simp, .inl ⟨base, by simp [Cf.claim], rfl⟩⟩
    · rw [if_neg (by intro e; cases e; exact hm rfl)] at hc
      exact (h.arr m sz live rows d' hc).keep (Evo.claim hn base) (by simp [Cf.claim, hm]) fun _ _ _ _ _ _ hM => ⟨hM, rfl⟩
  inj p q b hp' hq' := by
    have key : ∀ p b, Owns (σ.claim n base) ((.a n, .sl z true [] d) :: hp) p b → Owns σ hp p b := by
      rintro p b (⟨g1, g2, j, c, g3⟩ | ⟨g1, ⟨sz, rows, d', g2⟩, o, cap, g3, g4⟩)
      · simp only [hl] at g3
        rw [if_neg (by intro e; cases e)] at g3
        exact .inl ⟨g1, g2, j, c, g3⟩
      · by_cases hm : p.2 = n
        · simp [Cf.claim, hm] at g3; omega
        · simp only [hl] at g2
          rw [if_neg (by intro e; cases e; exact hm rfl)] at g2
          simp only [Cf.claim, if_neg hm] at g3
          exact .inr ⟨g1, ⟨sz, rows, d', g2⟩, o, cap, g3, g4⟩
    exact h.inj p q b (key p b hp') (key q b hq')
  lt := h.lt
  ou := h.ou
  dis := h.dis

theorem rep_empty {σ : Cf} {z : Nat} {d : List AV} {v : Value} (h : Rep σ (.sl z true [] d) v) : ∃ base, v = .slice base 0 0 := by
  simp only [Rep] at h
  obtain ⟨base, cap, h1, _, h3, _⟩ := h
  have := h3 trivial
  simp at this
  subst this
  exact ⟨base, h1⟩

/-- What a temporary holds, an empty slice, is claimed. -/
theorem awp_claimEk (kn t z : Nat) (zs : List AV) {x : AC} {Q : AE → St → Prop} {e : Env} {h : Hp} {c z0 : Nat} {d : List AV} (ht : t < Γ.nt) (hz : 0 < z) (he : lk e t = .sl z0 true [] d)
    (hQ : awp Γ x Q ⟨(t, .own (kn, c + 1) 0) :: e, (.a (kn, c + 1), .sl z true [] zs) :: h, c + 1⟩) : awp Γ x Q ⟨e, h, c⟩ := by
  intro code hc σ a hA
  have hr := hA.1.t t
  rw [he] at hr
  obtain ⟨base, hv⟩ := rep_empty hr
  have hn : ¬ σ.al (kn, c + 1) := fun hm => by have := hA.2.1 _ hm; simp at this; omega
  have ev := Evo.claim hn base
  refine wpIn_mono (hQ code hc (σ.claim (kn, c + 1) base) a ⟨⟨hA.1.h.claim hn base hz zs, fun t' => ?_, hA.1.sz, (hA.1.df.mono ev).un (.inr (lk_dk ht))⟩, fun m hm => ?_, Γ.g hA.2.2 ev fun t' ht' => ?_⟩) fun e a w k => k.mono (Γ.ofE ev)
  · simp only [lk]
    by_cases e : t = t'
    · subst e
      rw [if_pos rfl, hv]
      exact Rep.claim
    · rw [if_neg e]; exact (hA.1.t t').mono ev
  · rcases hm with hm | rfl
    · have := hA.2.1 m hm; simp at this ⊢; omega
    · simp
  · right
    simp only [lk]
    rw [if_neg (by omega)]

/-- What a cell holds, an empty slice, is claimed. -/
theorem awp_claimCk (kn : Nat) (m : Nm) (j z : Nat) (zs : List AV) {x : AC} {Q : AE → St → Prop} {e : Env} {h : Hp} {c z0 : Nat} {d : List AV} (hz : 0 < z) (he : hl h (.c m j) = some (.sl z0 true [] d))
    (hQ : awp Γ x Q ⟨e, (.c m j, .own (kn, c + 1) 0) :: (.a (kn, c + 1), .sl z true [] zs) :: h, c + 1⟩) : awp Γ x Q ⟨e, h, c⟩ := by
  intro code hc σ a hA
  obtain ⟨k1, k2, cs, T, v, k3, k4, k5, k6⟩ := hA.1.h.cel m j _ he
  obtain ⟨base, rfl⟩ := rep_empty k6
  have hn : ¬ σ.al (kn, c + 1) := fun hm => by have := hA.2.1 _ hm; simp at this; omega
  have ev := Evo.claim hn base
  have hI := hA.1.h.claim hn base hz zs
  refine wpIn_mono (hQ code hc (σ.claim (kn, c + 1) base) a ⟨⟨⟨fun n' => ?_, fun n' j' c' hc' => ?_, fun n' sz live rows d' hc' => ?_, fun p q b hp hq => ?_, hI.lt, hI.ou, hI.dis⟩, fun t' => (hA.1.t t').mono ev, hA.1.sz, hA.1.df.mono ev⟩, fun m hm => ?_, Γ.g hA.2.2 ev fun t' ht' => .inr rfl⟩) fun e a w k => k.mono (Γ.ofE ev)
  · have := hI.ln n'
    simpa only [lenOf, hl, if_neg (show ¬ Loc.c m j = Loc.a n' by intro e; cases e)] using this
  · simp only [hl] at hc'
    by_cases e : Loc.c m j = Loc.c n' j'
    · rw [if_pos e] at hc'
      cases e
      simp at hc'
      subst hc'
      exact ⟨.inl k1, k2, cs, T, _, k3, k4, k5, Rep.claim⟩
    · rw [if_neg e] at hc'
      exact hI.cel n' j' c' hc'
  · simp only [hl, if_neg (show ¬ Loc.c m j = Loc.a n' by intro e; cases e)] at hc'
    exact hI.arr n' sz live rows d' hc'
  · have key : ∀ p b, Owns (σ.claim (kn, c + 1) base) ((.c m j, .own (kn, c + 1) 0) :: (.a (kn, c + 1), .sl z true [] zs) :: h) p b → Owns (σ.claim (kn, c + 1) base) ((.a (kn, c + 1), .sl z true [] zs) :: h) p b := by
      rintro p b (⟨g1, g2, j', c', g3⟩ | ⟨g1, ⟨sz, rows, d', g2⟩, o, cap, g3, g4⟩)
      · simp only [hl] at g3
        by_cases e : Loc.c m j = Loc.c p.2 j'
        · cases e
          refine .inl ⟨g1, g2, j, .sl z0 true [] d, ?_⟩
          simp only [hl]
          rw [if_neg (by intro e; cases e)]
          exact he
        · rw [if_neg e] at g3
          exact .inl ⟨g1, g2, j', c', g3⟩
      · simp only [hl] at g2
        rw [if_neg (by intro e; cases e)] at g2
        exact .inr ⟨g1, ⟨sz, rows, d', g2⟩, o, cap, g3, g4⟩
    exact hI.inj p q b (key p b hp) (key q b hq)
  · rcases hm with hm | rfl
    · have := hA.2.1 _ hm; simp at this ⊢; omega
    · simp
theorem awp_claimE (t z : Nat) (zs : List AV) {x : AC} {Q : AE → St → Prop} {e : Env} {h : Hp} {c z0 : Nat} {d : List AV} (ht : t < Γ.nt) (hz : 0 < z) (he : lk e t = .sl z0 true [] d)
    (hQ : awp Γ x Q ⟨(t, .own (0, c + 1) 0) :: e, (.a (0, c + 1), .sl z true [] zs) :: h, c + 1⟩) : awp Γ x Q ⟨e, h, c⟩ := awp_claimEk 0 t z zs ht hz he hQ
theorem awp_claimC (m : Nm) (j z : Nat) (zs : List AV) {x : AC} {Q : AE → St → Prop} {e : Env} {h : Hp} {c z0 : Nat} {d : List AV} (hz : 0 < z) (he : hl h (.c m j) = some (.sl z0 true [] d))
    (hQ : awp Γ x Q ⟨e, (.c m j, .own (0, c + 1) 0) :: (.a (0, c + 1), .sl z true [] zs) :: h, c + 1⟩) : awp Γ x Q ⟨e, h, c⟩ := awp_claimCk 0 m j z zs hz he hQ
end
end Go.Proofs.YtdabfcbelkjmgaaDoor.Am
/-
  The abstract machine, part 34: what its operations are reckoned by.
-/
namespace Go.Proofs.YtdabfcbelkjmgaaDoor
set_option linter.unusedSimpArgs false
set_option linter.unusedVariables false
attribute [go_sem] Am.exops Am.exdr Am.unOK Am.disj Am.hasL Am.covB Am.ht Am.hw Am.rdO Am.rdK Am.rdV Am.rdL Am.rdLd Am.rdSt Am.cellLocs Am.own1 List.getD_cons_zero List.getD_cons_succ List.any_cons List.any_nil List.flatMap_cons List.flatMap_nil Am.putps Am.beq_f Am.beq_t Am.exop Am.exK Am.exPick Am.exBox Am.exBuild Am.exBsl Am.exLd Am.tabX_f Am.tabX_w Am.tabX_m Am.tabX_e Am.tabX_p Am.tabOf_e Am.tabW_e Am.tabM_e Am.noE Am.noP Am.tabEF Am.tabPF Am.boxOf Am.oneBox Am.capC_nil Am.capC_a Am.capC_c Am.wsOf Am.gcells Am.exPr Am.exB2s Am.bL_sB Am.sB_bL Am.exSt Am.exFa Am.exFld Am.exIa Am.exIaA Am.exIdxA Am.exEqs Am.exNils Am.eqJoin Am.exExt Am.exLen Am.exMm Am.exNil Am.exCnv Am.exCv Am.exCall Am.exApp Am.exSlc Am.slRows Am.loB Am.asI Am.exBin Am.exUn Am.cmpB Am.arB Am.eqCells Am.mmL Am.mm2 Am.fillA Am.fillR Am.over Am.cut Am.hcut Am.sput Am.newc Am.mkv Am.vr Am.srows Am.res Am.resL Am.res1 Am.rvc Am.rvcL Am.rvc1 Am.rvc1L Am.bcells Am.ons Am.onsL Am.nob Am.nobL Am.flat Am.flatL Am.pureA Am.pureL Am.frz Am.putE Am.lk Am.hl Am.ung Am.opv Am.gval Am.gb Am.AV.cells Am.oneC Am.inR Am.envOf Am.imp_self Am.imp_true Am.imp_right Am.imp_false Am.imp_and_left Am.imp_and_right Am.exRV Am.exRVs Am.one Am.wk Am.wkL Am.leE Am.leH Go.undef Am.gs Am.fn_S Am.rd_S Am.it_S Am.tabF Am.tabOf_f Am.tabOf_w Am.tabW_f Am.tabW_w Am.tabOf_m Am.tabW_m Am.tabM_f Am.tabM_w Am.tabM_m Am.exSlcM Am.exAppn Am.exCap Am.exBinM Am.exBinW Am.wrapB Am.callOf List.take_succ_cons List.take_zero List.drop_succ_cons List.drop_zero List.length_map Option.map_some Option.map_none Option.getD_some Option.getD_none List.map_cons List.map_nil List.length_cons List.length_nil List.append_nil List.nil_append List.cons_append List.isEmpty_cons List.isEmpty_nil List.replicate_succ List.replicate_zero List.all_cons List.all_nil List.set_cons_zero List.set_cons_succ List.getElem?_cons_zero List.getElem?_cons_succ Array.toList_map true_or or_true or_false false_or Am.Loc.c.injEq Am.Loc.a.injEq Prod.mk.injEq and_true true_and and_false false_and if_true if_false ite_true ite_false cond_true cond_false Bool.and_true Bool.true_and Bool.and_false Bool.false_and Bool.not_true Bool.not_false Bool.or_true Bool.or_false Bool.true_or Bool.false_or Bool.cond_false_right Bool.cond_true_left beq_self_eq_true List.length_append Int.toNat_natCast Int.cast_ofNat_Int Nat.zero_add Nat.add_zero eq_self implies_true true_implies false_implies Bool.false_eq_true Bool.true_eq_false decide_true decide_false not_true_eq_false not_false_eq_true
end Go.Proofs.YtdabfcbelkjmgaaDoor
namespace Go.Proofs.YtdabfcbelkjmgaaDoor.Am
open Go
section
variable {Γ : Ctx}
/-! The rules in one form: what is fit, two reckonings, a condition, what follows. -/
theorem awp_sr5 (hΓ : Γ.OK) {rid : Nat} {ops : List AOp} {b : AC} {Q : AE → St → Prop} {e e' : Env} {h h' : Hp} {c : Nat} {vc : Prop} (hex : exops Γ.S (c + 1) (100 * rid) ops e h = some (vc, e', h')) (_ : True) (hvc : vc)
    (hQ : awp Γ b Q ⟨e', h', c + 1⟩) : awp Γ (.seq (.reg rid ops) b) Q ⟨e, h, c⟩ := awp_sr hΓ hex hvc hQ
theorem awp_r5 (hΓ : Γ.OK) {rid : Nat} {ops : List AOp} {Q : AE → St → Prop} {e e' : Env} {h h' : Hp} {c : Nat} {vc : Prop} (hex : exops Γ.S (c + 1) (100 * rid) ops e h = some (vc, e', h')) (_ : True) (hvc : vc)
    (hQ : Q .n ⟨e', h', c + 1⟩) : awp Γ (.reg rid ops) Q ⟨e, h, c⟩ := awp_r hΓ hex hvc hQ
end
theorem inlR_n5 (_ : True) {S : Tab} {rid i : Nat} {d : Option Nat} {post : List AOp} {e1 : Env} {Q : AE → St → Prop} {rvs : List RV} {e : Env} {h : Hp} {c : Nat} {vc : Prop} {xs : List AV} {vc2 : Prop} {e2 : Env} {h2 : Hp} (h1 : exRVs e h rvs = some (vc, xs))
    (hx : exops S (c + 1) (100 * rid + (i + 1)) post (putE d (one xs) e1) h = some (vc2, e2, h2)) (hv : vc) (hv2 : vc2) (hQ : Q .n ⟨e2, h2, c + 1⟩) : inlK rvs (restK S rid i d post e1 Q) .n ⟨e, h, c⟩ := inlR_n h1 hv hx hv2 hQ
theorem inlR_r5 (_ : True) {S : Tab} {rid i : Nat} {d : Option Nat} {post : List AOp} {e1 : Env} {Q : AE → St → Prop} {rvs : List RV} {e : Env} {h : Hp} {c : Nat} {vc : Prop} {xs : List AV} {vc2 : Prop} {e2 : Env} {h2 : Hp} (h1 : exRVs e h rvs = some (vc, xs))
    (hx : exops S (c + 1) (100 * rid + (i + 1)) post (putE d (one xs) e1) h = some (vc2, e2, h2)) (hv : vc) (hv2 : vc2) (hQ : Q .n ⟨e2, h2, c + 1⟩) : inlK rvs (restK S rid i d post e1 Q) .r ⟨e, h, c⟩ := inlR_r h1 hv hx hv2 hQ
end Go.Proofs.YtdabfcbelkjmgaaDoor.Am
