/-
  The abstract machine, part 15: what an operation's step hangs on.
-/
import Derived.Test.YtmmfbjmjhjmccaaAm14
namespace Go.Proofs.Ytmmfbjmjhjmccaa.Am
set_option linter.unusedSimpArgs false
set_option linter.unusedVariables false
open Go

/-- What is looked at: a place, or all cells of a box. -/
inductive Tch where
  | l (x : Loc)
  | b (n : Nm)
  deriving Inhabited

def cov : Tch → Loc → Prop
  | .l x, y => x = y
  | .b n, y => ∃ j, y = .c n j

/-- n cells from o on. -/
def cellLocs (n : Nm) : Nat → Nat → List Tch
  | _, 0 => []
  | o, k + 1 => .l (.c n o) :: cellLocs n (o + 1) k

def own1 : AV → List Tch
  | .own m _ => [.l (.a m)]
  | _ => []
mutual
def rdV (hp : Hp) : AV → List Tch
  | .own n _ => [.l (.a n)]
  | .elem n _ _ _ _ => [.l (.a n)]
  | .box n _ => .b n :: (bcells hp n 0 40).flatMap own1
  | .agg cs => rdL hp cs
  | .tup cs => rdL hp cs
  | .clo _ xs ys => rdL hp xs ++ rdL hp ys
  | _ => []
def rdL (hp : Hp) : List AV → List Tch
  | [] => []
  | c :: cs => rdV hp c ++ rdL hp cs
end

def rdLd (sz : Nat) : AV → List Tch
  | .box n o => cellLocs n o sz
  | .elem n _ _ _ _ => [.l (.a n)]
  | _ => []
def rdSt (hp : Hp) (sz : Nat) (a x : AV) : List Tch :=
  match a with
  | .box n o => cellLocs n o sz
  | .elem n _ _ _ _ => [.l (.a n)] ++ (match x.cells with | some cs => rdL hp cs | none => [])
  | _ => []

def rdK (env : Env) (hp : Hp) (g : Bool) : AK → List Tch
  | .ld sz _ x => rdLd sz (ung g (opv env x))
  | .st sz a x => rdSt hp sz (ung g (opv env a)) (ung g (opv env x))
  | .ia _ x _ => rdV hp (ung g (opv env x))
  | .len x => rdV hp (ung g (opv env x))
  | .app _ _ _ s x => rdV hp (ung g (opv env s)) ++ rdV hp (ung g (opv env x))
  | .slc _ x _ _ _ => rdV hp (ung g (opv env x))
  | .bsl _ _ _ ps => rdL hp ((ps.map fun (i, x) => (i, ung g (opv env x))).map (·.2))
  | .call _ as => rdL hp (as.map fun x => ung g (opv env x))
  | .cv x as => rdV hp (ung g (opv env x)) ++ rdL hp (as.map fun x => ung g (opv env x))
  | .mv _ | .pick _ _ _ | .box _ _ | .alloc _ | .build _ _ | .fa _ _ | .fld _ _ _ _ | .iaA _ _ _ _ | .idxA _ _ _ _ _ => []
  | .bin _ _ _ _ | .un _ _ | .ext _ _ | .mm _ _ | .mkf _ _ _ | .nilc _ | .cnv _ _ | .bad => []

def Ag (hp hp' : Hp) (L : List Tch) : Prop := ∀ t ∈ L, ∀ l, cov t l → hl hp l = hl hp' l

theorem Ag.left {hp hp' : Hp} {L M : List Tch} (h : Ag hp hp' (L ++ M)) : Ag hp hp' L := fun l hl => h l (List.mem_append.2 (.inl hl))
theorem Ag.right {hp hp' : Hp} {L M : List Tch} (h : Ag hp hp' (L ++ M)) : Ag hp hp' M := fun l hl => h l (List.mem_append.2 (.inr hl))
theorem Ag.head {hp hp' : Hp} {l : Loc} {L : List Tch} (h : Ag hp hp' (.l l :: L)) : hl hp l = hl hp' l := h (.l l) (by simp) l rfl
theorem Ag.headb {hp hp' : Hp} {n : Nm} {L : List Tch} (h : Ag hp hp' (.b n :: L)) (j : Nat) : hl hp (.c n j) = hl hp' (.c n j) := h (.b n) (by simp) _ ⟨j, rfl⟩
theorem Ag.tail {hp hp' : Hp} {l : Tch} {L : List Tch} (h : Ag hp hp' (l :: L)) : Ag hp hp' L := fun m hm => h m (by simp [hm])

theorem hcut_congr {hp hp' : Hp} {n : Nm} : ∀ {k o : Nat}, Ag hp hp' (cellLocs n o k) → hcut hp n o k = hcut hp' n o k
  | 0, _, _ => rfl
  | k + 1, o, h => by
    simp only [cellLocs] at h
    simp only [hcut, h.head, hcut_congr h.tail]

theorem sput_congr {hp hp' : Hp} {n : Nm} : ∀ {cs : List AV} {o : Nat}, Ag hp hp' (cellLocs n o cs.length) → sput hp n o cs = sput hp' n o cs
  | [], _, _ => rfl
  | c :: cs, o, h => by
    simp only [List.length_cons, cellLocs] at h
    simp only [sput, h.head, sput_congr h.tail]

theorem bcells_congr {hp hp' : Hp} {n : Nm} (h : ∀ j, hl hp (.c n j) = hl hp' (.c n j)) : ∀ {k o : Nat}, bcells hp n o k = bcells hp' n o k
  | 0, _ => rfl
  | k + 1, o => by simp only [bcells, h o, bcells_congr h (k := k) (o := o + 1)]

theorem res1_congr {hp hp' : Hp} {c : AV} (h : Ag hp hp' (own1 c)) : res1 hp c = res1 hp' c ∧ rvc1 hp c = rvc1 hp' c := by
  cases c with
  | own m l => simp only [own1] at h; simp only [res1, rvc1, h.head]; exact ⟨trivial, trivial⟩
  | _ => exact ⟨rfl, rfl⟩

theorem res1s_congr {hp hp' : Hp} : ∀ {cs : List AV}, Ag hp hp' (cs.flatMap own1) → cs.map (res1 hp) = cs.map (res1 hp') ∧ rvc1L hp cs = rvc1L hp' cs
  | [], _ => ⟨rfl, rfl⟩
  | c :: cs, h => by
    simp only [List.flatMap_cons] at h
    obtain ⟨h1, h2⟩ := res1_congr h.left
    obtain ⟨h3, h4⟩ := res1s_congr h.right
    simp only [List.map_cons, rvc1L, h1, h2, h3, h4]; exact ⟨trivial, trivial⟩

mutual
theorem res_congr {hp hp' : Hp} : ∀ {x : AV}, Ag hp hp' (rdV hp x) → res hp x = res hp' x ∧ rvc hp x = rvc hp' x
  | .own n l, h => by simp only [rdV] at h; simp only [res, rvc, h.head]; exact ⟨trivial, trivial⟩
  | .box n l, h => by
    simp only [rdV] at h
    have e := bcells_congr h.headb (k := 40) (o := 0)
    obtain ⟨h1, h2⟩ := res1s_congr h.tail
    simp only [res, rvc, ← e, h1, h2]; exact ⟨trivial, trivial⟩
  | .agg cs, h => by
    simp only [rdV] at h
    obtain ⟨h1, h2⟩ := resL_congr h
    simp only [res, rvc, h1, h2]; exact ⟨trivial, trivial⟩
  | .tup cs, h => by
    simp only [rdV] at h
    obtain ⟨h1, h2⟩ := resL_congr h
    simp only [res, rvc, h1, h2]; exact ⟨trivial, trivial⟩
  | .clo f xs ys, h => by
    simp only [rdV] at h
    obtain ⟨h1, h2⟩ := resL_congr h.left
    obtain ⟨h3, h4⟩ := resL_congr h.right
    simp only [res, rvc, h1, h2, h3, h4]; exact ⟨trivial, trivial⟩
  | .v _, _ => ⟨rfl, rfl⟩
  | .sl _ _ _ _, _ => ⟨rfl, rfl⟩
  | .ro _ _, _ => ⟨rfl, rfl⟩
  | .elem _ _ _ _ _, _ => ⟨rfl, rfl⟩
  | .gd _ _, _ => ⟨rfl, rfl⟩
  | .un, _ => ⟨rfl, rfl⟩
theorem resL_congr {hp hp' : Hp} : ∀ {xs : List AV}, Ag hp hp' (rdL hp xs) → resL hp xs = resL hp' xs ∧ rvcL hp xs = rvcL hp' xs
  | [], _ => ⟨rfl, rfl⟩
  | x :: xs, h => by
    simp only [rdL] at h
    obtain ⟨h1, h2⟩ := res_congr h.left
    obtain ⟨h3, h4⟩ := resL_congr h.right
    simp only [resL, rvcL, h1, h2, h3, h4]; exact ⟨trivial, trivial⟩
end

theorem frz_congr {hp hp' : Hp} : ∀ {ns : List Nm}, (∀ n ∈ ns, hl hp (.a n) = hl hp' (.a n)) → frz hp ns = frz hp' ns
  | [], _ => rfl
  | n :: ns, h => by
    have ih : frz hp ns = frz hp' ns := frz_congr fun m hm => h m (List.mem_cons_of_mem _ hm)
    simp only [frz, h n (List.mem_cons_self ..), ih]

mutual
theorem ons_rd {hp : Hp} {n : Nm} : ∀ {x : AV}, n ∈ ons x → Tch.l (.a n) ∈ rdV hp x
  | .own m l, h => by simp [ons] at h; subst h; simp [rdV]
  | .agg cs, h => by simp only [ons] at h; simp only [rdV]; exact onsL_rd h
  | .tup cs, h => by simp only [ons] at h; simp only [rdV]; exact onsL_rd h
  | .clo f xs ys, h => by
    simp only [ons, List.mem_append] at h
    simp only [rdV, List.mem_append]
    exact h.imp onsL_rd onsL_rd
  | .box _ _, h => by simp [ons] at h
  | .v _, h => by simp [ons] at h
  | .sl _ _ _ _, h => by simp [ons] at h
  | .ro _ _, h => by simp [ons] at h
  | .elem _ _ _ _ _, h => by simp [ons] at h
  | .gd _ _, h => by simp [ons] at h
  | .un, h => by simp [ons] at h
theorem onsL_rd {hp : Hp} {n : Nm} : ∀ {xs : List AV}, n ∈ onsL xs → Tch.l (.a n) ∈ rdL hp xs
  | [], h => by simp [onsL] at h
  | x :: xs, h => by
    simp only [onsL, List.mem_append] at h
    simp only [rdL, List.mem_append]
    exact h.imp ons_rd onsL_rd
end

theorem srows_congr {hp hp' : Hp} {sz : Nat} {x : AV} (h : Ag hp hp' (rdV hp x)) : srows hp sz x = srows hp' sz x := by
  cases x with
  | own n l => simp only [rdV] at h; simp only [srows, h.head]
  | _ => rfl

theorem exCall_congr {S : Tab} {hp hp' : Hp} {f : Nat} {xs : List AV} (h : Ag hp hp' (rdL hp xs)) : exCall S hp f xs = exCall S hp' f xs := by
  obtain ⟨h1, h2⟩ := resL_congr h
  have h3 : frz hp (onsL xs) = frz hp' (onsL xs) := frz_congr fun n hn => h _ (onsL_rd hn) _ rfl
  simp only [exCall, h1, h2, h3]

theorem rdL_app {hp : Hp} : ∀ {xs ys : List AV}, rdL hp (xs ++ ys) = rdL hp xs ++ rdL hp ys
  | [], ys => rfl
  | x :: xs, ys => by simp only [List.cons_append, rdL, rdL_app, List.append_assoc]

theorem opv_congr {env env' : Env} {x : Opd} (h : ∀ t ∈ opdT x, lk env t = lk env' t) : opv env x = opv env' x := by
  cases x with
  | t n => exact h n (by simp [opdT])
  | k x => rfl

theorem opvs_congr {env env' : Env} {g : Bool} : ∀ {xs : List Opd}, (∀ t ∈ opdsT xs, lk env t = lk env' t) → xs.map (fun x => ung g (opv env x)) = xs.map (fun x => ung g (opv env' x))
  | [], _ => rfl
  | x :: xs, h => by
    simp only [opdsT, List.flatMap_cons, List.mem_append] at h
    simp only [List.map_cons]
    rw [opv_congr fun t ht => h t (.inl ht), opvs_congr fun t ht => h t (.inr ht)]

theorem exK_env {S : Tab} {env env' : Env} {hp : Hp} {nm : Nm} {g : Bool} {k : AK} (h : ∀ t ∈ akT k, lk env t = lk env' t) : exK S env hp nm g k = exK S env' hp nm g k ∧ rdK env hp g k = rdK env' hp g k := by
  cases k with
  | mv x => simp only [exK, rdK, opv_congr h, and_self]
  | pick c a b =>
    simp only [akT, List.mem_append] at h
    have h1 := opv_congr fun t ht => h t (.inl (.inl ht))
    have h2 := opv_congr fun t ht => h t (.inl (.inr ht))
    have h3 := opv_congr fun t ht => h t (.inr ht)
    simp only [exK, rdK, h1, h2, h3, and_self]
  | box n x => simp only [exK, rdK, opv_congr h, and_self]
  | alloc z => exact ⟨rfl, rfl⟩
  | build z ps =>
    have : ps.map (fun (o, s, x) => (o, s, ung g (opv env x))) = ps.map (fun (o, s, x) => (o, s, ung g (opv env' x))) := by
      apply List.map_congr_left
      rintro ⟨o, s, x⟩ hm
      simp only [opv_congr fun t ht => h t (List.mem_flatMap.2 ⟨_, hm, ht⟩)]
    exact ⟨congrArg (exBuild z) this, rfl⟩
  | bsl sz len z ps =>
    have : ps.map (fun (i, x) => (i, ung g (opv env x))) = ps.map (fun (i, x) => (i, ung g (opv env' x))) := by
      apply List.map_congr_left
      rintro ⟨i, x⟩ hm
      simp only [opv_congr fun t ht => h t (List.mem_flatMap.2 ⟨_, hm, ht⟩)]
    exact ⟨congrArg (exBsl hp nm sz len z) this, by rw [rdK, rdK, this]⟩
  | ld sz ag x => simp only [exK, rdK, opv_congr h, and_self]
  | st sz a x =>
    simp only [akT, List.mem_append] at h
    have h1 := opv_congr fun t ht => h t (.inl ht)
    have h2 := opv_congr fun t ht => h t (.inr ht)
    simp only [exK, rdK, h1, h2, and_self]
  | fa o x => simp only [exK, rdK, opv_congr h, and_self]
  | fld o s ag x => simp only [exK, rdK, opv_congr h, and_self]
  | ia sz x i =>
    simp only [akT, List.mem_append] at h
    have h1 := opv_congr fun t ht => h t (.inl ht)
    have h2 := opv_congr fun t ht => h t (.inr ht)
    simp only [exK, rdK, h1, h2, and_self]
  | iaA n sz x i =>
    simp only [akT, List.mem_append] at h
    have h1 := opv_congr fun t ht => h t (.inl ht)
    have h2 := opv_congr fun t ht => h t (.inr ht)
    simp only [exK, rdK, h1, h2, and_self]
  | idxA n sz ag x i =>
    simp only [akT, List.mem_append] at h
    have h1 := opv_congr fun t ht => h t (.inl ht)
    have h2 := opv_congr fun t ht => h t (.inr ht)
    simp only [exK, rdK, h1, h2, and_self]
  | bin op tk x y =>
    simp only [akT, List.mem_append] at h
    have h1 := opv_congr fun t ht => h t (.inl ht)
    have h2 := opv_congr fun t ht => h t (.inr ht)
    cases tk <;> simp only [exK, rdK, h1, h2, and_self]
  | un op x => simp only [exK, rdK, opv_congr h, and_self]
  | ext x i => simp only [exK, rdK, opv_congr h, and_self]
  | call f as => simp only [exK, rdK, opvs_congr (g := g) h, and_self]
  | cv x as =>
    simp only [akT, List.mem_append] at h
    have h1 := opv_congr fun t ht => h t (.inl ht)
    have h2 := opvs_congr (g := g) fun t ht => h t (.inr ht)
    simp only [exK, rdK, h1, h2, and_self]
  | len x => simp only [exK, rdK, opv_congr h, and_self]
  | app sz by' z s x =>
    simp only [akT, List.mem_append] at h
    have h1 := opv_congr fun t ht => h t (.inl ht)
    have h2 := opv_congr fun t ht => h t (.inr ht)
    simp only [exK, rdK, h1, h2, and_self]
  | mm m xs => simp only [exK, rdK, opvs_congr (g := g) h, and_self]
  | mkf f a b =>
    simp only [akT, List.mem_append] at h
    have h1 := opvs_congr (g := g) fun t ht => h t (.inl ht)
    have h2 := opvs_congr (g := g) fun t ht => h t (.inr ht)
    simp only [exK, rdK, h1, h2, and_self]
  | slc sz x l hh m =>
    simp only [akT, List.mem_append] at h
    have e1 := opv_congr fun t ht => h t (.inl (.inl (.inl ht)))
    have eo : ∀ y : Option Opd, (∀ t ∈ opdsT y.toList, lk env t = lk env' t) → (y.map fun x => ung g (opv env x)) = (y.map fun x => ung g (opv env' x)) := by
      intro y hy
      cases y with
      | none => rfl
      | some y => simp only [Option.map_some]; rw [opv_congr fun t ht => hy t (by simpa [opdsT] using ht)]
    have e2 := eo l fun t ht => h t (.inl (.inl (.inr ht)))
    have e3 := eo hh fun t ht => h t (.inl (.inr ht))
    have e4 := eo m fun t ht => h t (.inr ht)
    simp only [exK, rdK, e1, e2, e3, e4, and_self]
  | nilc x => simp only [exK, rdK, opv_congr h, and_self]
  | cnv k x => simp only [exK, rdK, opv_congr h, and_self]
  | bad => exact ⟨rfl, rfl⟩

theorem exK_hp {S : Tab} {env : Env} {hp hp' : Hp} {nm : Nm} {g : Bool} {k : AK} (h : Ag hp hp' (rdK env hp g k)) : exK S env hp nm g k = exK S env hp' nm g k := by
  cases k with
  | ld sz ag x =>
    simp only [exK, rdK] at h ⊢
    generalize ung g (opv env x) = X at h ⊢
    cases X with
    | box n o => simp only [rdLd] at h; simp only [exLd, hcut_congr h]
    | elem n l z i o => simp only [rdLd] at h; simp only [exLd, h.head]
    | _ => rfl
  | st sz a x =>
    simp only [exK, rdK] at h ⊢
    generalize ung g (opv env x) = X at h ⊢
    generalize ung g (opv env a) = A at h ⊢
    unfold exSt
    cases hc : X.cells with
    | none => rfl
    | some cs =>
      simp only
      by_cases hl' : cs.length = sz
      · rw [if_pos hl', if_pos hl']
        cases A with
        | box n o => simp only [rdSt] at h; rw [← hl'] at h; simp only [sput_congr h]
        | elem n l z i o =>
          simp only [rdSt, hc] at h
          have h1 := h.head
          obtain ⟨h2, h3⟩ := resL_congr h.tail
          simp only [h1, h2, h3]
        | _ => rfl
      · rw [if_neg hl', if_neg hl']
  | ia sz x i =>
    simp only [exK, rdK] at h ⊢
    generalize ung g (opv env x) = X at h ⊢
    generalize ung g (opv env i) = I at h ⊢
    cases X with
    | own n l =>
      simp only [rdV] at h
      cases I with
      | v q => cases q <;> first | rfl | simp only [exIa, h.head]
      | _ => rfl
    | sl _ _ _ _ =>
      cases I with
      | v q => cases q <;> rfl
      | _ => rfl
    | _ => rfl
  | len x =>
    simp only [exK, rdK] at h ⊢
    generalize ung g (opv env x) = X at h ⊢
    cases X with
    | own n l => simp only [rdV] at h; simp only [exLen, h.head]
    | _ => rfl
  | app sz by' z s x =>
    simp only [exK, rdK] at h ⊢
    generalize ung g (opv env s) = X at h ⊢
    generalize ung g (opv env x) = Y at h ⊢
    unfold exApp
    rw [srows_congr h.right]
    cases X with
    | own n l => have := h.left; simp only [rdV] at this; simp only [this.head]
    | _ => rfl
  | slc sz x l hh m =>
    simp only [exK, rdK] at h ⊢
    generalize ung g (opv env x) = X at h ⊢
    unfold exSlc
    cases X with
    | own n l' => simp only [rdV] at h; simp only [h.head, frz]
    | _ => rfl
  | bsl sz len z ps =>
    simp only [exK, rdK] at h ⊢
    generalize (ps.map fun (i, x) => (i, ung g (opv env x))) = qs at h ⊢
    obtain ⟨h1, h2⟩ := resL_congr h
    have h3 : frz hp (onsL (qs.map (·.2))) = frz hp' (onsL (qs.map (·.2))) := frz_congr fun n hn => h _ (onsL_rd hn) _ rfl
    have h4 : qs.map (fun (i, x) => (i, res hp x)) = qs.map (fun (i, x) => (i, res hp' x)) := by
      clear h1 h2 h3
      induction qs with
      | nil => rfl
      | cons q qs ih =>
        obtain ⟨i, x⟩ := q
        simp only [List.map_cons, rdL] at h
        simp only [List.map_cons, (res_congr h.left).1, ih h.right]
    simp only [exBsl, h2, h3, h4]
  | call f as =>
    simp only [exK, rdK] at h ⊢
    exact exCall_congr h
  | cv x as =>
    simp only [exK, rdK] at h ⊢
    generalize ung g (opv env x) = X at h ⊢
    generalize (as.map fun x => ung g (opv env x)) = Y at h ⊢
    unfold exCv
    cases X with
    | clo fn a b =>
      cases fn with
      | func f =>
        simp only [rdV] at h
        refine exCall_congr ?_
        rw [rdL_app, rdL_app]
        intro l hl'
        simp only [List.mem_append] at hl'
        rcases hl' with (h1 | h1) | h1
        · exact h.left.left l h1
        · exact h.right l h1
        · exact h.left.right l h1
      | _ => rfl
    | _ => rfl
  | bin op tk x y => cases tk <;> rfl
  | _ => rfl

def rdO (env : Env) (hp : Hp) (o : AOp) : List Tch :=
  match gval env o.g with
  | some g => rdK env hp g o.k
  | none => []

theorem exop_congr {S : Tab} {nm : Nm} {env env' : Env} {hp hp' : Hp} {o : AOp} (ht : ∀ t ∈ aopT o, lk env t = lk env' t) (hh : Ag hp hp' (rdO env hp o)) : exop S nm env hp o = exop S nm env' hp' o := by
  have hk : ∀ g, exK S env hp nm g o.k = exK S env' hp nm g o.k := fun g => (exK_env fun t h => ht t (by simp [aopT, h])).1
  have hrd : ∀ g, rdK env hp g o.k = rdK env' hp g o.k := fun g => (exK_env (S := S) (nm := nm) fun t h => ht t (by simp [aopT, h])).2
  have hg : gval env o.g = gval env' o.g := by
    cases hgo : o.g with
    | none => rfl
    | some p =>
      obtain ⟨t, w⟩ := p
      simp only [gval]
      rw [ht t (by simp [aopT, hgo])]
  unfold exop
  cases hgo : o.g with
  | none =>
    simp only
    have h2 : gval env o.g = some true := by rw [hgo]; rfl
    simp only [rdO, h2] at hh
    rw [hk]
    rw [hrd] at hh
    exact exK_hp hh
  | some p =>
    simp only
    rw [← hgo, ← hg]
    cases hgv : gval env o.g with
    | none => rfl
    | some g =>
      simp only
      simp only [rdO, hgv] at hh
      rw [hrd] at hh
      rw [hk g, exK_hp hh]
end Go.Proofs.Ytmmfbjmjhjmccaa.Am
