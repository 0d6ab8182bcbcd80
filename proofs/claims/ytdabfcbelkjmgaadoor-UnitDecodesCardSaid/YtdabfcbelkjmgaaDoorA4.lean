/-
  The abstract machine, A4.
-/
import Derived.Test.YtdabfcbelkjmgaaDoorA3
import Derived.CheckFast
/-
  The abstract machine, part 15: what an operation's step hangs on.
-/
namespace Go.Proofs.YtdabfcbelkjmgaaDoor.Am
set_option linter.unusedSimpArgs false
set_option linter.unusedVariables false
open Go

/-- What is looked at: a place, or all cells of a box. -/
inductive Tch where
  | l (x : Loc)
  | b (n : Nm)
  deriving Inhabited

def cov : Tch → Loc → Prop
  | .l x, y => x = y
  | .b n, y => ∃ j, y = .c n j

/-- n cells from o on. -/
def cellLocs (n : Nm) : Nat → Nat → List Tch
  | _, 0 => []
  | o, k + 1 => .l (.c n o) :: cellLocs n (o + 1) k

def own1 : AV → List Tch
  | .own m _ => [.l (.a m)]
  | _ => []
mutual
def rdV (hp : Hp) : AV → List Tch
  | .own n _ => [.l (.a n)]
  | .elem n _ _ _ _ => [.l (.a n)]
  | .box n _ => .b n :: (bcells hp n 0 40).flatMap own1
  | .agg cs => rdL hp cs
  | .tup cs => rdL hp cs
  | .clo _ xs ys => rdL hp xs ++ rdL hp ys
  | _ => []
def rdL (hp : Hp) : List AV → List Tch
  | [] => []
  | c :: cs => rdV hp c ++ rdL hp cs
end

def rdLd (sz : Nat) : AV → List Tch
  | .box n o => cellLocs n o sz
  | .elem n _ _ _ _ => [.l (.a n)]
  | _ => []
def rdSt (hp : Hp) (sz : Nat) (a x : AV) : List Tch :=
  match a with
  | .box n o => cellLocs n o sz
  | .elem n _ _ _ _ => [.l (.a n)] ++ (match x.cells with | some cs => rdL hp cs | none => [])
  | _ => []

def rdK (env : Env) (hp : Hp) (g : Bool) : AK → List Tch
  | .ld sz _ x => rdLd sz (ung g (opv env x))
  | .st sz a x => rdSt hp sz (ung g (opv env a)) (ung g (opv env x))
  | .ia _ x _ => rdV hp (ung g (opv env x))
  | .len x => rdV hp (ung g (opv env x))
  | .b2s x => rdV hp (ung g (opv env x))
  | .app _ _ _ s x => rdV hp (ung g (opv env s)) ++ rdV hp (ung g (opv env x))
  | .slc _ x _ _ _ => rdV hp (ung g (opv env x))
  | .cap _ | .appn _ _ _ _ _ => []
  | .bsl _ _ _ ps => rdL hp ((ps.map fun (i, x) => (i, ung g (opv env x))).map (·.2))
  | .call _ as => rdL hp (as.map fun x => ung g (opv env x))
  | .cv x as => rdV hp (ung g (opv env x)) ++ rdL hp (as.map fun x => ung g (opv env x))
  | .allocB _ | .pan _ | .dfr _ | .rcv | .pr _ _ | .mv _ | .pick _ _ _ | .box _ _ | .alloc _ | .build _ _ | .fa _ _ | .fld _ _ _ _ | .iaA _ _ _ _ | .idxA _ _ _ _ _ => []
  | .bin _ _ _ _ | .un _ _ | .ext _ _ | .mm _ _ | .mkf _ _ _ | .nilc _ | .cnv _ _ | .nils _ _ | .bad => []

def Ag (hp hp' : Hp) (L : List Tch) : Prop := ∀ t ∈ L, ∀ l, cov t l → hl hp l = hl hp' l

theorem Ag.left {hp hp' : Hp} {L M : List Tch} (h : Ag hp hp' (L ++ M)) : Ag hp hp' L := fun l hl => h l (List.mem_append.2 (.inl hl))
theorem Ag.right {hp hp' : Hp} {L M : List Tch} (h : Ag hp hp' (L ++ M)) : Ag hp hp' M := fun l hl => h l (List.mem_append.2 (.inr hl))
theorem Ag.head {hp hp' : Hp} {l : Loc} {L : List Tch} (h : Ag hp hp' (.l l :: L)) : hl hp l = hl hp' l := h (.l l) (by simp) l rfl
theorem Ag.headb {hp hp' : Hp} {n : Nm} {L : List Tch} (h : Ag hp hp' (.b n :: L)) (j : Nat) : hl hp (.c n j) = hl hp' (.c n j) := h (.b n) (by simp) _ ⟨j, rfl⟩
theorem Ag.tail {hp hp' : Hp} {l : Tch} {L : List Tch} (h : Ag hp hp' (l :: L)) : Ag hp hp' L := fun m hm => h m (by simp [hm])

theorem hcut_congr {hp hp' : Hp} {n : Nm} : ∀ {k o : Nat}, Ag hp hp' (cellLocs n o k) → hcut hp n o k = hcut hp' n o k
  | 0, _, _ => rfl
  | k + 1, o, h => by
    simp only [cellLocs] at h
    simp only [hcut, h.head, hcut_congr h.tail]

theorem sput_congr {hp hp' : Hp} {n : Nm} : ∀ {cs : List AV} {o : Nat}, Ag hp hp' (cellLocs n o cs.length) → sput hp n o cs = sput hp' n o cs
  | [], _, _ => rfl
  | c :: cs, o, h => by
    simp only [List.length_cons, cellLocs] at h
    simp only [sput, h.head, sput_congr h.tail]

theorem bcells_congr {hp hp' : Hp} {n : Nm} (h : ∀ j, hl hp (.c n j) = hl hp' (.c n j)) : ∀ {k o : Nat}, bcells hp n o k = bcells hp' n o k
  | 0, _ => rfl
  | k + 1, o => by simp only [bcells, h o, bcells_congr h (k := k) (o := o + 1)]

theorem res1_congr {hp hp' : Hp} {c : AV} (h : Ag hp hp' (own1 c)) : res1 hp c = res1 hp' c ∧ rvc1 hp c = rvc1 hp' c := by
  cases c with
  | own m l => simp only [own1] at h; simp only [res1, rvc1, h.head]; exact ⟨trivial, trivial⟩
  | _ => exact ⟨rfl, rfl⟩

theorem res1s_congr {hp hp' : Hp} : ∀ {cs : List AV}, Ag hp hp' (cs.flatMap own1) → cs.map (res1 hp) = cs.map (res1 hp') ∧ rvc1L hp cs = rvc1L hp' cs
  | [], _ => ⟨rfl, rfl⟩
  | c :: cs, h => by
    simp only [List.flatMap_cons] at h
    obtain ⟨h1, h2⟩ := res1_congr h.left
    obtain ⟨h3, h4⟩ := res1s_congr h.right
    simp only [List.map_cons, rvc1L, h1, h2, h3, h4]; exact ⟨trivial, trivial⟩

mutual
theorem res_congr {hp hp' : Hp} : ∀ {x : AV}, Ag hp hp' (rdV hp x) → res hp x = res hp' x ∧ rvc hp x = rvc hp' x
  | .own n l, h => by simp only [rdV] at h; simp only [res, rvc, h.head]; exact ⟨trivial, trivial⟩
  | .box n l, h => by
    simp only [rdV] at h
    have e := bcells_congr h.headb (k := 40) (o := 0)
    obtain ⟨h1, h2⟩ := res1s_congr h.tail
    simp only [res, rvc, ← e, h1, h2]; exact ⟨trivial, trivial⟩
  | .agg cs, h => by
    simp only [rdV] at h
    obtain ⟨h1, h2⟩ := resL_congr h
    simp only [res, rvc, h1, h2]; exact ⟨trivial, trivial⟩
  | .tup cs, h => by
    simp only [rdV] at h
    obtain ⟨h1, h2⟩ := resL_congr h
    simp only [res, rvc, h1, h2]; exact ⟨trivial, trivial⟩
  | .clo f xs ys, h => by
    simp only [rdV] at h
    obtain ⟨h1, h2⟩ := resL_congr h.left
    obtain ⟨h3, h4⟩ := resL_congr h.right
    simp only [res, rvc, h1, h2, h3, h4]; exact ⟨trivial, trivial⟩
  | .v _, _ => ⟨rfl, rfl⟩
  | .sl _ _ _ _, _ => ⟨rfl, rfl⟩
  | .ro _ _, _ => ⟨rfl, rfl⟩
  | .elem _ _ _ _ _, _ => ⟨rfl, rfl⟩
  | .gd _ _, _ => ⟨rfl, rfl⟩
  | .un, _ => ⟨rfl, rfl⟩
theorem resL_congr {hp hp' : Hp} : ∀ {xs : List AV}, Ag hp hp' (rdL hp xs) → resL hp xs = resL hp' xs ∧ rvcL hp xs = rvcL hp' xs
  | [], _ => ⟨rfl, rfl⟩
  | x :: xs, h => by
    simp only [rdL] at h
    obtain ⟨h1, h2⟩ := res_congr h.left
    obtain ⟨h3, h4⟩ := resL_congr h.right
    simp only [resL, rvcL, h1, h2, h3, h4]; exact ⟨trivial, trivial⟩
end

theorem frz_congr {hp hp' : Hp} : ∀ {ns : List Nm}, (∀ n ∈ ns, hl hp (.a n) = hl hp' (.a n)) → frz hp ns = frz hp' ns
  | [], _ => rfl
  | n :: ns, h => by
    have ih : frz hp ns = frz hp' ns := frz_congr fun m hm => h m (List.mem_cons_of_mem _ hm)
    simp only [frz, h n (List.mem_cons_self ..), ih]

mutual
theorem ons_rd {hp : Hp} {n : Nm} : ∀ {x : AV}, n ∈ ons x → Tch.l (.a n) ∈ rdV hp x
  | .own m l, h => by simp [ons] at h; subst h; simp [rdV]
  | .agg cs, h => by simp only [ons] at h; simp only [rdV]; exact onsL_rd h
  | .tup cs, h => by simp only [ons] at h; simp only [rdV]; exact onsL_rd h
  | .clo f xs ys, h => by
    simp only [ons, List.mem_append] at h
    simp only [rdV, List.mem_append]
    exact h.imp onsL_rd onsL_rd
  | .box _ _, h => by simp [ons] at h
  | .v _, h => by simp [ons] at h
  | .sl _ _ _ _, h => by simp [ons] at h
  | .ro _ _, h => by simp [ons] at h
  | .elem _ _ _ _ _, h => by simp [ons] at h
  | .gd _ _, h => by simp [ons] at h
  | .un, h => by simp [ons] at h
theorem onsL_rd {hp : Hp} {n : Nm} : ∀ {xs : List AV}, n ∈ onsL xs → Tch.l (.a n) ∈ rdL hp xs
  | [], h => by simp [onsL] at h
  | x :: xs, h => by
    simp only [onsL, List.mem_append] at h
    simp only [rdL, List.mem_append]
    exact h.imp ons_rd onsL_rd
end

theorem srows_congr {hp hp' : Hp} {sz : Nat} {x : AV} (h : Ag hp hp' (rdV hp x)) : srows hp sz x = srows hp' sz x := by
  cases x with
  | own n l => simp only [rdV] at h; simp only [srows, h.head]
  | v x =>
    cases x with
    | slice b n c => cases n <;> rfl
    | _ => rfl
  | _ => rfl

theorem boxOf_rd {hp : Hp} {n : Nm} : ∀ {xs : List AV}, boxOf xs = some n → Tch.b n ∈ rdL hp xs
  | [], h => by simp [boxOf] at h
  | c :: cs, h => by
    simp only [rdL, List.mem_append]
    cases c with
    | box m o => simp only [boxOf, Option.some.injEq] at h; subst h; exact .inl (by simp [rdV])
    | _ => exact .inr (boxOf_rd (by simpa [boxOf] using h))
theorem exCall_congr {S : Tab} {hp hp' : Hp} {f : Nat} {xs : List AV} (h : Ag hp hp' (rdL hp xs)) : exCall S hp f xs = exCall S hp' f xs := by
  obtain ⟨h1, h2⟩ := resL_congr h
  have h3 : frz hp (onsL xs) = frz hp' (onsL xs) := frz_congr fun n hn => h _ (onsL_rd hn) _ rfl
  have h4 : ∀ n, boxOf xs = some n → ∀ j, hl hp (.c n j) = hl hp' (.c n j) := fun n hn j => h (.b n) (boxOf_rd hn) _ ⟨j, rfl⟩
  simp only [exCall, h1, h2, h3]
  cases hb : boxOf xs with
  | none => rfl
  | some n =>
    have h5 := h4 n hb
    have h6 : capC hp n = capC hp' n := by funext k; unfold capC; simp only [h5]
    simp only [bcells_congr h5, h6]

theorem rdL_app {hp : Hp} : ∀ {xs ys : List AV}, rdL hp (xs ++ ys) = rdL hp xs ++ rdL hp ys
  | [], ys => rfl
  | x :: xs, ys => by simp only [List.cons_append, rdL, rdL_app, List.append_assoc]

theorem opv_congr {env env' : Env} {x : Opd} (h : ∀ t ∈ opdT x, lk env t = lk env' t) : opv env x = opv env' x := by
  cases x with
  | t n => exact h n (by simp [opdT])
  | k x => rfl

theorem opvs_congr {env env' : Env} {g : Bool} : ∀ {xs : List Opd}, (∀ t ∈ opdsT xs, lk env t = lk env' t) → xs.map (fun x => ung g (opv env x)) = xs.map (fun x => ung g (opv env' x))
  | [], _ => rfl
  | x :: xs, h => by
    simp only [opdsT, List.flatMap_cons, List.mem_append] at h
    simp only [List.map_cons]
    rw [opv_congr fun t ht => h t (.inl ht), opvs_congr fun t ht => h t (.inr ht)]

theorem exK_env {S : Tab} {env env' : Env} {hp : Hp} {nm : Nm} {g : Bool} {k : AK} (h : ∀ t ∈ akT k, lk env t = lk env' t) : exK S env hp nm g k = exK S env' hp nm g k ∧ rdK env hp g k = rdK env' hp g k := by
  cases k with
  | pr p xs => simp only [exK, rdK, opvs_congr (g := g) h, and_self]
  | b2s x => simp only [exK, rdK, opv_congr h, and_self]
  | mv x => simp only [exK, rdK, opv_congr h, and_self]
  | pick c a b =>
    simp only [akT, List.mem_append] at h
    have h1 := opv_congr fun t ht => h t (.inl (.inl ht))
    have h2 := opv_congr fun t ht => h t (.inl (.inr ht))
    have h3 := opv_congr fun t ht => h t (.inr ht)
    simp only [exK, rdK, h1, h2, h3, and_self]
  | box n x => simp only [exK, rdK, opv_congr h, and_self]
  | alloc z => exact ⟨rfl, rfl⟩
  | build z ps =>
    have : ps.map (fun (o, s, x) => (o, s, ung g (opv env x))) = ps.map (fun (o, s, x) => (o, s, ung g (opv env' x))) := by
      apply List.map_congr_left
      rintro ⟨o, s, x⟩ hm
      simp only [opv_congr fun t ht => h t (List.mem_flatMap.2 ⟨_, hm, ht⟩)]
    exact ⟨congrArg (exBuild z) this, rfl⟩
  | bsl sz len z ps =>
    have : ps.map (fun (i, x) => (i, ung g (opv env x))) = ps.map (fun (i, x) => (i, ung g (opv env' x))) := by
      apply List.map_congr_left
      rintro ⟨i, x⟩ hm
      simp only [opv_congr fun t ht => h t (List.mem_flatMap.2 ⟨_, hm, ht⟩)]
    exact ⟨congrArg (exBsl hp nm sz len z) this, by rw [rdK, rdK, this]⟩
  | ld sz ag x => simp only [exK, rdK, opv_congr h, and_self]
  | st sz a x =>
    simp only [akT, List.mem_append] at h
    have h1 := opv_congr fun t ht => h t (.inl ht)
    have h2 := opv_congr fun t ht => h t (.inr ht)
    simp only [exK, rdK, h1, h2, and_self]
  | fa o x => simp only [exK, rdK, opv_congr h, and_self]
  | fld o s ag x => simp only [exK, rdK, opv_congr h, and_self]
  | ia sz x i =>
    simp only [akT, List.mem_append] at h
    have h1 := opv_congr fun t ht => h t (.inl ht)
    have h2 := opv_congr fun t ht => h t (.inr ht)
    simp only [exK, rdK, h1, h2, and_self]
  | iaA n sz x i =>
    simp only [akT, List.mem_append] at h
    have h1 := opv_congr fun t ht => h t (.inl ht)
    have h2 := opv_congr fun t ht => h t (.inr ht)
    simp only [exK, rdK, h1, h2, and_self]
  | idxA n sz ag x i =>
    simp only [akT, List.mem_append] at h
    have h1 := opv_congr fun t ht => h t (.inl ht)
    have h2 := opv_congr fun t ht => h t (.inr ht)
    simp only [exK, rdK, h1, h2, and_self]
  | bin op tk x y =>
    simp only [akT, List.mem_append] at h
    have h1 := opv_congr fun t ht => h t (.inl ht)
    have h2 := opv_congr fun t ht => h t (.inr ht)
    cases tk <;> simp only [exK, rdK, h1, h2, and_self]
  | un op x => simp only [exK, rdK, opv_congr h, and_self]
  | ext x i => simp only [exK, rdK, opv_congr h, and_self]
  | call f as => simp only [exK, rdK, opvs_congr (g := g) h, and_self]
  | cv x as =>
    simp only [akT, List.mem_append] at h
    have h1 := opv_congr fun t ht => h t (.inl ht)
    have h2 := opvs_congr (g := g) fun t ht => h t (.inr ht)
    simp only [exK, rdK, h1, h2, and_self]
  | len x => simp only [exK, rdK, opv_congr h, and_self]
  | app sz by' z s x =>
    simp only [akT, List.mem_append] at h
    have h1 := opv_congr fun t ht => h t (.inl ht)
    have h2 := opv_congr fun t ht => h t (.inr ht)
    simp only [exK, rdK, h1, h2, and_self]
  | mm m xs => simp only [exK, rdK, opvs_congr (g := g) h, and_self]
  | mkf f a b =>
    simp only [akT, List.mem_append] at h
    have h1 := opvs_congr (g := g) fun t ht => h t (.inl ht)
    have h2 := opvs_congr (g := g) fun t ht => h t (.inr ht)
    simp only [exK, rdK, h1, h2, and_self]
  | slc sz x l hh m =>
    simp only [akT, List.mem_append] at h
    have e1 := opv_congr fun t ht => h t (.inl (.inl (.inl ht)))
    have eo : ∀ y : Option Opd, (∀ t ∈ opdsT y.toList, lk env t = lk env' t) → (y.map fun x => ung g (opv env x)) = (y.map fun x => ung g (opv env' x)) := by
      intro y hy
      cases y with
      | none => rfl
      | some y => simp only [Option.map_some]; rw [opv_congr fun t ht => hy t (by simpa [opdsT] using ht)]
    have e2 := eo l fun t ht => h t (.inl (.inl (.inr ht)))
    have e3 := eo hh fun t ht => h t (.inl (.inr ht))
    have e4 := eo m fun t ht => h t (.inr ht)
    simp only [exK, rdK, e1, e2, e3, e4, and_self]
  | nilc x => simp only [exK, rdK, opv_congr h, and_self]
  | cnv k x => simp only [exK, rdK, opv_congr h, and_self]
  | nils n x => simp only [exK, rdK, opv_congr h, and_self]
  | cap x => simp only [exK, rdK, opv_congr h, and_self]
  | appn sz by' z s x =>
    simp only [akT, List.mem_append] at h
    have h1 := opv_congr fun t ht => h t (.inl ht)
    have h2 := opv_congr fun t ht => h t (.inr ht)
    simp only [exK, rdK, h1, h2, and_self]
  | pan x => exact ⟨rfl, rfl⟩
  | dfr x => exact ⟨rfl, rfl⟩
  | rcv => exact ⟨rfl, rfl⟩
  | allocB _ => exact ⟨rfl, rfl⟩
  | bad => exact ⟨rfl, rfl⟩

theorem exK_hp {S : Tab} {env : Env} {hp hp' : Hp} {nm : Nm} {g : Bool} {k : AK} (h : Ag hp hp' (rdK env hp g k)) : exK S env hp nm g k = exK S env hp' nm g k := by
  cases k with
  | ld sz ag x =>
    simp only [exK, rdK] at h ⊢
    generalize ung g (opv env x) = X at h ⊢
    cases X with
    | box n o => simp only [rdLd] at h; simp only [exLd, hcut_congr h]
    | elem n l z i o => simp only [rdLd] at h; simp only [exLd, h.head]
    | v X => cases X with
      | pointer p => cases p with
        | some ad => obtain ⟨_, _, sp⟩ := ad; cases sp <;> rfl
        | none => rfl
      | _ => rfl
    | _ => rfl
  | st sz a x =>
    simp only [exK, rdK] at h ⊢
    generalize ung g (opv env x) = X at h ⊢
    generalize ung g (opv env a) = A at h ⊢
    unfold exSt
    cases hc : X.cells with
    | none => rfl
    | some cs =>
      simp only
      by_cases hl' : cs.length = sz
      · rw [if_pos hl', if_pos hl']
        cases A with
        | box n o => simp only [rdSt] at h; rw [← hl'] at h; simp only [sput_congr h]
        | elem n l z i o =>
          simp only [rdSt, hc] at h
          have h1 := h.head
          obtain ⟨h2, h3⟩ := resL_congr h.tail
          simp only [h1, h2, h3]
        | _ => rfl
      · rw [if_neg hl', if_neg hl']
  | ia sz x i =>
    simp only [exK, rdK] at h ⊢
    generalize ung g (opv env x) = X at h ⊢
    generalize ung g (opv env i) = I at h ⊢
    cases X with
    | own n l =>
      simp only [rdV] at h
      cases I with
      | v q => cases q <;> first | rfl | simp only [exIa, h.head]
      | _ => rfl
    | sl _ _ _ _ =>
      cases I with
      | v q => cases q <;> rfl
      | _ => rfl
    | _ => rfl
  | len x =>
    simp only [exK, rdK] at h ⊢
    generalize ung g (opv env x) = X at h ⊢
    cases X with
    | own n l => simp only [rdV] at h; simp only [exLen, h.head]
    | _ => rfl
  | b2s x =>
    simp only [exK, rdK] at h ⊢
    generalize ung g (opv env x) = X at h ⊢
    cases X with
    | own n l => simp only [rdV] at h; simp only [exB2s, h.head]
    | _ => rfl
  | app sz by' z s x =>
    simp only [exK, rdK] at h ⊢
    generalize ung g (opv env s) = X at h ⊢
    generalize ung g (opv env x) = Y at h ⊢
    unfold exApp
    rw [srows_congr h.right]
    cases X with
    | own n l => have := h.left; simp only [rdV] at this; simp only [this.head]
    | _ => rfl
  | slc sz x l hh m =>
    simp only [exK, rdK] at h ⊢
    generalize ung g (opv env x) = X at h ⊢
    have e1 : ∀ lo hi mx, exSlc hp sz X lo hi mx = exSlc hp' sz X lo hi mx := by
      intro lo hi mx
      unfold exSlc
      cases X with
      | own n l' => simp only [rdV] at h; simp only [h.head, frz]
      | _ => rfl
    have e2 : ∀ lo hi mx, exSlcM hp nm sz X lo hi mx = exSlcM hp' nm sz X lo hi mx := by
      intro lo hi mx
      cases X with
      | own n l' =>
        simp only [rdV] at h
        rcases lo with _ | lo <;> rcases hi with _ | hi <;> rcases mx with _ | mx <;> try (simp only [exSlcM, e1]; done)
        all_goals (rcases hi with c | _ | _ | _ | _ | _ | _ | _ | _ | _ | _ <;> try (simp only [exSlcM, e1]; done))
        all_goals (cases c <;> first | (simp only [exSlcM, e1]; done) | simp only [exSlcM, h.head])
      | _ => exact e1 lo hi mx
    simp only [e1, e2]
  | bsl sz len z ps =>
    simp only [exK, rdK] at h ⊢
    generalize (ps.map fun (i, x) => (i, ung g (opv env x))) = qs at h ⊢
    obtain ⟨h1, h2⟩ := resL_congr h
    have h3 : frz hp (onsL (qs.map (·.2))) = frz hp' (onsL (qs.map (·.2))) := frz_congr fun n hn => h _ (onsL_rd hn) _ rfl
    have h4 : qs.map (fun (i, x) => (i, res hp x)) = qs.map (fun (i, x) => (i, res hp' x)) := by
      clear h1 h2 h3
      induction qs with
      | nil => rfl
      | cons q qs ih =>
        obtain ⟨i, x⟩ := q
        simp only [List.map_cons, rdL] at h
        simp only [List.map_cons, (res_congr h.left).1, ih h.right]
    simp only [exBsl, h2, h3, h4]
  | call f as =>
    simp only [exK, rdK] at h ⊢
    exact exCall_congr h
  | cv x as =>
    simp only [exK, rdK] at h ⊢
    generalize ung g (opv env x) = X at h ⊢
    generalize (as.map fun x => ung g (opv env x)) = Y at h ⊢
    unfold exCv
    cases X with
    | clo fn a b =>
      cases fn with
      | func f =>
        simp only [rdV] at h
        refine exCall_congr ?_
        rw [rdL_app, rdL_app]
        intro l hl'
        simp only [List.mem_append] at hl'
        rcases hl' with (h1 | h1) | h1
        · exact h.left.left l h1
        · exact h.right l h1
        · exact h.left.right l h1
      | _ => rfl
    | _ => rfl
  | bin op tk x y => cases tk <;> rfl
  | _ => rfl

def rdO (env : Env) (hp : Hp) (o : AOp) : List Tch :=
  match gval env o.g with
  | some g => rdK env hp g o.k
  | none => []

theorem exop_congr {S : Tab} {nm : Nm} {env env' : Env} {hp hp' : Hp} {o : AOp} (ht : ∀ t ∈ aopT o, lk env t = lk env' t) (hh : Ag hp hp' (rdO env hp o)) : exop S nm env hp o = exop S nm env' hp' o := by
  have hk : ∀ g, exK S env hp nm g o.k = exK S env' hp nm g o.k := fun g => (exK_env fun t h => ht t (by simp [aopT, h])).1
  have hrd : ∀ g, rdK env hp g o.k = rdK env' hp g o.k := fun g => (exK_env (S := S) (nm := nm) fun t h => ht t (by simp [aopT, h])).2
  have hg : gval env o.g = gval env' o.g := by
    cases hgo : o.g with
    | none => rfl
    | some p =>
      obtain ⟨t, w⟩ := p
      simp only [gval]
      rw [ht t (by simp [aopT, hgo])]
  unfold exop
  cases hgo : o.g with
  | none =>
    simp only
    have h2 : gval env o.g = some true := by rw [hgo]; rfl
    simp only [rdO, h2] at hh
    rw [hk]
    rw [hrd] at hh
    exact exK_hp hh
  | some p =>
    simp only
    rw [← hgo, ← hg]
    cases hgv : gval env o.g with
    | none => rfl
    | some g =>
      simp only
      simp only [rdO, hgv] at hh
      rw [hrd] at hh
      rw [hk g, exK_hp hh]
end Go.Proofs.YtdabfcbelkjmgaaDoor.Am
/-
  The abstract machine, part 16: a region that draws its order.
-/
namespace Go.Proofs.YtdabfcbelkjmgaaDoor.Am
set_option linter.unusedSimpArgs false
set_option linter.unusedVariables false
open Go

/-! ### What writes, what looks -/

theorem vr_nil {o : Option (Prop × AV)} {vc : Prop} {r : AV} {ws : Hp} (h : vr o = some (vc, r, ws)) : ws = [] := by
  unfold vr at h
  split at h
  · simp at h; exact h.2.2
  · simp at h

theorem exK_nil {S : Tab} {env : Env} {hp : Hp} {nm : Nm} {g : Bool} {k : AK} {vc : Prop} {r : AV} {ws : Hp} (hk : hw k = false) (h : exK S env hp nm g k = some (vc, r, ws)) : ws = [] := by
  cases k with
  | box _ _ => simp [hw] at hk
  | alloc _ => simp [hw] at hk
  | bsl _ _ _ _ => simp [hw] at hk
  | st _ _ _ => simp [hw] at hk
  | call _ _ => simp [hw] at hk
  | cv _ _ => simp [hw] at hk
  | app _ _ _ _ _ => simp [hw] at hk
  | slc _ _ _ _ _ => simp [hw] at hk
  | appn _ _ _ _ _ => simp [hw] at hk
  | cap x =>
    simp only [exK] at h
    generalize ung g (opv env x) = X at h
    unfold exCap at h
    split at h <;> simp at h <;> exact h.2.2
  | pr p xs => simp only [exK] at h; exact vr_nil h
  | b2s x =>
    simp only [exK] at h
    generalize ung g (opv env x) = X at h
    unfold exB2s at h
    split at h
    · simp at h; exact h.2.2
    · split at h <;> simp at h
      exact h.2.2
    · simp at h
  | mv x => simp [exK] at h; exact h.2.2
  | pick c a b =>
    simp only [exK, exPick] at h
    split at h
    · split at h <;> simp at h <;> exact h.2.2
    · simp at h
  | build z ps =>
    simp only [exK, exBuild] at h
    split at h <;> simp at h
    exact h.2.2
  | ld sz ag x =>
    simp only [exK] at h
    generalize ung g (opv env x) = X at h
    unfold exLd at h
    split at h
    · exact vr_nil h
    · split at h
      · exact vr_nil h
      · simp at h
    · split at h
      · exact vr_nil h
      · simp at h
    · split at h
      · split at h
        · exact vr_nil h
        · simp at h
      · simp at h
    · simp at h
  | fa o x =>
    simp only [exK] at h
    generalize ung g (opv env x) = X at h
    unfold exFa at h
    split at h <;> simp at h <;> exact h.2.2
  | fld o s ag x =>
    simp only [exK] at h
    generalize ung g (opv env x) = X at h
    unfold exFld at h
    split at h
    · split at h
      · exact vr_nil h
      · simp at h
    · simp at h
  | ia sz x i =>
    simp only [exK] at h
    generalize ung g (opv env x) = X at h
    generalize ung g (opv env i) = I at h
    unfold exIa at h
    split at h
    · simp at h; exact h.2.2
    · split at h <;> simp at h
      exact h.2.2
    · simp at h
  | iaA n sz x i =>
    simp only [exK] at h
    generalize ung g (opv env x) = X at h
    generalize ung g (opv env i) = I at h
    unfold exIaA at h
    split at h <;> simp at h <;> exact h.2.2
  | idxA n sz ag x i =>
    simp only [exK] at h
    generalize ung g (opv env x) = X at h
    generalize ung g (opv env i) = I at h
    unfold exIdxA at h
    split at h
    · split at h
      · exact vr_nil h
      · simp at h
    · simp at h
  | bin op tk x y =>
    cases tk with
    | cells n =>
      simp only [exK] at h
      generalize ung g (opv env x) = X at h
      generalize ung g (opv env y) = Y at h
      unfold exEqs at h
      split at h
      · split at h <;> simp at h <;> exact h.2.2
      · simp at h
    | _ => simp only [exK] at h; exact vr_nil h
  | un op x => simp only [exK] at h; exact vr_nil h
  | ext x i =>
    simp only [exK] at h
    generalize ung g (opv env x) = X at h
    unfold exExt at h
    split at h
    · split at h <;> simp at h
      exact h.2.2
    · simp at h
  | len x =>
    simp only [exK] at h
    generalize ung g (opv env x) = X at h
    unfold exLen at h
    split at h
    · simp at h; exact h.2.2
    · split at h <;> simp at h
      exact h.2.2
    · simp at h
  | mm m xs =>
    simp only [exK] at h
    generalize (xs.map fun x => ung g (opv env x)) = X at h
    unfold exMm at h
    split at h
    · split at h <;> simp at h
      exact h.2.2
    · simp at h
  | mkf f a b => simp [exK] at h; exact h.2.2
  | nilc x =>
    simp only [exK] at h
    generalize ung g (opv env x) = X at h
    unfold exNil at h
    split at h <;> simp at h <;> exact h.2.2
  | cnv k x =>
    simp only [exK] at h
    generalize ung g (opv env x) = X at h
    unfold exCnv at h
    split at h <;> simp at h
    exact h.2.2
  | nils n x =>
    simp only [exK] at h
    generalize ung g (opv env x) = X at h
    unfold exNils at h
    split at h <;> simp at h <;> exact h.2.2
  | pan x => simp [exK] at h
  | dfr x => simp [exK] at h
  | rcv => simp [exK] at h
  | allocB _ => simp [exK] at h
  | bad => simp [exK] at h

theorem exop_nil {S : Tab} {env : Env} {hp : Hp} {nm : Nm} {o : AOp} {vc : Prop} {r : AV} {ws : Hp} (hk : hw o.k = false) (h : exop S nm env hp o = some (vc, r, ws)) : ws = [] := by
  unfold exop at h
  split at h
  · exact exK_nil hk h
  · split at h
    · simp at h
    · split at h
      · simp at h; exact h.2.2
      · simp at h; exact h.2.2
      · rename_i he
        have := exK_nil hk he
        simp at this

theorem rdO_nil {env : Env} {hp : Hp} {o : AOp} (hk : ht o.k = false) : rdO env hp o = [] := by
  unfold rdO
  split
  · cases hc : o.k <;> simp [hc, ht, hw] at hk <;> rfl
  · rfl

/-! ### Records of a run in the order of the text -/

structure Rec where
  d : Option Nat
  r : AV
  ws : Hp
  rd : List Tch
  deriving Inhabited

def exdr (S : Tab) (ver : Nat) : Nat → List AOp → Env → Hp → Option (Prop × Env × Hp × List Rec)
  | _, [], env, hp => some (True, env, hp, [])
  | k, o :: r, env, hp =>
    match exop S (k, ver) env hp o with
    | none => none
    | some (vc, x, ws) =>
      match exdr S ver (k + 1) r (putE o.d x env) (ws ++ hp) with
      | none => none
      | some (vcs, e, h, rs) => some (vc ∧ vcs, e, h, ⟨o.d, x, ws, bif ht o.k then rdO env hp o else []⟩ :: rs)

def covB : Tch → Loc → Bool
  | .l x, y => decide (x = y)
  | .b n, .c m _ => decide (n = m)
  | .b _, .a _ => false
theorem covB_of {t : Tch} {l : Loc} (h : cov t l) : covB t l = true := by
  cases t with
  | l x => simpa [covB, cov] using h
  | b n => obtain ⟨j, rfl⟩ := h; simp [covB]

def hasL (l : Loc) (ws : Hp) : Bool := ws.any fun p => decide (p.1 = l)
def disj (a b : Rec) : Bool :=
  (a.ws.all fun p => (b.rd.all fun t => !covB t p.1) && !hasL p.1 b.ws) && b.ws.all fun p => a.rd.all fun t => !covB t p.1
def unOK (recs : List Rec) : List (Nat × Nat) → Bool
  | [] => true
  | (k, j) :: r => disj (recs.getD k default) (recs.getD j default) && unOK recs r

/-! ### The order, at compile time -/

/-! ### Masks -/

theorem mask_bit {B : List Nat} : ∀ {es : List Nat} {s k : Nat}, (es.foldl (fun s e => s ||| 2 ^ e ||| B.getD e 0) s).testBit k = true ↔ s.testBit k = true ∨ ∃ e ∈ es, k = e ∨ (B.getD e 0).testBit k = true
  | [], s, k => by simp
  | e :: es, s, k => by
    rw [List.foldl_cons, mask_bit]
    simp only [Nat.testBit_or, Bool.or_eq_true, Nat.testBit_two_pow, decide_eq_true_eq, List.mem_cons, exists_eq_or_imp]
    constructor
    · rintro ((h | h) | h)
      · rcases h with h | h
        · exact .inl h
        · exact .inr (.inl (.inl h.symm))
      · exact .inr (.inl (.inr h))
      · exact .inr (.inr h)
    · rintro (h | (h | h) | h)
      · exact .inl (.inl (.inl h))
      · exact .inl (.inl (.inr h.symm))
      · exact .inl (.inr h)
      · exact .inr h

theorem befOK_spec {B : List Nat} : ∀ {l : List Oper} {j : Nat}, befOK B j l = true → ∀ i o, l[i]? = some o → (∀ e ∈ edgesOf o, e < j + i) ∧ B.getD (j + i) 0 = maskOf B (edgesOf o)
  | [], _, _, i, o, ho => by simp at ho
  | p :: r, j, h, i, o, ho => by
    simp only [befOK, Bool.and_eq_true, List.all_eq_true, decide_eq_true_eq, beq_iff_eq] at h
    cases i with
    | zero => simp at ho; subst ho; exact h.1
    | succ i =>
      have := befOK_spec h.2 i o (by simpa using ho)
      rw [show j + (i + 1) = j + 1 + i by omega]
      exact this

theorem tFree_spec {a b : AOp} (h : tFree a b = true) : (∀ t, a.d = some t → t ∉ aopT b ∧ b.d ≠ some t) ∧ ∀ t, b.d = some t → t ∉ aopT a := by
  unfold tFree at h
  simp only [Bool.and_eq_true] at h
  refine ⟨fun t ht => ?_, fun t ht => ?_⟩
  · have := h.1; rw [ht] at this; simpa using this
  · have := h.2; rw [ht] at this; simpa using this

theorem rowOK_spec {B : Nat} {o : AOp} : ∀ {l : List AOp} {k : Nat}, rowOK B o k l = true → ∀ i p, l[i]? = some p → B.testBit (k + i) = true ∨ tFree p o = true
  | [], _, _, i, p, hp => by simp at hp
  | q :: r, k, h, i, p, hp => by
    simp only [rowOK, Bool.and_eq_true, Bool.or_eq_true] at h
    cases i with
    | zero => simp at hp; subst hp; exact h.1
    | succ i =>
      have := rowOK_spec h.2 i p (by simpa using hp)
      rw [show k + (i + 1) = k + 1 + i by omega]
      exact this
theorem rowUn_spec {B j : Nat} {o : AOp} : ∀ {l : List AOp} {k : Nat}, ∀ i p, l[i]? = some p → B.testBit (k + i) = true ∨ ((hw p.k && ht o.k) || (ht p.k && hw o.k)) = false ∨ (k + i, j) ∈ rowUn B j o k l
  | [], _, i, p, hp => by simp at hp
  | q :: r, k, i, p, hp => by
    simp only [rowUn]
    cases i with
    | zero =>
      simp at hp; subst hp
      rw [Nat.add_zero]
      cases h1 : B.testBit k with
      | true => exact .inl rfl
      | false =>
        right
        cases h2 : ((hw q.k && ht o.k) || (ht q.k && hw o.k)) with
        | false => exact .inl rfl
        | true => right; simp
    | succ i =>
      rcases rowUn_spec (B := B) (j := j) (o := o) (k := k + 1) i p (by simpa using hp) with h | h | h
      · rw [show k + (i + 1) = k + 1 + i by omega]; exact .inl h
      · exact .inr (.inl h)
      · right; right
        rw [show k + (i + 1) = k + 1 + i by omega]
        cases (!B.testBit k && ((hw q.k && ht o.k) || (ht q.k && hw o.k))) with
        | true => exact List.mem_cons_of_mem _ h
        | false => exact h
theorem tOK_spec {B : List Nat} {all : List AOp} : ∀ {l : List AOp} {j : Nat}, tOK B all j l = true → ∀ i o, l[i]? = some o → rowOK (B.getD (j + i) 0) o 0 (all.take (j + i)) = true
  | [], _, _, i, o, ho => by simp at ho
  | q :: r, j, h, i, o, ho => by
    simp only [tOK, Bool.and_eq_true] at h
    cases i with
    | zero => simp at ho; subst ho; exact h.1
    | succ i =>
      have := tOK_spec h.2 i o (by simpa using ho)
      rw [show j + (i + 1) = j + 1 + i by omega]
      exact this
theorem unl_spec {B : List Nat} {all : List AOp} : ∀ {l : List AOp} {j : Nat}, ∀ i o, l[i]? = some o → ∀ x ∈ rowUn (B.getD (j + i) 0) (j + i) o 0 (all.take (j + i)), x ∈ unl B all j l
  | [], _, i, o, ho => by simp at ho
  | q :: r, j, i, o, ho => by
    intro x hx
    simp only [unl, List.mem_append]
    cases i with
    | zero => simp at ho; subst ho; exact .inl hx
    | succ i =>
      right
      refine unl_spec (all := all) i o (by simpa using ho) x ?_
      rw [show j + (i + 1) = j + 1 + i by omega] at hx
      exact hx
theorem unOK_spec {recs : List Rec} : ∀ {u : List (Nat × Nat)}, unOK recs u = true → ∀ k j, (k, j) ∈ u → disj (recs.getD k default) (recs.getD j default) = true
  | [], _, k, j, h => by simp at h
  | (a, b) :: r, h, k, j, hm => by
    simp only [unOK, Bool.and_eq_true] at h
    rcases List.mem_cons.1 hm with e | e
    · simp at e; obtain ⟨rfl, rfl⟩ := e; exact h.1
    · exact unOK_spec h.2 k j e

theorem disj_spec {a b : Rec} (h : disj a b = true) (l : Loc) : (hasL l a.ws = true → (∀ t ∈ b.rd, ¬ cov t l) ∧ hasL l b.ws = false) ∧ (hasL l b.ws = true → ∀ t ∈ a.rd, ¬ cov t l) := by
  simp only [disj, Bool.and_eq_true, List.all_eq_true, Bool.not_eq_true'] at h
  constructor
  · intro hl
    simp only [hasL, List.any_eq_true, decide_eq_true_eq] at hl
    obtain ⟨p, hp, rfl⟩ := hl
    obtain ⟨h1, h2⟩ := h.1 p hp
    exact ⟨fun t ht hc => by have := h1 t ht; rw [covB_of hc] at this; simp at this, h2⟩
  · intro hl t ht hc
    simp only [hasL, List.any_eq_true, decide_eq_true_eq] at hl
    obtain ⟨p, hp, rfl⟩ := hl
    have := h.2 p hp t ht
    rw [covB_of hc] at this
    simp at this

/-! ### Lookups in a state made of records -/

def envL (rec : Nat → Rec) (env : Env) : List Nat → Env
  | [] => env
  | i :: L => putE (rec i).d (rec i).r (envL rec env L)
def hpL (rec : Nat → Rec) (hp : Hp) : List Nat → Hp
  | [] => hp
  | i :: L => (rec i).ws ++ hpL rec hp L

theorem lk_put {d : Option Nat} {x : AV} {env : Env} {t : Nat} : lk (putE d x env) t = if d = some t then x else lk env t := by
  cases d with
  | none => simp [putE]
  | some d => simp [putE, lk]

theorem hl_not {ws h : Hp} {l : Loc} (hn : hasL l ws = false) : hl (ws ++ h) l = hl h l := by
  induction ws with
  | nil => rfl
  | cons w ws ih =>
    obtain ⟨k, x⟩ := w
    simp only [hasL, List.any_cons, Bool.or_eq_false_iff, decide_eq_false_iff_not] at hn
    simp only [List.cons_append, hl, if_neg hn.1]
    exact ih hn.2
theorem hl_congr {ws h h' : Hp} {l : Loc} (e : hl h l = hl h' l) : hl (ws ++ h) l = hl (ws ++ h') l := by
  induction ws with
  | nil => exact e
  | cons w ws ih => obtain ⟨k, x⟩ := w; simp only [List.cons_append, hl, ih]

theorem envL_filter {rec : Nat → Rec} {env : Env} {t : Nat} : ∀ (L : List Nat), lk (envL rec env L) t = lk (envL rec env (L.filter fun i => decide ((rec i).d = some t))) t
  | [] => rfl
  | i :: L => by
    rw [List.filter_cons]
    simp only [envL, lk_put]
    by_cases h : (rec i).d = some t
    · simp [h, envL, lk_put]
    · simp only [h, if_neg, not_false_eq_true, decide_false, Bool.false_eq_true, if_false]
      exact envL_filter L
theorem hpL_filter {rec : Nat → Rec} {hp : Hp} {l : Loc} : ∀ (L : List Nat), hl (hpL rec hp L) l = hl (hpL rec hp (L.filter fun i => hasL l (rec i).ws)) l
  | [] => rfl
  | i :: L => by
    rw [List.filter_cons]
    simp only [hpL]
    cases h : hasL l (rec i).ws with
    | true => simp only [if_true, hpL]; exact hl_congr (hpL_filter L)
    | false => simp only [Bool.false_eq_true, if_false]; rw [hl_not h]; exact hpL_filter L

theorem sorted_eq : ∀ {L M : List Nat}, L.Pairwise (· > ·) → M.Pairwise (· > ·) → (∀ i, i ∈ L ↔ i ∈ M) → L = M
  | [], [], _, _, _ => rfl
  | [], m :: M, _, _, h => by have := (h m).2 (by simp); simp at this
  | l :: L, [], _, _, h => by have := (h l).1 (by simp); simp at this
  | l :: L, m :: M, h1, h2, h => by
    rw [List.pairwise_cons] at h1 h2
    have e : l = m := by
      rcases List.mem_cons.1 ((h l).1 (by simp)) with e | e
      · exact e
      · rcases List.mem_cons.1 ((h m).2 (by simp)) with e' | e'
        · exact e'.symm
        · have := h2.1 l e; have := h1.1 m e'; omega
    subst e
    rw [sorted_eq h1.2 h2.2 fun i => ?_]
    constructor
    · intro hi
      rcases List.mem_cons.1 ((h i).1 (List.mem_cons_of_mem _ hi)) with e | e
      · have := h1.1 i hi; omega
      · exact e
    · intro hi
      rcases List.mem_cons.1 ((h i).2 (List.mem_cons_of_mem _ hi)) with e | e
      · have := h2.1 i hi; omega
      · exact e

def down : Nat → List Nat
  | 0 => []
  | n + 1 => n :: down n
theorem mem_down : ∀ {n i : Nat}, i ∈ down n ↔ i < n
  | 0, i => by simp [down]
  | n + 1, i => by simp only [down, List.mem_cons, mem_down]; omega
theorem down_sorted : ∀ n, (down n).Pairwise (· > ·)
  | 0 => .nil
  | n + 1 => List.pairwise_cons.2 ⟨fun i hi => mem_down.1 hi, down_sorted n⟩

/-- Lists of what has been done, in an order that the pairs allow, look alike where it matters. -/
theorem filter_eq {p : Nat → Bool} {L : List Nat} {j : Nat} (hL : (L.filter p).Pairwise (· > ·)) (hm : ∀ i, p i = true → (i ∈ L ↔ i < j)) : L.filter p = (down j).filter p :=
  sorted_eq hL ((down_sorted j).filter p) fun i => by
    simp only [List.mem_filter, mem_down]
    exact ⟨fun h => ⟨(hm i h.2).1 h.1, h.2⟩, fun h => ⟨(hm i h.2).2 h.1, h.2⟩⟩

/-- The same, with other operations. -/
def exdrX (X : Nat → Env → Hp → AOp → Option (Prop × AV × Hp)) : Nat → List AOp → Env → Hp → Option (Prop × Env × Hp × List Rec)
  | _, [], env, hp => some (True, env, hp, [])
  | k, o :: r, env, hp =>
    match X k env hp o with
    | none => none
    | some (vc, x, ws) =>
      match exdrX X (k + 1) r (putE o.d x env) (ws ++ hp) with
      | none => none
      | some (vcs, e, h, rs) => some (vc ∧ vcs, e, h, ⟨o.d, x, ws, bif ht o.k then rdO env hp o else []⟩ :: rs)
theorem exdr_X {S : Tab} {ver : Nat} : ∀ (l : List AOp) (k : Nat) (e : Env) (h : Hp), exdr S ver k l e h = exdrX (fun i e h o => exop S (i, ver) e h o) k l e h
  | [], _, _, _ => rfl
  | o :: l, k, e, h => by simp only [exdr, exdrX, exdr_X l]
theorem exdrX_spec {X : Nat → Env → Hp → AOp → Option (Prop × AV × Hp)} {bs : Nat} {rec : Nat → Rec} {env0 : Env} {hp0 : Hp} {all : List AOp} : ∀ (l : List AOp) (k : Nat) (rs : List Rec) (vc : Prop) (e : Env) (h : Hp),
    (∀ i, l[i]? = all[k + i]?) → exdrX X (bs + k) l (envL rec env0 (down k)) (hpL rec hp0 (down k)) = some (vc, e, h, rs) → vc → (∀ i, i < l.length → rs[i]? = some (rec (k + i))) →
    e = envL rec env0 (down (k + l.length)) ∧ h = hpL rec hp0 (down (k + l.length)) ∧
    ∀ i o, l[i]? = some o → ∃ vc : Prop, vc ∧ X (bs + (k + i)) (envL rec env0 (down (k + i))) (hpL rec hp0 (down (k + i))) o = some (vc, (rec (k + i)).r, (rec (k + i)).ws) ∧ (rec (k + i)).d = o.d ∧ (rec (k + i)).rd = rdO (envL rec env0 (down (k + i))) (hpL rec hp0 (down (k + i))) o
  | [], k, rs, vc, e, h, _, hex, _, _ => by
    simp only [exdrX, Option.some.injEq, Prod.mk.injEq] at hex
    obtain ⟨_, rfl, rfl, rfl⟩ := hex
    simp
  | o :: l, k, rs, vc, e, h, hl', hex, hvc, hrs => by
    simp only [exdrX] at hex
    split at hex
    · simp at hex
    rename_i v1 r1 ws1 hex1
    split at hex
    · simp at hex
    rename_i v2 e2 h2 rs2 hex2
    simp only [Option.some.injEq, Prod.mk.injEq] at hex
    obtain ⟨rfl, rfl, rfl, rfl⟩ := hex
    have h0 := hrs 0 (by simp)
    simp only [List.getElem?_cons_zero, Option.some.injEq, Nat.add_zero] at h0
    have hd : (rec k).d = o.d := by rw [← h0]
    have hr : (rec k).r = r1 := by rw [← h0]
    have hw' : (rec k).ws = ws1 := by rw [← h0]
    have hrd : (rec k).rd = rdO (envL rec env0 (down k)) (hpL rec hp0 (down k)) o := by
      rw [← h0]
      cases hk : ht o.k with
      | true => rfl
      | false => simp only [cond_false]; exact (rdO_nil hk).symm
    have ih := exdrX_spec (all := all) (rec := rec) (env0 := env0) (hp0 := hp0) l (k + 1) rs2 v2 e2 h2 (fun i => by have := hl' (i + 1); simpa [Nat.add_assoc, Nat.add_comm 1 i] using this)
      (by simp only [down, envL, hpL, hd, hr, hw']; exact hex2) hvc.2 (fun i hi => by
        have := hrs (i + 1) (by simp; omega)
        simpa [Nat.add_assoc, Nat.add_comm 1 i] using this)
    obtain ⟨i1, i2, i3⟩ := ih
    refine ⟨by rw [i1]; simp [Nat.add_assoc, Nat.add_comm 1], by rw [i2]; simp [Nat.add_assoc, Nat.add_comm 1], fun i p hp => ?_⟩
    cases i with
    | zero =>
      simp at hp; subst hp
      exact ⟨v1, hvc.1, by rw [Nat.add_zero, hr, hw']; exact hex1, hd, hrd⟩
    | succ i =>
      have := i3 i p (by simpa using hp)
      rw [show k + (i + 1) = k + 1 + i by omega]
      exact this
end Go.Proofs.YtdabfcbelkjmgaaDoor.Am
/-
  The abstract machine, part 17: a region that draws its order, run in any order.
-/
namespace Go.Proofs.YtdabfcbelkjmgaaDoor.Am
set_option linter.unusedSimpArgs false
set_option linter.unusedVariables false
open Go

/-- All that must hold of the records. -/
structure Good (P : Program) (X : Nat → Env → Hp → Option (Prop × AV × Hp)) (nt n : Nat) (ops : Array Oper) (B : List Nat) (rec : Nat → Rec) (env0 : Env) (hp0 : Hp) (ao : Nat → AOp) : Prop where
  cg : ∀ i env env' hp hp', (∀ t ∈ aopT (ao i), lk env t = lk env' t) → Ag hp hp' (rdO env hp (ao i)) → X i env hp = X i env' hp'
  sz : n ≤ ops.size
  bef : ∀ i o, ops[i]? = some o → (∀ e ∈ edgesOf o, e < i) ∧ B.getD i 0 = maskOf B (edgesOf o)
  op : ∀ i o, ops[i]? = some o → cOp P nt ops o = some (ao i)
  run : ∀ i, i < n → ∃ vc : Prop, vc ∧ X i (envL rec env0 (down i)) (hpL rec hp0 (down i)) = some (vc, (rec i).r, (rec i).ws) ∧ (rec i).d = (ao i).d ∧ (rec i).rd = rdO (envL rec env0 (down i)) (hpL rec hp0 (down i)) (ao i)
  tmp : ∀ k j, k < j → j < n → (B.getD j 0).testBit k = true ∨ tFree (ao k) (ao j) = true
  mem : ∀ k j, k < j → j < n → (B.getD j 0).testBit k = true ∨ disj (rec k) (rec j) = true ∨ ((rec k).ws = [] ∧ (rec j).ws = []) ∨ ((rec j).ws = [] ∧ (rec j).rd = []) ∨ ((rec k).ws = [] ∧ (rec k).rd = [])

/-- What has been done, the last first. -/
structure Done (n : Nat) (B : List Nat) (L : List Nat) : Prop where
  lt : ∀ i ∈ L, i < n
  cl : ∀ j ∈ L, ∀ k, (B.getD j 0).testBit k = true → k ∈ L
  pw : L.Pairwise fun a b => a ≠ b ∧ ¬ (B.getD b 0).testBit a = true

section
variable {P : Program} {X : Nat → Env → Hp → Option (Prop × AV × Hp)} {nt n : Nat} {ops : Array Oper} {B : List Nat} {rec : Nat → Rec} {env0 : Env} {hp0 : Hp} {ao : Nat → AOp} {L : List Nat}

theorem Good.bit (G : Good P X nt n ops B rec env0 hp0 ao) {i k : Nat} {o : Oper} (ho : ops[i]? = some o) : (B.getD i 0).testBit k = true ↔ ∃ e ∈ edgesOf o, k = e ∨ (B.getD e 0).testBit k = true := by
  rw [(G.bef i o ho).2, maskOf, mask_bit]
  simp

/-- Before j, in every order. -/
theorem Good.all (G : Good P X nt n ops B rec env0 hp0 ao) {L : List Nat} (hD : Done n B L) {j : Nat} {o : Oper} (ho : ops[j]? = some o) (he : ∀ e ∈ edgesOf o, e ∈ L) : ∀ k, (B.getD j 0).testBit k = true → k ∈ L := by
  intro k hk
  obtain ⟨e, h1, h2⟩ := (G.bit ho).1 hk
  rcases h2 with rfl | h2
  · exact he _ h1
  · exact hD.cl e (he e h1) k h2

theorem Done.cons (hD : Done n B L) {j : Nat} (hj : j < n) (hn : j ∉ L) (ha : ∀ k, (B.getD j 0).testBit k = true → k ∈ L) : Done n B (j :: L) where
  lt i hi := by rcases List.mem_cons.1 hi with rfl | h; exact hj; exact hD.lt i h
  cl i hi k hk := by
    rcases List.mem_cons.1 hi with rfl | h
    · exact List.mem_cons_of_mem _ (ha k hk)
    · exact List.mem_cons_of_mem _ (hD.cl i h k hk)
  pw := List.pairwise_cons.2 ⟨fun b hb => ⟨fun e => hn (e ▸ hb), fun h => hn (hD.cl b hb j h)⟩, hD.pw⟩

/-- Those of which each pair is ordered stand in the order of the text. -/
theorem Done.sorted (hD : Done n B L) {p : Nat → Bool} (hp : ∀ k j, k < j → j < n → p k = true → p j = true → (B.getD j 0).testBit k = true) : (L.filter p).Pairwise (· > ·) := by
  rw [List.pairwise_filter]
  refine hD.pw.imp_of_mem ?_
  intro a b ha hb ⟨h1, h2⟩ pa pb
  rcases Nat.lt_trichotomy a b with h | h | h
  · exact absurd (hp a b h (hD.lt b hb) pa pb) h2
  · exact absurd h h1
  · exact h

theorem Good.env_pairs (G : Good P X nt n ops B rec env0 hp0 ao) (t : Nat) : ∀ k j, k < j → j < n → decide ((rec k).d = some t) = true → decide ((rec j).d = some t) = true → (B.getD j 0).testBit k = true := by
  intro k j hk hj h1 h2
  simp only [decide_eq_true_eq] at h1 h2
  obtain ⟨_, _, _, d1, _⟩ := G.run k (by omega)
  obtain ⟨_, _, _, d2, _⟩ := G.run j hj
  rcases G.tmp k j hk hj with h | h
  · exact h
  · exact absurd (d2 ▸ h2) ((tFree_spec h).1 t (d1 ▸ h1)).2

theorem Good.hp_pairs (G : Good P X nt n ops B rec env0 hp0 ao) (l : Loc) : ∀ k j, k < j → j < n → hasL l (rec k).ws = true → hasL l (rec j).ws = true → (B.getD j 0).testBit k = true := by
  intro k j hk hj h1 h2
  rcases G.mem k j hk hj with h | h | h | h | h
  · exact h
  · rw [((disj_spec h l).1 h1).2] at h2; simp at h2
  · rw [h.1] at h1; simp [hasL] at h1
  · rw [h.1] at h2; simp [hasL] at h2
  · rw [h.1] at h1; simp [hasL] at h1

/-- The next one sees what it sees in the order of the text. -/
theorem Good.same (G : Good P X nt n ops B rec env0 hp0 ao) {L : List Nat} (hD : Done n B L) {j : Nat} (hj : j < n) (hn : j ∉ L) (ha : ∀ k, (B.getD j 0).testBit k = true → k ∈ L) :
    X j (envL rec env0 L) (hpL rec hp0 L) = X j (envL rec env0 (down j)) (hpL rec hp0 (down j)) := by
  symm
  refine G.cg j _ _ _ _ (fun t ht => ?_) fun t ht l hl' => ?_
  · rw [envL_filter L, envL_filter (down j)]
    rw [filter_eq (j := j) (hD.sorted (G.env_pairs t)) fun i hi => ?_]
    simp only [decide_eq_true_eq] at hi
    constructor
    · intro hL
      rcases Nat.lt_trichotomy i j with h | h | h
      · exact h
      · subst h; exact absurd hL hn
      · rcases G.tmp j i h (hD.lt i hL) with g | g
        · exact absurd (hD.cl i hL j g) hn
        · obtain ⟨_, _, _, d1, _⟩ := G.run i (hD.lt i hL)
          exact absurd ht ((tFree_spec g).2 t (d1 ▸ hi))
    · intro h
      rcases G.tmp i j h hj with g | g
      · exact ha i g
      · obtain ⟨_, _, _, d1, _⟩ := G.run i (by omega)
        exact absurd ht ((tFree_spec g).1 t (d1 ▸ hi)).1
  · obtain ⟨_, _, _, _, hrd⟩ := G.run j hj
    rw [← hrd] at ht
    rw [hpL_filter L, hpL_filter (down j)]
    rw [filter_eq (j := j) (hD.sorted (G.hp_pairs l)) fun i hi => ?_]
    constructor
    · intro hL
      rcases Nat.lt_trichotomy i j with h | h | h
      · exact h
      · subst h; exact absurd hL hn
      · rcases G.mem j i h (hD.lt i hL) with g | g | g | g | g
        · exact absurd (hD.cl i hL j g) hn
        · exact absurd hl' ((disj_spec g l).2 hi t ht)
        · rw [g.2] at hi; simp [hasL] at hi
        · rw [g.1] at hi; simp [hasL] at hi
        · rw [g.2] at ht; simp at ht
    · intro h
      rcases G.mem i j h hj with g | g | g | g | g
      · exact ha i g
      · exact absurd hl' (((disj_spec g l).1 hi).1 t ht)
      · rw [g.1] at hi; simp [hasL] at hi
      · rw [g.2] at ht; simp at ht
      · rw [g.1] at hi; simp [hasL] at hi

theorem Good.fin (G : Good P X nt n ops B rec env0 hp0 ao) {L : List Nat} (hD : Done n B L) (hall : ∀ i, i < n → i ∈ L) :
    (∀ t, lk (envL rec env0 L) t = lk (envL rec env0 (down n)) t) ∧ ∀ l, hl (hpL rec hp0 L) l = hl (hpL rec hp0 (down n)) l := by
  refine ⟨fun t => ?_, fun l => ?_⟩
  · rw [envL_filter L, envL_filter (down n)]
    rw [filter_eq (j := n) (hD.sorted (G.env_pairs t)) fun i _ => ⟨hD.lt i, hall i⟩]
  · rw [hpL_filter L, hpL_filter (down n)]
    rw [filter_eq (j := n) (hD.sorted (G.hp_pairs l)) fun i _ => ⟨hD.lt i, hall i⟩]

theorem envL_far {nt t : Nat} : ∀ (L : List Nat), (∀ i ∈ L, ∀ d, (rec i).d = some d → d < nt) → nt ≤ t → lk (envL rec env0 L) t = lk env0 t
  | [], _, _ => rfl
  | i :: L, h, ht => by
    simp only [envL]
    rw [lk_putE (h i (by simp)) ht]
    exact envL_far L (fun j hj => h j (by simp [hj])) ht
theorem Good.far (G : Good P X nt n ops B rec env0 hp0 ao) (i : Nat) (hi : i < n) : ∀ d, (rec i).d = some d → d < nt := by
  obtain ⟨_, _, _, d1, _⟩ := G.run i hi
  rw [d1]
  have hs : i < ops.size := Nat.lt_of_lt_of_le hi G.sz
  exact cOp_d (G.op i ops[i] (Array.getElem?_eq_getElem hs))

/-! ### How many are left -/
def left (L : List Nat) : Nat → Nat
  | 0 => 0
  | n + 1 => left L n + if n ∈ L then 0 else 1

theorem left_zero {L : List Nat} : ∀ {n : Nat}, left L n = 0 → ∀ i, i < n → i ∈ L
  | 0, _, i, h => by omega
  | n + 1, h, i, hi => by
    simp only [left] at h
    by_cases hn : n ∈ L
    · rcases Nat.lt_or_ge i n with h' | h'
      · exact left_zero (by omega) i h'
      · rw [show i = n by omega]; exact hn
    · rw [if_neg hn] at h; omega
theorem left_cons_ge {L : List Nat} {j : Nat} : ∀ {n : Nat}, n ≤ j → left (j :: L) n = left L n
  | 0, _ => rfl
  | n + 1, h => by
    have : n ≠ j := by omega
    have ih : left (j :: L) n = left L n := left_cons_ge (by omega)
    simp only [left, ih, List.mem_cons, this, false_or]
theorem left_cons {L : List Nat} {j : Nat} (hn : j ∉ L) : ∀ {n : Nat}, j < n → left (j :: L) n + 1 = left L n
  | 0, h => by omega
  | n + 1, h => by
    simp only [left]
    by_cases e : n = j
    · subst e
      rw [left_cons_ge (Nat.le_refl _), if_pos (by simp), if_neg hn]
    · have := left_cons hn (n := n) (by omega)
      have e2 : (n ∈ j :: L) ↔ n ∈ L := by simp [e]
      simp only [e2]
      omega
theorem left_nil : ∀ n, left [] n = n
  | 0 => rfl
  | n + 1 => by simp [left, left_nil n]

theorem least (L : List Nat) : ∀ n, (∀ i, i < n → i ∈ L) ∨ ∃ j, j < n ∧ j ∉ L ∧ ∀ i, i < j → i ∈ L
  | 0 => .inl fun i h => by omega
  | n + 1 => by
    rcases least L n with h | ⟨j, h1, h2⟩
    · by_cases hn : n ∈ L
      · left
        intro i hi
        rcases Nat.lt_or_ge i n with h' | h'
        · exact h i h'
        · rw [show i = n by omega]; exact hn
      · exact .inr ⟨n, by omega, hn, h⟩
    · exact .inr ⟨j, by omega, h2⟩

theorem ready_iff {listed : Array Bool} {L : List Nat} (hsz : listed.size = ops.size) (hli : ∀ i, i < ops.size → (listed.getD i true = true ↔ i ∈ L) ∧ (listed.getD i false = true ↔ i ∈ L)) (hb : ∀ i o, ops[i]? = some o → ∀ e ∈ edgesOf o, e < i) (i : Nat) :
    i ∈ Region.ready .any ops listed ↔ i < ops.size ∧ i ∉ L ∧ ∃ o, ops[i]? = some o ∧ ∀ e ∈ edgesOf o, e ∈ L := by
  unfold Region.ready
  rw [List.mem_filter, List.mem_range]
  constructor
  · rintro ⟨h1, h2⟩
    have ho : ops[i]? = some ops[i] := Array.getElem?_eq_getElem h1
    rw [ho] at h2
    simp only [Option.map_some, Option.getD_some, Bool.and_eq_true, Bool.not_eq_true', Array.all_eq_true'] at h2
    refine ⟨h1, fun h => ?_, ops[i], ho, fun e he => ?_⟩
    · rw [((hli i h1).1).2 h] at h2; simp at h2
    · have hlt := hb i _ ho e he
      simp only [edgesOf, List.mem_map, List.mem_filter] at he
      obtain ⟨x, ⟨hx, hbx⟩, rfl⟩ := he
      have := h2.2 x (by simpa using hx)
      rw [hbx] at this
      simp only [Bool.not_true, Bool.false_or] at this
      exact ((hli x.on (by omega)).2).1 this
  · rintro ⟨h1, h2, o, ho, h3⟩
    refine ⟨h1, ?_⟩
    rw [ho]
    simp only [Option.map_some, Option.getD_some, Bool.and_eq_true, Bool.not_eq_true', Array.all_eq_true']
    refine ⟨?_, fun x hx => ?_⟩
    · cases hc : listed.getD i true with
      | false => rfl
      | true => exact absurd (((hli i h1).1).1 hc) h2
    · cases hbx : Region.binds .any x with
      | false => simp
      | true =>
        have hm : x.on ∈ edgesOf o := by
          simp only [edgesOf, List.mem_map, List.mem_filter]
          exact ⟨x, ⟨by simpa using hx, hbx⟩, rfl⟩
        have := hb i o ho _ hm
        simp only [Bool.not_true, Bool.false_or]
        exact ((hli x.on (by omega)).2).2 (h3 _ hm)

variable {Γ : Ctx} {cnt bs : Nat} {Q : AE → St → Prop}

theorem Inv.congr {σ : Cf} {env env' : Env} {hp hp' : Hp} {a : Act} {nt : Nat} {hb : HB} (h : Inv σ env hp a nt hb) (he : ∀ t, lk env t = lk env' t) (hh : ∀ l, hl hp l = hl hp' l) : Inv σ env' hp' a nt hb where
  h :=
    { ln := fun n => by rw [h.h.ln n]; simp only [lenOf, hh]
      cel := fun n j c hc => h.h.cel n j c (by rw [hh]; exact hc)
      arr := fun n sz live rows d hc => h.h.arr n sz live rows d (by rw [hh]; exact hc)
      inj := fun p q b hp hq => h.h.inj p q b (by simpa only [Owns, hh] using hp) (by simpa only [Owns, hh] using hq)
      lt := h.h.lt
      ou := h.h.ou
      dis := h.h.dis }
  t := fun t => by rw [← he]; exact h.t t
  sz := h.sz
  df := (by rw [← he (dk nt)]; exact h.df)

theorem any_run (stop : Nat → Prop) (G : Good Γ.P X Γ.nt n ops B rec env0 hp0 ao) (hz : ops.size = n) (hQ : (∀ i, i < n → ¬ stop i) → Q .n ⟨envL rec env0 (down n), hpL rec hp0 (down n), cnt + 1⟩) {σ0 : Cf} (hG : Γ.G env0 σ0)
    (hop : ∀ (i : Nat) (o : Oper) (L : List Nat) (σ : Cf) (a : Act) (K : Act → World → Prop), i < n → i ∉ L → (∀ j ∈ L, ¬ stop j) → Done n B L → (∀ k, (B.getD i 0).testBit k = true → k ∈ L) → ops[i]? = some o → Evo σ0 σ → Inv σ (envL rec env0 L) (hpL rec hp0 L) a Γ.nt Γ.hb →
      (∀ m, σ.al m → m.2 ≤ cnt ∨ ∃ i ∈ L, m = (bs + i, cnt + 1)) → (¬ stop i → ∀ a' σ', Evo σ σ' → Inv σ' (putE (ao i).d (rec i).r (envL rec env0 L)) ((rec i).ws ++ hpL rec hp0 L) a' Γ.nt Γ.hb → (∀ m, σ'.al m → σ.al m ∨ m = (bs + i, cnt + 1)) → K a' σ'.w) →
      wpOpIn Γ.F 0 Γ.P ops (lift Γ σ0 Q) i K a σ.w) : ∀ (fuel : Nat) (L : List Nat) (listed : Array Bool) (σ : Cf) (a : Act),
    (∀ j ∈ L, ¬ stop j) → Done n B L → listed.size = ops.size → (∀ i, i < ops.size → (listed.getD i true = true ↔ i ∈ L) ∧ (listed.getD i false = true ↔ i ∈ L)) → left L n = fuel → Evo σ0 σ → Inv σ (envL rec env0 L) (hpL rec hp0 L) a Γ.nt Γ.hb →
    (∀ m, σ.al m → m.2 ≤ cnt ∨ ∃ i ∈ L, m = (bs + i, cnt + 1)) → wpAnyIn Γ.F 0 Γ.P .any ops (lift Γ σ0 Q) fuel listed a σ.w := by
  intro fuel
  have fin : ∀ (L : List Nat) (listed : Array Bool) (σ : Cf) (a : Act), (∀ j ∈ L, ¬ stop j) → Done n B L → listed.size = ops.size → (∀ i, i < ops.size → (listed.getD i true = true ↔ i ∈ L) ∧ (listed.getD i false = true ↔ i ∈ L)) → Evo σ0 σ → Inv σ (envL rec env0 L) (hpL rec hp0 L) a Γ.nt Γ.hb →
      (∀ m, σ.al m → m.2 ≤ cnt ∨ ∃ i ∈ L, m = (bs + i, cnt + 1)) → (∀ i, i < n → i ∈ L) → lift Γ σ0 Q .normal a σ.w := by
    intro L listed σ a hst hD h1 h2 he hI hal hall
    obtain ⟨e1, e2⟩ := G.fin hD hall
    refine ⟨σ, _, .n, rfl, Γ.ofE he, ⟨hI.congr e1 e2, fun m hm => ?_, Γ.g hG he fun t ht => .inr (envL_far (down n) (fun i hi => G.far i (mem_down.1 hi)) ht)⟩, rfl, hQ fun i hi => hst i (hall i hi)⟩
    rcases hal m hm with h | ⟨i, _, rfl⟩
    · exact Nat.le_succ_of_le h
    · exact Nat.le_refl _
  have none : ∀ (L : List Nat) (listed : Array Bool), listed.size = ops.size → (∀ i, i < ops.size → (listed.getD i true = true ↔ i ∈ L) ∧ (listed.getD i false = true ↔ i ∈ L)) → Region.ready .any ops listed = [] → ∀ i, i < n → i ∈ L := by
    intro L listed h1 h2 hr
    rcases least L n with h | ⟨j, h3, h4, h5⟩
    · exact h
    · exfalso
      have hj : j < ops.size := by rw [hz]; exact h3
      have ho : ops[j]? = some ops[j] := Array.getElem?_eq_getElem hj
      have : j ∈ Region.ready .any ops listed := (ready_iff h1 h2 (fun i o ho => (G.bef i o ho).1) j).2 ⟨hj, h4, _, ho, fun e he => h5 e ((G.bef j _ ho).1 e he)⟩
      rw [hr] at this
      simp at this
  induction fuel with
  | zero =>
    intro L listed σ a hst hD h1 h2 hf he hI hal
    have hall := left_zero hf
    refine ⟨?_, fin L listed σ a hst hD h1 h2 he hI hal hall⟩
    cases hr : Region.ready .any ops listed with
    | nil => rfl
    | cons x xs =>
      exfalso
      have hx : x ∈ Region.ready .any ops listed := by rw [hr]; simp
      obtain ⟨g1, g2, _⟩ := (ready_iff h1 h2 (fun i o ho => (G.bef i o ho).1) x).1 hx
      exact g2 (hall x (by rw [← hz]; exact g1))
  | succ fuel ih =>
    intro L listed σ a hst hD h1 h2 hf he hI hal
    refine ⟨fun hr => fin L listed σ a hst hD h1 h2 he hI hal (none L listed h1 h2 hr), fun i hi => ?_⟩
    obtain ⟨g1, g2, o, ho, g3⟩ := (ready_iff h1 h2 (fun i o ho => (G.bef i o ho).1) i).1 hi
    have hin : i < n := by rw [← hz]; exact g1
    have ha := G.all hD ho g3
    obtain ⟨_, _, _, hd, _⟩ := G.run i hin
    refine hop i o L σ a _ hin g2 hst hD ha ho he hI hal fun hs a' σ' e' hI' hal' => ?_
    refine ih (i :: L) _ σ' a' (fun j hj => by rcases List.mem_cons.1 hj with rfl | hj; exact hs; exact hst j hj) (hD.cons hin g2 ha) (by simp [h1]) (fun k hk => ?_) ?_ (he.trans e') ?_ fun m hm => ?_
    · by_cases e : i = k
      · subst e
        have : i < listed.size := by omega
        simp [Array.getD, this]
      · have hk' : k < listed.size := by omega
        have q1 : (listed.setIfInBounds i true).getD k true = listed.getD k true := by simp [Array.getD, hk', Array.getElem_setIfInBounds, e]
        have q2 : (listed.setIfInBounds i true).getD k false = listed.getD k false := by simp [Array.getD, hk', Array.getElem_setIfInBounds, e]
        have q3 : k ∈ i :: L ↔ k ∈ L := by
          rw [List.mem_cons]
          exact ⟨fun h => h.resolve_left fun h => e h.symm, .inr⟩
        rw [q1, q2, q3]
        exact h2 k hk
    · have := left_cons g2 hin
      omega
    · simp only [envL, hpL, hd]; exact hI'
    · rcases hal' m hm with h | rfl
      · rcases hal m h with h | ⟨k, hk, e⟩
        · exact .inl h
        · exact .inr ⟨k, List.mem_cons_of_mem _ hk, e⟩
      · exact .inr ⟨i, by simp, rfl⟩
end
end Go.Proofs.YtdabfcbelkjmgaaDoor.Am
/-
  The abstract machine, part 18: the rule for a region that draws its order.
-/
namespace Go.Proofs.YtdabfcbelkjmgaaDoor.Am
set_option linter.unusedSimpArgs false
set_option linter.unusedVariables false
open Go

theorem exdrX_length {X : Nat → Env → Hp → AOp → Option (Prop × AV × Hp)} : ∀ {l : List AOp} {k : Nat} {env : Env} {hp : Hp} {vc : Prop} {e : Env} {h : Hp} {rs : List Rec}, exdrX X k l env hp = some (vc, e, h, rs) → rs.length = l.length
  | [], _, _, _, _, _, _, _, hex => by simp [exdrX] at hex; simp [hex.2.2.2]
  | o :: l, k, env, hp, vc, e, h, rs, hex => by
    simp only [exdrX] at hex
    split at hex
    · simp at hex
    split at hex
    · simp at hex
    rename_i hex2
    simp only [Option.some.injEq, Prod.mk.injEq] at hex
    obtain ⟨_, _, _, rfl⟩ := hex
    simp [exdrX_length hex2]

theorem cOps_spec {P : Program} {nt : Nat} {ops : Array Oper} : ∀ {l : List Oper} {xs : List AOp}, cOps P nt ops l = some xs → xs.length = l.length ∧ ∀ (i : Nat) (o : Oper), l[i]? = some o → ∃ x, xs[i]? = some x ∧ cOp P nt ops o = some x
  | [], xs, h => by simp [cOps] at h; subst h; simp
  | p :: l, xs, h => by
    simp only [cOps] at h
    split at h
    · rename_i x ys hx hys
      simp at h; subst h
      obtain ⟨h1, h2⟩ := cOps_spec hys
      refine ⟨by simp [h1], fun i o ho => ?_⟩
      cases i with
      | zero => simp at ho; subst ho; exact ⟨x, rfl, hx⟩
      | succ i => exact h2 i o (by simpa using ho)
    · simp at h

theorem cDraw_spec {ops : Array Oper} {l : List AOp} {un : List (Nat × Nat)} (h : cDraw ops l = some un) : ∃ B, befOK B 0 ops.toList = true ∧ tOK B l 0 l = true ∧ un = unl B l 0 l := by
  unfold cDraw at h
  rw [forceL_eq] at h
  generalize (CheckFast.beforeF ops).toList = B at h
  refine ⟨B, ?_⟩
  cases h1 : befOK B 0 ops.toList <;> cases h2 : tOK B l 0 l <;> simp [h1, h2] at h
  exact ⟨rfl, rfl, h.symm⟩

theorem hw_ht {k : AK} (h : ht k = false) : hw k = false := by cases k <;> simp [ht, hw] at h ⊢

theorem At.drawn {Γ : Ctx} {σ : Cf} {s : St} {a : Act} (h : At Γ σ s a) (d : Nat) : ∃ σ', σ'.w = { σ.w with drawn := d } ∧ Evo σ σ' ∧ At Γ σ' s a := by
  obtain ⟨⟨h1, h2, h3, h4⟩, h5, h6⟩ := h
  let τ : Cf := { σ with w := { σ.w with drawn := d } }
  have e : Evo σ τ := ⟨fun _ h => ⟨h, rfl⟩, fun _ _ l h => ⟨l, h, Nat.le_refl _, fun _ => rfl⟩, fun _ _ h h' => ⟨h, h'⟩, rfl, Nat.le_refl _, ⟨rfl, rfl⟩⟩
  refine ⟨τ, rfl, e, ⟨⟨h1.ln, fun n j c hc => ?_, fun n sz live rows d hc => ?_, h1.inj, h1.lt, h1.ou, h1.dis⟩, ?_, h3, h4.mono e⟩, h5, Γ.g h6 e fun _ _ => .inr rfl⟩
  · have kk := h1.cel n j c hc
    exact kk.keep e kk.2.1 rfl
  · exact (h1.arr n sz live rows d hc).keep e rfl fun _ _ _ _ _ _ hM => ⟨hM, rfl⟩
  · exact fun t => (h2 t).mono e

variable {Γ : Ctx}

theorem awp_drw (hΓ : Γ.OK) {rid : Nat} {ops : List AOp} {un : List (Nat × Nat)} {Q : AE → St → Prop} {s : St} {vc : Prop} {env : Env} {hp : Hp} {recs : List Rec} (hex : exdr Γ.S (s.cnt + 1) (100 * rid) ops s.env s.hp = some (vc, env, hp, recs)) (hvc : vc) (hun : unOK recs un = true)
    (hQ : Q .n ⟨env, hp, s.cnt + 1⟩) : awp Γ (.drw rid ops un) Q s := by
  intro code hc σ a hA
  cases code with
  | region id ops' d =>
    simp only [cCode] at hc
    obtain ⟨l, hx, ⟨_, e⟩ | ⟨rfl, hf, un', hu, e⟩⟩ := cReg_inv hc
    · cases e
    · cases e
      refine wpIn_region_any hf ?_
      obtain ⟨B, b1, b2, rfl⟩ := cDraw_spec hu
      obtain ⟨c1, c2⟩ := cOps_spec hx
      have hlen : ops.length = ops'.size := by simpa using c1
      rw [exdr_X] at hex
      have hrl := exdrX_length hex
      have hop : ∀ i o, ops'[i]? = some o → ∃ x, ops[i]? = some x ∧ cOp Γ.P Γ.nt ops' o = some x := fun i o ho => c2 i o (by simpa using ho)
      have hao : ∀ i x, ops[i]? = some x → ops.getD i default = x := fun i x h => by simp [List.getD_eq_getElem?_getD, h]
      have hsp := exdrX_spec (rec := fun i => recs.getD i default) (env0 := s.env) (hp0 := s.hp) (all := ops) (bs := 100 * rid) ops 0 recs vc env hp (fun i => by simp) hex hvc (fun i hi => by
        have : i < recs.length := by omega
        simp [List.getD_eq_getElem?_getD, this])
      simp only [Nat.zero_add] at hsp
      obtain ⟨e1, e2, run⟩ := hsp
      have get : ∀ i, i < ops.length → ops[i]? = some (ops.getD i default) := fun i hi => by simp [List.getD_eq_getElem?_getD, hi]
      have hws : ∀ i, i < ops.length → hw (ops.getD i default).k = false → (recs.getD i default).ws = [] := fun i hi h => by
        obtain ⟨_, _, g, _⟩ := run i _ (get i hi)
        exact exop_nil h g
      have hrd : ∀ i, i < ops.length → ht (ops.getD i default).k = false → (recs.getD i default).rd = [] := fun i hi h => by
        obtain ⟨_, _, _, _, g⟩ := run i _ (get i hi)
        rw [g]; exact rdO_nil h
      have G : Good Γ.P (fun i e h => exop Γ.S (100 * rid + i, s.cnt + 1) e h (ops.getD i default)) Γ.nt ops.length ops' B (fun i => recs.getD i default) s.env s.hp fun i => ops.getD i default :=
        { cg := fun i e e' h h' ht hh => exop_congr ht hh
          sz := Nat.le_of_eq hlen
          bef := fun i o ho => by
            have := befOK_spec b1 i o (by simpa using ho)
            simpa using this
          op := fun i o ho => by
            obtain ⟨x, h1, h2⟩ := hop i o ho
            simp only [hao i x h1]; exact h2
          run := fun i hi => run i _ (get i hi)
          tmp := fun k j hk hj => by
            have h1 := tOK_spec b2 j _ (get j hj)
            rw [Nat.zero_add] at h1
            have h2 := rowOK_spec h1 k (ops.getD k default) (by rw [List.getElem?_take, if_pos hk]; exact get k (by omega))
            rwa [Nat.zero_add] at h2
          mem := fun k j hk hj => by
            have h2 := rowUn_spec (B := B.getD j 0) (j := j) (o := ops.getD j default) (l := ops.take j) (k := 0) k (ops.getD k default) (by rw [List.getElem?_take, if_pos hk]; exact get k (by omega))
            rw [Nat.zero_add] at h2
            rcases h2 with h | h | h
            · exact .inl h
            · right; right
              simp only [Bool.or_eq_false_iff, Bool.and_eq_false_iff] at h
              have hk' : k < ops.length := by omega
              rcases h.1 with g1 | g1
              · rcases h.2 with g2 | g2
                · exact .inr (.inr ⟨hws k hk' g1, hrd k hk' g2⟩)
                · exact .inl ⟨hws k hk' g1, hws j hj g2⟩
              · exact .inr (.inl ⟨hws j hj (hw_ht g1), hrd j hj g1⟩)
            · exact .inr (.inl (unOK_spec hun k j (unl_spec (all := ops) (j := 0) j _ (get j hj) _ (by rw [Nat.zero_add]; exact h)))) }
      obtain ⟨σ', w1, w2, w3⟩ := hA.drawn (σ.w.drawn + 1)
      rw [← w1]
      refine any_run (bs := 100 * rid) (fun _ => False) G hlen.symm (fun _ => by rw [← e1, ← e2]; exact hQ) hA.2.2 (fun i o L σ1 a1 K hin g2 _ hD ha ho _ hI hal hK => ?_) ops'.size [] _ σ' a (by simp) ⟨by simp, by simp, .nil⟩ (by simp) (fun i hi => ?_) (by rw [left_nil, hlen]) w2 w3.1 fun m hm => .inl (w3.2.1 m hm)
      · obtain ⟨vc, hvc, hex, hd, _⟩ := G.run i hin
        rw [← G.same hD hin g2 ha] at hex
        refine exop_sound hΓ.S hΓ.F ho (G.op i o ho) hI (fun h => ?_) hex hvc (hK not_false)
        rcases hal _ h with h | ⟨k, hk, e⟩
        · exact absurd h (Nat.not_succ_le_self s.cnt)
        · simp only [Prod.mk.injEq, Nat.add_left_cancel_iff, and_true] at e
          exact g2 (e ▸ hk)
      · simp [Array.getD, hi]
  | seq x y => simp only [cCode] at hc; split at hc <;> simp at hc
  | cond c x y => simp only [cCode] at hc; split at hc <;> simp at hc
  | rangeFunc f ps x y => simp only [cCode] at hc; split at hc <;> simp at hc
  | _ => simp [cCode] at hc

theorem awp_d (hΓ : Γ.OK) {rid : Nat} {ops : List AOp} {un : List (Nat × Nat)} {Q : AE → St → Prop} {e e' : Env} {h h' : Hp} {c : Nat} {vc : Prop} {recs : List Rec} (hex : exdr Γ.S (c + 1) (100 * rid) ops e h = some (vc, e', h', recs)) (hun : unOK recs un = true) (hvc : vc)
    (hQ : Q .n ⟨e', h', c + 1⟩) : awp Γ (.drw rid ops un) Q ⟨e, h, c⟩ := awp_drw hΓ hex hvc hun hQ
theorem awp_sd (hΓ : Γ.OK) {rid : Nat} {ops : List AOp} {un : List (Nat × Nat)} {b : AC} {Q : AE → St → Prop} {e e' : Env} {h h' : Hp} {c : Nat} {vc : Prop} {recs : List Rec} (hex : exdr Γ.S (c + 1) (100 * rid) ops e h = some (vc, e', h', recs)) (hun : unOK recs un = true) (hvc : vc)
    (hQ : awp Γ b Q ⟨e', h', c + 1⟩) : awp Γ (.seq (.drw rid ops un) b) Q ⟨e, h, c⟩ := awp_seq (awp_drw hΓ hex hvc hun hQ)
end Go.Proofs.YtdabfcbelkjmgaaDoor.Am
