import Derived.Test.YtdabfcbelkjmgaaGreatDoorA3
import Derived.CheckFast
namespace Go.Proofs.YtdabfcbelkjmgaaGreatDoor.Am
set_option linter.unusedSimpArgs false
set_option linter.unusedVariables false
open Go
inductive Tch where
 |l (x:Loc)
 |b (n:Nm)
 deriving Inhabited
def cov:Tch→Loc→Prop
 | .l x,y=>x=y
 | .b n,y=>∃j,y= .c n j
def CT (n:Nm):Nat→Nat→List Tch
 |_,0=>[]
 |o,k+1=> .l (.c n o)::CT n (o+1) k
def Jx:AV→List Tch
 | .own m _=>[.l (.a m)]
 |_=>[]
mutual
def rdV (hp:Hp):AV→List Tch
 | .own n _=>[.l (.a n)]
 | .elem n _ _ _ _=>[.l (.a n)]
 | .box n _=> .b n::(A3 hp n 0 40).flatMap Jx
 | .agg cs=>rdL hp cs
 | .tup cs=>rdL hp cs
 | .clo _ xs ys=>rdL hp xs++rdL hp ys
 |_=>[]
def rdL (hp:Hp):List AV→List Tch
 |[]=>[]
 |c::cs=>rdV hp c++rdL hp cs
end
def K9 (sz:Nat):AV→List Tch
 | .box n o=>CT n o sz
 | .elem n _ _ _ _=>[.l (.a n)]
 |_=>[]
def La (hp:Hp) (sz:Nat) (a x:AV):List Tch:=
 match a with
 | .box n o=>CT n o sz
 | .elem n _ _ _ _=>[.l (.a n)]++(match x.cells with|some cs=>rdL hp cs|none=>[])
 |_=>[]
def rdK (env:Env) (hp:Hp) (g:Bool):AK→List Tch
 | .ld sz _ x=>K9 sz (ung g (opv env x))
 | .st sz a x=>La hp sz (ung g (opv env a)) (ung g (opv env x))
 | .ia _ x _=>rdV hp (ung g (opv env x))
 | .len x=>rdV hp (ung g (opv env x))
 | .b2s x=>rdV hp (ung g (opv env x))
 | .app _ _ _ s x=>rdV hp (ung g (opv env s))++rdV hp (ung g (opv env x))
 | .slc _ x _ _ _=>rdV hp (ung g (opv env x))
 | .cap _| .appn _ _ _ _ _=>[]
 | .bsl _ _ _ ps=>rdL hp ((ps.map fun(i,x)=>(i,ung g (opv env x))).map (·.2))
 | .call _ as=>rdL hp (as.map fun x=>ung g (opv env x))
 | .cv x as=>rdV hp (ung g (opv env x))++rdL hp (as.map fun x=>ung g (opv env x))
 | .allocB _| .pan _| .dfr _| .rcv| .pr _ _| .mv _| .pick _ _ _| .box _ _| .alloc _| .build _ _| .fa _ _| .fld _ _ _ _| .iaA _ _ _ _| .idxA _ _ _ _ _=>[]
 | .bin _ _ _ _| .un _ _| .ext _ _| .mm _ _| .mkf _ _ _| .nilc _| .cnv _ _| .nils _ _| .bad=>[]
def Ag (hp hp':Hp) (L:List Tch):Prop:=∀t∈L,∀l,cov t l→hl hp l=hl hp' l
theorem Ag.left {hp hp':Hp} {L M:List Tch} (h:Ag hp hp' (L++M)):Ag hp hp' L:=fun l hl=>h l (List.mem_append.2 (.inl hl))
theorem Ag.right {hp hp':Hp} {L M:List Tch} (h:Ag hp hp' (L++M)):Ag hp hp' M:=fun l hl=>h l (List.mem_append.2 (.inr hl))
theorem Ag.head {hp hp':Hp} {l:Loc} {L:List Tch} (h:Ag hp hp' (.l l::L)):hl hp l=hl hp' l:=h (.l l) (by simp) l rfl
theorem Ag.headb {hp hp':Hp} {n:Nm} {L:List Tch} (h:Ag hp hp' (.b n::L)) (j:Nat):hl hp (.c n j)=hl hp' (.c n j):=h (.b n) (by simp) _ ⟨j,rfl⟩
theorem Ag.tail {hp hp':Hp} {l:Tch} {L:List Tch} (h:Ag hp hp' (l::L)):Ag hp hp' L:=fun m hm=>h m (by simp[hm])
theorem HG {hp hp':Hp} {n:Nm}:∀{k o:Nat},Ag hp hp' (CT n o k)→Cg hp n o k=Cg hp' n o k
 |0,_,_=>rfl
 |k+1,o,h=>by
  simp only[CT] at h
  simp only[Cg,h.head,HG h.tail]
theorem HH {hp hp':Hp} {n:Nm}:∀{cs:List AV} {o:Nat},Ag hp hp' (CT n o cs.length)→Eb hp n o cs=Eb hp' n o cs
 |[],_,_=>rfl
 |c::cs,o,h=>by
  simp only[List.length_cons,CT] at h
  simp only[Eb,h.head,HH h.tail]
theorem DJ {hp hp':Hp} {n:Nm} (h:∀j,hl hp (.c n j)=hl hp' (.c n j)):∀{k o:Nat},A3 hp n o k=A3 hp' n o k
 |0,_=>rfl
 |k+1,o=>by simp only[A3,h o,DJ h (k:=k) (o:=o+1)]
theorem Lb {hp hp':Hp} {c:AV} (h:Ag hp hp' (Jx c)):Fk hp c=Fk hp' c∧G0 hp c=G0 hp' c:=by
 cases c with
 |own m l=>simp only[Jx] at h;simp only[Fk,G0,h.head];exact⟨trivial,trivial⟩
 |_=>exact⟨rfl,rfl⟩
theorem GW {hp hp':Hp}:∀{cs:List AV},Ag hp hp' (cs.flatMap Jx)→cs.map (Fk hp)=cs.map (Fk hp')∧EK hp cs=EK hp' cs
 |[],_=>⟨rfl,rfl⟩
 |c::cs,h=>by
  simp only[List.flatMap_cons] at h
  obtain⟨h1,h2⟩:=Lb h.left
  obtain⟨h3,h4⟩:=GW h.right
  simp only[List.map_cons,EK,h1,h2,h3,h4];exact⟨trivial,trivial⟩
mutual
theorem IF {hp hp':Hp}:∀{x:AV},Ag hp hp' (rdV hp x)→res hp x=res hp' x∧rvc hp x=rvc hp' x
 | .own n l,h=>by simp only[rdV] at h;simp only[res,rvc,h.head];exact⟨trivial,trivial⟩
 | .box n l,h=>by
  simp only[rdV] at h
  have e:=DJ h.headb (k:=40) (o:=0)
  obtain⟨h1,h2⟩:=GW h.tail
  simp only[res,rvc,←e,h1,h2];exact⟨trivial,trivial⟩
 | .agg cs,h=>by
  simp only[rdV] at h
  obtain⟨h1,h2⟩:=B5 h
  simp only[res,rvc,h1,h2];exact⟨trivial,trivial⟩
 | .tup cs,h=>by
  simp only[rdV] at h
  obtain⟨h1,h2⟩:=B5 h
  simp only[res,rvc,h1,h2];exact⟨trivial,trivial⟩
 | .clo f xs ys,h=>by
  simp only[rdV] at h
  obtain⟨h1,h2⟩:=B5 h.left
  obtain⟨h3,h4⟩:=B5 h.right
  simp only[res,rvc,h1,h2,h3,h4];exact⟨trivial,trivial⟩
 | .v _,_=>⟨rfl,rfl⟩
 | .sl _ _ _ _,_=>⟨rfl,rfl⟩
 | .ro _ _,_=>⟨rfl,rfl⟩
 | .elem _ _ _ _ _,_=>⟨rfl,rfl⟩
 | .gd _ _,_=>⟨rfl,rfl⟩
 | .un,_=>⟨rfl,rfl⟩
theorem B5 {hp hp':Hp}:∀{xs:List AV},Ag hp hp' (rdL hp xs)→BV hp xs=BV hp' xs∧Ch hp xs=Ch hp' xs
 |[],_=>⟨rfl,rfl⟩
 |x::xs,h=>by
  simp only[rdL] at h
  obtain⟨h1,h2⟩:=IF h.left
  obtain⟨h3,h4⟩:=B5 h.right
  simp only[BV,Ch,h1,h2,h3,h4];exact⟨trivial,trivial⟩
end
theorem F6 {hp hp':Hp}:∀{ns:List Nm},(∀n∈ns,hl hp (.a n)=hl hp' (.a n))→frz hp ns=frz hp' ns
 |[],_=>rfl
 |n::ns,h=>by
  have ih:frz hp ns=frz hp' ns:=F6 fun m hm=>h m (List.mem_cons_of_mem _ hm)
  simp only[frz,h n (List.mem_cons_self ..),ih]
mutual
theorem Pl {hp:Hp} {n:Nm}:∀{x:AV},n∈ons x→Tch.l (.a n)∈rdV hp x
 | .own m l,h=>by simp[ons] at h;subst h;simp[rdV]
 | .agg cs,h=>by simp only[ons] at h;simp only[rdV];exact DT h
 | .tup cs,h=>by simp only[ons] at h;simp only[rdV];exact DT h
 | .clo f xs ys,h=>by
  simp only[ons,List.mem_append] at h
  simp only[rdV,List.mem_append]
  exact h.imp DT DT
 | .box _ _,h=>by simp[ons] at h
 | .v _,h=>by simp[ons] at h
 | .sl _ _ _ _,h=>by simp[ons] at h
 | .ro _ _,h=>by simp[ons] at h
 | .elem _ _ _ _ _,h=>by simp[ons] at h
 | .gd _ _,h=>by simp[ons] at h
 | .un,h=>by simp[ons] at h
theorem DT {hp:Hp} {n:Nm}:∀{xs:List AV},n∈By xs→Tch.l (.a n)∈rdL hp xs
 |[],h=>by simp[By] at h
 |x::xs,h=>by
  simp only[By,List.mem_append] at h
  simp only[rdL,List.mem_append]
  exact h.imp Pl DT
end
theorem Kg {hp hp':Hp} {sz:Nat} {x:AV} (h:Ag hp hp' (rdV hp x)):Fl hp sz x=Fl hp' sz x:=by
 cases x with
 |own n l=>simp only[rdV] at h;simp only[Fl,h.head]
 |v x=>
  cases x with
  |slice b n c=>cases n<;>rfl
  |_=>rfl
 |_=>rfl
theorem G7 {hp:Hp} {n:Nm}:∀{xs:List AV},Bo xs=some n→Tch.b n∈rdL hp xs
 |[],h=>by simp[Bo] at h
 |c::cs,h=>by
  simp only[rdL,List.mem_append]
  cases c with
  |box m o=>simp only[Bo,yE] at h;subst h;exact .inl (by simp[rdV])
  |_=>exact .inr (G7 (by simpa [Bo] using h))
theorem F7 {S:Tab} {hp hp':Hp} {f:Nat} {xs:List AV} (h:Ag hp hp' (rdL hp xs)):DE S hp f xs=DE S hp' f xs:=by
 obtain⟨h1,h2⟩:=B5 h
 have h3:frz hp (By xs)=frz hp' (By xs):=F6 fun n hn=>h _ (DT hn) _ rfl
 have h4:∀n,Bo xs=some n→∀j,hl hp (.c n j)=hl hp' (.c n j):=fun n hn j=>h (.b n) (G7 hn) _ ⟨j,rfl⟩
 simp only[DE,h1,h2,h3]
 cases hb:Bo xs with
 |none=>rfl
 |some n=>
  have h5:=h4 n hb
  have h6:Du hp n=Du hp' n:=by funext k;unfold Du;simp only[h5]
  simp only[DJ h5,h6]
theorem Ie {hp:Hp}:∀{xs ys:List AV},rdL hp (xs++ys)=rdL hp xs++rdL hp ys
 |[],ys=>rfl
 |x::xs,ys=>by simp only[List.cons_append,rdL,Ie,List.append_assoc]
theorem Ao {env env':Env} {x:Opd} (h:∀t∈A9 x,lk env t=lk env' t):opv env x=opv env' x:=by
 cases x with
 |t n=>exact h n (by simp[A9])
 |k x=>rfl
theorem B6 {env env':Env} {g:Bool}:∀{xs:List Opd},(∀t∈C7 xs,lk env t=lk env' t)→xs.map (fun x=>ung g (opv env x))=xs.map (fun x=>ung g (opv env' x))
 |[],_=>rfl
 |x::xs,h=>by
  simp only[C7,List.flatMap_cons,List.mem_append] at h
  simp only[List.map_cons]
  rw[Ao fun t ht=>h t (.inl ht),B6 fun t ht=>h t (.inr ht)]
theorem Kv {S:Tab} {env env':Env} {hp:Hp} {nm:Nm} {g:Bool} {k:AK} (h:∀t∈akT k,lk env t=lk env' t):exK S env hp nm g k=exK S env' hp nm g k∧rdK env hp g k=rdK env' hp g k:=by
 cases k with
 |pr p xs=>simp only[exK,rdK,B6 (g:=g) h,and_self]
 |b2s x=>simp only[exK,rdK,Ao h,and_self]
 |mv x=>simp only[exK,rdK,Ao h,and_self]
 |pick c a b=>
  simp only[akT,List.mem_append] at h
  have h1:=Ao fun t ht=>h t (.inl (.inl ht))
  have h2:=Ao fun t ht=>h t (.inl (.inr ht))
  have h3:=Ao fun t ht=>h t (.inr ht)
  simp only[exK,rdK,h1,h2,h3,and_self]
 |box n x=>simp only[exK,rdK,Ao h,and_self]
 |alloc z=>exact⟨rfl,rfl⟩
 |build z ps=>
  have:ps.map (fun(o,s,x)=>(o,s,ung g (opv env x)))=ps.map (fun(o,s,x)=>(o,s,ung g (opv env' x))):=by
   apply List.map_congr_left
   rintro⟨o,s,x⟩ hm
   simp only[Ao fun t ht=>h t (List.mem_flatMap.2 ⟨_,hm,ht⟩)]
  exact⟨congrArg (Eo z) this,rfl⟩
 |bsl sz len z ps=>
  have:ps.map (fun(i,x)=>(i,ung g (opv env x)))=ps.map (fun(i,x)=>(i,ung g (opv env' x))):=by
   apply List.map_congr_left
   rintro⟨i,x⟩ hm
   simp only[Ao fun t ht=>h t (List.mem_flatMap.2 ⟨_,hm,ht⟩)]
  exact⟨congrArg (Gr hp nm sz len z) this,by rw[rdK,rdK,this]⟩
 |ld sz ag x=>simp only[exK,rdK,Ao h,and_self]
 |st sz a x=>
  simp only[akT,List.mem_append] at h
  have h1:=Ao fun t ht=>h t (.inl ht)
  have h2:=Ao fun t ht=>h t (.inr ht)
  simp only[exK,rdK,h1,h2,and_self]
 |fa o x=>simp only[exK,rdK,Ao h,and_self]
 |fld o s ag x=>simp only[exK,rdK,Ao h,and_self]
 |ia sz x i=>
  simp only[akT,List.mem_append] at h
  have h1:=Ao fun t ht=>h t (.inl ht)
  have h2:=Ao fun t ht=>h t (.inr ht)
  simp only[exK,rdK,h1,h2,and_self]
 |iaA n sz x i=>
  simp only[akT,List.mem_append] at h
  have h1:=Ao fun t ht=>h t (.inl ht)
  have h2:=Ao fun t ht=>h t (.inr ht)
  simp only[exK,rdK,h1,h2,and_self]
 |idxA n sz ag x i=>
  simp only[akT,List.mem_append] at h
  have h1:=Ao fun t ht=>h t (.inl ht)
  have h2:=Ao fun t ht=>h t (.inr ht)
  simp only[exK,rdK,h1,h2,and_self]
 |bin op tk x y=>
  simp only[akT,List.mem_append] at h
  have h1:=Ao fun t ht=>h t (.inl ht)
  have h2:=Ao fun t ht=>h t (.inr ht)
  cases tk<;>simp only[exK,rdK,h1,h2,and_self]
 |un op x=>simp only[exK,rdK,Ao h,and_self]
 |ext x i=>simp only[exK,rdK,Ao h,and_self]
 |call f as=>simp only[exK,rdK,B6 (g:=g) h,and_self]
 |cv x as=>
  simp only[akT,List.mem_append] at h
  have h1:=Ao fun t ht=>h t (.inl ht)
  have h2:=B6 (g:=g) fun t ht=>h t (.inr ht)
  simp only[exK,rdK,h1,h2,and_self]
 |len x=>simp only[exK,rdK,Ao h,and_self]
 |app sz by' z s x=>
  simp only[akT,List.mem_append] at h
  have h1:=Ao fun t ht=>h t (.inl ht)
  have h2:=Ao fun t ht=>h t (.inr ht)
  simp only[exK,rdK,h1,h2,and_self]
 |mm m xs=>simp only[exK,rdK,B6 (g:=g) h,and_self]
 |mkf f a b=>
  simp only[akT,List.mem_append] at h
  have h1:=B6 (g:=g) fun t ht=>h t (.inl ht)
  have h2:=B6 (g:=g) fun t ht=>h t (.inr ht)
  simp only[exK,rdK,h1,h2,and_self]
 |slc sz x l hh m=>
  simp only[akT,List.mem_append] at h
  have e1:=Ao fun t ht=>h t (.inl (.inl (.inl ht)))
  have eo:∀y:Option Opd,(∀t∈C7 y.toList,lk env t=lk env' t)→(y.map fun x=>ung g (opv env x))=(y.map fun x=>ung g (opv env' x)):=by
   intro y hy
   cases y with
   |none=>rfl
   |some y=>simp only[Option.map_some];rw[Ao fun t ht=>hy t (by simpa [C7] using ht)]
  have e2:=eo l fun t ht=>h t (.inl (.inl (.inr ht)))
  have e3:=eo hh fun t ht=>h t (.inl (.inr ht))
  have e4:=eo m fun t ht=>h t (.inr ht)
  simp only[exK,rdK,e1,e2,e3,e4,and_self]
 |nilc x=>simp only[exK,rdK,Ao h,and_self]
 |cnv k x=>simp only[exK,rdK,Ao h,and_self]
 |nils n x=>simp only[exK,rdK,Ao h,and_self]
 |cap x=>simp only[exK,rdK,Ao h,and_self]
 |appn sz by' z s x=>
  simp only[akT,List.mem_append] at h
  have h1:=Ao fun t ht=>h t (.inl ht)
  have h2:=Ao fun t ht=>h t (.inr ht)
  simp only[exK,rdK,h1,h2,and_self]
 |pan x=>exact⟨rfl,rfl⟩
 |dfr x=>exact⟨rfl,rfl⟩
 |rcv=>exact⟨rfl,rfl⟩
 |allocB _=>exact⟨rfl,rfl⟩
 |bad=>exact⟨rfl,rfl⟩
theorem LV {S:Tab} {env:Env} {hp hp':Hp} {nm:Nm} {g:Bool} {k:AK} (h:Ag hp hp' (rdK env hp g k)):exK S env hp nm g k=exK S env hp' nm g k:=by
 cases k with
 |ld sz ag x=>
  simp only[exK,rdK] at h⊢
  generalize ung g (opv env x)=X at h⊢
  cases X with
  |box n o=>simp only[K9] at h;simp only[De,HG h]
  |elem n l z i o=>simp only[K9] at h;simp only[De,h.head]
  |v X=>cases X with
   |pointer p=>cases p with
    |some ad=>obtain⟨_,_,sp⟩:=ad;cases sp<;>rfl
    |none=>rfl
   |_=>rfl
  |_=>rfl
 |st sz a x=>
  simp only[exK,rdK] at h⊢
  generalize ung g (opv env x)=X at h⊢
  generalize ung g (opv env a)=A at h⊢
  unfold Jb
  cases hc:X.cells with
  |none=>rfl
  |some cs=>
   simp only
   by_cases hl':cs.length=sz
   ·rw[if_pos hl',if_pos hl']
    cases A with
    |box n o=>simp only[La] at h;rw[←hl'] at h;simp only[HH h]
    |elem n l z i o=>
     simp only[La,hc] at h
     have h1:=h.head
     obtain⟨h2,h3⟩:=B5 h.tail
     simp only[h1,h2,h3]
    |_=>rfl
   ·rw[if_neg hl',if_neg hl']
 |ia sz x i=>
  simp only[exK,rdK] at h⊢
  generalize ung g (opv env x)=X at h⊢
  generalize ung g (opv env i)=I at h⊢
  cases X with
  |own n l=>
   simp only[rdV] at h
   cases I with
   |v q=>cases q<;>first|rfl|simp only[H9,h.head]
   |_=>rfl
  |sl _ _ _ _=>
   cases I with
   |v q=>cases q<;>rfl
   |_=>rfl
  |_=>rfl
 |len x=>
  simp only[exK,rdK] at h⊢
  generalize ung g (opv env x)=X at h⊢
  cases X with
  |own n l=>simp only[rdV] at h;simp only[EN,h.head]
  |_=>rfl
 |b2s x=>
  simp only[exK,rdK] at h⊢
  generalize ung g (opv env x)=X at h⊢
  cases X with
  |own n l=>simp only[rdV] at h;simp only[EM,h.head]
  |_=>rfl
 |app sz by' z s x=>
  simp only[exK,rdK] at h⊢
  generalize ung g (opv env s)=X at h⊢
  generalize ung g (opv env x)=Y at h⊢
  unfold Gq
  rw[Kg h.right]
  cases X with
  |own n l=>have:=h.left;simp only[rdV] at this;simp only[this.head]
  |_=>rfl
 |slc sz x l hh m=>
  simp only[exK,rdK] at h⊢
  generalize ung g (opv env x)=X at h⊢
  have e1:∀lo hi mx,EL hp sz X lo hi mx=EL hp' sz X lo hi mx:=by
   intro lo hi mx
   unfold EL
   cases X with
   |own n l'=>simp only[rdV] at h;simp only[h.head,frz]
   |_=>rfl
  have e2:∀lo hi mx,Dh hp nm sz X lo hi mx=Dh hp' nm sz X lo hi mx:=by
   intro lo hi mx
   cases X with
   |own n l'=>
    simp only[rdV] at h
    rcases lo with _|lo<;>rcases hi with _|hi<;>rcases mx with _|mx<;>try (simp only[Dh,e1];done)
    all_goals (rcases hi with c|_|_|_|_|_|_|_|_|_|_<;>try (simp only[Dh,e1];done))
    all_goals (cases c<;>first|(simp only[Dh,e1];done)|simp only[Dh,h.head])
   |_=>exact e1 lo hi mx
  simp only[e1,e2]
 |bsl sz len z ps=>
  simp only[exK,rdK] at h⊢
  generalize (ps.map fun(i,x)=>(i,ung g (opv env x)))=qs at h⊢
  obtain⟨h1,h2⟩:=B5 h
  have h3:frz hp (By (qs.map (·.2)))=frz hp' (By (qs.map (·.2))):=F6 fun n hn=>h _ (DT hn) _ rfl
  have h4:qs.map (fun(i,x)=>(i,res hp x))=qs.map (fun(i,x)=>(i,res hp' x)):=by
   clear h1 h2 h3
   induction qs with
   |nil=>rfl
   |cons q qs ih=>
    obtain⟨i,x⟩:=q
    simp only[List.map_cons,rdL] at h
    simp only[List.map_cons,(IF h.left).1,ih h.right]
  simp only[Gr,h2,h3,h4]
 |call f as=>
  simp only[exK,rdK] at h⊢
  exact F7 h
 |cv x as=>
  simp only[exK,rdK] at h⊢
  generalize ung g (opv env x)=X at h⊢
  generalize (as.map fun x=>ung g (opv env x))=Y at h⊢
  unfold Jc
  cases X with
  |clo fn a b=>
   cases fn with
   |func f=>
    simp only[rdV] at h
    refine F7 ?_
    rw[Ie,Ie]
    intro l hl'
    simp only[List.mem_append] at hl'
    rcases hl' with(h1|h1)|h1
    ·exact h.left.left l h1
    ·exact h.right l h1
    ·exact h.left.right l h1
   |_=>rfl
  |_=>rfl
 |bin op tk x y=>cases tk<;>rfl
 |_=>rfl
def rdO (env:Env) (hp:Hp) (o:AOp):List Tch:=
 match Bv env o.g with
 |some g=>rdK env hp g o.k
 |none=>[]
theorem FB {S:Tab} {nm:Nm} {env env':Env} {hp hp':Hp} {o:AOp} (ht:∀t∈Ew o,lk env t=lk env' t) (hh:Ag hp hp' (rdO env hp o)):Dw S nm env hp o=Dw S nm env' hp' o:=by
 have hk:∀g,exK S env hp nm g o.k=exK S env' hp nm g o.k:=fun g=>(Kv fun t h=>ht t (by simp[Ew,h])).1
 have hrd:∀g,rdK env hp g o.k=rdK env' hp g o.k:=fun g=>(Kv (S:=S) (nm:=nm) fun t h=>ht t (by simp[Ew,h])).2
 have hg:Bv env o.g=Bv env' o.g:=by
  cases hgo:o.g with
  |none=>rfl
  |some p=>
   obtain⟨t,w⟩:=p
   simp only[Bv]
   rw[ht t (by simp[Ew,hgo])]
 unfold Dw
 cases hgo:o.g with
 |none=>
  simp only
  have h2:Bv env o.g=some true:=by rw[hgo];rfl
  simp only[rdO,h2] at hh
  rw[hk]
  rw[hrd] at hh
  exact LV hh
 |some p=>
  simp only
  rw[←hgo,←hg]
  cases hgv:Bv env o.g with
  |none=>rfl
  |some g=>
   simp only
   simp only[rdO,hgv] at hh
   rw[hrd] at hh
   rw[hk g,LV hh]
theorem DK {o:Option (Prop×AV)} {vc:Prop} {r:AV} {ws:Hp} (h:vr o=some (vc,r,ws)):ws=[]:=by
 unfold vr at h
 split at h
 ·simp at h;exact h.2.2
 ·simp at h
theorem Kw {S:Tab} {env:Env} {hp:Hp} {nm:Nm} {g:Bool} {k:AK} {vc:Prop} {r:AV} {ws:Hp} (hk:hw k=false) (h:exK S env hp nm g k=some (vc,r,ws)):ws=[]:=by
 cases k with
 |box _ _=>simp[hw] at hk
 |alloc _=>simp[hw] at hk
 |bsl _ _ _ _=>simp[hw] at hk
 |st _ _ _=>simp[hw] at hk
 |call _ _=>simp[hw] at hk
 |cv _ _=>simp[hw] at hk
 |app _ _ _ _ _=>simp[hw] at hk
 |slc _ _ _ _ _=>simp[hw] at hk
 |appn _ _ _ _ _=>simp[hw] at hk
 |cap x=>
  simp only[exK] at h
  generalize ung g (opv env x)=X at h
  unfold Hm at h
  split at h<;>simp at h<;>exact h.2.2
 |pr p xs=>simp only[exK] at h;exact DK h
 |b2s x=>
  simp only[exK] at h
  generalize ung g (opv env x)=X at h
  unfold EM at h
  split at h
  ·simp at h;exact h.2.2
  ·split at h<;>simp at h
   exact h.2.2
  ·simp at h
 |mv x=>simp[exK] at h;exact h.2.2
 |pick c a b=>
  simp only[exK,FX] at h
  split at h
  ·split at h<;>simp at h<;>exact h.2.2
  ·simp at h
 |build z ps=>
  simp only[exK,Eo] at h
  split at h<;>simp at h
  exact h.2.2
 |ld sz ag x=>
  simp only[exK] at h
  generalize ung g (opv env x)=X at h
  unfold De at h
  split at h
  ·exact DK h
  ·split at h
   ·exact DK h
   ·simp at h
  ·split at h
   ·exact DK h
   ·simp at h
  ·split at h
   ·split at h
    ·exact DK h
    ·simp at h
   ·simp at h
  ·simp at h
 |fa o x=>
  simp only[exK] at h
  generalize ung g (opv env x)=X at h
  unfold Ec at h
  split at h<;>simp at h<;>exact h.2.2
 |fld o s ag x=>
  simp only[exK] at h
  generalize ung g (opv env x)=X at h
  unfold Gs at h
  split at h
  ·split at h
   ·exact DK h
   ·simp at h
  ·simp at h
 |ia sz x i=>
  simp only[exK] at h
  generalize ung g (opv env x)=X at h
  generalize ung g (opv env i)=I at h
  unfold H9 at h
  split at h
  ·simp at h;exact h.2.2
  ·split at h<;>simp at h
   exact h.2.2
  ·simp at h
 |iaA n sz x i=>
  simp only[exK] at h
  generalize ung g (opv env x)=X at h
  generalize ung g (opv env i)=I at h
  unfold Hn at h
  split at h<;>simp at h<;>exact h.2.2
 |idxA n sz ag x i=>
  simp only[exK] at h
  generalize ung g (opv env x)=X at h
  generalize ung g (opv env i)=I at h
  unfold FY at h
  split at h
  ·split at h
   ·exact DK h
   ·simp at h
  ·simp at h
 |bin op tk x y=>
  cases tk with
  |cells n=>
   simp only[exK] at h
   generalize ung g (opv env x)=X at h
   generalize ung g (opv env y)=Y at h
   unfold Ho at h
   split at h
   ·split at h<;>simp at h<;>exact h.2.2
   ·simp at h
  |_=>simp only[exK] at h;exact DK h
 |un op x=>simp only[exK] at h;exact DK h
 |ext x i=>
  simp only[exK] at h
  generalize ung g (opv env x)=X at h
  unfold Gt at h
  split at h
  ·split at h<;>simp at h
   exact h.2.2
  ·simp at h
 |len x=>
  simp only[exK] at h
  generalize ung g (opv env x)=X at h
  unfold EN at h
  split at h
  ·simp at h;exact h.2.2
  ·split at h<;>simp at h
   exact h.2.2
  ·simp at h
 |mm m xs=>
  simp only[exK] at h
  generalize (xs.map fun x=>ung g (opv env x))=X at h
  unfold Ia at h
  split at h
  ·split at h<;>simp at h
   exact h.2.2
  ·simp at h
 |mkf f a b=>simp[exK] at h;exact h.2.2
 |nilc x=>
  simp only[exK] at h
  generalize ung g (opv env x)=X at h
  unfold Hq at h
  split at h<;>simp at h<;>exact h.2.2
 |cnv k x=>
  simp only[exK] at h
  generalize ung g (opv env x)=X at h
  unfold Hr at h
  split at h<;>simp at h
  exact h.2.2
 |nils n x=>
  simp only[exK] at h
  generalize ung g (opv env x)=X at h
  unfold FZ at h
  split at h<;>simp at h<;>exact h.2.2
 |pan x=>simp[exK] at h
 |dfr x=>simp[exK] at h
 |rcv=>simp[exK] at h
 |allocB _=>simp[exK] at h
 |bad=>simp[exK] at h
theorem G8 {S:Tab} {env:Env} {hp:Hp} {nm:Nm} {o:AOp} {vc:Prop} {r:AV} {ws:Hp} (hk:hw o.k=false) (h:Dw S nm env hp o=some (vc,r,ws)):ws=[]:=by
 unfold Dw at h
 split at h
 ·exact Kw hk h
 ·split at h
  ·simp at h
  ·split at h
   ·simp at h;exact h.2.2
   ·simp at h;exact h.2.2
   ·rename_i he
    have:=Kw hk he
    simp at this
theorem GA {env:Env} {hp:Hp} {o:AOp} (hk:ht o.k=false):rdO env hp o=[]:=by
 unfold rdO
 split
 ·cases hc:o.k<;>simp[hc,ht,hw] at hk<;>rfl
 ·rfl
structure Rec where
 d:Option Nat
 r:AV
 ws:Hp
 rd:List Tch
 deriving Inhabited
def FC (S:Tab) (ver:Nat):Nat→List AOp→Env→Hp→Option (Prop×Env×Hp×List Rec)
 |_,[],env,hp=>some (True,env,hp,[])
 |k,o::r,env,hp=>
  match Dw S (k,ver) env hp o with
  |none=>none
  |some (vc,x,ws)=>
   match FC S ver (k+1) r (AX o.d x env) (ws++hp) with
   |none=>none
   |some (vcs,e,h,rs)=>some (vc∧vcs,e,h,⟨o.d,x,ws,bif ht o.k then rdO env hp o else[]⟩::rs)
def If:Tch→Loc→Bool
 | .l x,y=>decide (x=y)
 | .b n,.c m _=>decide (n=m)
 | .b _,.a _=>false
theorem Kx {t:Tch} {l:Loc} (h:cov t l):If t l=true:=by
 cases t with
 |l x=>simpa [If,cov] using h
 |b n=>obtain⟨j,rfl⟩:=h;simp[If]
def Cw (l:Loc) (ws:Hp):Bool:=ws.any fun p=>decide (p.1=l)
def Ig (a b:Rec):Bool:=
 (a.ws.all fun p=>(b.rd.all fun t=> !If t p.1)&& !Cw p.1 b.ws)&&b.ws.all fun p=>a.rd.all fun t=> !If t p.1
def FD (recs:List Rec):List (Nat×Nat)→Bool
 |[]=>true
 |(k,j)::r=>Ig (recs.getD k default) (recs.getD j default)&&FD recs r
theorem EA {B:List Nat}:∀{es:List Nat} {s k:Nat},(es.foldl (fun s e=>s|||2^e|||B.getD e 0) s).testBit k=true↔s.testBit k=true∨∃e∈es,k=e∨(B.getD e 0).testBit k=true
 |[],s,k=>by simp
 |e::es,s,k=>by
  rw[List.foldl_cons,EA]
  simp only[Nat.testBit_or,Bool.or_eq_true,Nat.testBit_two_pow,decide_eq_true_eq,List.mem_cons,exists_eq_or_imp]
  constructor
  ·rintro((h|h)|h)
   ·rcases h with h|h
    ·exact .inl h
    ·exact .inr (.inl (.inl h.symm))
   ·exact .inr (.inl (.inr h))
   ·exact .inr (.inr h)
  ·rintro(h|(h|h)|h)
   ·exact .inl (.inl (.inl h))
   ·exact .inl (.inl (.inr h.symm))
   ·exact .inl (.inr h)
   ·exact .inr h
theorem Ej {B:List Nat}:∀{l:List Oper} {j:Nat},Gy B j l=true→∀i o,l[i]? =some o→(∀e∈A6 o,e<j+i)∧B.getD (j+i) 0=CI B (A6 o)
 |[],_,_,i,o,ho=>by simp at ho
 |p::r,j,h,i,o,ho=>by
  simp only[Gy,Bool.and_eq_true,List.all_eq_true,decide_eq_true_eq,beq_iff_eq] at h
  cases i with
  |zero=>simp at ho;subst ho;exact h.1
  |succ i=>
   have:=Ej h.2 i o (by simpa using ho)
   rw[show j+(i+1)=j+1+i by omega]
   exact this
theorem FE {a b:AOp} (h:C8 a b=true):(∀t,a.d=some t→t∉Ew b∧b.d≠some t)∧∀t,b.d=some t→t∉Ew a:=by
 unfold C8 at h
 simp only[Bool.and_eq_true] at h
 refine⟨fun t ht=> ?_,fun t ht=> ?_⟩
 ·have:=h.1;rw[ht] at this;simpa using this
 ·have:=h.2;rw[ht] at this;simpa using this
theorem Ek {B:Nat} {o:AOp}:∀{l:List AOp} {k:Nat},HC B o k l=true→∀i p,l[i]? =some p→B.testBit (k+i)=true∨C8 p o=true
 |[],_,_,i,p,hp=>by simp at hp
 |q::r,k,h,i,p,hp=>by
  simp only[HC,Bool.and_eq_true,Bool.or_eq_true] at h
  cases i with
  |zero=>simp at hp;subst hp;exact h.1
  |succ i=>
   have:=Ek h.2 i p (by simpa using hp)
   rw[show k+(i+1)=k+1+i by omega]
   exact this
theorem El {B j:Nat} {o:AOp}:∀{l:List AOp} {k:Nat},∀i p,l[i]? =some p→B.testBit (k+i)=true∨((hw p.k&&ht o.k)||(ht p.k&&hw o.k))=false∨(k+i,j)∈Gz B j o k l
 |[],_,i,p,hp=>by simp at hp
 |q::r,k,i,p,hp=>by
  simp only[Gz]
  cases i with
  |zero=>
   simp at hp;subst hp
   rw[Nat.add_zero]
   cases h1:B.testBit k with
   |true=>exact .inl rfl
   |false=>
    right
    cases h2:((hw q.k&&ht o.k)||(ht q.k&&hw o.k)) with
    |false=>exact .inl rfl
    |true=>right;simp
  |succ i=>
   rcases El (B:=B) (j:=j) (o:=o) (k:=k+1) i p (by simpa using hp) with h|h|h
   ·rw[show k+(i+1)=k+1+i by omega];exact .inl h
   ·exact .inr (.inl h)
   ·right;right
    rw[show k+(i+1)=k+1+i by omega]
    cases(!B.testBit k&&((hw q.k&&ht o.k)||(ht q.k&&hw o.k))) with
    |true=>exact List.mem_cons_of_mem _ h
    |false=>exact h
theorem FF {B:List Nat} {all:List AOp}:∀{l:List AOp} {j:Nat},tOK B all j l=true→∀i o,l[i]? =some o→HC (B.getD (j+i) 0) o 0 (all.take (j+i))=true
 |[],_,_,i,o,ho=>by simp at ho
 |q::r,j,h,i,o,ho=>by
  simp only[tOK,Bool.and_eq_true] at h
  cases i with
  |zero=>simp at ho;subst ho;exact h.1
  |succ i=>
   have:=FF h.2 i o (by simpa using ho)
   rw[show j+(i+1)=j+1+i by omega]
   exact this
theorem FG {B:List Nat} {all:List AOp}:∀{l:List AOp} {j:Nat},∀i o,l[i]? =some o→∀x∈Gz (B.getD (j+i) 0) (j+i) o 0 (all.take (j+i)),x∈unl B all j l
 |[],_,i,o,ho=>by simp at ho
 |q::r,j,i,o,ho=>by
  intro x hx
  simp only[unl,List.mem_append]
  cases i with
  |zero=>simp at ho;subst ho;exact .inl hx
  |succ i=>
   right
   refine FG (all:=all) i o (by simpa using ho) x ?_
   rw[show j+(i+1)=j+1+i by omega] at hx
   exact hx
theorem F8 {recs:List Rec}:∀{u:List (Nat×Nat)},FD recs u=true→∀k j,(k,j)∈u→Ig (recs.getD k default) (recs.getD j default)=true
 |[],_,k,j,h=>by simp at h
 |(a,b)::r,h,k,j,hm=>by
  simp only[FD,Bool.and_eq_true] at h
  rcases List.mem_cons.1 hm with e|e
  ·simp at e;obtain⟨rfl,rfl⟩:=e;exact h.1
  ·exact F8 h.2 k j e
theorem F9 {a b:Rec} (h:Ig a b=true) (l:Loc):(Cw l a.ws=true→(∀t∈b.rd,¬cov t l)∧Cw l b.ws=false)∧(Cw l b.ws=true→∀t∈a.rd,¬cov t l):=by
 simp only[Ig,Bool.and_eq_true,List.all_eq_true,Bool.not_eq_true'] at h
 constructor
 ·intro hl
  simp only[Cw,List.any_eq_true,decide_eq_true_eq] at hl
  obtain⟨p,hp,rfl⟩:=hl
  obtain⟨h1,h2⟩:=h.1 p hp
  exact⟨fun t ht hc=>by have:=h1 t ht;rw[Kx hc] at this;simp at this,h2⟩
 ·intro hl t ht hc
  simp only[Cw,List.any_eq_true,decide_eq_true_eq] at hl
  obtain⟨p,hp,rfl⟩:=hl
  have:=h.2 p hp t ht
  rw[Kx hc] at this
  simp at this
def Bp (rec:Nat→Rec) (env:Env):List Nat→Env
 |[]=>env
 |i::L=>AX (rec i).d (rec i).r (Bp rec env L)
def hpL (rec:Nat→Rec) (hp:Hp):List Nat→Hp
 |[]=>hp
 |i::L=>(rec i).ws++hpL rec hp L
theorem HI {d:Option Nat} {x:AV} {env:Env} {t:Nat}:lk (AX d x env) t=if d=some t then x else lk env t:=by
 cases d with
 |none=>simp[AX]
 |some d=>simp[AX,lk]
theorem Pm {ws h:Hp} {l:Loc} (hn:Cw l ws=false):hl (ws++h) l=hl h l:=by
 induction ws with
 |nil=>rfl
 |cons w ws ih=>
  obtain⟨k,x⟩:=w
  simp only[Cw,List.any_cons,Bool.or_eq_false_iff,decide_eq_false_iff_not] at hn
  simp only[List.cons_append,hl,if_neg hn.1]
  exact ih hn.2
theorem No {ws h h':Hp} {l:Loc} (e:hl h l=hl h' l):hl (ws++h) l=hl (ws++h') l:=by
 induction ws with
 |nil=>exact e
 |cons w ws ih=>obtain⟨k,x⟩:=w;simp only[List.cons_append,hl,ih]
theorem Dl {rec:Nat→Rec} {env:Env} {t:Nat}:∀(L:List Nat),lk (Bp rec env L) t=lk (Bp rec env (L.filter fun i=>decide ((rec i).d=some t))) t
 |[]=>rfl
 |i::L=>by
  rw[List.filter_cons]
  simp only[Bp,HI]
  by_cases h:(rec i).d=some t
  ·simp[h,Bp,HI]
  ·simp only[h,if_neg,not_false_eq_true,decide_false,yF,if_false]
   exact Dl L
theorem C9 {rec:Nat→Rec} {hp:Hp} {l:Loc}:∀(L:List Nat),hl (hpL rec hp L) l=hl (hpL rec hp (L.filter fun i=>Cw l (rec i).ws)) l
 |[]=>rfl
 |i::L=>by
  rw[List.filter_cons]
  simp only[hpL]
  cases h:Cw l (rec i).ws with
  |true=>simp only[if_true,hpL];exact No (C9 L)
  |false=>simp only[yF,if_false];rw[Pm h];exact C9 L
theorem IG:∀{L M:List Nat},L.Pairwise (·>·)→M.Pairwise (·>·)→(∀i,i∈L↔i∈M)→L=M
 |[],[],_,_,_=>rfl
 |[],m::M,_,_,h=>by have:=(h m).2 (by simp);simp at this
 |l::L,[],_,_,h=>by have:=(h l).1 (by simp);simp at this
 |l::L,m::M,h1,h2,h=>by
  rw[List.pairwise_cons] at h1 h2
  have e:l=m:=by
   rcases List.mem_cons.1 ((h l).1 (by simp)) with e|e
   ·exact e
   ·rcases List.mem_cons.1 ((h m).2 (by simp)) with e'|e'
    ·exact e'.symm
    ·have:=h2.1 l e;have:=h1.1 m e';omega
  subst e
  rw[IG h1.2 h2.2 fun i=> ?_]
  constructor
  ·intro hi
   rcases List.mem_cons.1 ((h i).1 (List.mem_cons_of_mem _ hi)) with e|e
   ·have:=h1.1 i hi;omega
   ·exact e
  ·intro hi
   rcases List.mem_cons.1 ((h i).2 (List.mem_cons_of_mem _ hi)) with e|e
   ·have:=h2.1 i hi;omega
   ·exact e
def Bd:Nat→List Nat
 |0=>[]
 |n+1=>n::Bd n
theorem BE:∀{n i:Nat},i∈Bd n↔i<n
 |0,i=>by simp[Bd]
 |n+1,i=>by simp only[Bd,List.mem_cons,BE];omega
theorem GX:∀n,(Bd n).Pairwise (·>·)
 |0=> .nil
 |n+1=>List.pairwise_cons.2 ⟨fun i hi=>BE.1 hi,GX n⟩
theorem EU {p:Nat→Bool} {L:List Nat} {j:Nat} (hL:(L.filter p).Pairwise (·>·)) (hm:∀i,p i=true→(i∈L↔i<j)):L.filter p=(Bd j).filter p:=
 IG hL ((GX j).filter p) fun i=>by
  simp only[List.mem_filter,BE]
  exact⟨fun h=>⟨(hm i h.2).1 h.1,h.2⟩,fun h=>⟨(hm i h.2).2 h.1,h.2⟩⟩
def Ds (X:Nat→Env→Hp→AOp→Option (Prop×AV×Hp)):Nat→List AOp→Env→Hp→Option (Prop×Env×Hp×List Rec)
 |_,[],env,hp=>some (True,env,hp,[])
 |k,o::r,env,hp=>
  match X k env hp o with
  |none=>none
  |some (vc,x,ws)=>
   match Ds X (k+1) r (AX o.d x env) (ws++hp) with
   |none=>none
   |some (vcs,e,h,rs)=>some (vc∧vcs,e,h,⟨o.d,x,ws,bif ht o.k then rdO env hp o else[]⟩::rs)
theorem Jy {S:Tab} {ver:Nat}:∀(l:List AOp) (k:Nat) (e:Env) (h:Hp),FC S ver k l e h=Ds (fun i e h o=>Dw S (i,ver) e h o) k l e h
 |[],_,_,_=>rfl
 |o::l,k,e,h=>by simp only[FC,Ds,Jy l]
theorem Em {X:Nat→Env→Hp→AOp→Option (Prop×AV×Hp)} {bs:Nat} {rec:Nat→Rec} {env0:Env} {hp0:Hp} {all:List AOp}:∀(l:List AOp) (k:Nat) (rs:List Rec) (vc:Prop) (e:Env) (h:Hp),
  (∀i,l[i]? =all[k+i]?)→Ds X (bs+k) l (Bp rec env0 (Bd k)) (hpL rec hp0 (Bd k))=some (vc,e,h,rs)→vc→(∀i,i<l.length→rs[i]? =some (rec (k+i)))→
  e=Bp rec env0 (Bd (k+l.length))∧h=hpL rec hp0 (Bd (k+l.length))∧
  ∀i o,l[i]? =some o→∃vc:Prop,vc∧X (bs+(k+i)) (Bp rec env0 (Bd (k+i))) (hpL rec hp0 (Bd (k+i))) o=some (vc,(rec (k+i)).r,(rec (k+i)).ws)∧(rec (k+i)).d=o.d∧(rec (k+i)).rd=rdO (Bp rec env0 (Bd (k+i))) (hpL rec hp0 (Bd (k+i))) o
 |[],k,rs,vc,e,h,_,hex,_,_=>by
  simp only[Ds,yE,Prod.mk.injEq] at hex
  obtain⟨_,rfl,rfl,rfl⟩:=hex
  simp
 |o::l,k,rs,vc,e,h,hl',hex,hvc,hrs=>by
  simp only[Ds] at hex
  split at hex
  ·simp at hex
  rename_i v1 r1 ws1 hex1
  split at hex
  ·simp at hex
  rename_i v2 e2 h2 rs2 hex2
  simp only[yE,Prod.mk.injEq] at hex
  obtain⟨rfl,rfl,rfl,rfl⟩:=hex
  have h0:=hrs 0 (by simp)
  simp only[List.getElem?_cons_zero,yE,Nat.add_zero] at h0
  have hd:(rec k).d=o.d:=by rw[←h0]
  have hr:(rec k).r=r1:=by rw[←h0]
  have hw':(rec k).ws=ws1:=by rw[←h0]
  have hrd:(rec k).rd=rdO (Bp rec env0 (Bd k)) (hpL rec hp0 (Bd k)) o:=by
   rw[←h0]
   cases hk:ht o.k with
   |true=>rfl
   |false=>simp only[cond_false];exact(GA hk).symm
  have ih:=Em (all:=all) (rec:=rec) (env0:=env0) (hp0:=hp0) l (k+1) rs2 v2 e2 h2 (fun i=>by have:=hl' (i+1);simpa [Nat.add_assoc,Nat.add_comm 1 i] using this)
   (by simp only[Bd,Bp,hpL,hd,hr,hw'];exact hex2) hvc.2 (fun i hi=>by
    have:=hrs (i+1) (by simp;omega)
    simpa [Nat.add_assoc,Nat.add_comm 1 i] using this)
  obtain⟨i1,i2,i3⟩:=ih
  refine⟨by rw[i1];simp[Nat.add_assoc,Nat.add_comm 1],by rw[i2];simp[Nat.add_assoc,Nat.add_comm 1],fun i p hp=> ?_⟩
  cases i with
  |zero=>
   simp at hp;subst hp
   exact⟨v1,hvc.1,by rw[Nat.add_zero,hr,hw'];exact hex1,hd,hrd⟩
  |succ i=>
   have:=i3 i p (by simpa using hp)
   rw[show k+(i+1)=k+1+i by omega]
   exact this
structure Good (P:Program) (X:Nat→Env→Hp→Option (Prop×AV×Hp)) (nt n:Nat) (ops:Array Oper) (B:List Nat) (rec:Nat→Rec) (env0:Env) (hp0:Hp) (ao:Nat→AOp):Prop where
 cg:∀i env env' hp hp',(∀t∈Ew (ao i),lk env t=lk env' t)→Ag hp hp' (rdO env hp (ao i))→X i env hp=X i env' hp'
 sz:n≤ops.size
 bef:∀i o,ops[i]? =some o→(∀e∈A6 o,e<i)∧B.getD i 0=CI B (A6 o)
 op:∀i o,ops[i]? =some o→cOp P nt ops o=some (ao i)
 run:∀i,i<n→∃vc:Prop,vc∧X i (Bp rec env0 (Bd i)) (hpL rec hp0 (Bd i))=some (vc,(rec i).r,(rec i).ws)∧(rec i).d=(ao i).d∧(rec i).rd=rdO (Bp rec env0 (Bd i)) (hpL rec hp0 (Bd i)) (ao i)
 tmp:∀k j,k<j→j<n→(B.getD j 0).testBit k=true∨C8 (ao k) (ao j)=true
 mem:∀k j,k<j→j<n→(B.getD j 0).testBit k=true∨Ig (rec k) (rec j)=true∨((rec k).ws=[]∧(rec j).ws=[])∨((rec j).ws=[]∧(rec j).rd=[])∨((rec k).ws=[]∧(rec k).rd=[])
structure Done (n:Nat) (B:List Nat) (L:List Nat):Prop where
 lt:∀i∈L,i<n
 cl:∀j∈L,∀k,(B.getD j 0).testBit k=true→k∈L
 pw:L.Pairwise fun a b=>a≠b∧¬(B.getD b 0).testBit a=true
section
variable {P:Program} {X:Nat→Env→Hp→Option (Prop×AV×Hp)} {nt n:Nat} {ops:Array Oper} {B:List Nat} {rec:Nat→Rec} {env0:Env} {hp0:Hp} {ao:Nat→AOp} {L:List Nat}
theorem Good.bit (G:Good P X nt n ops B rec env0 hp0 ao) {i k:Nat} {o:Oper} (ho:ops[i]? =some o):(B.getD i 0).testBit k=true↔∃e∈A6 o,k=e∨(B.getD e 0).testBit k=true:=by
 rw[(G.bef i o ho).2,CI,EA]
 simp
theorem Good.all (G:Good P X nt n ops B rec env0 hp0 ao) {L:List Nat} (hD:Done n B L) {j:Nat} {o:Oper} (ho:ops[j]? =some o) (he:∀e∈A6 o,e∈L):∀k,(B.getD j 0).testBit k=true→k∈L:=by
 intro k hk
 obtain⟨e,h1,h2⟩:=(G.bit ho).1 hk
 rcases h2 with rfl|h2
 ·exact he _ h1
 ·exact hD.cl e (he e h1) k h2
theorem Done.cons (hD:Done n B L) {j:Nat} (hj:j<n) (hn:j∉L) (ha:∀k,(B.getD j 0).testBit k=true→k∈L):Done n B (j::L) where
 lt i hi:=by rcases List.mem_cons.1 hi with rfl|h;exact hj;exact hD.lt i h
 cl i hi k hk:=by
  rcases List.mem_cons.1 hi with rfl|h
  ·exact List.mem_cons_of_mem _ (ha k hk)
  ·exact List.mem_cons_of_mem _ (hD.cl i h k hk)
 pw:=List.pairwise_cons.2 ⟨fun b hb=>⟨fun e=>hn (e▸hb),fun h=>hn (hD.cl b hb j h)⟩,hD.pw⟩
theorem Done.sorted (hD:Done n B L) {p:Nat→Bool} (hp:∀k j,k<j→j<n→p k=true→p j=true→(B.getD j 0).testBit k=true):(L.filter p).Pairwise (·>·):=by
 rw[List.pairwise_filter]
 refine hD.pw.imp_of_mem ?_
 intro a b ha hb ⟨h1,h2⟩ pa pb
 rcases Nat.lt_trichotomy a b with h|h|h
 ·exact absurd (hp a b h (hD.lt b hb) pa pb) h2
 ·exact absurd h h1
 ·exact h
theorem Good.env_pairs (G:Good P X nt n ops B rec env0 hp0 ao) (t:Nat):∀k j,k<j→j<n→decide ((rec k).d=some t)=true→decide ((rec j).d=some t)=true→(B.getD j 0).testBit k=true:=by
 intro k j hk hj h1 h2
 simp only[decide_eq_true_eq] at h1 h2
 obtain⟨_,_,_,d1,_⟩:=G.run k (by omega)
 obtain⟨_,_,_,d2,_⟩:=G.run j hj
 rcases G.tmp k j hk hj with h|h
 ·exact h
 ·exact absurd (d2▸h2) ((FE h).1 t (d1▸h1)).2
theorem Good.hp_pairs (G:Good P X nt n ops B rec env0 hp0 ao) (l:Loc):∀k j,k<j→j<n→Cw l (rec k).ws=true→Cw l (rec j).ws=true→(B.getD j 0).testBit k=true:=by
 intro k j hk hj h1 h2
 rcases G.mem k j hk hj with h|h|h|h|h
 ·exact h
 ·rw[((F9 h l).1 h1).2] at h2;simp at h2
 ·rw[h.1] at h1;simp[Cw] at h1
 ·rw[h.1] at h2;simp[Cw] at h2
 ·rw[h.1] at h1;simp[Cw] at h1
theorem Good.same (G:Good P X nt n ops B rec env0 hp0 ao) {L:List Nat} (hD:Done n B L) {j:Nat} (hj:j<n) (hn:j∉L) (ha:∀k,(B.getD j 0).testBit k=true→k∈L):
  X j (Bp rec env0 L) (hpL rec hp0 L)=X j (Bp rec env0 (Bd j)) (hpL rec hp0 (Bd j)):=by
 symm
 refine G.cg j _ _ _ _ (fun t ht=> ?_) fun t ht l hl'=> ?_
 ·rw[Dl L,Dl (Bd j)]
  rw[EU (j:=j) (hD.sorted (G.env_pairs t)) fun i hi=> ?_]
  simp only[decide_eq_true_eq] at hi
  constructor
  ·intro hL
   rcases Nat.lt_trichotomy i j with h|h|h
   ·exact h
   ·subst h;exact absurd hL hn
   ·rcases G.tmp j i h (hD.lt i hL) with g|g
    ·exact absurd (hD.cl i hL j g) hn
    ·obtain⟨_,_,_,d1,_⟩:=G.run i (hD.lt i hL)
     exact absurd ht ((FE g).2 t (d1▸hi))
  ·intro h
   rcases G.tmp i j h hj with g|g
   ·exact ha i g
   ·obtain⟨_,_,_,d1,_⟩:=G.run i (by omega)
    exact absurd ht ((FE g).1 t (d1▸hi)).1
 ·obtain⟨_,_,_,_,hrd⟩:=G.run j hj
  rw[←hrd] at ht
  rw[C9 L,C9 (Bd j)]
  rw[EU (j:=j) (hD.sorted (G.hp_pairs l)) fun i hi=> ?_]
  constructor
  ·intro hL
   rcases Nat.lt_trichotomy i j with h|h|h
   ·exact h
   ·subst h;exact absurd hL hn
   ·rcases G.mem j i h (hD.lt i hL) with g|g|g|g|g
    ·exact absurd (hD.cl i hL j g) hn
    ·exact absurd hl' ((F9 g l).2 hi t ht)
    ·rw[g.2] at hi;simp[Cw] at hi
    ·rw[g.1] at hi;simp[Cw] at hi
    ·rw[g.2] at ht;simp at ht
  ·intro h
   rcases G.mem i j h hj with g|g|g|g|g
   ·exact ha i g
   ·exact absurd hl' (((F9 g l).1 hi).1 t ht)
   ·rw[g.1] at hi;simp[Cw] at hi
   ·rw[g.2] at ht;simp at ht
   ·rw[g.1] at hi;simp[Cw] at hi
theorem Good.fin (G:Good P X nt n ops B rec env0 hp0 ao) {L:List Nat} (hD:Done n B L) (hall:∀i,i<n→i∈L):
  (∀t,lk (Bp rec env0 L) t=lk (Bp rec env0 (Bd n)) t)∧∀l,hl (hpL rec hp0 L) l=hl (hpL rec hp0 (Bd n)) l:=by
 refine⟨fun t=> ?_,fun l=> ?_⟩
 ·rw[Dl L,Dl (Bd n)]
  rw[EU (j:=n) (hD.sorted (G.env_pairs t)) fun i _=>⟨hD.lt i,hall i⟩]
 ·rw[C9 L,C9 (Bd n)]
  rw[EU (j:=n) (hD.sorted (G.hp_pairs l)) fun i _=>⟨hD.lt i,hall i⟩]
theorem G9 {nt t:Nat}:∀(L:List Nat),(∀i∈L,∀d,(rec i).d=some d→d<nt)→nt≤t→lk (Bp rec env0 L) t=lk env0 t
 |[],_,_=>rfl
 |i::L,h,ht=>by
  simp only[Bp]
  rw[Cu (h i (by simp)) ht]
  exact G9 L (fun j hj=>h j (by simp[hj])) ht
theorem Good.far (G:Good P X nt n ops B rec env0 hp0 ao) (i:Nat) (hi:i<n):∀d,(rec i).d=some d→d<nt:=by
 obtain⟨_,_,_,d1,_⟩:=G.run i hi
 rw[d1]
 have hs:i<ops.size:=Nat.lt_of_lt_of_le hi G.sz
 exact B3 (G.op i ops[i] (Array.getElem?_eq_getElem hs))
def left (L:List Nat):Nat→Nat
 |0=>0
 |n+1=>left L n+if n∈L then 0 else 1
theorem Ga {L:List Nat}:∀{n:Nat},left L n=0→∀i,i<n→i∈L
 |0,_,i,h=>by omega
 |n+1,h,i,hi=>by
  simp only[left] at h
  by_cases hn:n∈L
  ·rcases Nat.lt_or_ge i n with h'|h'
   ·exact Ga (by omega) i h'
   ·rw[show i=n by omega];exact hn
  ·rw[if_neg hn] at h;omega
theorem Gb {L:List Nat} {j:Nat}:∀{n:Nat},n≤j→left (j::L) n=left L n
 |0,_=>rfl
 |n+1,h=>by
  have:n≠j:=by omega
  have ih:left (j::L) n=left L n:=Gb (by omega)
  simp only[left,ih,List.mem_cons,this,false_or]
theorem Gc {L:List Nat} {j:Nat} (hn:j∉L):∀{n:Nat},j<n→left (j::L) n+1=left L n
 |0,h=>by omega
 |n+1,h=>by
  simp only[left]
  by_cases e:n=j
  ·subst e
   rw[Gb (Nat.le_refl _),if_pos (by simp),if_neg hn]
  ·have:=Gc hn (n:=n) (by omega)
   have e2:(n∈j::L)↔n∈L:=by simp[e]
   simp only[e2]
   omega
theorem FH:∀n,left [] n=n
 |0=>rfl
 |n+1=>by simp[left,FH n]
theorem Lc (L:List Nat):∀n,(∀i,i<n→i∈L)∨∃j,j<n∧j∉L∧∀i,i<j→i∈L
 |0=> .inl fun i h=>by omega
 |n+1=>by
  rcases Lc L n with h|⟨j,h1,h2⟩
  ·by_cases hn:n∈L
   ·left
    intro i hi
    rcases Nat.lt_or_ge i n with h'|h'
    ·exact h i h'
    ·rw[show i=n by omega];exact hn
   ·exact .inr ⟨n,by omega,hn,h⟩
  ·exact .inr ⟨j,by omega,h2⟩
theorem Cy {listed:Array Bool} {L:List Nat} (hsz:listed.size=ops.size) (hli:∀i,i<ops.size→(listed.getD i true=true↔i∈L)∧(listed.getD i false=true↔i∈L)) (hb:∀i o,ops[i]? =some o→∀e∈A6 o,e<i) (i:Nat):
  i∈Region.ready .any ops listed↔i<ops.size∧i∉L∧∃o,ops[i]? =some o∧∀e∈A6 o,e∈L:=by
 unfold Region.ready
 rw[List.mem_filter,List.mem_range]
 constructor
 ·rintro⟨h1,h2⟩
  have ho:ops[i]? =some ops[i]:=Array.getElem?_eq_getElem h1
  rw[ho] at h2
  simp only[Option.map_some,Option.getD_some,Bool.and_eq_true,Bool.not_eq_true',Array.all_eq_true'] at h2
  refine⟨h1,fun h=> ?_,ops[i],ho,fun e he=> ?_⟩
  ·rw[((hli i h1).1).2 h] at h2;simp at h2
  ·have hlt:=hb i _ ho e he
   simp only[A6,List.mem_map,List.mem_filter] at he
   obtain⟨x,⟨hx,hbx⟩,rfl⟩:=he
   have:=h2.2 x (by simpa using hx)
   rw[hbx] at this
   simp only[Bool.not_true,Bool.false_or] at this
   exact((hli x.on (by omega)).2).1 this
 ·rintro⟨h1,h2,o,ho,h3⟩
  refine⟨h1, ?_⟩
  rw[ho]
  simp only[Option.map_some,Option.getD_some,Bool.and_eq_true,Bool.not_eq_true',Array.all_eq_true']
  refine⟨?_,fun x hx=> ?_⟩
  ·cases hc:listed.getD i true with
   |false=>rfl
   |true=>exact absurd (((hli i h1).1).1 hc) h2
  ·cases hbx:Region.binds .any x with
   |false=>simp
   |true=>
    have hm:x.on∈A6 o:=by
     simp only[A6,List.mem_map,List.mem_filter]
     exact⟨x,⟨by simpa using hx,hbx⟩,rfl⟩
    have:=hb i o ho _ hm
    simp only[Bool.not_true,Bool.false_or]
    exact((hli x.on (by omega)).2).2 (h3 _ hm)
variable {Γ:Ctx} {cnt bs:Nat} {Q:AE→St→Prop}
theorem Inv.congr {σ:Cf} {env env':Env} {hp hp':Hp} {a:Act} {nt:Nat} {hb:HB} (h:Inv σ env hp a nt hb) (he:∀t,lk env t=lk env' t) (hh:∀l,hl hp l=hl hp' l):Inv σ env' hp' a nt hb where
 h:=
  {ln:=fun n=>by rw[h.h.ln n];simp only[lenOf,hh]
   cel:=fun n j c hc=>h.h.cel n j c (by rw[hh];exact hc)
   arr:=fun n sz live rows d hc=>h.h.arr n sz live rows d (by rw[hh];exact hc)
   inj:=fun p q b hp hq=>h.h.inj p q b (by simpa only[Owns,hh] using hp) (by simpa only[Owns,hh] using hq)
   lt:=h.h.lt
   ou:=h.h.ou
   dis:=h.h.dis}
 t:=fun t=>by rw[←he];exact h.t t
 sz:=h.sz
 df:=(by rw[←he (dk nt)];exact h.df)
theorem Ky (stop:Nat→Prop) (G:Good Γ.P X Γ.nt n ops B rec env0 hp0 ao) (hz:ops.size=n) (hQ:(∀i,i<n→¬stop i)→Q .n ⟨Bp rec env0 (Bd n),hpL rec hp0 (Bd n),cnt+1⟩) {σ0:Cf} (hG:Γ.G env0 σ0)
  (hop:∀(i:Nat) (o:Oper) (L:List Nat) (σ:Cf) (a:Act) (K:Act→World→Prop),i<n→i∉L→(∀j∈L,¬stop j)→Done n B L→(∀k,(B.getD i 0).testBit k=true→k∈L)→ops[i]? =some o→Evo σ0 σ→Inv σ (Bp rec env0 L) (hpL rec hp0 L) a Γ.nt Γ.hb→
   (∀m,σ.al m→m.2≤cnt∨∃i∈L,m=(bs+i,cnt+1))→(¬stop i→∀a' σ',Evo σ σ'→Inv σ' (AX (ao i).d (rec i).r (Bp rec env0 L)) ((rec i).ws++hpL rec hp0 L) a' Γ.nt Γ.hb→(∀m,σ'.al m→σ.al m∨m=(bs+i,cnt+1))→K a' σ'.w)→
   wpOpIn Γ.F 0 Γ.P ops (lift Γ σ0 Q) i K a σ.w):∀(fuel:Nat) (L:List Nat) (listed:Array Bool) (σ:Cf) (a:Act),
  (∀j∈L,¬stop j)→Done n B L→listed.size=ops.size→(∀i,i<ops.size→(listed.getD i true=true↔i∈L)∧(listed.getD i false=true↔i∈L))→left L n=fuel→Evo σ0 σ→Inv σ (Bp rec env0 L) (hpL rec hp0 L) a Γ.nt Γ.hb→
  (∀m,σ.al m→m.2≤cnt∨∃i∈L,m=(bs+i,cnt+1))→wpAnyIn Γ.F 0 Γ.P .any ops (lift Γ σ0 Q) fuel listed a σ.w:=by
 intro fuel
 have fin:∀(L:List Nat) (listed:Array Bool) (σ:Cf) (a:Act),(∀j∈L,¬stop j)→Done n B L→listed.size=ops.size→(∀i,i<ops.size→(listed.getD i true=true↔i∈L)∧(listed.getD i false=true↔i∈L))→Evo σ0 σ→Inv σ (Bp rec env0 L) (hpL rec hp0 L) a Γ.nt Γ.hb→
   (∀m,σ.al m→m.2≤cnt∨∃i∈L,m=(bs+i,cnt+1))→(∀i,i<n→i∈L)→lift Γ σ0 Q .normal a σ.w:=by
  intro L listed σ a hst hD h1 h2 he hI hal hall
  obtain⟨e1,e2⟩:=G.fin hD hall
  refine⟨σ,_,.n,rfl,Γ.ofE he,⟨hI.congr e1 e2,fun m hm=> ?_,Γ.g hG he fun t ht=> .inr (G9 (Bd n) (fun i hi=>G.far i (BE.1 hi)) ht)⟩,rfl,hQ fun i hi=>hst i (hall i hi)⟩
  rcases hal m hm with h|⟨i,_,rfl⟩
  ·exact Nat.le_succ_of_le h
  ·exact Nat.le_refl _
 have none:∀(L:List Nat) (listed:Array Bool),listed.size=ops.size→(∀i,i<ops.size→(listed.getD i true=true↔i∈L)∧(listed.getD i false=true↔i∈L))→Region.ready .any ops listed=[]→∀i,i<n→i∈L:=by
  intro L listed h1 h2 hr
  rcases Lc L n with h|⟨j,h3,h4,h5⟩
  ·exact h
  ·exfalso
   have hj:j<ops.size:=by rw[hz];exact h3
   have ho:ops[j]? =some ops[j]:=Array.getElem?_eq_getElem hj
   have:j∈Region.ready .any ops listed:=(Cy h1 h2 (fun i o ho=>(G.bef i o ho).1) j).2 ⟨hj,h4,_,ho,fun e he=>h5 e ((G.bef j _ ho).1 e he)⟩
   rw[hr] at this
   simp at this
 induction fuel with
 |zero=>
  intro L listed σ a hst hD h1 h2 hf he hI hal
  have hall:=Ga hf
  refine⟨?_,fin L listed σ a hst hD h1 h2 he hI hal hall⟩
  cases hr:Region.ready .any ops listed with
  |nil=>rfl
  |cons x xs=>
   exfalso
   have hx:x∈Region.ready .any ops listed:=by rw[hr];simp
   obtain⟨g1,g2,_⟩:=(Cy h1 h2 (fun i o ho=>(G.bef i o ho).1) x).1 hx
   exact g2 (hall x (by rw[←hz];exact g1))
 |succ fuel ih=>
  intro L listed σ a hst hD h1 h2 hf he hI hal
  refine⟨fun hr=>fin L listed σ a hst hD h1 h2 he hI hal (none L listed h1 h2 hr),fun i hi=> ?_⟩
  obtain⟨g1,g2,o,ho,g3⟩:=(Cy h1 h2 (fun i o ho=>(G.bef i o ho).1) i).1 hi
  have hin:i<n:=by rw[←hz];exact g1
  have ha:=G.all hD ho g3
  obtain⟨_,_,_,hd,_⟩:=G.run i hin
  refine hop i o L σ a _ hin g2 hst hD ha ho he hI hal fun hs a' σ' e' hI' hal'=> ?_
  refine ih (i::L) _ σ' a' (fun j hj=>by rcases List.mem_cons.1 hj with rfl|hj;exact hs;exact hst j hj) (hD.cons hin g2 ha) (by simp[h1]) (fun k hk=> ?_) ?_ (he.trans e') ?_ fun m hm=> ?_
  ·by_cases e:i=k
   ·subst e
    have:i<listed.size:=by omega
    simp[Array.getD,this]
   ·have hk':k<listed.size:=by omega
    have q1:(listed.setIfInBounds i true).getD k true=listed.getD k true:=by simp[Array.getD,hk',Array.getElem_setIfInBounds,e]
    have q2:(listed.setIfInBounds i true).getD k false=listed.getD k false:=by simp[Array.getD,hk',Array.getElem_setIfInBounds,e]
    have q3:k∈i::L↔k∈L:=by
     rw[List.mem_cons]
     exact⟨fun h=>h.resolve_left fun h=>e h.symm,.inr⟩
    rw[q1,q2,q3]
    exact h2 k hk
  ·have:=Gc g2 hin
   omega
  ·simp only[Bp,hpL,hd];exact hI'
  ·rcases hal' m hm with h|rfl
   ·rcases hal m h with h|⟨k,hk,e⟩
    ·exact .inl h
    ·exact .inr ⟨k,List.mem_cons_of_mem _ hk,e⟩
   ·exact .inr ⟨i,by simp,rfl⟩
end
theorem DL {X:Nat→Env→Hp→AOp→Option (Prop×AV×Hp)}:∀{l:List AOp} {k:Nat} {env:Env} {hp:Hp} {vc:Prop} {e:Env} {h:Hp} {rs:List Rec},Ds X k l env hp=some (vc,e,h,rs)→rs.length=l.length
 |[],_,_,_,_,_,_,_,hex=>by simp[Ds] at hex;simp[hex.2.2.2]
 |o::l,k,env,hp,vc,e,h,rs,hex=>by
  simp only[Ds] at hex
  split at hex
  ·simp at hex
  split at hex
  ·simp at hex
  rename_i hex2
  simp only[yE,Prod.mk.injEq] at hex
  obtain⟨_,_,_,rfl⟩:=hex
  simp[DL hex2]
theorem Bm {P:Program} {nt:Nat} {ops:Array Oper}:∀{l:List Oper} {xs:List AOp},BO P nt ops l=some xs→xs.length=l.length∧∀(i:Nat) (o:Oper),l[i]? =some o→∃x,xs[i]? =some x∧cOp P nt ops o=some x
 |[],xs,h=>by simp[BO] at h;subst h;simp
 |p::l,xs,h=>by
  simp only[BO] at h
  split at h
  ·rename_i x ys hx hys
   simp at h;subst h
   obtain⟨h1,h2⟩:=Bm hys
   refine⟨by simp[h1],fun i o ho=> ?_⟩
   cases i with
   |zero=>simp at ho;subst ho;exact⟨x,rfl,hx⟩
   |succ i=>exact h2 i o (by simpa using ho)
  ·simp at h
theorem FI {ops:Array Oper} {l:List AOp} {un:List (Nat×Nat)} (h:HE ops l=some un):∃B,Gy B 0 ops.toList=true∧tOK B l 0 l=true∧un=unl B l 0 l:=by
 unfold HE at h
 rw[IE] at h
 generalize (CheckFast.beforeF ops).toList=B at h
 refine⟨B, ?_⟩
 cases h1:Gy B 0 ops.toList<;>cases h2:tOK B l 0 l<;>simp[h1,h2] at h
 exact⟨rfl,rfl,h.symm⟩
theorem Ld {k:AK} (h:ht k=false):hw k=false:=by cases k<;>simp[ht,hw] at h⊢
theorem At.drawn {Γ:Ctx} {σ:Cf} {s:St} {a:Act} (h:At Γ σ s a) (d:Nat):∃σ',σ'.w={σ.w with drawn:=d}∧Evo σ σ'∧At Γ σ' s a:=by
 obtain⟨⟨h1,h2,h3,h4⟩,h5,h6⟩:=h
 let τ:Cf:={σ with w:={σ.w with drawn:=d}}
 have e:Evo σ τ:=⟨fun _ h=>⟨h,rfl⟩,fun _ _ l h=>⟨l,h,Nat.le_refl _,fun _=>rfl⟩,fun _ _ h h'=>⟨h,h'⟩,rfl,Nat.le_refl _,⟨rfl,rfl⟩⟩
 refine⟨τ,rfl,e,⟨⟨h1.ln,fun n j c hc=> ?_,fun n sz live rows d hc=> ?_,h1.inj,h1.lt,h1.ou,h1.dis⟩, ?_,h3,h4.mono e⟩,h5,Γ.g h6 e fun _ _=> .inr rfl⟩
 ·have kk:=h1.cel n j c hc
  exact kk.keep e kk.2.1 rfl
 ·exact(h1.arr n sz live rows d hc).keep e rfl fun _ _ _ _ _ _ hM=>⟨hM,rfl⟩
 ·exact fun t=>(h2 t).mono e
variable {Γ:Ctx}
theorem Kz (hΓ:Γ.OK) {rid:Nat} {ops:List AOp} {un:List (Nat×Nat)} {Q:AE→St→Prop} {s:St} {vc:Prop} {env:Env} {hp:Hp} {recs:List Rec} (hex:FC Γ.S (s.cnt+1) (100*rid) ops s.env s.hp=some (vc,env,hp,recs)) (hvc:vc) (hun:FD recs un=true)
  (hQ:Q .n ⟨env,hp,s.cnt+1⟩):awp Γ (.drw rid ops un) Q s:=by
 intro code hc σ a hA
 cases code with
 |region id ops' d=>
  simp only[cCode] at hc
  obtain⟨l,hx,⟨_,e⟩|⟨rfl,hf,un',hu,e⟩⟩:=AW hc
  ·cases e
  ·cases e
   refine wpIn_region_any hf ?_
   obtain⟨B,b1,b2,rfl⟩:=FI hu
   obtain⟨c1,c2⟩:=Bm hx
   have hlen:ops.length=ops'.size:=by simpa using c1
   rw[Jy] at hex
   have hrl:=DL hex
   have hop:∀i o,ops'[i]? =some o→∃x,ops[i]? =some x∧cOp Γ.P Γ.nt ops' o=some x:=fun i o ho=>c2 i o (by simpa using ho)
   have hao:∀i x,ops[i]? =some x→ops.getD i default=x:=fun i x h=>by simp[List.getD_eq_getElem?_getD,h]
   have hsp:=Em (rec:=fun i=>recs.getD i default) (env0:=s.env) (hp0:=s.hp) (all:=ops) (bs:=100*rid) ops 0 recs vc env hp (fun i=>by simp) hex hvc (fun i hi=>by
    have:i<recs.length:=by omega
    simp[List.getD_eq_getElem?_getD,this])
   simp only[Nat.zero_add] at hsp
   obtain⟨e1,e2,run⟩:=hsp
   have get:∀i,i<ops.length→ops[i]? =some (ops.getD i default):=fun i hi=>by simp[List.getD_eq_getElem?_getD,hi]
   have hws:∀i,i<ops.length→hw (ops.getD i default).k=false→(recs.getD i default).ws=[]:=fun i hi h=>by
    obtain⟨_,_,g,_⟩:=run i _ (get i hi)
    exact G8 h g
   have hrd:∀i,i<ops.length→ht (ops.getD i default).k=false→(recs.getD i default).rd=[]:=fun i hi h=>by
    obtain⟨_,_,_,_,g⟩:=run i _ (get i hi)
    rw[g];exact GA h
   have G:Good Γ.P (fun i e h=>Dw Γ.S (100*rid+i,s.cnt+1) e h (ops.getD i default)) Γ.nt ops.length ops' B (fun i=>recs.getD i default) s.env s.hp fun i=>ops.getD i default:=
    {cg:=fun i e e' h h' ht hh=>FB ht hh
     sz:=Nat.le_of_eq hlen
     bef:=fun i o ho=>by
      have:=Ej b1 i o (by simpa using ho)
      simpa using this
     op:=fun i o ho=>by
      obtain⟨x,h1,h2⟩:=hop i o ho
      simp only[hao i x h1];exact h2
     run:=fun i hi=>run i _ (get i hi)
     tmp:=fun k j hk hj=>by
      have h1:=FF b2 j _ (get j hj)
      rw[Nat.zero_add] at h1
      have h2:=Ek h1 k (ops.getD k default) (by rw[List.getElem?_take,if_pos hk];exact get k (by omega))
      rwa [Nat.zero_add] at h2
     mem:=fun k j hk hj=>by
      have h2:=El (B:=B.getD j 0) (j:=j) (o:=ops.getD j default) (l:=ops.take j) (k:=0) k (ops.getD k default) (by rw[List.getElem?_take,if_pos hk];exact get k (by omega))
      rw[Nat.zero_add] at h2
      rcases h2 with h|h|h
      ·exact .inl h
      ·right;right
       simp only[Bool.or_eq_false_iff,Bool.and_eq_false_iff] at h
       have hk':k<ops.length:=by omega
       rcases h.1 with g1|g1
       ·rcases h.2 with g2|g2
        ·exact .inr (.inr ⟨hws k hk' g1,hrd k hk' g2⟩)
        ·exact .inl ⟨hws k hk' g1,hws j hj g2⟩
       ·exact .inr (.inl ⟨hws j hj (Ld g1),hrd j hj g1⟩)
      ·exact .inr (.inl (F8 hun k j (FG (all:=ops) (j:=0) j _ (get j hj) _ (by rw[Nat.zero_add];exact h))))}
   obtain⟨σ',w1,w2,w3⟩:=hA.drawn (σ.w.drawn+1)
   rw[←w1]
   refine Ky (bs:=100*rid) (fun _=>False) G hlen.symm (fun _=>by rw[←e1,←e2];exact hQ) hA.2.2 (fun i o L σ1 a1 K hin g2 _ hD ha ho _ hI hal hK=> ?_) ops'.size [] _ σ' a (by simp) ⟨by simp,by simp,.nil⟩ (by simp) (fun i hi=> ?_) (by rw[FH,hlen]) w2 w3.1 fun m hm=> .inl (w3.2.1 m hm)
   ·obtain⟨vc,hvc,hex,hd,_⟩:=G.run i hin
    rw[←G.same hD hin g2 ha] at hex
    refine DI hΓ.S hΓ.F ho (G.op i o ho) hI (fun h=> ?_) hex hvc (hK not_false)
    rcases hal _ h with h|⟨k,hk,e⟩
    ·exact absurd h (Nat.not_succ_le_self s.cnt)
    ·simp only[Prod.mk.injEq,Nat.add_left_cancel_iff,and_true] at e
     exact g2 (e▸hk)
   ·simp[Array.getD,hi]
 |seq x y=>simp only[cCode] at hc;split at hc<;>simp at hc
 |cond c x y=>simp only[cCode] at hc;split at hc<;>simp at hc
 |rangeFunc f ps x y=>simp only[cCode] at hc;split at hc<;>simp at hc
 |_=>simp[cCode] at hc
theorem AO (hΓ:Γ.OK) {rid:Nat} {ops:List AOp} {un:List (Nat×Nat)} {Q:AE→St→Prop} {e e':Env} {h h':Hp} {c:Nat} {vc:Prop} {recs:List Rec} (hex:FC Γ.S (c+1) (100*rid) ops e h=some (vc,e',h',recs)) (hun:FD recs un=true) (hvc:vc)
  (hQ:Q .n ⟨e',h',c+1⟩):awp Γ (.drw rid ops un) Q ⟨e,h,c⟩:=Kz hΓ hex hvc hun hQ
theorem Ay (hΓ:Γ.OK) {rid:Nat} {ops:List AOp} {un:List (Nat×Nat)} {b:AC} {Q:AE→St→Prop} {e e':Env} {h h':Hp} {c:Nat} {vc:Prop} {recs:List Rec} (hex:FC Γ.S (c+1) (100*rid) ops e h=some (vc,e',h',recs)) (hun:FD recs un=true) (hvc:vc)
  (hQ:awp Γ b Q ⟨e',h',c+1⟩):awp Γ (.seq (.drw rid ops un) b) Q ⟨e,h,c⟩:=Ad (Kz hΓ hex hvc hun hQ)
end Go.Proofs.YtdabfcbelkjmgaaGreatDoor.Am
