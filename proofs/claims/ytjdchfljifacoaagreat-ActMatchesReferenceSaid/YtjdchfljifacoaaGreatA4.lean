import Derived.Test.YtjdchfljifacoaaGreatA3
set_option linter.all false
namespace Go.Proofs.YtjdchfljifacoaaGreat.Am
open Go
inductive Tch where
 |l (x:Loc)
 |b (n:Nm)
 deriving Inhabited
def bM:Tch->Loc->Prop|.l x,y=>x=y|.b n,y=>∃j,y=.c n j
def Jt(n:Nm):Nat->Nat->List Tch|_,0=>[]|o,k+1=>.l (.c n o)::Jt n (o+1) k
def RC:AV->List Tch|.own m _=>[.l (.a m)]|.mp m=>[.l (.c m 0)]|_=>[]
mutual
def Gu(hp:Hp):AV->List Tch|.own n _=>[.l (.a n)]|.elem n _ _ _ _=>[.l (.a n)]|.box n _=>.b n::(C0 hp n 0 40).flatMap RC|.agg cs=>HE hp cs|.tup cs=>HE hp cs|.clo _ xs ys=>HE hp xs++HE hp ys|_=>[]
def HE(hp:Hp):List AV->List Tch|[]=>[]|c::cs=>Gu hp c++HE hp cs
end
def Zj(sz:Nat):AV->List Tch|.box n o=>Jt n o sz|.elem n _ _ _ _=>[.l (.a n)]|_=>[]
def Zk(hp:Hp)(sz:Nat)(a x:AV):List Tch:=match a with|.box n o=>Jt n o sz|.elem n _ _ _ _=>[.l (.a n)]++(match x.cells with|some cs=>HE hp cs|none=>[])|_=>[]
def V4:AV->List Tch|.mp n=>[.l (.c n 0)]|_=>[]
def Ea(env:Az)(hp:Hp)(g:Bool):AK->List Tch|.ld sz _ x=>Zj sz (AJ g (AI env x))|.st sz a x=>Zk hp sz (AJ g (AI env a)) (AJ g (AI env x))|.ia _ x _=>Gu hp (AJ g (AI env x))|.len x=>Gu hp (AJ g (AI env x))|.b2s x=>Gu hp (AJ g (AI env x))|.app _ _ _ s x=>Gu hp (AJ g (AI env s))++Gu hp (AJ g (AI env x))|.slc _ x _ _ _=>Gu hp (AJ g (AI env x))|.cap _|.appn _ _ _ _ _=>[]|.mkm|.rng _|.nxt _|.mks _ _ _ _ _|.ent _=>[]|.mlk _ _ m _=>V4 (AJ g (AI env m))|.mup m _ x=>V4 (AJ g (AI env m))++Gu hp (AJ g (AI env x))|.bsl _ _ _ ps=>HE hp ((ps.map λ(i,x)=>(i,AJ g (AI env x))).map (·.2))|.call _ as=>HE hp (as.map λx=>AJ g (AI env x))|.cv x as=>Gu hp (AJ g (AI env x))++HE hp (as.map λx=>AJ g (AI env x))|.clr _ _ _|.allocB _|.pan _|.dfr _|.rcv|.pr _ _|.mv _|.pick _ _ _|.box _ _|.alloc _|.build _ _|.fa _ _|.fld _ _ _ _|.iaA _ _ _ _|.idxA _ _ _ _ _=>[]|.bin _ _ _ _|.un _ _|.ext _ _|.mm _ _|.mkf _ _ _|.nilc _|.cnv _ _|.nils _ _|.bad=>[]
def Ag(hp hp':Hp)(L:List Tch):Prop:=∀t∈L,∀l,bM t l->hl hp l=hl hp' l
theorem Ag.left{hp hp':Hp}{L M:List Tch}(h:Ag hp hp' (L++M)):Ag hp hp' L:=λl hl=>h l (by grind)
theorem Ag.right{hp hp':Hp}{L M:List Tch}(h:Ag hp hp' (L++M)):Ag hp hp' M:=λl hl=>h l (by grind)
theorem Ag.head{hp hp':Hp}{l:Loc}{L:List Tch}(h:Ag hp hp' (.l l::L)):hl hp l=hl hp' l:=h (.l l) (by simp) l rfl
theorem Ag.headb{hp hp':Hp}{n:Nm}{L:List Tch}(h:Ag hp hp' (.b n::L))(j:Nat):hl hp (.c n j)=hl hp' (.c n j):=h (.b n) (by simp) _ ⟨j,rfl⟩
theorem Ag.tail{hp hp':Hp}{l:Tch}{L:List Tch}(h:Ag hp hp' (l::L)):Ag hp hp' L:=λm hm=>h m (by simp[hm])
theorem Sq{hp hp':Hp}{n:Nm}:∀{k o:Nat},Ag hp hp' (Jt n o k)->GM hp n o k=GM hp' n o k
 |0,_,_=>rfl
 |k+1,o,h=>by simp only[GM,h.head,Sq h.tail]
theorem Sr{hp hp':Hp}{n:Nm}:∀{cs:List AV}{o:Nat},Ag hp hp' (Jt n o cs.length)->Mn hp n o cs=Mn hp' n o cs
 |[],_,_=>rfl
 |c::cs,o,h=>by simp only[Mn,h.head,Sr h.tail]
theorem Ju{hp hp':Hp}{n:Nm}(h:∀j,hl hp (.c n j)=hl hp' (.c n j)):∀{k o:Nat},C0 hp n o k=C0 hp' n o k
 |0,_=>rfl
 |k+1,o=>by simp only[C0,h o,Ju h]
theorem Zl{hp hp':Hp}{c:AV}(h:Ag hp hp' (RC c)):OM hp c=OM hp' c/\Rs hp c=Rs hp' c:=by
 cases c with
 |own m l=>simp_all[OM,Rs,h.head]
 |_=>exact⟨rfl,rfl⟩
theorem Ra{hp hp':Hp}:∀{cs:List AV},Ag hp hp' (cs.flatMap RC)->cs.map (OM hp)=cs.map (OM hp')/\NH hp cs=NH hp' cs
 |[],_=>⟨rfl,rfl⟩
 |c::cs,h=>by
  obtain⟨h1,h2⟩:=Zl h.left;obtain⟨h3,h4⟩:=Ra h.right
  simp_all[NH]
mutual
theorem PZ{hp hp':Hp}:∀{x:AV},Ag hp hp' (Gu hp x)->res hp x=res hp' x/\Gn hp x=Gn hp' x
 |.own n l,h=>by simp_all[res,Gn,h.head]
 |.box n l,h=>by have e:=Ju h.headb (k:=40) (o:=0);obtain⟨h1,h2⟩:=Ra h.tail;simp only[res,Gn,h1];grind
 |.agg cs,h=>by
  obtain⟨h1,h2⟩:=G0 h
  simp_all[res,Gn]
 |.tup cs,h=>by
  obtain⟨h1,h2⟩:=G0 h
  simp_all[res,Gn]
 |.clo f xs ys,h=>by
  obtain⟨h1,h2⟩:=G0 h.left;obtain⟨h3,h4⟩:=G0 h.right
  simp_all[res,Gn]
 |.v _,_=>⟨rfl,rfl⟩
 |.sl _ _ _ _,_=>⟨rfl,rfl⟩
 |.ro _ _,_=>⟨rfl,rfl⟩
 |.elem _ _ _ _ _,_=>⟨rfl,rfl⟩
 |.gd _ _,_=>⟨rfl,rfl⟩
 |.mp _,_=>⟨rfl,rfl⟩
 |.un,_=>⟨rfl,rfl⟩
theorem G0{hp hp':Hp}:∀{xs:List AV},Ag hp hp' (HE hp xs)->D5 hp xs=D5 hp' xs/\Ej hp xs=Ej hp' xs
 |[],_=>⟨rfl,rfl⟩
 |x::xs,h=>by
  obtain⟨h1,h2⟩:=PZ h.left;obtain⟨h3,h4⟩:=G0 h.right
  simp_all[D5,Ej]
end
theorem Mc{hp hp':Hp}:∀{ns:List Nm},(∀n∈ns,hl hp (.a n)=hl hp' (.a n))->frz hp ns=frz hp' ns
 |[],_=>rfl
 |n::ns,h=>by
  have ih:frz hp ns=frz hp' ns:=Mc λm hm=>by grind
  grind[frz]
mutual
theorem bN{hp:Hp}{n:Nm}:∀{x:AV},n∈Fu x->Tch.l (.a n)∈Gu hp x
 |.own m l,h=>by simp[Fu]at h;subst h;simp[Gu]
 |.agg cs,h=>by exact KS h
 |.tup cs,h=>by exact KS h
 |.clo f xs ys,h=>by simp only[Fu,mU]at h;simp only[Gu,mU];exact h.imp KS KS
 |.box _ _,h=>by simp[Fu]at h
 |.v _,h=>by simp[Fu]at h
 |.sl _ _ _ _,h=>by simp[Fu]at h
 |.ro _ _,h=>by simp[Fu]at h
 |.elem _ _ _ _ _,h=>by simp[Fu]at h
 |.gd _ _,h=>by simp[Fu]at h
 |.mp _,h=>by simp[Fu]at h
 |.un,h=>by simp[Fu]at h
theorem KS{hp:Hp}{n:Nm}:∀{xs:List AV},n∈B5 xs->Tch.l (.a n)∈HE hp xs
 |[],h=>by simp[B5]at h
 |x::xs,h=>by simp only[B5,mU]at h;simp only[HE,mU];exact h.imp bN KS
end
theorem Xu{hp hp':Hp}{sz:Nat}{x:AV}(h:Ag hp hp' (Gu hp x)):ON hp sz x=ON hp' sz x:=by
 cases x with
 |own n l=>grind[ON,h.head]
 |v x=>
  cases x with
  |slice b n c=>cases n<;>rfl
  |_=>rfl
 |_=>rfl
theorem RD{hp:Hp}{n:Nm}:∀{xs:List AV},FK xs=some n->Tch.b n∈HE hp xs
 |[],h=>by simp[FK]at h
 |c::cs,h=>by
  simp only[HE,mU];cases c with
  |box m o=>grind[FK,Gu]
  |_=>exact .inr (RD (by simpa[FK]using h))
theorem N9{hp hp':Hp}{X:AV}(h:Ag hp hp' (V4 X)):K1 hp X=K1 hp' X:=by
 cases X with
 |mp n=>grind[K1,h.head]
 |v x=>
  cases x with
  |map r=>cases r<;>rfl
  |_=>rfl
 |_=>rfl
theorem bO{hp hp':Hp}{c:AV}(h:Ag hp hp' (RC c)):K2 hp c=K2 hp' c:=by
 cases c with
 |mp m=>simp only[K2,N9 (X:=.mp m) h]
 |_=>rfl
theorem Zm{hp hp':Hp}{cs:List AV}(h:Ag hp hp' (cs.flatMap RC)):cs.map (K2 hp)=cs.map (K2 hp'):=List.map_congr_left λc hc=>bO λt ht=>h t (by grind)
theorem jA{hp hp':Hp}{x:AV}(h:Ag hp hp' (Gu hp x)):qv hp x=qv hp' x:=by
 cases x with
 |box n o=>have e:=Ju h.headb (k:=40) (o:=0);grind[qv,Zm,h.tail]
 |_=>rfl
theorem rF{hp:Hp}{xs:List AV}{x:AV}(hx:x∈xs):∀t∈Gu hp x,t∈HE hp xs:=by induction xs<;>grind[HE]
theorem T5{hp hp':Hp}{xs:List AV}(h:Ag hp hp' (HE hp xs)):xs.map (qv hp)=xs.map (qv hp'):=List.map_congr_left λ_ hx=>jA λt ht=>h t (rF hx t ht)
theorem Xv{S:Tab}{hp hp':Hp}{f:Nat}:∀{xs:List AV},Ag hp hp' (HE hp xs)->Qy S hp f xs=Qy S hp' f xs
 |[],_=>rfl
 |x::xs,h=>by
  obtain⟨h1,h2⟩:=G0 h.right;have h3:=Mc λn hn=>h.right _ (KS hn) _ rfl
  cases x with
  |own n l=>have hn:=h.left.head;simp only[Qy,hn,h1,h2,h3]
  |_=>rfl
theorem P0{S:Tab}{hp hp':Hp}{nm:Nm}{f:Nat}{xs:List AV}(h:Ag hp hp' (HE hp xs)):K3 S hp nm f xs=K3 S hp' nm f xs:=by
 obtain⟨h1,h2⟩:=G0 h;have h0:=T5 h;have h3:=Mc λn hn=>h _ (KS hn) _ rfl
 have h4:=λn hn j=>h (.b n) (RD hn) _ ⟨j,rfl⟩
 simp only[K3,h0,h1,h2,h3];cases hb:FK xs with
 |none=>simp only[Xv h]
 |some n=>
  have h5:=h4 n hb;have h6:KD hp n=KD hp' n:=by unfold KD;simp only[h5]
  simp only[Ju h5,h6]
theorem Te{hp:Hp}:∀{xs ys:List AV},HE hp (xs++ys)=HE hp xs++HE hp ys
 |[],ys=>rfl
 |x::xs,ys=>by simp only[sF,HE,Te,qZ]
theorem Ba{env env':Az}{x:Opd}(h:∀t∈CT x,lk env t=lk env' t):AI env x=AI env' x:=by
 cases x with
 |t n=>exact h n (by simp[CT])
 |k x=>rfl
theorem HT{env env':Az}{g:Bool}:∀{xs:List Opd},(∀t∈JJ xs,lk env t=lk env' t)->xs.map (λx=>AJ g (AI env x))=xs.map (λx=>AJ g (AI env' x))
 |[],_=>rfl
 |x::xs,h=>by simp only[JJ,List.flatMap_cons,mU]at h;simp only[eG];rw[Ba λt ht=>h t (.inl ht),HT λt ht=>h t (.inr ht)]
theorem Yg{S:Tab}{env env':Az}{hp:Hp}{nm:Nm}{g:Bool}{k:AK}(h:∀t∈L8 k,lk env t=lk env' t):AO S env hp nm g k=AO S env' hp nm g k/\Ea env hp g k=Ea env' hp g k:=by
 cases k with
 |pr p xs=>simp only[AO,Ea,HT h,and_self]
 |b2s x=>simp only[AO,Ea,Ba h,and_self]
 |mv x=>simp only[AO,Ea,Ba h,and_self]
 |pick c a b=>
  simp only[L8,mU]at h;have h1:=Ba λt ht=>h t (.inl (.inl ht))
  have h2:=Ba λt ht=>h t (.inl (.inr ht))
  have h3:=Ba λt ht=>h t (.inr ht)
  simp_all[AO,Ea]
 |box n x=>simp only[AO,Ea,Ba h,and_self]
 |alloc z=>exact⟨rfl,rfl⟩
 |build z ps=>
  have:ps.map (λ(o,s,x)=>(o,s,AJ g (AI env x)))=ps.map (λ(o,s,x)=>(o,s,AJ g (AI env' x))):=by apply List.map_congr_left;rintro⟨o,s,x⟩ hm;simp only[Ba λt ht=>h t (List.mem_flatMap.2 ⟨_,hm,ht⟩)]
  exact⟨congrArg (MY z) this,rfl⟩
 |bsl sz len z ps=>
  have:ps.map (λ(i,x)=>(i,AJ g (AI env x)))=ps.map (λ(i,x)=>(i,AJ g (AI env' x))):=by apply List.map_congr_left;rintro⟨i,x⟩ hm;simp only[Ba λt ht=>h t (List.mem_flatMap.2 ⟨_,hm,ht⟩)]
  exact⟨congrArg (LV hp nm sz len z) this,by rw[Ea,Ea,this]⟩
 |ld sz ag x=>simp only[AO,Ea,Ba h,and_self]
 |st sz a x=>
  simp only[L8,mU]at h;have h1:=Ba λt ht=>h t (.inl ht)
  have h2:=Ba λt ht=>h t (.inr ht)
  simp only[AO,Ea,h1,h2,and_self]
 |fa o x=>simp only[AO,Ea,Ba h,and_self]
 |fld o s ag x=>simp only[AO,Ea,Ba h,and_self]
 |ia sz x i=>
  simp only[L8,mU]at h;have h1:=Ba λt ht=>h t (.inl ht)
  have h2:=Ba λt ht=>h t (.inr ht)
  simp only[AO,Ea,h1,h2,and_self]
 |iaA n sz x i=>
  simp only[L8,mU]at h;have h1:=Ba λt ht=>h t (.inl ht)
  have h2:=Ba λt ht=>h t (.inr ht)
  simp only[AO,Ea,h1,h2,and_self]
 |idxA n sz ag x i=>
  simp only[L8,mU]at h;have h1:=Ba λt ht=>h t (.inl ht)
  have h2:=Ba λt ht=>h t (.inr ht)
  simp only[AO,Ea,h1,h2,and_self]
 |bin op tk x y=>
  simp only[L8,mU]at h;have h1:=Ba λt ht=>h t (.inl ht)
  have h2:=Ba λt ht=>h t (.inr ht)
  cases tk<;>simp only[AO,Ea,h1,h2,and_self]
 |un op x=>simp only[AO,Ea,Ba h,and_self]
 |ext x i=>simp only[AO,Ea,Ba h,and_self]
 |call f as=>simp only[AO,Ea,HT h,and_self]
 |cv x as=>
  simp only[L8,mU]at h;have h1:=Ba λt ht=>h t (.inl ht)
  have h2:=HT (g:=g) λt ht=>h t (.inr ht)
  simp only[AO,Ea,h1,h2,and_self]
 |len x=>simp only[AO,Ea,Ba h,and_self]
 |app sz by' z s x=>
  simp only[L8,mU]at h;have h1:=Ba λt ht=>h t (.inl ht)
  have h2:=Ba λt ht=>h t (.inr ht)
  simp only[AO,Ea,h1,h2,and_self]
 |mm m xs=>simp only[AO,Ea,HT h,and_self]
 |mkf f a b=>
  simp only[L8,mU]at h;have h1:=HT (g:=g) λt ht=>h t (.inl ht)
  have h2:=HT (g:=g) λt ht=>h t (.inr ht)
  simp only[AO,Ea,h1,h2,and_self]
 |slc sz x l hh m=>
  simp only[L8,mU]at h;have e1:=Ba λt ht=>h t (.inl (.inl (.inl ht)))
  have eo:∀y:Option Opd,(∀t∈JJ y.toList,lk env t=lk env' t)->(y.map λx=>AJ g (AI env x))=(y.map λx=>AJ g (AI env' x)):=by intro y hy;cases y<;>grind[Ba,JJ]
  simp_all[AO,Ea]
 |nilc x=>simp only[AO,Ea,Ba h,and_self]
 |cnv k x=>simp only[AO,Ea,Ba h,and_self]
 |nils n x=>simp only[AO,Ea,Ba h,and_self]
 |cap x=>simp only[AO,Ea,Ba h,and_self]
 |appn sz by' z s x=>
  simp only[L8,mU]at h;have h1:=Ba λt ht=>h t (.inl ht)
  have h2:=Ba λt ht=>h t (.inr ht)
  simp only[AO,Ea,h1,h2,and_self]
 |pan x=>exact⟨rfl,rfl⟩
 |dfr x=>exact⟨rfl,rfl⟩
 |rcv=>exact⟨rfl,rfl⟩
 |clr _ _ x=>exact⟨rfl,rfl⟩
 |allocB _=>exact⟨rfl,rfl⟩
 |mks sz by' z s x=>
  simp only[L8,mU]at h;have h1:=Ba λt ht=>h t (.inl ht)
  have h2:=Ba λt ht=>h t (.inr ht)
  simp only[AO,Ea,h1,h2,and_self]
 |ent x=>exact⟨rfl,rfl⟩
 |mkm=>exact⟨rfl,rfl⟩
 |mlk zd ok m k=>
  simp only[L8,mU]at h;have h1:=Ba λt ht=>h t (.inl ht)
  have h2:=Ba λt ht=>h t (.inr ht)
  simp only[AO,Ea,h1,h2,and_self]
 |mup m k x=>
  simp only[L8,mU]at h;have h1:=Ba λt ht=>h t (.inl (.inl ht))
  have h2:=Ba λt ht=>h t (.inl (.inr ht))
  have h3:=Ba λt ht=>h t (.inr ht)
  simp_all[AO,Ea]
 |rng x=>exact⟨rfl,rfl⟩
 |nxt x=>exact⟨rfl,rfl⟩
 |bad=>exact⟨rfl,rfl⟩
theorem Xw{hp hp':Hp}{zd X Y:AV}{ok:Bool}(h:Ag hp hp' (V4 X)):NL hp zd ok X Y=NL hp' zd ok X Y:=by unfold NL;rw[N9 h]
theorem Xx{hp hp':Hp}{X Y τ:AV}(h:Ag hp hp' (V4 X++Gu hp τ)):OO hp X Y τ=OO hp' X Y τ:=by
 obtain⟨h2,h3⟩:=PZ h.right;have h4:=Mc λn hn=>h.right _ (bN hn) _ rfl
 have h1:=N9 h.left;cases X<;>simp_all[OO]
theorem Xy{hp hp':Hp}{nm:Nm}{sz len:Nat}{z:List AV}{qs:List (Nat×AV)}(h2:Ej hp (qs.map (·.2))=Ej hp' (qs.map (·.2)))(h3:frz hp (B5 (qs.map (·.2)))=frz hp' (B5 (qs.map (·.2))))(h4:qs.map (λ(i,x)=>(i,res hp x))=qs.map (λ(i,x)=>(i,res hp' x))):LV hp nm sz len z qs=LV hp' nm sz len z qs:=by unfold LV;rw[h4,h2,h3]
theorem rG{hp hp':Hp}{xs:List AV}(h:Ag hp hp' (HE hp xs)):∀x∈xs,res hp x=res hp' x:=by
 induction xs with
 |nil=>intro x hx;cases hx
 |cons y ys ih=>grind[PZ,h.left,h.right]
theorem jB{f g:AV->AV}{qs:List (Nat×AV)}(h:∀x∈qs.map (·.2),f x=g x):qs.map (λ(i,x)=>(i,f x))=qs.map (λ(i,x)=>(i,g x)):=by apply List.map_congr_left;grind
theorem bP{hp hp':Hp}{nm:Nm}{sz len:Nat}{z:List AV}{qs:List (Nat×AV)}(h:Ag hp hp' (HE hp (qs.map (·.2)))):LV hp nm sz len z qs=LV hp' nm sz len z qs:=Xy (G0 h).2 (Mc λn hn=>h _ (KS hn) _ rfl) (jB (rG h))
theorem bQ{S:Tab}{env:Az}{hp hp':Hp}{nm:Nm}{g:Bool}{k:AK}(h:Ag hp hp' (Ea env hp g k)):AO S env hp nm g k=AO S env hp' nm g k:=by
 cases k with
 |ld sz ag x=>
  simp only[AO,Ea]at h⊢;generalize AJ g (AI env x)=X at h⊢;cases X with
  |box n o=>grind[Zj,J8,Sq]
  |elem n l z i o=>grind[J8,h.head]
  |v X=>cases X with
   |pointer p=>cases p with
    |some ad=>obtain⟨_,_,sp⟩:=ad;cases sp<;>rfl
    |none=>rfl
   |_=>rfl
  |_=>rfl
 |st sz a x=>
  simp only[AO,Ea]at h⊢;generalize AJ g (AI env x)=X at h⊢;generalize AJ g (AI env a)=A at h⊢;unfold Vn;cases hc:X.cells with
  |none=>rfl
  |some cs=>
   by_cases hl':cs.length=sz
   ·cases A with
    |box n o=>grind[Zk,Sr]
    |elem n l z i o=>simp only[Zk,hc]at h;have h1:=h.head;obtain⟨h2,h3⟩:=G0 h.tail;simp only[h1,h2,h3]
    |_=>rfl
   grind
 |ia sz x i=>
  simp only[AO,Ea]at h⊢;generalize AJ g (AI env x)=X at h⊢;generalize AJ g (AI env i)=I at h⊢;cases X with
  |own n l=>
   cases I with
   |v q=>cases q<;>first|rfl|simp only[S6,h.head]
   |_=>rfl
  |sl _ _ _ _=>
   cases I with
   |v q=>cases q<;>rfl
   |_=>rfl
  |_=>rfl
 |len x=>
  simp only[AO,Ea]at h⊢;generalize AJ g (AI env x)=X at h⊢;cases X with
  |own n l=>grind[NK,h.head]
  |_=>rfl
 |b2s x=>
  simp only[AO,Ea]at h⊢;generalize AJ g (AI env x)=X at h⊢;cases X with
  |own n l=>grind[NJ,h.head]
  |_=>rfl
 |app sz by' z s x=>
  simp only[AO,Ea]at h⊢;generalize AJ g (AI env s)=X at h⊢;unfold Qz;rw[Xu h.right];cases X with
  |own n l=>have:=h.left;grind[this.head]
  |_=>rfl
 |slc sz x l hh m=>
  simp only[AO,Ea]at h⊢;generalize AJ g (AI env x)=X at h⊢;have e1:∀lo hi mx,NI hp sz X lo hi mx=NI hp' sz X lo hi mx:=by
   intro lo hi mx;unfold NI;cases X with
   |own n l'=>grind[frz,h.head]
   |_=>rfl
  have e2:∀lo hi mx,Kb hp nm sz X lo hi mx=Kb hp' nm sz X lo hi mx:=by
   intro lo hi mx;cases X with
   |own n l'=>
    rcases lo with _|lo<;>rcases hi with _|hi<;>rcases mx with _|mx<;>try (simp only[Kb,e1])
    all_goals (rcases hi with c|_|_|_|_|_|_|_|_|_|_<;>try (simp only[e1]))
    all_goals (cases c<;>first|(simp only[e1];done)|simp only[h.head])
   |_=>exact e1 lo hi mx
  simp only[e1,e2]
 |bsl sz len z ps=>grind[AO,Ea,bP]
 |call f as=>grind[AO,Ea,P0]
 |cv x as=>
  simp only[AO,Ea]at h⊢;generalize AJ g (AI env x)=X at h⊢;cases X with
  |clo fn a b=>
   cases fn with
   |func f=>
    refine P0 ?_;rw[Te,Te];intro l hl';simp only[mU]at hl';rcases hl' with(h1|h1)|h1
    ·exact h.left.left l h1
    ·exact h.right l h1
    ·exact h.left.right l h1
   |_=>rfl
  |_=>rfl
 |bin op tk x y=>cases tk<;>rfl
 |mlk zd ok m k=>grind[AO,Ea,Xw]
 |mup m k x=>grind[AO,Ea,Xx]
 |_=>rfl
def NT(env:Az)(hp:Hp)(o:AOp):List Tch:=match Ei env o.g with|some g=>Ea env hp g o.k|none=>[]
theorem O5{S:Tab}{nm:Nm}{env env':Az}{hp hp':Hp}{o:AOp}(ht:∀t∈Na o,lk env t=lk env' t)(hh:Ag hp hp' (NT env hp o)):Jj S nm env hp o=Jj S nm env' hp' o:=by
 have hk:∀g,AO S env hp nm g o.k=AO S env' hp nm g o.k:=by grind[Yg,Na]
 have hrd:∀g,Ea env hp g o.k=Ea env' hp g o.k:=λg=>(Yg (S:=S) (nm:=nm) λt h=>ht t (by simp[Na,h])).2
 have hg:Ei env o.g=Ei env' o.g:=by
  cases hgo:o.g with
  |none=>rfl
  |some p=>obtain⟨t,w⟩:=p;simp only[Ei];rw[ht t (by simp[Na,hgo])]
 unfold Jj;cases hgo:o.g with
 |none=>
  have h2:Ei env o.g=some true:=by rw[hgo];rfl
  grind[NT,bQ]
 |some p=>
  simp;rw[<-hgo,<-hg];cases hgv:Ei env o.g with
  |none=>rfl
  |some g=>simp;simp only[NT,hgv]at hh;rw[hrd]at hh;rw[hk g,bQ hh]
theorem K8{o:Option (Prop×AV)}{vc:Prop}{r:AV}{ws:Hp}(h:vr o=some (vc,r,ws)):ws=[]:=by unfold vr at h;grind
theorem Tf{S:Tab}{env:Az}{hp:Hp}{nm:Nm}{g:Bool}{k:AK}{vc:Prop}{r:AV}{ws:Hp}(hk:hw k=false)(h:AO S env hp nm g k=some (vc,r,ws)):ws=[]:=by
 cases k with
 |box _ _=>simp[hw]at hk
 |alloc _=>simp[hw]at hk
 |bsl _ _ _ _=>simp[hw]at hk
 |st _ _ _=>simp[hw]at hk
 |call _ _=>simp[hw]at hk
 |cv _ _=>simp[hw]at hk
 |app _ _ _ _ _=>simp[hw]at hk
 |slc _ _ _ _ _=>simp[hw]at hk
 |appn _ _ _ _ _=>simp[hw]at hk
 |cap x=>simp only[AO]at h;unfold R2 at h;split at h<;>simp at h<;>exact h.2.2
 |pr p xs=>exact K8 h
 |b2s x=>simp only[AO]at h;unfold NJ at h;grind
 |mv x=>simp[AO]at h;exact h.2.2
 |pick c a b=>simp only[AO,PH]at h;grind
 |build z ps=>grind[AO,MY]
 |ld sz ag x=>simp only[AO]at h;unfold J8 at h;grind[K8]
 |fa o x=>simp only[AO]at h;unfold Mo at h;split at h<;>simp at h<;>exact h.2.2
 |fld o s ag x=>simp only[AO]at h;unfold QA at h;grind[K8]
 |ia sz x i=>simp only[AO]at h;unfold S6 at h;grind
 |iaA n sz x i=>simp only[AO]at h;unfold R3 at h;split at h<;>simp at h<;>exact h.2.2
 |idxA n sz ag x i=>simp only[AO]at h;unfold PI at h;grind[K8]
 |bin op tk x y=>
  cases tk with
  |cells n=>simp only[AO]at h;unfold R4 at h;grind
  |_=>exact K8 h
 |un op x=>exact K8 h
 |ext x i=>simp only[AO]at h;unfold QB at h;grind
 |len x=>simp only[AO]at h;unfold NK at h;grind
 |mm m xs=>simp only[AO]at h;unfold S7 at h;grind
 |mkf f a b=>simp[AO]at h;exact h.2.2
 |nilc x=>simp only[AO]at h;unfold R5 at h;split at h<;>simp at h<;>exact h.2.2
 |cnv k x=>
  simp only[AO]at h;unfold R6 at h;split at h<;>simp at h
  exact h.2.2
 |nils n x=>simp only[AO]at h;unfold PJ at h;split at h<;>simp at h<;>exact h.2.2
 |pan x=>simp[AO]at h
 |dfr x=>simp[AO]at h
 |rcv=>simp[AO]at h
 |clr _ _ _=>simp[AO]at h
 |allocB _=>simp[AO]at h
 |mkm=>simp[hw]at hk
 |mks _ _ _ _ _=>simp[hw]at hk
 |ent _=>simp[AO]at h
 |mup _ _ _=>simp[hw]at hk
 |rng _=>simp[AO]at h
 |nxt _=>simp[AO]at h
 |mlk zd ok m k=>simp only[AO]at h;unfold NL at h;grind
 |bad=>simp[AO]at h
theorem RE{S:Tab}{env:Az}{hp:Hp}{nm:Nm}{o:AOp}{vc:Prop}{r:AV}{ws:Hp}(hk:hw o.k=false)(h:Jj S nm env hp o=some (vc,r,ws)):ws=[]:=by grind[Jj,Tf]
theorem QJ{env:Az}{hp:Hp}{o:AOp}(hk:ht o.k=false):NT env hp o=[]:=by
 unfold NT;split
 ·cases hc:o.k<;>simp[hc,ht,hw]at hk<;>rfl
 ·rfl
structure Rec where
 d:Option Nat
 r:AV
 ws:Hp
 rd:List Tch
 deriving Inhabited
def O6(S:Tab)(ver:Nat):Nat->List AOp->Az->Hp->Option (Prop×Az×Hp×List Rec)|_,[],env,hp=>some (True,env,hp,[])|k,o::r,env,hp=>match Jj S (k,ver) env hp o with|none=>none|some (vc,x,ws)=>match O6 S ver (k+1) r (BV o.d x env) (ws++hp)with|none=>none|some (vcs,e,h,rs)=>some (vc/\vcs,e,h,⟨o.d,x,ws,bif ht o.k then NT env hp o else[]⟩::rs)
def Tg:Tch->Loc->Bool|.l x,y=>decide (x=y)|.b n,.c m _=>decide (n=m)|.b _,.a _=>false
theorem Yh{t:Tch}{l:Loc}(h:bM t l):Tg t l=true:=by cases t<;>grind[Tg,bM]
def Ip(l:Loc)(ws:Hp):Bool:=ws.any λp=>decide (p.1=l)
def Th(a b:Rec):Bool:=(a.ws.all λp=>(b.rd.all λt=> !Tg t p.1)&& !Ip p.1 b.ws)&&b.ws.all λp=>a.rd.all λt=> !Tg t p.1
def O7(recs:List Rec):List (Nat×Nat)->Bool|[]=>true|(k,j)::r=>Th (recs.getD k default) (recs.getD j default)&&O7 recs r
theorem Nc{B:List Nat}:∀{es:List Nat}{s k:Nat},(es.foldl (λs e=>s|||2^e|||B.getD e 0) s).testBit k=true↔s.testBit k=true\/∃e∈es,k=e\/(B.getD e 0).testBit k=true
 |[],s,k=>by simp
 |e::es,s,k=>by rw[List.foldl_cons,Nc];grind
theorem MM{B:List Nat}:∀{l:List Oper}{j:Nat},QG B j l=true->∀i o,l[i]? =some o->(∀e∈DL o,e<j+i)/\B.getD (j+i) 0=IN B (DL o)
 |[],_,_,i,o,ho=>by simp at ho
 |p::r,j,h,i,o,ho=>by
  simp only[QG,nK,bK]at h;cases i with
  |zero=>grind
  |succ i=>have:=MM h.2 i o (by simpa using ho);grind
theorem O8{a b:AOp}(h:JK a b=true):(∀t,a.d=some t->t∉Na b/\b.d≠some t)/\∀t,b.d=some t->t∉Na a:=by unfold JK at h;grind
theorem MN{B:Nat}{o:AOp}:∀{l:List AOp}{k:Nat},Sh B o k l=true->∀i p,l[i]? =some p->B.testBit (k+i)=true\/JK p o=true
 |[],_,_,i,p,hp=>by simp at hp
 |q::r,k,h,i,p,hp=>by
  simp only[Sh,nK]at h;cases i with
  |zero=>grind
  |succ i=>have:=MN h.2 i p (by simpa using hp);grind
theorem MO{B j:Nat}{o:AOp}:∀{l:List AOp}{k:Nat},∀i p,l[i]? =some p->B.testBit (k+i)=true\/((hw p.k&&ht o.k)||(ht p.k&&hw o.k))=false\/(k+i,j)∈QH B j o k l
 |[],_,i,p,hp=>by simp at hp
 |q::r,k,i,p,hp=>by
  simp only[QH];cases i with
  |zero=>grind
  |succ i=>
   rcases MO (B:=B) (j:=j) (o:=o) (k:=k+1) i p (by simpa using hp)with h|h|h
   all_goals grind
theorem O9{B:List Nat}{all:List AOp}:∀{l:List AOp}{j:Nat},X7 B all j l=true->∀i o,l[i]? =some o->Sh (B.getD (j+i) 0) o 0 (all.take (j+i))=true
 |[],_,_,i,o,ho=>by simp at ho
 |q::r,j,h,i,o,ho=>by
  simp only[X7,nK]at h;cases i with
  |zero=>grind
  |succ i=>have:=O9 h.2 i o (by simpa using ho);grind
theorem Pa{B:List Nat}{all:List AOp}:∀{l:List AOp}{j:Nat},∀i o,l[i]? =some o->∀x∈QH (B.getD (j+i) 0) (j+i) o 0 (all.take (j+i)),x∈bH B all j l
 |[],_,i,o,ho=>by simp at ho
 |q::r,j,i,o,ho=>by
  intro x hx;simp only[bH,mU];cases i with
  |zero=>grind
  |succ i=>right;refine Pa i o (by simpa using ho) x ?_;grind
theorem P1{recs:List Rec}:∀{u:List (Nat×Nat)},O7 recs u=true->∀k j,(k,j)∈u->Th (recs.getD k default) (recs.getD j default)=true
 |[],_,k,j,h=>by simp at h
 |(a,b)::r,h,k,j,hm=>by
  simp only[O7,nK]at h;rcases kC.1 hm with e|e
  ·grind
  ·exact P1 h.2 k j e
theorem P2{a b:Rec}(h:Th a b=true)(l:Loc):(Ip l a.ws=true->(∀t∈b.rd,¬bM t l)/\Ip l b.ws=false)/\(Ip l b.ws=true->∀t∈a.rd,¬bM t l):=by
 simp only[Th,List.all_eq_true]at h;constructor
 ·intro hl;simp only[Ip,List.any_eq_true]at hl;grind[Yh]
 ·intro hl t ht hc;simp only[Ip,List.any_eq_true]at hl;grind[Yh]
def FO(rec:Nat->Rec)(env:Az):List Nat->Az|[]=>env|i::L=>BV (rec i).d (rec i).r (FO rec env L)
def Hq(rec:Nat->Rec)(hp:Hp):List Nat->Hp|[]=>hp|i::L=>(rec i).ws++Hq rec hp L
theorem Ss{d:Option Nat}{x:AV}{env:Az}{t:Nat}:lk (BV d x env) t=if d=some t then x else lk env t:=by cases d<;>grind[BV,lk]
theorem vU{ws h:Hp}{l:Loc}(hn:Ip l ws=false):hl (ws++h) l=hl h l:=by
 induction ws with
 |nil=>rfl
 |cons w ws ih=>simp only[Ip,List.any_cons,y8,cY]at hn;simp only[sF,hl,dQ hn.1];exact ih hn.2
theorem jC{ws h h':Hp}{l:Loc}(e:hl h l=hl h' l):hl (ws++h) l=hl (ws++h') l:=by induction ws<;>grind[hl]
theorem Kd{rec:Nat->Rec}{env:Az}{t:Nat}:∀(L:List Nat),lk (FO rec env L) t=lk (FO rec env (L.filter λi=>decide ((rec i).d=some t))) t
 |[]=>rfl
 |i::L=>by
  rw[List.filter_cons];simp only[FO,Ss];by_cases h:(rec i).d=some t
  ·simp[h,FO,Ss]
  ·simp only[h,yF];exact Kd L
theorem JM{rec:Nat->Rec}{hp:Hp}{l:Loc}:∀(L:List Nat),hl (Hq rec hp L) l=hl (Hq rec hp (L.filter λi=>Ip l (rec i).ws)) l
 |[]=>rfl
 |i::L=>by
  rw[List.filter_cons];simp only[Hq];cases h:Ip l (rec i).ws with
  |true=>exact jC (JM L)
  |false=>rw[vU h];exact JM L
theorem T6:∀{L M:List Nat},L.Pairwise (·>·)->M.Pairwise (·>·)->(∀i,i∈L↔i∈M)->L=M
 |[],[],_,_,_=>rfl
 |[],m::M,_,_,h=>by have:=(h m).2 (by simp);simp at this
 |l::L,[],_,_,h=>by have:=(h l).1 (by simp);simp at this
 |l::L,m::M,h1,h2,h=>by
  rw[vE]at h1 h2;have e:l=m:=by
   rcases kC.1 ((h l).1 (by simp))with e|e
   ·exact e
   ·rcases kC.1 ((h m).2 (by simp))with e'|e'
    all_goals grind
  subst e;rw[T6 h1.2 h2.2 λi=>?_];grind
def Ek:Nat->List Nat|0=>[]|n+1=>n::Ek n
theorem GN:∀{n i:Nat},i∈Ek n↔i<n
 |0,i=>by simp[Ek]
 |n+1,i=>by simp only[Ek,kC,GN];omega
theorem Rb:∀n,(Ek n).Pairwise (·>·)
 |0=>.nil
 |n+1=>vE.2 ⟨λi hi=>GN.1 hi,Rb n⟩
theorem NU{p:Nat->Bool}{L:List Nat}{j:Nat}(hL:(L.filter p).Pairwise (·>·))(hm:∀i,p i=true->(i∈L↔i<j)):L.filter p=(Ek j).filter p:=T6 hL ((Rb j).filter p) λi=>by grind[GN]
def Ko(X:Nat->Az->Hp->AOp->Option (Prop×AV×Hp)):Nat->List AOp->Az->Hp->Option (Prop×Az×Hp×List Rec)|_,[],env,hp=>some (True,env,hp,[])|k,o::r,env,hp=>match X k env hp o with|none=>none|some (vc,x,ws)=>match Ko X (k+1) r (BV o.d x env) (ws++hp)with|none=>none|some (vcs,e,h,rs)=>some (vc/\vcs,e,h,⟨o.d,x,ws,bif ht o.k then NT env hp o else[]⟩::rs)
theorem V5{S:Tab}{ver:Nat}:∀(l:List AOp)(k:Nat)(e:Az)(h:Hp),O6 S ver k l e h=Ko (λi e h o=>Jj S (i,ver) e h o) k l e h
 |[],_,_,_=>rfl
 |o::l,k,e,h=>by simp only[O6,Ko,V5 l]
theorem MP{X:Nat->Az->Hp->AOp->Option (Prop×AV×Hp)}{bs:Nat}{rec:Nat->Rec}{env0:Az}{hp0:Hp}{all:List AOp}:∀(l:List AOp)(k:Nat)(rs:List Rec)(vc:Prop)(e:Az)(h:Hp),(∀i,l[i]? =all[k+i]?)->Ko X (bs+k) l (FO rec env0 (Ek k)) (Hq rec hp0 (Ek k))=some (vc,e,h,rs)->vc->(∀i,i<l.length->rs[i]? =some (rec (k+i)))->e=FO rec env0 (Ek (k+l.length))/\h=Hq rec hp0 (Ek (k+l.length))/\∀i o,l[i]? =some o->∃vc:Prop,vc/\X (bs+(k+i)) (FO rec env0 (Ek (k+i))) (Hq rec hp0 (Ek (k+i))) o=some (vc,(rec (k+i)).r,(rec (k+i)).ws)/\(rec (k+i)).d=o.d/\(rec (k+i)).rd=NT (FO rec env0 (Ek (k+i))) (Hq rec hp0 (Ek (k+i))) o
 |[],k,rs,vc,e,h,_,hex,_,_=>by grind[Ko]
 |o::l,k,rs,vc,e,h,hl',hex,hvc,hrs=>by
  simp only[Ko]at hex;split at hex
  ·simp at hex
  rename_i v1 r1 ws1 hex1;split at hex
  ·simp at hex
  rename_i v2 e2 h2 rs2 hex2;simp only[yE,KW]at hex;obtain⟨rfl,rfl,rfl,rfl⟩:=hex;have h0:=hrs 0 (by simp);simp at h0;have hd:(rec k).d=o.d:=by rw[<-h0]
  have hr:(rec k).r=r1:=by rw[<-h0]
  have hw':(rec k).ws=ws1:=by rw[<-h0]
  have hrd:(rec k).rd=NT (FO rec env0 (Ek k)) (Hq rec hp0 (Ek k)) o:=by
   rw[<-h0];cases hk:ht o.k with
   |true=>rfl
   |false=>simp_all[QJ]
  have ih:=MP (all:=all) (rec:=rec) l (k+1) rs2 v2 e2 h2 (λi=>by have:=hl' (i+1);grind)
   (by simp only[Ek,FO,Hq,hd,hr,hw'];exact hex2) hvc.2 (λi hi=>by have:=hrs (i+1) (by simp;omega);grind)
  grind
structure Good(P:Program)(X:Nat->Az->Hp->Option (Prop×AV×Hp))(nt n:Nat)(ops:Array Oper)(B:List Nat)(rec:Nat->Rec)(env0:Az)(hp0:Hp)(ao:Nat->AOp):Prop where
 cg:∀i env env' hp hp',(∀t∈Na (ao i),lk env t=lk env' t)->Ag hp hp' (NT env hp (ao i))->X i env hp=X i env' hp'
 sz:n<=ops.size
 bef:∀i o,ops[i]? =some o->(∀e∈DL o,e<i)/\B.getD i 0=IN B (DL o)
 op:∀i o,ops[i]? =some o->LE P nt ops o=some (ao i)
 run:∀i,i<n->∃vc:Prop,vc/\X i (FO rec env0 (Ek i)) (Hq rec hp0 (Ek i))=some (vc,(rec i).r,(rec i).ws)/\(rec i).d=(ao i).d/\(rec i).rd=NT (FO rec env0 (Ek i)) (Hq rec hp0 (Ek i)) (ao i)
 tmp:∀k j,k<j->j<n->(B.getD j 0).testBit k=true\/JK (ao k) (ao j)=true
 mem:∀k j,k<j->j<n->(B.getD j 0).testBit k=true\/Th (rec k) (rec j)=true\/((rec k).ws=[]/\(rec j).ws=[])\/((rec j).ws=[]/\(rec j).rd=[])\/((rec k).ws=[]/\(rec k).rd=[])
structure Done(n:Nat)(B:List Nat)(L:List Nat):Prop where
 lt:∀i∈L,i<n
 cl:∀j∈L,∀k,(B.getD j 0).testBit k=true->k∈L
 pw:L.Pairwise λa b=>a≠b/\¬(B.getD b 0).testBit a=true
section
variable{P:Program}{X:Nat->Az->Hp->Option (Prop×AV×Hp)}{nt n:Nat}{ops:Array Oper}{B:List Nat}{rec:Nat->Rec}{env0:Az}{hp0:Hp}{ao:Nat->AOp}{L:List Nat}
theorem Good.bit(G:Good P X nt n ops B rec env0 hp0 ao){i k:Nat}{o:Oper}(ho:ops[i]? =some o):(B.getD i 0).testBit k=true↔∃e∈DL o,k=e\/(B.getD e 0).testBit k=true:=by rw[(G.bef i o ho).2,IN,Nc];simp
theorem Good.all(G:Good P X nt n ops B rec env0 hp0 ao){L:List Nat}(hD:Done n B L){j:Nat}{o:Oper}(ho:ops[j]? =some o)(he:∀e∈DL o,e∈L):∀k,(B.getD j 0).testBit k=true->k∈L:=by
 intro k hk;obtain⟨e,h1,h2⟩:=(G.bit ho).1 hk;rcases h2 with rfl|h2
 ·exact he _ h1
 ·exact hD.cl e (he e h1) k h2
theorem Done.cons(hD:Done n B L){j:Nat}(hj:j<n)(hn:j∉L)(ha:∀k,(B.getD j 0).testBit k=true->k∈L):Done n B (j::L) where
 lt i hi:=by rcases kC.1 hi with rfl|h;exact hj;exact hD.lt i h
 cl i hi k hk:=by
  rcases kC.1 hi with rfl|h
  ·exact List.mem_cons_of_mem _ (ha k hk)
  ·exact List.mem_cons_of_mem _ (hD.cl i h k hk)
 pw:=vE.2 ⟨λb hb=>⟨λe=>hn (e▸hb),λh=>hn (hD.cl b hb j h)⟩,hD.pw⟩
theorem Done.sorted(hD:Done n B L){p:Nat->Bool}(hp:∀k j,k<j->j<n->p k=true->p j=true->(B.getD j 0).testBit k=true):(L.filter p).Pairwise (·>·):=by
 rw[List.pairwise_filter];refine hD.pw.imp_of_mem ?_;intro a b ha hb ⟨h1,h2⟩ pa pb;rcases Nat.lt_trichotomy a b with h|h|h
 ·exact absurd (hp a b h (hD.lt b hb) pa pb) h2
 all_goals omega
theorem Good.env_pairs(G:Good P X nt n ops B rec env0 hp0 ao)(t:Nat):∀k j,k<j->j<n->decide ((rec k).d=some t)=true->decide ((rec j).d=some t)=true->(B.getD j 0).testBit k=true:=by
 intro k j hk hj h1 h2;obtain⟨_,_,_,d1,_⟩:=G.run k (by omega);obtain⟨_,_,_,d2,_⟩:=G.run j hj;rcases G.tmp k j hk hj with h|h
 all_goals grind[O8]
theorem Good.hp_pairs(G:Good P X nt n ops B rec env0 hp0 ao)(l:Loc):∀k j,k<j->j<n->Ip l (rec k).ws=true->Ip l (rec j).ws=true->(B.getD j 0).testBit k=true:=by
 intro k j hk hj h1 h2;rcases G.mem k j hk hj with h|h|h|h|h
 all_goals grind[P2,Ip]
theorem Good.same(G:Good P X nt n ops B rec env0 hp0 ao){L:List Nat}(hD:Done n B L){j:Nat}(hj:j<n)(hn:j∉L)(ha:∀k,(B.getD j 0).testBit k=true->k∈L):X j (FO rec env0 L) (Hq rec hp0 L)=X j (FO rec env0 (Ek j)) (Hq rec hp0 (Ek j)):=by
 symm;refine G.cg j _ _ _ _ (λt ht=>?_) λt ht l hl'=>?_
 ·rw[Kd L,Kd (Ek j)];rw[NU (hD.sorted (G.env_pairs t)) λi hi=>?_];constructor
  ·intro hL;rcases Nat.lt_trichotomy i j with h|h|h
   ·exact h
   ·subst h;exact absurd hL hn
   ·rcases G.tmp j i h (hD.lt i hL)with g|g
    ·exact absurd (hD.cl i hL j g) hn
    ·obtain⟨_,_,_,d1,_⟩:=G.run i (hD.lt i hL);grind[O8]
  ·intro h;rcases G.tmp i j h hj with g|g
   ·exact ha i g
   ·obtain⟨_,_,_,d1,_⟩:=G.run i (by omega);grind[O8]
 ·obtain⟨_,_,_,_,hrd⟩:=G.run j hj;rw[JM L,JM (Ek j)];rw[NU (hD.sorted (G.hp_pairs l)) λi hi=>?_];constructor
  ·intro hL;rcases Nat.lt_trichotomy i j with h|h|h
   ·exact h
   ·subst h;exact absurd hL hn
   ·rcases G.mem j i h (hD.lt i hL)with g|g|g|g|g
    ·exact absurd (hD.cl i hL j g) hn
    all_goals grind[P2,Ip]
  ·intro h;rcases G.mem i j h hj with g|g|g|g|g
   all_goals grind[P2,Ip]
theorem Good.fin(G:Good P X nt n ops B rec env0 hp0 ao){L:List Nat}(hD:Done n B L)(hall:∀i,i<n->i∈L):(∀t,lk (FO rec env0 L) t=lk (FO rec env0 (Ek n)) t)/\∀l,hl (Hq rec hp0 L) l=hl (Hq rec hp0 (Ek n)) l:=by
 refine⟨λt=>?_,λl=>?_⟩
 ·rw[Kd L,Kd (Ek n)];rw[NU (hD.sorted (G.env_pairs t)) λi _=>⟨hD.lt i,hall i⟩]
 ·rw[JM L,JM (Ek n)];rw[NU (hD.sorted (G.hp_pairs l)) λi _=>⟨hD.lt i,hall i⟩]
theorem RF{nt t:Nat}:∀(L:List Nat),(∀i∈L,∀d,(rec i).d=some d->d<nt)->nt<=t->lk (FO rec env0 L) t=lk env0 t
 |[],_,_=>rfl
 |i::L,h,ht=>by simp only[FO];rw[Ee (h i (by simp)) ht];exact RF L (by grind) ht
theorem Good.far(G:Good P X nt n ops B rec env0 hp0 ao)(i:Nat)(hi:i<n):∀d,(rec i).d=some d->d<nt:=by obtain⟨_,_,_,d1,_⟩:=G.run i hi;rw[d1];have hs:=tL hi G.sz;exact DA (G.op i ops[i] (by grind))
def left(L:List Nat):Nat->Nat|0=>0|n+1=>left L n+if n∈L then 0 else 1
theorem P3{L:List Nat}:∀{n:Nat},left L n=0->∀i,i<n->i∈L
 |0,_,i,h=>by omega
 |n+1,h,i,hi=>by
  simp only[left]at h;by_cases hn:n∈L
  ·rcases Ke i n with h'|h'
   ·exact P3 (by omega) i h'
   grind
  grind
theorem P4{L:List Nat}{j:Nat}:∀{n:Nat},n<=j->left (j::L) n=left L n
 |0,_=>rfl
 |n+1,h=>by
  have:n≠j:=by omega
  have ih:left (j::L) n=left L n:=P4 (by omega)
  simp_all[left]
theorem P5{L:List Nat}{j:Nat}(hn:j∉L):∀{n:Nat},j<n->left (j::L) n+1=left L n
 |0,h=>by omega
 |n+1,h=>by
  simp only[left];by_cases e:n=j
  ·subst e;rw[P4 (fW _),dW (by simp),dQ hn]
  ·have:=P5 hn (n:=n) (by omega);grind
theorem Pb:∀n,left [] n=n
 |0=>rfl
 |n+1=>by simp[left,Pb n]
theorem Zn(L:List Nat):∀n,(∀i,i<n->i∈L)\/∃j,j<n/\j∉L/\∀i,i<j->i∈L
 |0=>by grind
 |n+1=>by
  rcases Zn L n with h|⟨j,h1,h2⟩
  all_goals grind
theorem Iu{listed:Array Bool}{L:List Nat}(hsz:listed.size=ops.size)(hli:∀i,i<ops.size->(listed.getD i true=true↔i∈L)/\(listed.getD i false=true↔i∈L))(hb:∀i o,ops[i]? =some o->∀e∈DL o,e<i)(i:Nat):i∈Region.ready .any ops listed↔i<ops.size/\i∉L/\∃o,ops[i]? =some o/\∀e∈DL o,e∈L:=by
 unfold Region.ready;rw[List.mem_filter,List.mem_range];constructor
 ·rintro⟨h1,h2⟩;have ho:ops[i]? =some ops[i]:=by grind
  rw[ho]at h2;simp only[tG,oK,nK,Array.all_eq_true']at h2;all_goals grind[DL]
 ·rintro⟨h1,h2,o,ho,h3⟩;refine⟨h1,?_⟩;rw[ho];simp only[tG,oK,nK,Array.all_eq_true'];refine⟨?_,λx hx=>?_⟩
  ·grind
  ·cases hbx:Region.binds .any x with
   |false=>simp
   |true=>
    have hm:x.on∈DL o:=by grind[DL]
    grind
variable{V:Ctx}{cnt bs:Nat}{Q:AE->St->Prop}
theorem Inv.congr{U:Cf}{env env':Az}{hp hp':Hp}{a:Act}{nt:Nat}{hb:HB}(h:Inv U env hp a nt hb)(he:∀t,lk env t=lk env' t)(hh:∀l,hl hp l=hl hp' l):Inv U env' hp' a nt hb where
 h:=
  {ln:=λn=>by rw[h.h.ln n];simp only[lenOf,hh]
   cel:=λn j c hc=>h.h.cel n j c (by rw[hh];exact hc)
   arr:=λn sz live rows d hc=>h.h.arr n sz live rows d (by rw[hh];exact hc)
   inj:=λp q b hp hq=>h.h.inj p q b (by simpa only[Owns,hh]using hp) (by simpa only[Owns,hh]using hq)
   lt:=h.h.lt
   ou:=h.h.ou
   dis:=h.h.dis}
 t:=λt=>by rw[<-he];exact h.t t
 sz:=h.sz
 df:=(by rw[<-he (dk nt)];exact h.df)
theorem Yi(stop:Nat->Prop)(G:Good V.P X V.nt n ops B rec env0 hp0 ao)(hz:ops.size=n)(hQ:(∀i,i<n->¬stop i)->Q .n ⟨FO rec env0 (Ek n),Hq rec hp0 (Ek n),cnt+1⟩){σ0:Cf}(hG:V.G env0 σ0)(hop:∀(i:Nat) (o:Oper) (L:List Nat) (U:Cf) (a:Act) (K:Act->World->Prop),i<n->i∉L->(∀j∈L,¬stop j)->Done n B L->(∀k,(B.getD i 0).testBit k=true->k∈L)->ops[i]? =some o->Evo σ0 U->Inv U (FO rec env0 L) (Hq rec hp0 L) a V.nt V.hb->(∀m,U.al m->m.2<=cnt\/∃i∈L,m=(bs+i,cnt+1))->(¬stop i->∀a' σ',Evo U σ'->Inv σ' (BV (ao i).d (rec i).r (FO rec env0 L)) ((rec i).ws++Hq rec hp0 L) a' V.nt V.hb->(∀m,σ'.al m->U.al m\/m=(bs+i,cnt+1))->K a' σ'.w)->wpOpIn V.F 0 V.P ops (lift V σ0 Q) i K a U.w):∀(fuel:Nat)(L:List Nat)(listed:Array Bool)(U:Cf)(a:Act),(∀j∈L,¬stop j)->Done n B L->listed.size=ops.size->(∀i,i<ops.size->(listed.getD i true=true↔i∈L)/\(listed.getD i false=true↔i∈L))->left L n=fuel->Evo σ0 U->Inv U (FO rec env0 L) (Hq rec hp0 L) a V.nt V.hb->(∀m,U.al m->m.2<=cnt\/∃i∈L,m=(bs+i,cnt+1))->wpAnyIn V.F 0 V.P .any ops (lift V σ0 Q) fuel listed a U.w:=by
 intro fuel;have fin:∀(L:List Nat)(listed:Array Bool)(U:Cf)(a:Act),(∀j∈L,¬stop j)->Done n B L->listed.size=ops.size->(∀i,i<ops.size->(listed.getD i true=true↔i∈L)/\(listed.getD i false=true↔i∈L))->Evo σ0 U->Inv U (FO rec env0 L) (Hq rec hp0 L) a V.nt V.hb->(∀m,U.al m->m.2<=cnt\/∃i∈L,m=(bs+i,cnt+1))->(∀i,i<n->i∈L)->lift V σ0 Q .normal a U.w:=by intro L listed U a hst hD h1 h2 he hI hal hall;obtain⟨e1,e2⟩:=G.fin hD hall;refine⟨U,_,.n,rfl,V.ofE he,⟨hI.congr e1 e2,λm hm=>?_,V.g hG he λt ht=>.inr (RF (Ek n) (λi hi=>G.far i (GN.1 hi)) ht)⟩,rfl,hQ λi hi=>hst i (hall i hi)⟩;grind
 have none:∀(L:List Nat)(listed:Array Bool),listed.size=ops.size->(∀i,i<ops.size->(listed.getD i true=true↔i∈L)/\(listed.getD i false=true↔i∈L))->Region.ready .any ops listed=[]->∀i,i<n->i∈L:=by
  intro L listed h1 h2 hr;rcases Zn L n with h|⟨j,h3,h4,h5⟩
  ·exact h
  ·have hj:j<ops.size:=by rw[hz];exact h3
   have ho:ops[j]? =some ops[j]:=by grind
   have:=(Iu h1 h2 (λi o ho=>(G.bef i o ho).1) j).2 ⟨hj,h4,_,ho,λe he=>h5 e ((G.bef j _ ho).1 e he)⟩;rw[hr]at this;simp at this
 induction fuel with
 |zero=>
  intro L listed U a hst hD h1 h2 hf he hI hal;have hall:=P3 hf;refine⟨?_,by grind⟩;cases hr:Region.ready .any ops listed with
  |nil=>rfl
  |cons x xs=>
   have hx:x∈Region.ready .any ops listed:=by rw[hr];simp
   obtain⟨g1,g2,_⟩:=(Iu h1 h2 (λi o ho=>(G.bef i o ho).1) x).1 hx;grind
 |succ fuel ih=>
  intro L listed U a hst hD h1 h2 hf he hI hal;refine⟨by grind,λi hi=>?_⟩;obtain⟨g1,g2,o,ho,g3⟩:=(Iu h1 h2 (λi o ho=>(G.bef i o ho).1) i).1 hi;have hin:i<n:=by rw[<-hz];exact g1
  have ha:=G.all hD ho g3;obtain⟨_,_,_,hd,_⟩:=G.run i hin;refine hop i o L U a _ hin g2 hst hD ha ho he hI hal λhs a' σ' e' hI' hal'=>?_
  refine ih (i::L) _ σ' a' (by grind) (hD.cons hin g2 ha) (by simp[h1]) (λk hk=>?_) ?_ (he.trans e') ?_ λm hm=>?_
  ·by_cases e:i=k
   ·subst e;have:i<listed.size:=by omega
    simp[this]
   ·have hk':k<listed.size:=by omega
    have q1:(listed.setIfInBounds i true).getD k true=listed.getD k true:=by simp[hk',e]
    grind
  all_goals grind[P5,FO,Hq]
end
theorem K9{X:Nat->Az->Hp->AOp->Option (Prop×AV×Hp)}:∀{l:List AOp}{k:Nat}{env:Az}{hp:Hp}{vc:Prop}{e:Az}{h:Hp}{rs:List Rec},Ko X k l env hp=some (vc,e,h,rs)->rs.length=l.length
 |[],_,_,_,_,_,_,_,hex=>by simp[Ko]at hex;simp[hex.2.2.2]
 |o::l,k,env,hp,vc,e,h,rs,hex=>by
  simp only[Ko]at hex;split at hex
  ·simp at hex
  split at hex
  ·simp at hex
  rename_i hex2;obtain⟨_,_,_,rfl⟩:=hex;simp[K9 hex2]
theorem C9{P:Program}{nt:Nat}{ops:Array Oper}:∀{l:List Oper}{xs:List AOp},GZ P nt ops l=some xs->xs.length=l.length/\∀(i:Nat)(o:Oper),l[i]? =some o->∃x,xs[i]? =some x/\LE P nt ops o=some x
 |[],xs,h=>by simp[GZ]at h;subst h;simp
 |p::l,xs,h=>by
  simp only[GZ]at h;split at h
  ·rename_i x ys hx hys;obtain⟨h1,h2⟩:=C9 hys;grind
  ·simp at h
theorem Pc{ops:Array Oper}{l:List AOp}{un:List (Nat×Nat)}(h:Sj ops l=some un):∃B,QG B 0 ops.toList=true/\X7 B l 0 l=true/\un=bH B l 0 l:=by grind[Sj,TY]
theorem Zo{k:AK}(h:ht k=false):hw k=false:=by cases k<;>simp[ht,hw]at h⊢
theorem At.drawn{V:Ctx}{U:Cf}{s:St}{a:Act}(h:At V U s a)(d:Nat):∃σ',σ'.w={U.w with drawn:=d}/\Evo U σ'/\At V σ' s a:=by
 obtain⟨⟨h1,h2,h3,h4⟩,h5,h6⟩:=h
 let Z:={U with w:={U.w with drawn:=d}}
 have e:Evo U Z:=⟨by grind,by grind,by grind,rfl,fW _,⟨rfl,rfl⟩⟩
 refine⟨Z,rfl,e,⟨⟨h1.ln,λn j c hc=>?_,λn sz live rows d hc=>?_,h1.inj,h1.lt,h1.ou,h1.dis⟩,?_,h3,h4.mono e⟩,h5,V.g h6 e λ_ _=>.inr rfl⟩
 ·have kk:=h1.cel n j c hc;exact kk.keep e kk.2.1 rfl
 ·exact(h1.arr n sz live rows d hc).keep e rfl λ_ _ _ _ _ _ hM=>⟨hM,rfl⟩
 ·exact λt=>(h2 t).mono e
variable{V:Ctx}
theorem Yj(hΓ:V.OK){rid:Nat}{ops:List AOp}{un:List (Nat×Nat)}{Q:AE->St->Prop}{s:St}{vc:Prop}{env:Az}{hp:Hp}{recs:List Rec}(hex:O6 V.S (s.cnt+1) (100*rid) ops s.env s.hp=some (vc,env,hp,recs))(hvc:vc)(hun:O7 recs un=true)(hQ:Q .n ⟨env,hp,s.cnt+1⟩):Ax V (.drw rid ops un) Q s:=by
 intro code hc U a hA;cases code with
 |region id ops' d=>
  simp only[cCode]at hc;obtain⟨l,hx,⟨_,e⟩|⟨rfl,hf,un',hu,e⟩⟩:=Cc hc
  ·cases e
  ·cases e
   refine wpIn_region_any hf ?_;obtain⟨B,b1,b2,rfl⟩:=Pc hu;obtain⟨c1,c2⟩:=C9 hx;have hlen:ops.length=ops'.size:=by simpa using c1
   rw[V5]at hex;have hrl:=K9 hex;have hop:∀i o,ops'[i]? =some o->∃x,ops[i]? =some x/\LE V.P V.nt ops' o=some x:=λi o ho=>c2 i o (by simpa using ho)
   have hao:∀i x,ops[i]? =some x->ops.getD i default=x:=λi x h=>by simp[dM,h]
   have hsp:=MP (rec:=λi=>recs.getD i default) (env0:=s.env) (hp0:=s.hp) (all:=ops) (bs:=100*rid) ops 0 recs vc env hp (λi=>by simp) hex hvc (λi hi=>by grind);simp only[rB]at hsp;obtain⟨e1,e2,run⟩:=hsp;have get:∀i,i<ops.length->ops[i]? =some (ops.getD i default):=λi hi=>by simp[dM,hi]
   have hws:∀i,i<ops.length->hw (ops.getD i default).k=false->(recs.getD i default).ws=[]:=λi hi h=>by obtain⟨_,_,g,_⟩:=run i _ (get i hi);exact RE h g
   have hrd:∀i,i<ops.length->ht (ops.getD i default).k=false->(recs.getD i default).rd=[]:=λi hi h=>by obtain⟨_,_,_,_,g⟩:=run i _ (get i hi);rw[g];exact QJ h
   have G:Good V.P (λi e h=>Jj V.S (100*rid+i,s.cnt+1) e h (ops.getD i default)) V.nt ops.length ops' B (λi=>recs.getD i default) s.env s.hp λi=>ops.getD i default:=
    {cg:=λi e e' h h' ht hh=>O5 ht hh
     sz:=Nat.le_of_eq hlen
     bef:=λi o ho=>by have:=MM b1 i o (by simpa using ho);simpa using this
     op:=λi o ho=>by grind
     run:=λi hi=>run i _ (get i hi)
     tmp:=λk j hk hj=>by
      have h1:=O9 b2 j _ (get j hj);rw[rB]at h1;have h2:=MN h1 k (ops.getD k default) (by grind)
      rwa [rB]at h2
     mem:=λk j hk hj=>by
      have h2:=MO (B:=B.getD j 0) (j:=j) (o:=ops.getD j default) (l:=ops.take j) (k:=0) k (ops.getD k default) (by grind);rw[rB]at h2;rcases h2 with h|h|h
      ·exact .inl h
      ·right;right;simp only[y8,z8]at h;have hk':k<ops.length:=by omega
       rcases h.1 with g1|g1
       ·grind
       ·exact .inr (.inl ⟨hws j hj (Zo g1),hrd j hj g1⟩)
      ·exact .inr (.inl (P1 hun k j (Pa (all:=ops) (j:=0) j _ (get j hj) _ (by rw[rB];exact h))))}
   obtain⟨σ',w1,w2,w3⟩:=hA.drawn (U.w.drawn+1);rw[<-w1];refine Yi (bs:=100*rid) (λ_=>False) G hlen.symm (λ_=>by rw[<-e1,<-e2];exact hQ) hA.2.2 (λi o L σ1 a1 K hin g2 _ hD ha ho _ hI hal hK=>?_) ops'.size [] _ σ' a (by simp) ⟨by simp,by simp,.nil⟩ (by simp) (λi hi=>?_) (by rw[Pb,hlen]) w2 w3.1 λm hm=>.inl (w3.2.1 m hm)
   ·obtain⟨vc,hvc,hex,hd,_⟩:=G.run i hin;rw[<-G.same hD hin g2 ha]at hex;refine K7 hΓ.S hΓ.F ho (G.op i o ho) hI ⟨λh=>?_,s.cnt+1,λm hm=>by grind⟩ hex hvc (hK not_false);grind
   ·simp[Array.getD,hi]
 |seq x y=>simp only[cCode]at hc;split at hc<;>simp at hc
 |cond c x y=>simp only[cCode]at hc;split at hc<;>simp at hc
 |rangeFunc f ps x y=>simp only[cCode]at hc;split at hc<;>simp at hc
 |_=>simp[cCode]at hc
theorem FL(hΓ:V.OK){rid:Nat}{ops:List AOp}{un:List (Nat×Nat)}{Q:AE->St->Prop}{e e':Az}{h h':Hp}{c:Nat}{vc:Prop}{recs:List Rec}(hex:O6 V.S (c+1) (100*rid) ops e h=some (vc,e',h',recs))(hun:O7 recs un=true)(hvc:vc)(hQ:Q .n ⟨e',h',c+1⟩):Ax V (.drw rid ops un) Q ⟨e,h,c⟩:=Yj hΓ hex hvc hun hQ
theorem Eu(hΓ:V.OK){rid:Nat}{ops:List AOp}{un:List (Nat×Nat)}{b:AC}{Q:AE->St->Prop}{e e':Az}{h h':Hp}{c:Nat}{vc:Prop}{recs:List Rec}(hex:O6 V.S (c+1) (100*rid) ops e h=some (vc,e',h',recs))(hun:O7 recs un=true)(hvc:vc)(hQ:Ax V b Q ⟨e',h',c+1⟩):Ax V (.seq (.drw rid ops un) b) Q ⟨e,h,c⟩:=CK (Yj hΓ hex hvc hun hQ)
