import Derived.Test.YtjdchfljifacoaaGreatDoorA3
set_option linter.all false
namespace Go.Proofs.YtjdchfljifacoaaGreatDoor.Am
open Go
inductive Tch where
 |l (x:Loc)
 |b (n:Nm)
 deriving Inhabited
def YD:Tch->Loc->Prop|.l x,y=>x=y|.b n,y=>∃j,y=.c n j
def JQ(n:Nm):Nat->Nat->List Tch|_,0=>[]|o,k+1=>.l (.c n o)::JQ n (o+1) k
def Rv:AV->List Tch|.own m _=>[.l (.a m)]|.mp m=>[.l (.c m 0)]|_=>[]
mutual
def Ji(hp:Hp):AV->List Tch|.own n _=>[.l (.a n)]|.elem n _ _ _ _=>[.l (.a n)]|.box n _=>.b n::(CF hp n 0 40).flatMap Rv|.agg cs=>GX hp cs|.tup cs=>GX hp cs|.clo _ xs ys=>GX hp xs++GX hp ys|_=>[]
def GX(hp:Hp):List AV->List Tch|[]=>[]|c::cs=>Ji hp c++GX hp cs
end
def dE(sz:Nat):AV->List Tch|.box n o=>JQ n o sz|.elem n _ _ _ _=>[.l (.a n)]|_=>[]
def Xk(hp:Hp)(sz:Nat)(a x:AV):List Tch:=match a with|.box n o=>JQ n o sz|.elem n _ _ _ _=>[.l (.a n)]++(match x.cells with|some cs=>GX hp cs|none=>[])|_=>[]
def Wa:AV->List Tch|.mp n=>[.l (.c n 0)]|_=>[]
def DG(env:Ar)(hp:Hp)(g:Bool):AK->List Tch|.ld sz _ x=>dE sz (Ay g (Ax env x))|.st sz a x=>Xk hp sz (Ay g (Ax env a)) (Ay g (Ax env x))|.ia _ x _=>Ji hp (Ay g (Ax env x))|.len x=>Ji hp (Ay g (Ax env x))|.b2s x=>Ji hp (Ay g (Ax env x))|.app _ _ _ s x=>Ji hp (Ay g (Ax env s))++Ji hp (Ay g (Ax env x))|.slc _ x _ _ _=>Ji hp (Ay g (Ax env x))|.cap _|.appn _ _ _ _ _=>[]|.mkm|.rng _|.nxt _|.mks _ _ _ _ _|.ent _=>[]|.mlk _ _ m _=>Wa (Ay g (Ax env m))|.mup m _ x=>Wa (Ay g (Ax env m))++Ji hp (Ay g (Ax env x))|.bsl _ _ _ ps=>GX hp ((ps.map λ(i,x)=>(i,Ay g (Ax env x))).map (·.2))|.call _ as=>GX hp (as.map λx=>Ay g (Ax env x))|.cv x as=>Ji hp (Ay g (Ax env x))++GX hp (as.map λx=>Ay g (Ax env x))|.clr _ _ _|.allocB _|.pan _|.dfr _|.rcv|.pr _ _|.mv _|.pick _ _ _|.box _ _|.alloc _|.build _ _|.fa _ _|.fld _ _ _ _|.iaA _ _ _ _|.idxA _ _ _ _ _=>[]|.bin _ _ _ _|.un _ _|.ext _ _|.mm _ _|.mkf _ _ _|.nilc _|.cnv _ _|.nils _ _|.bad=>[]
def Ag(hp hp':Hp)(L:List Tch):Prop:=∀t∈L,∀l,YD t l->hl hp l=hl hp' l
theorem Ag.left{hp hp':Hp}{L M:List Tch}(h:Ag hp hp' (L++M)):Ag hp hp' L:=λl hl=>h l (by grind)
theorem Ag.right{hp hp':Hp}{L M:List Tch}(h:Ag hp hp' (L++M)):Ag hp hp' M:=λl hl=>h l (by grind)
theorem Ag.head{hp hp':Hp}{l:Loc}{L:List Tch}(h:Ag hp hp' (.l l::L)):hl hp l=hl hp' l:=h (.l l) (by simp) l rfl
theorem Ag.headb{hp hp':Hp}{n:Nm}{L:List Tch}(h:Ag hp hp' (.b n::L))(j:Nat):hl hp (.c n j)=hl hp' (.c n j):=h (.b n) (by simp) _ ⟨j,rfl⟩
theorem Ag.tail{hp hp':Hp}{l:Tch}{L:List Tch}(h:Ag hp hp' (l::L)):Ag hp hp' L:=λm hm=>h m (by simp[hm])
theorem QK{hp hp':Hp}{n:Nm}:∀{k o:Nat},Ag hp hp' (JQ n o k)->G8 hp n o k=G8 hp' n o k
 |0,_,_=>rfl
 |k+1,o,h=>by simp only[G8,h.head,QK h.tail]
theorem QL{hp hp':Hp}{n:Nm}:∀{cs:List AV}{o:Nat},Ag hp hp' (JQ n o cs.length)->KH hp n o cs=KH hp' n o cs
 |[],_,_=>rfl
 |c::cs,o,h=>by simp only[KH,h.head,QL h.tail]
theorem HQ{hp hp':Hp}{n:Nm}(h:∀j,hl hp (.c n j)=hl hp' (.c n j)):∀{k o:Nat},CF hp n o k=CF hp' n o k
 |0,_=>rfl
 |k+1,o=>by simp only[CF,h o,HQ h]
theorem Xl{hp hp':Hp}{c:AV}(h:Ag hp hp' (Rv c)):MT hp c=MT hp' c/\PR hp c=PR hp' c:=by
 cases c with
 |own m l=>simp_all[MT,PR,h.head]
 |_=>exact⟨rfl,rfl⟩
theorem Pw{hp hp':Hp}:∀{cs:List AV},Ag hp hp' (cs.flatMap Rv)->cs.map (MT hp)=cs.map (MT hp')/\LX hp cs=LX hp' cs
 |[],_=>⟨rfl,rfl⟩
 |c::cs,h=>by
  obtain⟨h1,h2⟩:=Xl h.left;obtain⟨h3,h4⟩:=Pw h.right
  simp_all[LX]
mutual
theorem N8{hp hp':Hp}:∀{x:AV},Ag hp hp' (Ji hp x)->res hp x=res hp' x/\FI hp x=FI hp' x
 |.own n l,h=>by simp_all[res,FI,h.head]
 |.box n l,h=>by have e:=HQ h.headb (k:=40) (o:=0);obtain⟨h1,h2⟩:=Pw h.tail;simp only[res,FI,h1];grind
 |.agg cs,h=>by
  obtain⟨h1,h2⟩:=FN h
  simp_all[res,FI]
 |.tup cs,h=>by
  obtain⟨h1,h2⟩:=FN h
  simp_all[res,FI]
 |.clo f xs ys,h=>by
  obtain⟨h1,h2⟩:=FN h.left;obtain⟨h3,h4⟩:=FN h.right
  simp_all[res,FI]
 |.v _,_=>⟨rfl,rfl⟩
 |.sl _ _ _ _,_=>⟨rfl,rfl⟩
 |.ro _ _,_=>⟨rfl,rfl⟩
 |.elem _ _ _ _ _,_=>⟨rfl,rfl⟩
 |.gd _ _,_=>⟨rfl,rfl⟩
 |.mp _,_=>⟨rfl,rfl⟩
 |.un,_=>⟨rfl,rfl⟩
theorem FN{hp hp':Hp}:∀{xs:List AV},Ag hp hp' (GX hp xs)->EP hp xs=EP hp' xs/\E2 hp xs=E2 hp' xs
 |[],_=>⟨rfl,rfl⟩
 |x::xs,h=>by
  obtain⟨h1,h2⟩:=N8 h.left;obtain⟨h3,h4⟩:=FN h.right
  simp_all[EP,E2]
end
theorem Ku{hp hp':Hp}:∀{ns:List Nm},(∀n∈ns,hl hp (.a n)=hl hp' (.a n))->frz hp ns=frz hp' ns
 |[],_=>rfl
 |n::ns,h=>by
  have ih:frz hp ns=frz hp' ns:=Ku λm hm=>by grind
  grind[frz]
mutual
theorem YE{hp:Hp}{n:Nm}:∀{x:AV},n∈Fl x->Tch.l (.a n)∈Ji hp x
 |.own m l,h=>by simp[Fl]at h;subst h;simp[Ji]
 |.agg cs,h=>by exact IX h
 |.tup cs,h=>by exact IX h
 |.clo f xs ys,h=>by simp only[Fl,y7]at h;simp only[Ji,y7];exact h.imp IX IX
 |.box _ _,h=>by simp[Fl]at h
 |.v _,h=>by simp[Fl]at h
 |.sl _ _ _ _,h=>by simp[Fl]at h
 |.ro _ _,h=>by simp[Fl]at h
 |.elem _ _ _ _ _,h=>by simp[Fl]at h
 |.gd _ _,h=>by simp[Fl]at h
 |.mp _,h=>by simp[Fl]at h
 |.un,h=>by simp[Fl]at h
theorem IX{hp:Hp}{n:Nm}:∀{xs:List AV},n∈Dy xs->Tch.l (.a n)∈GX hp xs
 |[],h=>by simp[Dy]at h
 |x::xs,h=>by simp only[Dy,y7]at h;simp only[GX,y7];exact h.imp YE IX
end
theorem Vk{hp hp':Hp}{sz:Nat}{x:AV}(h:Ag hp hp' (Ji hp x)):MU hp sz x=MU hp' sz x:=by
 cases x with
 |own n l=>grind[MU,h.head]
 |v x=>
  cases x with
  |slice b n c=>cases n<;>rfl
  |_=>rfl
 |_=>rfl
theorem P2{hp:Hp}{n:Nm}:∀{xs:List AV},Fh xs=some n->Tch.b n∈GX hp xs
 |[],h=>by simp[Fh]at h
 |c::cs,h=>by
  simp only[GX,y7];cases c with
  |box m o=>grind[Fh,Ji]
  |_=>exact .inr (P2 (by simpa[Fh]using h))
theorem Mr{hp hp':Hp}{X:AV}(h:Ag hp hp' (Wa X)):I2 hp X=I2 hp' X:=by
 cases X with
 |mp n=>grind[I2,h.head]
 |v x=>
  cases x with
  |map r=>cases r<;>rfl
  |_=>rfl
 |_=>rfl
theorem YF{hp hp':Hp}{c:AV}(h:Ag hp hp' (Rv c)):I3 hp c=I3 hp' c:=by
 cases c with
 |mp m=>simp only[I3,Mr (X:=.mp m) h]
 |_=>rfl
theorem Xm{hp hp':Hp}{cs:List AV}(h:Ag hp hp' (cs.flatMap Rv)):cs.map (I3 hp)=cs.map (I3 hp'):=List.map_congr_left λc hc=>YF λt ht=>h t (by grind)
theorem dF{hp hp':Hp}{x:AV}(h:Ag hp hp' (Ji hp x)):qv hp x=qv hp' x:=by
 cases x with
 |box n o=>have e:=HQ h.headb (k:=40) (o:=0);grind[qv,Xm,h.tail]
 |_=>rfl
theorem lN{hp:Hp}{xs:List AV}{x:AV}(hx:x∈xs):∀t∈Ji hp x,t∈GX hp xs:=by induction xs<;>grind[GX]
theorem Sf{hp hp':Hp}{xs:List AV}(h:Ag hp hp' (GX hp xs)):xs.map (qv hp)=xs.map (qv hp'):=List.map_congr_left λ_ hx=>dF λt ht=>h t (lN hx t ht)
theorem Vl{S:Tab}{hp hp':Hp}{f:Nat}:∀{xs:List AV},Ag hp hp' (GX hp xs)->OX S hp f xs=OX S hp' f xs
 |[],_=>rfl
 |x::xs,h=>by
  obtain⟨h1,h2⟩:=FN h.right;have h3:=Ku λn hn=>h.right _ (IX hn) _ rfl
  cases x with
  |own n l=>have hn:=h.left.head;simp only[OX,hn,h1,h2,h3]
  |_=>rfl
theorem N9{S:Tab}{hp hp':Hp}{nm:Nm}{f:Nat}{xs:List AV}(h:Ag hp hp' (GX hp xs)):I5 S hp nm f xs=I5 S hp' nm f xs:=by
 obtain⟨h1,h2⟩:=FN h;have h0:=Sf h;have h3:=Ku λn hn=>h _ (IX hn) _ rfl
 have h4:=λn hn j=>h (.b n) (P2 hn) _ ⟨j,rfl⟩
 simp only[I5,h0,h1,h2,h3];cases hb:Fh xs with
 |none=>simp only[Vl h]
 |some n=>
  have h5:=h4 n hb;have h6:IM hp n=IM hp' n:=by unfold IM;simp only[h5]
  simp only[HQ h5,h6]
theorem Rx{hp:Hp}:∀{xs ys:List AV},GX hp (xs++ys)=GX hp xs++GX hp ys
 |[],ys=>rfl
 |x::xs,ys=>by simp only[A10,GX,Rx,A06]
theorem AW{env env':Ar}{x:Opd}(h:∀t∈Cx x,lk env t=lk env' t):Ax env x=Ax env' x:=by
 cases x with
 |t n=>exact h n (by simp[Cx])
 |k x=>rfl
theorem Gp{env env':Ar}{g:Bool}:∀{xs:List Opd},(∀t∈Ib xs,lk env t=lk env' t)->xs.map (λx=>Ay g (Ax env x))=xs.map (λx=>Ay g (Ax env' x))
 |[],_=>rfl
 |x::xs,h=>by simp only[Ib,List.flatMap_cons,y7]at h;simp only[w5];rw[AW λt ht=>h t (.inl ht),Gp λt ht=>h t (.inr ht)]
theorem Wb{S:Tab}{env env':Ar}{hp:Hp}{nm:Nm}{g:Bool}{k:AK}(h:∀t∈Kq k,lk env t=lk env' t):AF S env hp nm g k=AF S env' hp nm g k/\DG env hp g k=DG env' hp g k:=by
 cases k with
 |pr p xs=>simp only[AF,DG,Gp h,and_self]
 |b2s x=>simp only[AF,DG,AW h,and_self]
 |mv x=>simp only[AF,DG,AW h,and_self]
 |pick c a b=>
  simp only[Kq,y7]at h;have h1:=AW λt ht=>h t (.inl (.inl ht))
  have h2:=AW λt ht=>h t (.inl (.inr ht))
  have h3:=AW λt ht=>h t (.inr ht)
  simp_all[AF,DG]
 |box n x=>simp only[AF,DG,AW h,and_self]
 |alloc z=>exact⟨rfl,rfl⟩
 |build z ps=>
  have:ps.map (λ(o,s,x)=>(o,s,Ay g (Ax env x)))=ps.map (λ(o,s,x)=>(o,s,Ay g (Ax env' x))):=by apply List.map_congr_left;rintro⟨o,s,x⟩ hm;simp only[AW λt ht=>h t (List.mem_flatMap.2 ⟨_,hm,ht⟩)]
  exact⟨congrArg (Lj z) this,rfl⟩
 |bsl sz len z ps=>
  have:ps.map (λ(i,x)=>(i,Ay g (Ax env x)))=ps.map (λ(i,x)=>(i,Ay g (Ax env' x))):=by apply List.map_congr_left;rintro⟨i,x⟩ hm;simp only[AW λt ht=>h t (List.mem_flatMap.2 ⟨_,hm,ht⟩)]
  exact⟨congrArg (Ke hp nm sz len z) this,by rw[DG,DG,this]⟩
 |ld sz ag x=>simp only[AF,DG,AW h,and_self]
 |st sz a x=>
  simp only[Kq,y7]at h;have h1:=AW λt ht=>h t (.inl ht)
  have h2:=AW λt ht=>h t (.inr ht)
  simp only[AF,DG,h1,h2,and_self]
 |fa o x=>simp only[AF,DG,AW h,and_self]
 |fld o s ag x=>simp only[AF,DG,AW h,and_self]
 |ia sz x i=>
  simp only[Kq,y7]at h;have h1:=AW λt ht=>h t (.inl ht)
  have h2:=AW λt ht=>h t (.inr ht)
  simp only[AF,DG,h1,h2,and_self]
 |iaA n sz x i=>
  simp only[Kq,y7]at h;have h1:=AW λt ht=>h t (.inl ht)
  have h2:=AW λt ht=>h t (.inr ht)
  simp only[AF,DG,h1,h2,and_self]
 |idxA n sz ag x i=>
  simp only[Kq,y7]at h;have h1:=AW λt ht=>h t (.inl ht)
  have h2:=AW λt ht=>h t (.inr ht)
  simp only[AF,DG,h1,h2,and_self]
 |bin op tk x y=>
  simp only[Kq,y7]at h;have h1:=AW λt ht=>h t (.inl ht)
  have h2:=AW λt ht=>h t (.inr ht)
  cases tk<;>simp only[AF,DG,h1,h2,and_self]
 |un op x=>simp only[AF,DG,AW h,and_self]
 |ext x i=>simp only[AF,DG,AW h,and_self]
 |call f as=>simp only[AF,DG,Gp h,and_self]
 |cv x as=>
  simp only[Kq,y7]at h;have h1:=AW λt ht=>h t (.inl ht)
  have h2:=Gp (g:=g) λt ht=>h t (.inr ht)
  simp only[AF,DG,h1,h2,and_self]
 |len x=>simp only[AF,DG,AW h,and_self]
 |app sz by' z s x=>
  simp only[Kq,y7]at h;have h1:=AW λt ht=>h t (.inl ht)
  have h2:=AW λt ht=>h t (.inr ht)
  simp only[AF,DG,h1,h2,and_self]
 |mm m xs=>simp only[AF,DG,Gp h,and_self]
 |mkf f a b=>
  simp only[Kq,y7]at h;have h1:=Gp (g:=g) λt ht=>h t (.inl ht)
  have h2:=Gp (g:=g) λt ht=>h t (.inr ht)
  simp only[AF,DG,h1,h2,and_self]
 |slc sz x l hh m=>
  simp only[Kq,y7]at h;have e1:=AW λt ht=>h t (.inl (.inl (.inl ht)))
  have eo:∀y:Option Opd,(∀t∈Ib y.toList,lk env t=lk env' t)->(y.map λx=>Ay g (Ax env x))=(y.map λx=>Ay g (Ax env' x)):=by intro y hy;cases y<;>grind[AW,Ib]
  simp_all[AF,DG]
 |nilc x=>simp only[AF,DG,AW h,and_self]
 |cnv k x=>simp only[AF,DG,AW h,and_self]
 |nils n x=>simp only[AF,DG,AW h,and_self]
 |cap x=>simp only[AF,DG,AW h,and_self]
 |appn sz by' z s x=>
  simp only[Kq,y7]at h;have h1:=AW λt ht=>h t (.inl ht)
  have h2:=AW λt ht=>h t (.inr ht)
  simp only[AF,DG,h1,h2,and_self]
 |pan x=>exact⟨rfl,rfl⟩
 |dfr x=>exact⟨rfl,rfl⟩
 |rcv=>exact⟨rfl,rfl⟩
 |clr _ _ x=>exact⟨rfl,rfl⟩
 |allocB _=>exact⟨rfl,rfl⟩
 |mks sz by' z s x=>
  simp only[Kq,y7]at h;have h1:=AW λt ht=>h t (.inl ht)
  have h2:=AW λt ht=>h t (.inr ht)
  simp only[AF,DG,h1,h2,and_self]
 |ent x=>exact⟨rfl,rfl⟩
 |mkm=>exact⟨rfl,rfl⟩
 |mlk zd ok m k=>
  simp only[Kq,y7]at h;have h1:=AW λt ht=>h t (.inl ht)
  have h2:=AW λt ht=>h t (.inr ht)
  simp only[AF,DG,h1,h2,and_self]
 |mup m k x=>
  simp only[Kq,y7]at h;have h1:=AW λt ht=>h t (.inl (.inl ht))
  have h2:=AW λt ht=>h t (.inl (.inr ht))
  have h3:=AW λt ht=>h t (.inr ht)
  simp_all[AF,DG]
 |rng x=>exact⟨rfl,rfl⟩
 |nxt x=>exact⟨rfl,rfl⟩
 |bad=>exact⟨rfl,rfl⟩
theorem Vm{hp hp':Hp}{zd X Y:AV}{ok:Bool}(h:Ag hp hp' (Wa X)):LZ hp zd ok X Y=LZ hp' zd ok X Y:=by unfold LZ;rw[Mr h]
theorem Vn{hp hp':Hp}{X Y τ:AV}(h:Ag hp hp' (Wa X++Ji hp τ)):MZ hp X Y τ=MZ hp' X Y τ:=by
 obtain⟨h2,h3⟩:=N8 h.right;have h4:=Ku λn hn=>h.right _ (YE hn) _ rfl
 have h1:=Mr h.left;cases X<;>simp_all[MZ]
theorem Vo{hp hp':Hp}{nm:Nm}{sz len:Nat}{z:List AV}{qs:List (Nat×AV)}(h2:E2 hp (qs.map (·.2))=E2 hp' (qs.map (·.2)))(h3:frz hp (Dy (qs.map (·.2)))=frz hp' (Dy (qs.map (·.2))))(h4:qs.map (λ(i,x)=>(i,res hp x))=qs.map (λ(i,x)=>(i,res hp' x))):Ke hp nm sz len z qs=Ke hp' nm sz len z qs:=by unfold Ke;rw[h4,h2,h3]
theorem lO{hp hp':Hp}{xs:List AV}(h:Ag hp hp' (GX hp xs)):∀x∈xs,res hp x=res hp' x:=by
 induction xs with
 |nil=>intro x hx;cases hx
 |cons y ys ih=>grind[N8,h.left,h.right]
theorem dG{f g:AV->AV}{qs:List (Nat×AV)}(h:∀x∈qs.map (·.2),f x=g x):qs.map (λ(i,x)=>(i,f x))=qs.map (λ(i,x)=>(i,g x)):=by apply List.map_congr_left;grind
theorem YG{hp hp':Hp}{nm:Nm}{sz len:Nat}{z:List AV}{qs:List (Nat×AV)}(h:Ag hp hp' (GX hp (qs.map (·.2)))):Ke hp nm sz len z qs=Ke hp' nm sz len z qs:=Vo (FN h).2 (Ku λn hn=>h _ (IX hn) _ rfl) (dG (lO h))
theorem YH{S:Tab}{env:Ar}{hp hp':Hp}{nm:Nm}{g:Bool}{k:AK}(h:Ag hp hp' (DG env hp g k)):AF S env hp nm g k=AF S env hp' nm g k:=by
 cases k with
 |ld sz ag x=>
  simp only[AF,DG]at h⊢;generalize Ay g (Ax env x)=X at h⊢;cases X with
  |box n o=>grind[dE,Iq,QK]
  |elem n l z i o=>grind[Iq,h.head]
  |v X=>cases X with
   |pointer p=>cases p with
    |some ad=>obtain⟨_,_,sp⟩:=ad;cases sp<;>rfl
    |none=>rfl
   |_=>rfl
  |_=>rfl
 |st sz a x=>
  simp only[AF,DG]at h⊢;generalize Ay g (Ax env x)=X at h⊢;generalize Ay g (Ax env a)=A at h⊢;unfold Tj;cases hc:X.cells with
  |none=>rfl
  |some cs=>
   by_cases hl':cs.length=sz
   ·cases A with
    |box n o=>grind[Xk,QL]
    |elem n l z i o=>simp only[Xk,hc]at h;have h1:=h.head;obtain⟨h2,h3⟩:=FN h.tail;simp only[h1,h2,h3]
    |_=>rfl
   grind
 |ia sz x i=>
  simp only[AF,DG]at h⊢;generalize Ay g (Ax env x)=X at h⊢;generalize Ay g (Ax env i)=I at h⊢;cases X with
  |own n l=>
   cases I with
   |v q=>cases q<;>first|rfl|simp only[Rq,h.head]
   |_=>rfl
  |sl _ _ _ _=>
   cases I with
   |v q=>cases q<;>rfl
   |_=>rfl
  |_=>rfl
 |len x=>
  simp only[AF,DG]at h⊢;generalize Ay g (Ax env x)=X at h⊢;cases X with
  |own n l=>grind[O2,h.head]
  |_=>rfl
 |b2s x=>
  simp only[AF,DG]at h⊢;generalize Ay g (Ax env x)=X at h⊢;cases X with
  |own n l=>grind[MW,h.head]
  |_=>rfl
 |app sz by' z s x=>
  simp only[AF,DG]at h⊢;generalize Ay g (Ax env s)=X at h⊢;unfold OY;rw[Vk h.right];cases X with
  |own n l=>have:=h.left;grind[this.head]
  |_=>rfl
 |slc sz x l hh m=>
  simp only[AF,DG]at h⊢;generalize Ay g (Ax env x)=X at h⊢;have e1:∀lo hi mx,LY hp sz X lo hi mx=LY hp' sz X lo hi mx:=by
   intro lo hi mx;unfold LY;cases X with
   |own n l'=>grind[frz,h.head]
   |_=>rfl
  have e2:∀lo hi mx,Lq hp nm sz X lo hi mx=Lq hp' nm sz X lo hi mx:=by
   intro lo hi mx;cases X with
   |own n l'=>
    rcases lo with _|lo<;>rcases hi with _|hi<;>rcases mx with _|mx<;>try (simp only[Lq,e1])
    all_goals (rcases hi with c|_|_|_|_|_|_|_|_|_|_<;>try (simp only[e1]))
    all_goals (cases c<;>first|(simp only[e1];done)|simp only[h.head])
   |_=>exact e1 lo hi mx
  simp only[e1,e2]
 |bsl sz len z ps=>grind[AF,DG,YG]
 |call f as=>grind[AF,DG,N9]
 |cv x as=>
  simp only[AF,DG]at h⊢;generalize Ay g (Ax env x)=X at h⊢;cases X with
  |clo fn a b=>
   cases fn with
   |func f=>
    refine N9 ?_;rw[Rx,Rx];intro l hl';simp only[y7]at hl';rcases hl' with(h1|h1)|h1
    ·exact h.left.left l h1
    ·exact h.right l h1
    ·exact h.left.right l h1
   |_=>rfl
  |_=>rfl
 |bin op tk x y=>cases tk<;>rfl
 |mlk zd ok m k=>grind[AF,DG,Vm]
 |mup m k x=>grind[AF,DG,Vn]
 |_=>rfl
def MF(env:Ar)(hp:Hp)(o:AOp):List Tch:=match D8 env o.g with|some g=>DG env hp g o.k|none=>[]
theorem Ng{S:Tab}{nm:Nm}{env env':Ar}{hp hp':Hp}{o:AOp}(ht:∀t∈Lu o,lk env t=lk env' t)(hh:Ag hp hp' (MF env hp o)):HL S nm env hp o=HL S nm env' hp' o:=by
 have hk:∀g,AF S env hp nm g o.k=AF S env' hp nm g o.k:=by grind[Wb,Lu]
 have hrd:∀g,DG env hp g o.k=DG env' hp g o.k:=λg=>(Wb (S:=S) (nm:=nm) λt h=>ht t (by simp[Lu,h])).2
 have hg:D8 env o.g=D8 env' o.g:=by
  cases hgo:o.g with
  |none=>rfl
  |some p=>obtain⟨t,w⟩:=p;simp only[D8];rw[ht t (by simp[Lu,hgo])]
 unfold HL;cases hgo:o.g with
 |none=>
  have h2:D8 env o.g=some true:=by rw[hgo];rfl
  grind[MF,YH]
 |some p=>
  simp;rw[<-hgo,<-hg];cases hgv:D8 env o.g with
  |none=>rfl
  |some g=>simp;simp only[MF,hgv]at hh;rw[hrd]at hh;rw[hk g,YH hh]
theorem MG{o:Option (Prop×AV)}{vc:Prop}{r:AV}{ws:Hp}(h:vr o=some (vc,r,ws)):ws=[]:=by unfold vr at h;grind
theorem Wc{S:Tab}{env:Ar}{hp:Hp}{nm:Nm}{g:Bool}{k:AK}{vc:Prop}{r:AV}{ws:Hp}(hk:hw k=false)(h:AF S env hp nm g k=some (vc,r,ws)):ws=[]:=by
 cases k with
 |box _ _=>simp[hw]at hk
 |alloc _=>simp[hw]at hk
 |bsl _ _ _ _=>simp[hw]at hk
 |st _ _ _=>simp[hw]at hk
 |call _ _=>simp[hw]at hk
 |cv _ _=>simp[hw]at hk
 |app _ _ _ _ _=>simp[hw]at hk
 |slc _ _ _ _ _=>simp[hw]at hk
 |appn _ _ _ _ _=>simp[hw]at hk
 |cap x=>simp only[AF]at h;unfold Qj at h;split at h<;>simp at h<;>exact h.2.2
 |pr p xs=>exact MG h
 |b2s x=>simp only[AF]at h;unfold MW at h;grind
 |mv x=>simp[AF]at h;exact h.2.2
 |pick c a b=>simp only[AF,NS]at h;grind
 |build z ps=>grind[AF,Lj]
 |ld sz ag x=>simp only[AF]at h;unfold Iq at h;grind[MG]
 |fa o x=>simp only[AF]at h;unfold MX at h;split at h<;>simp at h<;>exact h.2.2
 |fld o s ag x=>simp only[AF]at h;unfold OZ at h;grind[MG]
 |ia sz x i=>simp only[AF]at h;unfold Rq at h;grind
 |iaA n sz x i=>simp only[AF]at h;unfold Qk at h;split at h<;>simp at h<;>exact h.2.2
 |idxA n sz ag x i=>simp only[AF]at h;unfold NT at h;grind[MG]
 |bin op tk x y=>
  cases tk with
  |cells n=>simp only[AF]at h;unfold Ql at h;grind
  |_=>exact MG h
 |un op x=>exact MG h
 |ext x i=>simp only[AF]at h;unfold O1 at h;grind
 |len x=>simp only[AF]at h;unfold O2 at h;grind
 |mm m xs=>simp only[AF]at h;unfold Rr at h;grind
 |mkf f a b=>simp[AF]at h;exact h.2.2
 |nilc x=>simp only[AF]at h;unfold Qm at h;split at h<;>simp at h<;>exact h.2.2
 |cnv k x=>
  simp only[AF]at h;unfold Qn at h;split at h<;>simp at h
  exact h.2.2
 |nils n x=>simp only[AF]at h;unfold NU at h;split at h<;>simp at h<;>exact h.2.2
 |pan x=>simp[AF]at h
 |dfr x=>simp[AF]at h
 |rcv=>simp[AF]at h
 |clr _ _ _=>simp[AF]at h
 |allocB _=>simp[AF]at h
 |mkm=>simp[hw]at hk
 |mks _ _ _ _ _=>simp[hw]at hk
 |ent _=>simp[AF]at h
 |mup _ _ _=>simp[hw]at hk
 |rng _=>simp[AF]at h
 |nxt _=>simp[AF]at h
 |mlk zd ok m k=>simp only[AF]at h;unfold LZ at h;grind
 |bad=>simp[AF]at h
theorem P3{S:Tab}{env:Ar}{hp:Hp}{nm:Nm}{o:AOp}{vc:Prop}{r:AV}{ws:Hp}(hk:hw o.k=false)(h:HL S nm env hp o=some (vc,r,ws)):ws=[]:=by grind[HL,Wc]
theorem Pa{env:Ar}{hp:Hp}{o:AOp}(hk:ht o.k=false):MF env hp o=[]:=by
 unfold MF;split
 ·cases hc:o.k<;>simp[hc,ht,hw]at hk<;>rfl
 ·rfl
structure Rec where
 d:Option Nat
 r:AV
 ws:Hp
 rd:List Tch
 deriving Inhabited
def Nh(S:Tab)(ver:Nat):Nat->List AOp->Ar->Hp->Option (Prop×Ar×Hp×List Rec)|_,[],env,hp=>some (True,env,hp,[])|k,o::r,env,hp=>match HL S (k,ver) env hp o with|none=>none|some (vc,x,ws)=>match Nh S ver (k+1) r (BQ o.d x env) (ws++hp)with|none=>none|some (vcs,e,h,rs)=>some (vc/\vcs,e,h,⟨o.d,x,ws,bif ht o.k then MF env hp o else[]⟩::rs)
def TR:Tch->Loc->Bool|.l x,y=>decide (x=y)|.b n,.c m _=>decide (n=m)|.b _,.a _=>false
theorem Wd{t:Tch}{l:Loc}(h:YD t l):TR t l=true:=by cases t<;>grind[TR,YD]
def Ir(l:Loc)(ws:Hp):Bool:=ws.any λp=>decide (p.1=l)
def Ry(a b:Rec):Bool:=(a.ws.all λp=>(b.rd.all λt=> !TR t p.1)&& !Ir p.1 b.ws)&&b.ws.all λp=>a.rd.all λt=> !TR t p.1
def Ni(recs:List Rec):List (Nat×Nat)->Bool|[]=>true|(k,j)::r=>Ry (recs.getD k default) (recs.getD j default)&&Ni recs r
theorem Lx{B:List Nat}:∀{es:List Nat}{s k:Nat},(es.foldl (λs e=>s|||2^e|||B.getD e 0) s).testBit k=true↔s.testBit k=true\/∃e∈es,k=e\/(B.getD e 0).testBit k=true
 |[],s,k=>by simp
 |e::es,s,k=>by rw[List.foldl_cons,Lx];grind
theorem K8{B:List Nat}:∀{l:List Oper}{j:Nat},QA B j l=true->∀i o,l[i]? =some o->(∀e∈Di o,e<j+i)/\B.getD (j+i) 0=Hl B (Di o)
 |[],_,_,i,o,ho=>by simp at ho
 |p::r,j,h,i,o,ho=>by
  simp only[QA,y8,s7]at h;cases i with
  |zero=>grind
  |succ i=>have:=K8 h.2 i o (by simpa using ho);grind
theorem Nj{a b:AOp}(h:Ic a b=true):(∀t,a.d=some t->t∉Lu b/\b.d≠some t)/\∀t,b.d=some t->t∉Lu a:=by unfold Ic at h;grind
theorem K9{B:Nat}{o:AOp}:∀{l:List AOp}{k:Nat},QB B o k l=true->∀i p,l[i]? =some p->B.testBit (k+i)=true\/Ic p o=true
 |[],_,_,i,p,hp=>by simp at hp
 |q::r,k,h,i,p,hp=>by
  simp only[QB,y8]at h;cases i with
  |zero=>grind
  |succ i=>have:=K9 h.2 i p (by simpa using hp);grind
theorem La{B j:Nat}{o:AOp}:∀{l:List AOp}{k:Nat},∀i p,l[i]? =some p->B.testBit (k+i)=true\/((hw p.k&&ht o.k)||(ht p.k&&hw o.k))=false\/(k+i,j)∈O7 B j o k l
 |[],_,i,p,hp=>by simp at hp
 |q::r,k,i,p,hp=>by
  simp only[O7];cases i with
  |zero=>grind
  |succ i=>
   rcases La (B:=B) (j:=j) (o:=o) (k:=k+1) i p (by simpa using hp)with h|h|h
   all_goals grind
theorem Nk{B:List Nat}{all:List AOp}:∀{l:List AOp}{j:Nat},YA B all j l=true->∀i o,l[i]? =some o->QB (B.getD (j+i) 0) o 0 (all.take (j+i))=true
 |[],_,_,i,o,ho=>by simp at ho
 |q::r,j,h,i,o,ho=>by
  simp only[YA,y8]at h;cases i with
  |zero=>grind
  |succ i=>have:=Nk h.2 i o (by simpa using ho);grind
theorem Nl{B:List Nat}{all:List AOp}:∀{l:List AOp}{j:Nat},∀i o,l[i]? =some o->∀x∈O7 (B.getD (j+i) 0) (j+i) o 0 (all.take (j+i)),x∈YB B all j l
 |[],_,i,o,ho=>by simp at ho
 |q::r,j,i,o,ho=>by
  intro x hx;simp only[YB,y7];cases i with
  |zero=>grind
  |succ i=>right;refine Nl i o (by simpa using ho) x ?_;grind
theorem Oa{recs:List Rec}:∀{u:List (Nat×Nat)},Ni recs u=true->∀k j,(k,j)∈u->Ry (recs.getD k default) (recs.getD j default)=true
 |[],_,k,j,h=>by simp at h
 |(a,b)::r,h,k,j,hm=>by
  simp only[Ni,y8]at h;rcases y6.1 hm with e|e
  ·grind
  ·exact Oa h.2 k j e
theorem Ob{a b:Rec}(h:Ry a b=true)(l:Loc):(Ir l a.ws=true->(∀t∈b.rd,¬YD t l)/\Ir l b.ws=false)/\(Ir l b.ws=true->∀t∈a.rd,¬YD t l):=by
 simp only[Ry,List.all_eq_true]at h;constructor
 ·intro hl;simp only[Ir,List.any_eq_true]at hl;grind[Wd]
 ·intro hl t ht hc;simp only[Ir,List.any_eq_true]at hl;grind[Wd]
def EQ(rec:Nat->Rec)(env:Ar):List Nat->Ar|[]=>env|i::L=>BQ (rec i).d (rec i).r (EQ rec env L)
def GM(rec:Nat->Rec)(hp:Hp):List Nat->Hp|[]=>hp|i::L=>(rec i).ws++GM rec hp L
theorem QM{d:Option Nat}{x:AV}{env:Ar}{t:Nat}:lk (BQ d x env) t=if d=some t then x else lk env t:=by cases d<;>grind[BQ,lk]
theorem rC{ws h:Hp}{l:Loc}(hn:Ir l ws=false):hl (ws++h) l=hl h l:=by
 induction ws with
 |nil=>rfl
 |cons w ws ih=>simp only[Ir,List.any_cons,Bool.or_eq_false_iff,s8]at hn;simp only[A10,hl,t7 hn.1];exact ih hn.2
theorem dH{ws h h':Hp}{l:Loc}(e:hl h l=hl h' l):hl (ws++h) l=hl (ws++h') l:=by induction ws<;>grind[hl]
theorem Iu{rec:Nat->Rec}{env:Ar}{t:Nat}:∀(L:List Nat),lk (EQ rec env L) t=lk (EQ rec env (L.filter λi=>decide ((rec i).d=some t))) t
 |[]=>rfl
 |i::L=>by
  rw[List.filter_cons];simp only[EQ,QM];by_cases h:(rec i).d=some t
  ·simp[h,EQ,QM]
  ·simp only[h,yF];exact Iu L
theorem Ie{rec:Nat->Rec}{hp:Hp}{l:Loc}:∀(L:List Nat),hl (GM rec hp L) l=hl (GM rec hp (L.filter λi=>Ir l (rec i).ws)) l
 |[]=>rfl
 |i::L=>by
  rw[List.filter_cons];simp only[GM];cases h:Ir l (rec i).ws with
  |true=>exact dH (Ie L)
  |false=>rw[rC h];exact Ie L
theorem Sg:∀{L M:List Nat},L.Pairwise (·>·)->M.Pairwise (·>·)->(∀i,i∈L↔i∈M)->L=M
 |[],[],_,_,_=>rfl
 |[],m::M,_,_,h=>by have:=(h m).2 (by simp);simp at this
 |l::L,[],_,_,h=>by have:=(h l).1 (by simp);simp at this
 |l::L,m::M,h1,h2,h=>by
  rw[A25]at h1 h2;have e:l=m:=by
   rcases y6.1 ((h l).1 (by simp))with e|e
   ·exact e
   ·rcases y6.1 ((h m).2 (by simp))with e'|e'
    all_goals grind
  subst e;rw[Sg h1.2 h2.2 λi=>?_];grind
def DO:Nat->List Nat|0=>[]|n+1=>n::DO n
theorem FF:∀{n i:Nat},i∈DO n↔i<n
 |0,i=>by simp[DO]
 |n+1,i=>by simp only[DO,y6,FF];omega
theorem Px:∀n,(DO n).Pairwise (·>·)
 |0=>.nil
 |n+1=>A25.2 ⟨λi hi=>FF.1 hi,Px n⟩
theorem Ma{p:Nat->Bool}{L:List Nat}{j:Nat}(hL:(L.filter p).Pairwise (·>·))(hm:∀i,p i=true->(i∈L↔i<j)):L.filter p=(DO j).filter p:=Sg hL ((Px j).filter p) λi=>by grind[FF]
def IB(X:Nat->Ar->Hp->AOp->Option (Prop×AV×Hp)):Nat->List AOp->Ar->Hp->Option (Prop×Ar×Hp×List Rec)|_,[],env,hp=>some (True,env,hp,[])|k,o::r,env,hp=>match X k env hp o with|none=>none|some (vc,x,ws)=>match IB X (k+1) r (BQ o.d x env) (ws++hp)with|none=>none|some (vcs,e,h,rs)=>some (vc/\vcs,e,h,⟨o.d,x,ws,bif ht o.k then MF env hp o else[]⟩::rs)
theorem TS{S:Tab}{ver:Nat}:∀(l:List AOp)(k:Nat)(e:Ar)(h:Hp),Nh S ver k l e h=IB (λi e h o=>HL S (i,ver) e h o) k l e h
 |[],_,_,_=>rfl
 |o::l,k,e,h=>by simp only[Nh,IB,TS l]
theorem Lb{X:Nat->Ar->Hp->AOp->Option (Prop×AV×Hp)}{bs:Nat}{rec:Nat->Rec}{env0:Ar}{hp0:Hp}{all:List AOp}:∀(l:List AOp)(k:Nat)(rs:List Rec)(vc:Prop)(e:Ar)(h:Hp),(∀i,l[i]? =all[k+i]?)->IB X (bs+k) l (EQ rec env0 (DO k)) (GM rec hp0 (DO k))=some (vc,e,h,rs)->vc->(∀i,i<l.length->rs[i]? =some (rec (k+i)))->e=EQ rec env0 (DO (k+l.length))/\h=GM rec hp0 (DO (k+l.length))/\∀i o,l[i]? =some o->∃vc:Prop,vc/\X (bs+(k+i)) (EQ rec env0 (DO (k+i))) (GM rec hp0 (DO (k+i))) o=some (vc,(rec (k+i)).r,(rec (k+i)).ws)/\(rec (k+i)).d=o.d/\(rec (k+i)).rd=MF (EQ rec env0 (DO (k+i))) (GM rec hp0 (DO (k+i))) o
 |[],k,rs,vc,e,h,_,hex,_,_=>by grind[IB]
 |o::l,k,rs,vc,e,h,hl',hex,hvc,hrs=>by
  simp only[IB]at hex;split at hex
  ·simp at hex
  rename_i v1 r1 ws1 hex1;split at hex
  ·simp at hex
  rename_i v2 e2 h2 rs2 hex2;simp only[yE,A57]at hex;obtain⟨rfl,rfl,rfl,rfl⟩:=hex;have h0:=hrs 0 (by simp);simp at h0;have hd:(rec k).d=o.d:=by rw[<-h0]
  have hr:(rec k).r=r1:=by rw[<-h0]
  have hw':(rec k).ws=ws1:=by rw[<-h0]
  have hrd:(rec k).rd=MF (EQ rec env0 (DO k)) (GM rec hp0 (DO k)) o:=by
   rw[<-h0];cases hk:ht o.k with
   |true=>rfl
   |false=>simp_all[Pa]
  have ih:=Lb (all:=all) (rec:=rec) l (k+1) rs2 v2 e2 h2 (λi=>by have:=hl' (i+1);grind)
   (by simp only[DO,EQ,GM,hd,hr,hw'];exact hex2) hvc.2 (λi hi=>by have:=hrs (i+1) (by simp;omega);grind)
  grind
structure Good(P:Program)(X:Nat->Ar->Hp->Option (Prop×AV×Hp))(nt n:Nat)(ops:Array Oper)(B:List Nat)(rec:Nat->Rec)(env0:Ar)(hp0:Hp)(ao:Nat->AOp):Prop where
 cg:∀i env env' hp hp',(∀t∈Lu (ao i),lk env t=lk env' t)->Ag hp hp' (MF env hp (ao i))->X i env hp=X i env' hp'
 sz:n<=ops.size
 bef:∀i o,ops[i]? =some o->(∀e∈Di o,e<i)/\B.getD i 0=Hl B (Di o)
 op:∀i o,ops[i]? =some o->JI P nt ops o=some (ao i)
 run:∀i,i<n->∃vc:Prop,vc/\X i (EQ rec env0 (DO i)) (GM rec hp0 (DO i))=some (vc,(rec i).r,(rec i).ws)/\(rec i).d=(ao i).d/\(rec i).rd=MF (EQ rec env0 (DO i)) (GM rec hp0 (DO i)) (ao i)
 tmp:∀k j,k<j->j<n->(B.getD j 0).testBit k=true\/Ic (ao k) (ao j)=true
 mem:∀k j,k<j->j<n->(B.getD j 0).testBit k=true\/Ry (rec k) (rec j)=true\/((rec k).ws=[]/\(rec j).ws=[])\/((rec j).ws=[]/\(rec j).rd=[])\/((rec k).ws=[]/\(rec k).rd=[])
structure Done(n:Nat)(B:List Nat)(L:List Nat):Prop where
 lt:∀i∈L,i<n
 cl:∀j∈L,∀k,(B.getD j 0).testBit k=true->k∈L
 pw:L.Pairwise λa b=>a≠b/\¬(B.getD b 0).testBit a=true
section
variable{P:Program}{X:Nat->Ar->Hp->Option (Prop×AV×Hp)}{nt n:Nat}{ops:Array Oper}{B:List Nat}{rec:Nat->Rec}{env0:Ar}{hp0:Hp}{ao:Nat->AOp}{L:List Nat}
theorem Good.bit(G:Good P X nt n ops B rec env0 hp0 ao){i k:Nat}{o:Oper}(ho:ops[i]? =some o):(B.getD i 0).testBit k=true↔∃e∈Di o,k=e\/(B.getD e 0).testBit k=true:=by rw[(G.bef i o ho).2,Hl,Lx];simp
theorem Good.all(G:Good P X nt n ops B rec env0 hp0 ao){L:List Nat}(hD:Done n B L){j:Nat}{o:Oper}(ho:ops[j]? =some o)(he:∀e∈Di o,e∈L):∀k,(B.getD j 0).testBit k=true->k∈L:=by
 intro k hk;obtain⟨e,h1,h2⟩:=(G.bit ho).1 hk;rcases h2 with rfl|h2
 ·exact he _ h1
 ·exact hD.cl e (he e h1) k h2
theorem Done.cons(hD:Done n B L){j:Nat}(hj:j<n)(hn:j∉L)(ha:∀k,(B.getD j 0).testBit k=true->k∈L):Done n B (j::L) where
 lt i hi:=by rcases y6.1 hi with rfl|h;exact hj;exact hD.lt i h
 cl i hi k hk:=by
  rcases y6.1 hi with rfl|h
  ·exact List.mem_cons_of_mem _ (ha k hk)
  ·exact List.mem_cons_of_mem _ (hD.cl i h k hk)
 pw:=A25.2 ⟨λb hb=>⟨λe=>hn (e▸hb),λh=>hn (hD.cl b hb j h)⟩,hD.pw⟩
theorem Done.sorted(hD:Done n B L){p:Nat->Bool}(hp:∀k j,k<j->j<n->p k=true->p j=true->(B.getD j 0).testBit k=true):(L.filter p).Pairwise (·>·):=by
 rw[List.pairwise_filter];refine hD.pw.imp_of_mem ?_;intro a b ha hb ⟨h1,h2⟩ pa pb;rcases Nat.lt_trichotomy a b with h|h|h
 ·exact absurd (hp a b h (hD.lt b hb) pa pb) h2
 all_goals omega
theorem Good.env_pairs(G:Good P X nt n ops B rec env0 hp0 ao)(t:Nat):∀k j,k<j->j<n->decide ((rec k).d=some t)=true->decide ((rec j).d=some t)=true->(B.getD j 0).testBit k=true:=by
 intro k j hk hj h1 h2;obtain⟨_,_,_,d1,_⟩:=G.run k (by omega);obtain⟨_,_,_,d2,_⟩:=G.run j hj;rcases G.tmp k j hk hj with h|h
 all_goals grind[Nj]
theorem Good.hp_pairs(G:Good P X nt n ops B rec env0 hp0 ao)(l:Loc):∀k j,k<j->j<n->Ir l (rec k).ws=true->Ir l (rec j).ws=true->(B.getD j 0).testBit k=true:=by
 intro k j hk hj h1 h2;rcases G.mem k j hk hj with h|h|h|h|h
 all_goals grind[Ob,Ir]
theorem Good.same(G:Good P X nt n ops B rec env0 hp0 ao){L:List Nat}(hD:Done n B L){j:Nat}(hj:j<n)(hn:j∉L)(ha:∀k,(B.getD j 0).testBit k=true->k∈L):X j (EQ rec env0 L) (GM rec hp0 L)=X j (EQ rec env0 (DO j)) (GM rec hp0 (DO j)):=by
 symm;refine G.cg j _ _ _ _ (λt ht=>?_) λt ht l hl'=>?_
 ·rw[Iu L,Iu (DO j)];rw[Ma (hD.sorted (G.env_pairs t)) λi hi=>?_];constructor
  ·intro hL;rcases Nat.lt_trichotomy i j with h|h|h
   ·exact h
   ·subst h;exact absurd hL hn
   ·rcases G.tmp j i h (hD.lt i hL)with g|g
    ·exact absurd (hD.cl i hL j g) hn
    ·obtain⟨_,_,_,d1,_⟩:=G.run i (hD.lt i hL);grind[Nj]
  ·intro h;rcases G.tmp i j h hj with g|g
   ·exact ha i g
   ·obtain⟨_,_,_,d1,_⟩:=G.run i (by omega);grind[Nj]
 ·obtain⟨_,_,_,_,hrd⟩:=G.run j hj;rw[Ie L,Ie (DO j)];rw[Ma (hD.sorted (G.hp_pairs l)) λi hi=>?_];constructor
  ·intro hL;rcases Nat.lt_trichotomy i j with h|h|h
   ·exact h
   ·subst h;exact absurd hL hn
   ·rcases G.mem j i h (hD.lt i hL)with g|g|g|g|g
    ·exact absurd (hD.cl i hL j g) hn
    all_goals grind[Ob,Ir]
  ·intro h;rcases G.mem i j h hj with g|g|g|g|g
   all_goals grind[Ob,Ir]
theorem Good.fin(G:Good P X nt n ops B rec env0 hp0 ao){L:List Nat}(hD:Done n B L)(hall:∀i,i<n->i∈L):(∀t,lk (EQ rec env0 L) t=lk (EQ rec env0 (DO n)) t)/\∀l,hl (GM rec hp0 L) l=hl (GM rec hp0 (DO n)) l:=by
 refine⟨λt=>?_,λl=>?_⟩
 ·rw[Iu L,Iu (DO n)];rw[Ma (hD.sorted (G.env_pairs t)) λi _=>⟨hD.lt i,hall i⟩]
 ·rw[Ie L,Ie (DO n)];rw[Ma (hD.sorted (G.hp_pairs l)) λi _=>⟨hD.lt i,hall i⟩]
theorem P4{nt t:Nat}:∀(L:List Nat),(∀i∈L,∀d,(rec i).d=some d->d<nt)->nt<=t->lk (EQ rec env0 L) t=lk env0 t
 |[],_,_=>rfl
 |i::L,h,ht=>by simp only[EQ];rw[DL (h i (by simp)) ht];exact P4 L (by grind) ht
theorem Good.far(G:Good P X nt n ops B rec env0 hp0 ao)(i:Nat)(hi:i<n):∀d,(rec i).d=some d->d<nt:=by obtain⟨_,_,_,d1,_⟩:=G.run i hi;rw[d1];have hs:=A20 hi G.sz;exact C9 (G.op i ops[i] (by grind))
def left(L:List Nat):Nat->Nat|0=>0|n+1=>left L n+if n∈L then 0 else 1
theorem Oc{L:List Nat}:∀{n:Nat},left L n=0->∀i,i<n->i∈L
 |0,_,i,h=>by omega
 |n+1,h,i,hi=>by
  simp only[left]at h;by_cases hn:n∈L
  ·rcases A52 i n with h'|h'
   ·exact Oc (by omega) i h'
   grind
  grind
theorem Od{L:List Nat}{j:Nat}:∀{n:Nat},n<=j->left (j::L) n=left L n
 |0,_=>rfl
 |n+1,h=>by
  have:n≠j:=by omega
  have ih:left (j::L) n=left L n:=Od (by omega)
  simp_all[left]
theorem Oe{L:List Nat}{j:Nat}(hn:j∉L):∀{n:Nat},j<n->left (j::L) n+1=left L n
 |0,h=>by omega
 |n+1,h=>by
  simp only[left];by_cases e:n=j
  ·subst e;rw[Od (w6 _),t8 (by simp),t7 hn]
  ·have:=Oe hn (n:=n) (by omega);grind
theorem Nn:∀n,left [] n=n
 |0=>rfl
 |n+1=>by simp[left,Nn n]
theorem Xn(L:List Nat):∀n,(∀i,i<n->i∈L)\/∃j,j<n/\j∉L/\∀i,i<j->i∈L
 |0=>by grind
 |n+1=>by
  rcases Xn L n with h|⟨j,h1,h2⟩
  all_goals grind
theorem G5{listed:Array Bool}{L:List Nat}(hsz:listed.size=ops.size)(hli:∀i,i<ops.size->(listed.getD i true=true↔i∈L)/\(listed.getD i false=true↔i∈L))(hb:∀i o,ops[i]? =some o->∀e∈Di o,e<i)(i:Nat):i∈Region.ready .any ops listed↔i<ops.size/\i∉L/\∃o,ops[i]? =some o/\∀e∈Di o,e∈L:=by
 unfold Region.ready;rw[A18,List.mem_range];constructor
 ·rintro⟨h1,h2⟩;have ho:ops[i]? =some ops[i]:=by grind
  rw[ho]at h2;simp only[Option.map_some,A00,y8,Array.all_eq_true']at h2;all_goals grind[Di]
 ·rintro⟨h1,h2,o,ho,h3⟩;refine⟨h1,?_⟩;rw[ho];simp only[Option.map_some,A00,y8,Array.all_eq_true'];refine⟨?_,λx hx=>?_⟩
  ·grind
  ·cases hbx:Region.binds .any x with
   |false=>simp
   |true=>
    have hm:x.on∈Di o:=by grind[Di]
    grind
variable{V:Ctx}{cnt bs:Nat}{Q:AE->St->Prop}
theorem Inv.congr{U:Cf}{env env':Ar}{hp hp':Hp}{a:Act}{nt:Nat}{hb:HB}(h:Inv U env hp a nt hb)(he:∀t,lk env t=lk env' t)(hh:∀l,hl hp l=hl hp' l):Inv U env' hp' a nt hb where
 h:=
  {ln:=λn=>by rw[h.h.ln n];simp only[lenOf,hh]
   cel:=λn j c hc=>h.h.cel n j c (by rw[hh];exact hc)
   arr:=λn sz live rows d hc=>h.h.arr n sz live rows d (by rw[hh];exact hc)
   inj:=λp q b hp hq=>h.h.inj p q b (by simpa only[Owns,hh]using hp) (by simpa only[Owns,hh]using hq)
   lt:=h.h.lt
   ou:=h.h.ou
   dis:=h.h.dis}
 t:=λt=>by rw[<-he];exact h.t t
 sz:=h.sz
 df:=(by rw[<-he (dk nt)];exact h.df)
theorem We(stop:Nat->Prop)(G:Good V.P X V.nt n ops B rec env0 hp0 ao)(hz:ops.size=n)(hQ:(∀i,i<n->¬stop i)->Q .n ⟨EQ rec env0 (DO n),GM rec hp0 (DO n),cnt+1⟩){σ0:Cf}(hG:V.G env0 σ0)(hop:∀(i:Nat) (o:Oper) (L:List Nat) (U:Cf) (a:Act) (K:Act->World->Prop),i<n->i∉L->(∀j∈L,¬stop j)->Done n B L->(∀k,(B.getD i 0).testBit k=true->k∈L)->ops[i]? =some o->Evo σ0 U->Inv U (EQ rec env0 L) (GM rec hp0 L) a V.nt V.hb->(∀m,U.al m->m.2<=cnt\/∃i∈L,m=(bs+i,cnt+1))->(¬stop i->∀a' σ',Evo U σ'->Inv σ' (BQ (ao i).d (rec i).r (EQ rec env0 L)) ((rec i).ws++GM rec hp0 L) a' V.nt V.hb->(∀m,σ'.al m->U.al m\/m=(bs+i,cnt+1))->K a' σ'.w)->wpOpIn V.F 0 V.P ops (lift V σ0 Q) i K a U.w):∀(fuel:Nat)(L:List Nat)(listed:Array Bool)(U:Cf)(a:Act),(∀j∈L,¬stop j)->Done n B L->listed.size=ops.size->(∀i,i<ops.size->(listed.getD i true=true↔i∈L)/\(listed.getD i false=true↔i∈L))->left L n=fuel->Evo σ0 U->Inv U (EQ rec env0 L) (GM rec hp0 L) a V.nt V.hb->(∀m,U.al m->m.2<=cnt\/∃i∈L,m=(bs+i,cnt+1))->wpAnyIn V.F 0 V.P .any ops (lift V σ0 Q) fuel listed a U.w:=by
 intro fuel;have fin:∀(L:List Nat)(listed:Array Bool)(U:Cf)(a:Act),(∀j∈L,¬stop j)->Done n B L->listed.size=ops.size->(∀i,i<ops.size->(listed.getD i true=true↔i∈L)/\(listed.getD i false=true↔i∈L))->Evo σ0 U->Inv U (EQ rec env0 L) (GM rec hp0 L) a V.nt V.hb->(∀m,U.al m->m.2<=cnt\/∃i∈L,m=(bs+i,cnt+1))->(∀i,i<n->i∈L)->lift V σ0 Q .normal a U.w:=by intro L listed U a hst hD h1 h2 he hI hal hall;obtain⟨e1,e2⟩:=G.fin hD hall;refine⟨U,_,.n,rfl,V.ofE he,⟨hI.congr e1 e2,λm hm=>?_,V.g hG he λt ht=>.inr (P4 (DO n) (λi hi=>G.far i (FF.1 hi)) ht)⟩,rfl,hQ λi hi=>hst i (hall i hi)⟩;grind
 have none:∀(L:List Nat)(listed:Array Bool),listed.size=ops.size->(∀i,i<ops.size->(listed.getD i true=true↔i∈L)/\(listed.getD i false=true↔i∈L))->Region.ready .any ops listed=[]->∀i,i<n->i∈L:=by
  intro L listed h1 h2 hr;rcases Xn L n with h|⟨j,h3,h4,h5⟩
  ·exact h
  ·have hj:j<ops.size:=by rw[hz];exact h3
   have ho:ops[j]? =some ops[j]:=by grind
   have:=(G5 h1 h2 (λi o ho=>(G.bef i o ho).1) j).2 ⟨hj,h4,_,ho,λe he=>h5 e ((G.bef j _ ho).1 e he)⟩;rw[hr]at this;simp at this
 induction fuel with
 |zero=>
  intro L listed U a hst hD h1 h2 hf he hI hal;have hall:=Oc hf;refine⟨?_,by grind⟩;cases hr:Region.ready .any ops listed with
  |nil=>rfl
  |cons x xs=>
   have hx:x∈Region.ready .any ops listed:=by rw[hr];simp
   obtain⟨g1,g2,_⟩:=(G5 h1 h2 (λi o ho=>(G.bef i o ho).1) x).1 hx;grind
 |succ fuel ih=>
  intro L listed U a hst hD h1 h2 hf he hI hal;refine⟨by grind,λi hi=>?_⟩;obtain⟨g1,g2,o,ho,g3⟩:=(G5 h1 h2 (λi o ho=>(G.bef i o ho).1) i).1 hi;have hin:i<n:=by rw[<-hz];exact g1
  have ha:=G.all hD ho g3;obtain⟨_,_,_,hd,_⟩:=G.run i hin;refine hop i o L U a _ hin g2 hst hD ha ho he hI hal λhs a' σ' e' hI' hal'=>?_
  refine ih (i::L) _ σ' a' (by grind) (hD.cons hin g2 ha) (by simp[h1]) (λk hk=>?_) ?_ (he.trans e') ?_ λm hm=>?_
  ·by_cases e:i=k
   ·subst e;have:i<listed.size:=by omega
    simp[this]
   ·have hk':k<listed.size:=by omega
    have q1:(listed.setIfInBounds i true).getD k true=listed.getD k true:=by simp[hk',e]
    grind
  all_goals grind[Oe,EQ,GM]
end
theorem Jj{X:Nat->Ar->Hp->AOp->Option (Prop×AV×Hp)}:∀{l:List AOp}{k:Nat}{env:Ar}{hp:Hp}{vc:Prop}{e:Ar}{h:Hp}{rs:List Rec},IB X k l env hp=some (vc,e,h,rs)->rs.length=l.length
 |[],_,_,_,_,_,_,_,hex=>by simp[IB]at hex;simp[hex.2.2.2]
 |o::l,k,env,hp,vc,e,h,rs,hex=>by
  simp only[IB]at hex;split at hex
  ·simp at hex
  split at hex
  ·simp at hex
  rename_i hex2;obtain⟨_,_,_,rfl⟩:=hex;simp[Jj hex2]
theorem CM{P:Program}{nt:Nat}{ops:Array Oper}:∀{l:List Oper}{xs:List AOp},FM P nt ops l=some xs->xs.length=l.length/\∀(i:Nat)(o:Oper),l[i]? =some o->∃x,xs[i]? =some x/\JI P nt ops o=some x
 |[],xs,h=>by simp[FM]at h;subst h;simp
 |p::l,xs,h=>by
  simp only[FM]at h;split at h
  ·rename_i x ys hx hys;obtain⟨h1,h2⟩:=CM hys;grind
  ·simp at h
theorem No{ops:Array Oper}{l:List AOp}{un:List (Nat×Nat)}(h:QD ops l=some un):∃B,QA B 0 ops.toList=true/\YA B l 0 l=true/\un=YB B l 0 l:=by grind[QD,Sd]
theorem Xo{k:AK}(h:ht k=false):hw k=false:=by cases k<;>simp[ht,hw]at h⊢
theorem At.drawn{V:Ctx}{U:Cf}{s:St}{a:Act}(h:At V U s a)(d:Nat):∃σ',σ'.w={U.w with drawn:=d}/\Evo U σ'/\At V σ' s a:=by
 obtain⟨⟨h1,h2,h3,h4⟩,h5,h6⟩:=h
 let Z:={U with w:={U.w with drawn:=d}}
 have e:Evo U Z:=⟨by grind,by grind,by grind,rfl,w6 _,⟨rfl,rfl⟩⟩
 refine⟨Z,rfl,e,⟨⟨h1.ln,λn j c hc=>?_,λn sz live rows d hc=>?_,h1.inj,h1.lt,h1.ou,h1.dis⟩,?_,h3,h4.mono e⟩,h5,V.g h6 e λ_ _=>.inr rfl⟩
 ·have kk:=h1.cel n j c hc;exact kk.keep e kk.2.1 rfl
 ·exact(h1.arr n sz live rows d hc).keep e rfl λ_ _ _ _ _ _ hM=>⟨hM,rfl⟩
 ·exact λt=>(h2 t).mono e
variable{V:Ctx}
theorem Wf(hΓ:V.OK){rid:Nat}{ops:List AOp}{un:List (Nat×Nat)}{Q:AE->St->Prop}{s:St}{vc:Prop}{env:Ar}{hp:Hp}{recs:List Rec}(hex:Nh V.S (s.cnt+1) (100*rid) ops s.env s.hp=some (vc,env,hp,recs))(hvc:vc)(hun:Ni recs un=true)(hQ:Q .n ⟨env,hp,s.cnt+1⟩):Aq V (.drw rid ops un) Q s:=by
 intro code hc U a hA;cases code with
 |region id ops' d=>
  simp only[cCode]at hc;obtain⟨l,hx,⟨_,e⟩|⟨rfl,hf,un',hu,e⟩⟩:=BM hc
  ·cases e
  ·cases e
   refine wpIn_region_any hf ?_;obtain⟨B,b1,b2,rfl⟩:=No hu;obtain⟨c1,c2⟩:=CM hx;have hlen:ops.length=ops'.size:=by simpa using c1
   rw[TS]at hex;have hrl:=Jj hex;have hop:∀i o,ops'[i]? =some o->∃x,ops[i]? =some x/\JI V.P V.nt ops' o=some x:=λi o ho=>c2 i o (by simpa using ho)
   have hao:∀i x,ops[i]? =some x->ops.getD i default=x:=λi x h=>by simp[s9,h]
   have hsp:=Lb (rec:=λi=>recs.getD i default) (env0:=s.env) (hp0:=s.hp) (all:=ops) (bs:=100*rid) ops 0 recs vc env hp (λi=>by simp) hex hvc (λi hi=>by grind);simp only[A08]at hsp;obtain⟨e1,e2,run⟩:=hsp;have get:∀i,i<ops.length->ops[i]? =some (ops.getD i default):=λi hi=>by simp[s9,hi]
   have hws:∀i,i<ops.length->hw (ops.getD i default).k=false->(recs.getD i default).ws=[]:=λi hi h=>by obtain⟨_,_,g,_⟩:=run i _ (get i hi);exact P3 h g
   have hrd:∀i,i<ops.length->ht (ops.getD i default).k=false->(recs.getD i default).rd=[]:=λi hi h=>by obtain⟨_,_,_,_,g⟩:=run i _ (get i hi);rw[g];exact Pa h
   have G:Good V.P (λi e h=>HL V.S (100*rid+i,s.cnt+1) e h (ops.getD i default)) V.nt ops.length ops' B (λi=>recs.getD i default) s.env s.hp λi=>ops.getD i default:=
    {cg:=λi e e' h h' ht hh=>Ng ht hh
     sz:=Nat.le_of_eq hlen
     bef:=λi o ho=>by have:=K8 b1 i o (by simpa using ho);simpa using this
     op:=λi o ho=>by grind
     run:=λi hi=>run i _ (get i hi)
     tmp:=λk j hk hj=>by
      have h1:=Nk b2 j _ (get j hj);rw[A08]at h1;have h2:=K9 h1 k (ops.getD k default) (by grind)
      rwa [A08]at h2
     mem:=λk j hk hj=>by
      have h2:=La (B:=B.getD j 0) (j:=j) (o:=ops.getD j default) (l:=ops.take j) (k:=0) k (ops.getD k default) (by grind);rw[A08]at h2;rcases h2 with h|h|h
      ·exact .inl h
      ·right;right;simp only[Bool.or_eq_false_iff,Bool.and_eq_false_iff]at h;have hk':k<ops.length:=by omega
       rcases h.1 with g1|g1
       ·grind
       ·exact .inr (.inl ⟨hws j hj (Xo g1),hrd j hj g1⟩)
      ·exact .inr (.inl (Oa hun k j (Nl (all:=ops) (j:=0) j _ (get j hj) _ (by rw[A08];exact h))))}
   obtain⟨σ',w1,w2,w3⟩:=hA.drawn (U.w.drawn+1);rw[<-w1];refine We (bs:=100*rid) (λ_=>False) G hlen.symm (λ_=>by rw[<-e1,<-e2];exact hQ) hA.2.2 (λi o L σ1 a1 K hin g2 _ hD ha ho _ hI hal hK=>?_) ops'.size [] _ σ' a (by simp) ⟨by simp,by simp,.nil⟩ (by simp) (λi hi=>?_) (by rw[Nn,hlen]) w2 w3.1 λm hm=>.inl (w3.2.1 m hm)
   ·obtain⟨vc,hvc,hex,hd,_⟩:=G.run i hin;rw[<-G.same hD hin g2 ha]at hex;refine Jh hΓ.S hΓ.F ho (G.op i o ho) hI ⟨λh=>?_,s.cnt+1,λm hm=>by grind⟩ hex hvc (hK not_false);grind
   ·simp[Array.getD,hi]
 |seq x y=>simp only[cCode]at hc;split at hc<;>simp at hc
 |cond c x y=>simp only[cCode]at hc;split at hc<;>simp at hc
 |rangeFunc f ps x y=>simp only[cCode]at hc;split at hc<;>simp at hc
 |_=>simp[cCode]at hc
theorem EN(hΓ:V.OK){rid:Nat}{ops:List AOp}{un:List (Nat×Nat)}{Q:AE->St->Prop}{e e':Ar}{h h':Hp}{c:Nat}{vc:Prop}{recs:List Rec}(hex:Nh V.S (c+1) (100*rid) ops e h=some (vc,e',h',recs))(hun:Ni recs un=true)(hvc:vc)(hQ:Q .n ⟨e',h',c+1⟩):Aq V (.drw rid ops un) Q ⟨e,h,c⟩:=Wf hΓ hex hvc hun hQ
theorem DX(hΓ:V.OK){rid:Nat}{ops:List AOp}{un:List (Nat×Nat)}{b:AC}{Q:AE->St->Prop}{e e':Ar}{h h':Hp}{c:Nat}{vc:Prop}{recs:List Rec}(hex:Nh V.S (c+1) (100*rid) ops e h=some (vc,e',h',recs))(hun:Ni recs un=true)(hvc:vc)(hQ:Aq V b Q ⟨e',h',c+1⟩):Aq V (.seq (.drw rid ops un) b) Q ⟨e,h,c⟩:=Co (Wf hΓ hex hvc hun hQ)
