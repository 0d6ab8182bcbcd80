import Derived.Test.YtjdchfljifacoaaGreatDoorA5
import Derived.LoopNIn
set_option linter.all false
namespace Go.Proofs.YtjdchfljifacoaaGreatDoor.Am
open Go
abbrev Spec:=List AV->Option (Prop×AV)
def Is:List (Nat×Spec)->Nat->List AV->Option (Prop×AV)|[],_,_=>none|(k,s)::r,f,args=>if k=f then s args else Is r f args
def Of:Nat->List AV->List AV->Option (Prop×AV×List (Nat×AV)):=λ_ _ _=>none
def Si:Nat->List AV->List AV->Option (Prop×Value):=λ_ _ _=>none
def Py:Nat->List AV->List AV->Option (Prop×AV):=λ_ _ _=>none
def Og:Nat->List AV->Option (Prop×(Nm->Hp)×(Nm->AV)):=λ_ _=>none
def NN:Nat->List AV->List AV->Option (Prop×Value):=λ_ _ _=>none
def NO:Nat->Nat->List (List AV)->List AV->Option (Prop×List (List AV)):=λ_ _ _ _=>none
def FO(l:List (Nat×Spec)):Tab:=⟨Is l,false,false,Of,Si,Py,Og,NO,NN⟩
theorem lQ(l:List (Nat×Spec)):(FO l).f=Is l:=rfl
theorem lR(l:List (Nat×Spec)):(FO l).w=false:=rfl
def Oh(l:List (Nat×Spec)):Tab:=⟨Is l,true,false,Of,Si,Py,Og,NO,NN⟩
theorem rF(l:List (Nat×Spec)):(Oh l).f=Is l:=rfl
theorem rG(l:List (Nat×Spec)):(Oh l).w=true:=rfl
theorem lS(l:List (Nat×Spec)):(FO l).m=false:=rfl
theorem rH(l:List (Nat×Spec)):(Oh l).m=false:=rfl
def Ns(l:List (Nat×Spec)):Tab:=⟨Is l,false,true,Of,Si,Py,Og,NO,NN⟩
theorem rI(l:List (Nat×Spec)):(Ns l).f=Is l:=rfl
theorem rJ(l:List (Nat×Spec)):(Ns l).w=false:=rfl
theorem rK(l:List (Nat×Spec)):(Ns l).m=true:=rfl
theorem lT{P:Program}{l:List (Nat×Spec)}(h:TabOK P (FO l)):TabOK P (Ns l):=⟨h.f,h.e,h.p,h.q,h.k,h.y,h.o⟩
def Au(P:Program)(k:Nat)(s:Spec):Prop:=C0 P k/\∀args vc r,s args=some (vc,r)->vc->PCall P k args r
theorem Ae{P:Program}:TabOK P (FO []):=⟨by simp_all[FO,Is],λ_ _ _ _ _ _ _ h=>(by cases h),λ_ _ _ _ _ _ h=>(by cases h),λ_ _ _ _ _ h=>(by cases h),λ_ _ _ _ _ h=>(by cases h),λ_ _ _ _ _ h=>(by cases h),λ_ _ _ _ _ _ h=>(by cases h)⟩
theorem Aa{P:Program}{k:Nat}{s:Spec}{l:List (Nat×Spec)}(h:Au P k s)(hr:TabOK P (FO l)):TabOK P (FO ((k,s)::l)):=by
 refine⟨λf args vc r hs hv=>?_,λ_ _ _ _ _ _ _ h=>(by cases h),λ_ _ _ _ _ _ h=>(by cases h),λ_ _ _ _ _ h=>(by cases h),λ_ _ _ _ _ h=>(by cases h),λ_ _ _ _ _ h=>(by cases h),λ_ _ _ _ _ _ h=>(by cases h)⟩;simp only[FO,Is]at hs;split at hs
 ·rename_i e;subst e;exact⟨h.1,h.2 args vc r hs hv⟩
 ·exact hr.f f args vc r hs hv
abbrev Pb:=List AV->List AV->Option (Prop×AV×List (Nat×AV))
abbrev Pc:=List AV->List AV->Option (Prop×Value)
def Pd:List (Nat×Pb)->Nat->List AV->List AV->Option (Prop×AV×List (Nat×AV))|[],_,_,_=>none|(k,s)::r,f,args,cs=>if k=f then s args cs else Pd r f args cs
def Pe:List (Nat×Pc)->Nat->List AV->List AV->Option (Prop×Value)|[],_,_,_=>none|(k,s)::r,f,args,cs=>if k=f then s args cs else Pe r f args cs
def Jl(l:List (Nat×Spec))(le:List (Nat×Pb))(lp:List (Nat×Pc)):Tab:=⟨Is l,false,false,Pd le,Pe lp,Py,Og,NO,NN⟩
theorem rL(l le lp):(Jl l le lp).f=Is l:=rfl
theorem rM(l le lp):(Jl l le lp).w=false:=rfl
theorem rN(l le lp):(Jl l le lp).m=false:=rfl
theorem rO(l le lp):(Jl l le lp).e=Pd le:=rfl
theorem rP(l le lp):(Jl l le lp).q=Py:=rfl
theorem lU(l):(FO l).q=Py:=rfl
theorem rQ(l):(Oh l).q=Py:=rfl
theorem rR(l):(Ns l).q=Py:=rfl
theorem rS(l le lp):(Jl l le lp).k=Og:=rfl
theorem lV(l):(FO l).k=Og:=rfl
theorem rT(l):(Oh l).k=Og:=rfl
theorem rU(l):(Ns l).k=Og:=rfl
theorem rV(l le lp):(Jl l le lp).o=NO:=rfl
theorem lW(l):(FO l).o=NO:=rfl
theorem rW(l):(Oh l).o=NO:=rfl
theorem rX(l):(Ns l).o=NO:=rfl
theorem rY(l le lp):(Jl l le lp).y=NN:=rfl
theorem lX(l):(FO l).y=NN:=rfl
theorem rZ(l):(Oh l).y=NN:=rfl
theorem sC(l):(Ns l).y=NN:=rfl
theorem sD(l le lp):(Jl l le lp).p=Pe lp:=rfl
theorem lY(l):(FO l).e=Of:=rfl
theorem sE(l):(Oh l).e=Of:=rfl
theorem sF(l):(Ns l).e=Of:=rfl
def EOK(P:Program)(k:Nat)(s:Pb):Prop:=C0 P k/\∀args cells vc r us n,s args cells=some (vc,r,us)->vc->Fh args=some n->S0 P k n args cells r us
def POK(P:Program)(k:Nat)(s:Pc):Prop:=C0 P k/\∀args cells vc v n,s args cells=some (vc,v)->vc->Fh args=some n->Qq P k n args cells v
theorem lZ{P:Program}{l:List (Nat×Spec)}{le:List (Nat×Pb)}{lp:List (Nat×Pc)}(h:TabOK P (FO l))(he:∀x∈le,EOK P x.1 x.2)(hp:∀x∈lp,POK P x.1 x.2):TabOK P (Jl l le lp):=by
 refine⟨h.f,λf args cells vc r us n hs hv hb=>?_,λf args cells vc v n hs hv hb=>?_,λ_ _ _ _ _ h=>(by cases h),λ_ _ _ _ _ h=>(by cases h),λ_ _ _ _ _ h=>(by cases h),λ_ _ _ _ _ _ h=>(by cases h)⟩
 ·simp only[Jl]at hs;induction le with
  |nil=>simp[Pd]at hs
  |cons x le ih=>
   simp only[Pd]at hs;split at hs
   ·rename_i e;subst e;have:=he x (by simp);exact⟨this.1,this.2 _ _ _ _ _ _ hs hv hb⟩
   grind
 ·simp only[Jl]at hs;induction lp with
  |nil=>simp[Pe]at hs
  |cons x le ih=>
   simp only[Pe]at hs;split at hs
   ·rename_i e;subst e;have:=hp x (by simp);exact⟨this.1,this.2 _ _ _ _ _ hs hv hb⟩
   grind
mutual
theorem Wh:∀(x y:AV),wk x y->BN x=true->BN y=true
 |.sl z f rows d,y,h,hr=>by cases y<;>grind[BN,wk]
 |.agg a,y,h,hr=>by
  cases y with
  |agg b=>exact Ly a b h hr
  |_=>cases h
 |.tup a,y,h,hr=>by
  cases y with
  |tup b=>exact Ly a b h hr
  |_=>cases h
 |.v x,y,h,hr=>by grind[wk]
 |.ro _ _,y,h,hr=>by grind[wk]
 |.clo _ _ _,y,h,hr=>by grind[wk]
 |.box _ _,y,h,hr=>by grind[wk]
 |.own _ _,y,h,hr=>by grind[wk]
 |.elem _ _ _ _ _,y,h,hr=>by grind[wk]
 |.gd _ _,y,h,hr=>by grind[wk]
 |.mp _,y,h,hr=>by grind[wk]
 |.un,y,h,hr=>by grind[wk]
theorem Ly:∀(xs ys:List AV),GW xs ys->AA xs=true->AA ys=true
 |[],[],_,_=>rfl
 |x::xs,y::ys,h,hr=>by simp only[AA,y8]at hr⊢;exact⟨Wh x y h.1 hr.1,Ly xs ys h.2 hr.2⟩
 |[],_::_,h,_=>by simp[GW]at h
 |_::_,[],h,_=>by simp[GW]at h
end
theorem PCall.arg{P:Program}{f:Nat}{args args':List AV}{r:AV}(hw:GW args args')(h:PCall P f args' r):PCall P f args r:=λU vs hg hl hp hr=>h U vs hg hl (Ly _ _ hw hp) (L9 _ _ _ hw hr)
theorem PCall.res{P:Program}{f:Nat}{args:List AV}{r r':AV}(hw:wk r r')(h:PCall P f args r):PCall P f args r':=λU vs hg hl hp hr=>(h U vs hg hl hp hr).mono λe w' ⟨v,h1,h2,h0,h3,h4⟩=>⟨v,h1,h2,h0,Wh _ _ hw h3,JP _ _ _ hw h4⟩
theorem FP{Q:AE->St->Prop}{e:AE}{s:St}(h:Q e s):Q e s:=h
theorem DY{V:Ctx}{c:AC}{Q:AE->St->Prop}{s:St}(h:Aq V c Q s):Aq V c Q s:=h
theorem Ab3{P:Program}{S:Tab}{nt hb:Nat}:(Ctx.fn P S nt hb).S=S:=rfl
theorem Ab4{P:Program}{S:Tab}{nt l:Nat}:(Ctx.rd P S nt l).S=S:=rfl
theorem Ab5{P:Program}{F:Fence}{S:Tab}{nt hb:Nat}{β:Int->Cf->Prop}{hnt:nt<=gs}{evo:∀{k:Int} {U σ':Cf},β k U->Evo U σ'->β k σ'}:(Ctx.it P F S nt hb β hnt evo).S=S:=rfl
theorem sG{S:Tab}{rid i:Nat}{d:Option Nat}{post:List AOp}{e1:Ar}{Q:AE->St->Prop}{rvs:List RV}{e:Ar}{h:Hp}{c:Nat}{vc:Prop}{xs:List AV}{vc2:Prop}{e2:Ar}{h2:Hp}(h1:DK e h rvs=some (vc,xs))(hv:vc)(hx:Bh S (c+1) (100*rid+(i+1)) post (BQ d (one xs) e1) h=some (vc2,e2,h2))(hv2:vc2)(hQ:Q .n ⟨e2,h2,c+1⟩):Ba rvs (AQ S rid i d post e1 Q) .n ⟨e,h,c⟩:=⟨vc,xs,h1,hv,vc2,e2,h2,hx,hv2,hQ⟩
theorem sH{S:Tab}{rid i:Nat}{d:Option Nat}{post:List AOp}{e1:Ar}{Q:AE->St->Prop}{rvs:List RV}{e:Ar}{h:Hp}{c:Nat}{vc:Prop}{xs:List AV}{vc2:Prop}{e2:Ar}{h2:Hp}(h1:DK e h rvs=some (vc,xs))(hv:vc)(hx:Bh S (c+1) (100*rid+(i+1)) post (BQ d (one xs) e1) h=some (vc2,e2,h2))(hv2:vc2)(hQ:Q .n ⟨e2,h2,c+1⟩):Ba rvs (AQ S rid i d post e1 Q) .r ⟨e,h,c⟩:=⟨vc,xs,h1,hv,vc2,e2,h2,hx,hv2,hQ⟩
theorem C3{P:Program}{S:Tab}{nt hb:Nat}(hS:TabOK P S)(i:Nat){rid:Nat}{ops post:List AOp}{d:Option Nat}{g:Option (Nat×Bool)}{k:AK}{Q:AE->St->Prop}{e e1:Ar}{h h1:Hp}{c:Nat}{vc:Prop}{f:Nat}{args:List AV}{fn:Func}{ac:AC}{rvs:List RV}{ntf:Nat}(hf:P.funcs[f]? =some fn)(hcf:Dj P fn=some (ac,rvs))(hnt:fn.ntmps=ntf)(hok:C0 P f)(hyo:ops[i]? =some ⟨d,g,k⟩)(hpost:ops.drop (i+1)=post)(hex:Bh S (c+1) (100*rid) (ops.take i) e h=some (vc,e1,h1))(hvc:vc)(hg:D8 e1 g=some true)(hca:EG e1 k=some (f,args))(hn:args.length<=ntf)(hbody:∀hb,Aq (Ctx.fn P S ntf hb) ac (Ba rvs (AQ S rid i d post e1 Q)) ⟨BC 0 args,h1,c+1⟩):Aq (Ctx.fn P S nt hb) (.reg rid ops) Q ⟨e,h,c⟩:=by subst hpost;exact lP (Ctx.fn_ok hS) i hf hcf hnt hok hyo hex hvc hg hca hn hbody
theorem QO{P:Program}{S:Tab}{nt hb:Nat}{β:Int->Cf->Prop}{hnt:nt<=gs}{evo:∀{k:Int} {U σ':Cf},β k U->Evo U σ'->β k σ'}{l:Nat}{xs:List (List AV)}(hS:TabOK P S)(hR:Rng P Fence.wide l hb xs β)(i:Nat){rid:Nat}{ops post:List AOp}{d:Option Nat}{g:Option (Nat×Bool)}{Q:AE->St->Prop}{e e1:Ar}{h h1:Hp}{c:Nat}{vc:Prop}{x:Opd}{as:List Opd}{k:Nat}{args:List AV}{vt vf:Prop}{et ef:Ar}{ht hf:Hp}(hyo:ops[i]? =some ⟨d,g,.cv x as⟩)(hpost:ops.drop (i+1)=post)(hex:Bh S (c+1) (100*rid) (ops.take i) e h=some (vc,e1,h1))(hvc:vc)(hg:D8 e1 g=some true)(hx:Ay true (Ax e1 x)=.clo (.yield l) [] [])(hgh:lk e gs=CD k)(hargs:as.map (λx=>Ay true (Ax e1 x))=args)(hxs:xs[k]? =some args)(hxT:Bh S (c+1) (100*rid+(i+1)) post (BQ d (.v (.bool true)) ((gs,CD (k+1))::e1)) h1=some (vt,et,ht))(hvT:vt)(hQT:Q .n ⟨et,ht,c+1⟩)(hxF:Bh S (c+1) (100*rid+(i+1)) post (BQ d (.v (.bool false)) ((gs,CD (-1))::e1)) h1=some (vf,ef,hf))(hvF:vf)(hQF:Q .n ⟨ef,hf,c+1⟩):Aq (Ctx.it P Fence.wide S nt hb β hnt evo) (.reg rid ops) Q ⟨e,h,c⟩:=by
 refine YI hS hR i hyo rfl hex hvc hg hx hgh hargs hxs λb=>?_
 grind
theorem QP{V:Ctx}(p:Prop)[Decidable p]{b:Bool}{cc:Opd}{x y:AC}{Q:AE->St->Prop}{e:Ar}{h:Hp}{c:Nat}(hb:Ay true (Ax e cc)=.v (.bool b))(hp:b=decide p)(ht:p->Aq V x Q ⟨e,h,c⟩)(hf:¬p->Aq V y Q ⟨e,h,c⟩):Aq V (.cond cc x y) Q ⟨e,h,c⟩:=by subst hp;exact rA hb ht hf
theorem Ctx.it_ok{P:Program}{S:Tab}{nt hb:Nat}{β:Int->Cf->Prop}{hnt:nt<=gs}{evo:∀{k:Int} {U σ':Cf},β k U->Evo U σ'->β k σ'}(h:TabOK P S):(Ctx.it P Fence.wide S nt hb β hnt evo).OK:=⟨h,.inl (Eq.refl _)⟩
abbrev Sj(V:Ctx)(l:Nat)(xs:List (List AV)):Prop:=∀(i:Nat){rid:Nat}{ops post:List AOp}{d:Option Nat}{g:Option (Nat×Bool)}{Q:AE->St->Prop}{e e1:Ar}{h h1:Hp}{c:Nat}{vc:Prop}{x:Opd}{as:List Opd}{k:Nat}{args:List AV}{vt vf:Prop}{et ef:Ar}{ht hf:Hp}(_:ops[i]? =some ⟨d,g,.cv x as⟩)(_:ops.drop (i+1)=post)(_:Bh V.S (c+1) (100*rid) (ops.take i) e h=some (vc,e1,h1))(_:vc)(_:D8 e1 g=some true)(_:Ay true (Ax e1 x)=.clo (.yield l) [] [])(_:lk e gs=CD k)(_:as.map (λx=>Ay true (Ax e1 x))=args)(_:xs[k]? =some args)(_:Bh V.S (c+1) (100*rid+(i+1)) post (BQ d (.v (.bool true)) ((gs,CD (k+1))::e1)) h1=some (vt,et,ht))(_:vt)(_:Q .n ⟨et,ht,c+1⟩)(_:Bh V.S (c+1) (100*rid+(i+1)) post (BQ d (.v (.bool false)) ((gs,CD (-1))::e1)) h1=some (vf,ef,hf))(_:vf)(_:Q .n ⟨ef,hf,c+1⟩),Aq V (.reg rid ops) Q ⟨e,h,c⟩
theorem DZ{V:Ctx}{b:AC}{Q:AE->St->Prop}{s:St}(h:Aq V b Q s):By V b Q .n s:=h
theorem TW{X:Type}{e e':Ar}{I:X->Hp×Nat}{Pre:X->Prop}{K:X->Nat}{j:Nat}{Q:AE->St->Prop}{h:Hp}{c:Nat}(x:X)(h1:Pre x)(h2:K x=j)(h3:Le ⟨e,(I x).1,(I x).2⟩ ⟨e,h,c⟩):Bw e I Pre K j Q .n ⟨e',h,c⟩:=⟨x,h1,h2,h3⟩
theorem D0{X:Type}{e e':Ar}{I:X->Hp×Nat}{Pre:X->Prop}{K:X->Nat}{j i:Nat}{Q:AE->St->Prop}{h:Hp}{c:Nat}(hq:Q (.x i) ⟨e,h,c⟩):Bw e I Pre K j Q (.x i) ⟨e',h,c⟩:=hq
theorem D1{X:Type}{e e':Ar}{I:X->Hp×Nat}{Pre:X->Prop}{K:X->Nat}{j:Nat}{Q:AE->St->Prop}{h:Hp}{c:Nat}(hq:Q .r ⟨e,h,c⟩):Bw e I Pre K j Q .r ⟨e',h,c⟩:=hq
theorem Le.of{e e':Ar}{h h':Hp}{c c':Nat}(h1:V7 e' e)(h2:V8 h' h)(h3:c<=c'):Le ⟨e',h',c'⟩ ⟨e,h,c⟩:=⟨h1,h2,h3⟩
theorem iS{n:Nat}{s:St}(h:lk s.env gs=CD n):Ck n .n s:=.inl h
theorem Aah{n:Nat}{s:St}(h:lk s.env gs=CD n):Ck n .r s:=.inl h
theorem QQ{n:Nat}{s:St}(h:lk s.env gs=CD (-1)):Ck n .r s:=.inr h
section
variable{V:Ctx}
def Cf.claim(U:Cf)(n:Nm)(base:Option Addr):Cf:={U with ra:=λm=>if m=n then(base,0)else U.ra m,ln:=λm=>if m=n then some 0 else U.ln m,al:=λm=>U.al m\/m=n}
theorem Evo.claim{U:Cf}{n:Nm}(hn:¬U.al n)(base:Option Addr):Evo U (U.claim n base) where
 box m hm:=⟨.inl hm,rfl⟩
 arr m hm l hl:=by
  have:¬m=n:=by rintro rfl;exact hn hm
  simp only[Cf.claim,t7 this]at hl⊢;grind
 fro b o h h':=⟨h,h'⟩
 out:=rfl
 sz:=w6 _
 io:=SameO.refl _
theorem Rep.claim{U:Cf}{n:Nm}{base:Option Addr}:Rep (U.claim n base) (.own n 0) (.slice base 0 0):=by
 refine⟨.inr rfl,rfl,λl hl=>?_⟩
 simp_all[Cf.claim]
theorem HInv.claim{U:Cf}{hp:Hp}(h:HInv U hp){n:Nm}(hn:¬U.al n)(base:Option Addr){z:Nat}(hz:0<z)(d:List AV):HInv (U.claim n base) ((.a n,.sl z true [] d)::hp) where
 ln m:=by
  simp only[Cf.claim,lenOf,hl];by_cases hm:m=n
  ·subst hm;simp
  ·rw[t7 hm,t7 (by intro e;cases e;exact hm rfl)];exact h.ln m
 cel m j c hc:=by simp only[hl]at hc;rw[t7 (by intro e;cases e)]at hc;have k:=h.cel m j c hc;exact k.keep (Evo.claim hn base) k.2.1 rfl
 arr m sz live rows d' hc:=by
  simp only[hl]at hc;by_cases hm:m=n
  ·subst hm;simp at hc;obtain⟨rfl,rfl,rfl,rfl⟩:=hc;exact⟨.inr rfl,hz,by simp,.inl ⟨base,by simp[Cf.claim],rfl⟩⟩
  ·rw[t7 (by intro e;cases e;exact hm rfl)]at hc;exact(h.arr m sz live rows d' hc).keep (Evo.claim hn base) (by simp[Cf.claim,hm]) λ_ _ _ _ _ _ hM=>⟨hM,rfl⟩
 inj p q b hp' hq':=by
  have key:∀p b,Owns (U.claim n base) ((.a n,.sl z true [] d)::hp) p b->Owns U hp p b:=by
   rintro p b (⟨g1,g2,j,c,g3⟩|⟨g1,⟨sz,rows,d',g2⟩,o,cap,g3,g4⟩)
   ·simp only[hl]at g3;rw[t7 (by intro e;cases e)]at g3;exact .inl ⟨g1,g2,j,c,g3⟩
   ·by_cases hm:p.2=n
    ·simp[Cf.claim,hm]at g3;omega
    ·simp only[hl]at g2;rw[t7 (by intro e;cases e;exact hm rfl)]at g2;simp only[Cf.claim,t7 hm]at g3;exact .inr ⟨g1,⟨sz,rows,d',g2⟩,o,cap,g3,g4⟩
  exact h.inj p q b (key p b hp') (key q b hq')
 lt:=h.lt
 ou:=h.ou
 dis:=h.dis
theorem Sk{U:Cf}{z:Nat}{d:List AV}{v:Value}(h:Rep U (.sl z true [] d) v):∃base,v=.slice base 0 0:=by simp only[Rep]at h;grind
theorem HG(kn t z:Nat)(zs:List AV){x:AC}{Q:AE->St->Prop}{e:Ar}{h:Hp}{c z0:Nat}{d:List AV}(ht:t<V.nt)(hz:0<z)(he:lk e t=.sl z0 true [] d)(hQ:Aq V x Q ⟨(t,.own (kn,c+1) 0)::e,(.a (kn,c+1),.sl z true [] zs)::h,c+1⟩):Aq V x Q ⟨e,h,c⟩:=by
 intro code hc U a hA;have hr:=hA.1.t t;rw[he]at hr;obtain⟨base,hv⟩:=Sk hr;have hn:¬U.al (kn,c+1):=λhm=>by have:=hA.2.1 _ hm;simp at this;omega
 have ev:=Evo.claim hn base;refine wpIn_mono (hQ code hc (U.claim (kn,c+1) base) a ⟨⟨hA.1.h.claim hn base hz zs,λt'=>?_,hA.1.sz,(hA.1.df.mono ev).un (.inr (O9 ht))⟩,λm hm=>?_,V.g hA.2.2 ev λt' ht'=>?_⟩) λe a w k=>k.mono (V.ofE ev)
 ·simp only[lk];by_cases e:t=t'
  ·subst e;rw[t8 rfl,hv];exact Rep.claim
  ·rw[t7 e];exact(hA.1.t t').mono ev
 ·rcases hm with hm|rfl
  ·have:=hA.2.1 m hm;simp at this⊢;omega
  ·simp
 ·right;simp only[lk];rw[t7 (by omega)]
theorem Iv(kn:Nat)(m:Nm)(j z:Nat)(zs:List AV){x:AC}{Q:AE->St->Prop}{e:Ar}{h:Hp}{c z0:Nat}{d:List AV}(hz:0<z)(he:hl h (.c m j)=some (.sl z0 true [] d))(hQ:Aq V x Q ⟨e,(.c m j,.own (kn,c+1) 0)::(.a (kn,c+1),.sl z true [] zs)::h,c+1⟩):Aq V x Q ⟨e,h,c⟩:=by
 intro code hc U a hA;obtain⟨k1,k2,cs,T,v,k3,k4,k5,k6⟩:=(hA.1.h.cel m j _ he).cells rfl;obtain⟨base,rfl⟩:=Sk k6;have hn:¬U.al (kn,c+1):=λhm=>by have:=hA.2.1 _ hm;simp at this;omega
 have ev:=Evo.claim hn base;have hI:=hA.1.h.claim hn base hz zs;refine wpIn_mono (hQ code hc (U.claim (kn,c+1) base) a ⟨⟨⟨λn'=>?_,λn' j' c' hc'=>?_,λn' sz live rows d' hc'=>?_,λp q b hp hq=>?_,hI.lt,hI.ou,hI.dis⟩,λt'=>(hA.1.t t').mono ev,hA.1.sz,hA.1.df.mono ev⟩,λm hm=>?_,V.g hA.2.2 ev λt' ht'=>.inr rfl⟩) λe a w k=>k.mono (V.ofE ev)
 ·have:=hI.ln n';assumption
 ·simp only[hl]at hc';by_cases e:Loc.c m j=Loc.c n' j'
  ·cases e
   simp at hc';subst hc';exact⟨.inl k1,k2,.inl ⟨cs,T,_,k3,k4,k5,Rep.claim⟩⟩
  ·rw[t7 e]at hc';exact hI.cel n' j' c' hc'
 ·exact hI.arr n' sz live rows d' hc'
 ·have key:∀p b,Owns (U.claim (kn,c+1) base) ((.c m j,.own (kn,c+1) 0)::(.a (kn,c+1),.sl z true [] zs)::h) p b->Owns (U.claim (kn,c+1) base) ((.a (kn,c+1),.sl z true [] zs)::h) p b:=by
   rintro p b (⟨g1,g2,j',c',g3⟩|⟨g1,⟨sz,rows,d',g2⟩,o,cap,g3,g4⟩)
   ·simp only[hl]at g3;by_cases e:Loc.c m j=Loc.c p.2 j'
    ·cases e
     refine .inl ⟨g1,g2,j,.sl z0 true [] d,?_⟩;assumption
    ·rw[t7 e]at g3;exact .inl ⟨g1,g2,j',c',g3⟩
   ·exact .inr ⟨g1,⟨sz,rows,d',g2⟩,o,cap,g3,g4⟩
  exact hI.inj p q b (key p b hp) (key q b hq)
 ·rcases hm with hm|rfl
  ·have:=hA.2.1 _ hm;simp at this⊢;omega
  ·simp
end
theorem Aai(x:Value):isM (.v x)=false:=rfl
theorem sI(a:Nat)(b:Bool)(c:List (List AV))(d:List AV):isM (.sl a b c d)=false:=rfl
theorem sJ(a:List AV)(b:Nat):isM (.ro a b)=false:=rfl
theorem mC(a:List AV):isM (.agg a)=false:=rfl
theorem mD(a:List AV):isM (.tup a)=false:=rfl
theorem mF(f:Fn)(a b:List AV):isM (.clo f a b)=false:=rfl
theorem mH(n:Nm)(o:Nat):isM (.box n o)=false:=rfl
theorem mI(n:Nm)(o:Nat):isM (.own n o)=false:=rfl
theorem dI(n:Nm)(a b c d:Nat):isM (.elem n a b c d)=false:=rfl
theorem sK(n:Nm):isM (.mp n)=false:=rfl
theorem sL:isM .un=false:=rfl
theorem sM(b:Bool)(x:AV):isM (.gd b x)=true:=rfl
theorem dJ:MY []=true:=rfl
theorem YL(k x:AV)(r:List (List AV)):MY ([k,x]::r)=((kI k).isSome&&MY r):=rfl
end Go.Proofs.YtjdchfljifacoaaGreatDoor.Am
namespace Go.Proofs.YtjdchfljifacoaaGreatDoor
attribute [go_sem] Am.rS Am.lV Am.rT Am.rU Am.Og Am.rV Am.lW Am.rW Am.rX Am.NO Am.rY Am.lX Am.rZ Am.sC Am.NN Am.VJ Am.OX Am.Bh Am.Nh Am.Ni Am.Ry Am.Ir Am.TR Am.ht Am.hw Am.MF Am.DG Am.Ji Am.GX Am.dE Am.Xk Am.JQ Am.Rv List.getD_cons_zero List.getD_cons_succ List.any_cons List.any_nil List.flatMap_cons List.flatMap_nil Am.Gq Am.Aaf Am.Aag Am.HL Am.AF Am.NS Am.SZ Am.Lj Am.Ke Am.Iq Am.rL Am.rM Am.rN Am.rO Am.sD Am.rP Am.lU Am.rQ Am.rR Am.Py Am.lY Am.sE Am.sF Am.Of Am.Si Am.Pd Am.Pe Am.Fh Am.Hj Am.aX Am.oY Am.oZ Am.I1 Am.It Am.BX Am.MW Am.zQ Am.MS Am.Tj Am.MX Am.OZ Am.Rq Am.Qk Am.NT Am.Ql Am.NU Am.Lp Am.O1 Am.O2 Am.Rr Am.Qm Am.Qn Am.W7 Am.I5 Am.OY Am.LY Am.NR Am.iJ Am.Ti Am.OV Am.W6 Am.W4 Am.iI Am.C7 Am.VI Am.oX Am.K5 Am.OW Am.FZ Am.cut Am.G8 Am.Aai Am.sI Am.sJ Am.mC Am.mD Am.mF Am.mH Am.mI Am.dI Am.sK Am.sL Am.sM Am.GG Am.SY Am.kI Am.I2 Am.LZ Am.MZ Am.dJ Am.YL Am.H5 Am.I7 Am.Gi Am.Wa Am.KH Am.D6 Am.FH Am.vr Am.MU Am.res Am.EP Am.MT Am.FI Am.E2 Am.PR Am.LX Am.CF Am.Fl Am.Dy Am.Km Am.F0 Am.F1 Am.G9 Am.BN Am.AA Am.frz Am.BQ Am.lk Am.hl Am.Ay Am.Ax Am.D8 Am.gb Am.AV.cells Am.Bp Am.R2 Am.BC Am.aV Am.aW Am.X0 Am.dB Am.DK Am.one Am.wk Am.GW Am.V7 Am.V8 Go.undef Am.gs Am.Ab3 Am.Ab4 Am.Ab5 Am.Is Am.lQ Am.lR Am.rF Am.rG Am.lS Am.rH Am.rI Am.rJ Am.rK Am.Lq Am.Qi Am.Qj Am.Qh Am.Th Am.W5 Am.EG List.take_succ_cons List.take_zero List.drop_succ_cons List.drop_zero List.length_map Option.map_some Option.map_none Option.getD_some Option.getD_none List.map_cons List.map_nil List.length_cons List.length_nil List.append_nil List.nil_append List.cons_append List.isEmpty_cons List.isEmpty_nil List.replicate_succ List.replicate_zero List.all_cons List.all_nil List.set_cons_zero List.set_cons_succ List.getElem?_cons_zero List.getElem?_cons_succ Array.toList_map true_or or_true or_false false_or Am.Loc.c.injEq Am.Loc.a.injEq Prod.mk.injEq and_true true_and and_false false_and if_true if_false ite_true ite_false cond_true cond_false Bool.and_true Bool.true_and Bool.and_false Bool.false_and Bool.not_true Bool.not_false Bool.or_true Bool.or_false Bool.true_or Bool.false_or Bool.cond_false_right Bool.cond_true_left beq_self_eq_true List.length_append Int.toNat_natCast Int.cast_ofNat_Int Nat.zero_add Nat.add_zero eq_self implies_true true_implies false_implies Bool.false_eq_true Bool.true_eq_false decide_true decide_false not_true_eq_false not_false_eq_true
end Go.Proofs.YtjdchfljifacoaaGreatDoor
namespace Go.Proofs.YtjdchfljifacoaaGreatDoor.Am
open Go
section
variable{V:Ctx}
theorem Dc(hΓ:V.OK){rid:Nat}{ops:List AOp}{b:AC}{Q:AE->St->Prop}{e e':Ar}{h h':Hp}{c:Nat}{vc:Prop}(hex:Bh V.S (c+1) (100*rid) ops e h=some (vc,e',h'))(_:True)(hvc:vc)(hQ:Aq V b Q ⟨e',h',c+1⟩):Aq V (.seq (.reg rid ops) b) Q ⟨e,h,c⟩:=qZ hΓ hex hvc hQ
theorem D2(hΓ:V.OK){rid:Nat}{ops:List AOp}{Q:AE->St->Prop}{e e':Ar}{h h':Hp}{c:Nat}{vc:Prop}(hex:Bh V.S (c+1) (100*rid) ops e h=some (vc,e',h'))(_:True)(hvc:vc)(hQ:Q .n ⟨e',h',c+1⟩):Aq V (.reg rid ops) Q ⟨e,h,c⟩:=iR hΓ hex hvc hQ
end
theorem Dd(_:True){S:Tab}{rid i:Nat}{d:Option Nat}{post:List AOp}{e1:Ar}{Q:AE->St->Prop}{rvs:List RV}{e:Ar}{h:Hp}{c:Nat}{vc:Prop}{xs:List AV}{vc2:Prop}{e2:Ar}{h2:Hp}(h1:DK e h rvs=some (vc,xs))(hx:Bh S (c+1) (100*rid+(i+1)) post (BQ d (one xs) e1) h=some (vc2,e2,h2))(hv:vc)(hv2:vc2)(hQ:Q .n ⟨e2,h2,c+1⟩):Ba rvs (AQ S rid i d post e1 Q) .n ⟨e,h,c⟩:=sG h1 hv hx hv2 hQ
theorem De(_:True){S:Tab}{rid i:Nat}{d:Option Nat}{post:List AOp}{e1:Ar}{Q:AE->St->Prop}{rvs:List RV}{e:Ar}{h:Hp}{c:Nat}{vc:Prop}{xs:List AV}{vc2:Prop}{e2:Ar}{h2:Hp}(h1:DK e h rvs=some (vc,xs))(hx:Bh S (c+1) (100*rid+(i+1)) post (BQ d (one xs) e1) h=some (vc2,e2,h2))(hv:vc)(hv2:vc2)(hQ:Q .n ⟨e2,h2,c+1⟩):Ba rvs (AQ S rid i d post e1 Q) .r ⟨e,h,c⟩:=sH h1 hv hx hv2 hQ
end Go.Proofs.YtjdchfljifacoaaGreatDoor.Am
namespace Go.Proofs.YtjdchfljifacoaaGreatDoor.Am
open Go
def gd{E:Type}(p:Prop)[Decidable p](k:Option E):Option E:=if p then k else none
theorem Wj{E:Type}{p:Prop}[Decidable p]{k:Option E}{r:E}:gd p k=some r↔p/\k=some r:=by unfold gd;by_cases h:p<;>simp[h]
theorem Ab{E:Type}{p:Prop}[Decidable p]{k:Option E}(h:p):gd p k=k:=t8 h
theorem T1{E:Type}{b:Bool}{x y z:E}(hb:b=true)(h:(bif b then x else y)=z):x=z:=by subst hb;exact h
theorem T3{E:Type}{b:Bool}{x y z:E}(hb:b=false)(h:(bif b then x else y)=z):y=z:=by subst hb;exact h
abbrev Ai(n:Int):Prop:= -9223372036854775808<=n/\n<=9223372036854775807
instance(n:Int):Decidable (Ai n):=inferInstanceAs (Decidable (_/\_))
def Bz{E:Type}(l:List E)(i:Int):Option E:=if 0<=i then l[i.toNat]? else none
theorem Nu{E:Type}{l:List E}{i:Int}{x:E}(h:Bz l i=some x):(0<=i/\i<l.length)/\∀d,l.getD i.toNat d=x:=by
 unfold Bz at h;split at h
 ·rename_i h0;obtain⟨h1,h2⟩:=y5.1 h;refine⟨⟨h0,by omega⟩,λd=>?_⟩;rw[s9,h];rfl
 ·cases h
theorem ixs{E:Type}{l:List E}{i:Int}{x:E}(h:Bz l i=some x)(d:E):l.getD i.toNat d=x:=(Nu h).2 d
theorem MJ{E:Type}{l:List E}{i:Int}(d:E)(h0:0<=i)(h1:i<l.length):Bz l i=some (l.getD i.toNat d):=by unfold Bz;rw[t8 h0,s9,t6 (by omega)];rfl
theorem Rz{E:Type}{l:List E}{k:Nat}:Bz l (k:Int)=l[k]? :=by unfold Bz;rw[t8 (by omega)];rfl
section
variable{V:Ctx}
theorem Xt{c:AC}{Q Q':AE->St->Prop}{s:St}(h:Aq V c Q s)(k:∀e s,Q e s->Q' e s\/∃s',Le s' s/\Q' e s'):Aq V c Q' s:=by
 intro code hc U a hA;refine wpIn_mono (h code hc U a hA) ?_;rintro e a' w' ⟨σ',s',e',h1,h2,h3,h4,h5⟩;rcases k _ _ h5 with h6|⟨s'',hl,hq⟩
 ·exact⟨σ',s',e',h1,h2,h3,h4,h6⟩
 ·obtain⟨σ'',g1,g2,g3⟩:=h3.le hl;exact⟨σ'',s'',e',g1.trans h1,V.tr h2 (V.ofE g2),g3,h4,hq⟩
def Xu{X:Type}(e0:AE)(I:X->St)(Pre:X->Prop)(K:AE->St->Prop)(e:AE)(s:St):Prop:=(e=e0/\∃x,Pre x/\Le (I x) s)\/(e≠e0/\K e s)
theorem sO{X:Type}{e0:AE}{I:X->St}{Pre:X->Prop}{K:AE->St->Prop}{s:St}(x:X)(h:Pre x)(hl:Le (I x) s):Xu e0 I Pre K e0 s:=.inl ⟨rfl,x,h,hl⟩
theorem AO{X:Type}{e0 e:AE}{I:X->St}{Pre:X->Prop}{K:AE->St->Prop}{s:St}(h:e≠e0)(hK:K e s):Xu e0 I Pre K e s:=.inr ⟨h,hK⟩
theorem mJ{X:Type}(I:X->St)(Pre:X->Prop)(e0:AE){K:AE->St->Prop}{c:AC}{s:St}(h1:Aq V c (Xu e0 I Pre K) s)(h2:∀x,Pre x->K e0 (I x)):Aq V c K s:=by
 refine Xt h1 λe s h=>?_
 rcases h with⟨rfl,x,hx,hl⟩|⟨_,h⟩
 ·exact .inr ⟨I x,hl,h2 x hx⟩
 ·exact .inl h
theorem sP{B B':Bool}{cc:Opd}{x y:AC}{Q:AE->St->Prop}{e:Ar}{h:Hp}{c:Nat}(hb:Ay true (Ax e cc)=.v (.bool B))(hB:B=B')(ht:B'=true->Aq V x Q ⟨e,h,c⟩)(hf:B'=false->Aq V y Q ⟨e,h,c⟩):Aq V (.cond cc x y) Q ⟨e,h,c⟩:=by subst hB;exact Lw hb ht hf
end
def dL(V:Ctx)(b:AC)(Q:AE->St->Prop):Nat->St->Prop|0,_=>False|m+1,s=>Aq V b (λe s'=>match e with|.n=>dL V b Q m s'|.x i=>Q (.x i) s'|.r=>Q .r s'|.p v=>Q (.p v) s') s
def RA(V:Ctx)(b:AC)(Q:AE->St->Prop)(m:Nat):AE->St->Prop:=λe s'=>match e with|.n=>dL V b Q m s'|.x i=>Q (.x i) s'|.r=>Q .r s'|.p v=>Q (.p v) s'
section
variable{V:Ctx}
theorem Gs{b:AC}{Q:AE->St->Prop}{m:Nat}{s:St}(h:Aq V b (RA V b Q m) s):RA V b Q (m+1) .n s:=h
theorem Gt{b:AC}{Q:AE->St->Prop}{m i:Nat}{s:St}(h:Q (.x i) s):RA V b Q m (.x i) s:=h
theorem Gu{b:AC}{Q:AE->St->Prop}{m:Nat}{s:St}(h:Q .r s):RA V b Q m .r s:=h
theorem Es(m:Nat){b:AC}{Q:AE->St->Prop}{s:St}(h:Aq V b (RA V b Q m) s):Aq V (.loop b) Q s:=by
 intro code hc U a hA;cases code with
 |loop c=>
  simp only[cCode]at hc;cases hx:cCode V.P V.nt c with
  |none=>simp[hx]at hc
  |some x'=>
   simp[hx]at hc;subst hc;refine wpIn_loop_rounds (m+1) ?_;have key:∀(m:Nat)(s:St)(σ':Cf)(a':Act),dL V x' Q m s->At V σ' s a'->V.R U σ'->Code.roundsIn V.F 0 V.P c (lift V U Q) m a' σ'.w:=by
    intro m;induction m with
    |zero=>intro s σ' a' h;exact h.elim
    |succ m ih=>
     intro s σ' a' h hA' hR;rw[roundsIn_succ];refine wpIn_mono (h c hx σ' a' hA') ?_;rintro e a1 w1 ⟨Z,s',e',rfl,h2,h3,h4,h5⟩;cases e with
     |normal=>simp[AE.of]at h4;subst h4;exact ih s' Z a1 h5 h3 (V.tr hR h2)
     |exit j=>simp[AE.of]at h4;subst h4;exact⟨Z,s',_,rfl,V.tr hR h2,h3,rfl,h5⟩
     |ret=>simp[AE.of]at h4;subst h4;exact⟨Z,s',_,rfl,V.tr hR h2,h3,rfl,h5⟩
     |goto l=>simp[AE.of]at h4
     |panic c=>obtain⟨v,rfl,rfl⟩:=AE.of_panic h4;exact⟨Z,s',_,rfl,V.tr hR h2,h3,rfl,h5⟩
     |outgrown=>simp[AE.of]at h4
   exact key (m+1) s U a h hA (Ctx.rfl V U)
 |region id ops d=>simp only[cCode]at hc;obtain⟨_,_,⟨_,e⟩|⟨_,_,_,_,e⟩⟩:=BM hc<;>cases e
 |seq x y=>simp only[cCode]at hc;split at hc<;>simp at hc
 |cond c x y=>simp only[cCode]at hc;split at hc<;>simp at hc
 |rangeFunc f ps x y=>simp only[cCode]at hc;split at hc<;>simp at hc
 |_=>simp[cCode]at hc
end
def S3(n:Nm):Hp->Hp|[]=>[]|(.c m j,x)::r=>if m=n then S3 n r else(.c m j,x)::S3 n r|(.a m,x)::r=>(.a m,x)::S3 n r
theorem QR(r:List AV)(rs:List (List AV))(d:List AV):DJ (r::rs) d 0=r:=rfl
theorem QS(r:List AV)(rs:List (List AV))(d:List AV)(n:Nat):DJ (r::rs) d (n+1)=DJ rs d n:=rfl
attribute [go_sem] S3
end Go.Proofs.YtjdchfljifacoaaGreatDoor.Am
