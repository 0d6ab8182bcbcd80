import Derived.Test.YtjdchfljifacoaaGreatA5
import Derived.LoopNIn
set_option linter.all false
namespace Go.Proofs.YtjdchfljifacoaaGreat.Am
open Go
abbrev Spec:=List AV->Option (Prop×AV)
def J9:List (Nat×Spec)->Nat->List AV->Option (Prop×AV)|[],_,_=>none|(k,s)::r,f,args=>if k=f then s args else J9 r f args
def P6:Nat->List AV->List AV->Option (Prop×AV×List (Nat×AV)):=λ_ _ _=>none
def T9:Nat->List AV->List AV->Option (Prop×Value):=λ_ _ _=>none
def Rc:Nat->List AV->List AV->Option (Prop×AV):=λ_ _ _=>none
def Pz:Nat->List AV->Option (Prop×(Nm->Hp)×(Nm->AV)):=λ_ _=>none
def PA:Nat->List AV->List AV->Option (Prop×Value):=λ_ _ _=>none
def PB:Nat->Nat->List (List AV)->List AV->Option (Prop×List (List AV)):=λ_ _ _ _=>none
def Gs(l:List (Nat×Spec)):Tab:=⟨J9 l,false,false,P6,T9,Rc,Pz,PB,PA⟩
theorem rH(l:List (Nat×Spec)):(Gs l).f=J9 l:=rfl
theorem rJ(l:List (Nat×Spec)):(Gs l).w=false:=rfl
def Pe(l:List (Nat×Spec)):Tab:=⟨J9 l,true,false,P6,T9,Rc,Pz,PB,PA⟩
theorem vV(l:List (Nat×Spec)):(Pe l).f=J9 l:=rfl
theorem vW(l:List (Nat×Spec)):(Pe l).w=true:=rfl
theorem rK(l:List (Nat×Spec)):(Gs l).m=false:=rfl
theorem vX(l:List (Nat×Spec)):(Pe l).m=false:=rfl
def Pf(l:List (Nat×Spec)):Tab:=⟨J9 l,false,true,P6,T9,Rc,Pz,PB,PA⟩
theorem vY(l:List (Nat×Spec)):(Pf l).f=J9 l:=rfl
theorem vZ(l:List (Nat×Spec)):(Pf l).w=false:=rfl
theorem wA(l:List (Nat×Spec)):(Pf l).m=true:=rfl
theorem rL{P:Program}{l:List (Nat×Spec)}(h:TabOK P (Gs l)):TabOK P (Pf l):=⟨h.f,h.e,h.p,h.q,h.k,h.y,h.o⟩
def AG(P:Program)(k:Nat)(s:Spec):Prop:=Dh P k/\∀args vc r,s args=some (vc,r)->vc->PCall P k args r
theorem Aj{P:Program}:TabOK P (Gs []):=⟨by simp_all[Gs,J9],λ_ _ _ _ _ _ _ h=>(by cases h),λ_ _ _ _ _ _ h=>(by cases h),λ_ _ _ _ _ h=>(by cases h),λ_ _ _ _ _ h=>(by cases h),λ_ _ _ _ _ h=>(by cases h),λ_ _ _ _ _ _ h=>(by cases h)⟩
theorem Ab{P:Program}{k:Nat}{s:Spec}{l:List (Nat×Spec)}(h:AG P k s)(hr:TabOK P (Gs l)):TabOK P (Gs ((k,s)::l)):=by
 refine⟨λf args vc r hs hv=>?_,λ_ _ _ _ _ _ _ h=>(by cases h),λ_ _ _ _ _ _ h=>(by cases h),λ_ _ _ _ _ h=>(by cases h),λ_ _ _ _ _ h=>(by cases h),λ_ _ _ _ _ h=>(by cases h),λ_ _ _ _ _ _ h=>(by cases h)⟩;simp only[Gs,J9]at hs;split at hs
 ·rename_i e;subst e;exact⟨h.1,h.2 args vc r hs hv⟩
 ·exact hr.f f args vc r hs hv
abbrev QK:=List AV->List AV->Option (Prop×AV×List (Nat×AV))
abbrev QL:=List AV->List AV->Option (Prop×Value)
def QM:List (Nat×QK)->Nat->List AV->List AV->Option (Prop×AV×List (Nat×AV))|[],_,_,_=>none|(k,s)::r,f,args,cs=>if k=f then s args cs else QM r f args cs
def QN:List (Nat×QL)->Nat->List AV->List AV->Option (Prop×Value)|[],_,_,_=>none|(k,s)::r,f,args,cs=>if k=f then s args cs else QN r f args cs
def Lb(l:List (Nat×Spec))(le:List (Nat×QK))(lp:List (Nat×QL)):Tab:=⟨J9 l,false,false,QM le,QN lp,Rc,Pz,PB,PA⟩
theorem wB(l le lp):(Lb l le lp).f=J9 l:=rfl
theorem wC(l le lp):(Lb l le lp).w=false:=rfl
theorem wD(l le lp):(Lb l le lp).m=false:=rfl
theorem wE(l le lp):(Lb l le lp).e=QM le:=rfl
theorem wF(l le lp):(Lb l le lp).q=Rc:=rfl
theorem rM(l):(Gs l).q=Rc:=rfl
theorem wG(l):(Pe l).q=Rc:=rfl
theorem wH(l):(Pf l).q=Rc:=rfl
theorem wI(l le lp):(Lb l le lp).k=Pz:=rfl
theorem rN(l):(Gs l).k=Pz:=rfl
theorem wJ(l):(Pe l).k=Pz:=rfl
theorem wK(l):(Pf l).k=Pz:=rfl
theorem wL(l le lp):(Lb l le lp).o=PB:=rfl
theorem rO(l):(Gs l).o=PB:=rfl
theorem wM(l):(Pe l).o=PB:=rfl
theorem wN(l):(Pf l).o=PB:=rfl
theorem wO(l le lp):(Lb l le lp).y=PA:=rfl
theorem rP(l):(Gs l).y=PA:=rfl
theorem wP(l):(Pe l).y=PA:=rfl
theorem wQ(l):(Pf l).y=PA:=rfl
theorem wR(l le lp):(Lb l le lp).p=QN lp:=rfl
theorem rQ(l):(Gs l).e=P6:=rfl
theorem wS(l):(Pe l).e=P6:=rfl
theorem wT(l):(Pf l).e=P6:=rfl
def EOK(P:Program)(k:Nat)(s:QK):Prop:=Dh P k/\∀args cells vc r us n,s args cells=some (vc,r,us)->vc->FK args=some n->US P k n args cells r us
def POK(P:Program)(k:Nat)(s:QL):Prop:=Dh P k/\∀args cells vc v n,s args cells=some (vc,v)->vc->FK args=some n->R9 P k n args cells v
theorem rR{P:Program}{l:List (Nat×Spec)}{le:List (Nat×QK)}{lp:List (Nat×QL)}(h:TabOK P (Gs l))(he:∀x∈le,EOK P x.1 x.2)(hp:∀x∈lp,POK P x.1 x.2):TabOK P (Lb l le lp):=by
 refine⟨h.f,λf args cells vc r us n hs hv hb=>?_,λf args cells vc v n hs hv hb=>?_,λ_ _ _ _ _ h=>(by cases h),λ_ _ _ _ _ h=>(by cases h),λ_ _ _ _ _ h=>(by cases h),λ_ _ _ _ _ _ h=>(by cases h)⟩
 ·simp only[Lb]at hs;induction le with
  |nil=>simp[QM]at hs
  |cons x le ih=>
   simp only[QM]at hs;split at hs
   ·rename_i e;subst e;have:=he x (by simp);exact⟨this.1,this.2 _ _ _ _ _ _ hs hv hb⟩
   grind
 ·simp only[Lb]at hs;induction lp with
  |nil=>simp[QN]at hs
  |cons x le ih=>
   simp only[QN]at hs;split at hs
   ·rename_i e;subst e;have:=hp x (by simp);exact⟨this.1,this.2 _ _ _ _ _ hs hv hb⟩
   grind
mutual
theorem Yl:∀(x y:AV),wk x y->B2 x=true->B2 y=true
 |.sl z f rows d,y,h,hr=>by cases y<;>grind[B2,wk]
 |.agg a,y,h,hr=>by
  cases y with
  |agg b=>exact Nf a b h hr
  |_=>cases h
 |.tup a,y,h,hr=>by
  cases y with
  |tup b=>exact Nf a b h hr
  |_=>cases h
 |.v x,y,h,hr=>by grind[wk]
 |.ro _ _,y,h,hr=>by grind[wk]
 |.clo _ _ _,y,h,hr=>by grind[wk]
 |.box _ _,y,h,hr=>by grind[wk]
 |.own _ _,y,h,hr=>by grind[wk]
 |.elem _ _ _ _ _,y,h,hr=>by grind[wk]
 |.gd _ _,y,h,hr=>by grind[wk]
 |.mp _,y,h,hr=>by grind[wk]
 |.un,y,h,hr=>by grind[wk]
theorem Nf:∀(xs ys:List AV),HS xs ys->AP xs=true->AP ys=true
 |[],[],_,_=>rfl
 |x::xs,y::ys,h,hr=>by simp only[AP,nK]at hr⊢;exact⟨Yl x y h.1 hr.1,Nf xs ys h.2 hr.2⟩
 |[],_::_,h,_=>by simp[HS]at h
 |_::_,[],h,_=>by simp[HS]at h
end
theorem PCall.arg{P:Program}{f:Nat}{args args':List AV}{r:AV}(hw:HS args args')(h:PCall P f args' r):PCall P f args r:=λU vs hg hl hp hr=>h U vs hg hl (Nf _ _ hw hp) (NS _ _ _ hw hr)
theorem PCall.res{P:Program}{f:Nat}{args:List AV}{r r':AV}(hw:wk r r')(h:PCall P f args r):PCall P f args r':=λU vs hg hl hp hr=>(h U vs hg hl hp hr).mono λe w' ⟨v,h1,h2,h0,h3,h4⟩=>⟨v,h1,h2,h0,Yl _ _ hw h3,KH _ _ _ hw h4⟩
theorem G1{Q:AE->St->Prop}{e:AE}{s:St}(h:Q e s):Q e s:=h
theorem Ew{V:Ctx}{c:AC}{Q:AE->St->Prop}{s:St}(h:Ax V c Q s):Ax V c Q s:=h
theorem AdA{P:Program}{S:Tab}{nt hb:Nat}:(Ctx.fn P S nt hb).S=S:=rfl
theorem AdB{P:Program}{S:Tab}{nt l:Nat}:(Ctx.rd P S nt l).S=S:=rfl
theorem AdC{P:Program}{F:Fence}{S:Tab}{nt hb:Nat}{β:Int->Cf->Prop}{hnt:nt<=gs}{evo:∀{k:Int} {U σ':Cf},β k U->Evo U σ'->β k σ'}:(Ctx.it P F S nt hb β hnt evo).S=S:=rfl
theorem wU{S:Tab}{rid i:Nat}{d:Option Nat}{post:List AOp}{e1:Az}{Q:AE->St->Prop}{rvs:List RV}{e:Az}{h:Hp}{c:Nat}{vc:Prop}{xs:List AV}{vc2:Prop}{e2:Az}{h2:Hp}(h1:DS e h rvs=some (vc,xs))(hv:vc)(hx:Bg S (c+1) (100*rid+(i+1)) post (BV d (one xs) e1) h=some (vc2,e2,h2))(hv2:vc2)(hQ:Q .n ⟨e2,h2,c+1⟩):Bk rvs (AY S rid i d post e1 Q) .n ⟨e,h,c⟩:=⟨vc,xs,h1,hv,vc2,e2,h2,hx,hv2,hQ⟩
theorem wV{S:Tab}{rid i:Nat}{d:Option Nat}{post:List AOp}{e1:Az}{Q:AE->St->Prop}{rvs:List RV}{e:Az}{h:Hp}{c:Nat}{vc:Prop}{xs:List AV}{vc2:Prop}{e2:Az}{h2:Hp}(h1:DS e h rvs=some (vc,xs))(hv:vc)(hx:Bg S (c+1) (100*rid+(i+1)) post (BV d (one xs) e1) h=some (vc2,e2,h2))(hv2:vc2)(hQ:Q .n ⟨e2,h2,c+1⟩):Bk rvs (AY S rid i d post e1 Q) .r ⟨e,h,c⟩:=⟨vc,xs,h1,hv,vc2,e2,h2,hx,hv2,hQ⟩
theorem GO{P:Program}{S:Tab}{nt hb:Nat}(hS:TabOK P S)(i:Nat){rid:Nat}{ops post:List AOp}{d:Option Nat}{g:Option (Nat×Bool)}{k:AK}{Q:AE->St->Prop}{e e1:Az}{h h1:Hp}{c:Nat}{vc:Prop}{f:Nat}{args:List AV}{fn:Func}{ac:AC}{rvs:List RV}{ntf:Nat}(hf:P.funcs[f]? =some fn)(hcf:Du P fn=some (ac,rvs))(hnt:fn.ntmps=ntf)(hok:Dh P f)(hyo:ops[i]? =some ⟨d,g,k⟩)(hpost:ops.drop (i+1)=post)(hex:Bg S (c+1) (100*rid) (ops.take i) e h=some (vc,e1,h1))(hvc:vc)(hg:Ei e1 g=some true)(hca:EU e1 k=some (f,args))(hn:args.length<=ntf)(hbody:∀hb,Ax (Ctx.fn P S ntf hb) ac (Bk rvs (AY S rid i d post e1 Q)) ⟨BQ 0 args,h1,c+1⟩):Ax (Ctx.fn P S nt hb) (.reg rid ops) Q ⟨e,h,c⟩:=by subst hpost;exact Yk (Ctx.fn_ok hS) i hf hcf hnt hok hyo hex hvc hg hca hn hbody
theorem Pg{P:Program}{S:Tab}{nt hb:Nat}{β:Int->Cf->Prop}{hnt:nt<=gs}{evo:∀{k:Int} {U σ':Cf},β k U->Evo U σ'->β k σ'}{l:Nat}{xs:List (List AV)}(hS:TabOK P S)(hR:Rng P Fence.wide l hb xs β)(i:Nat){rid:Nat}{ops post:List AOp}{d:Option Nat}{g:Option (Nat×Bool)}{Q:AE->St->Prop}{e e1:Az}{h h1:Hp}{c:Nat}{vc:Prop}{x:Opd}{as:List Opd}{k:Nat}{args:List AV}{vt vf:Prop}{et ef:Az}{ht hf:Hp}(hyo:ops[i]? =some ⟨d,g,.cv x as⟩)(hpost:ops.drop (i+1)=post)(hex:Bg S (c+1) (100*rid) (ops.take i) e h=some (vc,e1,h1))(hvc:vc)(hg:Ei e1 g=some true)(hx:AJ true (AI e1 x)=.clo (.yield l) [] [])(hgh:lk e gs=CL k)(hargs:as.map (λx=>AJ true (AI e1 x))=args)(hxs:xs[k]? =some args)(hxT:Bg S (c+1) (100*rid+(i+1)) post (BV d (.v (.bool true)) ((gs,CL (k+1))::e1)) h1=some (vt,et,ht))(hvT:vt)(hQT:Q .n ⟨et,ht,c+1⟩)(hxF:Bg S (c+1) (100*rid+(i+1)) post (BV d (.v (.bool false)) ((gs,CL (-1))::e1)) h1=some (vf,ef,hf))(hvF:vf)(hQF:Q .n ⟨ef,hf,c+1⟩):Ax (Ctx.it P Fence.wide S nt hb β hnt evo) (.reg rid ops) Q ⟨e,h,c⟩:=by
 refine bR hS hR i hyo rfl hex hvc hg hx hgh hargs hxs λb=>?_
 grind
theorem Sv{V:Ctx}(p:Prop)[Decidable p]{b:Bool}{cc:Opd}{x y:AC}{Q:AE->St->Prop}{e:Az}{h:Hp}{c:Nat}(hb:AJ true (AI e cc)=.v (.bool b))(hp:b=decide p)(ht:p->Ax V x Q ⟨e,h,c⟩)(hf:¬p->Ax V y Q ⟨e,h,c⟩):Ax V (.cond cc x y) Q ⟨e,h,c⟩:=by subst hp;exact vS hb ht hf
theorem Ctx.it_ok{P:Program}{S:Tab}{nt hb:Nat}{β:Int->Cf->Prop}{hnt:nt<=gs}{evo:∀{k:Int} {U σ':Cf},β k U->Evo U σ'->β k σ'}(h:TabOK P S):(Ctx.it P Fence.wide S nt hb β hnt evo).OK:=⟨h,.inl (Eq.refl _)⟩
abbrev P7(V:Ctx)(l:Nat)(xs:List (List AV)):Prop:=∀(i:Nat){rid:Nat}{ops post:List AOp}{d:Option Nat}{g:Option (Nat×Bool)}{Q:AE->St->Prop}{e e1:Az}{h h1:Hp}{c:Nat}{vc:Prop}{x:Opd}{as:List Opd}{k:Nat}{args:List AV}{vt vf:Prop}{et ef:Az}{ht hf:Hp}(_:ops[i]? =some ⟨d,g,.cv x as⟩)(_:ops.drop (i+1)=post)(_:Bg V.S (c+1) (100*rid) (ops.take i) e h=some (vc,e1,h1))(_:vc)(_:Ei e1 g=some true)(_:AJ true (AI e1 x)=.clo (.yield l) [] [])(_:lk e gs=CL k)(_:as.map (λx=>AJ true (AI e1 x))=args)(_:xs[k]? =some args)(_:Bg V.S (c+1) (100*rid+(i+1)) post (BV d (.v (.bool true)) ((gs,CL (k+1))::e1)) h1=some (vt,et,ht))(_:vt)(_:Q .n ⟨et,ht,c+1⟩)(_:Bg V.S (c+1) (100*rid+(i+1)) post (BV d (.v (.bool false)) ((gs,CL (-1))::e1)) h1=some (vf,ef,hf))(_:vf)(_:Q .n ⟨ef,hf,c+1⟩),Ax V (.reg rid ops) Q ⟨e,h,c⟩
theorem Ex{V:Ctx}{b:AC}{Q:AE->St->Prop}{s:St}(h:Ax V b Q s):BK V b Q .n s:=h
theorem V9{X:Type}{e e':Az}{I:X->Hp×Nat}{Pre:X->Prop}{K:X->Nat}{j:Nat}{Q:AE->St->Prop}{h:Hp}{c:Nat}(x:X)(h1:Pre x)(h2:K x=j)(h3:Le ⟨e,(I x).1,(I x).2⟩ ⟨e,h,c⟩):BD e I Pre K j Q .n ⟨e',h,c⟩:=⟨x,h1,h2,h3⟩
theorem Ey{X:Type}{e e':Az}{I:X->Hp×Nat}{Pre:X->Prop}{K:X->Nat}{j i:Nat}{Q:AE->St->Prop}{h:Hp}{c:Nat}(hq:Q (.x i) ⟨e,h,c⟩):BD e I Pre K j Q (.x i) ⟨e',h,c⟩:=hq
theorem Ez{X:Type}{e e':Az}{I:X->Hp×Nat}{Pre:X->Prop}{K:X->Nat}{j:Nat}{Q:AE->St->Prop}{h:Hp}{c:Nat}(hq:Q .r ⟨e,h,c⟩):BD e I Pre K j Q .r ⟨e',h,c⟩:=hq
theorem Le.of{e e':Az}{h h':Hp}{c c':Nat}(h1:T3 e' e)(h2:Ye h' h)(h3:c<=c'):Le ⟨e',h',c'⟩ ⟨e,h,c⟩:=⟨h1,h2,h3⟩
theorem nP{n:Nat}{s:St}(h:lk s.env gs=CL n):Cq n .n s:=.inl h
theorem AbO{n:Nat}{s:St}(h:lk s.env gs=CL n):Cq n .r s:=.inl h
theorem Sw{n:Nat}{s:St}(h:lk s.env gs=CL (-1)):Cq n .r s:=.inr h
section
variable{V:Ctx}
def Cf.claim(U:Cf)(n:Nm)(base:Option Addr):Cf:={U with ra:=λm=>if m=n then(base,0)else U.ra m,ln:=λm=>if m=n then some 0 else U.ln m,al:=λm=>U.al m\/m=n}
theorem Evo.claim{U:Cf}{n:Nm}(hn:¬U.al n)(base:Option Addr):Evo U (U.claim n base) where
 box m hm:=⟨.inl hm,rfl⟩
 arr m hm l hl:=by
  have:¬m=n:=by rintro rfl;exact hn hm
  simp only[Cf.claim,dQ this]at hl⊢;grind
 fro b o h h':=⟨h,h'⟩
 out:=rfl
 sz:=fW _
 io:=SameO.refl _
theorem Rep.claim{U:Cf}{n:Nm}{base:Option Addr}:Rep (U.claim n base) (.own n 0) (.slice base 0 0):=by
 refine⟨.inr rfl,rfl,λl hl=>?_⟩
 simp_all[Cf.claim]
theorem HInv.claim{U:Cf}{hp:Hp}(h:HInv U hp){n:Nm}(hn:¬U.al n)(base:Option Addr){z:Nat}(hz:0<z)(d:List AV):HInv (U.claim n base) ((.a n,.sl z true [] d)::hp) where
 ln m:=by
  simp only[Cf.claim,lenOf,hl];by_cases hm:m=n
  ·subst hm;simp
  ·rw[dQ hm,dQ (by intro e;cases e;exact hm rfl)];exact h.ln m
 cel m j c hc:=by simp only[hl]at hc;rw[dQ (by intro e;cases e)]at hc;have k:=h.cel m j c hc;exact k.keep (Evo.claim hn base) k.2.1 rfl
 arr m sz live rows d' hc:=by
  simp only[hl]at hc;by_cases hm:m=n
  ·subst hm;simp at hc;obtain⟨rfl,rfl,rfl,rfl⟩:=hc;exact⟨.inr rfl,hz,by simp,.inl ⟨base,by simp[Cf.claim],rfl⟩⟩
  ·rw[dQ (by intro e;cases e;exact hm rfl)]at hc;exact(h.arr m sz live rows d' hc).keep (Evo.claim hn base) (by simp[Cf.claim,hm]) λ_ _ _ _ _ _ hM=>⟨hM,rfl⟩
 inj p q b hp' hq':=by
  have key:∀p b,Owns (U.claim n base) ((.a n,.sl z true [] d)::hp) p b->Owns U hp p b:=by
   rintro p b (⟨g1,g2,j,c,g3⟩|⟨g1,⟨sz,rows,d',g2⟩,o,cap,g3,g4⟩)
   ·simp only[hl]at g3;rw[dQ (by intro e;cases e)]at g3;exact .inl ⟨g1,g2,j,c,g3⟩
   ·by_cases hm:p.2=n
    ·simp[Cf.claim,hm]at g3;omega
    ·simp only[hl]at g2;rw[dQ (by intro e;cases e;exact hm rfl)]at g2;simp only[Cf.claim,dQ hm]at g3;exact .inr ⟨g1,⟨sz,rows,d',g2⟩,o,cap,g3,g4⟩
  exact h.inj p q b (key p b hp') (key q b hq')
 lt:=h.lt
 ou:=h.ou
 dis:=h.dis
theorem Ua{U:Cf}{z:Nat}{d:List AV}{v:Value}(h:Rep U (.sl z true [] d) v):∃base,v=.slice base 0 0:=by simp only[Rep]at h;grind
theorem DT(kn t z:Nat)(zs:List AV){x:AC}{Q:AE->St->Prop}{e:Az}{h:Hp}{c z0:Nat}{d:List AV}(ht:t<V.nt)(hz:0<z)(he:lk e t=.sl z0 true [] d)(hQ:Ax V x Q ⟨(t,.own (kn,c+1) 0)::e,(.a (kn,c+1),.sl z true [] zs)::h,c+1⟩):Ax V x Q ⟨e,h,c⟩:=by
 intro code hc U a hA;have hr:=hA.1.t t;rw[he]at hr;obtain⟨base,hv⟩:=Ua hr;have hn:¬U.al (kn,c+1):=λhm=>by have:=hA.2.1 _ hm;simp at this;omega
 have ev:=Evo.claim hn base;refine wpIn_mono (hQ code hc (U.claim (kn,c+1) base) a ⟨⟨hA.1.h.claim hn base hz zs,λt'=>?_,hA.1.sz,(hA.1.df.mono ev).un (.inr (MK ht))⟩,λm hm=>?_,V.g hA.2.2 ev λt' ht'=>?_⟩) λe a w k=>k.mono (V.ofE ev)
 ·simp only[lk];by_cases e:t=t'
  ·subst e;rw[dW rfl,hv];exact Rep.claim
  ·rw[dQ e];exact(hA.1.t t').mono ev
 ·rcases hm with hm|rfl
  ·have:=hA.2.1 m hm;simp at this⊢;omega
  ·simp
 ·right;simp only[lk];rw[dQ (by omega)]
theorem Fc(kn:Nat)(m:Nm)(j z:Nat)(zs:List AV){x:AC}{Q:AE->St->Prop}{e:Az}{h:Hp}{c z0:Nat}{d:List AV}(hz:0<z)(he:hl h (.c m j)=some (.sl z0 true [] d))(hQ:Ax V x Q ⟨e,(.c m j,.own (kn,c+1) 0)::(.a (kn,c+1),.sl z true [] zs)::h,c+1⟩):Ax V x Q ⟨e,h,c⟩:=by
 intro code hc U a hA;obtain⟨k1,k2,cs,T,v,k3,k4,k5,k6⟩:=(hA.1.h.cel m j _ he).cells rfl;obtain⟨base,rfl⟩:=Ua k6;have hn:¬U.al (kn,c+1):=λhm=>by have:=hA.2.1 _ hm;simp at this;omega
 have ev:=Evo.claim hn base;have hI:=hA.1.h.claim hn base hz zs;refine wpIn_mono (hQ code hc (U.claim (kn,c+1) base) a ⟨⟨⟨λn'=>?_,λn' j' c' hc'=>?_,λn' sz live rows d' hc'=>?_,λp q b hp hq=>?_,hI.lt,hI.ou,hI.dis⟩,λt'=>(hA.1.t t').mono ev,hA.1.sz,hA.1.df.mono ev⟩,λm hm=>?_,V.g hA.2.2 ev λt' ht'=>.inr rfl⟩) λe a w k=>k.mono (V.ofE ev)
 ·have:=hI.ln n';assumption
 ·simp only[hl]at hc';by_cases e:Loc.c m j=Loc.c n' j'
  ·cases e
   simp at hc';subst hc';exact⟨.inl k1,k2,.inl ⟨cs,T,_,k3,k4,k5,Rep.claim⟩⟩
  ·rw[dQ e]at hc';exact hI.cel n' j' c' hc'
 ·exact hI.arr n' sz live rows d' hc'
 ·have key:∀p b,Owns (U.claim (kn,c+1) base) ((.c m j,.own (kn,c+1) 0)::(.a (kn,c+1),.sl z true [] zs)::h) p b->Owns (U.claim (kn,c+1) base) ((.a (kn,c+1),.sl z true [] zs)::h) p b:=by
   rintro p b (⟨g1,g2,j',c',g3⟩|⟨g1,⟨sz,rows,d',g2⟩,o,cap,g3,g4⟩)
   ·simp only[hl]at g3;by_cases e:Loc.c m j=Loc.c p.2 j'
    ·cases e
     refine .inl ⟨g1,g2,j,.sl z0 true [] d,?_⟩;assumption
    ·rw[dQ e]at g3;exact .inl ⟨g1,g2,j',c',g3⟩
   ·exact .inr ⟨g1,⟨sz,rows,d',g2⟩,o,cap,g3,g4⟩
  exact hI.inj p q b (key p b hp) (key q b hq)
 ·rcases hm with hm|rfl
  ·have:=hA.2.1 _ hm;simp at this⊢;omega
  ·simp
end
theorem AbR(x:Value):isM (.v x)=false:=rfl
theorem wW(a:Nat)(b:Bool)(c:List (List AV))(d:List AV):isM (.sl a b c d)=false:=rfl
theorem wX(a:List AV)(b:Nat):isM (.ro a b)=false:=rfl
theorem rS(a:List AV):isM (.agg a)=false:=rfl
theorem rT(a:List AV):isM (.tup a)=false:=rfl
theorem rU(f:Fn)(a b:List AV):isM (.clo f a b)=false:=rfl
theorem rV(n:Nm)(o:Nat):isM (.box n o)=false:=rfl
theorem rW(n:Nm)(o:Nat):isM (.own n o)=false:=rfl
theorem jD(n:Nm)(a b c d:Nat):isM (.elem n a b c d)=false:=rfl
theorem wY(n:Nm):isM (.mp n)=false:=rfl
theorem wZ:isM .un=false:=rfl
theorem xA(b:Bool)(x:AV):isM (.gd b x)=true:=rfl
theorem jE:M7 []=true:=rfl
theorem bW(k x:AV)(r:List (List AV)):M7 ([k,x]::r)=((kI k).isSome&&M7 r):=rfl
end Go.Proofs.YtjdchfljifacoaaGreat.Am
namespace Go.Proofs.YtjdchfljifacoaaGreat
attribute [go_sem] Am.wI Am.rN Am.wJ Am.wK Am.Pz Am.wL Am.rO Am.wM Am.wN Am.PB Am.wO Am.rP Am.wP Am.wQ Am.PA Am.XR Am.Qy Am.Bg Am.O6 Am.O7 Am.Th Am.Ip Am.Tg Am.ht Am.hw Am.NT Am.Ea Am.Gu Am.HE Am.Zj Am.Zk Am.Jt Am.RC List.getD_cons_zero List.getD_cons_succ List.any_cons List.any_nil List.flatMap_cons List.flatMap_nil Am.Jd Am.AbM Am.AbN Am.Jj Am.AO Am.PH Am.UR Am.MY Am.LV Am.J8 Am.wB Am.wC Am.wD Am.wE Am.wR Am.wF Am.rM Am.wG Am.wH Am.Rc Am.rQ Am.wS Am.wT Am.P6 Am.T9 Am.QM Am.QN Am.FK Am.Ik Am.fZ Am.uQ Am.uR Am.KE Am.Kc Am.BA Am.NJ Am.AbF Am.NG Am.Vn Am.Mo Am.QA Am.S6 Am.R3 Am.PI Am.R4 Am.PJ Am.M6 Am.QB Am.NK Am.S7 Am.R5 Am.R6 Am.Vo Am.K3 Am.Qz Am.NI Am.PG Am.nC Am.Vm Am.Qv Am.Y6 Am.Y4 Am.nB Am.Dy Am.XQ Am.uP Am.MI Am.Qw Am.He Am.cut Am.GM Am.AbR Am.wW Am.wX Am.rS Am.rT Am.rU Am.rV Am.rW Am.jD Am.wY Am.wZ Am.xA Am.HF Am.UQ Am.kI Am.K1 Am.NL Am.OO Am.jE Am.bW Am.HM Am.JG Am.Gp Am.V4 Am.Mn Am.DJ Am.GU Am.vr Am.ON Am.res Am.D5 Am.OM Am.Gn Am.Ej Am.Rs Am.NH Am.C0 Am.Fu Am.B5 Am.LD Am.Ft Am.Hf Am.Ix Am.B2 Am.AP Am.frz Am.BV Am.lk Am.hl Am.AJ Am.AI Am.Ei Am.gb Am.AV.cells Am.Bw Am.TM Am.BQ Am.fX Am.fY Am.aC Am.Zi Am.DS Am.one Am.wk Am.HS Am.T3 Am.Ye Go.undef Am.gs Am.AdA Am.AdB Am.AdC Am.J9 Am.rH Am.rJ Am.vV Am.vW Am.rK Am.vX Am.vY Am.vZ Am.wA Am.Kb Am.R1 Am.R2 Am.R0 Am.Vl Am.Y5 Am.EU List.take_succ_cons List.take_zero List.drop_succ_cons List.drop_zero List.length_map Option.map_some Option.map_none Option.getD_some Option.getD_none List.map_cons List.map_nil List.length_cons List.length_nil List.append_nil List.nil_append List.cons_append List.isEmpty_cons List.isEmpty_nil List.replicate_succ List.replicate_zero List.all_cons List.all_nil List.set_cons_zero List.set_cons_succ List.getElem?_cons_zero List.getElem?_cons_succ Array.toList_map true_or or_true or_false false_or Am.Loc.c.injEq Am.Loc.a.injEq Prod.mk.injEq and_true true_and and_false false_and if_true if_false ite_true ite_false cond_true cond_false Bool.and_true Bool.true_and Bool.and_false Bool.false_and Bool.not_true Bool.not_false Bool.or_true Bool.or_false Bool.true_or Bool.false_or Bool.cond_false_right Bool.cond_true_left beq_self_eq_true List.length_append Int.toNat_natCast Int.cast_ofNat_Int Nat.zero_add Nat.add_zero eq_self implies_true true_implies false_implies Bool.false_eq_true Bool.true_eq_false decide_true decide_false not_true_eq_false not_false_eq_true
end Go.Proofs.YtjdchfljifacoaaGreat
namespace Go.Proofs.YtjdchfljifacoaaGreat.Am
open Go
section
variable{V:Ctx}
theorem DD(hΓ:V.OK){rid:Nat}{ops:List AOp}{b:AC}{Q:AE->St->Prop}{e e':Az}{h h':Hp}{c:Nat}{vc:Prop}(hex:Bg V.S (c+1) (100*rid) ops e h=some (vc,e',h'))(_:True)(hvc:vc)(hQ:Ax V b Q ⟨e',h',c+1⟩):Ax V (.seq (.reg rid ops) b) Q ⟨e,h,c⟩:=vR hΓ hex hvc hQ
theorem EA(hΓ:V.OK){rid:Nat}{ops:List AOp}{Q:AE->St->Prop}{e e':Az}{h h':Hp}{c:Nat}{vc:Prop}(hex:Bg V.S (c+1) (100*rid) ops e h=some (vc,e',h'))(_:True)(hvc:vc)(hQ:Q .n ⟨e',h',c+1⟩):Ax V (.reg rid ops) Q ⟨e,h,c⟩:=nN hΓ hex hvc hQ
end
theorem DE(_:True){S:Tab}{rid i:Nat}{d:Option Nat}{post:List AOp}{e1:Az}{Q:AE->St->Prop}{rvs:List RV}{e:Az}{h:Hp}{c:Nat}{vc:Prop}{xs:List AV}{vc2:Prop}{e2:Az}{h2:Hp}(h1:DS e h rvs=some (vc,xs))(hx:Bg S (c+1) (100*rid+(i+1)) post (BV d (one xs) e1) h=some (vc2,e2,h2))(hv:vc)(hv2:vc2)(hQ:Q .n ⟨e2,h2,c+1⟩):Bk rvs (AY S rid i d post e1 Q) .n ⟨e,h,c⟩:=wU h1 hv hx hv2 hQ
theorem DF(_:True){S:Tab}{rid i:Nat}{d:Option Nat}{post:List AOp}{e1:Az}{Q:AE->St->Prop}{rvs:List RV}{e:Az}{h:Hp}{c:Nat}{vc:Prop}{xs:List AV}{vc2:Prop}{e2:Az}{h2:Hp}(h1:DS e h rvs=some (vc,xs))(hx:Bg S (c+1) (100*rid+(i+1)) post (BV d (one xs) e1) h=some (vc2,e2,h2))(hv:vc)(hv2:vc2)(hQ:Q .n ⟨e2,h2,c+1⟩):Bk rvs (AY S rid i d post e1 Q) .r ⟨e,h,c⟩:=wV h1 hv hx hv2 hQ
end Go.Proofs.YtjdchfljifacoaaGreat.Am
namespace Go.Proofs.YtjdchfljifacoaaGreat.Am
open Go
def gd{E:Type}(p:Prop)[Decidable p](k:Option E):Option E:=if p then k else none
theorem Yn{E:Type}{p:Prop}[Decidable p]{k:Option E}{r:E}:gd p k=some r↔p/\k=some r:=by unfold gd;by_cases h:p<;>simp[h]
theorem Ae{E:Type}{p:Prop}[Decidable p]{k:Option E}(h:p):gd p k=k:=dW h
theorem Wd{E:Type}{b:Bool}{x y z:E}(hb:b=true)(h:(bif b then x else y)=z):x=z:=by subst hb;exact h
theorem We{E:Type}{b:Bool}{x y z:E}(hb:b=false)(h:(bif b then x else y)=z):y=z:=by subst hb;exact h
abbrev Af(n:Int):Prop:= -9223372036854775808<=n/\n<=9223372036854775807
instance(n:Int):Decidable (Af n):=inferInstanceAs (Decidable (_/\_))
def A7{E:Type}(l:List E)(i:Int):Option E:=if 0<=i then l[i.toNat]? else none
theorem Ng{E:Type}{l:List E}{i:Int}{x:E}(h:A7 l i=some x):(0<=i/\i<l.length)/\∀d,l.getD i.toNat d=x:=by
 unfold A7 at h;split at h
 ·rename_i h0;obtain⟨h1,h2⟩:=jW.1 h;refine⟨⟨h0,by omega⟩,λd=>?_⟩;rw[dM,h];rfl
 ·cases h
theorem ixs{E:Type}{l:List E}{i:Int}{x:E}(h:A7 l i=some x)(d:E):l.getD i.toNat d=x:=(Ng h).2 d
theorem Ou{E:Type}{l:List E}{i:Int}(d:E)(h0:0<=i)(h1:i<l.length):A7 l i=some (l.getD i.toNat d):=by unfold A7;rw[dW h0,dM,dO (by omega)];rfl
theorem M4{E:Type}{l:List E}{k:Nat}:A7 l (k:Int)=l[k]? :=by unfold A7;rw[dW (by omega)];rfl
section
variable{V:Ctx}
theorem Zr{c:AC}{Q Q':AE->St->Prop}{s:St}(h:Ax V c Q s)(k:∀e s,Q e s->Q' e s\/∃s',Le s' s/\Q' e s'):Ax V c Q' s:=by
 intro code hc U a hA;refine wpIn_mono (h code hc U a hA) ?_;rintro e a' w' ⟨σ',s',e',h1,h2,h3,h4,h5⟩;rcases k _ _ h5 with h6|⟨s'',hl,hq⟩
 ·exact⟨σ',s',e',h1,h2,h3,h4,h6⟩
 ·obtain⟨σ'',g1,g2,g3⟩:=h3.le hl;exact⟨σ'',s'',e',g1.trans h1,V.tr h2 (V.ofE g2),g3,h4,hq⟩
def Zs{X:Type}(e0:AE)(I:X->St)(Pre:X->Prop)(K:AE->St->Prop)(e:AE)(s:St):Prop:=(e=e0/\∃x,Pre x/\Le (I x) s)\/(e≠e0/\K e s)
theorem xC{X:Type}{e0:AE}{I:X->St}{Pre:X->Prop}{K:AE->St->Prop}{s:St}(x:X)(h:Pre x)(hl:Le (I x) s):Zs e0 I Pre K e0 s:=.inl ⟨rfl,x,h,hl⟩
theorem A4{X:Type}{e0 e:AE}{I:X->St}{Pre:X->Prop}{K:AE->St->Prop}{s:St}(h:e≠e0)(hK:K e s):Zs e0 I Pre K e s:=.inr ⟨h,hK⟩
theorem rX{X:Type}(I:X->St)(Pre:X->Prop)(e0:AE){K:AE->St->Prop}{c:AC}{s:St}(h1:Ax V c (Zs e0 I Pre K) s)(h2:∀x,Pre x->K e0 (I x)):Ax V c K s:=by
 refine Zr h1 λe s h=>?_
 rcases h with⟨rfl,x,hx,hl⟩|⟨_,h⟩
 ·exact .inr ⟨I x,hl,h2 x hx⟩
 ·exact .inl h
theorem xD{B B':Bool}{cc:Opd}{x y:AC}{Q:AE->St->Prop}{e:Az}{h:Hp}{c:Nat}(hb:AJ true (AI e cc)=.v (.bool B))(hB:B=B')(ht:B'=true->Ax V x Q ⟨e,h,c⟩)(hf:B'=false->Ax V y Q ⟨e,h,c⟩):Ax V (.cond cc x y) Q ⟨e,h,c⟩:=by subst hB;exact Nb hb ht hf
end
def jG(V:Ctx)(b:AC)(Q:AE->St->Prop):Nat->St->Prop|0,_=>False|m+1,s=>Ax V b (λe s'=>match e with|.n=>jG V b Q m s'|.x i=>Q (.x i) s'|.r=>Q .r s'|.p v=>Q (.p v) s') s
def Ti(V:Ctx)(b:AC)(Q:AE->St->Prop)(m:Nat):AE->St->Prop:=λe s'=>match e with|.n=>jG V b Q m s'|.x i=>Q (.x i) s'|.r=>Q .r s'|.p v=>Q (.p v) s'
section
variable{V:Ctx}
theorem HV{b:AC}{Q:AE->St->Prop}{m:Nat}{s:St}(h:Ax V b (Ti V b Q m) s):Ti V b Q (m+1) .n s:=h
theorem HW{b:AC}{Q:AE->St->Prop}{m i:Nat}{s:St}(h:Q (.x i) s):Ti V b Q m (.x i) s:=h
theorem HX{b:AC}{Q:AE->St->Prop}{m:Nat}{s:St}(h:Q .r s):Ti V b Q m .r s:=h
theorem Pi(m:Nat){b:AC}{Q:AE->St->Prop}{s:St}(h:Ax V b (Ti V b Q m) s):Ax V (.loop b) Q s:=by
 intro code hc U a hA;cases code with
 |loop c=>
  simp only[cCode]at hc;cases hx:cCode V.P V.nt c with
  |none=>simp[hx]at hc
  |some x'=>
   simp[hx]at hc;subst hc;refine wpIn_loop_rounds (m+1) ?_;have key:∀(m:Nat)(s:St)(σ':Cf)(a':Act),jG V x' Q m s->At V σ' s a'->V.R U σ'->Code.roundsIn V.F 0 V.P c (lift V U Q) m a' σ'.w:=by
    intro m;induction m with
    |zero=>intro s σ' a' h;exact h.elim
    |succ m ih=>
     intro s σ' a' h hA' hR;rw[roundsIn_succ];refine wpIn_mono (h c hx σ' a' hA') ?_;rintro e a1 w1 ⟨Z,s',e',rfl,h2,h3,h4,h5⟩;cases e with
     |normal=>simp[AE.of]at h4;subst h4;exact ih s' Z a1 h5 h3 (V.tr hR h2)
     |exit j=>simp[AE.of]at h4;subst h4;exact⟨Z,s',_,rfl,V.tr hR h2,h3,rfl,h5⟩
     |ret=>simp[AE.of]at h4;subst h4;exact⟨Z,s',_,rfl,V.tr hR h2,h3,rfl,h5⟩
     |goto l=>simp[AE.of]at h4
     |panic c=>obtain⟨v,rfl,rfl⟩:=AE.of_panic h4;exact⟨Z,s',_,rfl,V.tr hR h2,h3,rfl,h5⟩
     |outgrown=>simp[AE.of]at h4
   exact key (m+1) s U a h hA (Ctx.rfl V U)
 |region id ops d=>simp only[cCode]at hc;obtain⟨_,_,⟨_,e⟩|⟨_,_,_,_,e⟩⟩:=Cc hc<;>cases e
 |seq x y=>simp only[cCode]at hc;split at hc<;>simp at hc
 |cond c x y=>simp only[cCode]at hc;split at hc<;>simp at hc
 |rangeFunc f ps x y=>simp only[cCode]at hc;split at hc<;>simp at hc
 |_=>simp[cCode]at hc
end
def Hz(n:Nm):Hp->Hp|[]=>[]|(.c m j,x)::r=>if m=n then Hz n r else(.c m j,x)::Hz n r|(.a m,x)::r=>(.a m,x)::Hz n r
theorem Wh{V:Ctx}(t:Nat){n:Nm}{l z:Nat}{live:Bool}{rows:List (List AV)}{d:List AV}{x:AC}{Q:AE->St->Prop}{e:Az}{h:Hp}{c:Nat}(ht:t<V.nt)(he:lk e t=.own n l)(hn:hl h (.a n)=some (.sl z live rows d))(hl':l=rows.length)(hQ:Ax V x Q ⟨(t,.sl z false rows d)::e,frz h [n]++h,c⟩)(hsn:HF n=false:=by rfl):Ax V x Q ⟨e,h,c⟩:=by
 intro code hcc U a hA;obtain⟨Z,ev,hI,hw,hal,hM,_,hown,_⟩:=hA.1.h.frz [n];have hr:=hA.1.t t;rw[he]at hr;have hv:Rep Z (.sl z false rows d) (a.tmps.getD t undef):=by have:=M1 hA.1.h ev hw [n] hown (.own n l) _ (by simp only[Gn,hn];exact hl') rfl (by simp[Fu]) hr;simpa only[res,hn,hsn,sH]using this
 rw[<-hw];refine wpIn_mono (hQ code hcc Z a ⟨⟨hI,λt'=>?_,hA.1.sz,(hA.1.df.mono ev).un (.inr (MK ht))⟩,λm hm=>hA.2.1 m (hal m hm),V.g hA.2.2 ev λt' ht'=>?_⟩) λe a w k=>k.mono (V.ofE ev)
 ·simp only[lk];by_cases e:t=t'
  ·subst e;rw[dW rfl];exact hv
  ·rw[dQ e];exact(hA.1.t t').mono ev
 ·right;simp only[lk];rw[dQ (by omega)]
theorem Sx(r:List AV)(rs:List (List AV))(d:List AV):A6 (r::rs) d 0=r:=rfl
theorem Sy(r:List AV)(rs:List (List AV))(d:List AV)(n:Nat):A6 (r::rs) d (n+1)=A6 rs d n:=rfl
attribute [go_sem] Hz
end Go.Proofs.YtjdchfljifacoaaGreat.Am
