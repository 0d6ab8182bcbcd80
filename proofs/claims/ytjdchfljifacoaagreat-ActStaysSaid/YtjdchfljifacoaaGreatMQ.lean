import Derived.Test.YtjdchfljifacoaaGreatP3
set_option linter.all false
set_option maxRecDepth 100000
set_option maxHeartbeats 8000000
namespace Go.Proofs.YtjdchfljifacoaaGreat.Am
section
open Go
attribute [local irreducible] Ax BO BB Bj BC Bk AY BD BK Cq
def Ef(N:Nat)(bn:Int)(af:Int)(aa:Int):Option Bool:=some ((decide (af<=bn))&&(decide (bn<=aa)))
@[go_sem] def Zv(N:Nat):Spec:=p0<|pI λbn=>pI λaf=>pI λaa=>pE<|pF (Ef N bn af aa) false λr=>.b r
theorem cR(N:Nat):AG Tryz.prog 117 (Zv N):=by
 refine Ar x117.ok<|Aa λbn=>Aa λaf=>Aa λaa=>Ad<|As λr h=>wx x117 (Aj) λ_ hS F=>?_
 dsimp only[x117,Ah];unfold Ef at h;exact Ai hS F h
def B6(N:Nat)(bu:Int)(am:Int)(bb:Int)(bl:List (Int×Int))(ak:Int)(aj:Int):Option Bool:=(Ef N bu 0 99).bind λbm=>gd (bm=true->((Ef N am 1 8).isSome=true))<|gd ((bm&&((Ef N am 1 8).getD false))=true->((Ef N bb 0 7).isSome=true))<|gd ((((((bm&&((Ef N am 1 8).getD false))&&((Ef N bb 0 7).getD false))&&(decide (0<=ak)))&&(decide (ak<aj)))&&(decide (aj<=8)))=true->((Cy N bl).isSome=true))<|some ((((((bm&&((Ef N am 1 8).getD false))&&((Ef N bb 0 7).getD false))&&(decide (0<=ak)))&&(decide (ak<aj)))&&(decide (aj<=8)))&&((Cy N bl).getD false))
@[go_sem] def Yq(N:Nat):Spec:=p0<|pG<|pI λbu=>pI λam=>pI λbb=>pS Aq λbl=>pI λak=>pI λaj=>pE<|pE<|pF (B6 N bu am bb bl ak aj) false λr=>.b r
theorem Pj(N:Nat):AG Tryz.prog 91 (Yq N):=by
 refine Ar x91.ok<|Aw<|Aa λbu=>Aa λam=>Aa λbb=>AF λbl=>Aa λak=>Aa λaj=>Ad<|Ad<|As λr h=>wx x91 (Ab (cR N)<|Ab (P8 N)<|Aj) λ_ hS F=>?_
 dsimp only[x91,Ah,Aq];unfold B6 at h;obtain⟨bm,da,dg,dh,dl,h⟩:=un h;exact Ai hS (fc da F) h
def IP(N:Nat)(bj:Int)(bi:Int)(bh:Int)(bg:List (Int×Int))(ae:Int)(ab:Int)(br:Int)(bq:Int)(bp:Int)(bo:List (Int×Int))(ai:Int)(ah:Int):Option (Int×Int×Bool):=gd ((decide (max ae ai<min ab ah))=true->((B6 N bj bi bh bg ae ab).isSome=true))<|gd (((decide (max ae ai<min ab ah))&&((B6 N bj bi bh bg ae ab).getD false))=true->((B6 N br bq bp bo ai ah).isSome=true))<|some (max ae ai,min ab ah,((decide (max ae ai<min ab ah))&&((B6 N bj bi bh bg ae ab).getD false))&&((B6 N br bq bp bo ai ah).getD false))
@[go_sem] def Tj(N:Nat):Spec:=p0<|pG<|pI λbj=>pI λbi=>pI λbh=>pS Aq λbg=>pI λae=>pI λab=>pE<|pG<|pI λbr=>pI λbq=>pI λbp=>pS Aq λbo=>pI λai=>pI λah=>pE<|pE<|pF (IP N bj bi bh bg ae ab br bq bp bo ai ah) (0,0,false) λr=>.tup [.i r.1,.i r.2.1,.b r.2.2]
theorem yM(N:Nat):AG Tryz.prog 124 (Tj N):=by
 refine Ar x124.ok<|Aw<|Aa λbj=>Aa λbi=>Aa λbh=>AF λbg=>Aa λae=>Aa λab=>Ad<|Aw<|Aa λbr=>Aa λbq=>Aa λbp=>AF λbo=>Aa λai=>Aa λah=>Ad<|Ad<|As λr h=>wx x124 (Ab (Pj N)<|Aj) λ_ hS F=>?_
 dsimp only[x124,Ah,Aq];unfold IP at h;obtain⟨dg,dh,h⟩:=un h;exact Ai hS F h
def Fy(N:Nat)(cn:Int)(ck:Int)(cj:Int)(bf:List (Int×Int))(ci:Int)(ce:Int)(b9:Int)(b7:Int)(bz:Int)(be:List (Int×Int))(bw:Int)(bv:Int):Option Bool:=(IP N cn ck cj bf ci ce b9 b7 bz be bw bv).bind λ(de,db,cq)=>gd (cq=true->((EB N bf be).isSome=true))<|some (cq&&((EB N bf be).getD false))
@[go_sem] def AdW(N:Nat):Spec:=p0<|pG<|pI λcn=>pI λck=>pI λcj=>pS Aq λbf=>pI λci=>pI λce=>pE<|pG<|pI λb9=>pI λb7=>pI λbz=>pS Aq λbe=>pI λbw=>pI λbv=>pE<|pE<|pF (Fy N cn ck cj bf ci ce b9 b7 bz be bw bv) false λr=>.b r
theorem cS(N:Nat):AG Tryz.prog 102 (AdW N):=by
 refine Ar x102.ok<|Aw<|Aa λcn=>Aa λck=>Aa λcj=>AF λbf=>Aa λci=>Aa λce=>Ad<|Aw<|Aa λb9=>Aa λb7=>Aa λbz=>AF λbe=>Aa λbw=>Aa λbv=>Ad<|Ad<|As λr h=>wx x102 (Ab (yM N)<|Ab (yG N)<|Aj) λ_ hS F=>?_
 dsimp only[x102,Ah,Aq];unfold Fy at h;obtain⟨⟨de,db,cq⟩,cy,h⟩:=un h;obtain⟨dg,h⟩:=un h;exact Ai hS (fc cy F) h
def FR(N:Nat)(ba:Int)(az:Int)(ay:Int)(aw:List (Int×Int))(av:Int)(au:Int)(aq:Int)(an:Int):Option ((Int×Int×Int×(List (Int×Int))×Int×Int)×Int):=(FT N aw aq an).bind λ(cr,co)=>gd ((!(decide (co≠0)))=true->((B6 N ba az ay aw av au).isSome=true))<|bif (decide (co≠0))||(!((B6 N ba az ay aw av au).getD false))then(some ((0,0,0,[],0,0),80))else(some ((ba,az,ay,cr,av,au),0))
@[go_sem] def s45(N:Nat):Spec:=p0<|pG<|pI λba=>pI λaz=>pI λay=>pS Aq λaw=>pI λav=>pI λau=>pE<|pI λaq=>pI λan=>pE<|pF (FR N ba az ay aw av au aq an) ((0,0,0,[],0,0),0) λr=>.tup [.agg [.i r.1.1,.i r.1.2.1,.i r.1.2.2.1,BP r.1.2.2.2.1,.i r.1.2.2.2.2.1,.i r.1.2.2.2.2.2],.i r.2]
theorem nQ(N:Nat):AG Tryz.prog 45 (s45 N):=by
 refine Ar x45.ok<|Aw<|Aa λba=>Aa λaz=>Aa λay=>AF λaw=>Aa λav=>Aa λau=>Ad<|Aa λaq=>Aa λan=>Ad<|As λr h=>wx x45 (Ab (AbV N)<|Ab (Pj N)<|Aj) λ_ hS F=>?_
 dsimp only[x45,Ah,Aq];unfold FR at h;obtain⟨⟨cr,co⟩,cu,h⟩:=un h;obtain⟨dg,h⟩:=un h;replace F:=fc cu F;refine An hS F h (λ_ h=>?_) (λ_ h=>?_)
 ·exact Ai hS F h
 ·exact Ai hS F h
end
section
open Go
attribute [local irreducible] Ax BO BB Bj BC Bk AY BD BK Cq
def Gw(N:Nat)(c322:Int)(ab:Int):Option Int:=bif decide (c322<0)then(gd (Af (c322+1))<|gd (Af (-(c322+1)))<|gd (ab≠0)<|some ((-(c322+1)).tmod ab))else(gd (ab≠0)<|some (c322.tmod ab))
@[go_sem] def s94(N:Nat):Spec:=p0<|pI λc322=>pI λab=>pE<|pF (Gw N c322 ab) 0 λr=>.i r
def CN(N:Nat)(a327:List (Int×Int))(b333:List (Int×Int)):Nat->Int->Option (Sum Unit Bool)|0,_=>none|n+1,ae=>bif decide (ae<(a327.length:Int))then((A7 a327 ae).bind λ(bb,ba)=>(A7 b333 ae).bind λ(az,ay)=>bif !(decide (bb=az)&&decide (ba=ay))then(some (.inr false))else(gd (Af (ae+1))<|CN N a327 b333 n (ae+1)))else(some (.inl ()))
def C2(N:Nat)(av:Int)(au:Int)(aq:Int)(a327:List (Int×Int))(an:Int)(am:Int)(ak:Int)(aj:Int)(ai:Int)(b333:List (Int×Int))(ah:Int)(af:Int):Option Bool:=bif (((((decide (av≠ak))||(decide (au≠aj)))||(decide (aq≠ai)))||(decide (an≠ah)))||(decide (am≠af)))||(decide ((a327.length:Int)≠(b333.length:Int)))then(some false)else((CN N a327 b333 N 0).bind λaw=>match aw with|.inl ()=>(some true)|.inr bh=>(some bh))
@[go_sem] def s40(N:Nat):Spec:=p0<|pG<|pI λav=>pI λau=>pI λaq=>pS Aq λa327=>pI λan=>pI λam=>pE<|pG<|pI λak=>pI λaj=>pI λai=>pS Aq λb333=>pI λah=>pI λaf=>pE<|pE<|pF (C2 N av au aq a327 an am ak aj ai b333 ah af) false λr=>.b r
theorem Zw(N:Nat):AG Tryz.prog 40 (s40 N):=by
 refine Ar x40.ok<|Aw<|Aa λav=>Aa λau=>Aa λaq=>AF λa327=>Aa λan=>Aa λam=>Ad<|Aw<|Aa λak=>Aa λaj=>Aa λai=>AF λb333=>Aa λah=>Aa λaf=>Ad<|Ad<|As λr h=>wx x40 (Aj) λ_ hS F=>?_
 dsimp only[x40,Ah,Aq];unfold C2 at h;refine An hS F h (λ_ h=>?_) (λ_ h=>?_)
 ·exact Ai hS F h
 ·obtain⟨aw,bm,h⟩:=un h;refine go hS F ?_;refine Bz aw (λz:Nat=>⟨[],[],z⟩) (λz=>(.inl ():Sum Unit Bool)) (.x 0) ?_ ?_
  ·refine Bp (λn (y:Int×Nat)=>CN N a327 b333 n y.1) (λy=>⟨[(2,.box (0,1) 0),(3,.box (1,1) 0),(5,.i y.1)],[(.c (1,1) 0,.i ak),(.c (1,1) 1,.i aj),(.c (1,1) 2,.i ai),(.c (1,1) 3,BP b333),(.c (1,1) 4,.i ah),(.c (1,1) 5,.i af),(.c (0,1) 0,.i av),(.c (0,1) 1,.i au),(.c (0,1) 2,.i aq),(.c (0,1) 3,BP a327),(.c (0,1) 4,.i an),(.c (0,1) 5,.i am)],y.2⟩) (0,3) bm (Ch F) ?_;rintro n ⟨ae,bg⟩ aa;simp only[CN]at aa;refine An hS F aa (λ_ aa=>?_) (λ_ aa=>?_)
   ·obtain⟨⟨bb,ba⟩,bf,aa⟩:=un aa;obtain⟨bj,F⟩:=Cb Cz bf F;obtain⟨⟨az,ay⟩,be,aa⟩:=un aa;obtain⟨bi,F⟩:=Cb Cz be F;refine An hS F aa (λ_ aa=>?_) (λ_ aa=>?_)
    ·obtain rfl:=yJ aa;exact Ai hS F h
    ·obtain⟨bl,aa⟩:=un aa;exact Cd hS F (n,ae+1,bg+1+1+1) aa
   ·exact B4 hS F (bg+1) aa
  ·rintro bn rfl;exact Ai hS F h
end
structure UP(a b c:Int)(l:List Pt)(p q:Int):Prop where
 a:0<=a/\a<=99
 b:1<=b/\b<=8
 c:0<=c/\c<=7
 d:0<=p/\p<q/\q<=8
 l:VP l
theorem RR(N:Nat)(n lo hi:Int):Ef N n lo hi=some (decide (lo<=n)&&decide (n<=hi)):=rfl
def Ji(a b c p q:Int):Bool:=(((((decide (0<=a)&&decide (a<=99))&&(decide (1<=b)&&decide (b<=8)))&&(decide (0<=c)&&decide (c<=7)))&&decide (0<=p))&&decide (p<q))&&decide (q<=8)
theorem K0{N:Nat}(hN:100<=N)(a b c:Int)(l:List Pt)(p q:Int):B6 N a b c l p q=some (Ji a b c p q&&vB l):=by unfold B6 Ji;rw[RR,RR,RR,IJ hN,bS,BR (λ_=>mU),BR (λ_=>mU),BR (λ_=>mU)];rfl
theorem Is{a b c:Int}{l:List Pt}{p q:Int}:(Ji a b c p q&&vB l)=true↔UP a b c l p q:=by
 unfold Ji;simp only[oK,bK,Li];constructor
 ·rintro⟨⟨⟨⟨⟨⟨h1,h2⟩,h3⟩,h4⟩,h5⟩,h6⟩,h7⟩;exact⟨h1,h2,h3,⟨h4,h5,h6⟩,h7⟩
 ·rintro⟨h1,h2,h3,⟨h4,h5,h6⟩,h7⟩;exact⟨⟨⟨⟨⟨⟨h1,h2⟩,h3⟩,h4⟩,h5⟩,h6⟩,h7⟩
theorem mT{N:Nat}(hN:100<=N){a b c:Int}{l:List Pt}{p q:Int}(h:UP a b c l p q):B6 N a b c l p q=some true:=by rw[K0 hN,Is.2 h]
def Tr(x y:Int):Int:=if x<y then-1 else if y<x then 1 else 0
def Ff(p q:Pt):Int:=if Tr p.1 q.1≠0 then Tr p.1 q.1 else Tr p.2 q.2
def lo(p q:Pt):Pt:=if Ff q p<0 then q else p
def hi(p q:Pt):Pt:=if Ff q p<0 then p else q
theorem Tu{l:List Pt}(h:VP l)(s t:Nat):0<=Ao (qa l s) (qa l (s+1)) (qa l t):=by
 have l3:=h.l3;have hn:0<l.length:=by omega
 have hs:=SO (n:=l.length) (i:=s%l.length) (k:=t%l.length) hn;have ha:=Nx (t6 s hn) (t6 t hn);rw[HG]at ha;have e:qa l t=qa l (s+Eb l.length (s%l.length) (t%l.length)):=by show pa l (t%l.length)=pa l ((s+Eb l.length (s%l.length) (t%l.length))%l.length);rw[ha]
 rw[e];generalize Eb l.length (s%l.length) (t%l.length)=a at*;by_cases h0:a=0
 ·subst h0;show 0<=Ao (qa l s) (qa l (s+1)) (qa l s);rw[EM];omega
 by_cases h1:a=1
 ·subst h1;rw[E4];omega
 exact w6 (GB h.cv (by omega) hs)
def dd(P Q x:Pt):Int:=(Q.1-P.1)*(x.1-P.1)+(Q.2-P.2)*(x.2-P.2)
def Cn(p q:Pt):Prop:=p.1<q.1\/(p.1=q.1/\p.2<=q.2)
def Rk(P Q x:Pt):Prop:=(Cn P x/\Cn x Q)\/(Cn Q x/\Cn x P)
theorem OB{P Q:Pt}(h:P≠Q):0<dd P Q Q:=by
 have:=LL h;have e:dd P Q Q=dst P Q:=by unfold dd dst;grind
 omega
theorem Ll(P Q u w x:Pt)(hu:Ao P Q u=0)(hw:Ao P Q w=0):Ao u w x*dd P Q Q=Ao P Q x*(dd P Q w-dd P Q u):=by
 have:Ao u w x*dd P Q Q-Ao P Q x*(dd P Q w-dd P Q u)=Ao P Q w*(dd P Q u-dd P Q x)+Ao P Q u*(dd P Q x-dd P Q w):=by unfold Ao dd;grind
 rw[hu,hw]at this;simp only[Int.zero_mul,Int.add_zero]at this;omega
theorem Oe{l:List Pt}(h:VP l){j:Nat}(hj:j<l.length){x:Pt}(hx:x∈l):0<=α l j x:=by
 have l3:=h.l3;obtain⟨t,ht,rfl⟩:=Jf hx;have:=Tu h j t
 rwa [GL ht,JB (by omega),tL hj]at this
theorem LP{l:List Pt}(h:VP l){j:Nat}(hj:j<l.length):∃x∈l,0<α l j x:=by
 have l3:=h.l3;obtain⟨k,hk,n1,n2⟩:∃k,k<l.length/\k≠j/\k≠(j+1)%l.length:=by
  by_cases h0:0≠j/\0≠(j+1)%l.length
  ·exact⟨0,by omega,h0.1,h0.2⟩
  by_cases h1:1≠j/\1≠(j+1)%l.length
  ·exact⟨1,by omega,h1.1,h1.2⟩
  exact⟨2,by omega,by omega,by omega⟩
 exact⟨_,Bo hk,h.cv j k hj hk n1 n2⟩
section
variable{a b:List Pt}
structure SeamOK(a b:List Pt)(s:Pt×Pt):Prop where
 ne:s.1≠s.2
 on:∀p,(clo a p/\¬inn a p)/\(clo b p/\¬inn b p)↔Ao s.1 s.2 p=0/\Rk s.1 s.2 p
 left:∀x∈a,0<=Ao s.1 s.2 x
end
theorem SU{P:List Pt}(hb:∀p∈P,CD p)(f:Pt):∀(n:Nat)(o:Pt)(out:List Pt),HGood P f o out->P.length<n+out.length->∃r:List Pt,0<r.length/\(∀p∈r,p∈P)/\((∃o,∀p∈P,p=o)\/∀i,i<r.length->Edge P (pa r i) (pa r ((i+1)%r.length)))
 |0,o,out,h,hn=>by have:=Me out P h.nd h.sub;omega
 |n+1,o,out,h,hn=>by
  have hl:=h.len;have ho:o∈out:=by rw[<-h.lst];exact Bo (by omega)
  rcases Wq (h.sub o ho) (h.ext o ho)with⟨h1,h2⟩|hE
  ·exact⟨out,hl,h.sub,.inl ⟨o,h2⟩⟩
  ·by_cases hf:H1 o P=f
   ·refine⟨out,hl,h.sub,.inr λi hi=>?_⟩;by_cases hc:i+1<out.length
    ·rw[tL hc];exact h.edge i hc
    ·have e:i+1=out.length:=by omega
     have e2:i=out.length-1:=by omega
     rw[e,Nat.mod_self,h.hd,e2,h.lst,<-hf];exact hE
   ·have hno:H1 o P∉out:=λhm=>by
     obtain⟨j,hj,e⟩:=Jf hm;have j0:j≠0:=by rintro rfl;exact hf (by rw[<-e,h.hd])
     have hEj:=h.edge (j-1) (by omega);rw[show j-1+1=j by omega,e]at hEj;have:=Edge.pred hE hEj;rw[<-h.lst]at this;have:=Qb h.nd (by omega) (by omega) this;omega
    refine SU hb f n (H1 o P) (out++[H1 o P]) ⟨by simp,by rw[I8 hl,h.hd],?_,?_,?_,?_,?_⟩ (by simp;omega)
    ·rw[nK,M5 (by simp) (by simp)];simp[pa]
    ·rw[List.nodup_append];exact⟨h.nd,by simp,λa ha b hb'=>by simp at hb';rintro rfl;exact hno (hb'▸ha)⟩
    ·intro p hp;rcases oJ.1 hp with hp|hp
     ·exact h.sub p hp
     ·simp at hp;rw[hp];exact hE.mw
    ·intro p hp;rcases oJ.1 hp with hp|hp
     ·exact h.ext p hp
     ·simp at hp;rw[hp];exact hE.ext hb
    ·intro i hi;rw[nK,y9]at hi;by_cases hc:i+1<out.length
     ·rw[I8 (by omega),I8 hc];exact h.edge i hc
     ·have e2:i=out.length-1:=by omega
      rw[I8 (by omega),M5 (by omega) (by simp;omega),e2,h.lst];rw[show out.length-1+1-out.length=0 by omega];exact hE
theorem kD{P:List Pt}(hb:∀p∈P,CD p)(h0:P≠[]):∃r:List Pt,0<r.length/\(∀p∈r,p∈P)/\((∃o,∀p∈P,p=o)\/∀i,i<r.length->Edge P (pa r i) (pa r ((i+1)%r.length))):=by
 obtain⟨p0,P',rfl⟩:∃p0 P',P=p0::P':=by
  cases P with
  |nil=>exact absurd rfl h0
  |cons a b=>exact⟨a,b,rfl⟩
 obtain⟨h1,h2⟩:=Wr (p0::P') p0;have hm:NX p0 (p0::P')∈p0::P':=by
  rcases oH.1 h1 with h|h
  ·rw[h];simp
  ·exact h
 have hx:=sO hb hm (λp hp=>h2 p (by simp[hp]));exact SU hb _ ((p0::P').length) _ [NX p0 (p0::P')] (jL hm hx) (by simp)
theorem WO{b:List Pt}(h:VP b){P Q:Pt}(hne:P≠Q)(hs:∀q∈b,Ao P Q q<=0){x y:Nat}(hxy:x<y)(hy:y<b.length)(ex:Ao P Q (pa b x)=0)(ey:Ao P Q (pa b y)=0):∃t,t<b.length/\Ao P Q (pa b t)=0/\Ao P Q (pa b ((t+1)%b.length))=0:=by
 have l3:=h.l3;have hn:0<b.length:=by omega
 by_cases adj:y=x+1
 ·exact⟨x,by omega,ex,by rw[tL (by omega),<-adj];exact ey⟩
 by_cases adj2:x=0/\y+1=b.length
 ·exact⟨y,hy,ey,by rw[adj2.2,Nat.mod_self,<-adj2.1];exact ex⟩
 exfalso;have t1:=Kg h.cv x 1 (by omega) (y-x-2) (by omega);rw[show x+(1+(y-x-2)+1)=y by omega,GL hy,GL (by omega:x<b.length)]at t1;obtain⟨w,hw1,hw2⟩:∃w,y-x<w/\w<b.length:=⟨y-x+1,by omega,by omega⟩
 have t2:=Kg h.cv x (y-x) (by omega) (w-(y-x)-1) (by omega);rw[show x+(y-x+(w-(y-x)-1)+1)=x+w by omega,show x+(y-x)=y by omega,GL hy,GL (by omega:x<b.length)]at t2;have r1:=Ll P Q (pa b x) (pa b y) (qa b (x+1)) ex ey;have r2:=Ll P Q (pa b x) (pa b y) (qa b (x+w)) ex ey;have D:=OB hne;have k1:=hs _ (Lj hn (x+1));have k2:=hs _ (Lj hn (x+w));have e1:Ao (pa b x) (pa b y) (qa b (x+1))= -Ao (pa b x) (qa b (x+1)) (pa b y):=by unfold Ao;grind
 rw[e1]at r1;generalize dd P Q (pa b y)-dd P Q (pa b x)=s at*;generalize dd P Q Q=D' at*;generalize Ao (pa b x) (qa b (x+1)) (pa b y)=A at*;generalize Ao (pa b x) (pa b y) (qa b (x+w))=B at*;generalize Ao P Q (qa b (x+1))=f1 at*;generalize Ao P Q (qa b (x+w))=f2 at*;have m1:=yS t1 D;have m2:=yS t2 D;have m3:f1*s<0:=by rw[<-r1,Int.neg_mul];omega
 have m4:0<f2*s:=by omega
 rcases DV 0 s with q|q
 ·have:=qI (show 0<=-f2 by omega) (w6 q);rw[Int.neg_mul]at this;omega
 ·have:=qI (show 0<=-f1 by omega) (show 0<=-s by omega);rw[Int.neg_mul_neg]at this;omega
theorem WP{a b:List Pt}(hb:VP b){P Q:Pt}(hne:P≠Q)(hs:∀q∈b,Ao P Q q<=0)(ha:∀q∈a,0<=Ao P Q q){u v:Pt}(hu:u∈b)(hv:v∈b)(huv:u≠v)(zu:Ao P Q u=0)(zv:Ao P Q v=0):∃t,t<b.length/\Jg b t a:=by
 obtain⟨x,hx,rfl⟩:=Jf hu;obtain⟨y,hy,rfl⟩:=Jf hv;have hxy:x≠y:=λe=>huv (by rw[e])
 obtain⟨t,ht,e1,e2⟩:∃t,t<b.length/\Ao P Q (pa b t)=0/\Ao P Q (pa b ((t+1)%b.length))=0:=by
  rcases Nat.lt_or_gt_of_ne hxy with q|q
  ·exact WO hb hne hs q hy zu zv
  ·exact WO hb hne hs q hx zv zu
 refine⟨t,ht,λq hq=>?_⟩;have D:=OB hne;obtain⟨y',hy',py⟩:=LP hb ht;have r1:=Ll P Q _ _ y' e1 e2;have r2:=Ll P Q _ _ q e1 e2;have k1:=hs y' hy';have k2:=ha q hq;unfold α at py⊢;generalize dd P Q (pa b ((t+1)%b.length))-dd P Q (pa b t)=s at*;have m1:=yS py D;have sneg:s<0:=by
  rcases DV s 0 with c|c
  ·exact c
  ·have:=qI (show 0<=-Ao P Q y' by omega) c;rw[Int.neg_mul]at this;omega
 have m2:=qI k2 (show 0<=-s by omega);rw[Int.mul_neg]at m2;rcases DV 0 (Ao (pa b t) (pa b ((t+1)%b.length)) q)with c|c
 ·have:=yS c D;omega
 ·exact c
def EY(p q:Pt):Pt:=(p.1-q.1,p.2-q.2)
def QX(a b:List Pt):List Pt:=b.flatMap λq=>a.map λp=>EY q p
theorem H9{a b:List Pt}{d:Pt}:d∈QX a b↔∃q∈b,∃p∈a,d=EY q p:=by unfold QX;simp only[List.mem_flatMap,tH];exact⟨λ⟨q,hq,p,hp,e⟩=>⟨q,hq,p,hp,e.symm⟩,λ⟨q,hq,p,hp,e⟩=>⟨q,hq,p,hp,e.symm⟩⟩
def Cr(a b:Pt):Int:=a.1*b.2-a.2*b.1
theorem ZR{a b:List Pt}(ha:VP a)(hb:VP b){v w:Pt}(hE:Edge (QX a b) v w)(h0:Cr v w<=0):apart a b:=by
 obtain⟨q1,hq1,p1,hp1,rfl⟩:=H9.1 hE.mv;obtain⟨q2,hq2,p2,hp2,rfl⟩:=H9.1 hE.mw;have hl:=λq hq p hp=>hE.left (EY q p) (H9.2 ⟨q,hq,p,hp,rfl⟩)
 have ne:=hE.ne;obtain⟨Z,hτ⟩:∃Z:Pt,Z=EY (EY q2 p2) (EY q1 p1):=⟨_,rfl⟩
 have lin1:∀q p,Ao (EY q1 p1) (EY q2 p2) (EY q p)=(Cr Z q-Cr Z p)-(Cr Z q1-Cr Z p1):=λq p=>by rw[hτ];unfold Ao EY Cr;simp only;grind
 have z2:Cr Z q2-Cr Z p2=Cr Z q1-Cr Z p1:=by rw[hτ];unfold EY Cr;simp only;grind
 have z0:Cr (EY q1 p1) (EY q2 p2)= -(Cr Z q1-Cr Z p1):=by rw[hτ];unfold EY Cr;simp only;grind
 have hv:0<=Cr Z q1-Cr Z p1:=by omega
 have all:∀q∈b,∀p∈a,Cr Z q1-Cr Z p1<=Cr Z q-Cr Z p:=λq hq p hp=>by have:=hl q hq p hp;rw[lin1]at this;omega
 have τne:Z≠(0,0):=λe=>by rw[hτ]at e;have e1:=congrArg Prod.fst e;have e2:=congrArg Prod.snd e;unfold EY at e1 e2;simp only at e1 e2;exact ne (by unfold EY;exact Gb (by simp only;omega) (by simp only;omega))
 have b1:∀q∈b,Cr Z q1<=Cr Z q:=λq hq=>by have:=all q hq p1 hp1;omega
 have a1:∀p∈a,Cr Z p<=Cr Z p1:=λp hp=>by have:=all q1 hq1 p hp;omega
 have eq:Cr Z q2=Cr Z q1:=by have:=all q2 hq2 p1 hp1;have:=all q1 hq1 p2 hp2;omega
 have ep:Cr Z p2=Cr Z p1:=by omega
 have sh:∀x y:Pt,Ao x (x.1+Z.1,x.2+Z.2) y=Cr Z y-Cr Z x:=λx y=>by unfold Ao Cr;simp only;grind
 have sh2:∀x y:Pt,Ao (x.1+Z.1,x.2+Z.2) x y=Cr Z x-Cr Z y:=λx y=>by unfold Ao Cr;simp only;grind
 have shne:∀x:Pt,x≠(x.1+Z.1,x.2+Z.2):=λx e=>τne (by have e1:=congrArg Prod.fst e;have e2:=congrArg Prod.snd e;simp only at e1 e2;exact Gb (by simp only;omega) (by simp only;omega))
 by_cases hq:q1=q2
 ·have hp:p1≠p2:=λe=>ne (by rw[hq,e])
  left;refine WP (b:=a) (a:=b) ha (shne p1) (λp hp=>?_) (λq hq=>?_) hp1 hp2 hp ?_ ?_
  ·rw[sh];have:=a1 p hp;omega
  ·rw[sh];have:=b1 q hq;omega
  ·rw[sh];omega
  ·rw[sh];omega
 ·right;refine WP (b:=b) (a:=a) hb (Ne.symm (shne q1)) (λq hq=>?_) (λp hp=>?_) hq1 hq2 hq ?_ ?_
  ·rw[sh2];have:=b1 q hq;omega
  ·rw[sh2];have:=a1 p hp;omega
  ·rw[sh2];omega
  ·rw[sh2];omega
theorem AeE{n:Nat}{v:Nat->Pt}(hn:0<n)(per:∀t,v (t+n)=v t)(h:∀t,0<Cr (v t) (v (t+1)))(e:Pt)(he:e≠(0,0)):∃t,0<=Cr (v t) e/\0<=Cr e (v (t+1)):=by
 by_cases hex:∃t,0<=Cr (v t) e/\0<=Cr e (v (t+1))
 ·exact hex
 exfalso;have h0:∀t,0<Ao (v t) (v (t+1)) (0,0):=λt=>by
  have:=h t;have e2:Ao (v t) (v (t+1)) (0,0)=Cr (v t) (v (t+1)):=by unfold Ao Cr;simp only;grind
  omega
 have sw:∀x:Pt,Cr e x= -Cr x e:=λx=>by unfold Cr;grind
 have nx:∀t,0<=Cr (v t) e->0<Cr (v (t+1)) e:=λt ht=>by
  rcases DV 0 (Cr (v (t+1)) e)with c|c
  ·exact c
  ·exact absurd ⟨t,ht,by rw[sw];omega⟩ hex
 by_cases hs:∃t,0<=Cr (v t) e
 ·obtain⟨m,hm⟩:=hs;have all:∀k,0<Cr (v (m+1+k)) e:=by
   intro k;induction k with
   |zero=>exact nx m hm
   |succ k ih=>exact nx (m+1+k) (w6 ih)
  refine QV (v:=λt=>v (m+1+t)) hn (λt=>by show v (m+1+(t+n))=v (m+1+t);rw[<-tV];exact per _) (p:=(0,0)) (g:=(e.2,-e.1)) (λt=>h0 (m+1+t)) (λq=>he ?_) λt=>?_
  ·have e1:=congrArg Prod.fst q;have e2:=congrArg Prod.snd q;simp only at e1 e2;exact Gb (by simp only;omega) (by simp only;omega)
  ·have:=all t;unfold Cr at this;unfold DP;simp only;have e3:e.2*((v (m+1+t)).1-0)+ -e.1*((v (m+1+t)).2-0)=(v (m+1+t)).1*e.2-(v (m+1+t)).2*e.1:=by grind
   omega
 ·refine QV (v:=v) hn per (p:=(0,0)) (g:=(-e.2,e.1)) h0 (λq=>he ?_) λt=>?_
  ·have e1:=congrArg Prod.fst q;have e2:=congrArg Prod.snd q;simp only at e1 e2;exact Gb (by simp only;omega) (by simp only;omega)
  ·have:¬0<=Cr (v t) e:=λc=>hs ⟨t,c⟩
   unfold Cr at this;unfold DP;simp only;have e3: -e.2*((v t).1-0)+e.1*((v t).2-0)= -((v t).1*e.2-(v t).2*e.1):=by grind
   omega
abbrev Ci:=Int×Int×Int
def BS(L P:Ci):Int:=L.1*P.1+L.2.1*P.2.1+L.2.2*P.2.2
def dv(L:Ci)(d:Pt):Int:=L.1*d.1+L.2.1*d.2
def IR(p q:Pt):Ci:=(p.2-q.2,q.1-p.1,(q.2-p.2)*p.1-(q.1-p.1)*p.2)
def Hu(l:List Pt)(i:Nat):Ci:=IR (pa l i) (pa l ((i+1)%l.length))
def Be(l:List Pt):List Ci:=(List.range l.length).map (Hu l)
theorem Ha{l:List Pt}{L:Ci}:L∈Be l↔∃i,i<l.length/\L=Hu l i:=by unfold Be;simp only[tH,List.mem_range];exact⟨λ⟨i,h,e⟩=>⟨i,h,e.symm⟩,λ⟨i,h,e⟩=>⟨i,h,e.symm⟩⟩
theorem Ky(l:List Pt)(i:Nat)(p:Pt):BS (Hu l i) (p.1,p.2,1)=α l i p:=by unfold BS Hu IR α Ao;simp only;grind
def RN(r:Int)(P:Ci)(s:Int)(d:Pt):Ci:=(r*P.1+s*d.1,r*P.2.1+s*d.2,r*P.2.2)
theorem Qk(L P:Ci)(r s:Int)(d:Pt):BS L (RN r P s d)=r*BS L P+s*dv L d:=by unfold BS RN dv;simp only;grind
def WR(P Q:Ci):Ci:=(P.1+Q.1,P.2.1+Q.2.1,P.2.2+Q.2.2)
theorem dZ(L P Q:Ci):BS L (WR P Q)=BS L P+BS L Q:=by unfold BS WR;simp only;grind
def J7(Ls:List Ci)(P:Ci):Prop:=0<P.2.2/\∀L∈Ls,0<=BS L P
theorem Rm(P:Ci)(d:Pt):∀(Ls:List Ci),(∃L∈Ls,dv L d<0)->∃L∈Ls,dv L d<0/\∀M∈Ls,dv M d<0->BS L P*(-dv M d)<=BS M P*(-dv L d)
 |[],h=>by obtain⟨L,hL,_⟩:=h;simp at hL
 |A::Ls,h=>by
  by_cases hr:∃L∈Ls,dv L d<0
  ·obtain⟨L,hL,h1,h2⟩:=Rm P d Ls hr;by_cases hA:dv A d<0
   ·by_cases hc:BS L P*(-dv A d)<=BS A P*(-dv L d)
    ·refine⟨L,by simp[hL],h1,λM hM hd=>?_⟩;rcases oH.1 hM with rfl|hM
     ·exact hc
     ·exact h2 M hM hd
    ·refine⟨A,by simp,hA,λM hM hd=>?_⟩;rcases oH.1 hM with rfl|hM
     ·exact Int.le_refl _
     ·have k:=h2 M hM hd;generalize BS L P=x at*;generalize BS A P=y at*;generalize BS M P=z at*;generalize hl: -dv L d=l at*;generalize ha: -dv A d=a at*;generalize hm: -dv M d=m at*;have lp:0<l:=by omega
      have ap:0<a:=by omega
      have mp:0<m:=by omega
      have k1:0<=m*(x*a-y*l):=qI (w6 mp) (by omega);have k2:0<=a*(z*l-x*m):=qI (w6 ap) (by omega);have k3:l*(z*a-y*m)=m*(x*a-y*l)+a*(z*l-x*m):=by grind
      have:=FE lp (b:=z*a-y*m) (by omega);omega
   ·refine⟨L,by simp[hL],h1,λM hM hd=>?_⟩;rcases oH.1 hM with rfl|hM
    ·exact absurd hd hA
    ·exact h2 M hM hd
  ·obtain⟨L,hL,h1⟩:=h;rcases oH.1 hL with rfl|hL
   ·refine⟨L,by simp,h1,λM hM hd=>?_⟩;rcases oH.1 hM with rfl|hM
    ·exact Int.le_refl _
    ·exact absurd ⟨M,hM,hd⟩ hr
   ·exact absurd ⟨L,hL,h1⟩ hr
theorem ray{Ls:List Ci}{P:Ci}(hP:J7 Ls P)(d:Pt)(hd:∃L∈Ls,dv L d<0):∃r s L,L∈Ls/\0<r/\0<=s/\J7 Ls (RN r P s d)/\dv L d<0/\BS L (RN r P s d)=0/\s=BS L P:=by
 obtain⟨L,hL,h1,h2⟩:=Rm P d Ls hd;have e0:=hP.2 L hL;refine⟨-dv L d,BS L P,L,hL,by omega,e0,⟨yS (by omega) hP.1,λM hM=>?_⟩,h1,?_,rfl⟩
 ·rw[Qk];have eM:=hP.2 M hM;by_cases hd:dv M d<0
  ·have:=h2 M hM hd;rw[Int.mul_neg]at this;rw[Int.mul_comm (-dv L d)];omega
  ·have k1:=qI (show 0<=-dv L d by omega) eM;have k2:=qI e0 (show 0<=dv M d by omega);omega
 ·rw[Qk,Int.neg_mul,Int.mul_comm];omega
theorem tN{l:List Pt}(h:VP l){d:Pt}(hd:d≠(0,0)):∃L∈Be l,dv L d<0:=by
 have l3:=h.l3;have hn:0<l.length:=by omega
 by_cases hex:∃L∈Be l,dv L d<0
 ·exact hex
 exfalso;have nn:∀t,Cr (qa l t) d<=Cr (qa l (t+1)) d:=λt=>by
  have hm:=Ha.2 ⟨t%l.length,t6 _ hn,rfl⟩;have:¬dv (Hu l (t%l.length)) d<0:=λq=>hex ⟨_,hm,q⟩
  have e:dv (Hu l (t%l.length)) d=Cr (qa l (t+1)) d-Cr (qa l t) d:=by
   have q:pa l ((t%l.length+1)%l.length)=qa l (t+1):=by unfold qa;rw[HG]
   unfold Hu;rw[q,show pa l (t%l.length)=qa l t from rfl];unfold dv IR Cr;simp only;grind
  omega
 have up:∀k t,Cr (qa l t) d<=Cr (qa l (t+k)) d:=by
  intro k;induction k with
  |zero=>intro t;exact Int.le_refl _
  |succ k ih=>intro t;have:=ih t;have:=nn (t+k);rw[<-tV];omega
 have c1:Cr (qa l 0) d=Cr (qa l 1) d:=by have a1:=nn 0;have a2:=up (l.length-1) 1;rw[show 1+(l.length-1)=0+l.length by omega,Gh]at a2;have a1:Cr (qa l 0) d<=Cr (qa l 1) d:=a1;omega
 have c2:Cr (qa l 1) d=Cr (qa l 2) d:=by have a1:Cr (qa l 1) d<=Cr (qa l 2) d:=nn 1;have a2:=up (l.length-2) 2;rw[show 2+(l.length-2)=0+l.length by omega,Gh]at a2;omega
 have c:=GB h.cv (s:=0) (a:=2) (by omega) (by omega);simp only[sI]at c;have z1:d.1*Ao (qa l 0) (qa l 1) (qa l 2)=0:=by unfold Ao;unfold Cr at c1 c2;grind
 have z2:d.2*Ao (qa l 0) (qa l 1) (qa l 2)=0:=by unfold Ao;unfold Cr at c1 c2;grind
 rcases D2.1 z1 with q|q
 ·rcases D2.1 z2 with w|w
  ·exact hd (Gb q w)
  ·omega
 ·omega
theorem Ql{a b:List Pt}(ha:VP a)(hb:VP b)(hap:¬apart a b){p q:Pt}(hp:p∈a)(hq:q∈b):∃P k,0<k/\J7 (Be a++Be b) P/\(∀i,i<a.length->k*α a i p<=BS (Hu a i) P)/\∀j,j<b.length->k*α b j q<=BS (Hu b j) P:=by
 have a3:=ha.l3;have b3:=hb.l3;have good:∀P:Ci,0<P.2.2->(∀i,i<a.length->0<=BS (Hu a i) P)->(∀j,j<b.length->0<=BS (Hu b j) P)->J7 (Be a++Be b) P:=λP h1 h2 h3=>by
  refine⟨h1,λL hL=>?_⟩;rcases oJ.1 hL with h|h
  ·obtain⟨i,hi,rfl⟩:=Ha.1 h;exact h2 i hi
  ·obtain⟨i,hi,rfl⟩:=Ha.1 h;exact h3 i hi
 by_cases hd:EY q p=(0,0)
 ·have e:q=p:=by unfold EY at hd;have e1:=congrArg Prod.fst hd;have e2:=congrArg Prod.snd hd;simp only at e1 e2;exact Gb (by omega) (by omega)
  subst e;refine⟨(q.1,q.2,1),1,by omega,good _ (by simp only;omega) (λi hi=>?_) (λj hj=>?_),λi hi=>?_,λj hj=>?_⟩
  ·rw[Ky];exact Oe ha hi hp
  ·rw[Ky];exact Oe hb hj hq
  ·rw[Ky];omega
  ·rw[Ky];omega
 have sm:∀d∈QX a b,CD d:=λd hd=>by obtain⟨q,hq,p,hp,rfl⟩:=H9.1 hd;have h1:=ha.on p hp;have h2:=hb.on q hq;unfold On at h1 h2;unfold CD EY;simp only;omega
 have m0:EY q p∈QX a b:=H9.2 ⟨q,hq,p,hp,rfl⟩;obtain⟨r,r0,rs,rE⟩:=kD sm (λe=>by rw[e]at m0;simp at m0);have rE:∀i,i<r.length->Edge (QX a b) (pa r i) (pa r ((i+1)%r.length)):=by
  rcases rE with⟨o,ho⟩|h
  ·exfalso;have e1:=ho _ (H9.2 ⟨q,hq,pa a 0,Bo (by omega),rfl⟩);have e2:=ho _ (H9.2 ⟨q,hq,pa a 1,Bo (by omega),rfl⟩);have e3:=e1.trans e2.symm;unfold EY at e3;have f1:=congrArg Prod.fst e3;have f2:=congrArg Prod.snd e3;simp only at f1 f2;have:=ha.ne (show 0<a.length by omega);rw[tL (by omega)]at this;have this:pa a 0≠pa a 1:=this;exact this (Gb (by omega) (by omega))
  ·exact h
 have pos:∀t,0<Cr (pa r (t%r.length)) (pa r ((t+1)%r.length)):=λt=>by
  have hE:=rE (t%r.length) (t6 _ r0);rw[HG]at hE;rcases DV 0 (Cr (pa r (t%r.length)) (pa r ((t+1)%r.length)))with c|c
  ·exact c
  ·exact absurd (ZR ha hb hE c) hap
 obtain⟨t,k1,k2⟩:=AeE (v:=λt=>pa r (t%r.length)) r0 (λt=>by simp only[Nat.add_mod_right]) pos (-(EY q p).1,-(EY q p).2) (λe=>hd (by have e1:=congrArg Prod.fst e;have e2:=congrArg Prod.snd e;simp only at e1 e2;exact Gb (by simp only;omega) (by simp only;omega)));have k0:=pos t;obtain⟨q1,hq1,p1,hp1,e1⟩:=H9.1 (rs _ (Bo (t6 t r0)));obtain⟨q2,hq2,p2,hp2,e2⟩:=H9.1 (rs _ (Bo (t6 (t+1) r0)));rw[e1]at k0 k1;rw[e2]at k0 k2;obtain⟨E,hα⟩:∃E,E=Cr (EY q1 p1) (EY q2 p2):=⟨_,rfl⟩
 obtain⟨J,hβ⟩:∃J,J=Cr (-(EY q p).1,-(EY q p).2) (EY q2 p2):=⟨_,rfl⟩
 obtain⟨γ,hγ⟩:∃γ,γ=Cr (EY q1 p1) (-(EY q p).1,-(EY q p).2):=⟨_,rfl⟩
 rw[<-hα]at k0;rw[<-hβ]at k2;rw[<-hγ]at k1;have x1:E*(q.1-p.1)+J*(q1.1-p1.1)+γ*(q2.1-p2.1)=0:=by rw[hα,hβ,hγ];unfold Cr EY;simp only;grind
 have x2:E*(q.2-p.2)+J*(q1.2-p1.2)+γ*(q2.2-p2.2)=0:=by rw[hα,hβ,hγ];unfold Cr EY;simp only;grind
 have ea:∀i,BS (Hu a i) (E*p.1+J*p1.1+γ*p2.1,E*p.2+J*p1.2+γ*p2.2,E+J+γ)=E*α a i p+J*α a i p1+γ*α a i p2:=λi=>by rw[<-Ky,<-Ky,<-Ky];unfold BS;simp only;grind
 have eb:∀j,BS (Hu b j) (E*p.1+J*p1.1+γ*p2.1,E*p.2+J*p1.2+γ*p2.2,E+J+γ)=E*α b j q+J*α b j q1+γ*α b j q2:=λj=>by
  have f1:E*p.1+J*p1.1+γ*p2.1=E*q.1+J*q1.1+γ*q2.1:=by grind
  have f2:E*p.2+J*p1.2+γ*p2.2=E*q.2+J*q1.2+γ*q2.2:=by grind
  rw[f1,f2,<-Ky,<-Ky,<-Ky];unfold BS;simp only;grind
 have na:∀i,i<a.length->E*α a i p<=BS (Hu a i) (E*p.1+J*p1.1+γ*p2.1,E*p.2+J*p1.2+γ*p2.2,E+J+γ):=λi hi=>by rw[ea];have:=qI k2 (Oe ha hi hp1);have:=qI k1 (Oe ha hi hp2);omega
 have nb':∀j,j<b.length->E*α b j q<=BS (Hu b j) (E*p.1+J*p1.1+γ*p2.1,E*p.2+J*p1.2+γ*p2.2,E+J+γ):=λj hj=>by rw[eb];have:=qI k2 (Oe hb hj hq1);have:=qI k1 (Oe hb hj hq2);omega
 refine⟨_,E,k0,good _ (by simp only;omega) (λi hi=>?_) (λj hj=>?_),na,nb'⟩
 ·have:=na i hi;have:=qI (w6 k0) (Oe ha hi hp);omega
 ·have:=nb' j hj;have:=qI (w6 k0) (Oe hb hj hq);omega
theorem tO{Ls:List Ci}{P Q:Ci}(h1:J7 Ls P)(h2:J7 Ls Q):J7 Ls (WR P Q):=⟨by have:=h1.1;have:=h2.1;unfold WR;simp only;omega,λL hL=>by rw[dZ];have:=h1.2 L hL;have:=h2.2 L hL;omega⟩
theorem oM{a b:List Pt}(ha:VP a)(hb:VP b)(hap:¬apart a b):∃P:Ci,0<P.2.2/\∀L∈Be a++Be b,0<BS L P:=by
 have a3:=ha.l3;have b3:=hb.l3;have one:∀L∈Be a++Be b,∃P,J7 (Be a++Be b) P/\0<BS L P:=λL hL=>by
  rcases oJ.1 hL with h|h
  ·obtain⟨i,hi,rfl⟩:=Ha.1 h;obtain⟨x,hx,px⟩:=LP ha hi;obtain⟨P,k,kp,hP,h1,_⟩:=Ql ha hb hap hx (Bo (i:=0) (show 0<b.length by omega));have:=h1 i hi;have:=yS kp px;exact⟨P,hP,by omega⟩
  ·obtain⟨i,hi,rfl⟩:=Ha.1 h;obtain⟨x,hx,px⟩:=LP hb hi;obtain⟨P,k,kp,hP,_,h1⟩:=Ql ha hb hap (Bo (i:=0) (show 0<a.length by omega)) hx;have:=h1 i hi;have:=yS kp px;exact⟨P,hP,by omega⟩
 have many:∀Ms:List Ci,(∀L∈Ms,L∈Be a++Be b)->∃P,J7 (Be a++Be b) P/\∀L∈Ms,0<BS L P:=by
  intro Ms;induction Ms with
  |nil=>intro _;obtain⟨P,_,_,hP,_,_⟩:=Ql ha hb hap (Bo (i:=0) (show 0<a.length by omega)) (Bo (i:=0) (show 0<b.length by omega));exact⟨P,hP,by simp⟩
  |cons M Ms ih=>
   intro h;obtain⟨P,hP,h1⟩:=ih λL hL=>h L (by simp[hL])
   obtain⟨Q,hQ,h2⟩:=one M (h M (by simp));refine⟨WR P Q,tO hP hQ,λL hL=>?_⟩;rw[dZ];rcases oH.1 hL with rfl|hL
   ·have:=hP.2 L (h L (by simp));omega
   ·have:=h1 L hL;have:=hQ.2 L (h L (by simp[hL]));omega
 obtain⟨P,hP,h⟩:=many (Be a++Be b) λL hL=>hL
 exact⟨P,hP.1,h⟩
structure Vtx(Ls:List Ci)(L M P:Ci):Prop where
 inK:J7 Ls P
 l:L∈Ls
 m:M∈Ls
 zl:BS L P=0
 zm:BS M P=0
 np:L.1*M.2.1-M.1*L.2.1≠0
theorem tP{a b:List Pt}(ha:VP a)(hb:VP b)(hap:¬apart a b){f:Ci}(hf:f.1≠0\/f.2.1≠0):∃L M P,Vtx (Be a++Be b) L M P/\BS f P≠0:=by
 obtain⟨c,cw,cp⟩:=oM ha hb hap;have bd:∀d:Pt,d≠(0,0)->∃L∈Be a++Be b,dv L d<0:=λd hd=>by obtain⟨L,hL,h⟩:=tN ha hd;exact⟨L,List.mem_append_left _ hL,h⟩
 have cK:J7 (Be a++Be b) c:=⟨cw,λL hL=>w6 (cp L hL)⟩
 have ρ:0<f.1*f.1+f.2.1*f.2.1:=by
  have h1:=NW f.1;have h2:=NW f.2.1;rcases hf with h|h
  ·have:f.1*f.1≠0:=λq=>h (nW q);omega
  ·have:f.2.1*f.2.1≠0:=λq=>h (nW q);omega
 have go_:∀g:Ci,0<g.1*g.1+g.2.1*g.2.1->0<=BS g c->∃L M P,Vtx (Be a++Be b) L M P/\0<BS g P:=λg Wg g0=>by
  obtain⟨r,s,L,hL,rp,sp,hK,hd,hz,es⟩:=ray cK (g.1,g.2.1) (bd _ (λe=>by have e1:=congrArg Prod.fst e;have e2:=congrArg Prod.snd e;simp only at e1 e2;rw[e1,e2]at Wg;omega));have sp':0<s:=by rw[es];exact cp L hL
  have gp:0<BS g (RN r c s (g.1,g.2.1)):=by rw[Qk];have:=qI (w6 rp) g0;have:=yS sp' Wg;have e:dv g (g.1,g.2.1)=g.1*g.1+g.2.1*g.2.1:=rfl;rw[e];omega
  generalize RN r c s (g.1,g.2.1)=P at*;have Lne:¬(L.1=0/\L.2.1=0):=λq=>by unfold dv at hd;rw[q.1,q.2]at hd;omega
  have fin_:∀Z:Pt,Z≠(0,0)->(∀M:Ci,dv M Z≠0->L.1*M.2.1-M.1*L.2.1≠0)->dv L Z=0->0<=dv g Z->∃L M P,Vtx (Be a++Be b) L M P/\0<BS g P:=λZ hτ hM hLτ hg=>by
   obtain⟨r2,s2,M,hMm,r2p,s2p,hK2,hd2,hz2,_⟩:=ray hK Z (bd _ hτ);refine⟨L,M,RN r2 P s2 Z,⟨hK2,hL,hMm,?_,hz2,hM M (by omega)⟩,?_⟩
   ·rw[Qk,hz,hLτ];simp
   ·rw[Qk];have:=yS r2p gp;have:=qI s2p hg;omega
  by_cases hg:0<=dv g (L.2.1,-L.1)
  ·refine fin_ (L.2.1,-L.1) (λe=>Lne ?_) (λM hM q=>hM ?_) ?_ hg
   ·have e1:=congrArg Prod.fst e;have e2:=congrArg Prod.snd e;simp only at e1 e2;omega
   ·unfold dv;simp only;grind
   ·unfold dv;simp only;grind
  ·refine fin_ (-L.2.1,L.1) (λe=>Lne ?_) (λM hM q=>hM ?_) ?_ ?_
   ·have e1:=congrArg Prod.fst e;have e2:=congrArg Prod.snd e;simp only at e1 e2;omega
   ·unfold dv;simp only;grind
   ·unfold dv;simp only;grind
   ·have e:dv g (-L.2.1,L.1)= -dv g (L.2.1,-L.1):=by unfold dv;simp only;grind
    omega
 by_cases h0:0<=BS f c
 ·obtain⟨L,M,P,hv,hp⟩:=go_ f ρ h0;exact⟨L,M,P,hv,by omega⟩
 ·have en:∀P,BS (-f.1,-f.2.1,-f.2.2) P= -BS f P:=λP=>by unfold BS;simp only;grind
  obtain⟨L,M,P,hv,hp⟩:=go_ (-f.1,-f.2.1,-f.2.2) (by simp only;grind) (by rw[en];omega);rw[en]at hp;exact⟨L,M,P,hv,by omega⟩
def KU(L M:Ci):Ci:=(L.2.1*M.2.2-M.2.1*L.2.2,L.2.2*M.1-M.2.2*L.1,L.1*M.2.1-M.1*L.2.1)
def oN(P:Ci):Ci:=(-P.1,-P.2.1,-P.2.2)
def KV(P:Ci):Ci:=if P.2.2<0 then oN P else P
def GX(P Q R:Ci):Int:=P.1*(Q.2.1*R.2.2-Q.2.2*R.2.1)-P.2.1*(Q.1*R.2.2-Q.2.2*R.1)+P.2.2*(Q.1*R.2.1-Q.2.1*R.1)
def ga(Ls:List Ci)(i:Nat):Ci:=Ls.getD i (0,0,0)
theorem eA{Ls:List Ci}{i:Nat}(h:i<Ls.length):ga Ls i=Ls[i]:=by unfold ga;simp[h]
theorem IS{Ls:List Ci}{i:Nat}(h:i<Ls.length):ga Ls i∈Ls:=by rw[eA h];exact Gt h
theorem QY{Ls:List Ci}{L:Ci}(h:L∈Ls):∃i,i<Ls.length/\L=ga Ls i:=by obtain⟨i,hi,e⟩:=List.getElem_of_mem h;exact⟨i,hi,by rw[eA hi,e]⟩
def Cmn(Ls:List Ci)(P:Ci):Prop:=∃i k,i<k/\k<Ls.length/\(KU (ga Ls i) (ga Ls k)).2.2≠0/\P=KV (KU (ga Ls i) (ga Ls k))/\∀L∈Ls,0<=BS L P
theorem eC{C:Ci}(h:C.2.2≠0):0<(KV C).2.2:=by
 unfold KV;split
 ·unfold oN;simp only;omega
 ·omega
theorem tQ{C P:Ci}(h1:C.2.2*P.1=P.2.2*C.1)(h2:C.2.2*P.2.1=P.2.2*C.2.1):(KV C).2.2*P.1=P.2.2*(KV C).1/\(KV C).2.2*P.2.1=P.2.2*(KV C).2.1:=by
 unfold KV oN;split
 ·simp only;constructor<;>grind
 ·exact⟨h1,h2⟩
theorem Cmn.inK{Ls:List Ci}{P:Ci}(h:Cmn Ls P):J7 Ls P:=by obtain⟨i,k,_,_,hw,rfl,h⟩:=h;exact⟨eC hw,h⟩
theorem tT{Ls:List Ci}{L M P:Ci}(h:Vtx Ls L M P):∃Q,Cmn Ls Q/\∀f,BS f P≠0->BS f Q≠0:=by
 obtain⟨i,hi,Hu⟩:=QY h.l;obtain⟨k,hk,eM⟩:=QY h.m;have np:=h.np;have zl:=h.zl;have zm:=h.zm;have pw:=h.inK.1;have key:∀A B:Ci,A.1*B.2.1-B.1*A.2.1≠0->BS A P=0->BS B P=0->(KU A B).2.2≠0/\(∀f,P.2.2*BS f (KV (KU A B))=(KV (KU A B)).2.2*BS f P):=λA B hn zA zB=>by have w:(KU A B).2.2≠0:=hn;have p:=tQ (C:=KU A B) (P:=P) (by unfold KU;simp only;unfold BS at zA zB;grind) (by unfold KU;simp only;unfold BS at zA zB;grind);refine⟨w,λf=>?_⟩;generalize KV (KU A B)=Q at p;unfold BS;grind
 have fin_:∀A B:Ci,A.1*B.2.1-B.1*A.2.1≠0->BS A P=0->BS B P=0->(KU A B).2.2≠0/\(∀L∈Ls,0<=BS L (KV (KU A B)))/\∀f,BS f P≠0->BS f (KV (KU A B))≠0:=λA B hn zA zB=>by
  obtain⟨w,e⟩:=key A B hn zA zB;have q:=eC w;refine⟨w,λL hL=>?_,λf hf hz=>?_⟩
  ·have e1:=e L;have:=qI (w6 q) (h.inK.2 L hL);exact FE pw (by omega)
  ·have e1:=e f;rw[hz,Int.mul_zero]at e1;rcases D2.1 e1.symm with x|x
   ·omega
   ·exact hf x
 rcases Nat.lt_trichotomy i k with c|c|c
 ·obtain⟨w,h1,h2⟩:=fin_ L M np zl zm;rw[Hu,eM]at w h1 h2;exact⟨_,⟨i,k,c,hk,w,rfl,h1⟩,h2⟩
 ·exfalso;subst c;rw[<-eM]at Hu;subst Hu;omega
 ·obtain⟨w,h1,h2⟩:=fin_ M L (by omega) zm zl;rw[Hu,eM]at w h1 h2;exact⟨_,⟨k,i,c,hi,w,rfl,h1⟩,h2⟩
theorem eD{a b:List Pt}(ha:VP a)(hb:VP b)(hap:¬apart a b):∃P Q R,Cmn (Be a++Be b) P/\Cmn (Be a++Be b) Q/\Cmn (Be a++Be b) R/\GX P Q R≠0:=by
 have one:∀f:Ci,f.1≠0\/f.2.1≠0->∃Q,Cmn (Be a++Be b) Q/\BS f Q≠0:=λf hf=>by obtain⟨L,M,P,hv,hp⟩:=tP ha hb hap hf;obtain⟨Q,hQ,h⟩:=tT hv;exact⟨Q,hQ,h f hp⟩
 obtain⟨P,hP,_⟩:=one (1,0,0) (.inl (by simp));have pw:=hP.inK.1;obtain⟨Q,hQ,hq⟩:=one (P.2.2,0,-P.1) (.inl (by simp only;omega));obtain⟨R,hR,hr⟩:=one (P.2.1*Q.2.2-P.2.2*Q.2.1,P.2.2*Q.1-P.1*Q.2.2,P.1*Q.2.1-P.2.1*Q.1) (.inr (by unfold BS at hq;simp only at hq;simp only;intro q;apply hq;grind));refine⟨P,Q,R,hP,hQ,hR,λq=>hr ?_⟩;unfold GX at q;unfold BS;simp only;grind
def WS(k:Int)(P c:Ci):Ci:=(k*P.1+c.1,k*P.2.1+c.2.1,k*P.2.2+c.2.2)
theorem oO(L:Ci)(k:Int)(P c:Ci):BS L (WS k P c)=k*BS L P+BS L c:=by unfold BS WS;simp only;grind
theorem eE{b:List Pt}(hb:VP b){f P:Ci}(hf:f.1≠0\/f.2.1≠0)(h:∀q∈b,BS f (q.1,q.2,1)<=0)(hP:J7 (Be b) P):BS f P<=0:=by
 rcases DV 0 (BS f P)with c|c
 case inr=>exact c
 exfalso;have b3:=hb.l3;have hn:0<b.length:=by omega
 obtain⟨C,cw,cp⟩:=oM hb hb (ZK hb);obtain⟨k,k0,hk⟩:∃k:Int,0<=k/\0<k*BS f P+BS f C:=by
  refine⟨if 0<BS f C then 0 else 1-BS f C,?_,?_⟩
  ·split<;>omega
  ·split
   ·omega
   ·have:=Int.mul_le_mul_of_nonneg_left (show 1<=BS f P by omega) (show 0<=1-BS f C by omega);omega
 have ρ:0<(WS k P C).2.2:=by have:=qI k0 (w6 hP.1);unfold WS;simp only;omega
 have pe:∀L∈Be b,0<BS L (WS k P C):=λL hL=>by rw[oO];have:=qI k0 (hP.2 L hL);have:=cp L (List.mem_append_left _ hL);omega
 have fe:0<BS f (WS k P C):=by rw[oO];exact hk
 generalize WS k P C=Q at ρ pe fe;refine QV (n:=b.length) (v:=λt=>(Q.2.2*(qa b t).1,Q.2.2*(qa b t).2)) hn (λt=>by simp only[Gh]) (p:=(Q.1,Q.2.1)) (g:=(-f.1,-f.2.1)) (λt=>?_) (λe=>?_) (λt=>?_)
 ·have e:=pe _ (Ha.2 ⟨t%b.length,t6 _ hn,rfl⟩);have q:pa b ((t%b.length+1)%b.length)=qa b (t+1):=by unfold qa;rw[HG]
  unfold Hu at e;rw[q,show pa b (t%b.length)=qa b t from rfl]at e;have:=yS ρ e;have e2:Ao (Q.2.2*(qa b t).1,Q.2.2*(qa b t).2) (Q.2.2*(qa b (t+1)).1,Q.2.2*(qa b (t+1)).2) (Q.1,Q.2.1)=Q.2.2*BS (IR (qa b t) (qa b (t+1))) Q:=by unfold Ao BS IR;simp only;grind
  rw[e2];exact this
 ·have e1:=congrArg Prod.fst e;have e2:=congrArg Prod.snd e;simp only at e1 e2;omega
 ·have e:=h (qa b t) (Bo (t6 _ hn));have:=qI (w6 ρ) (show 0<=-BS f ((qa b t).1,(qa b t).2,1) by omega);have e2:DP (-f.1,-f.2.1) (Q.1,Q.2.1) (Q.2.2*(qa b t).1,Q.2.2*(qa b t).2)=Q.2.2*(-BS f ((qa b t).1,(qa b t).2,1))+BS f Q:=by unfold DP BS;simp only;grind
  rw[e2];omega
theorem kE{A B:List Ci}{P:Ci}(h:J7 (A++B) P):J7 A P:=⟨h.1,λL hL=>h.2 L (List.mem_append_left _ hL)⟩
theorem eF{A B:List Ci}{P:Ci}(h:J7 (A++B) P):J7 B P:=⟨h.1,λL hL=>h.2 L (List.mem_append_right _ hL)⟩
theorem Vc{l:List Pt}(h:VP l){i:Nat}(hi:i<l.length):(Hu l i).1≠0\/(Hu l i).2.1≠0:=by
 have:=h.ne hi;unfold Hu IR;simp only;by_cases q:(pa l i).2-(pa l ((i+1)%l.length)).2=0
 ·right;intro w;exact this (Gb (by omega) (by omega))
 ·exact .inl q
theorem YL{f P Q R:Ci}(hf:f.1≠0\/f.2.1≠0)(h1:BS f P=0)(h2:BS f Q=0)(h3:BS f R=0):GX P Q R=0:=by
 unfold BS at h1 h2 h3;have z1:f.1*GX P Q R=0:=by unfold GX;grind
 have z2:f.2.1*GX P Q R=0:=by unfold GX;grind
 rcases hf with h|h
 ·rcases D2.1 z1 with x|x
  ·exact absurd x h
  ·exact x
 ·rcases D2.1 z2 with x|x
  ·exact absurd x h
  ·exact x
theorem kG{a b:List Pt}(ha:VP a)(hb:VP b)(hap:apart a b){P Q R:Ci}(hP:J7 (Be a++Be b) P)(hQ:J7 (Be a++Be b) Q)(hR:J7 (Be a++Be b) R):GX P Q R=0:=by
 rcases hap with⟨i,hi,hs⟩|⟨i,hi,hs⟩
 ·have z:∀S,J7 (Be a++Be b) S->BS (Hu a i) S=0:=λS hS=>by have h1:=hS.2 (Hu a i) (List.mem_append_left _ (Ha.2 ⟨i,hi,rfl⟩));have h2:=eE hb (Vc ha hi) (λq hq=>by rw[Ky];exact hs q hq) (eF hS);omega
  exact YL (Vc ha hi) (z _ hP) (z _ hQ) (z _ hR)
 ·have z:∀S,J7 (Be a++Be b) S->BS (Hu b i) S=0:=λS hS=>by have h1:=hS.2 (Hu b i) (List.mem_append_right _ (Ha.2 ⟨i,hi,rfl⟩));have h2:=eE ha (Vc hb hi) (λq hq=>by rw[Ky];exact hs q hq) (kE hS);omega
  exact YL (Vc hb hi) (z _ hP) (z _ hQ) (z _ hR)
