import Derived.Test.YtjdchfljifacoaaGreatY4
set_option linter.all false
set_option maxRecDepth 100000
set_option maxHeartbeats 8000000
namespace Go.Proofs.YtjdchfljifacoaaGreat.Am
section
theorem Xp{ms:List Mk}{m x:Mk}:x∈Hx ms m↔x∈ms\/x=m:=by unfold Hx;grind
theorem Rr(ms:List Mk)(m:Mk):(Hx ms m).length=ms.length+1:=by unfold Hx;have h:=List.length_eq_countP_add_countP (λx=>decide (x.1<m.1)) (l:=ms);rw[jT,pV,<-List.countP_eq_length_filter,<-List.countP_eq_length_filter];grind
theorem mZ{ms:List Mk}{m:Mk}(h:ms.Pairwise λa b=>a.1<b.1)(hn:∀x∈ms,x.1≠m.1):(Hx ms m).Pairwise λa b=>a.1<b.1:=by unfold Hx;rw[List.pairwise_append,vE];grind
theorem fS(f:List Un):MV f []:=⟨by simp,by simp,by simp,List.Pairwise.nil⟩
theorem uM{f:List Un}{ms:List Mk}{m:Mk}(h:MV f ms)(hl:ms.length<20)(ho:JF m=true)(hu:∃u∈f,u.1=m.2.1/\m.2.2.1<(u.2.2.2.1.length:Int))(hn:¬∃x∈ms,x.1=m.1):MV f (Hx ms m):=by
 refine⟨by rw[Rr];omega,λx hx=>?_,λx hx=>?_,by grind[mZ,h.srt]⟩
 ·rcases Xp.1 hx with hx|rfl
  ·exact h.ok x hx
  ·exact ho
 ·rcases Xp.1 hx with hx|rfl
  ·exact h.on x hx
  ·exact hu
def I4(x:List (Int×Int×Int×Int)):Prop:=∀r∈x,Af r.1/\Af r.2.1/\Af r.2.2.1/\Af r.2.2.2
section
variable{N:Nat}(hN:1001<=N)
include hN
theorem Pw{x:List (Int×Int×Int×Int)}(hx:I4 x){f:List Un}(hf:FV f):∀n i (ms:List Mk),i<=8->8<n+i->MV f ms->ms.length<=i->∃g,DR N x f n (i:Nat) ms=some g/\MV f g
 |0,i,ms,h1,h2,_,_=>by omega
 |n+1,i,ms,h1,h2,hm,hl=>by
  rw[DR];by_cases c:(i<x.length/\i<8)/\0<f.length
  ·obtain⟨⟨c1,c2⟩,c3⟩:=c;have hr:=hx _ (List.getElem_mem c1);have fl:=hf.len;rw[Dq c1,Ld,aB (p:=(i:Int)<8) (by omega),Ld,aB (p:=(0:Int)<(f.length:Int)) (by omega),cT,M4,dO c1,bS];generalize x[i]=r at hr;obtain⟨a,b,c,d⟩:=r;simp only at hr⊢;have p1:=DI (c:=b) (n:=(f.length:Int)) (by omega);obtain⟨j,hj⟩:∃j:Nat,pk b f.length=j:=⟨(pk b f.length).toNat,by omega⟩
   rw[hj]at p1;have hj2:j<f.length:=by omega
   have uv:=hf.val _ (FH hj2);have l8:=uv.l.l8;have l3:=uv.l.l3;have p2:=DI (c:=a) (n:=12) (by omega);have p3:=DI (c:=c) (n:=((A2 f j).2.2.2.1.length:Int)+2) (by omega);have p4:=DI (c:=d) (n:=5) (by omega);rw[JE hr.2.1 (by omega),bS,hj,Fs hj2,bS];simp only;rw[JE hr.1 (by omega),bS,Ae (by omega),JE hr.2.2.1 (by omega),bS,Ae (by omega),JE hr.2.2.2 (by omega),bS,Ae (by omega),JE hr.2.2.2 (by omega),bS];have ra:=fR hN (ms:=ms) (by omega) hm.srt (pk a 12,(A2 f j).1,pk c ((A2 f j).2.2.2.1.length+2)-2,1+pk d 5,decide (pk d 2=0));rw[ra,bS];have ua:=uv.a;have okm:JF (pk a 12,(A2 f j).1,pk c ((A2 f j).2.2.2.1.length+2)-2,1+pk d 5,decide (pk d 2=0))=true:=by grind[S3]
   by_cases t:∃x∈ms,x.1=pk a 12
   ·rw[dW t];rw[cF,Ae (by omega),<-ns];exact Pw hx hf n (i+1) _ (by omega) (by omega) hm (by omega)
   ·rw[dQ t];rw[cT,Ae (by omega),<-ns];exact Pw hx hf n (i+1) _ (by omega) (by omega) (uM hm (by omega) okm ⟨_,FH hj2,rfl,by simp only;omega⟩ t) (by rw[Rr];omega)
  grind
theorem AbA{x1:List (Int×Int×Int×Int×Int×Int)}{x2:List (Int×Int×Int×Int)}(x3:List (Int×Int×Int×Int×Int×Int))(h1:I6 x1)(h2:I4 x2):∃f ms,Dp N x1 x2 x3=some (f,ms)/\SV f ms:=by obtain⟨f,e,hf⟩:=eU hN h1;obtain⟨ms,e2,hm⟩:=Pw hN h2 hf N 0 [] (by omega) (by omega) (fS f) (by simp);rw[nL]at e2;refine⟨f,ms,?_,hf,hm⟩;unfold Dp;rw[e,bS,e2,bS]
theorem Y2{f:List Un}{ms:List Mk}(hf:FV f){c:Int}(hc:Af c):∃t,D1 N f ms c=some t/\0<=t/\t<=99:=by
 unfold D1;have p2:=DI (c:=c) (n:=100) (by omega);rw[JE hc (by omega),BR (by grind),oK];by_cases t:f.length=0\/pk c 16=15
 ·rw[AU _ (by rw[sW,bK,bK];omega),JE hc (by omega),bS];grind
 ·have ht:=Pp hc (d:=16) (by omega) (by omega);have p3:=DI (c:=c.tdiv 16) (n:=(f.length)) (by omega);obtain⟨j,hj⟩:∃j:Nat,pk (c.tdiv 16) f.length=j:=⟨(pk (c.tdiv 16) f.length).toNat,by omega⟩
  rw[A1 _ (by rw[y8,cY,cY];omega),Ae ht,JE ht (by omega),bS,hj,Fs (by omega),bS];exact⟨_,rfl,(hf.val _ (FH (by omega))).a⟩
theorem fT{f:List Un}{ms:List Mk}(h:SV f ms){x1 x2 x3 x4 x5 x6:Int}(h1:Af x1)(h2:Af x2)(h3:Af x3)(h4:Af x4)(h5:Af x5)(h6:Af x6):∃a:Ac,F5 N f ms x1 x2 x3 x4 x5 x6=some a/\FA a:=by
 have ml:=h.2.len;unfold F5;have p0:=DI (c:=x1) (n:=8) (by omega);rw[JE h1 (by omega),bS];by_cases e0:pk x1 8=0\/pk x1 8=1
 ·have:(bif decide (pk x1 8=0)then some (decide (pk x1 8=0))else some (decide (pk x1 8=1)):Option Bool)=some true:=by
   by_cases c:pk x1 8=0
   ·rw[aB c,cT]
   ·rw[bJ c,cF,aB (by omega)]
  have t1:=Pp h5 (d:=4) (by omega) (by omega);have t2:=Pp h6 (d:=8) (by omega) (by omega);obtain⟨u,e,hu⟩:=kP (N:=N) h2 h3 h4 h5 t1 h6 t2;rw[this,bS,cT,Ae t1,Ae t2,e,bS];exact⟨_,rfl,.build hu⟩
 have:(bif decide (pk x1 8=0)then some (decide (pk x1 8=0))else some (decide (pk x1 8=1)):Option Bool)=some false:=by rw[bJ (p:=pk x1 8=0) (by omega),cF,bJ (by omega)]
 rw[this,bS,cF];obtain⟨t2,u2,g2⟩:=Y2 hN (ms:=ms) h.1 h2;obtain⟨t3,u3,g3⟩:=Y2 hN (ms:=ms) h.1 h3;by_cases e2:pk x1 8=2
 ·rw[AU _ (aB e2),u2,bS];exact⟨_,rfl,.remove g2⟩
 rw[A1 _ (bJ e2)];by_cases e3:pk x1 8=3
 ·have p3:=DI (c:=x3) (n:=4) (by omega);have p4:=DI (c:=x4) (n:=4) (by omega);have p5:=DI (c:=x5) (n:=20) (by omega);rw[AU _ (aB e3),u2,bS,JE h3 (by omega),bS,JE h4 (by omega),bS];have q1:((t2+40)+pk x5 20).tmod 100=(t2+40+pk x5 20)%100:=Int.tmod_eq_emod_of_nonneg (by omega);by_cases c:pk x3 4=pk x4 4
  ·have q2:(pk x3 4+2).tmod 4=(pk x3 4+2)%4:=Int.tmod_eq_emod_of_nonneg (by omega);rw[AU _ (aB c),Ae (by unfold Af;omega),Ae (by unfold Af;omega),JE h5 (by omega),bS,Ae (by unfold Af;omega),q1,q2];exact⟨_,rfl,.cut g2 (by omega) (by omega) (by omega) (by omega) (by omega)⟩
  ·rw[A1 _ (bJ c),Ae (by unfold Af;omega),JE h5 (by omega),bS,Ae (by unfold Af;omega),q1];exact⟨_,rfl,.cut g2 (by omega) (by omega) (by omega) (by omega) (by omega)⟩
 rw[A1 _ (bJ e3)];by_cases e4:pk x1 8=4
 ·have p3:=DI (c:=x3) (n:=7) (by omega);have p4:=DI (c:=x4) (n:=5) (by omega);have p5:=DI (c:=x5) (n:=3) (by omega);rw[AU _ (aB e4),u2,bS,JE h3 (by omega),bS,Ae (by unfold Af;omega),Ae (by unfold Af;omega),JE h4 (by omega),bS,Ae (by unfold Af;omega),Ae (by unfold Af;omega)];by_cases c:4*(pk x3 7-3)=0/\4*(pk x4 5-2)=0
  ·rw[AU _ (by rw[nK,bK,bK];exact c),JE h5 (by omega),bS,Ae (by unfold Af;omega)];exact⟨_,rfl,.move g2 (by omega) (by omega) (by omega)⟩
  ·rw[A1 _ (by rw[z8,cY,cY];omega)];exact⟨_,rfl,.move g2 (by omega) (by omega) (by omega)⟩
 rw[A1 _ (bJ e4)];by_cases e5:pk x1 8=5
 ·have p2:=DI (c:=x2) (n:=20) (by omega);have p4:=DI (c:=x4) (n:=6) (by omega);have p5:=DI (c:=x5) (n:=5) (by omega);rw[AU _ (aB e5),JE h2 (by omega),bS,u3,bS,JE h4 (by omega),bS,Ae (by unfold Af;omega),JE h5 (by omega),bS,Ae (by unfold Af;omega),JE h5 (by omega),bS];exact⟨_,rfl,.mark (S3.2 ⟨by simp only;omega,g3,by simp only;omega,by simp only;omega⟩)⟩
 rw[A1 _ (bJ e5)];have p3:=DI (c:=x3) (n:=2) (by omega);have p2:=DI (c:=x2) (n:=12) (by omega);rw[JE h3 (by omega),bS,Ae (by unfold Af;omega),JE h2 (by omega),bS];have fin:∀t:Int,0<=t/\t<=99->FA (6+pk x3 2,PE,t,0,0,Xg):=λt ht=>by
  by_cases c:pk x3 2=0
  ·rw[c];exact .close ht
  ·rw[show pk x3 2=1 by omega];exact .opn ht
 by_cases c:0<ms.length
 ·have p4:=DI (c:=x2) (n:=(ms.length:Int)) (by omega);obtain⟨j,hj⟩:∃j:Nat,pk x2 ms.length=j:=⟨(pk x2 ms.length).toNat,by omega⟩
  rw[AU _ (aB (by omega)),JE h2 (by omega),bS,hj,E7 (by omega),bS];exact⟨_,rfl,fin _ (S3.1 (h.2.ok _ (J5 (by omega)))).1⟩
 ·rw[A1 _ (bJ (by omega))];exact⟨_,rfl,fin _ (by omega)⟩
end
end
section
open Go
attribute [local irreducible] Ax BO BB Bj BC Bk AY BD BK Cq
def Ir(N:Nat)(l3:List (Int×(Int×Int×Int×(List (Int×Int))×Int×Int)×Int×Int×Int×(Int×Int×Int×Int×Bool))):Nat->Int->(List (Int×Int×Int×(List (Int×Int))×Int×Int))->(List (Int×Int×Int×Int×Bool))->Option (Sum ((List (Int×Int×Int×(List (Int×Int))×Int×Int))×(List (Int×Int×Int×Int×Bool))) ((((List (Int×Int×Int×(List (Int×Int))×Int×Int))×(List (Int×Int×Int×Int×Bool)))×Int×Int)))|0,_,_,_=>none|n+1,x31,Yx,Yr=>bif decide (x31<(l3.length:Int))then((A7 l3 x31).bind λ(x34,(x35,x36,x37,x38,x39,x40),x41,x42,x43,(x44,x45,x46,x47,x48))=>(JW N Yx Yr x34 x35 x36 x37 x38 x39 x40 x41 x42 x43 x44 x45 x46 x47 x48).bind λ((ae,ab),aj)=>bif (decide (aj≠0))||(decide (40<=x31))then(some (.inr (([],[]),x31,170)))else(gd (Af (x31+1))<|Ir N l3 n (x31+1) ae ab))else(some (.inl (Yx,Yr)))
def Hb(N:Nat)(s1:List (Int×Int×Int×(List (Int×Int))×Int×Int))(s2:List (Int×Int×Int×Int×Bool))(l3:List (Int×(Int×Int×Int×(List (Int×Int))×Int×Int)×Int×Int×Int×(Int×Int×Int×Int×Bool))):Option (((List (Int×Int×Int×(List (Int×Int))×Int×Int))×(List (Int×Int×Int×Int×Bool)))×Int×Int):=(Dw N s1 s2).bind λr4=>bif !r4 then(some (([],[]),0,170))else((Fh N s1 s2).bind λ(r6,r7)=>(Ir N l3 N 0 r6 r7).bind λaf=>match af with|.inl (nX,nT)=>(some ((nX,nT),(l3.length:Int),0))|.inr am=>(some am))
@[go_sem] def s17(N:Nat):Spec:=p0<|(Aoh<|qD Ak<|qD AA<|Aof<|qD CR<|Aof<|Aog (([],[]),0,0) λr=>.tup [.agg [Ap r.1.1,AS r.1.2],.i r.2.1,.i r.2.2]) (Hb N)
theorem pY(N:Nat):AG Tryz.prog 17 (s17 N):=by
 refine fk (Aoq x17 (Ab (ZG N)<|Ab (QZ N)<|Ab (pW N)<|Aj)) ?_;intro s1 s2 l3 r h _ hS F;dsimp only[x17,Ah,AA,Ak,CR];unfold Hb at h;obtain⟨r4,aq,h⟩:=un h;replace F:=fc aq F;refine An hS F h (λ_ h=>?_) (λ_ h=>?_)
 ·exact Ai hS F h
 ·obtain⟨⟨r6,r7⟩,an,h⟩:=un h;replace F:=fc an F;obtain⟨af,av,h⟩:=un h;refine go hS F ?_;refine Bz af (λz:(List (Int×Int×Int×(List (Int×Int))×Int×Int))×(List (Int×Int×Int×Int×Bool))×Nat=>⟨[(1,Ay l3),(2,.box (0,1) 0),(4,.box (1,1) 0)],[(.c (1,1) 0,.sl 0 true [] []),(.c (1,1) 1,.sl 0 true [] []),(.c (0,1) 0,Ap z.1),(.c (0,1) 1,AS z.2.1)],z.2.2⟩) (λz=>(.inl (z.1,z.2.1):Sum ((List (Int×Int×Int×(List (Int×Int))×Int×Int))×(List (Int×Int×Int×Int×Bool))) ((((List (Int×Int×Int×(List (Int×Int))×Int×Int))×(List (Int×Int×Int×Int×Bool)))×Int×Int)))) (.x 0) ?_ ?_
  ·refine Bp (λn (y:Int×(List (Int×Int×Int×(List (Int×Int))×Int×Int))×(List (Int×Int×Int×Int×Bool))×Nat)=>Ir N l3 n y.1 y.2.1 y.2.2.1) (λy=>⟨[(1,Ay l3),(2,.box (0,1) 0),(4,.box (1,1) 0),(17,Ay l3),(18,.i (l3.length:Int)),(19,.i y.1)],[(.c (1,1) 0,.sl 0 true [] []),(.c (1,1) 1,.sl 0 true [] []),(.c (0,1) 0,Ap y.2.1),(.c (0,1) 1,AS y.2.2.1)],y.2.2.2⟩) (0,r6,r7,4) av (Ch F) ?_;rintro n ⟨x31,Yx,Yr,ak⟩ aa;simp only[Ir]at aa;refine An hS F aa (λ_ aa=>?_) (λ_ aa=>?_)
   ·obtain⟨⟨x34,⟨x35,x36,x37,x38,x39,x40⟩,x41,x42,x43,⟨x44,x45,x46,x47,x48⟩⟩,ai,aa⟩:=un aa;obtain⟨au,F⟩:=Cb AB ai F;obtain⟨⟨⟨ae,ab⟩,aj⟩,ah,aa⟩:=un aa;replace F:=fc ah F;refine An hS F aa (λ_ aa=>?_) (λ_ aa=>?_)
    ·obtain rfl:=yJ aa;exact Ai hS F h
    ·obtain⟨ay,aa⟩:=un aa;exact Cd hS F (n,x31+1,ae,ab,ak+1+1+1+1+1+1) aa
   ·exact B4 hS F (Yx,Yr,ak+1) aa
  ·rintro⟨nX,nT,az⟩ rfl;exact Ai hS F h
end
section
theorem uN{s t:F8}{a:Ac}(h:FV s.1)(e:It s a=some t):FV t.1:=by
 obtain⟨f,ms⟩:=s;unfold It at e;have rv:∀id,FV (EZ f id):=λid=>h.sub List.filter_sublist
 split at e
 ·split at e
  ·cases e;rename_i g;exact g.fv
  ·cases e
 split at e
 ·split at e;all_goals grind
 split at e
 ·split at e
  ·cases e
  ·simp only at e;split at e
   ·cases e;rename_i g;exact g.2.2.fv
   ·cases e
 split at e
 ·split at e
  ·cases e
  ·split at e
   ·cases e;rename_i g;exact g.2.fv
   ·cases e
 split at e
 ·split at e;all_goals grind
 ·split at e;all_goals grind
theorem Vj{s t:F8}{a:Ac}(e:Ig s a=some t):SV s.1 s.2/\FA a/\It s a=some t/\SV t.1 t.2:=by
 unfold Ig at e;split at e
 ·rename_i h;split at e
  ·rename_i t' e';split at e
   ·rename_i m;cases e
    exact⟨h.1,h.2,e',uN h.1.1 e',m⟩
   ·cases e
  ·cases e
 ·cases e
noncomputable def C4:F8->List Ac->Nat×Option F8|s,[]=>(0,some s)|s,a::l=>match Ig s a with|none=>(0,none)|some t=>((C4 t l).1+1,(C4 t l).2)
def If(r:Nat×Option F8):F8×Int×Int:=match r with|(n,some t)=>(t,(n:Int),0)|(n,none)=>(([],[]),(n:Int),170)
theorem NF:∀(l:List Ac)(s:F8),(C4 s l).1<=l.length/\((C4 s l).2.isSome=true↔(C4 s l).1=l.length)
 |[],s=>by simp[C4]
 |a::l,s=>by
  rw[C4];cases Ig s a with
  |none=>simp
  |some t=>have:=NF l t;grind
theorem Px:∀(l l':List Ac)(s:F8),C4 s (l++l')=match C4 s l with|(n,some t)=>(n+(C4 t l').1,(C4 t l').2)|(n,none)=>(n,none)
 |[],l',s=>by rw[C4,pA];simp
 |a::l,l',s=>by
  rw[sF,C4,C4];cases Ig s a with
  |none=>rfl
  |some t=>simp;rw[Px l l' t];grind
theorem TJ:∀(l:List Ac){s t:F8}{n:Nat},SV s.1 s.2->C4 s l=(n,some t)->SV t.1 t.2
 |[],s,t,n,h,e=>by cases e;exact h
 |a::l,s,t,n,h,e=>by
  rw[C4]at e;cases c:Ig s a with
  |none=>rw[c]at e;cases e
  |some u=>exact TJ l (n:=(C4 u l).1) (Vj c).2.2.2 (by grind)
theorem Ac4{l:List Ac}{k:Nat}(h:k<l.length):A7 l (k:Int)=some l[k]:=by rw[M4,dO h]
section
variable{N:Nat}(hN:1001<=N)(h9:N<=100000)
include hN h9
theorem Y3{l:List Ac}(hl:l.length<=40):∀n k (s:F8),k<=l.length->l.length<n+k->SV s.1 s.2->Ir N l n (k:Nat) s.1 s.2=some (match C4 s (l.drop k)with|(_,some t)=>.inl t|(j,none)=>.inr (([],[]),(((k+j:Nat)):Int),170))
 |0,k,s,h1,h2,_=>by omega
 |n+1,k,s,h1,h2,h=>by
  rw[Ir];by_cases e:k<l.length
  ·rw[Dq e,cT,Ac4 e,bS,oH e,C4];generalize l[k]=x;obtain⟨x1,⟨x2,x3,x4,x5,x6,x7⟩,x8,x9,x10,⟨x11,x12,x13,x14,x15⟩⟩:=x;obtain⟨f,ms⟩:=s;simp only;rw[qF hN h9 _ _ _ _ _ _ _ _ _ _ _ _ _ _ h,bS];cases c:Ig (f,ms) (x1,(x2,x3,x4,x5,x6,x7),x8,x9,x10,x11,x12,x13,x14,x15)with
   |none=>simp only[IM];rw[AU _ (by simp),Gt]
   |some t=>simp only[IM];rw[A1 _ (by simp;omega),Ae (by omega),<-ns,Y3 hl n (k+1) t (by omega) (by omega) (Vj c).2.2.2];grind
  ·have e3:k=l.length:=by omega
   subst e3;rw[F2,cF,tM,C4]
theorem AbB{s:F8}(h:SV s.1 s.2){l:List Ac}(hl:l.length<=40):Hb N s.1 s.2 l=some (If (C4 s l)):=by
 have ml:=h.2.len;unfold Hb;rw[fL hN _ (by omega),bS,aB h,A1 _ (by rfl),XP hN h.1 (by omega),bS];have:=Y3 hN h9 hl N 0 s (by omega) (by omega) h;rw[nL,tJ]at this;simp;rw[this,bS];have rl:=NF l s;generalize C4 s l=r at rl⊢;obtain⟨n,_|t⟩:=r
 ·simp only[If];rw[rB]
 ·have:=rl.2.1 rfl;subst this;rfl
theorem Q2{x:List (Int×Int×Int×Int×Int×Int)}(hx:I6 x)(s0:F8):∀n i (many:Nat) (l:List Ac) (s:F8),i<=8->8<n+i->SV s.1 s.2->l.length=i->(∀a∈l,FA a)->many=(C4 s0 l).1->(many=i->C4 s0 l=(i,some s))->∃(m':Nat)(l':List Ac),Db N x n (many:Int) (i:Nat) l s.1 s.2=some ((m':Int),l')/\l'.length<=8/\(∀a∈l',FA a)/\m'=(C4 s0 l').1
 |0,i,many,l,s,h1,h2,_,_,_,_,_=>by omega
 |n+1,i,many,l,s,h1,h2,h3,h4,h5,h6,h7=>by
  rw[Db];by_cases c:i<x.length/\i<8
  ·have hr:=hx _ (List.getElem_mem c.1);rw[Dq c.1,Ld,aB (p:=(i:Int)<8) (by omega),cT,M4,dO c.1,bS];generalize x[i]=r at hr;obtain⟨a,b,c1,d,e,g⟩:=r;simp only at hr⊢;have ml:=h3.2.len;obtain⟨f,ms⟩:=s;obtain⟨y,hy,fy⟩:=fT hN h3 hr.1 hr.2.1 hr.2.2.1 hr.2.2.2.1 hr.2.2.2.2.1 hr.2.2.2.2.2;have rl:=NF l s0;have f5:∀z∈l++[y],FA z:=by grind
   have ap:=Px l [y] s0;have no:many≠i->(C4 s0 (l++[y])).1=many:=by grind
   have yes:many=i->(C4 s0 (l++[y]))=(match Ig (f,ms) y with|none=>(i,none)|some t=>(i+1,some t)):=by grind[C4]
   obtain⟨x1,⟨x2,x3,x4,x5,x6,x7⟩,x8,x9,x10,⟨x11,x12,x13,x14,x15⟩⟩:=y;have ll:(l++[(x1,(x2,x3,x4,x5,x6,x7),x8,x9,x10,(x11,x12,x13,x14,x15))]).length=i+1:=by simp[h4]
   rw[hy,bS];simp only;rw[Ae (by omega),qG hN _ _ _ _ _ _ _ _ _ _ _ _ _ _ h9 (show ms.length<=1000 by have:ms.length<=20:=ml;omega),bS];cases cs:Ig (f,ms) (x1,(x2,x3,x4,x5,x6,x7),x8,x9,x10,x11,x12,x13,x14,x15)with
   |none=>
    simp only[IM];rw[A1 _ (by simp),Ae (by omega),<-ns];refine Q2 hx s0 n (i+1) many _ (f,ms) (by omega) (by omega) h3 ll f5 ?_ (λhe=>by omega);by_cases he:many=i
    ·rw[yes he,cs];exact he
    ·exact(no he).symm
   |some t=>
    simp only[IM];have ht:=(Vj cs).2.2.2;rw[AU _ (by simp)];by_cases he:many=i
    ·rw[AU _ (by simp;omega),Ae (by omega),Ae (by omega),<-ns,<-ns];exact Q2 hx s0 n (i+1) (many+1) _ t (by omega) (by omega) ht ll f5 (by rw[yes he,cs,he]) (λ_=>by rw[yes he,cs])
    ·rw[A1 _ (by simp;omega),Ae (by omega),<-ns];exact Q2 hx s0 n (i+1) many _ t (by omega) (by omega) ht ll f5 (no he).symm (λh=>by omega)
  grind
theorem AbC{x1:List (Int×Int×Int×Int×Int×Int)}{x2:List (Int×Int×Int×Int)}{x3:List (Int×Int×Int×Int×Int×Int)}(h3:I6 x3){f:List Un}{ms:List Mk}(hm:Dp N x1 x2 x3=some (f,ms))(h:SV f ms):∃l:List Ac,GA N x1 x2 x3=some (l,((C4 (f,ms) l).1:Int))/\l.length<=8/\∀a∈l,FA a:=by obtain⟨m',l',e,h1,h2,h4⟩:=Q2 hN h9 h3 (f,ms) N 0 0 [] (f,ms) (by omega) (by omega) h rfl (by simp) (by rw[C4]) (λ_=>by rw[C4]);rw[nL]at e;refine⟨l',?_,h1,h2⟩;unfold GA;rw[hm,bS];simp;rw[e,bS,h4]
theorem nA{a b:List Mk}(hl:a.length=b.length)(h2:a.length<N):B9 N a b N 0=some (if a=b then .inl ()else .inr false):=by
 have F:=GK (L:=B9 N a b) (λk=>if Bi a k=Bi b k then none else some false) (λn k hk e=>?_) (λn k r hk e=>?_) (λn=>?_) N (by omega)
 ·rcases F with⟨e,h⟩|⟨j,r,hj,h,_,e⟩
  ·rw[e,dW];refine List.ext_getElem hl λk h1 h2=>?_
   all_goals simp_all[FJ]
  grind
 ·by_cases c:Bi a k=Bi b k
  ·rw[B9,Dq hk,cT,E7 hk,bS];simp only;rw[E7 (by omega),bS];rw[c,A1 _ (by simp),Ae (by omega),ns]
  grind
 ·by_cases c:Bi a k=Bi b k
  ·rw[dW c]at e;cases e
  ·rw[B9,Dq hk,cT,E7 hk,bS];simp only;rw[E7 (by omega),bS];grind
 simp[B9]
theorem Ac5{a:List Mk}(b:List Mk)(h2:a.length<N):D4 N a b=some (decide (a=b)):=by
 unfold D4;by_cases c:a.length=b.length
 ·rw[A1 _ (by simp;omega),nA hN h9 c h2,bS];grind
 ·rw[AU _ (by simp;omega),bJ λe=>c (by rw[e])]
theorem fU{s:F8}(h:SV s.1 s.2)(t:F8):CG N s.1 s.2 t.1 t.2=some (decide (s=t)):=by have fl:=h.1.len;have ml:=h.2.len;unfold CG;rw[AcI h9 t.1 (by omega) (λu hu=>by have:=h.1.shp u hu;omega),bS,Ac5 hN h9 t.2 (by omega),BR (by grind),oK];congr 1;grind
end
end
section
open Go
def Xe(P:Program)(S:Tab)(rid:Nat)(Q:AE->St->Prop):Nat->Nat->Option Nat->List AOp->Az->AV->St->Prop|0,i,d,post,e1=>AY S rid i d post e1 Q|n+1,i,d,post,e1=>λr s=>∃(j:Nat)(yo:AOp)(vc:Prop)(e2:Az)(h2:Hp)(f:Nat)(args:List AV)(fn:Func)(ac:AC)(rvs:List RV)(ntf:Nat),post[j]? =some yo/\Bg S (s.cnt+1) (100*rid+(i+1)) (post.take j) (BV d r e1) s.hp=some (vc,e2,h2)/\vc/\Ei e2 yo.g=some true/\EU e2 yo.k=some (f,args)/\P.funcs[f]? =some fn/\Du P fn=some (ac,rvs)/\fn.ntmps=ntf/\Dh P f/\args.length<=ntf/\∀hb,Ax (Ctx.fn P S ntf hb) ac (E3 rvs (Xe P S rid Q n (i+1+j) yo.d (post.drop (j+1)) e2) λv s=>Q (.p v) ⟨e2,s.hp,s.cnt⟩) ⟨BQ 0 args,h2,s.cnt+1⟩
theorem fJ{V:Ctx}(hΓ:V.OK){rid:Nat}{ops':Array Oper}{ops:List AOp}{Q:AE->St->Prop}(hx0:GZ V.P V.nt ops' ops'.toList=some ops)(e:Az)(U:Cf)(hG:V.G e U):∀(n i:Nat)(d:Option Nat)(e1:Az)(r:AV)(s:St)(Z:Cf)(a2:Act),Xe V.P V.S rid Q n i d (ops.drop (i+1)) e1 r s->i<ops.length->Evo U Z->Inv Z (BV d r e1) s.hp a2 V.nt V.hb->(∀m,Z.al m->m.2<=s.cnt)->(∀t,V.nt<=t->lk (BV d r e1) t=lk e t)->wpOpsIn V.F 0 V.P ops' (lift V U Q) (List.range' (i+1) (ops'.toList.drop (i+1)).length) a2 Z.w
 |0,i,d,e1,r,s,Z,a2,h,hi,ev,hI,hal,hfar=>by obtain⟨vc2,e2,h2,q1,q2,q3⟩:=h;obtain⟨c1,c2⟩:=C9 hx0;have hsz:ops.length=ops'.size:=c1.trans (by simp);obtain⟨_,t3⟩:=CE (i+1) hx0;exact G7 hΓ (ops:=ops') (Q:=Q) (cnt:=s.cnt) (100*rid) e U hG (ops'.toList.drop (i+1)) (i+1) (ops.drop (i+1)) Z _ _ _ _ _ vc2 hfar (λj=>by simp) (by simp;omega) t3 q1 q2 ev hI (λm hm=>.inl (hal m hm)) q3
 |n+1,i,d,e1,r,s,Z,a2,h,hi,ev,hI,hal,hfar=>by
  obtain⟨j,yo,vc,e2,h2,f,args,fn,ac,rvs,ntf,hyo,hex,hvc,hg,hca,hf,hcf,hnt,hok,hn,hbody⟩:=h;obtain⟨c1,c2⟩:=C9 hx0;have hsz:ops.length=ops'.size:=c1.trans (by simp);obtain⟨_,t3⟩:=CE (i+1) hx0;obtain⟨t4,_⟩:=CE j t3;rw[Iw]at hyo;have hp:i+1+j<ops.length:=(jW.1 hyo).1;have hp':i+1+j<ops'.size:=by omega
  have ho:ops'[i+1+j]? =some ops'[i+1+j]:=iW hp';obtain⟨yo',g1,g2⟩:=c2 (i+1+j) ops'[i+1+j] (by simp);rw[hyo]at g1;cases g1
  have hr:List.range' (i+1) (ops'.toList.drop (i+1)).length=List.range' (i+1) ((ops'.toList.drop (i+1)).take j).length++((i+1+j)::List.range' (i+1+j+1) (ops'.toList.drop (i+1+j+1)).length):=by
   have e1:((ops'.toList.drop (i+1)).take j).length=j:=by simp;omega
   have e2:(ops'.toList.drop (i+1)).length=ops'.size-(i+1):=by simp
   have e3:(ops'.toList.drop (i+1+j+1)).length=ops'.size-(i+1+j+1):=by simp
   rw[e1,e2,e3,<-z9];have:=List.range'_append_1 (s:=i+1) (m:=j) (n:=ops'.size-(i+1+j+1)+1);rw[this];congr 1;omega
  rw[hr];refine F6 hΓ (cnt:=s.cnt) (100*rid) e _ ((ops'.toList.drop (i+1)).take j) (i+1) ((ops.drop (i+1)).take j) Z _ e2 _ h2 a2 vc hfar (λk hk=>?_) t4 hex hvc hI (λm hm=>.inl (hal m hm)) λa1 σ1 ev1 hI1 hal1 hfar1=>?_
  ·have:k<j:=by simp at hk;omega
   simp[w5,this]
  rw[wpOpsIn_cons];unfold wpOpIn;simp only[ho];obtain⟨hno,k4,k3,vals,hv,hrun⟩:=La hI1 g2 hok hca;have hw:=D6 hI1.t k4 hg;simp only[hw,if_true];refine⟨λf _=>hΓ.F.fn f,?_⟩;rw[Oper.semAt_eq _ a1.eval _ hno,hrun];refine⟨λh=>by simp[hΓ.F.depth]at h,hΓ.F.calls ((callsIn_wide.1 (NV hΓ.S hf hcf hnt hn hI1.df.gl hI1.h (cnt:=s.cnt+1) (λm hm=>by rcases hal1 m hm with h|h<;>omega) hv (hbody _))).mono ?_)⟩;rintro en w' (⟨v,τ2,s2,r2,rfl,rfl,evτ,hτ,alτ,rv,hK⟩|⟨v,τ2,s2,rfl,rfl,evτ,hτ,alτ,hq⟩)
  rotate_left
  ·exact⟨τ2,⟨e2,s2.hp,s2.cnt⟩,_,rfl,V.ofE ((ev.trans ev1).trans evτ),⟨⟨hτ,hI1.t.mono evτ,hI1.sz,hI1.df.mono evτ⟩,alτ,V.g hG ((ev.trans ev1).trans evτ) λt ht=>.inr (hfar1 t ht)⟩,rfl,hq⟩
  have hd:∀k,ops'[i+1+j].dst=some k->k<a1.tmps.size:=by rw[k3];intro d hd;rw[hI1.sz];exact DA g2 d hd
  have hI2:Inv τ2 (BV yo.d r2 e2) s2.hp (a1.put ops'[i+1+j].dst v) V.nt V.hb:=by rw[<-k3];exact⟨hτ,(hI1.t.mono evτ).put hd rv,by rw[Act.size_put];exact hI1.sz,by rw[Act.defers_put,Ee (λd hd=>DA g2 d (k3▸hd)) (show V.nt<=dk V.nt from Kj _ _)];exact hI1.df.mono evτ⟩
  rw[w7,show i+1+(j+1)=i+1+j+1 by omega]at hK;exact fJ hΓ hx0 e U hG n (i+1+j) yo.d e2 r2 s2 τ2 _ hK hp ((ev.trans ev1).trans evτ) hI2 alτ (λt ht=>(Ee (DA g2) ht).trans (hfar1 t ht))
theorem uJ{V:Ctx}(hΓ:V.OK)(n i:Nat){rid:Nat}{ops:List AOp}{yo:AOp}{Q:AE->St->Prop}{e e1:Az}{h h1:Hp}{c:Nat}{vc:Prop}{f:Nat}{args:List AV}{fn:Func}{ac:AC}{rvs:List RV}{ntf:Nat}(hf:V.P.funcs[f]? =some fn)(hcf:Du V.P fn=some (ac,rvs))(hnt:fn.ntmps=ntf)(hok:Dh V.P f)(hyo:ops[i]? =some yo)(hex:Bg V.S (c+1) (100*rid) (ops.take i) e h=some (vc,e1,h1))(hvc:vc)(hg:Ei e1 yo.g=some true)(hca:EU e1 yo.k=some (f,args))(hn:args.length<=ntf)(hbody:∀hb,Ax (Ctx.fn V.P V.S ntf hb) ac (E3 rvs (Xe V.P V.S rid Q n i yo.d (ops.drop (i+1)) e1) λv s=>Q (.p v) ⟨e1,s.hp,s.cnt⟩) ⟨BQ 0 args,h1,c+1⟩):Ax V (.reg rid ops) Q ⟨e,h,c⟩:=by
 intro code hc U a hA;cases code with
 |region id ops' d=>
  simp only[cCode]at hc;obtain⟨l0,hx0,⟨rfl,e0⟩|⟨_,_,_,_,e0⟩⟩:=Cc hc
  ·cases e0
   refine wpIn_region ?_;obtain⟨c1,c2⟩:=C9 hx0;obtain⟨t1,t2⟩:=CE i hx0;have hi:i<ops.length:=(jW.1 hyo).1;have hsz:ops.length=ops'.size:=c1.trans (by simp);have hi':i<ops'.size:=by omega
   have ho:ops'[i]? =some ops'[i]:=iW hi';obtain⟨yo',g1,g2⟩:=c2 i ops'[i] (by simp);rw[hyo]at g1;cases g1
   have hr:List.range ops'.size=List.range' 0 (ops'.toList.take i).length++(i::List.range' (i+1) (ops'.toList.drop (i+1)).length):=by
    have e1:(ops'.toList.take i).length=i:=by simp;omega
    have e2:(ops'.toList.drop (i+1)).length=ops'.size-(i+1):=by simp
    rw[e1,e2,y7,<-z9];have:=List.range'_append_1 (s:=0) (m:=i) (n:=ops'.size-(i+1)+1);rw[rB]at this;rw[this];congr 1;omega
   rw[hr];refine F6 hΓ (cnt:=c) (100*rid) e _ (ops'.toList.take i) 0 (ops.take i) U e e1 h h1 a vc (λ_ _=>rfl) (λj hj=>?_) t1 hex hvc hA.1 (λm hm=>.inl (hA.2.1 m hm)) λa1 σ1 ev1 hI1 hal1 hfar1=>?_
   ·have:j<i:=by simp at hj;omega
    simp[w5,this]
   rw[wpOpsIn_cons];unfold wpOpIn;simp only[ho];obtain⟨hno,k4,k3,vals,hv,hrun⟩:=La hI1 g2 hok hca;have hw:=D6 hI1.t k4 hg;simp only[hw,if_true];refine⟨λf _=>hΓ.F.fn f,?_⟩;rw[Oper.semAt_eq _ a1.eval _ hno,hrun];refine⟨λh=>by simp[hΓ.F.depth]at h,hΓ.F.calls ((callsIn_wide.1 (NV hΓ.S hf hcf hnt hn hI1.df.gl hI1.h (cnt:=c+1) (λm hm=>by rcases hal1 m hm with h|h<;>omega) hv (hbody _))).mono ?_)⟩;rintro en w' (⟨v,Z,s,r,rfl,rfl,evτ,hτ,alτ,rv,hK⟩|⟨v,Z,s,rfl,rfl,evτ,hτ,alτ,hq⟩)
   rotate_left
   ·exact⟨Z,⟨e1,s.hp,s.cnt⟩,_,rfl,V.ofE (ev1.trans evτ),⟨⟨hτ,hI1.t.mono evτ,hI1.sz,hI1.df.mono evτ⟩,alτ,V.g hA.2.2 (ev1.trans evτ) λt ht=>.inr (hfar1 t ht)⟩,rfl,hq⟩
   have hd:∀k,ops'[i].dst=some k->k<a1.tmps.size:=by rw[k3];intro d hd;rw[hI1.sz];exact DA g2 d hd
   have hI2:Inv Z (BV yo.d r e1) s.hp (a1.put ops'[i].dst v) V.nt V.hb:=by rw[<-k3];exact⟨hτ,(hI1.t.mono evτ).put hd rv,by rw[Act.size_put];exact hI1.sz,by rw[Act.defers_put,Ee (λd hd=>DA g2 d (k3▸hd)) (show V.nt<=dk V.nt from Kj _ _)];exact hI1.df.mono evτ⟩
   exact fJ hΓ hx0 e U hA.2.2 n i yo.d e1 r s Z _ hK hi (ev1.trans evτ) hI2 alτ (λt ht=>(Ee (DA g2) ht).trans (hfar1 t ht))
  ·cases e0
 |seq x y=>simp only[cCode]at hc;split at hc<;>simp at hc
 |cond c x y=>simp only[cCode]at hc;split at hc<;>simp at hc
 |rangeFunc f ps x y=>simp only[cCode]at hc;split at hc<;>simp at hc
 |_=>simp[cCode]at hc
section
variable{P:Program}{S:Tab}
theorem Qr{nt hb:Nat}(hS:TabOK P S)(n i:Nat){rid:Nat}{ops post:List AOp}{d:Option Nat}{g:Option (Nat×Bool)}{k:AK}{Q:AE->St->Prop}{e e1:Az}{h h1:Hp}{c:Nat}{vc:Prop}{f:Nat}{args:List AV}{fn:Func}{ac:AC}{rvs:List RV}{ntf:Nat}(hf:P.funcs[f]? =some fn)(hcf:Du P fn=some (ac,rvs))(hnt:fn.ntmps=ntf)(hok:Dh P f)(hyo:ops[i]? =some ⟨d,g,k⟩)(hpost:ops.drop (i+1)=post)(hex:Bg S (c+1) (100*rid) (ops.take i) e h=some (vc,e1,h1))(hvc:vc)(hg:Ei e1 g=some true)(hca:EU e1 k=some (f,args))(hn:args.length<=ntf)(hbody:∀hb,Ax (Ctx.fn P S ntf hb) ac (E3 rvs (Xe P S rid Q (n+1) i d post e1) λv s=>Q (.p v) ⟨e1,s.hp,s.cnt⟩) ⟨BQ 0 args,h1,c+1⟩):Ax (Ctx.fd P S nt hb) (.reg rid ops) Q ⟨e,h,c⟩:=by subst hpost;exact uJ (Ctx.fd_ok hS) (n+1) i hf hcf hnt hok hyo hex hvc hg hca hn hbody
theorem Qs(n j:Nat){rid i:Nat}{d d2:Option Nat}{g2:Option (Nat×Bool)}{k2:AK}{post post2:List AOp}{Q:AE->St->Prop}{Kp:Value->St->Prop}{rvs:List RV}{e e1 e2:Az}{h h2:Hp}{c:Nat}{vc vc2:Prop}{xs args:List AV}{f:Nat}{fn:Func}{ac:AC}{rvs2:List RV}{ntf:Nat}(hf:P.funcs[f]? =some fn)(hcf:Du P fn=some (ac,rvs2))(hnt:fn.ntmps=ntf)(hok:Dh P f)(h1:DS e h rvs=some (vc,xs))(hv:vc)(hyo:post[j]? =some ⟨d2,g2,k2⟩)(hpost:post.drop (j+1)=post2)(hex:Bg S (c+1) (100*rid+(i+1)) (post.take j) (BV d (one xs) e1) h=some (vc2,e2,h2))(hvc:vc2)(hg:Ei e2 g2=some true)(hca:EU e2 k2=some (f,args))(hn:args.length<=ntf)(hbody:∀hb,Ax (Ctx.fn P S ntf hb) ac (E3 rvs2 (Xe P S rid Q (n+1) (i+1+j) d2 post2 e2) λv s=>Q (.p v) ⟨e2,s.hp,s.cnt⟩) ⟨BQ 0 args,h2,c+1⟩):E3 rvs (Xe P S rid Q (n+2) i d post e1) Kp .r ⟨e,h,c⟩:=by subst hpost;exact⟨vc,xs,h1,hv,j,_,vc2,e2,h2,f,args,fn,ac,rvs2,ntf,hyo,hex,hvc,hg,hca,hf,hcf,hnt,hok,hn,hbody⟩
theorem Xf(j:Nat){rid i:Nat}{d d2:Option Nat}{g2:Option (Nat×Bool)}{k2:AK}{post post2:List AOp}{Q:AE->St->Prop}{Kp:Value->St->Prop}{rvs:List RV}{e e1 e2:Az}{h h2:Hp}{c:Nat}{vc vc2:Prop}{xs args:List AV}{f:Nat}{fn:Func}{ac:AC}{rvs2:List RV}{ntf:Nat}(hf:P.funcs[f]? =some fn)(hcf:Du P fn=some (ac,rvs2))(hnt:fn.ntmps=ntf)(hok:Dh P f)(h1:DS e h rvs=some (vc,xs))(hv:vc)(hyo:post[j]? =some ⟨d2,g2,k2⟩)(hpost:post.drop (j+1)=post2)(hex:Bg S (c+1) (100*rid+(i+1)) (post.take j) (BV d (one xs) e1) h=some (vc2,e2,h2))(hvc:vc2)(hg:Ei e2 g2=some true)(hca:EU e2 k2=some (f,args))(hn:args.length<=ntf)(hbody:∀hb,Ax (Ctx.fn P S ntf hb) ac (E3 rvs2 (AY S rid (i+1+j) d2 post2 e2 Q) λv s=>Q (.p v) ⟨e2,s.hp,s.cnt⟩) ⟨BQ 0 args,h2,c+1⟩):E3 rvs (Xe P S rid Q 1 i d post e1) Kp .r ⟨e,h,c⟩:=by subst hpost;exact⟨vc,xs,h1,hv,j,_,vc2,e2,h2,f,args,fn,ac,rvs2,ntf,hyo,hex,hvc,hg,hca,hf,hcf,hnt,hok,hn,hbody⟩
end
end
open Go
attribute [local irreducible] Ax BO BB Bj BC Bk AY BD BK Cq
attribute [local irreducible] E3
abbrev AdV:AV:=.agg [.i 0,.i 0,.i 0,.i 0,BP [],.i 0,.i 0,.i 0,.i 0,.i 0,.i 0,.i 0,.i 0,.i 0,.b false]
theorem XD{S:Tab}(hS:TabOK Tryz.prog S){e:Az}{h:Hp}{c:Nat}(ek:lk e (dk 104)=.gd false (.clo (.func 74) [] [.box (1,1) 0,.box (2,1) 0]))(e2:lk e 2=.box (1,1) 0)(e3:lk e 3=.box (2,1) 0)(hh:(FP (hl h (.c (1,1) 0))&&FP (hl h (.c (1,1) 1))&&FP (hl h (.c (1,1) 2))&&FP (hl h (.c (1,1) 3))&&FP (hl h (.c (1,1) 4))&&FP (hl h (.c (1,1) 5))&&FP (hl h (.c (1,1) 6))&&FP (hl h (.c (1,1) 7))&&FP (hl h (.c (1,1) 8))&&FP (hl h (.c (1,1) 9))&&FP (hl h (.c (1,1) 10))&&FP (hl h (.c (1,1) 11))&&FP (hl h (.c (1,1) 12))&&FP (hl h (.c (1,1) 13))&&FP (hl h (.c (1,1) 14))&&FP (hl h (.c (2,1) 0)))=true):Q5 Tryz.prog S 104 [.c 2 15 true,.c 3 1 false] (.tup [AdV,.i 170]) (.p Qe) ⟨e,h,c⟩:=by simp only[nK,TD]at hh;obtain⟨⟨⟨⟨⟨⟨⟨⟨⟨⟨⟨⟨⟨⟨⟨⟨c0,h0,k0⟩,⟨c1,h1,k1⟩⟩,⟨c2,h2,k2⟩⟩,⟨c3,h3,k3⟩⟩,⟨c4,h4,k4⟩⟩,⟨c5,h5,k5⟩⟩,⟨c6,h6,k6⟩⟩,⟨c7,h7,k7⟩⟩,⟨c8,h8,k8⟩⟩,⟨c9,h9,k9⟩⟩,⟨c10,h10,k10⟩⟩,⟨c11,h11,k11⟩⟩,⟨c12,h12,k12⟩⟩,⟨c13,h13,k13⟩⟩,⟨c14,h14,k14⟩⟩,⟨c15,h15,k15⟩⟩:=hh;refine⟨_,_,ek,_,_,_,_,_,_,x74.hf,x74.hc,x74.hn,oL rfl,x74.ok,rfl,λhb2=>?_⟩;dsimp only[x74,Ah,Qe];have hOK2:=Ctx.fd_ok (nt:=16) (hb:=hb2) hS;have F:=fc e2 (fc e3 (fc h15 (fc k15 (fc h14 (fc k14 (fc h13 (fc k13 (fc h12 (fc k12 (fc h11 (fc k11 (fc h10 (fc k10 (fc h9 (fc k9 (fc h8 (fc k8 (fc h7 (fc k7 (fc h6 (fc k6 (fc h5 (fc k5 (fc h4 (fc k4 (fc h3 (fc k3 (fc h2 (fc k2 (fc h1 (fc k1 (fc h0 (fc k0 (f0))))))))))))))))))))))))))))))))));refine go hS F ?_;refine ct F ?_;refine go hS F ?_;refine Oi ⟨by simp only[go_sem,seval,F],?_⟩;exact⟨_,_,ev F,by simp only[go_sem,seval,F],by simp only[go_sem,seval,F],.ofD (by simp only[go_sem,seval,F]),rfl⟩
theorem Zu{S:Tab}(hS:TabOK Tryz.prog S){e:Az}{h:Hp}{c:Nat}{r:AV}{vc:Prop}{xs:List AV}(ek:lk e (dk 104)=.gd false (.clo (.func 74) [] [.box (1,1) 0,.box (2,1) 0]))(h1:DS e h [.c 2 15 true,.c 3 1 false]=some (vc,xs))(h2:vc)(h3:Gn h (one xs))(h4:HD (res h (one xs)) r)(h5:B2 r=true):Q5 Tryz.prog S 104 [.c 2 15 true,.c 3 1 false] r .r ⟨e,h,c⟩:=by refine .inr ⟨_,_,ek,_,_,_,_,_,_,x74.hf,x74.hc,x74.hn,oL rfl,x74.ok,rfl,λhb2=>?_⟩;dsimp only[x74,Ah];have hOK2:=Ctx.fd_ok (nt:=16) (hb:=hb2) hS;have F:=f0;refine go hS F ?_;refine cf F ?_;refine go hS F ?_;refine cf F ?_;refine go hS F ?_;refine Oi ⟨by simp only[go_sem,seval,F],?_⟩;exact⟨vc,xs,h1,h2,h3,.ofD h4,h5⟩
theorem Gk{S:Tab}{F G:Prop}{E:Type}{a r:E}(hS:TabOK Tryz.prog S)(f:F)(h:some a=some r)(t:TabOK Tryz.prog S->(r=a/\F)->G:=by
 intro hS f;refine dK ?_ (XD hS ?_ ?_ ?_ ?_)
 ·simp only[go_sem,seval,f]<;>eq_refl
 all_goals (simp only[go_sem,seval,f]<;>eq_refl)):G:=t hS ⟨(yJ h).symm,f⟩
theorem P9{S:Tab}{F G:Prop}{E:Type}{a r:E}(hS:TabOK Tryz.prog S)(f:F)(h:some a=some r)(t:TabOK Tryz.prog S->(r=a/\F)->G:=by
 intro hS f
 repeat' (first
  |(with_reducible (first|apply DD|apply EA|apply Eu|apply FL|apply DE|apply DF|apply GD|apply GE);(·(first|exact Ctx.fn_ok hS|exact Ctx.rd_ok hS|assumption|exact yT|exact Ctx.rdG_ok hS));iterate 2 (·(simp only[go_sem,seval,f]<;>eq_refl)))
  |with_reducible (first|apply Dz|apply En|apply Di|apply Dj|apply CX|apply Cw|apply CK|apply DW|apply Ec|apply Eo|apply Ep|apply Er|apply Es)
  |(with_reducible apply Et;(·first|rfl|decide))
  |(with_reducible apply A4;(·simp))
  |with_reducible (first|apply HV|apply HW|apply HX|apply DB|apply DC|apply Ex|apply Ey|apply Ez|apply yT|apply And.intro yT yT)
  |(fail_if_success with_reducible apply G1);(fail_if_success with_reducible apply Ew);first|with_reducible apply And.intro|omega|(simp only[go_sem,seval,f];done)|with_reducible assumption|(refine And.intro ?_ ?_)|(intro hg;simp_all;done)|decide|grind)
 refine Zu hS (by simp only[go_sem,seval,f]<;>eq_refl) (by simp only[go_sem,seval,f]<;>eq_refl) (by simp only[go_sem,seval,f]) (by simp only[go_sem,seval,f]) ?_ rfl
 first|(simp only[go_sem,seval,f];done)|(simp[f,HD,Ib,Hk,HS,wk];done)):G:=t hS ⟨(yJ h).symm,f⟩
