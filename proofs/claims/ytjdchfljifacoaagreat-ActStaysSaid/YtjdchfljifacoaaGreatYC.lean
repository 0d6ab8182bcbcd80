import Derived.Test.YtjdchfljifacoaaGreatY7
set_option linter.all false
set_option maxRecDepth 100000
set_option maxHeartbeats 8000000
namespace Go.Proofs.YtjdchfljifacoaaGreat.Am
section
open Go
attribute [local irreducible] Ax BO BB Bj BC Bk AY BD BK Cq
end
section
section
variable{N:Nat}(hN:1001<=N)(h9:N<=100000)
include hN h9
theorem Adl(l:List Int)(hl:l.length<=1000)(t:Int):Ke N l t=some (decide (t∈l)):=by
 unfold Ke;have F:=GK (L:=FM N l t) (len:=l.length) (λk=>if l.getD k 0=t then some true else none) (λn k hk e=>?_) (λn k r hk e=>?_) (λn=>?_) N (by omega)
 ·rcases F with⟨e,h⟩|⟨j,r,hj,h,_,e⟩
  ·rw[e,bS];simp only;rw[bJ];intro hm;obtain⟨k,hk,rfl⟩:=List.mem_iff_getElem.1 hm;have:=h k hk;rw[fU (by rw[dQ,dY hk];rfl)]at this;cases this
  ·rw[e,bS];by_cases c:l.getD j 0=t
   ·rw[fU c]at h;cases h
    simp only;rw[aB];rw[<-c,dQ,dY hj];exact Gt hj
   ·rw[eG c]at h;cases h
 ·have c:¬l.getD k 0=t:=λc=>by rw[fU c]at e;cases e
  rw[FM,Dq hk,cT,Ou 0 (by omega) (by omega),bS,t9,bJ c,cF,Ae (by unfold Af;omega),ns]
 ·by_cases c:l.getD k 0=t
  ·rw[fU c]at e;cases e
   rw[FM,Dq hk,cT,Ou 0 (by omega) (by omega),bS,t9,aB c,cT]
  ·rw[eG c]at e;cases e
 ·rw[FM,F2,cF]
end
theorem Afi(a:Ac):(Qu a).1.length<=2/\(Qu a).2.length<=2:=by
 unfold Qu
 repeat' split
 all_goals simp
end
section
open Go
attribute [local irreducible] Ax BO BB Bj BC Bk AY BD BK Cq
def Ac9(N:Nat)(s164:List (Int×Int×Int×(List (Int×Int))×Int×Int))(r182:List (Int×Int×Int×(List (Int×Int))×Int×Int))(am:List Int):Nat->Int->Option (Sum Unit Bool)|0,_=>none|n+1,av=>bif decide (av<(s164.length:Int))then((A7 s164 av).bind λ(aw,Ag0,Ag1,x214,Ag2,Ag3)=>(Dk N r182 aw).bind λ((bm,bl,bj,bi,bh,bg),bf)=>(Ke N am aw).bind λcr=>gd ((!(!bf))=true->((C2 N aw Ag0 Ag1 x214 Ag2 Ag3 bm bl bj bi bh bg).isSome=true))<|bif (!cr)&&((!bf)||(!((C2 N aw Ag0 Ag1 x214 Ag2 Ag3 bm bl bj bi bh bg).getD false)))then(some (.inr false))else(gd (Af (av+1))<|Ac9 N s164 r182 am n (av+1)))else(some (.inl ()))
def Adb(N:Nat)(r182:List (Int×Int×Int×(List (Int×Int))×Int×Int))(s164:List (Int×Int×Int×(List (Int×Int))×Int×Int))(am:List Int):Nat->Int->Option (Sum Unit Bool)|0,_=>none|n+1,au=>bif decide (au<(r182.length:Int))then((A7 r182 au).bind λ(be,ee,d9,x256,d8,d7)=>(Dk N s164 be).bind λ((fh,fg,e9,e8,ez,eu),cq)=>(Ke N am be).bind λco=>bif (!co)&&(!cq)then(some (.inr false))else(gd (Af (au+1))<|Adb N r182 s164 am n (au+1)))else(some (.inl ()))
def Abp(N:Nat)(ai:List (Int×Int×Int×Int×Bool))(aj:List (Int×Int×Int×Int×Bool))(an:List Int)(x166:Int)(x173:Int):Nat->Int->Option (Sum Unit Bool)|0,_=>none|n+1,af=>bif decide (af<=99)then((Mf N ai af).bind λ((cn,r295,ck,cj,ci),bb)=>(Mf N aj af).bind λ((ce,b9,b7,bz,bw),ba)=>(Ke N an af).bind λbv=>bif bv then(gd (Af (af+1))<|Abp N ai aj an x166 x173 n (af+1))else(bif (((!bb)&&ba)||(bb&&(ba==(((decide (x166=2))||(decide (x166=3)))&&(decide (r295=x173))))))||((bb&&ba)&&(!(decide (cn=ce)&&(decide (r295=b9)&&(decide (ck=b7)&&(decide (cj=bz)&&(ci==bw)))))))then(some (.inr false))else(gd (Af (af+1))<|Abp N ai aj an x166 x173 n (af+1))))else(some (.inl ()))
def Ac8(N:Nat)(r9:List (Int×(Int×Int×Int×(List (Int×Int))×Int×Int)×Int×Int×Int×(Int×Int×Int×Int×Bool))):Nat->Int->(List (Int×Int×Int×(List (Int×Int))×Int×Int))->(List (Int×Int×Int×Int×Bool))->Option (Sum Unit Bool)|0,_,_,_=>none|n+1,ak,s164,ai=>bif decide (ak<(r9.length:Int))then((A7 r9 ak).bind λ(x166,(x167,az,x169,x170,x171,x172),x173,x174,x175,(ay,Ada,x178,x179,x180))=>(CZ N s164 ai x166 x167 az x169 x170 x171 x172 x173 x174 x175 ay Ada x178 x179 x180).bind λ((r182,aj),cu)=>bif decide (cu≠0)then(gd (Af (ak+1))<|Ac8 N r9 n (ak+1) s164 ai)else((Kk N x166 x167 az x169 x170 x171 x172 x173 x174 x175 ay Ada x178 x179 x180).bind λ(am,an)=>(Dw N r182 aj).bind λbn=>gd ((!(!bn))=true->((BF N x166 x167 az x169 x170 x171 x172 x173 x174 x175 ay Ada x178 x179 x180).isSome=true))<|bif (!bn)||(!((BF N x166 x167 az x169 x170 x171 x172 x173 x174 x175 ay Ada x178 x179 x180).getD false))then(some (.inr false))else((Ac9 N s164 r182 am N 0).bind λbr=>match br with|.inl ()=>((Adb N r182 s164 am N 0).bind λbq=>match bq with|.inl ()=>((Abp N ai aj an x166 x173 N 0).bind λbp=>match bp with|.inl ()=>(gd (Af (ak+1))<|Ac8 N r9 n (ak+1) r182 aj)|.inr ei=>(some (.inr ei)))|.inr ej=>(some (.inr ej)))|.inr fj=>(some (.inr fj)))))else(some (.inl ()))
def Adf(N:Nat)(x1:List (Int×Int×Int×Int×Int×Int))(x2:List (Int×Int×Int×Int))(x3:List (Int×Int×Int×Int×Int×Int)):Option Bool:=(H5 N).bind λr4=>bif !r4 then(some false)else((Dp N x1 x2 x3).bind λ(r6,r7)=>(GA N x1 x2 x3).bind λ(r9,gj)=>(Ac8 N r9 N 0 r6 r7).bind λbo=>match bo with|.inl ()=>(some true)|.inr eh=>(some eh))
theorem Aeq(N:Nat)(x1:List (Int×Int×Int×Int×Int×Int))(x2:List (Int×Int×Int×Int))(x3:List (Int×Int×Int×Int×Int×Int))(r:Bool)(h:Adf N x1 x2 x3=some r):PCall Tryz.prog 4 [.agg [GS x1,Ov x2,GS x3]] (.b r):=by
 refine wx x4 (Ab (Acu N)<|Ab (ZI N)<|Ab (Aco N)<|Ab (MW N)<|Ab (AcN N)<|Ab (ZG N)<|Ab (pX N)<|Ab (Zz N)<|Ab (AgG N)<|Ab (Zw N)<|Ab (AgH N)<|Aj) λ_ hS F=>?_
 dsimp only[x4,Ah];unfold Adf at h;obtain⟨r4,gw,h⟩:=un h;replace F:=fc gw F;refine An hS F h (λ_ h=>?_) (λ_ h=>?_)
 ·exact Ai hS F h
 ·obtain⟨⟨r6,r7⟩,gv,h⟩:=un h;obtain⟨⟨r9,gj⟩,fo,h⟩:=un h;replace F:=fc fo (fc gv F);obtain⟨bo,gz,h⟩:=un h;refine go hS F ?_;refine Bz bo (λz:Nat=>⟨[],[],z⟩) (λz=>(.inl ():Sum Unit Bool)) (.x 0) ?_ ?_
  ·refine Bp (λn (y:Int×(List (Int×Int×Int×(List (Int×Int))×Int×Int))×(List (Int×Int×Int×Int×Bool))×Nat)=>Ac8 N r9 n y.1 y.2.1 y.2.2.1) (λy=>⟨[(3,.box (302,3) 0),(4,Ay r9),(6,.i y.1)],[(.c (302,3) 0,Ap y.2.1),(.c (302,3) 1,AS y.2.2.1)],y.2.2.2⟩) (0,r6,r7,5) gz (Ch F) ?_;rintro n ⟨ak,s164,ai,ab⟩ ah;simp only[Ac8]at ah;refine An hS F ah (λ_ ah=>?_) (λ_ ah=>?_)
   ·obtain⟨⟨x166,⟨x167,az,x169,x170,x171,x172⟩,x173,x174,x175,⟨ay,Ada,x178,x179,x180⟩⟩,dz,ah⟩:=un ah;obtain⟨gi,F⟩:=Cb AB dz F;obtain⟨⟨⟨r182,aj⟩,cu⟩,dt,ah⟩:=un ah;replace F:=fc dt F;refine An hS F ah (λ_ ah=>?_) (λ_ ah=>?_)
    ·obtain⟨ig,ah⟩:=un ah;exact Cd hS F (n,ak+1,s164,ai,ab+1+1+1+1) ah
    ·obtain⟨⟨am,an⟩,dq,ah⟩:=un ah;obtain⟨bn,dm,ic,ah⟩:=un ah;replace F:=fc dm (fc dq F);refine An hS F ah (λ_ ah=>?_) (λ_ ah=>?_)
     ·obtain rfl:=yJ ah;exact Ai hS F h
     ·obtain⟨br,gy,ah⟩:=un ah;refine go hS F ?_;refine Bz br (λz:Nat=>⟨[(3,.box (302,3) 0),(4,Ay r9),(6,.i ak),(7,.box (809,ab+1+1) 0),(9,FW am),(10,FW an)],[(.c (809,ab+1+1) 0,Ap r182),(.c (809,ab+1+1) 1,AS aj),(.c (302,3) 0,Ap s164),(.c (302,3) 1,AS ai)],z⟩) (λz=>(.inl ():Sum Unit Bool)) (.x 2) ?_ ?_
      ·refine Bp (λn (y:Int×Nat)=>Ac9 N s164 r182 am n y.1) (λy=>⟨[(3,.box (302,3) 0),(4,Ay r9),(6,.i ak),(7,.box (809,ab+1+1) 0),(9,FW am),(10,FW an),(11,.i y.1)],[(.c (809,ab+1+1) 0,Ap r182),(.c (809,ab+1+1) 1,AS aj),(.c (302,3) 0,Ap s164),(.c (302,3) 1,AS ai)],y.2⟩) (0,ab+1+1+1+1+1+1) gy (Ch F) ?_;rintro n ⟨av,d6⟩ aq;simp only[Ac9]at aq;refine An hS F aq (λ_ aq=>?_) (λ_ aq=>?_)
       ·obtain⟨⟨aw,Ag0,Ag1,x214,Ag2,Ag3⟩,dw,aq⟩:=un aq;obtain⟨gh,F⟩:=Cb Au dw F;obtain⟨⟨⟨bm,bl,bj,bi,bh,bg⟩,bf⟩,dl,aq⟩:=un aq;obtain⟨cr,dh,ib,aq⟩:=un aq;replace F:=fc dh (fc dl F);refine An hS F aq (λ_ aq=>?_) (λ_ aq=>?_)
        ·obtain rfl:=yJ aq;obtain rfl:=yJ ah;exact Ai hS F h
        ·obtain⟨g9,aq⟩:=un aq;exact Cd hS F (n,av+1,d6+1+1+1+1+1) aq
       ·exact B4 hS F (d6+1) aq
      ·rintro gc rfl;obtain⟨bq,gx,ah⟩:=un ah;refine go hS F ?_;refine Bz bq (λz:Nat=>⟨[(3,.box (302,3) 0),(4,Ay r9),(6,.i ak),(7,.box (809,ab+1+1) 0),(10,FW an)],[(.c (809,ab+1+1) 0,Ap r182),(.c (809,ab+1+1) 1,AS aj),(.c (302,3) 0,Ap s164),(.c (302,3) 1,AS ai)],z⟩) (λz=>(.inl ():Sum Unit Bool)) (.x 4) ?_ ?_
       ·refine Bp (λn (y:Int×Nat)=>Adb N r182 s164 am n y.1) (λy=>⟨[(3,.box (302,3) 0),(4,Ay r9),(6,.i ak),(7,.box (809,ab+1+1) 0),(9,FW am),(10,FW an),(15,.i y.1)],[(.c (809,ab+1+1) 0,Ap r182),(.c (809,ab+1+1) 1,AS aj),(.c (302,3) 0,Ap s164),(.c (302,3) 1,AS ai)],y.2⟩) (0,gc+1) gx (Ch F) ?_;rintro n ⟨au,d5⟩ ae;simp only[Adb]at ae;refine An hS F ae (λ_ ae=>?_) (λ_ ae=>?_)
        ·obtain⟨⟨be,ee,d9,x256,d8,d7⟩,du,ae⟩:=un ae;obtain⟨gg,F⟩:=Cb Au du F;obtain⟨⟨⟨fh,fg,e9,e8,ez,eu⟩,cq⟩,dg,ae⟩:=un ae;obtain⟨co,de,ae⟩:=un ae;replace F:=fc de (fc dg F);refine An hS F ae (λ_ ae=>?_) (λ_ ae=>?_)
         ·obtain rfl:=yJ ae;obtain rfl:=yJ ah;exact Ai hS F h
         ·obtain⟨gu,ae⟩:=un ae;exact Cd hS F (n,au+1,d5+1+1+1+1+1) ae
        ·exact B4 hS F (d5+1) ae
       ·rintro fr rfl;obtain⟨bp,fp,ah⟩:=un ah;refine go hS F ?_;refine Bz bp (λz:Nat=>⟨[(3,.box (302,3) 0),(4,Ay r9),(6,.i ak),(7,.box (809,ab+1+1) 0)],[(.c (809,ab+1+1) 0,Ap r182),(.c (809,ab+1+1) 1,AS aj),(.c (302,3) 0,Ap s164),(.c (302,3) 1,AS ai)],z⟩) (λz=>(.inl ():Sum Unit Bool)) (.x 6) ?_ ?_
        ·refine Bp (λn (y:Int×Nat)=>Abp N ai aj an x166 x173 n y.1) (λy=>⟨[(3,.box (302,3) 0),(4,Ay r9),(6,.i ak),(7,.box (809,ab+1+1) 0),(10,FW an),(19,.i y.1)],[(.c (809,ab+1+1) 0,Ap r182),(.c (809,ab+1+1) 1,AS aj),(.c (302,3) 0,Ap s164),(.c (302,3) 1,AS ai)],y.2⟩) (0,fr+1) fp (Ch F) ?_;rintro n ⟨af,bu⟩ aa;simp only[Abp]at aa;refine An hS F aa (λ_ aa=>?_) (λ_ aa=>?_)
         ·obtain⟨⟨⟨cn,r295,ck,cj,ci⟩,bb⟩,db,aa⟩:=un aa;obtain⟨⟨⟨ce,b9,b7,bz,bw⟩,ba⟩,da,aa⟩:=un aa;obtain⟨bv,cy,aa⟩:=un aa;replace F:=fc cy (fc da (fc db F));refine An hS F aa (λ_ aa=>?_) (λ_ aa=>?_)
          ·obtain⟨gt,aa⟩:=un aa;exact Cd hS F (n,af+1,bu+1+1+1+1+1) aa
          ·refine An hS F aa (λ_ aa=>?_) (λ_ aa=>?_)
           ·obtain rfl:=yJ aa;obtain rfl:=yJ ah;exact Ai hS F h
           ·obtain⟨gr,aa⟩:=un aa;exact Cd hS F (n,af+1,bu+1+1+1+1+1+1+1) aa
         ·exact B4 hS F (bu+1) aa
        ·rintro fq rfl;obtain⟨gm,ah⟩:=un ah;exact Cd hS F (n,ak+1,r182,aj,fq+1+1) ah
   ·exact B4 hS F (ab+1) ah
  ·rintro g8 rfl;exact Ai hS F h
end
def fmS(ms:List Mk)(t:Int):Mk×Bool:=match ms.find? (λm=>decide (m.1=t))with|some m=>(m,true)|none=>(Xg,false)
theorem AfW{f:List Un}{ms:List Mk}(h:MV f ms)(t:Int):((∀m∈ms,m.1≠t)/\fmS ms t=(Xg,false))\/∃m∈ms,m.1=t/\fmS ms t=(m,true):=by
 unfold fmS;cases e:ms.find? (λm=>decide (m.1=t))with
 |none=>exact .inl ⟨λm hm e2=>by have:=List.find?_eq_none.1 e m hm;simp[e2]at this,rfl⟩
 |some m=>exact .inr ⟨m,List.mem_of_find?_eq_some e,by have:=List.find?_some e;simpa using this,rfl⟩
section
variable{N:Nat}(hN:1001<=N)(h9:N<=100000)
include hN h9
theorem Agb{f:List Un}{ms:List Mk}(hm:MV f ms)(t:Int):Mf N ms t=some (fmS ms t):=by
 have ml:=hm.len;unfold Mf fmS;have F:=GK (L:=GH N ms t) (len:=ms.length) (λk=>if(Bi ms k).1=t then some (Bi ms k,true)else none) (λn k hk e=>?_) (λn k r hk e=>?_) (λn=>?_) N (by omega)
 ·rcases F with⟨e,h⟩|⟨j,r,hj,h,_,e⟩
  ·rw[e,bS];simp only;rw[List.find?_eq_none.2 λm hm=>by obtain⟨k,hk,rfl⟩:=Ml hm;have:=h k hk;rw[bK];intro c;rw[fU c]at this;cases this];rfl
  ·rw[e,bS];by_cases c:(Bi ms j).1=t
   ·rw[fU c]at h;cases h
    simp only;cases q:ms.find? (λm=>decide (m.1=t))with
    |none=>have:=List.find?_eq_none.1 q _ (J5 hj);simp[c]at this
    |some m=>have q2:=List.find?_some q;rw[bK]at q2;rw[Afn hm (J5 hj) (List.mem_of_find?_eq_some q) (c.trans q2.symm)]
   ·rw[eG c]at h;cases h
 ·have c:¬(Bi ms k).1=t:=λc=>by rw[fU c]at e;cases e
  rw[GH,Dq hk,cT,E7 hk,bS];simp only;rw[bJ c,cF,Ae (by unfold Af;omega),ns]
 ·by_cases c:(Bi ms k).1=t
  ·rw[fU c]at e;cases e
   rw[GH,Dq hk,cT,E7 hk,bS];simp only;rw[aB c,cT]
  ·rw[eG c]at e;cases e
 ·rw[GH,F2,cF]
variable{s t:F8}{a:Ac}(e:Ig s a=some t)
include e
theorem Agc:∀n k,k<=s.1.length->s.1.length<n+k->Ac9 N s.1 t.1 (Qu a).1 n (k:Nat)=some (.inl ())
 |0,k,h1,h2=>by omega
 |n+1,k,h1,h2=>by
  obtain⟨hs,fa,e2,ht⟩:=Vj e;have fl:=hs.1.len;have nl:=Afi a;rw[Ac9];by_cases c:k<s.1.length
  ·rw[Dq c,cT,Fs c,bS];simp only;rw[S4 hN,bS];simp only;rw[Adl hN h9 _ (by omega),bS,kT (by have:=hs.1.lens _ (FH c);omega) h9,BR (λ_=>mU),qO,A1 _ ?_,Ae (by unfold Af;omega),<-ns]
   ·exact Agc n (k+1) (by omega) (by omega)
   ·by_cases m:(A2 s.1 k).1∈(Qu a).1
    ·rw[aB m];rfl
    ·have hm:A2 s.1 k∈t.1:=((Adm fa hs.1 e2).1 _).2 (.inl ⟨FH c,λr=>m (Afy fa r)⟩);have hf:Df t.1 (A2 s.1 k).1=(A2 s.1 k,true):=by have:=(Adk ht.1).2 ⟨hm,rfl⟩;unfold Df;rw[fU ht.1,this]
     rw[hf];simp
  ·have e3:k=s.1.length:=by omega
   rw[e3,F2,cF]
theorem Agd:∀n k,k<=t.1.length->t.1.length<n+k->Adb N t.1 s.1 (Qu a).1 n (k:Nat)=some (.inl ())
 |0,k,h1,h2=>by omega
 |n+1,k,h1,h2=>by
  obtain⟨hs,fa,e2,ht⟩:=Vj e;have fl:=ht.1.len;have nl:=Afi a;rw[Adb];by_cases c:k<t.1.length
  ·rw[Dq c,cT,Fs c,bS];simp only;rw[S4 hN,bS];simp only;rw[Adl hN h9 _ (by omega),bS,A1 _ ?_,Ae (by unfold Af;omega),<-ns]
   ·exact Agd n (k+1) (by omega) (by omega)
   ·by_cases m:(A2 t.1 k).1∈(Qu a).1
    ·rw[aB m];rfl
    ·have hm:A2 t.1 k∈s.1:=by
      rcases((Adm fa hs.1 e2).1 _).1 (FH c)with g|g
      ·exact g.1
      ·exact(m (AfT fa g)).elim
     have hf:Df s.1 (A2 t.1 k).1=(A2 t.1 k,true):=by have:=(Adk hs.1).2 ⟨hm,rfl⟩;unfold Df;rw[fU hs.1,this]
     rw[hf];simp
  ·have e3:k=t.1.length:=by omega
   rw[e3,F2,cF]
theorem Age:∀n (k:Nat),k<=100->100<n+k->Abp N s.2 t.2 (Qu a).2 a.1 a.2.2.1 n (k:Nat)=some (.inl ())
 |0,k,h1,h2=>by omega
 |n+1,k,h1,h2=>by
  obtain⟨hs,fa,e2,ht⟩:=Vj e;have nl:=Afi a;have em:=(Adm fa hs.1 e2).2;rw[Abp];by_cases c:k<=99
  ·rw[aB (p:=(k:Int)<=99) (by omega),cT,Agb hN h9 hs.2,bS];simp only;rw[Agb hN h9 ht.2,bS]
   (try simp only)
   rw[Adl hN h9 _ (by omega),bS,Ae (by unfold Af;omega),<-ns,Age n (k+1) (by omega) (by omega)];by_cases m:(k:Int)∈(Qu a).2
   ·rw[aB m,cT]
   ·rw[bJ m,cF,A1];have nMM:∀x,x.1=(k:Int)->¬Aiv a s.2 x:=λx hx g=>m (by rw[<-hx];exact AfU fa g)
    rcases AfW hs.2 (k:Int)with⟨q1,q2⟩|⟨x,hx,q1,q2⟩
    ·rcases AfW ht.2 (k:Int)with⟨g1,g2⟩|⟨y,hy,g1,g2⟩
     ·rw[q2,g2];rfl
     ·rcases(em y).1 hy with g|g
      ·exact(q1 y g.1 g1).elim
      ·exact(nMM y g1 g).elim
    ·have kp:Aiu a x↔¬((a.1=2\/a.1=3)/\x.2.1=a.2.2.1):=by
      unfold Aiu;constructor
      ·rintro⟨w,_⟩ ⟨w1,w2⟩;exact w w1 w2
      ·intro w;exact⟨λw1 w2=>w ⟨w1,w2⟩,λw1 w2=>m (by rw[<-q1,w2];exact Afs fa w1)⟩
     rcases AfW ht.2 (k:Int)with⟨g1,g2⟩|⟨y,hy,g1,g2⟩
     ·have nk:¬Aiu a x:=λw=>g1 x ((em x).2 (.inl ⟨hx,w⟩)) q1
      have gone:=Classical.not_not.1 (λw=>nk (kp.2 w));rw[q2,g2];simp[gone.2];omega
     ·have yx:y∈s.2/\Aiu a y:=by
       rcases(em y).1 hy with g|g
       ·exact g
       ·exact(nMM y g1 g).elim
      have exy:=Afn hs.2 hx yx.1 (q1.trans g1.symm);subst exy;have ng:=kp.1 yx.2;rw[q2,g2];simp;exact λw=>λw2=>ng ⟨w,w2⟩
  ·rw[bJ (p:=(k:Int)<=99) (by omega),cF]
end
section
variable{N:Nat}(hN:1001<=N)(h9:N<=100000)
include hN h9
theorem Afu{l:List Ac}(fl:∀a∈l,FA a):∀n k (s:F8),k<=l.length->l.length<n+k->l.length<=1000->SV s.1 s.2->Ac8 N l n (k:Nat) s.1 s.2=some (.inl ())
 |0,k,s,h1,h2,_,_=>by omega
 |n+1,k,s,h1,h2,h3,h=>by
  rw[Ac8];by_cases e:k<l.length
  ·have fx:=fl _ (Gt e);rw[Dq e,cT,Ac4 e,bS];generalize l[k]=x at fx;obtain⟨x1,⟨x2,x3,x4,x5,x6,x7⟩,x8,x9,x10,⟨eI,x12,x13,rI,Ud⟩⟩:=x;obtain⟨f,ms⟩:=s;have ml:ms.length<=20:=h.2.len;simp only;rw[AgW hN h9 _ _ _ _ _ _ _ _ _ _ _ _ _ _ (by omega),bS];cases c:Ig (f,ms) (x1,(x2,x3,x4,x5,x6,x7),x8,x9,x10,eI,x12,x13,rI,Ud)with
   |none=>simp only[IM];rw[AU _ (by simp),Ae (by unfold Af;omega),<-ns];exact Afu fl n (k+1) (f,ms) (by omega) (by omega) h3 h
   |some t=>
    have ht:=(Vj c).2.2.2;have fl1:f.length<=12:=h.1.len;have fl2:=ht.1.len;have s5:=Agc hN h9 c N 0 (by omega) (by simp only;omega);have s6:=Agd hN h9 c N 0 (by omega) (by omega);have s7:=Age hN h9 c N 0 (by omega) (by omega);rw[oL]at s5 s6 s7;simp only at s5 s7;simp only[IM];rw[A1 _ (by simp),Agy hN,bS]
    (try simp only)
    rw[fL hN _ (by have:=ht.2.len;omega),bS,Afa hN,BR (λ_=>mU),qO,aB ht,aB fx,A1 _ (by rfl),s5,bS];simp only;rw[s6,bS];simp only;rw[s7,bS];simp only;rw[Ae (by unfold Af;omega),<-ns];exact Afu fl n (k+1) t (by omega) (by omega) h3 ht
  ·have e3:k=l.length:=by omega
   subst e3;rw[F2,cF]
end
theorem AfY(x1:List (Int×Int×Int×Int×Int×Int))(x2:List (Int×Int×Int×Int))(x3:List (Int×Int×Int×Int×Int×Int))(h1:I6 x1)(h2:I4 x2)(h3:I6 x3):Adf 2000 x1 x2 x3=some true:=by
 have hN:1001<=2000:=by omega
 have h9:2000<=100000:=by omega
 obtain⟨f,ms,em,hs⟩:=AbA (N:=2000) hN x3 h1 h2;obtain⟨l,el,l8,fl⟩:=AbC (N:=2000) hN h9 h3 em hs;have u:=Afu (N:=2000) hN h9 (l:=l) fl 2000 0 (f,ms) (by omega) (by omega) (by omega) hs;rw[oL]at u;simp only at u;unfold Adf;rw[AbD,bS,A1 _ (by rfl),em,bS];simp only;rw[el,bS];simp only;rw[u,bS]
