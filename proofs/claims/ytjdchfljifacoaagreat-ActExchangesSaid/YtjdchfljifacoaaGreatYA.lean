import Derived.Test.YtjdchfljifacoaaGreatY7
import Derived.Test.YtjdchfljifacoaaGreatY9
set_option linter.all false
set_option maxRecDepth 100000
set_option maxHeartbeats 8000000
namespace Go.Proofs.YtjdchfljifacoaaGreat.Am
section
open Go
attribute [local irreducible] Ax BO BB Bj BC Bk AY BD BK Cq
def Abi(N:Nat)(r431:List (Int×(Int×Int×Int×(List (Int×Int))×Int×Int)×Int×Int×Int×(Int×Int×Int×Int×Bool))):Nat->Int->(List (Int×Int×Int×(List (Int×Int))×Int×Int))->(List (Int×Int×Int×Int×Bool))->Option (Sum ((List (Int×Int×Int×(List (Int×Int))×Int×Int))×(List (Int×Int×Int×Int×Bool))) Bool)|0,_,_,_=>none|n+1,da,dw,du=>bif (decide (da<(r431.length:Int)))&&(decide (da<3))then((A7 r431 da).bind λ(gt,(gr,gm,gj,gi,gh,gg),gc,fx,fr,(fq,fp,fo,fj,fh))=>(CZ N dw du gt gr gm gj gi gh gg gc fx fr fq fp fo fj fh).bind λ((eh,ee),gw)=>bif decide (gw≠0)then(some (.inr false))else(gd (Af (da+1))<|Abi N r431 n (da+1) eh ee))else(some (.inl (dw,du)))
def AaD(N:Nat)(r519:List Int)(cz:List Int):Nat->Int->Option (Sum Unit Bool)|0,_=>none|n+1,dh=>bif decide (dh<(r519.length:Int))then((A7 r519 dh).bind λfg=>(Ke N cz fg).bind λgv=>bif gv then(some (.inr true))else(gd (Af (dh+1))<|AaD N r519 cz n (dh+1)))else(some (.inl ()))
def AaE(N:Nat)(r520:List Int)(az:List Int):Nat->Int->Option (Sum Unit Bool)|0,_=>none|n+1,dg=>bif decide (dg<(r520.length:Int))then((A7 r520 dg).bind λe9=>(Ke N az e9).bind λgu=>bif gu then(some (.inr true))else(gd (Af (dg+1))<|AaE N r520 az n (dg+1)))else(some (.inl ()))
def Adc(N:Nat)(dt:List (Int×Int×Int×Int×Int×Int))(dq:List (Int×Int×Int×Int))(dm:List (Int×Int×Int×Int×Int×Int))(av:Int)(au:Int)(aq:Int)(an:Int)(am:Int)(ak:Int)(aj:Int)(ai:Int)(ah:Int)(af:Int)(ae:Int)(ab:Int):Option Bool:=(H5 N).bind λgx=>bif !gx then(some false)else((Dp N dt dq dm).bind λ(ej,ei)=>(Gt N dt dq dm).bind λr431=>(Abi N r431 N 0 ej ei).bind λe8=>match e8 with|.inl (ay,aw)=>((F5 N ay aw av au aq an am ak).bind λ(cu,(cr,cq,co,cn,ck,cj),ci,ce,b9,(b7,bz,bw,bv,bu))=>(F5 N ay aw aj ai ah af ae ab).bind λ(br,(bq,bp,bo,bn,bm,bl),bj,bi,bh,(bg,bf,be,bb,ba))=>(Kk N cu cr cq co cn ck cj ci ce b9 b7 bz bw bv bu).bind λ(r519,r520)=>(Kk N br bq bp bo bn bm bl bj bi bh bg bf be bb ba).bind λ(cz,az)=>(AaD N r519 cz N 0).bind λez=>match ez with|.inl ()=>((AaE N r520 az N 0).bind λeu=>match eu with|.inl ()=>((Hb N ay aw [(cu,(cr,cq,co,cn,ck,cj),ci,ce,b9,(b7,bz,bw,bv,bu)),(br,(bq,bp,bo,bn,bm,bl),bj,bi,bh,(bg,bf,be,bb,ba))]).bind λ((d9,d8),i6,d7)=>(Hb N ay aw [(br,(bq,bp,bo,bn,bm,bl),bj,bi,bh,(bg,bf,be,bb,ba)),(cu,(cr,cq,co,cn,ck,cj),ci,ce,b9,(b7,bz,bw,bv,bu))]).bind λ((d6,d5),i5,dz)=>gd ((!((decide (d7≠0))||(decide (dz≠0))))=true->((CG N d9 d8 d6 d5).isSome=true))<|some (((decide (d7≠0))||(decide (dz≠0)))||((CG N d9 d8 d6 d5).getD false)))|.inr i7=>(some i7))|.inr i8=>(some i8))|.inr i9=>(some i9))
theorem Ado(N:Nat)(dt:List (Int×Int×Int×Int×Int×Int))(dq:List (Int×Int×Int×Int))(dm:List (Int×Int×Int×Int×Int×Int))(av:Int)(au:Int)(aq:Int)(an:Int)(am:Int)(ak:Int)(aj:Int)(ai:Int)(ah:Int)(af:Int)(ae:Int)(ab:Int)(r:Bool)(h:Adc N dt dq dm av au aq an am ak aj ai ah af ae ab=some r):PCall Tryz.prog 6 [.agg [GS dt,Ov dq,GS dm],.agg [.i av,.i au,.i aq,.i an,.i am,.i ak],.agg [.i aj,.i ai,.i ah,.i af,.i ae,.i ab]] (.b r):=by
 refine wx x6 (Ab (Acu N)<|Ab (ZI N)<|Ab (AgL N)<|Ab (MW N)<|Ab (oF N)<|Ab (AcN N)<|Ab (AgG N)<|Ab (pY N)<|Ab (oC N)<|Aj) λ_ hS F=>?_
 dsimp only[x6,Ah];unfold Adc at h;obtain⟨gx,iq,h⟩:=un h;replace F:=fc iq F;refine An hS F h (λ_ h=>?_) (λ_ h=>?_)
 ·exact Ai hS F h
 ·obtain⟨⟨ej,ei⟩,ip,h⟩:=un h;obtain⟨r431,im,h⟩:=un h;replace F:=fc im (fc ip F);obtain⟨e8,jh,h⟩:=un h;refine go hS F ?_;refine Bz e8 (λz:(List (Int×Int×Int×(List (Int×Int))×Int×Int))×(List (Int×Int×Int×Int×Bool))×Nat=>⟨[(4,.box (1,1) 0),(5,.box (2,1) 0),(7,.box (302,3) 0)],[(.c (302,3) 0,Ap z.1),(.c (302,3) 1,AS z.2.1),(.c (2,1) 0,.i aj),(.c (2,1) 1,.i ai),(.c (2,1) 2,.i ah),(.c (2,1) 3,.i af),(.c (2,1) 4,.i ae),(.c (2,1) 5,.i ab),(.c (1,1) 0,.i av),(.c (1,1) 1,.i au),(.c (1,1) 2,.i aq),(.c (1,1) 3,.i an),(.c (1,1) 4,.i am),(.c (1,1) 5,.i ak)],z.2.2⟩) (λz=>(.inl (z.1,z.2.1):Sum ((List (Int×Int×Int×(List (Int×Int))×Int×Int))×(List (Int×Int×Int×Int×Bool))) Bool)) (.x 0) ?_ ?_
  ·refine Bp (λn (y:Int×(List (Int×Int×Int×(List (Int×Int))×Int×Int))×(List (Int×Int×Int×Int×Bool))×Nat)=>Abi N r431 n y.1 y.2.1 y.2.2.1) (λy=>⟨[(4,.box (1,1) 0),(5,.box (2,1) 0),(7,.box (302,3) 0),(8,Ay r431),(9,.i y.1)],[(.c (302,3) 0,Ap y.2.1),(.c (302,3) 1,AS y.2.2.1),(.c (2,1) 0,.i aj),(.c (2,1) 1,.i ai),(.c (2,1) 2,.i ah),(.c (2,1) 3,.i af),(.c (2,1) 4,.i ae),(.c (2,1) 5,.i ab),(.c (1,1) 0,.i av),(.c (1,1) 1,.i au),(.c (1,1) 2,.i aq),(.c (1,1) 3,.i an),(.c (1,1) 4,.i am),(.c (1,1) 5,.i ak)],y.2.2.2⟩) (0,ej,ei,5) jh (Ch F) ?_;rintro n ⟨da,dw,du,i4⟩ cy;simp only[Abi]at cy;refine An hS F cy (λ_ cy=>?_) (λ_ cy=>?_)
   ·obtain⟨⟨gt,⟨gr,gm,gj,gi,gh,gg⟩,gc,fx,fr,⟨fq,fp,fo,fj,fh⟩⟩,iw,cy⟩:=un cy;obtain⟨jd,F⟩:=Cb AB iw F;obtain⟨⟨⟨eh,ee⟩,gw⟩,ij,cy⟩:=un cy;replace F:=fc ij F;refine An hS F cy (λ_ cy=>?_) (λ_ cy=>?_)
    ·obtain rfl:=yJ cy;exact Ai hS F h
    ·obtain⟨jl,cy⟩:=un cy;exact Cd hS F (n,da+1,eh,ee,i4+1+1+1+1+1) cy
   ·exact B4 hS F (dw,du,i4+1) cy
  ·rintro⟨ay,aw,aa⟩ rfl;obtain⟨⟨cu,⟨cr,cq,co,cn,ck,cj⟩,ci,ce,b9,⟨b7,bz,bw,bv,bu⟩⟩,ii,h⟩:=un h;obtain⟨⟨br,⟨bq,bp,bo,bn,bm,bl⟩,bj,bi,bh,⟨bg,bf,be,bb,ba⟩⟩,ig,h⟩:=un h;obtain⟨⟨r519,r520⟩,ic,h⟩:=un h;obtain⟨⟨cz,az⟩,ib,h⟩:=un h;replace F:=fc ib (fc ic (fc ig (fc ii F)));obtain⟨ez,jg,h⟩:=un h;refine go hS F ?_;refine Bz ez (λz:Nat=>⟨[(7,.box (302,3) 0),(12,.box (1203,aa+1) 0),(13,.box (1303,aa+1+1) 0),(15,FW r520),(17,FW az)],[(.c (1303,aa+1+1) 0,.i br),(.c (1303,aa+1+1) 1,.i bq),(.c (1303,aa+1+1) 2,.i bp),(.c (1303,aa+1+1) 3,.i bo),(.c (1303,aa+1+1) 4,BP bn),(.c (1303,aa+1+1) 5,.i bm),(.c (1303,aa+1+1) 6,.i bl),(.c (1303,aa+1+1) 7,.i bj),(.c (1303,aa+1+1) 8,.i bi),(.c (1303,aa+1+1) 9,.i bh),(.c (1303,aa+1+1) 10,.i bg),(.c (1303,aa+1+1) 11,.i bf),(.c (1303,aa+1+1) 12,.i be),(.c (1303,aa+1+1) 13,.i bb),(.c (1303,aa+1+1) 14,.b ba),(.c (1203,aa+1) 0,.i cu),(.c (1203,aa+1) 1,.i cr),(.c (1203,aa+1) 2,.i cq),(.c (1203,aa+1) 3,.i co),(.c (1203,aa+1) 4,BP cn),(.c (1203,aa+1) 5,.i ck),(.c (1203,aa+1) 6,.i cj),(.c (1203,aa+1) 7,.i ci),(.c (1203,aa+1) 8,.i ce),(.c (1203,aa+1) 9,.i b9),(.c (1203,aa+1) 10,.i b7),(.c (1203,aa+1) 11,.i bz),(.c (1203,aa+1) 12,.i bw),(.c (1203,aa+1) 13,.i bv),(.c (1203,aa+1) 14,.b bu),(.c (302,3) 0,Ap ay),(.c (302,3) 1,AS aw)],z⟩) (λz=>(.inl ():Sum Unit Bool)) (.x 2) ?_ ?_
   ·refine Bp (λn (y:Int×Nat)=>AaD N r519 cz n y.1) (λy=>⟨[(7,.box (302,3) 0),(12,.box (1203,aa+1) 0),(13,.box (1303,aa+1+1) 0),(14,FW r519),(15,FW r520),(16,FW cz),(17,FW az),(18,.i y.1)],[(.c (1303,aa+1+1) 0,.i br),(.c (1303,aa+1+1) 1,.i bq),(.c (1303,aa+1+1) 2,.i bp),(.c (1303,aa+1+1) 3,.i bo),(.c (1303,aa+1+1) 4,BP bn),(.c (1303,aa+1+1) 5,.i bm),(.c (1303,aa+1+1) 6,.i bl),(.c (1303,aa+1+1) 7,.i bj),(.c (1303,aa+1+1) 8,.i bi),(.c (1303,aa+1+1) 9,.i bh),(.c (1303,aa+1+1) 10,.i bg),(.c (1303,aa+1+1) 11,.i bf),(.c (1303,aa+1+1) 12,.i be),(.c (1303,aa+1+1) 13,.i bb),(.c (1303,aa+1+1) 14,.b ba),(.c (1203,aa+1) 0,.i cu),(.c (1203,aa+1) 1,.i cr),(.c (1203,aa+1) 2,.i cq),(.c (1203,aa+1) 3,.i co),(.c (1203,aa+1) 4,BP cn),(.c (1203,aa+1) 5,.i ck),(.c (1203,aa+1) 6,.i cj),(.c (1203,aa+1) 7,.i ci),(.c (1203,aa+1) 8,.i ce),(.c (1203,aa+1) 9,.i b9),(.c (1203,aa+1) 10,.i b7),(.c (1203,aa+1) 11,.i bz),(.c (1203,aa+1) 12,.i bw),(.c (1203,aa+1) 13,.i bv),(.c (1203,aa+1) 14,.b bu),(.c (302,3) 0,Ap ay),(.c (302,3) 1,AS aw)],y.2⟩) (0,aa+1+1+1+1+1) jg (Ch F) ?_;rintro n ⟨dh,iz⟩ de;simp only[AaD]at de;refine An hS F de (λ_ de=>?_) (λ_ de=>?_)
    ·obtain⟨fg,iv,gv,g9,de⟩:=un de;obtain⟨jc,F⟩:=Cb GV iv F;replace F:=fc g9 F;refine An hS F de (λ_ de=>?_) (λ_ de=>?_)
     ·obtain rfl:=yJ de;exact Ai hS F h
     ·obtain⟨jk,de⟩:=un de;exact Cd hS F (n,dh+1,iz+1+1+1) de
    ·exact B4 hS F (iz+1) de
   ·rintro ja rfl;obtain⟨eu,jf,h⟩:=un h;refine go hS F ?_;refine Bz eu (λz:Nat=>⟨[(7,.box (302,3) 0),(12,.box (1203,aa+1) 0),(13,.box (1303,aa+1+1) 0)],[(.c (1303,aa+1+1) 0,.i br),(.c (1303,aa+1+1) 1,.i bq),(.c (1303,aa+1+1) 2,.i bp),(.c (1303,aa+1+1) 3,.i bo),(.c (1303,aa+1+1) 4,BP bn),(.c (1303,aa+1+1) 5,.i bm),(.c (1303,aa+1+1) 6,.i bl),(.c (1303,aa+1+1) 7,.i bj),(.c (1303,aa+1+1) 8,.i bi),(.c (1303,aa+1+1) 9,.i bh),(.c (1303,aa+1+1) 10,.i bg),(.c (1303,aa+1+1) 11,.i bf),(.c (1303,aa+1+1) 12,.i be),(.c (1303,aa+1+1) 13,.i bb),(.c (1303,aa+1+1) 14,.b ba),(.c (1203,aa+1) 0,.i cu),(.c (1203,aa+1) 1,.i cr),(.c (1203,aa+1) 2,.i cq),(.c (1203,aa+1) 3,.i co),(.c (1203,aa+1) 4,BP cn),(.c (1203,aa+1) 5,.i ck),(.c (1203,aa+1) 6,.i cj),(.c (1203,aa+1) 7,.i ci),(.c (1203,aa+1) 8,.i ce),(.c (1203,aa+1) 9,.i b9),(.c (1203,aa+1) 10,.i b7),(.c (1203,aa+1) 11,.i bz),(.c (1203,aa+1) 12,.i bw),(.c (1203,aa+1) 13,.i bv),(.c (1203,aa+1) 14,.b bu),(.c (302,3) 0,Ap ay),(.c (302,3) 1,AS aw)],z⟩) (λz=>(.inl ():Sum Unit Bool)) (.x 4) ?_ ?_
    ·refine Bp (λn (y:Int×Nat)=>AaE N r520 az n y.1) (λy=>⟨[(7,.box (302,3) 0),(12,.box (1203,aa+1) 0),(13,.box (1303,aa+1+1) 0),(15,FW r520),(17,FW az),(19,.i y.1)],[(.c (1303,aa+1+1) 0,.i br),(.c (1303,aa+1+1) 1,.i bq),(.c (1303,aa+1+1) 2,.i bp),(.c (1303,aa+1+1) 3,.i bo),(.c (1303,aa+1+1) 4,BP bn),(.c (1303,aa+1+1) 5,.i bm),(.c (1303,aa+1+1) 6,.i bl),(.c (1303,aa+1+1) 7,.i bj),(.c (1303,aa+1+1) 8,.i bi),(.c (1303,aa+1+1) 9,.i bh),(.c (1303,aa+1+1) 10,.i bg),(.c (1303,aa+1+1) 11,.i bf),(.c (1303,aa+1+1) 12,.i be),(.c (1303,aa+1+1) 13,.i bb),(.c (1303,aa+1+1) 14,.b ba),(.c (1203,aa+1) 0,.i cu),(.c (1203,aa+1) 1,.i cr),(.c (1203,aa+1) 2,.i cq),(.c (1203,aa+1) 3,.i co),(.c (1203,aa+1) 4,BP cn),(.c (1203,aa+1) 5,.i ck),(.c (1203,aa+1) 6,.i cj),(.c (1203,aa+1) 7,.i ci),(.c (1203,aa+1) 8,.i ce),(.c (1203,aa+1) 9,.i b9),(.c (1203,aa+1) 10,.i b7),(.c (1203,aa+1) 11,.i bz),(.c (1203,aa+1) 12,.i bw),(.c (1203,aa+1) 13,.i bv),(.c (1203,aa+1) 14,.b bu),(.c (302,3) 0,Ap ay),(.c (302,3) 1,AS aw)],y.2⟩) (0,ja+1) jf (Ch F) ?_;rintro n ⟨dg,iy⟩ db;simp only[AaE]at db;refine An hS F db (λ_ db=>?_) (λ_ db=>?_)
     ·obtain⟨e9,ir,gu,g8,db⟩:=un db;obtain⟨jb,F⟩:=Cb GV ir F;replace F:=fc g8 F;refine An hS F db (λ_ db=>?_) (λ_ db=>?_)
      ·obtain rfl:=yJ db;exact Ai hS F h
      ·obtain⟨jj,db⟩:=un db;exact Cd hS F (n,dg+1,iy+1+1+1) db
     ·exact B4 hS F (iy+1) db
    ·rintro ji rfl;obtain⟨⟨⟨d9,d8⟩,i6,d7⟩,gz,h⟩:=un h;obtain⟨⟨⟨d6,d5⟩,i5,dz⟩,gy,h⟩:=un h;obtain⟨je,h⟩:=un h;exact Ai hS (fc gy (fc gz F)) h
end
section
variable{N:Nat}(hN:1001<=N)(h9:N<=100000)
include hN h9
theorem Adl(l:List Int)(hl:l.length<=1000)(t:Int):Ke N l t=some (decide (t∈l)):=by
 unfold Ke;have F:=GK (L:=FM N l t) (len:=l.length) (λk=>if l.getD k 0=t then some true else none) (λn k hk e=>?_) (λn k r hk e=>?_) (λn=>?_) N (by omega)
 ·rcases F with⟨e,h⟩|⟨j,r,hj,h,_,e⟩
  ·rw[e,bS];simp only;rw[bJ];intro hm;obtain⟨k,hk,rfl⟩:=List.mem_iff_getElem.1 hm;have:=h k hk;rw[eG (by rw[dQ,dW hk];rfl)]at this;cases this
  ·rw[e,bS];by_cases c:l.getD j 0=t
   ·rw[eG c]at h;cases h
    simp only;rw[aB];rw[<-c,dQ,dW hj];exact Jb hj
   ·rw[dY c]at h;cases h
 ·have c:¬l.getD k 0=t:=λc=>by rw[eG c]at e;cases e
  rw[FM,Dq hk,cT,Ou 0 (by omega) (by omega),bS,vF,bJ c,cF,Ae (by unfold Af;omega),ns]
 ·by_cases c:l.getD k 0=t
  ·rw[eG c]at e;cases e
   rw[FM,Dq hk,cT,Ou 0 (by omega) (by omega),bS,vF,aB c,cT]
  ·rw[dY c]at e;cases e
 ·rw[FM,F2,cF]
theorem Aft{L:Nat->Int->Option (Sum Unit Bool)}{l m:List Int}(hl:l.length<=1000)(h1:∀n (k:Nat),k<l.length->¬l.getD k 0∈m->L (n+1) k=L n ((k+1:Nat):Int))(h2:∀n (k:Nat),k<l.length->l.getD k 0∈m->L (n+1) k=some (.inr true))(h3:∀n,L (n+1) l.length=some (.inl ())):(L N 0=some (.inl ())/\∀x∈l,x∉m)\/L N 0=some (.inr true):=by
 have F:=GK (L:=L) (len:=l.length) (λk=>if l.getD k 0∈m then some true else none) (λn k hk e=>h1 n k hk λc=>by rw[eG c]at e;cases e) (λn k r hk e=>?_) h3 N (by omega)
 ·rcases F with⟨e,h⟩|⟨j,r,hj,h,_,e⟩
  ·refine .inl ⟨e,λx hx hm=>?_⟩;obtain⟨k,hk,rfl⟩:=List.mem_iff_getElem.1 hx;have:=h k hk;rw[eG (by rw[dQ,dW hk];exact hm)]at this;cases this
  ·by_cases c:l.getD j 0∈m
   ·rw[eG c]at h;cases h;exact .inr e
   ·rw[dY c]at h;cases h
 ·by_cases c:l.getD k 0∈m
  ·rw[eG c]at e;cases e;exact h2 n k hk c
  ·rw[dY c]at e;cases e
theorem Ahb(l m:List Int)(hl:l.length<=1000)(hm:m.length<=1000):(AaD N l m N 0=some (.inl ())/\∀x∈l,x∉m)\/AaD N l m N 0=some (.inr true):=
 Aft hN h9 hl (λn k hk c=>by
  rw[AaD,Dq hk,cT,Ou 0 (by omega) (by omega),bS,vF,Adl hN h9 m hm,bS,bJ c,cF,Ae (by unfold Af;omega),ns]) (λn k hk c=>by
  rw[AaD,Dq hk,cT,Ou 0 (by omega) (by omega),bS,vF,Adl hN h9 m hm,bS,aB c,cT]) (λn=>by rw[AaD,F2,cF])
theorem Ahc(l m:List Int)(hl:l.length<=1000)(hm:m.length<=1000):(AaE N l m N 0=some (.inl ())/\∀x∈l,x∉m)\/AaE N l m N 0=some (.inr true):=
 Aft hN h9 hl (λn k hk c=>by
  rw[AaE,Dq hk,cT,Ou 0 (by omega) (by omega),bS,vF,Adl hN h9 m hm,bS,bJ c,cF,Ae (by unfold Af;omega),ns]) (λn k hk c=>by
  rw[AaE,Dq hk,cT,Ou 0 (by omega) (by omega),bS,vF,Adl hN h9 m hm,bS,aB c,cT]) (λn=>by rw[AaE,F2,cF])
theorem Aga{l:List Ac}{s':F8}:∀n k (s:F8),k<=3->3<n+k->k<=l.length->SV s.1 s.2->(∃j,C4 s (l.drop k)=(j,some s'))->∃t:F8,Abi N l n (k:Nat) s.1 s.2=some (.inl (t.1,t.2))/\SV t.1 t.2
 |0,k,s,h1,h2,_,_,_=>by omega
 |n+1,k,s,h1,h2,h3,h,hr=>by
  rw[Abi];by_cases e:k<l.length/\k<3
  ·rw[Dq e.1,LO,aB (p:=(k:Int)<3) (by omega),cT,Ac4 e.1,bS];rw[qI e.1]at hr;generalize l[k]=x at hr;obtain⟨j,hr⟩:=hr;rw[C4]at hr;obtain⟨x1,⟨x2,x3,x4,x5,x6,x7⟩,x8,x9,x10,⟨eI,x12,x13,rI,Ud⟩⟩:=x;obtain⟨f,ms⟩:=s;have ml:ms.length<=20:=h.2.len;simp only;rw[AgW hN h9 _ _ _ _ _ _ _ _ _ _ _ _ _ _ (by omega),bS];cases c:Ig (f,ms) (x1,(x2,x3,x4,x5,x6,x7),x8,x9,x10,eI,x12,x13,rI,Ud)with
   |none=>rw[c]at hr;cases hr
   |some t=>rw[c]at hr;simp only at hr;simp only[IM];rw[A1 _ (by simp),Ae (by unfold Af;omega),<-ns];exact Aga n (k+1) t (by omega) (by omega) (by omega) (Vj c).2.2.2 ⟨_,IE rfl (Prod.mk.inj hr).2⟩
  ·rw[A1 _ (by rw[Gb,cY,cY];omega)];exact⟨s,rfl,h⟩
theorem Agu(r1 r2:F8×Int×Int)(h:r1.2.2≠0\/r2.2.2≠0\/(SV r1.1.1 r1.1.2/\r1.1=r2.1)):(gd ((!((decide (r1.2.2≠0))||(decide (r2.2.2≠0))))=true->((CG N r1.1.1 r1.1.2 r2.1.1 r2.1.2).isSome=true))<|some (((decide (r1.2.2≠0))||(decide (r2.2.2≠0)))||((CG N r1.1.1 r1.1.2 r2.1.1 r2.1.2).getD false)))=some true:=by
 rcases h with h|h|⟨h1,h2⟩
 ·rw[aB h,BR (λh=>by simp at h)];simp
 ·rw[aB h,BR (λh=>by simp at h)];simp
 ·rw[fU hN h9 h1,BR (λ_=>nK),qZ,aB h2];simp
end
theorem Afi(a:Ac):(Qu a).1.length<=2/\(Qu a).2.length<=2:=by
 unfold Qu
 repeat' split
 all_goals simp
theorem Af2(x1:List (Int×Int×Int×Int×Int×Int))(x2:List (Int×Int×Int×Int))(x3:List (Int×Int×Int×Int×Int×Int))(a1 a2 a3 a4 a5 a6 b1 b2 b3 b4 b5 b6:Int)(h1:I6 x1)(h2:I4 x2)(h3:I6 x3)(ha1:Af a1)(ha2:Af a2)(ha3:Af a3)(ha4:Af a4)(ha5:Af a5)(ha6:Af a6)(hb1:Af b1)(hb2:Af b2)(hb3:Af b3)(hb4:Af b4)(hb5:Af b5)(hb6:Af b6):Adc 2000 x1 x2 x3 a1 a2 a3 a4 a5 a6 b1 b2 b3 b4 b5 b6=some true:=by
 have hN:1001<=2000:=by omega
 have h9:2000<=100000:=by omega
 obtain⟨f,ms,em,hs⟩:=AbA (N:=2000) hN x3 h1 h2;obtain⟨l,s',el,l8,fl,hr⟩:=AgA (N:=2000) hN h9 h3 em hs;obtain⟨t,et,ht⟩:=Aga (N:=2000) hN h9 (l:=l) 2000 0 (f,ms) (by omega) (by omega) (by omega) hs ⟨_,by rw[uO];exact hr⟩;obtain⟨a,ea,fa⟩:=fT (N:=2000) hN ht ha1 ha2 ha3 ha4 ha5 ha6;obtain⟨b,eb,fb⟩:=fT (N:=2000) hN ht hb1 hb2 hb3 hb4 hb5 hb6;have na:=Afi a;have nb:=Afi b;unfold Adc;rw[AbD,bS,A1 _ (by rfl),em,bS];simp only;rw[el,bS];rw[pA]at et;simp only at et;rw[et,bS];simp only;rw[ea,bS];obtain⟨x1,⟨x2,x3,x4,x5,x6,x7⟩,x8,x9,x10,⟨eI,x12,x13,rI,Ud⟩⟩:=a
 (try simp only)
 rw[eb,bS];obtain⟨y1,⟨y2,y3,y4,y5,y6,y7⟩,y8,y9,y10,⟨y11,y12,y13,y14,y15⟩⟩:=b
 (try simp only)
 rw[Agy (by omega),bS]
 (try simp only)
 rw[Agy (by omega),bS]
 (try simp only)
 rcases Ahb (N:=2000) hN h9 _ _ (show(Qu (x1,(x2,x3,x4,x5,x6,x7),x8,x9,x10,eI,x12,x13,rI,Ud)).1.length<=1000 by omega) (show(Qu (y1,(y2,y3,y4,y5,y6,y7),y8,y9,y10,y11,y12,y13,y14,y15)).1.length<=1000 by omega)with⟨e,hd⟩|e
 ·rw[e,bS];simp only;rcases Ahc (N:=2000) hN h9 _ _ (show(Qu (x1,(x2,x3,x4,x5,x6,x7),x8,x9,x10,eI,x12,x13,rI,Ud)).2.length<=1000 by omega) (show(Qu (y1,(y2,y3,y4,y5,y6,y7),y8,y9,y10,y11,y12,y13,y14,y15)).2.length<=1000 by omega)with⟨e,hm⟩|e
  ·rw[e,bS];simp only;rw[AbB (N:=2000) hN h9 ht (by simp),bS,AbB (N:=2000) hN h9 ht (by simp),bS];generalize (x1,(x2,x3,x4,x5,x6,x7),x8,x9,x10,eI,x12,x13,rI,Ud)=a at fa hd hm⊢;generalize (y1,(y2,y3,y4,y5,y6,y7),y8,y9,y10,y11,y12,y13,y14,y15)=b at fb hd hm⊢;have two:∀a b:Ac,(∃n,C4 t [a,b]=(n,none))\/∃u p,Ig t a=some u/\Ig u b=some p/\C4 t [a,b]=(2,some p):=λa b=>by
    rw[C4];cases c1:Ig t a with
    |none=>exact .inl ⟨0,rfl⟩
    |some u=>
     simp only;rw[C4];cases c2:Ig u b with
     |none=>exact .inl ⟨_,rfl⟩
     |some p=>exact .inr ⟨u,p,rfl,c2,rfl⟩
   refine Agu hN h9 _ _ ?_;rcases two a b with⟨n,q1⟩|⟨u,p,q1,q2,q3⟩
   ·rw[q1];exact .inl (by simp[If])
   ·rcases two b a with⟨n,g1⟩|⟨v,q,g1,g2,g3⟩
    ·rw[g1];exact .inr (.inl (by simp[If]))
    ·have:=Ahw fa fb q1 q2 g1 g2 hd hm;subst this;rw[q3,g3];exact .inr (.inr ⟨(Vj q2).2.2.2,rfl⟩)
  ·rw[e,bS]
 ·rw[e,bS]
