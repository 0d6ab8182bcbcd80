import Derived.Test.YtjdchfljifacoaaGreatN4
set_option linter.all false
set_option maxRecDepth 100000
set_option maxHeartbeats 8000000
namespace Go.Proofs.YtjdchfljifacoaaGreat.Am
noncomputable instance(f g:List Un):Decidable (f=g):=Classical.propDecidable _
theorem kT{N:Nat}{a b c a' b' c':Int}{l l':List Pt}{p q p' q':Int}(hl:l.length<N)(hN:N<=100000):C2 N a b c l p q a' b' c' l' p' q'=some (decide ((a,b,c,l,p,q)=(a',b',c',l',p',q'))):=by
 unfold C2;by_cases h:a=a'/\b=b'/\c=c'/\p=p'/\q=q'/\l.length=l'.length
 ·obtain⟨rfl,rfl,rfl,rfl,rfl,hlen⟩:=h;rw[A1 _ (by simp[hlen])]
  let f:Nat->Option Bool:=λi=>if pa l i=pa l' i then none else some false
  have step:∀n (k:Nat),k<l.length->CN N l l' (n+1) k=(match f k with|some r=>some (.inr r)|none=>CN N l l' n ((k+1:Nat):Int)):=λn k hk=>by
   rw[CN,Dq hk,cT,F1 hk,bS];simp only;rw[F1 (by omega),bS];simp only;by_cases e:pa l k=pa l' k
   ·rw[A1 _ (by simp[e]),show f k=none from eG e,Ae (by unfold Af;omega),ns]
   ·rw[AU _ (by
     rw[xW,Gb];simp only[cY];by_cases h1:(pa l k).1=(pa l' k).1
     ·exact .inr λh2=>e (IE h1 h2)
     ·exact .inl h1),show f k=some false from dY e]
  have F:=GK (L:=CN N l l') (len:=l.length) f (λn k hk e=>by rw[step n k hk,e]) (λn k r hk e=>by rw[step n k hk,e]) (λn=>by rw[CN,F2,cF]) N (by omega);rcases F with⟨e,hf⟩|⟨j,r,hj,hf,_,e⟩
  ·rw[e,bS];have:l=l':=List.ext_getElem hlen λi h1 h2=>by
    have:=hf i h1;by_cases hp:pa l i=pa l' i
    ·rw[De h1,De h2]at hp;exact hp
    ·rw[show f i=some false from dY hp]at this;cases this
   subst this;simp
  ·rw[e,bS];have hne:¬l=l':=λe=>by subst e;rw[show f j=none from eG rfl]at hf;cases hf
   by_cases hp:pa l j=pa l' j
   ·rw[show f j=none from eG hp]at hf;cases hf
   ·rw[show f j=some false from dY hp]at hf;cases hf
    simp[hne]
 ·rw[AU _ (by
   simp only[tU,bK];by_cases h1:a=a'
   ·by_cases h2:b=b'
    ·by_cases h3:c=c'
     ·by_cases h4:p=p'
      ·by_cases h5:q=q'
       ·exact .inr λh6=>h ⟨h1,h2,h3,h4,h5,by omega⟩
       ·exact .inl (.inr h5)
      ·exact .inl (.inl (.inr h4))
     ·exact .inl (.inl (.inl (.inr h3)))
    ·exact .inl (.inl (.inl (.inl (.inr h2))))
   ·exact .inl (.inl (.inl (.inl (.inl h1)))))]
  congr 1;symm;refine bJ λe=>h ?_
  simp only[Lc]at e;obtain⟨rfl,rfl,rfl,rfl,rfl,rfl⟩:=e;simp
theorem oY{N:Nat}(hN:N<=100000){u:Un}(hu:u.2.2.2.1.length<N)(v:Un):C2 N u.1 u.2.1 u.2.2.1 u.2.2.2.1 u.2.2.2.2.1 u.2.2.2.2.2 v.1 v.2.1 v.2.2.1 v.2.2.2.1 v.2.2.2.2.1 v.2.2.2.2.2=some (decide (u=v)):=kT hu hN
theorem uB{N:Nat}(hN:N<=100000){f g:List Un}(hl:f.length=g.length)(h2:f.length<N)(hf:∀u∈f,u.2.2.2.1.length<N):CO N f g N 0=some (if f=g then .inl ()else .inr false):=by
 have F:=GK (L:=CO N f g) (len:=f.length) (λk=>if A2 f k=A2 g k then none else some false) (λn k hk e=>?_) (λn k r hk e=>?_) (λn=>?_) N h2
 ·rcases F with⟨e,h⟩|⟨j,r,hj,h,_,e⟩
  ·rw[e,eG];refine List.ext_getElem hl λk h1 h2=>?_
   have:=h k h1;rw[<-Fb h1,<-Fb h2];by_cases c:A2 f k=A2 g k
   ·exact c
   ·rw[dY c]at this;cases this
  ·by_cases c:A2 f j=A2 g j
   ·rw[eG c]at h;cases h
   ·rw[dY c]at h;cases h
    rw[e,dY λq=>c (by rw[q])]
 ·by_cases c:A2 f k=A2 g k
  ·rw[CO,Dq hk,cT,Fs hk,bS];simp only;rw[Fs (by omega),bS];simp only;rw[oY hN (hf _ (FH hk)),bS,aB c,A1 _ (by rfl),Ae (by unfold Af;omega),ns]
  ·rw[dY c]at e;cases e
 ·by_cases c:A2 f k=A2 g k
  ·rw[eG c]at e;cases e
  ·rw[dY c]at e;cases e
   rw[CO,Dq hk,cT,Fs hk,bS];simp only;rw[Fs (by omega),bS];simp only;rw[oY hN (hf _ (FH hk)),bS,bJ c,AU _ (by rfl)]
 ·rw[CO,F2,cF]
theorem AcI{N:Nat}(hN:N<=100000){f:List Un}(g:List Un)(h2:f.length<N)(hf:∀u∈f,u.2.2.2.1.length<N):Gy N f g=some (decide (f=g)):=by
 unfold Gy;by_cases c:f.length=g.length
 ·rw[A1 _ (by rw[cY];omega),uB hN c h2 hf,bS];by_cases e:f=g
  ·rw[eG e,aB e]
  ·rw[dY e,bJ e]
 ·rw[AU _ (by rw[bK];omega),bJ λe=>c (by rw[e])]
theorem FV.shp{f:List Un}(h:FV f):∀u∈f,u.2.2.2.1.length<1000:=λu hu=>by have:=(h.val u hu).l.l8;omega
open Go
attribute [local irreducible] Ax BO BB Bj BC Bk AY BD BK Cq
def BZ(x:Int×Int×Int×Int×Bool):List AV:=[.i x.1,.i x.2.1,.i x.2.2.1,.i x.2.2.2.1,.b x.2.2.2.2]
def E8:List AV->Int×Int×Int×Int×Bool|[.v (.int _ a1),.v (.int _ a2),.v (.int _ a3),.v (.int _ a4),.v (.bool a5)]=>(a1,a2,a3,a4,a5)|_=>(0,0,0,0,false)
theorem jM(x:Int×Int×Int×Int×Bool):E8 (BZ x)=x:=by rfl
theorem jN(R:List (Int×Int×Int×Int×Bool)):(R.map BZ).map E8=R:=by
 induction R with
 |nil=>rfl
 |cons r R ih=>rw[jW,jW,ih,jM]
theorem jO(R:List (Int×Int×Int×Int×Bool))(i:Nat):A6 (R.map BZ) [.i 0,.i 0,.i 0,.i 0,.b false] i=BZ (R.getD i (0,0,0,0,false)):=by unfold A6;rw[dQ,dQ,sI];cases R[i]? <;>rfl
def AA:Rw (Int×Int×Int×Int×Bool):=⟨5,BZ,E8,[.i 0,.i 0,.i 0,.i 0,.b false]⟩
def AS(l:List (Int×Int×Int×Int×Bool)):AV:=.sl 5 false (l.map BZ) [.i 0,.i 0,.i 0,.i 0,.b false]
def EH(l:List (Int×Int×Int×Int×Bool)):AV:=.sl 5 true (l.map BZ) [.i 0,.i 0,.i 0,.i 0,.b false]
attribute [go_sem] AA AS EH BZ E8 jN jO
def BM(N:Nat)(bq:Int)(aj:Int)(ae:Int):Option Bool:=some ((decide (aj<=bq))&&(decide (bq<=ae)))
@[go_sem] def s80(N:Nat):Spec:=p0<|pI λbq=>pI λaj=>pI λae=>pE<|pF (BM N bq aj ae) false λr=>.b r
theorem QT(N:Nat):AG Tryz.prog 80 (s80 N):=by
 refine Ar x80.ok<|Aa λbq=>Aa λaj=>Aa λae=>Ad<|As λr h=>wx x80 (Aj) λ_ hS F=>?_
 dsimp only[x80,Ah];unfold BM at h;exact Ai hS F h
def Cv(N:Nat)(ej:Int):Option Bool:=(BM N ej 0 99).bind λoy=>some oy
@[go_sem] def Aeb(N:Nat):Spec:=p0<|pI λej=>pE<|pF (Cv N ej) false λr=>.b r
theorem SH(N:Nat):AG Tryz.prog 126 (Aeb N):=by
 refine Ar x126.ok<|Aa λej=>Ad<|As λr h=>wx x126 (Ab (QT N)<|Aj) λ_ hS F=>?_
 dsimp only[x126,Ah];unfold Cv at h;obtain⟨oy,qc,h⟩:=un h;exact Ai hS (fc qc F) h
def Ht(N:Nat)(eu:Int)(ak:Int)(be:Int)(br:Int)(im:Bool):Option Bool:=(BM N eu 0 99).bind λbp=>gd (bp=true->((Cv N ak).isSome=true))<|gd ((bp&&((Cv N ak).getD false))=true->((BM N be (-2) 7).isSome=true))<|gd (((bp&&((Cv N ak).getD false))&&((BM N be (-2) 7).getD false))=true->((BM N br 1 5).isSome=true))<|some (((bp&&((Cv N ak).getD false))&&((BM N be (-2) 7).getD false))&&((BM N br 1 5).getD false))
@[go_sem] def Aec(N:Nat):Spec:=p0<|pG<|pI λeu=>pI λak=>pI λbe=>pI λbr=>pB λim=>pE<|pE<|pF (Ht N eu ak be br im) false λr=>.b r
theorem dB(N:Nat):AG Tryz.prog 103 (Aec N):=by
 refine Ar x103.ok<|Aw<|Aa λeu=>Aa λak=>Aa λbe=>Aa λbr=>AX λim=>Ad<|Ad<|As λr h=>wx x103 (Ab (QT N)<|Ab (SH N)<|Aj) λ_ hS F=>?_
 dsimp only[x103,Ah];unfold Ht at h;obtain⟨bp,qb,qe,qq,qn,h⟩:=un h;exact Ai hS (fc qb F) h
def Ct(N:Nat)(g8:Int)(ei:Int)(eh:Int)(u2411:List (Int×Int))(ee:Int)(d9:Int):Option Bool:=some (((((decide (ei=0))&&(decide (eh=0)))&&(decide ((u2411.length:Int)=0)))&&(decide (ee=0)))&&(decide (d9=0)))
@[go_sem] def Aed(N:Nat):Spec:=p0<|pG<|pI λg8=>pI λei=>pI λeh=>pS Aq λu2411=>pI λee=>pI λd9=>pE<|pE<|pF (Ct N g8 ei eh u2411 ee d9) false λr=>.b r
theorem Qc(N:Nat):AG Tryz.prog 140 (Aed N):=by
 refine Ar x140.ok<|Aw<|Aa λg8=>Aa λei=>Aa λeh=>AF λu2411=>Aa λee=>Aa λd9=>Ad<|Ad<|As λr h=>wx x140 (Aj) λ_ hS F=>?_
 dsimp only[x140,Ah,Aq];unfold Ct at h;exact Ai hS F h
def E5(N:Nat)(bl:Int):Option (List Int):=some [bl]
@[go_sem] def Aee(N:Nat):Spec:=p0<|pI λbl=>pE<|pF (E5 N bl) [] λr=>FW r
theorem Qd(N:Nat):AG Tryz.prog 132 (Aee N):=by
 refine Ar x132.ok<|Aa λbl=>Ad<|As λr h=>wx x132 (Aj) λ_ hS F=>?_
 dsimp only[x132,Ah];unfold E5 at h;exact Ai hS F h
def E6(N:Nat)(s2416:List (Int×Int×Int×Int×Bool))(ab:List (Int×Int×Int×(List (Int×Int))×Int×Int)):Nat->Int->Int->Option (Sum Unit Bool)|0,_,_=>none|n+1,bu,az=>bif decide (az<(s2416.length:Int))then((A7 s2416 az).bind λ(ay,d8,d7,gz,gy)=>(Dk N ab d8).bind λ((qm,ql,qk,r2444,qj,qh),ii)=>gd ((!(!ii))=true->((Ht N ay d8 d7 gz gy).isSome=true))<|bif (((!ii)||(!((Ht N ay d8 d7 gz gy).getD false)))||(decide (ay<=bu)))||(decide ((r2444.length:Int)<=d7))then(some (.inr false))else(gd (Af (az+1))<|E6 N s2416 ab n ay (az+1)))else(some (.inl ()))
def CV(N:Nat)(ab:List (Int×Int×Int×(List (Int×Int))×Int×Int))(s2416:List (Int×Int×Int×Int×Bool)):Option Bool:=(E6 N s2416 ab N (-1) 0).bind λij=>match ij with|.inl ()=>(some (decide ((s2416.length:Int)<=20)))|.inr qg=>(some qg)
@[go_sem] def nX(N:Nat):Spec:=p0<|pG<|pD Ak λab=>pD AA λs2416=>pE<|pE<|pF (CV N ab s2416) false λr=>.b r
theorem NY(N:Nat):AG Tryz.prog 59 (nX N):=by
 refine Ar x59.ok<|Aw<|AM λab=>AM λs2416=>Ad<|Ad<|As λr h=>wx x59 (Ab (Zz N)<|Ab (dB N)<|Aj) λ_ hS F=>?_
 dsimp only[x59,Ah,AA,Ak];unfold CV at h;obtain⟨ij,qu,h⟩:=un h;refine go hS F ?_;refine Bz ij (λz:Nat=>⟨[(1,.box (0,1) 0)],[(.c (0,1) 0,Ap ab),(.c (0,1) 1,AS s2416)],z⟩) (λz=>(.inl ():Sum Unit Bool)) (.x 0) ?_ ?_
 ·refine Bp (λn (y:Int×Int×Nat)=>E6 N s2416 ab n y.1 y.2.1) (λy=>⟨[(1,.box (0,1) 0),(3,.i y.1),(9,AS s2416),(10,.i (s2416.length:Int)),(11,.i y.2.1)],[(.c (0,1) 0,Ap ab),(.c (0,1) 1,AS s2416)],y.2.2⟩) ((-1),0,3) qu (Ch F) ?_;rintro n ⟨bu,az,oz⟩ bm;simp only[E6]at bm;refine An hS F bm (λ_ bm=>?_) (λ_ bm=>?_)
  ·obtain⟨⟨ay,d8,d7,gz,gy⟩,qd,bm⟩:=un bm;obtain⟨qo,F⟩:=Cb BZ qd F;obtain⟨⟨⟨qm,ql,qk,r2444,qj,qh⟩,ii⟩,pz,bm⟩:=un bm;obtain⟨qn,bm⟩:=un bm;replace F:=fc pz F;refine An hS F bm (λ_ bm=>?_) (λ_ bm=>?_)
   ·obtain rfl:=yJ bm;exact Ai hS F h
   ·obtain⟨qt,bm⟩:=un bm;exact Cd hS F (n,ay,az+1,oz+1+1+1+1+1+1) bm
  ·exact B4 hS F (oz+1) bm
 ·rintro qr rfl;exact Ai hS F h
def Dw(N:Nat)(ba:List (Int×Int×Int×(List (Int×Int))×Int×Int))(bn:List (Int×Int×Int×Int×Bool)):Option Bool:=(ER N ba).bind λig=>gd (ig=true->((CV N ba bn).isSome=true))<|some (ig&&((CV N ba bn).getD false))
@[go_sem] def Ws(N:Nat):Spec:=p0<|pG<|pD Ak λba=>pD AA λbn=>pE<|pE<|pF (Dw N ba bn) false λr=>.b r
theorem ZG(N:Nat):AG Tryz.prog 19 (Ws N):=by
 refine Ar x19.ok<|Aw<|AM λba=>AM λbn=>Ad<|Ad<|As λr h=>wx x19 (Ab (SG N)<|Ab (NY N)<|Aj) λ_ hS F=>?_
 dsimp only[x19,Ah,AA,Ak];unfold Dw at h;obtain⟨ig,pv,qe,h⟩:=un h;exact Ai hS (fc pv F) h
def Ks(N:Nat)(og:Int)(gx:Int)(gw:Int)(gv:Int)(gu:List (Int×Int))(gt:Int)(gr:Int)(gm:Int)(gj:Int)(gi:Int)(oe:Int)(od:Int)(oc:Int)(oa:Int)(n9:Bool):Option Bool:=(B6 N gx gw gv gu gt gr).bind λox=>some (((ox&&(decide (gm=0)))&&(decide (gj=0)))&&(decide (gi=0)))
@[go_sem] def Aef(N:Nat):Spec:=p0<|pG<|pI λog=>pI λgx=>pI λgw=>pI λgv=>pS Aq λgu=>pI λgt=>pI λgr=>pI λgm=>pI λgj=>pI λgi=>pI λoe=>pI λod=>pI λoc=>pI λoa=>pB λn9=>pE<|pE<|pF (Ks N og gx gw gv gu gt gr gm gj gi oe od oc oa n9) false λr=>.b r
theorem yZ(N:Nat):AG Tryz.prog 130 (Aef N):=by
 refine Ar x130.ok<|Aw<|Aa λog=>Aa λgx=>Aa λgw=>Aa λgv=>AF λgu=>Aa λgt=>Aa λgr=>Aa λgm=>Aa λgj=>Aa λgi=>Aa λoe=>Aa λod=>Aa λoc=>Aa λoa=>AX λn9=>Ad<|Ad<|As λr h=>wx x130 (Ab (Pj N)<|Aj) λ_ hS F=>?_
 dsimp only[x130,Ah,Aq];unfold Ks at h;obtain⟨ox,pq,h⟩:=un h;exact Ai hS (fc pq F) h
def Kt(N:Nat)(n8:Int)(gh:Int)(n7:Int)(n6:Int)(n5:List (Int×Int))(n4:Int)(n0:Int)(nz:Int)(nw:Int)(nv:Int)(nu:Int)(nr:Int)(nq:Int)(nl:Int)(nk:Bool):Option ((List Int)×(List Int)):=(E5 N gh).bind λow=>some (ow,[])
@[go_sem] def Aeg(N:Nat):Spec:=p0<|pG<|pI λn8=>pI λgh=>pI λn7=>pI λn6=>pS Aq λn5=>pI λn4=>pI λn0=>pI λnz=>pI λnw=>pI λnv=>pI λnu=>pI λnr=>pI λnq=>pI λnl=>pB λnk=>pE<|pE<|pF (Kt N n8 gh n7 n6 n5 n4 n0 nz nw nv nu nr nq nl nk) ([],[]) λr=>.tup [FW r.1,FW r.2]
theorem zC(N:Nat):AG Tryz.prog 131 (Aeg N):=by
 refine Ar x131.ok<|Aw<|Aa λn8=>Aa λgh=>Aa λn7=>Aa λn6=>AF λn5=>Aa λn4=>Aa λn0=>Aa λnz=>Aa λnw=>Aa λnv=>Aa λnu=>Aa λnr=>Aa λnq=>Aa λnl=>AX λnk=>Ad<|Ad<|As λr h=>wx x131 (Ab (Qd N)<|Aj) λ_ hS F=>?_
 dsimp only[x131,Ah,Aq];unfold Kt at h;obtain⟨ow,pp,h⟩:=un h;exact Ai hS (fc pp F) h
def Ku(N:Nat)(nj:Int)(bj:Int)(d6:Int)(d5:Int)(dz:List (Int×Int))(dw:Int)(du:Int)(gg:Int)(dt:Int)(dq:Int)(nh:Int)(ng:Int)(nf:Int)(nc:Int)(mz:Bool):Option Bool:=(Cv N gg).bind λic=>gd (((ic&&(decide (dt=0)))&&(decide (dq=0)))=true->((Ct N bj d6 d5 dz dw du).isSome=true))<|some ((((ic&&(decide (dt=0)))&&(decide (dq=0)))&&((Ct N bj d6 d5 dz dw du).getD false))&&(decide (bj=0)))
@[go_sem] def Aeh(N:Nat):Spec:=p0<|pG<|pI λnj=>pI λbj=>pI λd6=>pI λd5=>pS Aq λdz=>pI λdw=>pI λdu=>pI λgg=>pI λdt=>pI λdq=>pI λnh=>pI λng=>pI λnf=>pI λnc=>pB λmz=>pE<|pE<|pF (Ku N nj bj d6 d5 dz dw du gg dt dq nh ng nf nc mz) false λr=>.b r
theorem zD(N:Nat):AG Tryz.prog 139 (Aeh N):=by
 refine Ar x139.ok<|Aw<|Aa λnj=>Aa λbj=>Aa λd6=>Aa λd5=>AF λdz=>Aa λdw=>Aa λdu=>Aa λgg=>Aa λdt=>Aa λdq=>Aa λnh=>Aa λng=>Aa λnf=>Aa λnc=>AX λmz=>Ad<|Ad<|As λr h=>wx x139 (Ab (SH N)<|Ab (Qc N)<|Aj) λ_ hS F=>?_
 dsimp only[x139,Ah,Aq];unfold Ku at h;obtain⟨ic,po,qe,h⟩:=un h;exact Ai hS (fc po F) h
def Kv(N:Nat)(my:Int)(mu:Int)(mt:Int)(mr:Int)(mq:List (Int×Int))(mo:Int)(mn:Int)(gc:Int)(mj:Int)(mh:Int)(mg:Int)(mf:Int)(me:Int)(md:Int)(mc:Bool):Option ((List Int)×(List Int)):=(E5 N gc).bind λov=>some (ov,[])
@[go_sem] def Aei(N:Nat):Spec:=p0<|pG<|pI λmy=>pI λmu=>pI λmt=>pI λmr=>pS Aq λmq=>pI λmo=>pI λmn=>pI λgc=>pI λmj=>pI λmh=>pI λmg=>pI λmf=>pI λme=>pI λmd=>pB λmc=>pE<|pE<|pF (Kv N my mu mt mr mq mo mn gc mj mh mg mf me md mc) ([],[]) λr=>.tup [FW r.1,FW r.2]
theorem zE(N:Nat):AG Tryz.prog 141 (Aei N):=by
 refine Ar x141.ok<|Aw<|Aa λmy=>Aa λmu=>Aa λmt=>Aa λmr=>AF λmq=>Aa λmo=>Aa λmn=>Aa λgc=>Aa λmj=>Aa λmh=>Aa λmg=>Aa λmf=>Aa λme=>Aa λmd=>AX λmc=>Ad<|Ad<|As λr h=>wx x141 (Ab (Qd N)<|Aj) λ_ hS F=>?_
 dsimp only[x141,Ah,Aq];unfold Kv at h;obtain⟨ov,pn,h⟩:=un h;exact Ai hS (fc pn F) h
def JP(N:Nat)(mb:Int)(aa:Int)(aw:Int)(av:Int)(au:List (Int×Int))(aq:Int)(an:Int)(ai:Int)(am:Int)(bi:Int)(ma:Int)(l7:Int)(l6:Int)(l5:Int)(lz:Bool):Option Bool:=(Cv N ai).bind λbb=>gd (bb=true->((Cv N aa).isSome=true))<|gd (((bb&&((Cv N aa).getD false))&&(decide (ai≠aa)))=true->((Ct N aa aw av au aq an).isSome=true))<|gd ((((bb&&((Cv N aa).getD false))&&(decide (ai≠aa)))&&((Ct N aa aw av au aq an).getD false))=true->((BM N am 0 7).isSome=true))<|gd (((((bb&&((Cv N aa).getD false))&&(decide (ai≠aa)))&&((Ct N aa aw av au aq an).getD false))&&((BM N am 0 7).getD false))=true->((BM N bi 0 7).isSome=true))<|some ((((((bb&&((Cv N aa).getD false))&&(decide (ai≠aa)))&&((Ct N aa aw av au aq an).getD false))&&((BM N am 0 7).getD false))&&((BM N bi 0 7).getD false))&&(decide (am≠bi)))
@[go_sem] def Aej(N:Nat):Spec:=p0<|pG<|pI λmb=>pI λaa=>pI λaw=>pI λav=>pS Aq λau=>pI λaq=>pI λan=>pI λai=>pI λam=>pI λbi=>pI λma=>pI λl7=>pI λl6=>pI λl5=>pB λlz=>pE<|pE<|pF (JP N mb aa aw av au aq an ai am bi ma l7 l6 l5 lz) false λr=>.b r
theorem zF(N:Nat):AG Tryz.prog 150 (Aej N):=by
 refine Ar x150.ok<|Aw<|Aa λmb=>Aa λaa=>Aa λaw=>Aa λav=>AF λau=>Aa λaq=>Aa λan=>Aa λai=>Aa λam=>Aa λbi=>Aa λma=>Aa λl7=>Aa λl6=>Aa λl5=>AX λlz=>Ad<|Ad<|As λr h=>wx x150 (Ab (SH N)<|Ab (Qc N)<|Ab (QT N)<|Aj) λ_ hS F=>?_
 dsimp only[x150,Ah,Aq];unfold JP at h;obtain⟨bb,pm,qe,qq,qn,qt,h⟩:=un h;exact Ai hS (fc pm F) h
def JQ(N:Nat)(lr:Int)(dm:Int)(lq:Int)(lm:Int)(lj:List (Int×Int))(li:Int)(lh:Int)(dh:Int)(lg:Int)(lf:Int)(kz:Int)(kw:Int)(kv:Int)(kr:Int)(kq:Bool):Option ((List Int)×(List Int)):=some ([min dh dm,max dh dm],[])
@[go_sem] def Aek(N:Nat):Spec:=p0<|pG<|pI λlr=>pI λdm=>pI λlq=>pI λlm=>pS Aq λlj=>pI λli=>pI λlh=>pI λdh=>pI λlg=>pI λlf=>pI λkz=>pI λkw=>pI λkv=>pI λkr=>pB λkq=>pE<|pE<|pF (JQ N lr dm lq lm lj li lh dh lg lf kz kw kv kr kq) ([],[]) λr=>.tup [FW r.1,FW r.2]
theorem zG(N:Nat):AG Tryz.prog 151 (Aek N):=by
 refine Ar x151.ok<|Aw<|Aa λlr=>Aa λdm=>Aa λlq=>Aa λlm=>AF λlj=>Aa λli=>Aa λlh=>Aa λdh=>Aa λlg=>Aa λlf=>Aa λkz=>Aa λkw=>Aa λkv=>Aa λkr=>AX λkq=>Ad<|Ad<|As λr h=>wx x151 (Aj) λ_ hS F=>?_
 dsimp only[x151,Ah,Aq];unfold JQ at h;exact Ai hS F h
def JR(N:Nat)(km:Int)(bh:Int)(dg:Int)(de:Int)(db:List (Int×Int))(da:Int)(cz:Int)(fx:Int)(af:Int)(ah:Int)(kl:Int)(kj:Int)(ki:Int)(kh:Int)(kg:Bool):Option Bool:=(Cv N fx).bind λbo=>gd (bo=true->((BM N af (-40) 40).isSome=true))<|gd ((bo&&((BM N af (-40) 40).getD false))=true->((BM N ah (-40) 40).isSome=true))<|gd ((((bo&&((BM N af (-40) 40).getD false))&&((BM N ah (-40) 40).getD false))&&((decide (af≠0))||(decide (ah≠0))))=true->((Ct N bh dg de db da cz).isSome=true))<|some (((((bo&&((BM N af (-40) 40).getD false))&&((BM N ah (-40) 40).getD false))&&((decide (af≠0))||(decide (ah≠0))))&&((Ct N bh dg de db da cz).getD false))&&(decide (bh=0)))
@[go_sem] def Ael(N:Nat):Spec:=p0<|pG<|pI λkm=>pI λbh=>pI λdg=>pI λde=>pS Aq λdb=>pI λda=>pI λcz=>pI λfx=>pI λaf=>pI λah=>pI λkl=>pI λkj=>pI λki=>pI λkh=>pB λkg=>pE<|pE<|pF (JR N km bh dg de db da cz fx af ah kl kj ki kh kg) false λr=>.b r
theorem zH(N:Nat):AG Tryz.prog 155 (Ael N):=by
 refine Ar x155.ok<|Aw<|Aa λkm=>Aa λbh=>Aa λdg=>Aa λde=>AF λdb=>Aa λda=>Aa λcz=>Aa λfx=>Aa λaf=>Aa λah=>Aa λkl=>Aa λkj=>Aa λki=>Aa λkh=>AX λkg=>Ad<|Ad<|As λr h=>wx x155 (Ab (SH N)<|Ab (QT N)<|Ab (Qc N)<|Aj) λ_ hS F=>?_
 dsimp only[x155,Ah,Aq];unfold JR at h;obtain⟨bo,pj,qe,qq,qn,h⟩:=un h;exact Ai hS (fc pj F) h
def JS(N:Nat)(kf:Int)(ke:Int)(ka:Int)(j9:Int)(j8:List (Int×Int))(j7:Int)(j6:Int)(fr:Int)(j5:Int)(j4:Int)(jz:Int)(jy:Int)(jx:Int)(jw:Int)(jv:Bool):Option ((List Int)×(List Int)):=(E5 N fr).bind λot=>some (ot,[])
@[go_sem] def Aem(N:Nat):Spec:=p0<|pG<|pI λkf=>pI λke=>pI λka=>pI λj9=>pS Aq λj8=>pI λj7=>pI λj6=>pI λfr=>pI λj5=>pI λj4=>pI λjz=>pI λjy=>pI λjx=>pI λjw=>pB λjv=>pE<|pE<|pF (JS N kf ke ka j9 j8 j7 j6 fr j5 j4 jz jy jx jw jv) ([],[]) λr=>.tup [FW r.1,FW r.2]
theorem zI(N:Nat):AG Tryz.prog 156 (Aem N):=by
 refine Ar x156.ok<|Aw<|Aa λkf=>Aa λke=>Aa λka=>Aa λj9=>AF λj8=>Aa λj7=>Aa λj6=>Aa λfr=>Aa λj5=>Aa λj4=>Aa λjz=>Aa λjy=>Aa λjx=>Aa λjw=>AX λjv=>Ad<|Ad<|As λr h=>wx x156 (Ab (Qd N)<|Aj) λ_ hS F=>?_
 dsimp only[x156,Ah,Aq];unfold JS at h;obtain⟨ot,pi,h⟩:=un h;exact Ai hS (fc pi F) h
def HI(N:Nat)(ju:Int)(bg:Int)(cy:Int)(cu:Int)(cr:List (Int×Int))(cq:Int)(co:Int)(fq:Int)(cn:Int)(ck:Int)(jt:Int)(js:Int)(jr:Int)(jq:Int)(jp:Bool):Option Bool:=(BM N fq 0 99).bind λib=>gd (((ib&&(decide (cn=0)))&&(decide (ck=0)))=true->((Ct N bg cy cu cr cq co).isSome=true))<|some ((((ib&&(decide (cn=0)))&&(decide (ck=0)))&&((Ct N bg cy cu cr cq co).getD false))&&(decide (bg=0)))
@[go_sem] def Aen(N:Nat):Spec:=p0<|pG<|pI λju=>pI λbg=>pI λcy=>pI λcu=>pS Aq λcr=>pI λcq=>pI λco=>pI λfq=>pI λcn=>pI λck=>pI λjt=>pI λjs=>pI λjr=>pI λjq=>pB λjp=>pE<|pE<|pF (HI N ju bg cy cu cr cq co fq cn ck jt js jr jq jp) false λr=>.b r
theorem dC(N:Nat):AG Tryz.prog 160 (Aen N):=by
 refine Ar x160.ok<|Aw<|Aa λju=>Aa λbg=>Aa λcy=>Aa λcu=>AF λcr=>Aa λcq=>Aa λco=>Aa λfq=>Aa λcn=>Aa λck=>Aa λjt=>Aa λjs=>Aa λjr=>Aa λjq=>AX λjp=>Ad<|Ad<|As λr h=>wx x160 (Ab (QT N)<|Ab (Qc N)<|Aj) λ_ hS F=>?_
 dsimp only[x160,Ah,Aq];unfold HI at h;obtain⟨ib,ph,qe,h⟩:=un h;exact Ai hS (fc ph F) h
def HJ(N:Nat)(jo:Int)(jn:Int)(jm:Int)(jl:Int)(jk:List (Int×Int))(jj:Int)(ji:Int)(fp:Int)(jh:Int)(jg:Int)(jf:Int)(je:Int)(jd:Int)(jc:Int)(jb:Bool):Option ((List Int)×(List Int)):=(E5 N fp).bind λom=>some ([],om)
@[go_sem] def Aeo(N:Nat):Spec:=p0<|pG<|pI λjo=>pI λjn=>pI λjm=>pI λjl=>pS Aq λjk=>pI λjj=>pI λji=>pI λfp=>pI λjh=>pI λjg=>pI λjf=>pI λje=>pI λjd=>pI λjc=>pB λjb=>pE<|pE<|pF (HJ N jo jn jm jl jk jj ji fp jh jg jf je jd jc jb) ([],[]) λr=>.tup [FW r.1,FW r.2]
theorem dD(N:Nat):AG Tryz.prog 161 (Aeo N):=by
 refine Ar x161.ok<|Aw<|Aa λjo=>Aa λjn=>Aa λjm=>Aa λjl=>AF λjk=>Aa λjj=>Aa λji=>Aa λfp=>Aa λjh=>Aa λjg=>Aa λjf=>Aa λje=>Aa λjd=>Aa λjc=>AX λjb=>Ad<|Ad<|As λr h=>wx x161 (Ab (Qd N)<|Aj) λ_ hS F=>?_
 dsimp only[x161,Ah,Aq];unfold HJ at h;obtain⟨om,pg,h⟩:=un h;exact Ai hS (fc pg F) h
def Kw(N:Nat)(ja:Int)(bf:Int)(cj:Int)(ci:Int)(ce:List (Int×Int))(b9:Int)(b7:Int)(bz:Int)(bw:Int)(bv:Int)(fo:Int)(fj:Int)(fh:Int)(fg:Int)(e9:Bool):Option Bool:=(Ht N fo fj fh fg e9).bind λg9=>gd ((((g9&&(decide (bz=0)))&&(decide (bw=0)))&&(decide (bv=0)))=true->((Ct N bf cj ci ce b9 b7).isSome=true))<|some (((((g9&&(decide (bz=0)))&&(decide (bw=0)))&&(decide (bv=0)))&&((Ct N bf cj ci ce b9 b7).getD false))&&(decide (bf=0)))
@[go_sem] def Aep(N:Nat):Spec:=p0<|pG<|pI λja=>pI λbf=>pI λcj=>pI λci=>pS Aq λce=>pI λb9=>pI λb7=>pI λbz=>pI λbw=>pI λbv=>pI λfo=>pI λfj=>pI λfh=>pI λfg=>pB λe9=>pE<|pE<|pF (Kw N ja bf cj ci ce b9 b7 bz bw bv fo fj fh fg e9) false λr=>.b r
theorem zJ(N:Nat):AG Tryz.prog 163 (Aep N):=by
 refine Ar x163.ok<|Aw<|Aa λja=>Aa λbf=>Aa λcj=>Aa λci=>AF λce=>Aa λb9=>Aa λb7=>Aa λbz=>Aa λbw=>Aa λbv=>Aa λfo=>Aa λfj=>Aa λfh=>Aa λfg=>AX λe9=>Ad<|Ad<|As λr h=>wx x163 (Ab (dB N)<|Ab (Qc N)<|Aj) λ_ hS F=>?_
 dsimp only[x163,Ah,Aq];unfold Kw at h;obtain⟨g9,pd,qe,h⟩:=un h;exact Ai hS (fc pd F) h
def Kx(N:Nat)(i9:Int)(i8:Int)(i7:Int)(i6:Int)(i5:List (Int×Int))(i4:Int)(iz:Int)(iy:Int)(iw:Int)(iv:Int)(e8:Int)(ez:Int)(ir:Int)(iq:Int)(ip:Bool):Option ((List Int)×(List Int)):=(E5 N ez).bind λoj=>(E5 N e8).bind λoh=>some (oj,oh)
@[go_sem] def Ahs(N:Nat):Spec:=p0<|pG<|pI λi9=>pI λi8=>pI λi7=>pI λi6=>pS Aq λi5=>pI λi4=>pI λiz=>pI λiy=>pI λiw=>pI λiv=>pI λe8=>pI λez=>pI λir=>pI λiq=>pB λip=>pE<|pE<|pF (Kx N i9 i8 i7 i6 i5 i4 iz iy iw iv e8 ez ir iq ip) ([],[]) λr=>.tup [FW r.1,FW r.2]
theorem zK(N:Nat):AG Tryz.prog 164 (Ahs N):=by
 refine Ar x164.ok<|Aw<|Aa λi9=>Aa λi8=>Aa λi7=>Aa λi6=>AF λi5=>Aa λi4=>Aa λiz=>Aa λiy=>Aa λiw=>Aa λiv=>Aa λe8=>Aa λez=>Aa λir=>Aa λiq=>AX λip=>Ad<|Ad<|As λr h=>wx x164 (Ab (Qd N)<|Aj) λ_ hS F=>?_
 dsimp only[x164,Ah,Aq];unfold Kx at h;obtain⟨oj,o9,oh,o0,h⟩:=un h;exact Ai hS (fc o0 (fc o9 F)) h
