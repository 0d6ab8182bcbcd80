import Derived.Test.YtjdchfljifacoaaGreatN4
set_option linter.all false
set_option maxRecDepth 100000
set_option maxHeartbeats 8000000
namespace Go.Proofs.YtjdchfljifacoaaGreat.Am
noncomputable instance(f g:List Un):Decidable (f=g):=Classical.propDecidable _
theorem kT{N:Nat}{a b c a' b' c':Int}{l l':List Pt}{p q p' q':Int}(hl:l.length<N)(hN:N<=100000):C2 N a b c l p q a' b' c' l' p' q'=some (decide ((a,b,c,l,p,q)=(a',b',c',l',p',q'))):=by
 unfold C2;by_cases h:a=a'/\b=b'/\c=c'/\p=p'/\q=q'/\l.length=l'.length
 ·obtain⟨rfl,rfl,rfl,rfl,rfl,hlen⟩:=h;rw[A1 _ (by simp[hlen])]
  let f:Nat->Option Bool:=λi=>if pa l i=pa l' i then none else some false
  have step:∀n (k:Nat),k<l.length->CN N l l' (n+1) k=(match f k with|some r=>some (.inr r)|none=>CN N l l' n ((k+1:Nat):Int)):=λn k hk=>by
   rw[CN,Dq hk,cT,F1 hk,bS];simp only;rw[F1 (by omega),bS];simp only;by_cases e:pa l k=pa l' k
   ·rw[A1 _ (by simp[e]),show f k=none from fU e,Ae (by unfold Af;omega),ns]
   ·rw[AU _ (by
     rw[w5,z7];simp only[cY];by_cases h1:(pa l k).1=(pa l' k).1
     ·exact .inr λh2=>e (Gb h1 h2)
     ·exact .inl h1),show f k=some false from eG e]
  have F:=GK (L:=CN N l l') (len:=l.length) f (λn k hk e=>by rw[step n k hk,e]) (λn k r hk e=>by rw[step n k hk,e]) (λn=>by rw[CN,F2,cF]) N (by omega);rcases F with⟨e,hf⟩|⟨j,r,hj,hf,_,e⟩
  ·rw[e,bS];have:l=l':=List.ext_getElem hlen λi h1 h2=>by
    have:=hf i h1;by_cases hp:pa l i=pa l' i
    ·rw[De h1,De h2]at hp;exact hp
    ·rw[show f i=some false from eG hp]at this;cases this
   subst this;simp
  ·rw[e,bS];have hne:¬l=l':=λe=>by subst e;rw[show f j=none from fU rfl]at hf;cases hf
   by_cases hp:pa l j=pa l' j
   ·rw[show f j=none from fU hp]at hf;cases hf
   ·rw[show f j=some false from eG hp]at hf;cases hf
    simp[hne]
 ·rw[AU _ (by
   simp only[tU,bK];by_cases h1:a=a'
   ·by_cases h2:b=b'
    ·by_cases h3:c=c'
     ·by_cases h4:p=p'
      ·by_cases h5:q=q'
       ·exact .inr λh6=>h ⟨h1,h2,h3,h4,h5,by omega⟩
       ·exact .inl (.inr h5)
      ·exact .inl (.inl (.inr h4))
     ·exact .inl (.inl (.inl (.inr h3)))
    ·exact .inl (.inl (.inl (.inl (.inr h2))))
   ·exact .inl (.inl (.inl (.inl (.inl h1)))))]
  congr 1;symm;refine bJ λe=>h ?_
  simp only[IE]at e;obtain⟨rfl,rfl,rfl,rfl,rfl,rfl⟩:=e;simp
theorem oY{N:Nat}(hN:N<=100000){u:Un}(hu:u.2.2.2.1.length<N)(v:Un):C2 N u.1 u.2.1 u.2.2.1 u.2.2.2.1 u.2.2.2.2.1 u.2.2.2.2.2 v.1 v.2.1 v.2.2.1 v.2.2.2.1 v.2.2.2.2.1 v.2.2.2.2.2=some (decide (u=v)):=kT hu hN
theorem uB{N:Nat}(hN:N<=100000){f g:List Un}(hl:f.length=g.length)(h2:f.length<N)(hf:∀u∈f,u.2.2.2.1.length<N):CO N f g N 0=some (if f=g then .inl ()else .inr false):=by
 have F:=GK (L:=CO N f g) (len:=f.length) (λk=>if A2 f k=A2 g k then none else some false) (λn k hk e=>?_) (λn k r hk e=>?_) (λn=>?_) N h2
 ·rcases F with⟨e,h⟩|⟨j,r,hj,h,_,e⟩
  ·rw[e,fU];refine List.ext_getElem hl λk h1 h2=>?_
   have:=h k h1;rw[<-Fb h1,<-Fb h2];by_cases c:A2 f k=A2 g k
   ·exact c
   ·rw[eG c]at this;cases this
  ·by_cases c:A2 f j=A2 g j
   ·rw[fU c]at h;cases h
   ·rw[eG c]at h;cases h
    rw[e,eG λq=>c (by rw[q])]
 ·by_cases c:A2 f k=A2 g k
  ·rw[CO,Dq hk,cT,Fs hk,bS];simp only;rw[Fs (by omega),bS];simp only;rw[oY hN (hf _ (FH hk)),bS,aB c,A1 _ (by rfl),Ae (by unfold Af;omega),ns]
  ·rw[eG c]at e;cases e
 ·by_cases c:A2 f k=A2 g k
  ·rw[fU c]at e;cases e
  ·rw[eG c]at e;cases e
   rw[CO,Dq hk,cT,Fs hk,bS];simp only;rw[Fs (by omega),bS];simp only;rw[oY hN (hf _ (FH hk)),bS,bJ c,AU _ (by rfl)]
 ·rw[CO,F2,cF]
theorem AcI{N:Nat}(hN:N<=100000){f:List Un}(g:List Un)(h2:f.length<N)(hf:∀u∈f,u.2.2.2.1.length<N):Gy N f g=some (decide (f=g)):=by
 unfold Gy;by_cases c:f.length=g.length
 ·rw[A1 _ (by rw[cY];omega),uB hN c h2 hf,bS];by_cases e:f=g
  ·rw[fU e,aB e]
  ·rw[eG e,bJ e]
 ·rw[AU _ (by rw[bK];omega),bJ λe=>c (by rw[e])]
theorem FV.shp{f:List Un}(h:FV f):∀u∈f,u.2.2.2.1.length<1000:=λu hu=>by have:=(h.val u hu).l.l8;omega
open Go
attribute [local irreducible] Ax BO BB Bj BC Bk AY BD BK Cq
def BZ(x:Int×Int×Int×Int×Bool):List AV:=[.i x.1,.i x.2.1,.i x.2.2.1,.i x.2.2.2.1,.b x.2.2.2.2]
def E8:List AV->Int×Int×Int×Int×Bool|[.v (.int _ a1),.v (.int _ a2),.v (.int _ a3),.v (.int _ a4),.v (.bool a5)]=>(a1,a2,a3,a4,a5)|_=>(0,0,0,0,false)
theorem jM(x:Int×Int×Int×Int×Bool):E8 (BZ x)=x:=by rfl
theorem jN(R:List (Int×Int×Int×Int×Bool)):(R.map BZ).map E8=R:=by
 induction R with
 |nil=>rfl
 |cons r R ih=>rw[iW,iW,ih,jM]
theorem jO(R:List (Int×Int×Int×Int×Bool))(i:Nat):A6 (R.map BZ) [.i 0,.i 0,.i 0,.i 0,.b false] i=BZ (R.getD i (0,0,0,0,false)):=by unfold A6;rw[dQ,dQ,sH];cases R[i]? <;>rfl
def AA:Rw (Int×Int×Int×Int×Bool):=⟨5,BZ,E8,[.i 0,.i 0,.i 0,.i 0,.b false]⟩
def AS(l:List (Int×Int×Int×Int×Bool)):AV:=.sl 5 false (l.map BZ) [.i 0,.i 0,.i 0,.i 0,.b false]
def EH(l:List (Int×Int×Int×Int×Bool)):AV:=.sl 5 true (l.map BZ) [.i 0,.i 0,.i 0,.i 0,.b false]
attribute [go_sem] AA AS EH BZ E8 jN jO
def BM(N:Nat)(bq:Int)(aj:Int)(ae:Int):Option Bool:=some ((decide (aj<=bq))&&(decide (bq<=ae)))
@[go_sem] def s80(N:Nat):Spec:=p0<|pI λbq=>pI λaj=>pI λae=>pE<|pF (BM N bq aj ae) false λr=>.b r
theorem QT(N:Nat):AG Tryz.prog 80 (s80 N):=by
 refine Ar x80.ok<|Aa λbq=>Aa λaj=>Aa λae=>Ad<|As λr h=>wx x80 (Aj) λ_ hS F=>?_
 dsimp only[x80,Ah];unfold BM at h;exact Ai hS F h
def Cv(N:Nat)(ej:Int):Option Bool:=(BM N ej 0 99).bind λpg=>some pg
@[go_sem] def Aeb(N:Nat):Spec:=p0<|pI λej=>pE<|pF (Cv N ej) false λr=>.b r
theorem SH(N:Nat):AG Tryz.prog 126 (Aeb N):=by
 refine Ar x126.ok<|Aa λej=>Ad<|As λr h=>wx x126 (Ab (QT N)<|Aj) λ_ hS F=>?_
 dsimp only[x126,Ah];unfold Cv at h;obtain⟨pg,qj,h⟩:=un h;exact Ai hS (fc qj F) h
def Ht(N:Nat)(eu:Int)(ak:Int)(be:Int)(br:Int)(ip:Bool):Option Bool:=(BM N eu 0 99).bind λbp=>gd (bp=true->((Cv N ak).isSome=true))<|gd ((bp&&((Cv N ak).getD false))=true->((BM N be (-2) 7).isSome=true))<|gd (((bp&&((Cv N ak).getD false))&&((BM N be (-2) 7).getD false))=true->((BM N br 1 5).isSome=true))<|some (((bp&&((Cv N ak).getD false))&&((BM N be (-2) 7).getD false))&&((BM N br 1 5).getD false))
@[go_sem] def Aec(N:Nat):Spec:=p0<|pG<|pI λeu=>pI λak=>pI λbe=>pI λbr=>pB λip=>pE<|pE<|pF (Ht N eu ak be br ip) false λr=>.b r
theorem dB(N:Nat):AG Tryz.prog 103 (Aec N):=by
 refine Ar x103.ok<|Aw<|Aa λeu=>Aa λak=>Aa λbe=>Aa λbr=>AX λip=>Ad<|Ad<|As λr h=>wx x103 (Ab (QT N)<|Ab (SH N)<|Aj) λ_ hS F=>?_
 dsimp only[x103,Ah];unfold Ht at h;obtain⟨bp,qh,ql,qx,qu,h⟩:=un h;exact Ai hS (fc qh F) h
def Ct(N:Nat)(g9:Int)(ei:Int)(eh:Int)(u2411:List (Int×Int))(ee:Int)(d9:Int):Option Bool:=some (((((decide (ei=0))&&(decide (eh=0)))&&(decide ((u2411.length:Int)=0)))&&(decide (ee=0)))&&(decide (d9=0)))
@[go_sem] def Aed(N:Nat):Spec:=p0<|pG<|pI λg9=>pI λei=>pI λeh=>pS Aq λu2411=>pI λee=>pI λd9=>pE<|pE<|pF (Ct N g9 ei eh u2411 ee d9) false λr=>.b r
theorem Qc(N:Nat):AG Tryz.prog 140 (Aed N):=by
 refine Ar x140.ok<|Aw<|Aa λg9=>Aa λei=>Aa λeh=>AF λu2411=>Aa λee=>Aa λd9=>Ad<|Ad<|As λr h=>wx x140 (Aj) λ_ hS F=>?_
 dsimp only[x140,Ah,Aq];unfold Ct at h;exact Ai hS F h
def E5(N:Nat)(bl:Int):Option (List Int):=some [bl]
@[go_sem] def Aee(N:Nat):Spec:=p0<|pI λbl=>pE<|pF (E5 N bl) [] λr=>FW r
theorem Qd(N:Nat):AG Tryz.prog 132 (Aee N):=by
 refine Ar x132.ok<|Aa λbl=>Ad<|As λr h=>wx x132 (Aj) λ_ hS F=>?_
 dsimp only[x132,Ah];unfold E5 at h;exact Ai hS F h
def E6(N:Nat)(s2416:List (Int×Int×Int×Int×Bool))(ab:List (Int×Int×Int×(List (Int×Int))×Int×Int)):Nat->Int->Int->Option (Sum Unit Bool)|0,_,_=>none|n+1,bu,az=>bif decide (az<(s2416.length:Int))then((A7 s2416 az).bind λ(ay,d8,d7,g8,gz)=>(Dk N ab d8).bind λ((qt,qr,qq,r2444,qo,qn),ij)=>gd ((!(!ij))=true->((Ht N ay d8 d7 g8 gz).isSome=true))<|bif (((!ij)||(!((Ht N ay d8 d7 g8 gz).getD false)))||(decide (ay<=bu)))||(decide ((r2444.length:Int)<=d7))then(some (.inr false))else(gd (Af (az+1))<|E6 N s2416 ab n ay (az+1)))else(some (.inl ()))
def CV(N:Nat)(ab:List (Int×Int×Int×(List (Int×Int))×Int×Int))(s2416:List (Int×Int×Int×Int×Bool)):Option Bool:=(E6 N s2416 ab N (-1) 0).bind λim=>match im with|.inl ()=>(some (decide ((s2416.length:Int)<=20)))|.inr qm=>(some qm)
@[go_sem] def nX(N:Nat):Spec:=p0<|pG<|pD Ak λab=>pD AA λs2416=>pE<|pE<|pF (CV N ab s2416) false λr=>.b r
theorem NY(N:Nat):AG Tryz.prog 59 (nX N):=by
 refine Ar x59.ok<|Aw<|AM λab=>AM λs2416=>Ad<|Ad<|As λr h=>wx x59 (Ab (Zz N)<|Ab (dB N)<|Aj) λ_ hS F=>?_
 dsimp only[x59,Ah,AA,Ak];unfold CV at h;obtain⟨im,q0,h⟩:=un h;refine go hS F ?_;refine Bz im (λz:Nat=>⟨[(1,.box (0,1) 0)],[(.c (0,1) 0,Ap ab),(.c (0,1) 1,AS s2416)],z⟩) (λz=>(.inl ():Sum Unit Bool)) (.x 0) ?_ ?_
 ·refine Bp (λn (y:Int×Int×Nat)=>E6 N s2416 ab n y.1 y.2.1) (λy=>⟨[(1,.box (0,1) 0),(3,.i y.1),(9,AS s2416),(10,.i (s2416.length:Int)),(11,.i y.2.1)],[(.c (0,1) 0,Ap ab),(.c (0,1) 1,AS s2416)],y.2.2⟩) ((-1),0,3) q0 (Ch F) ?_;rintro n ⟨bu,az,ph⟩ bm;simp only[E6]at bm;refine An hS F bm (λ_ bm=>?_) (λ_ bm=>?_)
  ·obtain⟨⟨ay,d8,d7,g8,gz⟩,qk,bm⟩:=un bm;obtain⟨qw,F⟩:=Cb BZ qk F;obtain⟨⟨⟨qt,qr,qq,r2444,qo,qn⟩,ij⟩,qg,bm⟩:=un bm;obtain⟨qu,bm⟩:=un bm;replace F:=fc qg F;refine An hS F bm (λ_ bm=>?_) (λ_ bm=>?_)
   ·obtain rfl:=yJ bm;exact Ai hS F h
   ·obtain⟨qz,bm⟩:=un bm;exact Cd hS F (n,ay,az+1,ph+1+1+1+1+1+1) bm
  ·exact B4 hS F (ph+1) bm
 ·rintro qy rfl;exact Ai hS F h
def Dw(N:Nat)(ba:List (Int×Int×Int×(List (Int×Int))×Int×Int))(bn:List (Int×Int×Int×Int×Bool)):Option Bool:=(ER N ba).bind λii=>gd (ii=true->((CV N ba bn).isSome=true))<|some (ii&&((CV N ba bn).getD false))
@[go_sem] def Ws(N:Nat):Spec:=p0<|pG<|pD Ak λba=>pD AA λbn=>pE<|pE<|pF (Dw N ba bn) false λr=>.b r
theorem ZG(N:Nat):AG Tryz.prog 19 (Ws N):=by
 refine Ar x19.ok<|Aw<|AM λba=>AM λbn=>Ad<|Ad<|As λr h=>wx x19 (Ab (SG N)<|Ab (NY N)<|Aj) λ_ hS F=>?_
 dsimp only[x19,Ah,AA,Ak];unfold Dw at h;obtain⟨ii,qe,ql,h⟩:=un h;exact Ai hS (fc qe F) h
def Ks(N:Nat)(ot:Int)(gy:Int)(gx:Int)(gw:Int)(gv:List (Int×Int))(gu:Int)(gt:Int)(gr:Int)(gm:Int)(gj:Int)(om:Int)(oj:Int)(oh:Int)(og:Int)(oe:Bool):Option Bool:=(B6 N gy gx gw gv gu gt).bind λpd=>some (((pd&&(decide (gr=0)))&&(decide (gm=0)))&&(decide (gj=0)))
@[go_sem] def Aef(N:Nat):Spec:=p0<|pG<|pI λot=>pI λgy=>pI λgx=>pI λgw=>pS Aq λgv=>pI λgu=>pI λgt=>pI λgr=>pI λgm=>pI λgj=>pI λom=>pI λoj=>pI λoh=>pI λog=>pB λoe=>pE<|pE<|pF (Ks N ot gy gx gw gv gu gt gr gm gj om oj oh og oe) false λr=>.b r
theorem yZ(N:Nat):AG Tryz.prog 130 (Aef N):=by
 refine Ar x130.ok<|Aw<|Aa λot=>Aa λgy=>Aa λgx=>Aa λgw=>AF λgv=>Aa λgu=>Aa λgt=>Aa λgr=>Aa λgm=>Aa λgj=>Aa λom=>Aa λoj=>Aa λoh=>Aa λog=>AX λoe=>Ad<|Ad<|As λr h=>wx x130 (Ab (Pj N)<|Aj) λ_ hS F=>?_
 dsimp only[x130,Ah,Aq];unfold Ks at h;obtain⟨pd,qd,h⟩:=un h;exact Ai hS (fc qd F) h
def Kt(N:Nat)(od:Int)(gi:Int)(n9:Int)(n8:Int)(n7:List (Int×Int))(n6:Int)(n5:Int)(n4:Int)(n0:Int)(nz:Int)(ny:Int)(nw:Int)(nv:Int)(nu:Int)(nr:Bool):Option ((List Int)×(List Int)):=(E5 N gi).bind λo9=>some (o9,[])
@[go_sem] def Aeg(N:Nat):Spec:=p0<|pG<|pI λod=>pI λgi=>pI λn9=>pI λn8=>pS Aq λn7=>pI λn6=>pI λn5=>pI λn4=>pI λn0=>pI λnz=>pI λny=>pI λnw=>pI λnv=>pI λnu=>pB λnr=>pE<|pE<|pF (Kt N od gi n9 n8 n7 n6 n5 n4 n0 nz ny nw nv nu nr) ([],[]) λr=>.tup [FW r.1,FW r.2]
theorem zC(N:Nat):AG Tryz.prog 131 (Aeg N):=by
 refine Ar x131.ok<|Aw<|Aa λod=>Aa λgi=>Aa λn9=>Aa λn8=>AF λn7=>Aa λn6=>Aa λn5=>Aa λn4=>Aa λn0=>Aa λnz=>Aa λny=>Aa λnw=>Aa λnv=>Aa λnu=>AX λnr=>Ad<|Ad<|As λr h=>wx x131 (Ab (Qd N)<|Aj) λ_ hS F=>?_
 dsimp only[x131,Ah,Aq];unfold Kt at h;obtain⟨o9,qc,h⟩:=un h;exact Ai hS (fc qc F) h
def Ku(N:Nat)(nq:Int)(bj:Int)(d6:Int)(d5:Int)(dz:List (Int×Int))(dw:Int)(du:Int)(gh:Int)(dt:Int)(dq:Int)(nj:Int)(nh:Int)(nf:Int)(nc:Int)(nb:Bool):Option Bool:=(Cv N gh).bind λig=>gd (((ig&&(decide (dt=0)))&&(decide (dq=0)))=true->((Ct N bj d6 d5 dz dw du).isSome=true))<|some ((((ig&&(decide (dt=0)))&&(decide (dq=0)))&&((Ct N bj d6 d5 dz dw du).getD false))&&(decide (bj=0)))
@[go_sem] def Aeh(N:Nat):Spec:=p0<|pG<|pI λnq=>pI λbj=>pI λd6=>pI λd5=>pS Aq λdz=>pI λdw=>pI λdu=>pI λgh=>pI λdt=>pI λdq=>pI λnj=>pI λnh=>pI λnf=>pI λnc=>pB λnb=>pE<|pE<|pF (Ku N nq bj d6 d5 dz dw du gh dt dq nj nh nf nc nb) false λr=>.b r
theorem zD(N:Nat):AG Tryz.prog 139 (Aeh N):=by
 refine Ar x139.ok<|Aw<|Aa λnq=>Aa λbj=>Aa λd6=>Aa λd5=>AF λdz=>Aa λdw=>Aa λdu=>Aa λgh=>Aa λdt=>Aa λdq=>Aa λnj=>Aa λnh=>Aa λnf=>Aa λnc=>AX λnb=>Ad<|Ad<|As λr h=>wx x139 (Ab (SH N)<|Ab (Qc N)<|Aj) λ_ hS F=>?_
 dsimp only[x139,Ah,Aq];unfold Ku at h;obtain⟨ig,qb,ql,h⟩:=un h;exact Ai hS (fc qb F) h
def Kv(N:Nat)(mz:Int)(my:Int)(mu:Int)(mt:Int)(mr:List (Int×Int))(mq:Int)(mo:Int)(gg:Int)(mn:Int)(mj:Int)(mh:Int)(mg:Int)(mf:Int)(me:Int)(md:Bool):Option ((List Int)×(List Int)):=(E5 N gg).bind λo0=>some (o0,[])
@[go_sem] def Aei(N:Nat):Spec:=p0<|pG<|pI λmz=>pI λmy=>pI λmu=>pI λmt=>pS Aq λmr=>pI λmq=>pI λmo=>pI λgg=>pI λmn=>pI λmj=>pI λmh=>pI λmg=>pI λmf=>pI λme=>pB λmd=>pE<|pE<|pF (Kv N mz my mu mt mr mq mo gg mn mj mh mg mf me md) ([],[]) λr=>.tup [FW r.1,FW r.2]
theorem zE(N:Nat):AG Tryz.prog 141 (Aei N):=by
 refine Ar x141.ok<|Aw<|Aa λmz=>Aa λmy=>Aa λmu=>Aa λmt=>AF λmr=>Aa λmq=>Aa λmo=>Aa λgg=>Aa λmn=>Aa λmj=>Aa λmh=>Aa λmg=>Aa λmf=>Aa λme=>AX λmd=>Ad<|Ad<|As λr h=>wx x141 (Ab (Qd N)<|Aj) λ_ hS F=>?_
 dsimp only[x141,Ah,Aq];unfold Kv at h;obtain⟨o0,pz,h⟩:=un h;exact Ai hS (fc pz F) h
def JP(N:Nat)(mc:Int)(aa:Int)(aw:Int)(av:Int)(au:List (Int×Int))(aq:Int)(an:Int)(ai:Int)(am:Int)(bi:Int)(mb:Int)(ma:Int)(l7:Int)(l6:Int)(l5:Bool):Option Bool:=(Cv N ai).bind λbb=>gd (bb=true->((Cv N aa).isSome=true))<|gd (((bb&&((Cv N aa).getD false))&&(decide (ai≠aa)))=true->((Ct N aa aw av au aq an).isSome=true))<|gd ((((bb&&((Cv N aa).getD false))&&(decide (ai≠aa)))&&((Ct N aa aw av au aq an).getD false))=true->((BM N am 0 7).isSome=true))<|gd (((((bb&&((Cv N aa).getD false))&&(decide (ai≠aa)))&&((Ct N aa aw av au aq an).getD false))&&((BM N am 0 7).getD false))=true->((BM N bi 0 7).isSome=true))<|some ((((((bb&&((Cv N aa).getD false))&&(decide (ai≠aa)))&&((Ct N aa aw av au aq an).getD false))&&((BM N am 0 7).getD false))&&((BM N bi 0 7).getD false))&&(decide (am≠bi)))
@[go_sem] def Aej(N:Nat):Spec:=p0<|pG<|pI λmc=>pI λaa=>pI λaw=>pI λav=>pS Aq λau=>pI λaq=>pI λan=>pI λai=>pI λam=>pI λbi=>pI λmb=>pI λma=>pI λl7=>pI λl6=>pB λl5=>pE<|pE<|pF (JP N mc aa aw av au aq an ai am bi mb ma l7 l6 l5) false λr=>.b r
theorem zF(N:Nat):AG Tryz.prog 150 (Aej N):=by
 refine Ar x150.ok<|Aw<|Aa λmc=>Aa λaa=>Aa λaw=>Aa λav=>AF λau=>Aa λaq=>Aa λan=>Aa λai=>Aa λam=>Aa λbi=>Aa λmb=>Aa λma=>Aa λl7=>Aa λl6=>AX λl5=>Ad<|Ad<|As λr h=>wx x150 (Ab (SH N)<|Ab (Qc N)<|Ab (QT N)<|Aj) λ_ hS F=>?_
 dsimp only[x150,Ah,Aq];unfold JP at h;obtain⟨bb,pv,ql,qx,qu,qz,h⟩:=un h;exact Ai hS (fc pv F) h
def JQ(N:Nat)(lz:Int)(dm:Int)(lr:Int)(lq:Int)(lm:List (Int×Int))(lj:Int)(li:Int)(dl:Int)(lh:Int)(lg:Int)(lf:Int)(kz:Int)(kw:Int)(kv:Int)(kr:Bool):Option ((List Int)×(List Int)):=some ([min dl dm,max dl dm],[])
@[go_sem] def Aek(N:Nat):Spec:=p0<|pG<|pI λlz=>pI λdm=>pI λlr=>pI λlq=>pS Aq λlm=>pI λlj=>pI λli=>pI λdl=>pI λlh=>pI λlg=>pI λlf=>pI λkz=>pI λkw=>pI λkv=>pB λkr=>pE<|pE<|pF (JQ N lz dm lr lq lm lj li dl lh lg lf kz kw kv kr) ([],[]) λr=>.tup [FW r.1,FW r.2]
theorem zG(N:Nat):AG Tryz.prog 151 (Aek N):=by
 refine Ar x151.ok<|Aw<|Aa λlz=>Aa λdm=>Aa λlr=>Aa λlq=>AF λlm=>Aa λlj=>Aa λli=>Aa λdl=>Aa λlh=>Aa λlg=>Aa λlf=>Aa λkz=>Aa λkw=>Aa λkv=>AX λkr=>Ad<|Ad<|As λr h=>wx x151 (Aj) λ_ hS F=>?_
 dsimp only[x151,Ah,Aq];unfold JQ at h;exact Ai hS F h
def JR(N:Nat)(kq:Int)(bh:Int)(dh:Int)(dg:Int)(de:List (Int×Int))(db:Int)(da:Int)(gc:Int)(af:Int)(ah:Int)(km:Int)(kl:Int)(kj:Int)(ki:Int)(kh:Bool):Option Bool:=(Cv N gc).bind λbo=>gd (bo=true->((BM N af (-40) 40).isSome=true))<|gd ((bo&&((BM N af (-40) 40).getD false))=true->((BM N ah (-40) 40).isSome=true))<|gd ((((bo&&((BM N af (-40) 40).getD false))&&((BM N ah (-40) 40).getD false))&&((decide (af≠0))||(decide (ah≠0))))=true->((Ct N bh dh dg de db da).isSome=true))<|some (((((bo&&((BM N af (-40) 40).getD false))&&((BM N ah (-40) 40).getD false))&&((decide (af≠0))||(decide (ah≠0))))&&((Ct N bh dh dg de db da).getD false))&&(decide (bh=0)))
@[go_sem] def Ael(N:Nat):Spec:=p0<|pG<|pI λkq=>pI λbh=>pI λdh=>pI λdg=>pS Aq λde=>pI λdb=>pI λda=>pI λgc=>pI λaf=>pI λah=>pI λkm=>pI λkl=>pI λkj=>pI λki=>pB λkh=>pE<|pE<|pF (JR N kq bh dh dg de db da gc af ah km kl kj ki kh) false λr=>.b r
theorem zH(N:Nat):AG Tryz.prog 155 (Ael N):=by
 refine Ar x155.ok<|Aw<|Aa λkq=>Aa λbh=>Aa λdh=>Aa λdg=>AF λde=>Aa λdb=>Aa λda=>Aa λgc=>Aa λaf=>Aa λah=>Aa λkm=>Aa λkl=>Aa λkj=>Aa λki=>AX λkh=>Ad<|Ad<|As λr h=>wx x155 (Ab (SH N)<|Ab (QT N)<|Ab (Qc N)<|Aj) λ_ hS F=>?_
 dsimp only[x155,Ah,Aq];unfold JR at h;obtain⟨bo,pq,ql,qx,qu,h⟩:=un h;exact Ai hS (fc pq F) h
def JS(N:Nat)(kg:Int)(kf:Int)(ke:Int)(ka:Int)(j9:List (Int×Int))(j8:Int)(j7:Int)(fr:Int)(j6:Int)(j5:Int)(j4:Int)(jz:Int)(jy:Int)(jx:Int)(jw:Bool):Option ((List Int)×(List Int)):=(E5 N fr).bind λoz=>some (oz,[])
@[go_sem] def Aem(N:Nat):Spec:=p0<|pG<|pI λkg=>pI λkf=>pI λke=>pI λka=>pS Aq λj9=>pI λj8=>pI λj7=>pI λfr=>pI λj6=>pI λj5=>pI λj4=>pI λjz=>pI λjy=>pI λjx=>pB λjw=>pE<|pE<|pF (JS N kg kf ke ka j9 j8 j7 fr j6 j5 j4 jz jy jx jw) ([],[]) λr=>.tup [FW r.1,FW r.2]
theorem zI(N:Nat):AG Tryz.prog 156 (Aem N):=by
 refine Ar x156.ok<|Aw<|Aa λkg=>Aa λkf=>Aa λke=>Aa λka=>AF λj9=>Aa λj8=>Aa λj7=>Aa λfr=>Aa λj6=>Aa λj5=>Aa λj4=>Aa λjz=>Aa λjy=>Aa λjx=>AX λjw=>Ad<|Ad<|As λr h=>wx x156 (Ab (Qd N)<|Aj) λ_ hS F=>?_
 dsimp only[x156,Ah,Aq];unfold JS at h;obtain⟨oz,pp,h⟩:=un h;exact Ai hS (fc pp F) h
def HI(N:Nat)(jv:Int)(bg:Int)(cy:Int)(cu:Int)(cr:List (Int×Int))(cq:Int)(co:Int)(fq:Int)(cn:Int)(ck:Int)(ju:Int)(jt:Int)(js:Int)(jr:Int)(jq:Bool):Option Bool:=(BM N fq 0 99).bind λic=>gd (((ic&&(decide (cn=0)))&&(decide (ck=0)))=true->((Ct N bg cy cu cr cq co).isSome=true))<|some ((((ic&&(decide (cn=0)))&&(decide (ck=0)))&&((Ct N bg cy cu cr cq co).getD false))&&(decide (bg=0)))
@[go_sem] def Aen(N:Nat):Spec:=p0<|pG<|pI λjv=>pI λbg=>pI λcy=>pI λcu=>pS Aq λcr=>pI λcq=>pI λco=>pI λfq=>pI λcn=>pI λck=>pI λju=>pI λjt=>pI λjs=>pI λjr=>pB λjq=>pE<|pE<|pF (HI N jv bg cy cu cr cq co fq cn ck ju jt js jr jq) false λr=>.b r
theorem dC(N:Nat):AG Tryz.prog 160 (Aen N):=by
 refine Ar x160.ok<|Aw<|Aa λjv=>Aa λbg=>Aa λcy=>Aa λcu=>AF λcr=>Aa λcq=>Aa λco=>Aa λfq=>Aa λcn=>Aa λck=>Aa λju=>Aa λjt=>Aa λjs=>Aa λjr=>AX λjq=>Ad<|Ad<|As λr h=>wx x160 (Ab (QT N)<|Ab (Qc N)<|Aj) λ_ hS F=>?_
 dsimp only[x160,Ah,Aq];unfold HI at h;obtain⟨ic,po,ql,h⟩:=un h;exact Ai hS (fc po F) h
def HJ(N:Nat)(jp:Int)(jo:Int)(jn:Int)(jm:Int)(jl:List (Int×Int))(jk:Int)(jj:Int)(fp:Int)(ji:Int)(jh:Int)(jg:Int)(jf:Int)(je:Int)(jd:Int)(jc:Bool):Option ((List Int)×(List Int)):=(E5 N fp).bind λoy=>some ([],oy)
@[go_sem] def Aeo(N:Nat):Spec:=p0<|pG<|pI λjp=>pI λjo=>pI λjn=>pI λjm=>pS Aq λjl=>pI λjk=>pI λjj=>pI λfp=>pI λji=>pI λjh=>pI λjg=>pI λjf=>pI λje=>pI λjd=>pB λjc=>pE<|pE<|pF (HJ N jp jo jn jm jl jk jj fp ji jh jg jf je jd jc) ([],[]) λr=>.tup [FW r.1,FW r.2]
theorem dD(N:Nat):AG Tryz.prog 161 (Aeo N):=by
 refine Ar x161.ok<|Aw<|Aa λjp=>Aa λjo=>Aa λjn=>Aa λjm=>AF λjl=>Aa λjk=>Aa λjj=>Aa λfp=>Aa λji=>Aa λjh=>Aa λjg=>Aa λjf=>Aa λje=>Aa λjd=>AX λjc=>Ad<|Ad<|As λr h=>wx x161 (Ab (Qd N)<|Aj) λ_ hS F=>?_
 dsimp only[x161,Ah,Aq];unfold HJ at h;obtain⟨oy,pn,h⟩:=un h;exact Ai hS (fc pn F) h
def Kw(N:Nat)(jb:Int)(bf:Int)(cj:Int)(ci:Int)(ce:List (Int×Int))(b9:Int)(b7:Int)(bz:Int)(bw:Int)(bv:Int)(fo:Int)(fj:Int)(fh:Int)(fg:Int)(e9:Bool):Option Bool:=(Ht N fo fj fh fg e9).bind λib=>gd ((((ib&&(decide (bz=0)))&&(decide (bw=0)))&&(decide (bv=0)))=true->((Ct N bf cj ci ce b9 b7).isSome=true))<|some (((((ib&&(decide (bz=0)))&&(decide (bw=0)))&&(decide (bv=0)))&&((Ct N bf cj ci ce b9 b7).getD false))&&(decide (bf=0)))
@[go_sem] def Aep(N:Nat):Spec:=p0<|pG<|pI λjb=>pI λbf=>pI λcj=>pI λci=>pS Aq λce=>pI λb9=>pI λb7=>pI λbz=>pI λbw=>pI λbv=>pI λfo=>pI λfj=>pI λfh=>pI λfg=>pB λe9=>pE<|pE<|pF (Kw N jb bf cj ci ce b9 b7 bz bw bv fo fj fh fg e9) false λr=>.b r
theorem zJ(N:Nat):AG Tryz.prog 163 (Aep N):=by
 refine Ar x163.ok<|Aw<|Aa λjb=>Aa λbf=>Aa λcj=>Aa λci=>AF λce=>Aa λb9=>Aa λb7=>Aa λbz=>Aa λbw=>Aa λbv=>Aa λfo=>Aa λfj=>Aa λfh=>Aa λfg=>AX λe9=>Ad<|Ad<|As λr h=>wx x163 (Ab (dB N)<|Ab (Qc N)<|Aj) λ_ hS F=>?_
 dsimp only[x163,Ah,Aq];unfold Kw at h;obtain⟨ib,pm,ql,h⟩:=un h;exact Ai hS (fc pm F) h
def Kx(N:Nat)(ja:Int)(i9:Int)(i8:Int)(i7:Int)(i6:List (Int×Int))(i5:Int)(i4:Int)(iz:Int)(iy:Int)(iw:Int)(e8:Int)(ez:Int)(iv:Int)(ir:Int)(iq:Bool):Option ((List Int)×(List Int)):=(E5 N ez).bind λox=>(E5 N e8).bind λow=>some (ox,ow)
@[go_sem] def s164(N:Nat):Spec:=p0<|pG<|pI λja=>pI λi9=>pI λi8=>pI λi7=>pS Aq λi6=>pI λi5=>pI λi4=>pI λiz=>pI λiy=>pI λiw=>pI λe8=>pI λez=>pI λiv=>pI λir=>pB λiq=>pE<|pE<|pF (Kx N ja i9 i8 i7 i6 i5 i4 iz iy iw e8 ez iv ir iq) ([],[]) λr=>.tup [FW r.1,FW r.2]
theorem zK(N:Nat):AG Tryz.prog 164 (s164 N):=by
 refine Ar x164.ok<|Aw<|Aa λja=>Aa λi9=>Aa λi8=>Aa λi7=>AF λi6=>Aa λi5=>Aa λi4=>Aa λiz=>Aa λiy=>Aa λiw=>Aa λe8=>Aa λez=>Aa λiv=>Aa λir=>AX λiq=>Ad<|Ad<|As λr h=>wx x164 (Ab (Qd N)<|Aj) λ_ hS F=>?_
 dsimp only[x164,Ah,Aq];unfold Kx at h;obtain⟨ox,pj,ow,pi,h⟩:=un h;exact Ai hS (fc pi (fc pj F)) h
