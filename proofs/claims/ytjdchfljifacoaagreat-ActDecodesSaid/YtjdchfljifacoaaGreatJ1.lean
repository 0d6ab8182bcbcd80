import Derived.Test.YtjdchfljifacoaaGreatN4
set_option linter.all false
set_option maxRecDepth 100000
set_option maxHeartbeats 8000000
namespace Go.Proofs.YtjdchfljifacoaaGreat.Am
noncomputable instance(f g:List Un):Decidable (f=g):=Classical.propDecidable _
theorem kT{N:Nat}{a b c a' b' c':Int}{l l':List Pt}{p q p' q':Int}(hl:l.length<N)(hN:N<=100000):C2 N a b c l p q a' b' c' l' p' q'=some (decide ((a,b,c,l,p,q)=(a',b',c',l',p',q'))):=by
 unfold C2;by_cases h:a=a'/\b=b'/\c=c'/\p=p'/\q=q'/\l.length=l'.length
 ·obtain⟨rfl,rfl,rfl,rfl,rfl,hlen⟩:=h;rw[A1 _ (by simp[hlen])]
  let f:Nat->Option Bool:=λi=>if pa l i=pa l' i then none else some false
  have step:∀n (k:Nat),k<l.length->CN N l l' (n+1) k=(match f k with|some r=>some (.inr r)|none=>CN N l l' n ((k+1:Nat):Int)):=λn k hk=>by
   rw[CN,Dq hk,cT,F1 hk,bS];simp only;rw[F1 (by omega),bS];simp only;by_cases e:pa l k=pa l' k
   ·rw[A1 _ (by simp[e]),show f k=none from dX e,Ae (by unfold Af;omega),ns]
   ·rw[AU _ (by
     rw[tL,vF];simp only[bK];by_cases h1:(pa l k).1=(pa l' k).1
     ·exact .inr λh2=>e (Prod.ext h1 h2)
     ·exact .inl h1),show f k=some false from dW e]
  have F:=GK (L:=CN N l l') (len:=l.length) f (λn k hk e=>by rw[step n k hk,e]) (λn k r hk e=>by rw[step n k hk,e]) (λn=>by rw[CN,F2,cF]) N (by omega);rcases F with⟨e,hf⟩|⟨j,r,hj,hf,_,e⟩
  ·rw[e,bS];have:l=l':=List.ext_getElem hlen λi h1 h2=>by
    have:=hf i h1;by_cases hp:pa l i=pa l' i
    ·rw[De h1,De h2]at hp;exact hp
    ·rw[show f i=some false from dW hp]at this;cases this
   subst this;simp
  ·rw[e,bS];have hne:¬l=l':=λe=>by subst e;rw[show f j=none from dX rfl]at hf;cases hf
   by_cases hp:pa l j=pa l' j
   ·rw[show f j=none from dX hp]at hf;cases hf
   ·rw[show f j=some false from dW hp]at hf;cases hf
    simp[hne]
 ·rw[AU _ (by
   simp only[qZ,bJ];by_cases h1:a=a'
   ·by_cases h2:b=b'
    ·by_cases h3:c=c'
     ·by_cases h4:p=p'
      ·by_cases h5:q=q'
       ·exact .inr λh6=>h ⟨h1,h2,h3,h4,h5,by omega⟩
       ·exact .inl (.inr h5)
      ·exact .inl (.inl (.inr h4))
     ·exact .inl (.inl (.inl (.inr h3)))
    ·exact .inl (.inl (.inl (.inl (.inr h2))))
   ·exact .inl (.inl (.inl (.inl (.inl h1)))))]
  congr 1;symm;refine aB λe=>h ?_
  simp only[F9]at e;obtain⟨rfl,rfl,rfl,rfl,rfl,rfl⟩:=e;simp
theorem FV.shp{f:List Un}(h:FV f):∀u∈f,u.2.2.2.1.length<1000:=λu hu=>by have:=(h.val u hu).l.l8;omega
section
open Go
attribute [local irreducible] Ax BO BB Bj BC Bk AY BD BK Cq
def BZ(x:Int×Int×Int×Int×Bool):List AV:=[.i x.1,.i x.2.1,.i x.2.2.1,.i x.2.2.2.1,.b x.2.2.2.2]
def E8:List AV->Int×Int×Int×Int×Bool|[.v (.int _ a1),.v (.int _ a2),.v (.int _ a3),.v (.int _ a4),.v (.bool a5)]=>(a1,a2,a3,a4,a5)|_=>(0,0,0,0,false)
theorem jM(x:Int×Int×Int×Int×Bool):E8 (BZ x)=x:=by rfl
theorem jN(R:List (Int×Int×Int×Int×Bool)):(R.map BZ).map E8=R:=by
 induction R with
 |nil=>rfl
 |cons r R ih=>rw[eG,eG,ih,jM]
theorem jO(R:List (Int×Int×Int×Int×Bool))(i:Nat):A6 (R.map BZ) [.i 0,.i 0,.i 0,.i 0,.b false] i=BZ (R.getD i (0,0,0,0,false)):=by unfold A6;rw[cY,cY,nL];cases R[i]? <;>rfl
def AA:Rw (Int×Int×Int×Int×Bool):=⟨5,BZ,E8,[.i 0,.i 0,.i 0,.i 0,.b false]⟩
def AS(l:List (Int×Int×Int×Int×Bool)):AV:=.sl 5 false (l.map BZ) [.i 0,.i 0,.i 0,.i 0,.b false]
def EH(l:List (Int×Int×Int×Int×Bool)):AV:=.sl 5 true (l.map BZ) [.i 0,.i 0,.i 0,.i 0,.b false]
attribute [go_sem] AA AS EH BZ E8 jN jO
def BM(N:Nat)(bq:Int)(aj:Int)(ae:Int):Option Bool:=some ((decide (aj<=bq))&&(decide (bq<=ae)))
@[go_sem] def s80(N:Nat):Spec:=p0<|pI λbq=>pI λaj=>pI λae=>pE<|pF (BM N bq aj ae) false λr=>.b r
theorem QT(N:Nat):AG Tryz.prog 80 (s80 N):=by
 refine Ar x80.ok<|Aa λbq=>Aa λaj=>Aa λae=>Ad<|As λr h=>wx x80 (Aj) λ_ hS F=>?_
 dsimp only[x80,Ah];unfold BM at h;exact Ai hS F h
def Cv(N:Nat)(ej:Int):Option Bool:=(BM N ej 0 99).bind λoy=>some oy
@[go_sem] def Aeb(N:Nat):Spec:=p0<|pI λej=>pE<|pF (Cv N ej) false λr=>.b r
theorem SH(N:Nat):AG Tryz.prog 126 (Aeb N):=by
 refine Ar x126.ok<|Aa λej=>Ad<|As λr h=>wx x126 (Ab (QT N)<|Aj) λ_ hS F=>?_
 dsimp only[x126,Ah];unfold Cv at h;obtain⟨oy,qd,h⟩:=un h;exact Ai hS (fc qd F) h
def Ht(N:Nat)(eu:Int)(ak:Int)(be:Int)(br:Int)(il:Bool):Option Bool:=(BM N eu 0 99).bind λbp=>gd (bp=true->((Cv N ak).isSome=true))<|gd ((bp&&((Cv N ak).getD false))=true->((BM N be (-2) 7).isSome=true))<|gd (((bp&&((Cv N ak).getD false))&&((BM N be (-2) 7).getD false))=true->((BM N br 1 5).isSome=true))<|some (((bp&&((Cv N ak).getD false))&&((BM N be (-2) 7).getD false))&&((BM N br 1 5).getD false))
@[go_sem] def Aec(N:Nat):Spec:=p0<|pG<|pI λeu=>pI λak=>pI λbe=>pI λbr=>pB λil=>pE<|pE<|pF (Ht N eu ak be br il) false λr=>.b r
theorem dB(N:Nat):AG Tryz.prog 103 (Aec N):=by
 refine Ar x103.ok<|Aw<|Aa λeu=>Aa λak=>Aa λbe=>Aa λbr=>AX λil=>Ad<|Ad<|As λr h=>wx x103 (Ab (QT N)<|Ab (SH N)<|Aj) λ_ hS F=>?_
 dsimp only[x103,Ah];unfold Ht at h;obtain⟨bp,qc,qg,qr,qo,h⟩:=un h;exact Ai hS (fc qc F) h
def Ct(N:Nat)(g9:Int)(ei:Int)(eh:Int)(u2411:List (Int×Int))(ee:Int)(d9:Int):Option Bool:=some (((((decide (ei=0))&&(decide (eh=0)))&&(decide ((u2411.length:Int)=0)))&&(decide (ee=0)))&&(decide (d9=0)))
@[go_sem] def Aed(N:Nat):Spec:=p0<|pG<|pI λg9=>pI λei=>pI λeh=>pS Aq λu2411=>pI λee=>pI λd9=>pE<|pE<|pF (Ct N g9 ei eh u2411 ee d9) false λr=>.b r
theorem Qc(N:Nat):AG Tryz.prog 140 (Aed N):=by
 refine Ar x140.ok<|Aw<|Aa λg9=>Aa λei=>Aa λeh=>AF λu2411=>Aa λee=>Aa λd9=>Ad<|Ad<|As λr h=>wx x140 (Aj) λ_ hS F=>?_
 dsimp only[x140,Ah,Aq];unfold Ct at h;exact Ai hS F h
def E5(N:Nat)(bl:Int):Option (List Int):=some [bl]
@[go_sem] def Aee(N:Nat):Spec:=p0<|pI λbl=>pE<|pF (E5 N bl) [] λr=>FW r
theorem Qd(N:Nat):AG Tryz.prog 132 (Aee N):=by
 refine Ar x132.ok<|Aa λbl=>Ad<|As λr h=>wx x132 (Aj) λ_ hS F=>?_
 dsimp only[x132,Ah];unfold E5 at h;exact Ai hS F h
def E6(N:Nat)(s2416:List (Int×Int×Int×Int×Bool))(ab:List (Int×Int×Int×(List (Int×Int))×Int×Int)):Nat->Int->Int->Option (Sum Unit Bool)|0,_,_=>none|n+1,bu,az=>bif decide (az<(s2416.length:Int))then((A7 s2416 az).bind λ(ay,d8,d7,g8,gz)=>(Dk N ab d8).bind λ((qn,qm,ql,r2444,qk,qj),ii)=>gd ((!(!ii))=true->((Ht N ay d8 d7 g8 gz).isSome=true))<|bif (((!ii)||(!((Ht N ay d8 d7 g8 gz).getD false)))||(decide (ay<=bu)))||(decide ((r2444.length:Int)<=d7))then(some (.inr false))else(gd (Af (az+1))<|E6 N s2416 ab n ay (az+1)))else(some (.inl ()))
def CV(N:Nat)(ab:List (Int×Int×Int×(List (Int×Int))×Int×Int))(s2416:List (Int×Int×Int×Int×Bool)):Option Bool:=(E6 N s2416 ab N (-1) 0).bind λij=>match ij with|.inl ()=>(some (decide ((s2416.length:Int)<=20)))|.inr qh=>(some qh)
@[go_sem] def nX(N:Nat):Spec:=p0<|pG<|pD Ak λab=>pD AA λs2416=>pE<|pE<|pF (CV N ab s2416) false λr=>.b r
theorem NY(N:Nat):AG Tryz.prog 59 (nX N):=by
 refine Ar x59.ok<|Aw<|AM λab=>AM λs2416=>Ad<|Ad<|As λr h=>wx x59 (Ab (Zz N)<|Ab (dB N)<|Aj) λ_ hS F=>?_
 dsimp only[x59,Ah,AA,Ak];unfold CV at h;obtain⟨ij,qw,h⟩:=un h;refine go hS F ?_;refine Bz ij (λz:Nat=>⟨[(1,.box (0,1) 0)],[(.c (0,1) 0,Ap ab),(.c (0,1) 1,AS s2416)],z⟩) (λz=>(.inl ():Sum Unit Bool)) (.x 0) ?_ ?_
 ·refine Bp (λn (y:Int×Int×Nat)=>E6 N s2416 ab n y.1 y.2.1) (λy=>⟨[(1,.box (0,1) 0),(3,.i y.1),(9,AS s2416),(10,.i (s2416.length:Int)),(11,.i y.2.1)],[(.c (0,1) 0,Ap ab),(.c (0,1) 1,AS s2416)],y.2.2⟩) ((-1),0,3) qw (Ch F) ?_;rintro n ⟨bu,az,oz⟩ bm;simp only[E6]at bm;refine An hS F bm (λ_ bm=>?_) (λ_ bm=>?_)
  ·obtain⟨⟨ay,d8,d7,g8,gz⟩,qe,bm⟩:=un bm;obtain⟨qq,F⟩:=Cb BZ qe F;obtain⟨⟨⟨qn,qm,ql,r2444,qk,qj⟩,ii⟩,qb,bm⟩:=un bm;obtain⟨qo,bm⟩:=un bm;replace F:=fc qb F;refine An hS F bm (λ_ bm=>?_) (λ_ bm=>?_)
   ·obtain rfl:=yJ bm;exact Ai hS F h
   ·obtain⟨qu,bm⟩:=un bm;exact Cd hS F (n,ay,az+1,oz+1+1+1+1+1+1) bm
  ·exact B4 hS F (oz+1) bm
 ·rintro qt rfl;exact Ai hS F h
def Dw(N:Nat)(ba:List (Int×Int×Int×(List (Int×Int))×Int×Int))(bn:List (Int×Int×Int×Int×Bool)):Option Bool:=(ER N ba).bind λig=>gd (ig=true->((CV N ba bn).isSome=true))<|some (ig&&((CV N ba bn).getD false))
@[go_sem] def Ws(N:Nat):Spec:=p0<|pG<|pD Ak λba=>pD AA λbn=>pE<|pE<|pF (Dw N ba bn) false λr=>.b r
theorem ZG(N:Nat):AG Tryz.prog 19 (Ws N):=by
 refine Ar x19.ok<|Aw<|AM λba=>AM λbn=>Ad<|Ad<|As λr h=>wx x19 (Ab (SG N)<|Ab (NY N)<|Aj) λ_ hS F=>?_
 dsimp only[x19,Ah,AA,Ak];unfold Dw at h;obtain⟨ig,pz,qg,h⟩:=un h;exact Ai hS (fc pz F) h
def Ks(N:Nat)(og:Int)(gy:Int)(gx:Int)(gw:Int)(gv:List (Int×Int))(gu:Int)(gt:Int)(gr:Int)(gm:Int)(gj:Int)(oe:Int)(od:Int)(oc:Int)(oa:Int)(n9:Bool):Option Bool:=(B6 N gy gx gw gv gu gt).bind λox=>some (((ox&&(decide (gr=0)))&&(decide (gm=0)))&&(decide (gj=0)))
@[go_sem] def Aef(N:Nat):Spec:=p0<|pG<|pI λog=>pI λgy=>pI λgx=>pI λgw=>pS Aq λgv=>pI λgu=>pI λgt=>pI λgr=>pI λgm=>pI λgj=>pI λoe=>pI λod=>pI λoc=>pI λoa=>pB λn9=>pE<|pE<|pF (Ks N og gy gx gw gv gu gt gr gm gj oe od oc oa n9) false λr=>.b r
theorem yZ(N:Nat):AG Tryz.prog 130 (Aef N):=by
 refine Ar x130.ok<|Aw<|Aa λog=>Aa λgy=>Aa λgx=>Aa λgw=>AF λgv=>Aa λgu=>Aa λgt=>Aa λgr=>Aa λgm=>Aa λgj=>Aa λoe=>Aa λod=>Aa λoc=>Aa λoa=>AX λn9=>Ad<|Ad<|As λr h=>wx x130 (Ab (Pj N)<|Aj) λ_ hS F=>?_
 dsimp only[x130,Ah,Aq];unfold Ks at h;obtain⟨ox,pv,h⟩:=un h;exact Ai hS (fc pv F) h
def Kt(N:Nat)(n8:Int)(gi:Int)(n7:Int)(n6:Int)(n5:List (Int×Int))(n4:Int)(n0:Int)(nz:Int)(ny:Int)(nw:Int)(nv:Int)(nu:Int)(nr:Int)(nq:Int)(nl:Bool):Option ((List Int)×(List Int)):=(E5 N gi).bind λow=>some (ow,[])
@[go_sem] def Aeg(N:Nat):Spec:=p0<|pG<|pI λn8=>pI λgi=>pI λn7=>pI λn6=>pS Aq λn5=>pI λn4=>pI λn0=>pI λnz=>pI λny=>pI λnw=>pI λnv=>pI λnu=>pI λnr=>pI λnq=>pB λnl=>pE<|pE<|pF (Kt N n8 gi n7 n6 n5 n4 n0 nz ny nw nv nu nr nq nl) ([],[]) λr=>.tup [FW r.1,FW r.2]
theorem zC(N:Nat):AG Tryz.prog 131 (Aeg N):=by
 refine Ar x131.ok<|Aw<|Aa λn8=>Aa λgi=>Aa λn7=>Aa λn6=>AF λn5=>Aa λn4=>Aa λn0=>Aa λnz=>Aa λny=>Aa λnw=>Aa λnv=>Aa λnu=>Aa λnr=>Aa λnq=>AX λnl=>Ad<|Ad<|As λr h=>wx x131 (Ab (Qd N)<|Aj) λ_ hS F=>?_
 dsimp only[x131,Ah,Aq];unfold Kt at h;obtain⟨ow,pq,h⟩:=un h;exact Ai hS (fc pq F) h
def Ku(N:Nat)(nk:Int)(bj:Int)(dz:Int)(dw:Int)(du:List (Int×Int))(dt:Int)(dq:Int)(gh:Int)(dp:Int)(dm:Int)(nj:Int)(nh:Int)(ng:Int)(nf:Int)(nc:Bool):Option Bool:=(Cv N gh).bind λie=>gd (((ie&&(decide (dp=0)))&&(decide (dm=0)))=true->((Ct N bj dz dw du dt dq).isSome=true))<|some ((((ie&&(decide (dp=0)))&&(decide (dm=0)))&&((Ct N bj dz dw du dt dq).getD false))&&(decide (bj=0)))
@[go_sem] def Aeh(N:Nat):Spec:=p0<|pG<|pI λnk=>pI λbj=>pI λdz=>pI λdw=>pS Aq λdu=>pI λdt=>pI λdq=>pI λgh=>pI λdp=>pI λdm=>pI λnj=>pI λnh=>pI λng=>pI λnf=>pB λnc=>pE<|pE<|pF (Ku N nk bj dz dw du dt dq gh dp dm nj nh ng nf nc) false λr=>.b r
theorem zD(N:Nat):AG Tryz.prog 139 (Aeh N):=by
 refine Ar x139.ok<|Aw<|Aa λnk=>Aa λbj=>Aa λdz=>Aa λdw=>AF λdu=>Aa λdt=>Aa λdq=>Aa λgh=>Aa λdp=>Aa λdm=>Aa λnj=>Aa λnh=>Aa λng=>Aa λnf=>AX λnc=>Ad<|Ad<|As λr h=>wx x139 (Ab (SH N)<|Ab (Qc N)<|Aj) λ_ hS F=>?_
 dsimp only[x139,Ah,Aq];unfold Ku at h;obtain⟨ie,pp,qg,h⟩:=un h;exact Ai hS (fc pp F) h
def Kv(N:Nat)(nb:Int)(mz:Int)(my:Int)(mu:Int)(mt:List (Int×Int))(mr:Int)(mq:Int)(gg:Int)(mo:Int)(mn:Int)(mj:Int)(mh:Int)(mg:Int)(mf:Int)(me:Bool):Option ((List Int)×(List Int)):=(E5 N gg).bind λov=>some (ov,[])
@[go_sem] def Aei(N:Nat):Spec:=p0<|pG<|pI λnb=>pI λmz=>pI λmy=>pI λmu=>pS Aq λmt=>pI λmr=>pI λmq=>pI λgg=>pI λmo=>pI λmn=>pI λmj=>pI λmh=>pI λmg=>pI λmf=>pB λme=>pE<|pE<|pF (Kv N nb mz my mu mt mr mq gg mo mn mj mh mg mf me) ([],[]) λr=>.tup [FW r.1,FW r.2]
theorem zE(N:Nat):AG Tryz.prog 141 (Aei N):=by
 refine Ar x141.ok<|Aw<|Aa λnb=>Aa λmz=>Aa λmy=>Aa λmu=>AF λmt=>Aa λmr=>Aa λmq=>Aa λgg=>Aa λmo=>Aa λmn=>Aa λmj=>Aa λmh=>Aa λmg=>Aa λmf=>AX λme=>Ad<|Ad<|As λr h=>wx x141 (Ab (Qd N)<|Aj) λ_ hS F=>?_
 dsimp only[x141,Ah,Aq];unfold Kv at h;obtain⟨ov,po,h⟩:=un h;exact Ai hS (fc po F) h
def JP(N:Nat)(md:Int)(aa:Int)(aw:Int)(av:Int)(au:List (Int×Int))(aq:Int)(an:Int)(ai:Int)(am:Int)(bi:Int)(mc:Int)(mb:Int)(ma:Int)(l7:Int)(lz:Bool):Option Bool:=(Cv N ai).bind λbb=>gd (bb=true->((Cv N aa).isSome=true))<|gd (((bb&&((Cv N aa).getD false))&&(decide (ai≠aa)))=true->((Ct N aa aw av au aq an).isSome=true))<|gd ((((bb&&((Cv N aa).getD false))&&(decide (ai≠aa)))&&((Ct N aa aw av au aq an).getD false))=true->((BM N am 0 7).isSome=true))<|gd (((((bb&&((Cv N aa).getD false))&&(decide (ai≠aa)))&&((Ct N aa aw av au aq an).getD false))&&((BM N am 0 7).getD false))=true->((BM N bi 0 7).isSome=true))<|some ((((((bb&&((Cv N aa).getD false))&&(decide (ai≠aa)))&&((Ct N aa aw av au aq an).getD false))&&((BM N am 0 7).getD false))&&((BM N bi 0 7).getD false))&&(decide (am≠bi)))
@[go_sem] def Aej(N:Nat):Spec:=p0<|pG<|pI λmd=>pI λaa=>pI λaw=>pI λav=>pS Aq λau=>pI λaq=>pI λan=>pI λai=>pI λam=>pI λbi=>pI λmc=>pI λmb=>pI λma=>pI λl7=>pB λlz=>pE<|pE<|pF (JP N md aa aw av au aq an ai am bi mc mb ma l7 lz) false λr=>.b r
theorem zF(N:Nat):AG Tryz.prog 150 (Aej N):=by
 refine Ar x150.ok<|Aw<|Aa λmd=>Aa λaa=>Aa λaw=>Aa λav=>AF λau=>Aa λaq=>Aa λan=>Aa λai=>Aa λam=>Aa λbi=>Aa λmc=>Aa λmb=>Aa λma=>Aa λl7=>AX λlz=>Ad<|Ad<|As λr h=>wx x150 (Ab (SH N)<|Ab (Qc N)<|Ab (QT N)<|Aj) λ_ hS F=>?_
 dsimp only[x150,Ah,Aq];unfold JP at h;obtain⟨bb,pm,qg,qr,qo,qu,h⟩:=un h;exact Ai hS (fc pm F) h
def JQ(N:Nat)(lr:Int)(dl:Int)(lq:Int)(lm:Int)(lj:List (Int×Int))(li:Int)(lh:Int)(dh:Int)(lg:Int)(lf:Int)(kz:Int)(kw:Int)(kv:Int)(kr:Int)(kq:Bool):Option ((List Int)×(List Int)):=some ([min dh dl,max dh dl],[])
@[go_sem] def Aek(N:Nat):Spec:=p0<|pG<|pI λlr=>pI λdl=>pI λlq=>pI λlm=>pS Aq λlj=>pI λli=>pI λlh=>pI λdh=>pI λlg=>pI λlf=>pI λkz=>pI λkw=>pI λkv=>pI λkr=>pB λkq=>pE<|pE<|pF (JQ N lr dl lq lm lj li lh dh lg lf kz kw kv kr kq) ([],[]) λr=>.tup [FW r.1,FW r.2]
theorem zG(N:Nat):AG Tryz.prog 151 (Aek N):=by
 refine Ar x151.ok<|Aw<|Aa λlr=>Aa λdl=>Aa λlq=>Aa λlm=>AF λlj=>Aa λli=>Aa λlh=>Aa λdh=>Aa λlg=>Aa λlf=>Aa λkz=>Aa λkw=>Aa λkv=>Aa λkr=>AX λkq=>Ad<|Ad<|As λr h=>wx x151 (Aj) λ_ hS F=>?_
 dsimp only[x151,Ah,Aq];unfold JQ at h;exact Ai hS F h
def JR(N:Nat)(km:Int)(bh:Int)(dg:Int)(db:Int)(da:List (Int×Int))(cz:Int)(cy:Int)(gc:Int)(af:Int)(ah:Int)(kl:Int)(kj:Int)(ki:Int)(kh:Int)(kg:Bool):Option Bool:=(Cv N gc).bind λbo=>gd (bo=true->((BM N af (-40) 40).isSome=true))<|gd ((bo&&((BM N af (-40) 40).getD false))=true->((BM N ah (-40) 40).isSome=true))<|gd ((((bo&&((BM N af (-40) 40).getD false))&&((BM N ah (-40) 40).getD false))&&((decide (af≠0))||(decide (ah≠0))))=true->((Ct N bh dg db da cz cy).isSome=true))<|some (((((bo&&((BM N af (-40) 40).getD false))&&((BM N ah (-40) 40).getD false))&&((decide (af≠0))||(decide (ah≠0))))&&((Ct N bh dg db da cz cy).getD false))&&(decide (bh=0)))
@[go_sem] def Ael(N:Nat):Spec:=p0<|pG<|pI λkm=>pI λbh=>pI λdg=>pI λdb=>pS Aq λda=>pI λcz=>pI λcy=>pI λgc=>pI λaf=>pI λah=>pI λkl=>pI λkj=>pI λki=>pI λkh=>pB λkg=>pE<|pE<|pF (JR N km bh dg db da cz cy gc af ah kl kj ki kh kg) false λr=>.b r
theorem zH(N:Nat):AG Tryz.prog 155 (Ael N):=by
 refine Ar x155.ok<|Aw<|Aa λkm=>Aa λbh=>Aa λdg=>Aa λdb=>AF λda=>Aa λcz=>Aa λcy=>Aa λgc=>Aa λaf=>Aa λah=>Aa λkl=>Aa λkj=>Aa λki=>Aa λkh=>AX λkg=>Ad<|Ad<|As λr h=>wx x155 (Ab (SH N)<|Ab (QT N)<|Ab (Qc N)<|Aj) λ_ hS F=>?_
 dsimp only[x155,Ah,Aq];unfold JR at h;obtain⟨bo,pj,qg,qr,qo,h⟩:=un h;exact Ai hS (fc pj F) h
def JS(N:Nat)(kf:Int)(ke:Int)(ka:Int)(j9:Int)(j8:List (Int×Int))(j7:Int)(j6:Int)(fr:Int)(j5:Int)(j4:Int)(jz:Int)(jy:Int)(jx:Int)(jw:Int)(jv:Bool):Option ((List Int)×(List Int)):=(E5 N fr).bind λot=>some (ot,[])
@[go_sem] def Aem(N:Nat):Spec:=p0<|pG<|pI λkf=>pI λke=>pI λka=>pI λj9=>pS Aq λj8=>pI λj7=>pI λj6=>pI λfr=>pI λj5=>pI λj4=>pI λjz=>pI λjy=>pI λjx=>pI λjw=>pB λjv=>pE<|pE<|pF (JS N kf ke ka j9 j8 j7 j6 fr j5 j4 jz jy jx jw jv) ([],[]) λr=>.tup [FW r.1,FW r.2]
theorem zI(N:Nat):AG Tryz.prog 156 (Aem N):=by
 refine Ar x156.ok<|Aw<|Aa λkf=>Aa λke=>Aa λka=>Aa λj9=>AF λj8=>Aa λj7=>Aa λj6=>Aa λfr=>Aa λj5=>Aa λj4=>Aa λjz=>Aa λjy=>Aa λjx=>Aa λjw=>AX λjv=>Ad<|Ad<|As λr h=>wx x156 (Ab (Qd N)<|Aj) λ_ hS F=>?_
 dsimp only[x156,Ah,Aq];unfold JS at h;obtain⟨ot,pi,h⟩:=un h;exact Ai hS (fc pi F) h
def HI(N:Nat)(ju:Int)(bg:Int)(cu:Int)(cr:Int)(cq:List (Int×Int))(co:Int)(cn:Int)(fq:Int)(cm:Int)(ck:Int)(jt:Int)(js:Int)(jr:Int)(jq:Int)(jp:Bool):Option Bool:=(BM N fq 0 99).bind λic=>gd (((ic&&(decide (cm=0)))&&(decide (ck=0)))=true->((Ct N bg cu cr cq co cn).isSome=true))<|some ((((ic&&(decide (cm=0)))&&(decide (ck=0)))&&((Ct N bg cu cr cq co cn).getD false))&&(decide (bg=0)))
@[go_sem] def Aen(N:Nat):Spec:=p0<|pG<|pI λju=>pI λbg=>pI λcu=>pI λcr=>pS Aq λcq=>pI λco=>pI λcn=>pI λfq=>pI λcm=>pI λck=>pI λjt=>pI λjs=>pI λjr=>pI λjq=>pB λjp=>pE<|pE<|pF (HI N ju bg cu cr cq co cn fq cm ck jt js jr jq jp) false λr=>.b r
theorem dC(N:Nat):AG Tryz.prog 160 (Aen N):=by
 refine Ar x160.ok<|Aw<|Aa λju=>Aa λbg=>Aa λcu=>Aa λcr=>AF λcq=>Aa λco=>Aa λcn=>Aa λfq=>Aa λcm=>Aa λck=>Aa λjt=>Aa λjs=>Aa λjr=>Aa λjq=>AX λjp=>Ad<|Ad<|As λr h=>wx x160 (Ab (QT N)<|Ab (Qc N)<|Aj) λ_ hS F=>?_
 dsimp only[x160,Ah,Aq];unfold HI at h;obtain⟨ic,ph,qg,h⟩:=un h;exact Ai hS (fc ph F) h
def HJ(N:Nat)(jo:Int)(jn:Int)(jm:Int)(jl:Int)(jk:List (Int×Int))(jj:Int)(ji:Int)(fp:Int)(jh:Int)(jg:Int)(jf:Int)(je:Int)(jd:Int)(jc:Int)(jb:Bool):Option ((List Int)×(List Int)):=(E5 N fp).bind λom=>some ([],om)
@[go_sem] def Aeo(N:Nat):Spec:=p0<|pG<|pI λjo=>pI λjn=>pI λjm=>pI λjl=>pS Aq λjk=>pI λjj=>pI λji=>pI λfp=>pI λjh=>pI λjg=>pI λjf=>pI λje=>pI λjd=>pI λjc=>pB λjb=>pE<|pE<|pF (HJ N jo jn jm jl jk jj ji fp jh jg jf je jd jc jb) ([],[]) λr=>.tup [FW r.1,FW r.2]
theorem dD(N:Nat):AG Tryz.prog 161 (Aeo N):=by
 refine Ar x161.ok<|Aw<|Aa λjo=>Aa λjn=>Aa λjm=>Aa λjl=>AF λjk=>Aa λjj=>Aa λji=>Aa λfp=>Aa λjh=>Aa λjg=>Aa λjf=>Aa λje=>Aa λjd=>Aa λjc=>AX λjb=>Ad<|Ad<|As λr h=>wx x161 (Ab (Qd N)<|Aj) λ_ hS F=>?_
 dsimp only[x161,Ah,Aq];unfold HJ at h;obtain⟨om,pg,h⟩:=un h;exact Ai hS (fc pg F) h
def Kw(N:Nat)(ja:Int)(bf:Int)(cj:Int)(ci:Int)(ce:List (Int×Int))(b9:Int)(b7:Int)(bz:Int)(bw:Int)(bv:Int)(fo:Int)(fm:Int)(fj:Int)(fh:Int)(fg:Bool):Option Bool:=(Ht N fo fm fj fh fg).bind λib=>gd ((((ib&&(decide (bz=0)))&&(decide (bw=0)))&&(decide (bv=0)))=true->((Ct N bf cj ci ce b9 b7).isSome=true))<|some (((((ib&&(decide (bz=0)))&&(decide (bw=0)))&&(decide (bv=0)))&&((Ct N bf cj ci ce b9 b7).getD false))&&(decide (bf=0)))
@[go_sem] def Aep(N:Nat):Spec:=p0<|pG<|pI λja=>pI λbf=>pI λcj=>pI λci=>pS Aq λce=>pI λb9=>pI λb7=>pI λbz=>pI λbw=>pI λbv=>pI λfo=>pI λfm=>pI λfj=>pI λfh=>pB λfg=>pE<|pE<|pF (Kw N ja bf cj ci ce b9 b7 bz bw bv fo fm fj fh fg) false λr=>.b r
theorem zJ(N:Nat):AG Tryz.prog 163 (Aep N):=by
 refine Ar x163.ok<|Aw<|Aa λja=>Aa λbf=>Aa λcj=>Aa λci=>AF λce=>Aa λb9=>Aa λb7=>Aa λbz=>Aa λbw=>Aa λbv=>Aa λfo=>Aa λfm=>Aa λfj=>Aa λfh=>AX λfg=>Ad<|Ad<|As λr h=>wx x163 (Ab (dB N)<|Ab (Qc N)<|Aj) λ_ hS F=>?_
 dsimp only[x163,Ah,Aq];unfold Kw at h;obtain⟨ib,pd,qg,h⟩:=un h;exact Ai hS (fc pd F) h
def Kx(N:Nat)(i9:Int)(i8:Int)(i7:Int)(i6:Int)(i5:List (Int×Int))(iz:Int)(iy:Int)(iw:Int)(iv:Int)(ir:Int)(e9:Int)(e8:Int)(iq:Int)(ip:Int)(im:Bool):Option ((List Int)×(List Int)):=(E5 N e8).bind λoj=>(E5 N e9).bind λoh=>some (oj,oh)
@[go_sem] def Ajh(N:Nat):Spec:=p0<|pG<|pI λi9=>pI λi8=>pI λi7=>pI λi6=>pS Aq λi5=>pI λiz=>pI λiy=>pI λiw=>pI λiv=>pI λir=>pI λe9=>pI λe8=>pI λiq=>pI λip=>pB λim=>pE<|pE<|pF (Kx N i9 i8 i7 i6 i5 iz iy iw iv ir e9 e8 iq ip im) ([],[]) λr=>.tup [FW r.1,FW r.2]
theorem zK(N:Nat):AG Tryz.prog 164 (Ajh N):=by
 refine Ar x164.ok<|Aw<|Aa λi9=>Aa λi8=>Aa λi7=>Aa λi6=>AF λi5=>Aa λiz=>Aa λiy=>Aa λiw=>Aa λiv=>Aa λir=>Aa λe9=>Aa λe8=>Aa λiq=>Aa λip=>AX λim=>Ad<|Ad<|As λr h=>wx x164 (Ab (Qd N)<|Aj) λ_ hS F=>?_
 dsimp only[x164,Ah,Aq];unfold Kx at h;obtain⟨oj,o9,oh,o0,h⟩:=un h;exact Ai hS (fc o0 (fc o9 F)) h
end
open Go
attribute [local irreducible] Ax BO BB Bj BC Bk AY BD BK Cq
def AH(N:Nat)(bu:Int)(bf:Int)(ba:Int):Option Bool:=some ((decide (bf<=bu))&&(decide (bu<=ba)))
@[go_sem] def s73(N:Nat):Spec:=p0<|pI λbu=>pI λbf=>pI λba=>pE<|pF (AH N bu bf ba) false λr=>.b r
theorem ZH(N:Nat):AG Tryz.prog 73 (s73 N):=by
 refine Ar x73.ok<|Aa λbu=>Aa λbf=>Aa λba=>Ad<|As λr h=>wx x73 (Aj) λ_ hS F=>?_
 dsimp only[x73,Ah];unfold AH at h;exact Ai hS F h
def FF(N:Nat)(cq:Int)(bi:Int)(bn:Int)(bv:Int)(ej:Bool):Option Bool:=(AH N cq 0 99).bind λbr=>gd (br=true->((AH N bi 0 99).isSome=true))<|gd ((br&&((AH N bi 0 99).getD false))=true->((AH N bn (-2) 7).isSome=true))<|gd (((br&&((AH N bi 0 99).getD false))&&((AH N bn (-2) 7).getD false))=true->((AH N bv 1 5).isSome=true))<|some (((br&&((AH N bi 0 99).getD false))&&((AH N bn (-2) 7).getD false))&&((AH N bv 1 5).getD false))
@[go_sem] def s61(N:Nat):Spec:=p0<|pG<|pI λcq=>pI λbi=>pI λbn=>pI λbv=>pB λej=>pE<|pE<|pF (FF N cq bi bn bv ej) false λr=>.b r
theorem nY(N:Nat):AG Tryz.prog 61 (s61 N):=by
 refine Ar x61.ok<|Aw<|Aa λcq=>Aa λbi=>Aa λbn=>Aa λbv=>AX λej=>Ad<|Ad<|As λr h=>wx x61 (Ab (ZH N)<|Aj) λ_ hS F=>?_
 dsimp only[x61,Ah];unfold FF at h;obtain⟨br,iv,jc,jz,jw,h⟩:=un h;exact Ai hS (fc iv F) h
def Eg(N:Nat)(s2673:List (Int×Int×Int×(List (Int×Int))×Int×Int))(ay:Int)(aw:Int):Nat->Bool->Int->Option Bool|0,_,_=>none|n+1,an,bo=>bif decide (bo<(s2673.length:Int))then((A7 s2673 bo).bind λ(du,jk,jj,x2734,ji,jh)=>gd (Af (bo+1))<|Eg N s2673 ay aw n (an||((decide (du=ay))&&(decide (aw<(x2734.length:Int))))) (bo+1))else(some an)
def C3(N:Nat)(s2674:List (Int×Int×Int×Int×Bool))(s2673:List (Int×Int×Int×(List (Int×Int))×Int×Int)):Nat->Int->Option (Sum Unit Bool)|0,_=>none|n+1,af=>bif decide (af<(s2674.length:Int))then((A7 s2674 af).bind λ(ce,ay,aw,dz,dw)=>(FF N ce ay aw dz dw).bind λg8=>gd ((decide (0<af))=true->(Af (af-1)))<|gd ((decide (0<af))=true->(0<=af-1/\af-1<(s2674.length:Int)))<|bif (!g8)||((decide (0<af))&&(decide (ce<=(s2674.getD (af-1).toNat (0,0,0,0,false)).1)))then(some (.inr false))else((Eg N s2673 ay aw N false 0).bind λbm=>bif !bm then(some (.inr false))else(gd (Af (af+1))<|C3 N s2674 s2673 n (af+1))))else(some (.inl ()))
def Bn(N:Nat)(s2673:List (Int×Int×Int×(List (Int×Int))×Int×Int))(s2674:List (Int×Int×Int×Int×Bool)):Option Bool:=(C8 N s2673).bind λg9=>bif (!g9)||(decide (20<(s2674.length:Int)))then(some false)else((C3 N s2674 s2673 N 0).bind λei=>match ei with|.inl ()=>(some true)|.inr jp=>(some jp))
@[go_sem] def s20(N:Nat):Spec:=p0<|pG<|pD Ak λs2673=>pD AA λs2674=>pE<|pE<|pF (Bn N s2673 s2674) false λr=>.b r
theorem nZ(N:Nat):AG Tryz.prog 20 (s20 N):=by
 refine Ar x20.ok<|Aw<|AM λs2673=>AM λs2674=>Ad<|Ad<|As λr h=>wx x20 (Ab (ZB N)<|Ab (nY N)<|Aj) λ_ hS F=>?_
 dsimp only[x20,Ah,AA,Ak];unfold Bn at h;obtain⟨g9,ir,h⟩:=un h;replace F:=fc ir F;refine An hS F h (λ_ h=>?_) (λ_ h=>?_)
 ·exact Ai hS F h
 ·obtain⟨ei,jb,h⟩:=un h;refine go hS F ?_;refine Bz ei (λz:Nat=>⟨[],[],z⟩) (λz=>(.inl ():Sum Unit Bool)) (.x 0) ?_ ?_
  ·refine Bp (λn (y:Int×Nat)=>C3 N s2674 s2673 n y.1) (λy=>⟨[(1,.box (0,1) 0),(3,.i y.1)],[(.c (0,1) 0,Ap s2673),(.c (0,1) 1,AS s2674)],y.2⟩) (0,3) jb (Ch F) ?_;rintro n ⟨af,be⟩ aa;simp only[C3]at aa;refine An hS F aa (λ_ aa=>?_) (λ_ aa=>?_)
   ·obtain⟨⟨ce,ay,aw,dz,dw⟩,i8,aa⟩:=un aa;obtain⟨ka,F⟩:=Cb BZ i8 F;obtain⟨g8,iq,jw,jv,aa⟩:=un aa;replace F:=fc iq F;refine An hS F aa (λ_ aa=>?_) (λ_ aa=>?_)
    ·obtain rfl:=yJ aa;exact Ai hS F h
    ·obtain⟨ju,km,aa⟩:=un aa;refine go hS F ?_;refine Bz ju (λz:Bool×Nat=>⟨[(1,.box (0,1) 0),(3,.i af),(5,.b z.1)],[(.c (0,1) 0,Ap s2673),(.c (0,1) 1,AS s2674)],z.2⟩) (λz=>(z.1:Bool)) (.x 2) ?_ ?_
     ·refine Bp (λn (y:Bool×Int×Nat)=>Eg N s2673 ay aw n y.1 y.2.1) (λy=>⟨[(1,.box (0,1) 0),(3,.i af),(4,.box (605,be+1+1) 0),(5,.b y.1),(6,.i y.2.1)],[(.c (605,be+1+1) 0,.i ce),(.c (605,be+1+1) 1,.i ay),(.c (605,be+1+1) 2,.i aw),(.c (605,be+1+1) 3,.i dz),(.c (605,be+1+1) 4,.b dw),(.c (0,1) 0,Ap s2673),(.c (0,1) 1,AS s2674)],y.2.2⟩) (false,0,be+1+1+1+1+1) km (Ch F) ?_;rintro n ⟨an,bo,ij⟩ e9;simp only[Eg]at e9;refine An hS F e9 (λ_ e9=>?_) (λ_ e9=>?_)
      ·obtain⟨⟨du,jk,jj,x2734,ji,jh⟩,i7,e9⟩:=un e9;obtain⟨j9,F⟩:=Cb Au i7 F;obtain⟨kr,e9⟩:=un e9;exact Cd hS F (n,an||((decide (du=ay))&&(decide (aw<(x2734.length:Int)))),bo+1,ij+1+1+1+1) e9
      ·exact B4 hS F (an,ij+1) e9
     ·rintro⟨bm,jy⟩ rfl;refine An hS F aa (λ_ aa=>?_) (λ_ aa=>?_)
      ·obtain rfl:=yJ aa;exact Ai hS F h
      ·obtain⟨kj,aa⟩:=un aa;exact Cd hS F (n,af+1,jy+1+1) aa
   ·exact B4 hS F (be+1) aa
  ·rintro ki rfl;exact Ai hS F h
def Do(N:Nat)(d7:Int)(cm:Int)(ck:Int)(u2752:List (Int×Int))(cj:Int)(ci:Int):Option Bool:=some (((((decide (cm=0))&&(decide (ck=0)))&&(decide ((u2752.length:Int)=0)))&&(decide (cj=0)))&&(decide (ci=0)))
@[go_sem] def s71(N:Nat):Spec:=p0<|pG<|pI λd7=>pI λcm=>pI λck=>pS Aq λu2752=>pI λcj=>pI λci=>pE<|pE<|pF (Do N d7 cm ck u2752 cj ci) false λr=>.b r
theorem Acg(N:Nat):AG Tryz.prog 71 (s71 N):=by
 refine Ar x71.ok<|Aw<|Aa λd7=>Aa λcm=>Aa λck=>AF λu2752=>Aa λcj=>Aa λci=>Ad<|Ad<|As λr h=>wx x71 (Aj) λ_ hS F=>?_
 dsimp only[x71,Ah,Aq];unfold Do at h;exact Ai hS F h
def C6(N:Nat)(l2755:List (Int×Int×Int×Int×Bool))(am:Int):Nat->Int->(List (Int×Int×Int×Int×Bool))->Option ((List (Int×Int×Int×Int×Bool)))|0,_,_=>none|n+1,az,l2774=>bif decide (az<(l2755.length:Int))then((A7 l2755 az).bind λ(dt,b9,dq,dp,dm)=>bif decide (b9≠am)then(gd ((l2774.length+1)*40<=140737488355328)<|gd (Af (az+1))<|C6 N l2755 am n (az+1) (l2774++[(dt,b9,dq,dp,dm)]))else(gd (Af (az+1))<|C6 N l2755 am n (az+1) l2774))else(some l2774)
def DQ(N:Nat)(l2755:List (Int×Int×Int×Int×Bool))(am:Int):Option (List (Int×Int×Int×Int×Bool)):=(C6 N l2755 am N 0 []).bind λic=>some ic
@[go_sem] def s66(N:Nat):Spec:=p0<|pS AA λl2755=>pI λam=>pE<|pF (DQ N l2755 am) [] λr=>AS r
theorem oA(N:Nat):AG Tryz.prog 66 (s66 N):=by
 refine Ar x66.ok<|AF λl2755=>Aa λam=>Ad<|As λr h=>wx x66 (Aj) λ_ hS F=>?_
 dsimp only[x66,Ah,AA];unfold DQ at h;refine go hS F ?_;refine DT 1000001 5 5 [.i 0,.i 0,.i 0,.i 0,.b false] (by show(5:Nat)<28;omega) (by omega) (ev F) ?_;obtain⟨jt,jb,h⟩:=un h;refine go hS F ?_;refine Bz jt (λz:(List (Int×Int×Int×Int×Bool))×Nat=>⟨[(5,.own (1000001,4) z.1.length)],[(.a (1000001,4),EH z.1)],z.2⟩) (λz=>(z.1:(List (Int×Int×Int×Int×Bool)))) (.x 0) ?_ ?_
 ·refine Bp (λn (y:Int×(List (Int×Int×Int×Int×Bool))×Nat)=>C6 N l2755 am n y.1 y.2.1) (λy=>⟨[(0,AS l2755),(1,.i am),(5,.own (1000001,4) y.2.1.length),(6,.i y.1)],[(.a (1000001,4),EH y.2.1)],y.2.2⟩) (0,[],4) jb (Ch F) ?_;rintro n ⟨az,l2774,e8⟩ aa;simp only[C6]at aa;refine An hS F aa (λ_ aa=>?_) (λ_ aa=>?_)
  ·obtain⟨⟨dt,b9,dq,dp,dm⟩,i6,aa⟩:=un aa;obtain⟨j8,F⟩:=Cb BZ i6 F;refine An hS F aa (λ_ aa=>?_) (λ_ aa=>?_)
   ·obtain⟨jw,jv,aa⟩:=un aa;exact Cd hS F (n,az+1,l2774++[(dt,b9,dq,dp,dm)],e8+1+1+1+1) aa
   ·obtain⟨kl,aa⟩:=un aa;exact Cd hS F (n,az+1,l2774,e8+1+1+1) aa
  ·exact B4 hS F (l2774,e8+1) aa
 ·rintro⟨ic,kh⟩ rfl;exact Ai hS F h
def Dx(N:Nat)(l2787:List (Int×Int×Int×Int×Bool))(ae:Int)(ak:Int)(aj:Int)(ai:Int)(ah:Bool):Nat->Bool->Int->(List (Int×Int×Int×Int×Bool))->Option (Sum (Bool×(List (Int×Int×Int×Int×Bool))) (((List (Int×Int×Int×Int×Bool))×Bool)))|0,_,_,_=>none|n+1,au,bl,l2815=>bif decide (bl<(l2787.length:Int))then((A7 l2787 bl).bind λ(bq,dl,dh,dg,db)=>bif decide (bq=ae)then(some (.inr ([],false)))else((bif (!au)&&(decide (ae<bq))then(gd ((l2815.length+1)*40<=140737488355328)<|some (true,l2815++[(ae,ak,aj,ai,ah)]))else(some (au,l2815)):Option (Bool×(List (Int×Int×Int×Int×Bool)))).bind λ(bp,l2824)=>gd ((l2824.length+1)*40<=140737488355328)<|gd (Af (bl+1))<|Dx N l2787 ae ak aj ai ah n bp (bl+1) (l2824++[(bq,dl,dh,dg,db)])))else(some (.inl (au,l2815)))
def E9(N:Nat)(l2787:List (Int×Int×Int×Int×Bool))(ae:Int)(ak:Int)(aj:Int)(ai:Int)(ah:Bool):Option ((List (Int×Int×Int×Int×Bool))×Bool):=(Dx N l2787 ae ak aj ai ah N false 0 []).bind λeh=>match eh with|.inl (co,l2832)=>((bif !co then(gd ((l2832.length+1)*40<=140737488355328)<|some (l2832++[(ae,ak,aj,ai,ah)]))else(some l2832):Option ((List (Int×Int×Int×Int×Bool)))).bind λib=>some (ib,true))|.inr jo=>(some jo)
@[go_sem] def s52(N:Nat):Spec:=p0<|pS AA λl2787=>pG<|pI λae=>pI λak=>pI λaj=>pI λai=>pB λah=>pE<|pE<|pF (E9 N l2787 ae ak aj ai ah) ([],false) λr=>.tup [AS r.1,.b r.2]
theorem oB(N:Nat):AG Tryz.prog 52 (s52 N):=by
 refine Ar x52.ok<|AF λl2787=>Aw<|Aa λae=>Aa λak=>Aa λaj=>Aa λai=>AX λah=>Ad<|Ad<|As λr h=>wx x52 (Aj) λ_ hS F=>?_
 dsimp only[x52,Ah,AA];unfold E9 at h;refine go hS F ?_;refine DT 1000001 6 5 [.i 0,.i 0,.i 0,.i 0,.b false] (by show(6:Nat)<53;omega) (by omega) (ev F) ?_;obtain⟨eh,jb,h⟩:=un h;refine go hS F ?_;refine Bz eh (λz:Bool×(List (Int×Int×Int×Int×Bool))×Nat=>⟨[(3,.box (0,1) 0),(6,.own (1000001,5) z.2.1.length),(7,.b z.1)],[(.a (1000001,5),EH z.2.1),(.c (0,1) 0,.i ae),(.c (0,1) 1,.i ak),(.c (0,1) 2,.i aj),(.c (0,1) 3,.i ai),(.c (0,1) 4,.b ah)],z.2.2⟩) (λz=>(.inl (z.1,z.2.1):Sum (Bool×(List (Int×Int×Int×Int×Bool))) (((List (Int×Int×Int×Int×Bool))×Bool)))) (.x 0) ?_ ?_
 ·refine Bp (λn (y:Bool×Int×(List (Int×Int×Int×Int×Bool))×Nat)=>Dx N l2787 ae ak aj ai ah n y.1 y.2.1 y.2.2.1) (λy=>⟨[(0,AS l2787),(3,.box (0,1) 0),(6,.own (1000001,5) y.2.2.1.length),(7,.b y.1),(8,.i y.2.1)],[(.a (1000001,5),EH y.2.2.1),(.c (0,1) 0,.i ae),(.c (0,1) 1,.i ak),(.c (0,1) 2,.i aj),(.c (0,1) 3,.i ai),(.c (0,1) 4,.b ah)],y.2.2.2⟩) (false,0,[],5) jb (Ch F) ?_;rintro n ⟨au,bl,l2815,eu⟩ aa;simp only[Dx]at aa;refine An hS F aa (λ_ aa=>?_) (λ_ aa=>?_)
  ·obtain⟨⟨bq,dl,dh,dg,db⟩,i5,aa⟩:=un aa;obtain⟨j7,F⟩:=Cb BZ i5 F;refine An hS F aa (λ_ aa=>?_) (λ_ aa=>?_)
   ·obtain rfl:=yJ aa;exact Ai hS F h
   ·obtain⟨js,ja,aa⟩:=un aa;refine go hS F ?_;refine Bz js (λz:Bool×(List (Int×Int×Int×Int×Bool))×Nat=>⟨[(0,AS l2787),(3,.box (0,1) 0),(6,.own (1000001,5) z.2.1.length),(7,.b z.1),(8,.i bl)],[(.a (1000001,5),EH z.2.1),(.c (0,1) 0,.i ae),(.c (0,1) 1,.i ak),(.c (0,1) 2,.i aj),(.c (0,1) 3,.i ai),(.c (0,1) 4,.b ah)],z.2.2⟩) (λz=>((z.1,z.2.1):Bool×(List (Int×Int×Int×Int×Bool)))) .n ?_ ?_
    ·refine An hS F ja (λ_ ja=>?_) (λ_ ja=>?_)
     ·obtain⟨jv,ja⟩:=un ja;exact B4 hS F (true,l2815++[(ae,ak,aj,ai,ah)],eu+1+1+1+1+1) ja
     ·exact B4 hS F (au,l2815,eu+1+1+1) ja
    ·rintro⟨bp,l2824,jx⟩ rfl;obtain⟨kl,kv,aa⟩:=un aa;exact Cd hS F (n,bp,bl+1,l2824++[(bq,dl,dh,dg,db)],jx+1+1) aa
  ·exact B4 hS F (au,l2815,eu+1) aa
 ·rintro⟨co,l2832,ii⟩ rfl;obtain⟨jr,i9,h⟩:=un h;refine go hS F ?_;refine Bz jr (λz:(List (Int×Int×Int×Int×Bool))×Nat=>⟨[(6,.own (1000001,5) z.1.length)],[(.a (1000001,5),EH z.1)],z.2⟩) (λz=>(z.1:(List (Int×Int×Int×Int×Bool)))) .n ?_ ?_
  ·refine An hS F i9 (λ_ i9=>?_) (λ_ i9=>?_)
   ·obtain⟨kj,i9⟩:=un i9;exact B4 hS F (l2832++[(ae,ak,aj,ai,ah)],ii+1+1) i9
   ·exact B4 hS F (l2832,ii+1) i9
  ·rintro⟨ib,kg⟩ rfl;exact Ai hS F h
def CQ(N:Nat)(l2838:List (Int×Int×Int×Int×Bool))(aq:Int)(ab:Bool):Nat->Int->Option (Sum Unit (((List (Int×Int×Int×Int×Bool))×Bool)))|0,_=>none|n+1,i2849=>bif decide (i2849<(l2838.length:Int))then((A7 l2838 i2849).bind λ(da,gr,gm,gj,gi)=>bif decide (da=aq)then(some (.inr (l2838.set i2849.toNat (da,gr,gm,gj,ab),(gi !=ab))))else(gd (Af (i2849+1))<|CQ N l2838 aq ab n (i2849+1)))else(some (.inl ()))
def ET(N:Nat)(l2838:List (Int×Int×Int×Int×Bool))(aq:Int)(ab:Bool):Option ((List (Int×Int×Int×Int×Bool))×Bool):=gd ((l2838.length)*40<=140737488355328)<|(CQ N l2838 aq ab N 0).bind λee=>match ee with|.inl ()=>(some ([],false))|.inr jn=>(some jn)
@[go_sem] def s62(N:Nat):Spec:=p0<|pS AA λl2838=>pI λaq=>pB λab=>pE<|pF (ET N l2838 aq ab) ([],false) λr=>.tup [AS r.1,.b r.2]
theorem Ach(N:Nat):AG Tryz.prog 62 (s62 N):=by
 refine Ar x62.ok<|AF λl2838=>Aa λaq=>AX λab=>Ad<|As λr h=>wx x62 (Aj) λ_ hS F=>?_
 dsimp only[x62,Ah,AA];unfold ET at h;obtain⟨jc,h⟩:=un h;obtain⟨ee,kq,h⟩:=un h;refine go hS F ?_;refine Bz ee (λz:Nat=>⟨[],[],z⟩) (λz=>(.inl ():Sum Unit (((List (Int×Int×Int×Int×Bool))×Bool)))) (.x 0) ?_ ?_
 ·refine Bp (λn (y:Int×Nat)=>CQ N l2838 aq ab n y.1) (λy=>⟨[(1,.i aq),(2,.b ab),(8,.own (100,2) l2838.length),(9,.i y.1)],[(.a (100,2),EH l2838)],y.2⟩) (0,3) kq (Ch F) ?_;rintro n ⟨i2849,ig⟩ cu;simp only[CQ]at cu;refine An hS F cu (λ_ cu=>?_) (λ_ cu=>?_)
  ·obtain⟨⟨da,gr,gm,gj,gi⟩,iz,cu⟩:=un cu;obtain⟨j6,F⟩:=Cb BZ iz F;refine An hS F cu (λ_ cu=>?_) (λ_ cu=>?_)
   ·obtain rfl:=yJ cu;exact Ai hS F h
   ·obtain⟨jv,cu⟩:=un cu;exact Cd hS F (n,i2849+1,ig+1+1+1) cu
  ·exact B4 hS F (ig+1) cu
 ·rintro kf rfl;exact Ai hS F h
def AN(N:Nat)(c2861:Int)(bh:Int):Option Int:=bif decide (c2861<0)then(gd (Af (c2861+1))<|gd (Af (-(c2861+1)))<|gd (bh≠0)<|some ((-(c2861+1)).tmod bh))else(gd (bh≠0)<|some (c2861.tmod bh))
@[go_sem] def s51(N:Nat):Spec:=p0<|pI λc2861=>pI λbh=>pE<|pF (AN N c2861 bh) 0 λr=>.i r
theorem U0(N:Nat):AG Tryz.prog 51 (s51 N):=by
 refine Ar x51.ok<|Aa λc2861=>Aa λbh=>Ad<|As λr h=>wx x51 (Aj) λ_ hS F=>?_
 dsimp only[x51,Ah];unfold AN at h;refine An hS F h (λ_ h=>?_) (λ_ h=>?_)
 ·obtain⟨jc,jz,jw,h⟩:=un h;exact Ai hS F h
 ·obtain⟨jv,h⟩:=un h;exact Ai hS F h
def B9(N:Nat)(a2863:List (Int×Int×Int×Int×Bool))(b2864:List (Int×Int×Int×Int×Bool)):Nat->Int->Option (Sum Unit Bool)|0,_=>none|n+1,bj=>bif decide (bj<(a2863.length:Int))then((A7 a2863 bj).bind λ(gh,gg,gc,fr,fq)=>(A7 b2864 bj).bind λ(fp,fo,fm,fj,fh)=>bif !(decide (gh=fp)&&(decide (gg=fo)&&(decide (gc=fm)&&(decide (fr=fj)&&(fq==fh)))))then(some (.inr false))else(gd (Af (bj+1))<|B9 N a2863 b2864 n (bj+1)))else(some (.inl ()))
def D4(N:Nat)(a2863:List (Int×Int×Int×Int×Bool))(b2864:List (Int×Int×Int×Int×Bool)):Option Bool:=bif decide ((a2863.length:Int)≠(b2864.length:Int))then(some false)else((B9 N a2863 b2864 N 0).bind λd9=>match d9 with|.inl ()=>(some true)|.inr jm=>(some jm))
@[go_sem] def s47(N:Nat):Spec:=p0<|pS AA λa2863=>pS AA λb2864=>pE<|pF (D4 N a2863 b2864) false λr=>.b r
theorem Aci(N:Nat):AG Tryz.prog 47 (s47 N):=by
 refine Ar x47.ok<|AF λa2863=>AF λb2864=>Ad<|As λr h=>wx x47 (Aj) λ_ hS F=>?_
 dsimp only[x47,Ah,AA];unfold D4 at h;refine An hS F h (λ_ h=>?_) (λ_ h=>?_)
 ·exact Ai hS F h
 ·obtain⟨d9,jb,h⟩:=un h;refine go hS F ?_;refine Bz d9 (λz:Nat=>⟨[],[],z⟩) (λz=>(.inl ():Sum Unit Bool)) (.x 0) ?_ ?_
  ·refine Bp (λn (y:Int×Nat)=>B9 N a2863 b2864 n y.1) (λy=>⟨[(0,AS a2863),(1,AS b2864),(5,.i y.1)],[],y.2⟩) (0,3) jb (Ch F) ?_;rintro n ⟨bj,ie⟩ aa;simp only[B9]at aa;refine An hS F aa (λ_ aa=>?_) (λ_ aa=>?_)
   ·obtain⟨⟨gh,gg,gc,fr,fq⟩,iy,aa⟩:=un aa;obtain⟨j5,F⟩:=Cb BZ iy F;obtain⟨⟨fp,fo,fm,fj,fh⟩,iw,aa⟩:=un aa;obtain⟨j4,F⟩:=Cb BZ iw F;refine An hS F aa (λ_ aa=>?_) (λ_ aa=>?_)
    ·obtain rfl:=yJ aa;exact Ai hS F h
    ·obtain⟨jw,aa⟩:=un aa;exact Cd hS F (n,bj+1,ie+1+1+1) aa
   ·exact B4 hS F (ie+1) aa
  ·rintro ke rfl;exact Ai hS F h
def CG(N:Nat)(cz:List (Int×Int×Int×(List (Int×Int))×Int×Int))(bz:List (Int×Int×Int×Int×Bool))(cy:List (Int×Int×Int×(List (Int×Int))×Int×Int))(bw:List (Int×Int×Int×Int×Bool)):Option Bool:=(Gy N cz cy).bind λd8=>gd (d8=true->((D4 N bz bw).isSome=true))<|some (d8&&((D4 N bz bw).getD false))
@[go_sem] def s21(N:Nat):Spec:=p0<|pG<|pD Ak λcz=>pD AA λbz=>pE<|pG<|pD Ak λcy=>pD AA λbw=>pE<|pE<|pF (CG N cz bz cy bw) false λr=>.b r
theorem oC(N:Nat):AG Tryz.prog 21 (s21 N):=by
 refine Ar x21.ok<|Aw<|AM λcz=>AM λbz=>Ad<|Aw<|AM λcy=>AM λbw=>Ad<|Ad<|As λr h=>wx x21 (Ab (Ab8 N)<|Ab (Aci N)<|Aj) λ_ hS F=>?_
 dsimp only[x21,Ah,AA,Ak];unfold CG at h;obtain⟨d8,ip,jc,h⟩:=un h;exact Ai hS (fc ip F) h
def CH(N:Nat)(cn:List (Int×Int×Int×(List (Int×Int))×Int×Int))(s2904:List (Int×Int×Int×Int×Bool)):Option ((List (Int×Int×Int×(List (Int×Int))×Int×Int))×(List (Int×Int×Int×Int×Bool))):=(HZ N cn).bind λgz=>gd ((s2904.length)*40<=140737488355328)<|some (gz,s2904)
@[go_sem] def s54(N:Nat):Spec:=p0<|pG<|pD Ak λcn=>pD AA λs2904=>pE<|pE<|pF (CH N cn s2904) ([],[]) λr=>.agg [Ap r.1,AS r.2]
theorem oD(N:Nat):AG Tryz.prog 54 (s54 N):=by
 refine Ar x54.ok<|Aw<|AM λcn=>AM λs2904=>Ad<|Ad<|As λr h=>wx x54 (Ab (Ab7 N)<|Aj) λ_ hS F=>?_
 dsimp only[x54,Ah,AA,Ak];unfold CH at h;obtain⟨gz,im,jc,h⟩:=un h;exact Ai hS (fc im F) h
def Gz(N:Nat)(c2907:Int)(bg:Int):Option Int:=bif decide (c2907<0)then(gd (Af (c2907+1))<|gd (Af (-(c2907+1)))<|gd (bg≠0)<|some ((-(c2907+1)).tmod bg))else(gd (bg≠0)<|some (c2907.tmod bg))
@[go_sem] def s34(N:Nat):Spec:=p0<|pI λc2907=>pI λbg=>pE<|pF (Gz N c2907 bg) 0 λr=>.i r
theorem Acj(N:Nat):AG Tryz.prog 34 (s34 N):=by
 refine Ar x34.ok<|Aa λc2907=>Aa λbg=>Ad<|As λr h=>wx x34 (Aj) λ_ hS F=>?_
 dsimp only[x34,Ah];unfold Gz at h;refine An hS F h (λ_ h=>?_) (λ_ h=>?_)
 ·obtain⟨jc,jz,jw,h⟩:=un h;exact Ai hS F h
 ·obtain⟨jv,h⟩:=un h;exact Ai hS F h
def GH(N:Nat)(l2923:List (Int×Int×Int×Int×Bool))(bb:Int):Nat->Int->Option (Sum Unit (((Int×Int×Int×Int×Bool)×Bool)))|0,_=>none|n+1,cr=>bif decide (cr<(l2923.length:Int))then((A7 l2923 cr).bind λ(fg,jg,jf,je,jd)=>bif decide (fg=bb)then(some (.inr ((fg,jg,jf,je,jd),true)))else(gd (Af (cr+1))<|GH N l2923 bb n (cr+1)))else(some (.inl ()))
def Mf(N:Nat)(l2923:List (Int×Int×Int×Int×Bool))(bb:Int):Option ((Int×Int×Int×Int×Bool)×Bool):=(GH N l2923 bb N 0).bind λjq=>match jq with|.inl ()=>(some ((0,0,0,0,false),false))|.inr jl=>(some jl)
@[go_sem] def s41(N:Nat):Spec:=p0<|pS AA λl2923=>pI λbb=>pE<|pF (Mf N l2923 bb) ((0,0,0,0,false),false) λr=>.tup [.agg [.i r.1.1,.i r.1.2.1,.i r.1.2.2.1,.i r.1.2.2.2.1,.b r.1.2.2.2.2],.b r.2]
def HA(N:Nat)(av:Int):Option (Int×Int×Int×(List (Int×Int))×Int×Int):=gd (Af (av+4))<|gd (Af (av+4))<|some (3,2,0,[(av,0),(av+4,0),(av+4,4),(av,4)],0,2)
@[go_sem] def s49(N:Nat):Spec:=p0<|pI λav=>pE<|pF (HA N av) (0,0,0,[],0,0) λr=>.agg [.i r.1,.i r.2.1,.i r.2.2.1,BP r.2.2.2.1,.i r.2.2.2.2.1,.i r.2.2.2.2.2]
theorem oE(N:Nat):AG Tryz.prog 49 (s49 N):=by
 refine Ar x49.ok<|Aa λav=>Ad<|As λr h=>wx x49 (Aj) λ_ hS F=>?_
 dsimp only[x49,Ah];unfold HA at h;obtain⟨jc,jz,h⟩:=un h;exact Ai hS F h
def Cu(N:Nat)(b7:Int):Option ((List (Int×Int×Int×(List (Int×Int))×Int×Int))×(List (Int×Int×Int×Int×Bool))):=(HA N b7).bind λ(gy,gx,gw,gv,gu,gt)=>some ([(gy,gx,gw,gv,gu,gt)],[(1,3,(-1),3,true)])
@[go_sem] def s48(N:Nat):Spec:=p0<|pI λb7=>pE<|pF (Cu N b7) ([],[]) λr=>.agg [Ap r.1,AS r.2]
theorem Acl(N:Nat):AG Tryz.prog 48 (s48 N):=by
 refine Ar x48.ok<|Aa λb7=>Ad<|As λr h=>wx x48 (Ab (oE N)<|Aj) λ_ hS F=>?_
 dsimp only[x48,Ah];unfold Cu at h;obtain⟨⟨gy,gx,gw,gv,gu,gt⟩,il,h⟩:=un h;exact Ai hS (fc il F) h
