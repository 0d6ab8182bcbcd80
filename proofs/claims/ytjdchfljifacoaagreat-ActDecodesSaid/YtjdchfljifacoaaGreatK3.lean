import Derived.Test.YtjdchfljifacoaaGreatUG
import Derived.Deep.MidRow
import Derived.Shelf.Spec.SlicesInsert
set_option linter.all false
set_option maxRecDepth 1000000
set_option maxHeartbeats 8000000
namespace Go.Proofs.YtjdchfljifacoaaGreat.Am
section
open Go
attribute [local irreducible] Ax BO BB Bj BC Bk AY BD BK Cq
attribute [local go_sem] PF OL
def BU(N:Nat)(bb:Int)(ba:Int)(az:Int)(ay:List (Int×Int))(ab:Int)(aa:Int):Option Bool:=bif (((((decide (bb<0))||(decide (99<bb)))||(decide (ba<1)))||(decide (8<ba)))||(decide (az<0)))||(decide (7<az))then(some false)else(gd ((((decide (0<=ab))&&(decide (ab<aa)))&&(decide (aa<=8)))=true->((Cj N ay).isSome=true))<|some ((((decide (0<=ab))&&(decide (ab<aa)))&&(decide (aa<=8)))&&((Cj N ay).getD false)))
@[go_sem] def s72(N:Nat):Spec:=p0<|pG<|pI λbb=>pI λba=>pI λaz=>pS Aq λay=>pI λab=>pI λaa=>pE<|pE<|pF (BU N bb ba az ay ab aa) false λr=>.b r
theorem QQ(N:Nat):AG Tryz.prog 72 (s72 N):=by
 refine Ar x72.ok<|Aw<|Aa λbb=>Aa λba=>Aa λaz=>AF λay=>Aa λab=>Aa λaa=>Ad<|Ad<|As λr h=>wx x72 (Ab (SB N)<|Aj) λ_ hS F=>?_
 dsimp only[x72,Ah,Aq];unfold BU at h;refine An hS F h (λ_ h=>?_) (λ_ h=>?_)
 ·exact Ai hS F h
 ·obtain⟨cy,h⟩:=un h;exact Ai hS F h
def FU(N:Nat)(ce:Int)(b9:Int)(b7:Int)(bz:List (Int×Int))(bj:Int)(bi:Int)(bh:Int)(bg:Int)(bf:Int)(be:List (Int×Int))(aj:Int)(ai:Int):Option Bool:=(BU N ce b9 b7 bz bj bi).bind λcj=>gd (cj=true->((BU N bh bg bf be aj ai).isSome=true))<|some ((cj&&((BU N bh bg bf be aj ai).getD false))&&(decide (max bj aj<min bi ai)))
@[go_sem] def RI(N:Nat):Spec:=p0<|pG<|pI λce=>pI λb9=>pI λb7=>pS Aq λbz=>pI λbj=>pI λbi=>pE<|pG<|pI λbh=>pI λbg=>pI λbf=>pS Aq λbe=>pI λaj=>pI λai=>pE<|pE<|pF (FU N ce b9 b7 bz bj bi bh bg bf be aj ai) false λr=>.b r
theorem yO(N:Nat):AG Tryz.prog 127 (RI N):=by
 refine Ar x127.ok<|Aw<|Aa λce=>Aa λb9=>Aa λb7=>AF λbz=>Aa λbj=>Aa λbi=>Ad<|Aw<|Aa λbh=>Aa λbg=>Aa λbf=>AF λbe=>Aa λaj=>Aa λai=>Ad<|Ad<|As λr h=>wx x127 (Ab (QQ N)<|Aj) λ_ hS F=>?_
 dsimp only[x127,Ah,Aq];unfold FU at h;obtain⟨cj,cu,cy,h⟩:=un h;exact Ai hS (fc cu F) h
def EF(N:Nat)(bw:Int)(bv:Int)(bu:Int)(ak:List (Int×Int))(br:Int)(bq:Int)(bp:Int)(bo:Int)(bn:Int)(ah:List (Int×Int))(bm:Int)(bl:Int):Option Bool:=(FU N bw bv bu ak br bq bp bo bn ah bm bl).bind λci=>gd (ci=true->((CM N ak ah).isSome=true))<|some (ci&&((CM N ak ah).getD false))
@[go_sem] def Tk(N:Nat):Spec:=p0<|pG<|pI λbw=>pI λbv=>pI λbu=>pS Aq λak=>pI λbr=>pI λbq=>pE<|pG<|pI λbp=>pI λbo=>pI λbn=>pS Aq λah=>pI λbm=>pI λbl=>pE<|pE<|pF (EF N bw bv bu ak br bq bp bo bn ah bm bl) false λr=>.b r
theorem yP(N:Nat):AG Tryz.prog 104 (Tk N):=by
 refine Ar x104.ok<|Aw<|Aa λbw=>Aa λbv=>Aa λbu=>AF λak=>Aa λbr=>Aa λbq=>Ad<|Aw<|Aa λbp=>Aa λbo=>Aa λbn=>AF λah=>Aa λbm=>Aa λbl=>Ad<|Ad<|As λr h=>wx x104 (Ab (yO N)<|Ab (xX N)<|Aj) λ_ hS F=>?_
 dsimp only[x104,Ah,Aq];unfold EF at h;obtain⟨ci,cr,cy,h⟩:=un h;exact Ai hS (fc cr F) h
def Gx(N:Nat)(aw:Int)(av:Int)(au:Int)(aq:List (Int×Int))(an:Int)(am:Int)(af:Int)(ae:Int):Option ((Int×Int×Int×(List (Int×Int))×Int×Int)×Int):=(BU N aw av au aq an am).bind λcn=>bif !cn then(some ((0,0,0,[],0,0),80))else((EL N aq af ae).bind λ(cm,ck)=>bif decide (ck≠0)then(some ((0,0,0,[],0,0),80))else(some ((aw,av,au,cm,an,am),0)))
@[go_sem] def AdX(N:Nat):Spec:=p0<|pG<|pI λaw=>pI λav=>pI λau=>pS Aq λaq=>pI λan=>pI λam=>pE<|pI λaf=>pI λae=>pE<|pF (Gx N aw av au aq an am af ae) ((0,0,0,[],0,0),0) λr=>.tup [.agg [.i r.1.1,.i r.1.2.1,.i r.1.2.2.1,BP r.1.2.2.2.1,.i r.1.2.2.2.2.1,.i r.1.2.2.2.2.2],.i r.2]
theorem yQ(N:Nat):AG Tryz.prog 106 (AdX N):=by
 refine Ar x106.ok<|Aw<|Aa λaw=>Aa λav=>Aa λau=>AF λaq=>Aa λan=>Aa λam=>Ad<|Aa λaf=>Aa λae=>Ad<|As λr h=>wx x106 (Ab (QQ N)<|Ab (AbX N)<|Aj) λ_ hS F=>?_
 dsimp only[x106,Ah,Aq];unfold Gx at h;obtain⟨cn,cq,h⟩:=un h;replace F:=fc cq F;refine An hS F h (λ_ h=>?_) (λ_ h=>?_)
 ·exact Ai hS F h
 ·obtain⟨⟨cm,ck⟩,co,h⟩:=un h;replace F:=fc co F;refine An hS F h (λ_ h=>?_) (λ_ h=>?_)
  ·exact Ai hS F h
  ·exact Ai hS F h
end
section
open Go
attribute [local irreducible] Ax BO BB Bj BC Bk AY BD BK Cq
def GV(x:Int):List AV:=[.i x]
def nR:List AV->Int|[.v (.int _ a1)]=>a1|_=>0
theorem AdY(x:Int):nR (GV x)=x:=by rfl
theorem AdZ(R:List Int):(R.map GV).map nR=R:=by
 induction R with
 |nil=>rfl
 |cons r R ih=>rw[eG,eG,ih,AdY]
def Ni(x:Int):List AV:=[.v (.int .u8 x)]
def Zy:List AV->Int|[.v (.int _ a1)]=>a1|_=>0
def SD:Rw Int:=⟨1,GV,nR,[.i 0]⟩
def FW(l:List Int):AV:=.sl 1 false (l.map GV) [.i 0]
def SE(l:List Int):AV:=.sl 1 true (l.map GV) [.i 0]
attribute [go_sem] SD FW SE GV nR AdZ
def Ad0:Rw Int:=⟨1,Ni,Zy,[.v (.int .u8 0)]⟩
def Ad1(l:List Int):AV:=.sl 1 false (l.map Ni) [.v (.int .u8 0)]
def jI(l:List Int):AV:=.sl 1 true (l.map Ni) [.v (.int .u8 0)]
attribute [go_sem] Ad0 Ad1 jI Ni Zy
attribute [local go_sem] List.all_append PF OL
end
section
section
variable{N:Nat}(hN:1001<=N)
include hN
theorem OI(a b c:Int)(l:List Pt)(p q:Int):BU N a b c l p q=some (Ji a b c p q&&vB l):=by
 unfold BU Ji;rw[F7 (by omega)];by_cases h:(0<=a/\a<=99)/\(1<=b/\b<=8)/\0<=c/\c<=7
 ·rw[A1 _ (by simp;omega),BR (λ_=>fL),kK];rw[aA h.1.1,aA h.1.2,aA h.2.1.1,aA h.2.1.2,aA h.2.2.1,aA h.2.2.2];rfl
 ·rw[AU _ (by simp;omega)];congr 1;symm;rw[tD];intro hc;simp only[fW,bJ]at hc;exact h ⟨hc.1.1.1.1.1.1,hc.1.1.1.1.1.2,hc.1.1.1.1.2⟩
noncomputable def TE(a b c:Int)(l:List Pt)(p q a' b' c':Int)(l':List Pt)(p' q':Int):Bool:=decide (max p p'<min q q')&&(Ji a b c p q&&vB l)&&(Ji a' b' c' p' q'&&vB l')
theorem YW(a b c:Int)(l:List Pt)(p q a' b' c':Int)(l':List Pt)(p' q':Int):IP N a b c l p q a' b' c' l' p' q'=some (max p p',min q q',TE a b c l p q a' b' c' l' p' q')/\FU N a b c l p q a' b' c' l' p' q'=some (TE a b c l p q a' b' c' l' p' q'):=by unfold IP FU TE;rw[K0 (by omega),K0 (by omega),OI hN,OI hN,BR (λ_=>fL),BR (λ_=>fL),bS,BR (λ_=>fL),kK,kK];refine⟨rfl,?_⟩;congr 1;cases(Ji a b c p q&&vB l)<;>cases(Ji a' b' c' p' q'&&vB l')<;>cases decide (max p p'<min q q')<;>rfl
theorem AcR(a b c:Int)(l:List Pt)(p q a' b' c':Int)(l':List Pt)(p' q':Int):∃r,Fy N a b c l p q a' b' c' l' p' q'=some r/\EF N a b c l p q a' b' c' l' p' q'=some r:=by obtain⟨h1,h2⟩:=YW hN a b c l p q a' b' c' l' p' q';obtain⟨r,g1,g2⟩:=Uq hN l l';unfold Fy EF;rw[h1,h2,g1,g2,bS,bS];simp only;rw[BR (λ_=>fL)];exact⟨_,rfl,rfl⟩
theorem AcS(a b c:Int)(l:List Pt)(p q dx dy:Int):∃r,FR N a b c l p q dx dy=some r/\Gx N a b c l p q dx dy=some r/\r.1.2.2.2.1.length<=8:=by
 obtain⟨⟨r,e⟩,g1,g2,g3⟩:=eH (N:=N) (by omega) l dx dy;unfold FR Gx;rw[g1,g2,OI hN,K0 (by omega),bS,bS];simp only;rw[BR (λ_=>fL),kK];cases h:Ji a b c p q&&vB l with
 |false=>exact⟨((0,0,0,[],0,0),80),by rw[AU _ (by simp)],by rw[AU _ (by rfl)],by simp⟩
 |true=>
  rw[A1 (!true) (by rfl),bS];simp only;by_cases he:e=0
  ·rw[A1 _ (by simp[he]),A1 _ (by simp[he])];exact⟨_,rfl,rfl,g3⟩
  ·rw[AU _ (by simp[he]),AU _ (by simp[he])];exact⟨_,rfl,rfl,by simp⟩
end
end
section
open Go
attribute [local irreducible] Ax BO BB Bj BC Bk AY BD BK Cq
def Au(x:Int×Int×Int×(List (Int×Int))×Int×Int):List AV:=[.i x.1,.i x.2.1,.i x.2.2.1,BP x.2.2.2.1,.i x.2.2.2.2.1,.i x.2.2.2.2.2]
def B1:List AV->Int×Int×Int×(List (Int×Int))×Int×Int|[.v (.int _ a1),.v (.int _ a2),.v (.int _ a3),.sl _ _ a4 _,.v (.int _ a5),.v (.int _ a6)]=>(a1,a2,a3,(a4.map Jx),a5,a6)|_=>(0,0,0,[],0,0)
theorem UF(x:Int×Int×Int×(List (Int×Int))×Int×Int):B1 (Au x)=x:=by simp only[Au,B1,BP,MR]
theorem UG(R:List (Int×Int×Int×(List (Int×Int))×Int×Int)):(R.map Au).map B1=R:=by
 induction R with
 |nil=>rfl
 |cons r R ih=>rw[eG,eG,ih,UF]
def Ak:Rw (Int×Int×Int×(List (Int×Int))×Int×Int):=⟨6,Au,B1,[.i 0,.i 0,.i 0,.sl 0 true [] [],.i 0,.i 0]⟩
def Ap(l:List (Int×Int×Int×(List (Int×Int))×Int×Int)):AV:=.sl 6 false (l.map Au) [.i 0,.i 0,.i 0,.sl 0 true [] [],.i 0,.i 0]
def B7(l:List (Int×Int×Int×(List (Int×Int))×Int×Int)):AV:=.sl 6 true (l.map Au) [.i 0,.i 0,.i 0,.sl 0 true [] [],.i 0,.i 0]
attribute [go_sem] Ak Ap B7 Au B1 UG
@[go_sem] theorem sE(R:List (Int×Int×Int×(List (Int×Int))×Int×Int))(i:Nat):cut 0 1 (A6 (R.map Au) [.i 0,.i 0,.i 0,.sl 0 true [] [],.i 0,.i 0] i)=some [.i (R.getD i (0,0,0,[],0,0)).1]:=by unfold A6;rw[cY,cY,nL];cases R[i]? <;>rfl
def Al(N:Nat)(c1191:Int)(ab:Int):Option Int:=bif decide (c1191<0)then(gd (Af (c1191+1))<|gd (Af (-(c1191+1)))<|gd (ab≠0)<|some ((-(c1191+1)).tmod ab))else(gd (ab≠0)<|some (c1191.tmod ab))
@[go_sem] def s93(N:Nat):Spec:=p0<|pI λc1191=>pI λab=>pE<|pF (Al N c1191 ab) 0 λr=>.i r
theorem nS(N:Nat):AG Tryz.prog 93 (s93 N):=by
 refine Ar x93.ok<|Aa λc1191=>Aa λab=>Ad<|As λr h=>wx x93 (Aj) λ_ hS F=>?_
 dsimp only[x93,Ah];unfold Al at h;refine An hS F h (λ_ h=>?_) (λ_ h=>?_)
 ·obtain⟨ee,eh,dm,h⟩:=un h;exact Ai hS F h
 ·obtain⟨d9,h⟩:=un h;exact Ai hS F h
def BY(N:Nat)(an:Int)(am:Int)(ak:Int)(u1196:List (Int×Int))(aj:Int)(ai:Int):Option (Int×Int×Int×(List (Int×Int))×Int×Int):=gd ((u1196.length)*16<=140737488355328)<|some (an,am,ak,u1196,aj,ai)
@[go_sem] def s97(N:Nat):Spec:=p0<|pG<|pI λan=>pI λam=>pI λak=>pS Aq λu1196=>pI λaj=>pI λai=>pE<|pE<|pF (BY N an am ak u1196 aj ai) (0,0,0,[],0,0) λr=>.agg [.i r.1,.i r.2.1,.i r.2.2.1,BP r.2.2.2.1,.i r.2.2.2.2.1,.i r.2.2.2.2.2]
theorem UY(N:Nat):AG Tryz.prog 97 (s97 N):=by
 refine Ar x97.ok<|Aw<|Aa λan=>Aa λam=>Aa λak=>AF λu1196=>Aa λaj=>Aa λai=>Ad<|Ad<|As λr h=>wx x97 (Aj) λ_ hS F=>?_
 dsimp only[x97,Ah,Aq];unfold BY at h;obtain⟨ee,h⟩:=un h;exact Ai hS F h
def EG(N:Nat)(f1199:List (Int×Int×Int×(List (Int×Int))×Int×Int)):Nat->Int->(List (Int×Int×Int×(List (Int×Int))×Int×Int))->Option ((List (Int×Int×Int×(List (Int×Int))×Int×Int)))|0,_,_=>none|n+1,ah,l1234=>bif decide (ah<(f1199.length:Int))then((A7 f1199 ah).bind λ(ce,b9,b7,bz,bw,bv)=>(BY N ce b9 b7 bz bw bv).bind λ(az,ay,aw,av,au,aq)=>gd ((l1234.length+1)*64<=140737488355328)<|gd (Af (ah+1))<|EG N f1199 n (ah+1) (l1234++[(az,ay,aw,av,au,aq)]))else(some l1234)
def HZ(N:Nat)(f1199:List (Int×Int×Int×(List (Int×Int))×Int×Int)):Option (List (Int×Int×Int×(List (Int×Int))×Int×Int)):=(EG N f1199 N 0 []).bind λcj=>some cj
@[go_sem] def s96(N:Nat):Spec:=p0<|pG<|pD Ak λf1199=>pE<|pE<|pF (HZ N f1199) [] λr=>.agg [Ap r]
theorem Ab7(N:Nat):AG Tryz.prog 96 (s96 N):=by
 refine Ar x96.ok<|Aw<|AM λf1199=>Ad<|Ad<|As λr h=>wx x96 (Ab (UY N)<|Aj) λ_ hS F=>?_
 dsimp only[x96,Ah,Ak];unfold HZ at h;refine go hS F ?_;refine Fc 1000001 (100,2) 0 6 [.i 0,.i 0,.i 0,.sl 0 true [] [],.i 0,.i 0] (by omega) (ev F) ?_;obtain⟨dh,dl,h⟩:=un h;refine go hS F ?_;refine Bz dh (λz:(List (Int×Int×Int×(List (Int×Int))×Int×Int))×Nat=>⟨[(2,.box (1,1) 0),(3,.box (100,2) 0)],[(.c (100,2) 0,.own (1000001,4) z.1.length),(.a (1000001,4),B7 z.1),(.c (1,1) 0,.sl 0 true [] [])],z.2⟩) (λz=>(z.1:(List (Int×Int×Int×(List (Int×Int))×Int×Int)))) (.x 0) ?_ ?_
 ·refine Bp (λn (y:Int×(List (Int×Int×Int×(List (Int×Int))×Int×Int))×Nat)=>EG N f1199 n y.1 y.2.1) (λy=>⟨[(1,.box (0,1) 0),(2,.box (1,1) 0),(3,.box (100,2) 0),(4,.i y.1)],[(.c (100,2) 0,.own (1000001,4) y.2.1.length),(.a (1000001,4),B7 y.2.1),(.c (1,1) 0,.sl 0 true [] []),(.c (0,1) 0,Ap f1199)],y.2.2⟩) (0,[],4) dl (Ch F) ?_;rintro n ⟨ah,l1234,cn⟩ aa;simp only[EG]at aa;refine An hS F aa (λ_ aa=>?_) (λ_ aa=>?_)
  ·obtain⟨⟨ce,b9,b7,bz,bw,bv⟩,da,aa⟩:=un aa;obtain⟨dw,F⟩:=Cb Au da F;obtain⟨⟨az,ay,aw,av,au,aq⟩,cq,aa⟩:=un aa;obtain⟨dm,d9,aa⟩:=un aa;exact Cd hS (fc cq F) (n,ah+1,l1234++[(az,ay,aw,av,au,aq)],cn+1+1+1) aa
  ·exact B4 hS F (l1234,cn+1) aa
 ·rintro⟨cj,d8⟩ rfl;exact Ai hS F h
def CO(N:Nat)(a1255:List (Int×Int×Int×(List (Int×Int))×Int×Int))(b1256:List (Int×Int×Int×(List (Int×Int))×Int×Int)):Nat->Int->Option (Sum Unit Bool)|0,_=>none|n+1,af=>bif decide (af<(a1255.length:Int))then((A7 a1255 af).bind λ(bu,br,bq,bp,bo,bn)=>(A7 b1256 af).bind λ(bm,bl,bj,bi,bh,bg)=>(C2 N bu br bq bp bo bn bm bl bj bi bh bg).bind λci=>bif !ci then(some (.inr false))else(gd (Af (af+1))<|CO N a1255 b1256 n (af+1)))else(some (.inl ()))
def Gy(N:Nat)(a1255:List (Int×Int×Int×(List (Int×Int))×Int×Int))(b1256:List (Int×Int×Int×(List (Int×Int))×Int×Int)):Option Bool:=bif decide ((a1255.length:Int)≠(b1256.length:Int))then(some false)else((CO N a1255 b1256 N 0).bind λbb=>match bb with|.inl ()=>(some true)|.inr dg=>(some dg))
@[go_sem] def s46(N:Nat):Spec:=p0<|pG<|pD Ak λa1255=>pE<|pG<|pD Ak λb1256=>pE<|pE<|pF (Gy N a1255 b1256) false λr=>.b r
theorem Ab8(N:Nat):AG Tryz.prog 46 (s46 N):=by
 refine Ar x46.ok<|Aw<|AM λa1255=>Ad<|Aw<|AM λb1256=>Ad<|Ad<|As λr h=>wx x46 (Ab (Zw N)<|Aj) λ_ hS F=>?_
 dsimp only[x46,Ah,Ak];unfold Gy at h;refine An hS F h (λ_ h=>?_) (λ_ h=>?_)
 ·exact Ai hS F h
 ·obtain⟨bb,dl,h⟩:=un h;refine go hS F ?_;refine Bz bb (λz:Nat=>⟨[],[],z⟩) (λz=>(.inl ():Sum Unit Bool)) (.x 0) ?_ ?_
  ·refine Bp (λn (y:Int×Nat)=>CO N a1255 b1256 n y.1) (λy=>⟨[(2,.box (0,1) 0),(3,.box (1,1) 0),(5,.i y.1)],[(.c (1,1) 0,Ap b1256),(.c (0,1) 0,Ap a1255)],y.2⟩) (0,3) dl (Ch F) ?_;rintro n ⟨af,cm⟩ aa;simp only[CO]at aa;refine An hS F aa (λ_ aa=>?_) (λ_ aa=>?_)
   ·obtain⟨⟨bu,br,bq,bp,bo,bn⟩,cz,aa⟩:=un aa;obtain⟨du,F⟩:=Cb Au cz F;obtain⟨⟨bm,bl,bj,bi,bh,bg⟩,cy,aa⟩:=un aa;obtain⟨dt,F⟩:=Cb Au cy F;obtain⟨ci,co,aa⟩:=un aa;replace F:=fc co F;refine An hS F aa (λ_ aa=>?_) (λ_ aa=>?_)
    ·obtain rfl:=yJ aa;exact Ai hS F h
    ·obtain⟨dm,aa⟩:=un aa;exact Cd hS F (n,af+1,cm+1+1+1) aa
   ·exact B4 hS F (cm+1) aa
  ·rintro d7 rfl;exact Ai hS F h
def GG(N:Nat)(a1297:List Int)(b1298:List Int):Nat->Int->Option (Sum Unit Bool)|0,_=>none|n+1,ae=>bif decide (ae<(a1297.length:Int))then((A7 a1297 ae).bind λbf=>(A7 b1298 ae).bind λbe=>bif decide (bf≠be)then(some (.inr false))else(gd (Af (ae+1))<|GG N a1297 b1298 n (ae+1)))else(some (.inl ()))
def H0(N:Nat)(a1297:List Int)(b1298:List Int):Option Bool:=bif decide ((a1297.length:Int)≠(b1298.length:Int))then(some false)else((GG N a1297 b1298 N 0).bind λba=>match ba with|.inl ()=>(some true)|.inr db=>(some db))
@[go_sem] def Yr(N:Nat):Spec:=p0<|pS SD λa1297=>pS SD λb1298=>pE<|pF (H0 N a1297 b1298) false λr=>.b r
theorem Ab9(N:Nat):AG Tryz.prog 33 (Yr N):=by
 refine Ar x33.ok<|AF λa1297=>AF λb1298=>Ad<|As λr h=>wx x33 (Aj) λ_ hS F=>?_
 dsimp only[x33,Ah,SD];unfold H0 at h;refine An hS F h (λ_ h=>?_) (λ_ h=>?_)
 ·exact Ai hS F h
 ·obtain⟨ba,dl,h⟩:=un h;refine go hS F ?_;refine Bz ba (λz:Nat=>⟨[],[],z⟩) (λz=>(.inl ():Sum Unit Bool)) (.x 0) ?_ ?_
  ·refine Bp (λn (y:Int×Nat)=>GG N a1297 b1298 n y.1) (λy=>⟨[(0,FW a1297),(1,FW b1298),(5,.i y.1)],[],y.2⟩) (0,3) dl (Ch F) ?_;rintro n ⟨ae,ck⟩ aa;simp only[GG]at aa;refine An hS F aa (λ_ aa=>?_) (λ_ aa=>?_)
   ·obtain⟨bf,cu,be,cr,aa⟩:=un aa;obtain⟨dq,F⟩:=Cb GV cu F;obtain⟨dp,F⟩:=Cb GV cr F;refine An hS F aa (λ_ aa=>?_) (λ_ aa=>?_)
    ·obtain rfl:=yJ aa;exact Ai hS F h
    ·obtain⟨dm,aa⟩:=un aa;exact Cd hS F (n,ae+1,ck+1+1+1) aa
   ·exact B4 hS F (ck+1) aa
  ·rintro dz rfl;exact Ai hS F h
end
section
open Go
attribute [local irreducible] Ax BO BB Bj BC Bk AY BD BK Cq
abbrev Un:=Int×Int×Int×(List (Int×Int))×Int×Int
def FI{E:Type}:List E->List (E×E)
 |[]=>[]
 |u::r=>r.map (λv=>(u,v))++FI r
def pU(e:Un×Un):List AV:=[.agg (Au e.1),.agg (Au e.2)]
theorem lD{E:Type}{l:List E}{i:Nat}{u:E}(h:l[i]? =some u):FI (l.drop i)=(l.drop (i+1)).map (λv=>(u,v))++FI (l.drop (i+1)):=by obtain⟨h1,h2⟩:=fO.1 h;rw[jW h1,h2,FI]
theorem fF{l:List Un}{i:Nat}{u:Un}(h:l[i]? =some u)(d:List AV):A6 (l.map Au) d i=Au u:=by unfold A6;rw[cY,nL,h];rfl
theorem AaK{E:Type}{l:List E}{k:Nat}{x:E}{r:List E}(h:l.drop k=x::r):l[k]? =some x/\l.drop (k+1)=r/\k<l.length:=by
 have h1:(l.drop k)[0]? =some x:=by rw[h];rfl
 rw[y0]at h1;refine⟨h1,?_,(fO.1 h1).1⟩;rw[<-tM,h];rfl
section
attribute [local go_sem] Cz MR QO Jx Sx Sy List.set_cons_succ List.isEmpty_map List.map_append List.map_eq_nil_iff ne_eq List.length_replicate X8 X9 List.length_set Option.isSome_some
theorem lE(l:List Un)(f:Bool)(hlen:l.length<=1000000000):T8 Tryz.prog 123 [] [.ro [.sl 6 f (l.map Au) [.i 0,.i 0,.i 0,.sl 0 true [] [],.i 0,.i 0]] 0] ((FI l).map pU):=by
 refine XS (Aj (P:=Tryz.prog)) _ x123.hf x123.hc x123.hn (by simp[x123,Ah,gs]) (kM rfl) λy V hOK hTS hY hYD=>?_
 have hS:=Aj (P:=Tryz.prog);have F:=fc hTS f0;dsimp only[x123,Ah,BW];refine go hOK F ?_;refine IB (λx:Nat×Nat×Nat=>⟨[(10,.i x.1),(9,.i l.length),(8,.sl 6 f (l.map Au) [.i 0,.i 0,.i 0,.sl 0 true [] [],.i 0,.i 0]),(1,.ro [.sl 6 f (l.map Au) [.i 0,.i 0,.i 0,.sl 0 true [] [],.i 0,.i 0]] 0),(gs,CL x.2.1),(0,.clo (.yield y) [] [])],[],x.2.2⟩)
  (λx=>x.1<=l.length/\x.2.1<=(FI l).length/\(FI l).drop x.2.1=FI (l.drop x.1)) (λx=>l.length-x.1) (0,0,50) ?_ ?_ ?_
 ·simp
 ·exact Ch F
 ·rintro⟨i,k,c⟩ ⟨hi,hk,hd⟩;simp only at hi hk hd;refine go hOK F ?_;refine cb F (decide ((i:Int)<l.length)) (λhi1=>?_) (λhi1=>?_)
  ·have hi':i<l.length:=by simpa using hi1
   obtain⟨⟨a1,a2,a3,a4,a5,a6⟩,hu⟩:∃u,l[i]? =some u:=⟨_,dQ hi'⟩
   rw[lD hu]at hd;have hrow:=fF hu;simp only[Au]at hrow;have htn:((i:Int)+1).toNat=i+1:=by omega
   replace F:=fc hrow (fc htn F);refine go hOK F ?_;refine IB (λx:Nat×Nat×Nat=>⟨[(21,.i x.1),(20,.i (l.drop (i+1)).length),(19,.sl 6 f ((l.drop (i+1)).map Au) [.i 0,.i 0,.i 0,.sl 0 true [] [],.i 0,.i 0]),(10,.i i),(9,.i l.length),(8,.sl 6 f (l.map Au) [.i 0,.i 0,.i 0,.sl 0 true [] [],.i 0,.i 0]),(4,.box (203,c+1+1) 0),(1,.ro [.sl 6 f (l.map Au) [.i 0,.i 0,.i 0,.sl 0 true [] [],.i 0,.i 0]] 0),(gs,CL x.2.1),(0,.clo (.yield y) [] [])],[(.c (203,c+1+1) 0,.i a1),(.c (203,c+1+1) 1,.i a2),(.c (203,c+1+1) 2,.i a3),(.c (203,c+1+1) 3,.sl 2 false (a4.map Cz) [.i 0,.i 0]),(.c (203,c+1+1) 4,.i a5),(.c (203,c+1+1) 5,.i a6)],x.2.2⟩)
    (λx=>x.1<=(l.drop (i+1)).length/\x.2.1<=(FI l).length/\(FI l).drop x.2.1=((l.drop (i+1)).drop x.1).map (λv=>((a1,a2,a3,a4,a5,a6),v))++FI (l.drop (i+1))) (λx=>(l.drop (i+1)).length-x.1) (0,k,c+50) ?_ ?_ ?_
   ·exact⟨rB _,hk,hd⟩
   ·exact Ch F
   ·rintro⟨j,k2,c2⟩ ⟨hj,hk2,hd2⟩;simp only at hj hk2 hd2;refine go hOK F ?_;refine cb F (decide ((j:Int)<(l.drop (i+1)).length)) (λhj1=>?_) (λhj1=>?_)
    ·have hj':j<(l.drop (i+1)).length:=by simpa using hj1
     obtain⟨⟨b1,b2,b3,b4,b5,b6⟩,hv⟩:∃u,(l.drop (i+1))[j]? =some u:=⟨_,dQ hj'⟩
     have hrow2:=fF hv;simp only[Au]at hrow2;have q1:((j+1:Nat):Int)=(j:Int)+1:=rfl;have q2:((k2+1:Nat):Int)=(k2:Int)+1:=rfl;replace F:=fc q1 (fc q2 (fc hrow2 F));rw[jW hj',show(l.drop (i+1))[j]=(b1,b2,b3,b4,b5,b6)from(fO.1 hv).2,eG,oK]at hd2;obtain⟨g1,g2,g3⟩:=AaK hd2;refine go hOK F ?_;refine hY 3 (args:=pU ((a1,a2,a3,a4,a5,a6),(b1,b2,b3,b4,b5,b6))) rfl rfl (by simp only[go_sem,seval,F]<;>eq_refl) ?_ (by simp only[go_sem,seval]<;>eq_refl) (by simp only[go_sem,seval]<;>eq_refl) (by simp only[go_sem,seval]<;>eq_refl) (by simp only[go_sem,seval,Am.pU,Am.Au]<;>eq_refl) ?_ (by simp only[go_sem,seval,F]<;>eq_refl) ?_ ?_ (by simp only[go_sem,seval,F]<;>eq_refl) ?_ ?_
     ·repeat' (first|exact yT|omega|apply And.intro)
     ·rw[nL,g1];rfl
     ·exact yT
     ·refine go hOK F ?_;refine cf F ?_;refine go hOK F ?_;exact JL (j+1,k2+1,c2+50) ⟨by show j+1<=_;omega,by show k2+1<=_;omega,g2⟩ (by show(l.drop (i+1)).length-(j+1)<(l.drop (i+1)).length-j;omega) (Ch F)
     ·exact yT
     ·refine go hOK F ?_;refine ct F ?_;refine go hOK F ?_;refine Sw ?_;simp only[go_sem,seval]
    ·have:j=(l.drop (i+1)).length:=by
      have:¬((j:Int)<(l.drop (i+1)).length):=by simpa using hj1
      omega
     subst this;rw[sW,tG,kN]at hd2;have q1:((i+1:Nat):Int)=(i:Int)+1:=rfl;replace F:=fc q1 F;refine go hOK F ?_;exact JL (i+1,k2,c2+50) ⟨by show i+1<=_;omega,hk2,hd2⟩ (by show l.length-(i+1)<l.length-i;omega) (Ch F)
  ·refine go hOK F ?_;refine nP ?_;have:i=l.length:=by
    have:¬((i:Int)<l.length):=by simpa using hi1
    omega
   subst this;rw[sW,FI]at hd;have:k=(FI l).length:=Nat.le_antisymm hk (List.drop_eq_nil_iff.1 hd);simp only[go_sem,seval,this,mW]
def Xc:Spec|[.agg [.sl z f rows d]]=>some (True,.clo (.func 123) [] [.ro [.sl z f rows d] 0])|_=>none
theorem fG:AG Tryz.prog 101 Xc:=⟨x101.ok,by
 intro args vc r h hv;unfold Xc at h;split at h
 ·cases h
  refine O4 (Aj (P:=Tryz.prog)) _ x101.hf x101.hc x101.hn (kM rfl) λ_=>?_
  have hS:=Aj (P:=Tryz.prog);dsimp only[x101,Ah,BW]
  repeat' (first
  |((with_reducible first|apply DD|apply EA|apply Eu|apply FL|apply DE|apply DF);(·(first|exact Ctx.fn_ok hS|exact Ctx.rd_ok hS|assumption|exact yT));iterate 2 (·(simp only[go_sem,seval]<;>eq_refl)))
  |(with_reducible first|apply Dz|apply En|apply Di|apply Dj|apply CX|apply Cw|apply CK|apply DW|apply Ec|apply Eo|apply Ep|apply Er|apply Es)
  |(with_reducible apply Et;(·first|rfl|decide))
  |(with_reducible first|apply DB|apply DC|apply Ex|apply Ey|apply Ez|apply yT|apply And.intro yT yT)
  |(fail_if_success with_reducible apply G1);(fail_if_success with_reducible apply Ew);first|omega|(simp only[go_sem,seval];done)
  |fail)
  first|refine Ma (by simp only[go_sem,seval]<;>eq_refl) (by simp only[go_sem,seval]) (by simp only[go_sem,seval]) ?_ rfl|refine Mb (by simp only[go_sem,seval]<;>eq_refl) (by simp only[go_sem,seval]) (by simp only[go_sem,seval]) ?_ rfl
  simp only[go_sem,seval]
 ·simp at h⟩
end
end
open Go Go.RowKit Go.Lib
theorem XK{P:Program}(w:World)(t e ty:TypeId)(z:Value)(ht:P.underlying t=some (.slice e))(hv:∀w,(zeroValue e).run P w=.ok z w)(b o n c:Nat)(hn:0<n)(zs:List Value)(hz:(Builtin.zeroCells z.cells n).toList=zs)(h1:∀v∈zs,v.oneCell'=true)(hc:∀j,j<zs.length->(w.cell? ⟨b,o+j,none⟩).isSome=true)(hf:∀j,j<zs.length->w.frozen? ⟨b,o+j,none⟩=false):(Builtin.clear_ #[t] ty #[.slice (some ⟨b,o,none⟩) n c]).run P w=.ok (.tuple #[]) (w.setCells b o zs):=by
 have hst:=run_storeCells_cells (P:=P) b o zs 0 w (by simpa using hc) (by simpa using hf) h1;simp only[xS]at hst;obtain⟨m,rfl⟩:∃m,n=m+1:=⟨n-1,by omega⟩
 simp[Builtin.clear_,run_underlying ht,hv,hz,hst]
theorem Tl:∃j,Tryz.prog.info? 34=some j/\j.size=6:=v9.1 (show(Tryz.prog.info? 34).map (·.size)=some 6 by kernel_rfl)
def zU:List Value:=[.int .i64 0,.int .i64 0,.int .i64 0,.slice none 0 0,.int .i64 0,.int .i64 0]
theorem Acs(b o n c i j:Nat)(vals:List Value)(w:World)(hl:vals.length=n*6)(hij:i<j)(hj:j<=n)(hj1:RowKit.Hid (j=i+1))(hcap:n<=c)(hc63:n<=9223372036854775807)(hcs:∀j v,vals[j]? =some v->w.cell? ⟨b,o+j,none⟩=some v)(hfz:∀j,j<n*6->w.frozen? ⟨b,o+j,none⟩=false)(h1:∀v∈vals,v.oneCell'=true):Calls Tryz.prog 204 #[.slice (some ⟨b,o,none⟩) n c,.int .i64 i,.int .i64 j] w λe w'=>e=.returned (.slice (some ⟨b,o,none⟩) (i+(n-j)) c)/\w'=(w.drew.setCells b (o+i*6) (vals.drop (j*6))).setCells b (o+(i+(n-j))*6) zU:=by
 obtain⟨i0,hi0,hz1⟩:=Tl;have hjo:j=i+1:=hj1;obtain⟨news,hnews⟩:∃news,news=vals.drop (j*6):=⟨_,rfl⟩
 have hlen:news.length=(n-j)*6:=by rw[hnews,oL,hl,Nat.sub_mul]
 have hget:∀t v,news[t]? =some v->w.cell? ⟨b,o+j*6+t,none⟩=some v:=λt v h=>by rw[hnews,y0]at h;rw[rA];exact hcs _ v h
 have hsome:∀j,j<n*6->(w.cell? ⟨b,o+j,none⟩).isSome=true:=λj hj=>by rw[hcs j _ (dQ (by omega))];rfl
 obtain⟨A,hA,hsrc⟩:∃A:Addr,(if c=j then some (⟨b,o,none⟩:Addr)else some ⟨b,o+j*6,none⟩)=some A/\RowKit.Hid (∀t u,news[t]? =some u->w.drew.cell? (A.add t)=some u):=by
  by_cases h:c=j
  ·refine⟨⟨b,o,none⟩,by simp[h],λt u hu=>?_⟩;have h0:news.length=0:=by rw[hlen];omega
   rw[xW.1 h0]at hu;simp at hu
  ·exact⟨⟨b,o+j*6,none⟩,by simp[h],λt u hu=>by rw[Addr.add_lit];exact hget t u hu⟩
 have s1:RowKit.Hid (news.length=(n-j)*6):=hlen;have s2:RowKit.Hid (∀u∈news,u.oneCell'=true):=λu hu=>h1 u (by rw[hnews]at hu;exact z9 hu)
 have s3:RowKit.Hid (∀t,t<news.length->(w.drew.cell? ⟨b,o+i*6+t,none⟩).isSome=true/\w.drew.frozen? ⟨b,o+i*6+t,none⟩=false):=by intro t ht;rw[hlen]at ht;rw[rA];exact⟨hsome _ (by omega),hfz _ (by omega)⟩
 obtain⟨W1,hW1⟩:∃W1,W1=w.drew.setCells b (o+i*6) news:=⟨_,rfl⟩
 have W1s:∀k,(w.cell? ⟨b,k,none⟩).isSome=true->(W1.cell? ⟨b,k,none⟩).isSome=true:=λk hk=>by rw[hW1];exact World.isSome_setCells b news (o+i*6) w.drew _ hk
 have W1f:∀k,W1.frozen? ⟨b,k,none⟩=w.frozen? ⟨b,k,none⟩:=λk=>by rw[hW1,World.frozen?_setCells];rfl
 have hcl:∀ty,(Builtin.clear_ #[26] ty #[.slice (some ⟨b,o+(i+(n-j))*6,none⟩) (n-(i+(n-j))) (c-(i+(n-j)))]).run Tryz.prog W1=.ok (.tuple #[]) (W1.setCells b (o+(i+(n-j))*6) zU):=by
  intro ty;rw[show n-(i+(n-j))=1 by omega];exact XK W1 _ _ ty _ Tryz.underlying26 Tryz.zeroValue34 b (o+(i+(n-j))*6) 1 _ (by omega) zU (by kernel_rfl) (by decide) (λk hk=>W1s _ (by
   have:k<6:=hk;rw[rA];exact hsome _ (by omega))) (λk hk=>by
   have:k<6:=hk;rw[W1f,rA];exact hfz _ (by omega))
 have hW:RowKit.Hid (W1=w.drew.setCells b (o+i*6) news):=hW1;have hN:RowKit.Hid (news=vals.drop (j*6)):=hnews;have hic:i<=c:=by omega
 have hin:i<=n:=by omega
 have hjc:j<=c:=by omega
 have hne:¬(i:Int)=(j:Int):=by omega
 have mixed:Tryz.prog.follows .mixedOrders=true:=by kernel_rfl
 clear hW1 W1s W1f hsome hget hcs hfz h1 hjo hnews hlen
 go_enter Tryz.func204,Tryz.ntmps204
 go_wp2_with fail
 go_region_law_o (refine step_append_room rfl (.tmp 22) (.tmp 25) 26 rfl 34 i0 6 Tryz.underlying26 hi0 hz1 b o i c (by simp[Act.eval,Act.put]) A (n-j) (c-j) news (by simp[Act.eval,Act.put]) s1.out hsrc.out s2.out (by omega) s3.out ?_;rw[<-hW.out])
 go_wp2
 go_ret
 rw[hW.out,hN.out];exact⟨rfl,rfl⟩
def Yz(w:World)(b o:Nat)(vs:List Value):Prop:=∀j v,vs[j]? =some v->w.cell? ⟨b,o+j,none⟩=some v
theorem Aev(b o n c i:Nat)(vals:List Value)(w:World)(hl:vals.length=n*6)(hi:i<n)(hcap:n<=c)(hc63:n<=9223372036854775807)(hcs:Yz w b o vals)(hfz:∀j,j<n*6->w.frozen? ⟨b,o+j,none⟩=false)(h1:∀v∈vals,v.oneCell'=true):Calls Tryz.prog 204 #[.slice (some ⟨b,o,none⟩) n c,.int .i64 i,.int .i64 ((i+1:Nat):Int)] w λe w'=>e=.returned (.slice (some ⟨b,o,none⟩) (n-1) c)/\KeptB b w w'/\w'.heap.size=w.heap.size/\Yz w' b o (vals.take (i*6)++vals.drop ((i+1)*6)):=by
 refine(Acs b o n c i (i+1) vals w hl (by omega) (by omega) rfl hcap hc63 hcs hfz h1).mono ?_;rintro e w' ⟨rfl,rfl⟩;have hn:i+(n-(i+1))=n-1:=by omega
 rw[hn];have hs:∀j,j<n*6->(w.cell? ⟨b,o+j,none⟩).isSome=true:=λj hj=>by rw[hcs j _ (dQ (by omega))];rfl
 have hdl:(vals.drop ((i+1)*6)).length=(n-1-i)*6:=by rw[oL,hl];omega
 obtain⟨k1,z1⟩:=KeptB.cells b (vals.drop ((i+1)*6)) (o+i*6) w.drew;obtain⟨k2,z2⟩:=KeptB.cells b zU (o+(n-1)*6) (w.drew.setCells b (o+i*6) (vals.drop ((i+1)*6)));refine⟨rfl,((KeptB.drew b w).trans k1).trans k2,z2.trans z1,λj v hj=>?_⟩;have hj':=(fO.1 hj).1;rw[fN,tH,hdl]at hj';rw[World.cell?_setCells_out b zU _ _ _ (λ_ _=>.inl (by show o+j<o+(n-1)*6;omega))];by_cases hji:j<i*6
 ·rw[World.cell?_setCells_out b _ _ _ _ (λ_ _=>.inl (by show o+j<o+i*6;omega))];rw[tY (by rw[tH];omega),tK,dX hji]at hj;exact hcs j v hj
 ·rw[u7 (by rw[tH];omega),tH,show min (i*6) vals.length=i*6 by omega]at hj;have hlt:=(fO.1 hj).1;have:=World.cell?_setCells_in b (vals.drop ((i+1)*6)) (o+i*6) w.drew (λt ht=>by rw[hdl]at ht;rw[rA];exact hs _ (by omega)) (j-i*6) hlt;rw[show o+i*6+(j-i*6)=o+j by omega]at this;rw[this];exact(fO.1 hj).2▸rfl
theorem Ow{v:Value}(h:Bw v=true):v.oneCell'=true:=by cases v<;>first|rfl|(simp[Bw]at h)
theorem LM{sz:Nat}:∀{rows:List (List AV)},(∀r∈rows,r.length=sz)->rows.flatten.length=rows.length*sz
 |[],_=>by simp
 |r::rows,h=>by rw[t9,fN,h r (by simp),LM λr hr=>h r (by simp[hr]),mV,w9,xV]
theorem sZ{rows:List (List AV)}{i:Nat}(hi:i<rows.length)(hn:rows.length<=9223372036854775807)(hr6:∀r∈rows,r.length=6):K4 Tryz.prog 204 6 rows [.i i,.i ((i+1:Nat):Int)] (rows.take i++rows.drop (i+1)):=by
 intro U vs vals base b o cap gl hlt hr hv h1 hl hc hor;simp only[RepL,Rep]at hr;obtain⟨_,_,rfl,rfl,_,_,rfl,rfl,rfl⟩:=hr;rcases hor with⟨rfl,hcap,hlies,hM,cs,T,hb,hsz⟩|⟨h0,_⟩
 ·refine(Aev b o rows.length cap i vals U.w hl hi hc hn hlies (λj _=>by simp[World.frozen?,hb]) (λv hv=>Ow (h1 v hv))).mono ?_;rintro e w' ⟨rfl,hk,hs,hcells⟩;have hbl:b<U.w.heap.size:=hlt b (.inl hM);have e1:rows.flatten=(rows.take i).flatten++(rows[i]++(rows.drop (i+1)).flatten):=by rw[<-t9,<-List.flatten_append,List.getElem_cons_drop,u9]
  rw[e1]at hv;obtain⟨xs,ys,rfl,v1,v2⟩:=HP hv;obtain⟨us,zs,rfl,v3,v4⟩:=HP v2;have lx:xs.length=i*6:=by rw[Bs v1,LM λr hr=>hr6 r (yI hr),tH];omega
  have lu:us.length=6:=by rw[Bs v3];exact hr6 _ (y7 hi)
  have t1:(xs++(us++zs)).take (i*6)=xs:=by rw[<-lx,List.take_left]
  have t2:(xs++(us++zs)).drop ((i+1)*6)=zs:=by rw[<-nK,show(i+1)*6=(xs++us).length by rw[fN,lx,lu];omega,List.drop_left]
  rw[t1,t2]at hcells;refine⟨b,o,cap,xs++zs,?_,?_,hk,.inl rfl,by rw[hs];exact hbl,hcells,?_,λx hx=>h1 x ?_⟩
  ·congr 2;rw[fN,tH,oL];omega
  ·rw[fN,tH,oL];omega
  ·rw[List.flatten_append];exact Ds v1 v4
  ·rcases fU.1 hx with hx|hx
   ·simp[hx]
   ·simp[hx]
 ·omega
theorem H4{P:Program}(w:World)(dT sT ty elem:TypeId){i:TypeInfo}(b o dLen dCap:Nat)(a:Addr)(sLen sCap n:Nat)(cs:List Value)(hu:P.underlying dT=some (.slice elem))(hi:P.info? elem=some i)(hn:Nat.min sLen dLen=n)(hl:cs.length=n*i.size)(hsrc:∀j v,cs[j]? =some v->w.cell? (a.add j)=some v)(hc:∀j,j<cs.length->(w.cell? ⟨b,o+j,none⟩).isSome=true)(hf:∀j,j<cs.length->w.frozen? ⟨b,o+j,none⟩=false)(h1:∀v∈cs,v.oneCell'=true):(Builtin.copy_ #[dT,sT] ty #[.slice (some ⟨b,o,none⟩) dLen dCap,.slice (some a) sLen sCap]).run P w=.ok (goInt n) (w.setCells b o cs):=by have hld:=run_loadCells_list (P:=P) w a cs hsrc;have hst:=run_storeCells_cells (P:=P) b o cs 0 w (by simpa using hc) (by simpa using hf) h1;rw[hl]at hld;simp[Builtin.copy_,run_underlying hu,Builtin.lenOf,Builtin.firstCells,sizeOf,typeInfo,hi,hn,hld,hst]
theorem LG{P:Program}(w:World)(tS tR e:TypeId)(ht:P.underlying tS=some (.slice e))(size:Nat)(hz:∀w,(Go.sizeOf e).run P w=.ok size w)(a b:Addr)(la ca lb cb:Nat)(hne:a.block≠b.block)(tA tB:TypeId)(kA kB:Nat)(hsa:w.shape? a.block=some (tA,kA))(hsb:w.shape? b.block=some (tB,kB))(hkA:kA≠0)(hfb:w.frozen? b=false)(hfe:w.frozen? {block:=b.block,off:=kB}=false):(Extern.SlicesOverlaps.overlaps #[tS,tS] #[tR] #[.slice (some a) la ca,.slice (some b) lb cb]).run P w=.ok (.bool false) w:=by
 have hnb:(a.block !=b.block)=true:=by simpa using hne
 have hnb':(a.block==b.block)=false:=by simpa using hne
 delta Extern.SlicesOverlaps.overlaps
 rw[show∀h1 h2,Extern.SlicesOverlaps.overlaps.match_4 (λ_=>Sem Value) #[.slice (some a) la ca,.slice (some b) lb cb] h1 h2=h1 (some a) la ca (some b) lb cb from λ_ _=>rfl];by_cases h0:la=0\/lb=0\/size=0
 ·simp[run_underlying ht,hz,h0]
 ·cases kA with
  |zero=>exact absurd rfl hkA
  |succ kA=>
   cases hfa:w.frozen? a<;>cases hfz:w.frozen? {block:=a.block,off:=kA+1}<;>
   simp[run_underlying ht,hz,h0,hnb,hnb',frozen,noView,viewAt,mayBeOne,stringish,shape,Sem.run,hsa,hsb,hfa,hfb,hfe,hfz]
theorem XL(b off n c i vb voff m vc:Nat)(cs vs:List Value)(w:World)(hi:i<n)(hm:0<m)(hroom:n+m<=c)(hc63:n+m<=9223372036854775807)(hvb:vb≠b)(hcl:cs.length=n*6)(hvl:vs.length=m*6)(hcs:∀j v,cs[j]? =some v->w.cell? ⟨b,off+j,none⟩=some v)(hsp:∀j,j<(n+m)*6->(w.cell? ⟨b,off+j,none⟩).isSome=true)(hfz:∀j,j<(n+m)*6->w.frozen? ⟨b,off+j,none⟩=false)(hvs:∀j v,vs[j]? =some v->w.cell? ⟨vb,voff+j,none⟩=some v)(h1c:∀v∈cs,v.oneCell'=true)(h1v:∀v∈vs,v.oneCell'=true)(tA tB:TypeId)(kA kB:Nat)(hsa:w.shape? vb=some (tA,kA))(hsb:w.shape? b=some (tB,kB))(hkA:kA≠0)(hfb:∀j,w.frozen? ⟨b,j,none⟩=false):Calls Tryz.prog 203 #[.slice (some ⟨b,off,none⟩) n c,.int .i64 i,.slice (some ⟨vb,voff,none⟩) m vc] w λe w'=>e=.returned (.slice (some ⟨b,off,none⟩) (n+m) c)/\w'=(w.drew.setCells b (off+(i+m)*6) (cs.drop (i*6))).setCells b (off+i*6) vs:=by
 obtain⟨i0,hi0,hzs⟩:=Tl;have hz1:¬((m:Int)=0):=by omega
 have hz2:¬((i:Int)=(n:Int)):=by omega
 have hov:∀lb cb,(callFunc 211 #[.slice (some ⟨vb,voff,none⟩) m vc,.slice (some ⟨b,off+(i+m)*6,none⟩) lb cb]).run Tryz.prog w=.ok (.value (.bool false)) w:=λlb cb=>by rw[run_callFunc_extern Tryz.func211 (by kernel_rfl) (by kernel_rfl) (by kernel_rfl) (e:=Extern.SlicesOverlaps.overlaps #[26,26] #[4]) (by kernel_rfl),LG w 26 4 34 Tryz.underlying26 6 Tryz.sizeOf34 ⟨vb,voff,none⟩ ⟨b,off+(i+m)*6,none⟩ m vc lb cb hvb tA tB kA kB hsa hsb hkA (hfb _) (hfb _)];rfl
 have hdl:(cs.drop (i*6)).length=(n-i)*i0.size:=by rw[oL,hcl,hzs,Nat.sub_mul]
 have hdl6:(cs.drop (i*6)).length=(n-i)*6:=by rw[hdl,hzs]
 have mixed:Tryz.prog.follows .mixedOrders=true:=by kernel_rfl
 have hw1:IntKind.i64.wrap ((i:Int)+(m:Int))=(i:Int)+(m:Int):=by rw[IntKind.wrap_i64];omega
 have hb1:(0:Int)<=(i:Int)+(m:Int):=by omega
 have hin:i<=n:=by omega
 have htn:((i:Int)+(m:Int)).toNat=i+m:=by omega
 have hb2:¬(c=i+m):=by omega
 have hb3:(i:Int)<=(n:Int)+(m:Int):=by omega
 have hb4:¬(c=i):=by omega
 have hcp1:∀ty dc sc,(Builtin.copy_ #[26,26] ty #[.slice (some ⟨b,off+(i+m)*6,none⟩) (n+m-(i+m)) dc,.slice (some ⟨b,off+i*6,none⟩) (n+m-i) sc]).run Tryz.prog w.drew=.ok (goInt ((n-i:Nat):Int)) (w.drew.setCells b (off+(i+m)*6) (cs.drop (i*6))):=λty dc sc=>
  H4 w.drew _ _ ty 34 b (off+(i+m)*6) (n+m-(i+m)) dc ⟨b,off+i*6,none⟩ (n+m-i) sc (n-i) (cs.drop (i*6)) Tryz.underlying26 hi0 (by simp only[Nat.min_def];split<;>omega) hdl
   (λj v hj=>by rw[Addr.add_lit,rA];exact hcs (i*6+j) v (by rwa [y0]at hj))
   (λj hj=>by rw[hdl6]at hj;rw[rA];exact hsp _ (by omega)) (λj hj=>by rw[hdl6]at hj;rw[rA];exact hfz _ (by omega)) (λv hv=>h1c v (z9 hv))
 obtain⟨W1,hW1⟩:∃W1,W1=w.drew.setCells b (off+(i+m)*6) (cs.drop (i*6)):=⟨_,rfl⟩
 have hsp1:∀k,k<(n+m)*6->(W1.cell? ⟨b,off+k,none⟩).isSome=true:=λk hk=>by rw[hW1];exact World.isSome_setCells b _ _ w.drew _ (hsp k hk)
 have hcp2:∀(ρ:World),(∀x,ρ.cell? x=W1.cell? x)->(∀x,ρ.frozen? x=W1.frozen? x)->∀ty dc,(Builtin.copy_ #[26,26] ty #[.slice (some ⟨b,off+i*6,none⟩) (n+m-i) dc,.slice (some ⟨vb,voff,none⟩) m vc]).run Tryz.prog ρ=.ok (goInt m) (ρ.setCells b (off+i*6) vs):=λρ hWc hWf ty dc=>
  H4 ρ _ _ ty 34 b (off+i*6) (n+m-i) dc ⟨vb,voff,none⟩ m vc m vs Tryz.underlying26 hi0 (by simp only[Nat.min_def];split<;>omega) (by rw[hvl,hzs])
   (λj v hj=>by rw[Addr.add_lit,hWc,hW1,World.cell?_setCells_out b _ _ _ _ (λh _=>absurd h hvb)];exact hvs j v hj)
   (λj hj=>by rw[hvl]at hj;rw[hWc,rA];exact hsp1 _ (by omega)) (λj hj=>by rw[hvl]at hj;rw[hWf,hW1,World.frozen?_setCells,rA];exact hfz _ (by omega)) h1v
 rw[<-hW1]at hcp1;clear hsp1 hcs hsp hfz hvs h1c h1v hdl hdl6 hcl hvl
 go_enter Tryz.func203,Tryz.ntmps203
 go_wp2_with (simp only[hov])
 go_region_law_o (refine step_copy_runI rfl _ _ 26 26 rfl _ _ (by simp[Act.eval,Act.put]) (by simp[Act.eval,Act.put]) (hcp1 _ _ _) ?_)
 go_wp2_with (at_builtin;refine wpList_copy_runI _ rfl _ _ 26 26 rfl _ _ rfl rfl (hcp2 _ (λ_=>rfl) (λ_=>rfl) _ _) ?_)
 go_ret
 first|exact⟨rfl,rfl⟩|exact⟨rfl,by rw[hW1]⟩
theorem UL(b off n c vb voff m vc:Nat)(vs:List Value)(w:World)(hm:0<m)(hroom:n+m<=c)(hc63:n+m<=9223372036854775807)(hvl:vs.length=m*6)(hsp:∀j,j<m*6->(w.cell? ⟨b,off+n*6+j,none⟩).isSome=true)(hfz:∀j,j<m*6->w.frozen? ⟨b,off+n*6+j,none⟩=false)(hvs:∀j v,vs[j]? =some v->w.cell? ⟨vb,voff+j,none⟩=some v)(h1v:∀v∈vs,v.oneCell'=true):Calls Tryz.prog 203 #[.slice (some ⟨b,off,none⟩) n c,.int .i64 n,.slice (some ⟨vb,voff,none⟩) m vc] w λe w'=>e=.returned (.slice (some ⟨b,off,none⟩) (n+m) c)/\w'=w.setCells b (off+n*6) vs:=by
 obtain⟨i0,hi0,hzs⟩:=Tl;have hz1:¬((m:Int)=0):=by omega
 have mixed:Tryz.prog.follows .mixedOrders=true:=by kernel_rfl
 have hrun:∀ty,(Builtin.append_ #[26,26] ty #[.slice (some ⟨b,off,none⟩) n c,.slice (some ⟨vb,voff,none⟩) m vc]).run Tryz.prog w=.ok (.slice (some ⟨b,off,none⟩) (n+m) c) (w.setCells b (off+n*6) vs):=λty=>by have:=run_append_room_cells (P:=Tryz.prog) w 26 ty 34 i0 Tryz.underlying26 hi0 b off n c ⟨vb,voff,none⟩ m vc vs (by rw[hvl,hzs]) (λj u hj=>by rw[Addr.add_lit];exact hvs j u hj) h1v hroom (λj hj=>by rw[hzs];exact hsp j (by omega)) (λj hj=>by rw[hzs];exact hfz j (by omega));rw[hzs]at this;exact this
 clear hsp hfz hvs h1v hvl
 go_enter Tryz.func203,Tryz.ntmps203
 go_wp2_with (at_builtin;refine Lib.wpList_append_run _ rfl _ _ _ _ rfl _ _ rfl rfl _ _ (hrun _) ?_)
 go_ret
 exact⟨rfl,rfl⟩
theorem Tm:∃j,Tryz.prog.info? 34=some j/\j.zero=some (.agg zU.toArray)/\j.size=6/\j.bytes=64:=by
 have h:(Tryz.prog.info? 34).map (λi=>(i.zero,i.size,i.bytes))=some (some (.agg zU.toArray),6,64):=by kernel_rfl
 obtain⟨i,hi,h2⟩:=v9.1 h;simp only[F9]at h2;exact⟨i,hi,h2⟩
