import Derived.Test.YtciphecegkfaiaaGreatF9
set_option linter.unusedSimpArgs false
set_option linter.unusedVariables false
namespace Go.Proofs.YtciphecegkfaiaaGreat.Am
open Go
attribute [local irreducible] As Cn B6 BK CA BJ Bv Cl Cv Dx
set_option maxRecDepth 100000
set_option maxHeartbeats 8000000
def OP(x:Bool):List AV:=[.b x]
def oS:List AV->Bool|[.v (.bool a1)]=>a1|_=>false
theorem Adq(x:Bool):oS (OP x)=x:=by rfl
theorem Adr(R:List Bool):(R.map OP).map oS=R:=by
 induction R with
 |nil=>rfl
 |cons r R ih=>rw[eZ,eZ,ih,Adq]
theorem zF(R:List Bool)(i:Nat):BG (R.map OP) [.b false] i=OP (R.getD i false):=by unfold BG;rw[eT,eT,qX];cases R[i]? <;>rfl
def R_b:Rw Bool:=⟨1,OP,oS,[.b false]⟩
def L_b(l:List Bool):AV:=.sl 1 false (l.map OP) [.b false]
def VH(l:List Bool):AV:=.sl 1 true (l.map OP) [.b false]
attribute [go_sem] R_b L_b VH OP oS Adr zF
def DA(N:Nat)(l1:List (Int×Int×((Int×Int)×(Int×Int))×Int×Int)):Nat->Int->(List Bool)->Option ((List Bool))|0,_,_=>none|n+1,ay,l73=>bif decide (ay<(l1.length:Int))then((AA l1 ay).bind λ(x74,x75,((x76,x77),(x78,gz)),x80,x81)=>gd ((decide (x75≠(-1)))=true->(0<=x74/\x74<(l73.length:Int)))<|gd ((decide (x75≠(-1)))=true->(0<=x74/\x74<(l73.length:Int)))<|gd (((decide (x75≠(-1)))&&(!(l73.getD x74.toNat false)))=true->(0<=x75/\x75<(l73.length:Int)))<|gd (((decide (x75≠(-1)))&&(!(l73.getD x74.toNat false)))=true->(0<=x75/\x75<(l73.length:Int)))<|bif (decide (x75≠(-1)))&&((l73.getD x74.toNat false)||(l73.getD x75.toNat false))then((AA l73 x74).bind λx87=>(AA (l73.set x74.toNat true) x75).bind λgj=>gd (Ab (ay+1))<|DA N l1 n (ay+1) ((l73.set x74.toNat true).set x75.toNat true))else(gd (Ab (ay+1))<|DA N l1 n (ay+1) l73))else(some l73)
def Ek(N:Nat)(l1:List (Int×Int×((Int×Int)×(Int×Int))×Int×Int)):Nat->Int->(List Bool)->Option ((List Bool))|0,_,_=>none|n+1,be,bo=>bif decide (be<12)then((DA N l1 N 0 bo).bind λfg=>gd (Ab (be+1))<|Ek N l1 n (be+1) fg)else(some bo)
def DB(N:Nat)(l101:List Bool):Nat->Int->(List Int)->Option ((List Int))|0,_,_=>none|n+1,am,l112=>bif decide (am<(l101.length:Int))then((AA l101 am).bind λx113=>bif x113 then(gd ((l112.length+1)*8<=140737488355328)<|gd (Ab (am+1))<|DB N l101 n (am+1) (l112++[am]))else(gd (Ab (am+1))<|DB N l101 n (am+1) l112))else(some l112)
def Fc(N:Nat)(l1:List (Int×Int×((Int×Int)×(Int×Int))×Int×Int))(id2:Int):Option (List Int):=(AA (List.replicate 100 false) id2).bind λx3=>(Ek N l1 N 0 ((List.replicate 100 false).set id2.toNat true)).bind λl101=>(DB N l101 N 0 []).bind λl119=>some l119
@[go_sem] def Ads(N:Nat):Spec:=p0<|pS G3 λl1=>pI λid2=>pE<|pF (Fc N l1 id2) [] λr=>GY r
theorem cU(N:Nat):AZ Tryz.prog 112 (Ads N):=by
 refine Ax x112.ok<|Bf λl1=>Ad λid2=>Ai<|Ay λr h=>wx x112 (An) λ_ hS F=>?_
 dsimp only[x112,Al,G3];unfold Fc at h;obtain⟨L,hL⟩:∃L,L=List.replicate 100 false:=⟨_,rfl⟩
 rw[<-hL]at h;have hlen:L.length=100:=by rw[hL];rfl
 obtain⟨x3,iv,h⟩:=un h;obtain⟨i6,F⟩:=Bt OP iv F;rw[hlen]at i6;obtain⟨fb,cz,h⟩:=un h;refine go hS F ?_;refine RU (s':=⟨[(0,Bq l1),(1,.i id2),(4,.sl 0 true [] []),(5,.own (100,2) 100)],[(.a (100,2),VH L)],0+1+1⟩) (Le.of (by simp only[go_sem,seval]) ⟨by rw[hL];rfl,trivial⟩ (fA _)) ?_;replace F:=fc hlen F;refine go hS F ?_;refine AM fb (λz:(List Bool)×Nat=>⟨[(5,.own (100,2) z.1.length)],[(.a (100,2),VH z.1)],z.2⟩) (λz=>(z.1:(List Bool))) (.x 0) ?_ ?_
 ·refine AH (λn (y:Int×(List Bool)×Nat)=>Ek N l1 n y.1 y.2.1) (λy=>⟨[(0,Bq l1),(5,.own (100,2) y.2.1.length),(6,.i y.1)],[(.a (100,2),VH y.2.1)],y.2.2⟩) (0,L.set id2.toNat true,4) cz (Bn F) ?_;rintro n ⟨be,bo,gy⟩ aa;simp only[Ek]at aa;refine Ap hS F aa (λ_ aa=>?_) (λ_ aa=>?_)
  ·obtain⟨g8,gc,aa⟩:=un aa;refine go hS F ?_;refine AM g8 (λz:(List Bool)×Nat=>⟨[(0,Bq l1),(5,.own (100,2) z.1.length),(6,.i be)],[(.a (100,2),VH z.1)],z.2⟩) (λz=>(z.1:(List Bool))) (.x 2) ?_ ?_
   ·refine AH (λn (y:Int×(List Bool)×Nat)=>DA N l1 n y.1 y.2.1) (λy=>⟨[(0,Bq l1),(5,.own (100,2) y.2.1.length),(6,.i be),(7,.i y.1)],[(.a (100,2),VH y.2.1)],y.2.2⟩) (0,bo,gy+1+1) gc (Bn F) ?_;rintro n ⟨ay,l73,gh⟩ ai;simp only[DA]at ai;refine Ap hS F ai (λ_ ai=>?_) (λ_ ai=>?_)
    ·obtain⟨⟨x74,x75,⟨⟨x76,x77⟩,⟨x78,gz⟩⟩,x80,x81⟩,fq,ai⟩:=un ai;obtain⟨iz,F⟩:=Bt B0 fq F;obtain⟨ig,jc,ie,ic,ai⟩:=un ai;refine Ap hS F ai (λ_ ai=>?_) (λ_ ai=>?_)
     ·obtain⟨x87,fp,gj,co,g9,ai⟩:=un ai;obtain⟨iy,F⟩:=Bt OP fp F;have br:(l73.set x74.toNat true).getD x75.toNat false=gj:=xT co _;have bg:=zF (l73.set x74.toNat true) x75.toNat;rw[br]at bg;simp only[List.map_set,OP]at bg;have iw:=(JQ co).1;exact Bk hS (fc bg (fc br F)) (n,ay+1,(l73.set x74.toNat true).set x75.toNat true,gh+1+1+1+1+1) ai
     ·obtain⟨fo,ai⟩:=un ai;exact Bk hS F (n,ay+1,l73,gh+1+1+1) ai
    ·exact A9 hS F (l73,gh+1) ai
   ·rintro⟨fg,i8⟩ rfl;obtain⟨fj,aa⟩:=un aa;exact Bk hS F (n,be+1,fg,i8+1) aa
  ·exact A9 hS F (bo,gy+1) aa
 ·rintro⟨l101,av⟩ rfl;refine go hS F ?_;refine Df 1000001 8 1 [.i 0] (by show(8:Nat)<79;omega) (by omega) (ev F) ?_;obtain⟨ez,gf,h⟩:=un h;refine go hS F ?_;refine AM ez (λz:(List Int)×Nat=>⟨[(8,.own (1000001,av+1+1+1) z.1.length)],[(.a (1000001,av+1+1+1),Mj z.1)],z.2⟩) (λz=>(z.1:(List Int))) (.x 4) ?_ ?_
  ·refine AH (λn (y:Int×(List Int)×Nat)=>DB N l101 n y.1 y.2.1) (λy=>⟨[(5,.own (100,2) l101.length),(8,.own (1000001,av+1+1+1) y.2.1.length),(9,.i y.1)],[(.a (1000001,av+1+1+1),Mj y.2.1),(.a (100,2),VH l101)],y.2.2⟩) (0,[],av+1+1+1) gf (Bn F) ?_;rintro n ⟨am,l112,bi⟩ ah;simp only[DB]at ah;refine Ap hS F ah (λ_ ah=>?_) (λ_ ah=>?_)
   ·obtain⟨x113,cy,ah⟩:=un ah;obtain⟨gx,F⟩:=Bt OP cy F;refine Ap hS F ah (λ_ ah=>?_) (λ_ ah=>?_)
    ·obtain⟨fh,ip,ah⟩:=un ah;exact Bk hS F (n,am+1,l112++[am],bi+1+1+1+1) ah
    ·obtain⟨ij,ah⟩:=un ah;exact Bk hS F (n,am+1,l112,bi+1+1+1) ah
   ·exact A9 hS F (l112,bi+1) ah
  ·rintro⟨l119,jb⟩ rfl;exact Af hS F h
def Do(N:Nat)(f121:List (Int×Int×Int×(List (Int×Int))×Int×Int))(au:List (Int×Int×((Int×Int)×(Int×Int))×Int×Int)):Nat->Int->(List (List Int))->Option ((List (List Int)))|0,_,_=>none|n+1,aq,l153=>bif decide (aq<(f121.length:Int))then((AA f121 aq).bind λ(bb,d6,d5,dz,dw,du)=>(Fc N au bb).bind λr161=>(AA r161 0).bind λx163=>bif decide (x163=bb)then(gd ((l153.length+1)*24<=140737488355328)<|gd (Ab (aq+1))<|Do N f121 au n (aq+1) (l153++[r161]))else(gd (Ab (aq+1))<|Do N f121 au n (aq+1) l153))else(some l153)
def BW(N:Nat)(f121:List (Int×Int×Int×(List (Int×Int))×Int×Int)):Option (List (List Int)):=(Bj N f121).bind λbm=>bif !bm then(some [])else((AQ N f121).bind λau=>(Do N f121 au N 0 []).bind λbq=>some bq)
@[go_sem] def s59(N:Nat):Spec:=p0<|pG<|pD Ar λf121=>pE<|pE<|pF (BW N f121) [] λr=>Lz r
theorem AbE(N:Nat):AZ Tryz.prog 59 (s59 N):=by
 refine Ax x59.ok<|A2<|Dj λf121=>Ai<|Ai<|Ay λr h=>wx x59 (Ac (K6 N)<|Ac (UF N)<|Ac (cU N)<|An) λ_ hS F=>?_
 dsimp only[x59,Al,Ar];unfold BW at h;obtain⟨bm,ce,h⟩:=un h;replace F:=fc ce F;refine Ap hS F h (λ_ h=>?_) (λ_ h=>?_)
 ·exact Af hS F h
 ·obtain⟨au,b9,h⟩:=un h;replace F:=fc b9 F;refine go hS F ?_;refine Df 1000001 4 1 [.sl 0 true [] []] (by show(4:Nat)<42;omega) (by omega) (ev F) ?_;obtain⟨eh,cz,h⟩:=un h;refine go hS F ?_;refine AM eh (λz:(List (List Int))×Nat=>⟨[(4,.own (1000001,6) z.1.length)],[(.a (1000001,6),kZ z.1)],z.2⟩) (λz=>(z.1:(List (List Int)))) (.x 0) ?_ ?_
  ·refine AH (λn (y:Int×(List (List Int))×Nat)=>Do N f121 au n y.1 y.2.1) (λy=>⟨[(1,.box (0,1) 0),(3,Bq au),(4,.own (1000001,6) y.2.1.length),(5,.i y.1)],[(.a (1000001,6),kZ y.2.1),(.c (0,1) 0,Aj f121)],y.2.2⟩) (0,[],6) cz (Bn F) ?_;rintro n ⟨aq,l153,bh⟩ aa;simp only[Do]at aa;refine Ap hS F aa (λ_ aa=>?_) (λ_ aa=>?_)
   ·obtain⟨⟨bb,d6,d5,dz,dw,du⟩,cu,aa⟩:=un aa;obtain⟨gw,F⟩:=Bt Ak cu F;obtain⟨r161,bz,x163,cr,aa⟩:=un aa;obtain⟨gu,F⟩:=Ma 0 IB cr (fc bz F);refine Ap hS F aa (λ_ aa=>?_) (λ_ aa=>?_)
    ·obtain⟨je,jd,aa⟩:=un aa;exact Bk hS F (n,aq+1,l153++[r161],bh+1+1+1+1+1) aa
    ·obtain⟨ig,aa⟩:=un aa;exact Bk hS F (n,aq+1,l153,bh+1+1+1+1) aa
   ·exact A9 hS F (l153,bh+1) aa
  ·rintro⟨bq,ja⟩ rfl;exact Af hS F h
def Dp(N:Nat)(r285:List Int)(k309:Int)(r174:List (Int×Int×((Int×Int)×(Int×Int))×Int×Int)):Nat->Bool->Int->Option Bool|0,_,_=>none|n+1,ae,n313=>bif decide (n313<(r285.length:Int))then(gd (ae=true->(0<=k309/\k309<(r174.length:Int)))<|gd ((!(decide ((r174.getD k309.toNat (0,0,((0,0),(0,0)),0,0)).2.1≠(-1))))=true->(0<=k309/\k309<(r174.length:Int)))<|gd ((!(decide ((r174.getD k309.toNat (0,0,((0,0),(0,0)),0,0)).2.1≠(-1))))=true->(0<=n313/\n313<(r285.length:Int)))<|gd (Ab (n313+1))<|Dp N r285 k309 r174 n (ae&&((decide ((r174.getD k309.toNat (0,0,((0,0),(0,0)),0,0)).2.1≠(-1)))||(decide ((r174.getD k309.toNat (0,0,((0,0),(0,0)),0,0)).1≠r285.getD n313.toNat 0)))) (n313+1))else(some ae)
def DH(N:Nat)(r174:List (Int×Int×((Int×Int)×(Int×Int))×Int×Int))(r285:List Int):Nat->Bool->Int->Option Bool|0,_,_=>none|n+1,af,k309=>bif decide (k309<(r174.length:Int))then((Dp N r285 k309 r174 N af 0).bind λak=>gd (Ab (k309+1))<|DH N r174 r285 n ak (k309+1))else(some af)
def C2(N:Nat)(f171:List (Int×Int×Int×(List (Int×Int))×Int×Int))(r174:List (Int×Int×((Int×Int)×(Int×Int))×Int×Int)):Nat->Int->(List Int)->Option ((List Int))|0,_,_=>none|n+1,aj,l277=>bif decide (aj<(f171.length:Int))then((AA f171 aj).bind λ(aw,dt,dq,dp,dm,dl)=>(Fc N r174 aw).bind λr285=>(DH N r174 r285 N true 0).bind λan=>bif an then(gd ((l277.length+1)*8<=140737488355328)<|gd (Ab (aj+1))<|C2 N f171 r174 n (aj+1) (l277++[aw]))else(gd (Ab (aj+1))<|C2 N f171 r174 n (aj+1) l277))else(some l277)
def CE(N:Nat)(f171:List (Int×Int×Int×(List (Int×Int))×Int×Int)):Option (List Int):=(Bj N f171).bind λbj=>bif !bj then(some [])else((AQ N f171).bind λr174=>(C2 N f171 r174 N 0 []).bind λbp=>some bp)
@[go_sem] def s60(N:Nat):Spec:=p0<|pG<|pD Ar λf171=>pE<|pE<|pF (CE N f171) [] λr=>GY r
theorem AbF(N:Nat):AZ Tryz.prog 60 (s60 N):=by
 refine Ax x60.ok<|A2<|Dj λf171=>Ai<|Ai<|Ay λr h=>wx x60 (Ac (K6 N)<|Ac (UF N)<|Ac (cU N)<|An) λ_ hS F=>?_
 dsimp only[x60,Al,Ar];unfold CE at h;obtain⟨bj,bw,h⟩:=un h;replace F:=fc bw F;refine Ap hS F h (λ_ h=>?_) (λ_ h=>?_)
 ·exact Af hS F h
 ·obtain⟨r174,bv,h⟩:=un h;replace F:=fc bv F;refine go hS F ?_;refine Df 1000001 4 1 [.i 0] (by show(4:Nat)<74;omega) (by omega) (ev F) ?_;obtain⟨d7,cz,h⟩:=un h;refine go hS F ?_;refine AM d7 (λz:(List Int)×Nat=>⟨[(4,.own (1000001,6) z.1.length)],[(.a (1000001,6),Mj z.1)],z.2⟩) (λz=>(z.1:(List Int))) (.x 0) ?_ ?_
  ·refine AH (λn (y:Int×(List Int)×Nat)=>C2 N f171 r174 n y.1 y.2.1) (λy=>⟨[(1,.box (0,1) 0),(3,Bq r174),(4,.own (1000001,6) y.2.1.length),(5,.i y.1)],[(.a (1000001,6),Mj y.2.1),(.c (0,1) 0,Aj f171)],y.2.2⟩) (0,[],6) cz (Bn F) ?_;rintro n ⟨aj,l277,dh⟩ aa;simp only[C2]at aa;refine Ap hS F aa (λ_ aa=>?_) (λ_ aa=>?_)
   ·obtain⟨⟨aw,dt,dq,dp,dm,dl⟩,cq,aa⟩:=un aa;obtain⟨gt,F⟩:=Bt Ak cq F;obtain⟨r285,bu,aa⟩:=un aa;replace F:=fc bu F;obtain⟨d8,gc,aa⟩:=un aa;refine go hS F ?_;refine AM d8 (λz:Bool×Nat=>⟨[(1,.box (0,1) 0),(3,Bq r174),(4,.own (1000001,6) l277.length),(5,.i aj),(7,.b z.1)],[(.a (1000001,6),Mj l277),(.c (0,1) 0,Aj f171)],z.2⟩) (λz=>(z.1:Bool)) (.x 2) ?_ ?_
    ·refine AH (λn (y:Bool×Int×Nat)=>DH N r174 r285 n y.1 y.2.1) (λy=>⟨[(1,.box (0,1) 0),(3,Bq r174),(4,.own (1000001,6) l277.length),(5,.i aj),(6,GY r285),(7,.b y.1),(8,.i y.2.1)],[(.a (1000001,6),Mj l277),(.c (0,1) 0,Aj f171)],y.2.2⟩) (true,0,dh+1+1+1+1) gc (Bn F) ?_;rintro n ⟨af,k309,dg⟩ ai;simp only[DH]at ai;refine Ap hS F ai (λ_ ai=>?_) (λ_ ai=>?_)
     ·obtain⟨d9,i7,ai⟩:=un ai;refine go hS F ?_;refine AM d9 (λz:Bool×Nat=>⟨[(1,.box (0,1) 0),(3,Bq r174),(4,.own (1000001,6) l277.length),(5,.i aj),(6,GY r285),(7,.b z.1),(8,.i k309)],[(.a (1000001,6),Mj l277),(.c (0,1) 0,Aj f171)],z.2⟩) (λz=>(z.1:Bool)) (.x 4) ?_ ?_
      ·refine AH (λn (y:Bool×Int×Nat)=>Dp N r285 k309 r174 n y.1 y.2.1) (λy=>⟨[(1,.box (0,1) 0),(3,Bq r174),(4,.own (1000001,6) l277.length),(5,.i aj),(6,GY r285),(7,.b y.1),(8,.i k309),(9,.i y.2.1)],[(.a (1000001,6),Mj l277),(.c (0,1) 0,Aj f171)],y.2.2⟩) (af,0,dg+1+1) i7 (Bn F) ?_;rintro n ⟨ae,n313,de⟩ az;simp only[Dp]at az;refine Ap hS F az (λ_ az=>?_) (λ_ az=>?_)
       ·obtain⟨ie,ic,g9,fo,az⟩:=un az;exact Bk hS F (n,ae&&((decide ((r174.getD k309.toNat (0,0,((0,0),(0,0)),0,0)).2.1≠(-1)))||(decide ((r174.getD k309.toNat (0,0,((0,0),(0,0)),0,0)).1≠r285.getD n313.toNat 0))),n313+1,de+1+1+1) az
       ·exact A9 hS F (ae,de+1) az
      ·rintro⟨ak,gi⟩ rfl;obtain⟨fj,ai⟩:=un ai;exact Bk hS F (n,ak,k309+1,gi+1) ai
     ·exact A9 hS F (af,dg+1) ai
    ·rintro⟨an,db⟩ rfl;refine Ap hS F aa (λ_ aa=>?_) (λ_ aa=>?_)
     ·obtain⟨ir,iq,aa⟩:=un aa;exact Bk hS F (n,aj+1,l277++[aw],db+1+1+1) aa
     ·obtain⟨fh,aa⟩:=un aa;exact Bk hS F (n,aj+1,l277,db+1+1) aa
   ·exact A9 hS F (l277,dh+1) aa
  ·rintro⟨bp,i9⟩ rfl;exact Af hS F h
