import Derived.Test.YtciphecegkfaiaaGreatF9
set_option linter.unusedSimpArgs false
set_option linter.unusedVariables false
namespace Go.Proofs.YtciphecegkfaiaaGreat.Am
open Go
attribute [local irreducible] As Cn B6 BK CA BJ Bv Cl Cv Dx
set_option maxRecDepth 100000
set_option maxHeartbeats 8000000
theorem PCall.resD{P:Program}{f:Nat}{args:List AV}{r r':AV}(hw:Js r r')(h:PCall P f args r):PCall P f args r':=λU vs hg hl hp hr=>(h U vs hg hl hp hr).mono λe w' ⟨v,h1,h2,h0,h3,h4⟩=>⟨v,h1,h2,h0,(MO (U:=U) _ _ v hw).1 h3,(MO _ _ _ hw).2 h4⟩
def De(N:Nat)(f1:List (Int×Int×Int×(List (Int×Int))×Int×Int)):Nat->Int->(List (Int×Int×Int×(List (Int×Int))×Int×Int))->Option ((List (Int×Int×Int×(List (Int×Int))×Int×Int)))|0,_,_=>none|n+1,am,l39=>bif decide (am<(f1.length:Int))then((AA f1 am).bind λ(x40,x41,x42,x43,x44,VC)=>(Bd N x40 x41 x42 x43 x44 VC).bind λ(r47,dw,du,dt,dq,dp)=>gd ((l39.length+1)*64<=140737488355328)<|gd (Ab (am+1))<|De N f1 n (am+1) (l39++[(r47,dw,du,dt,dq,dp)]))else(some l39)
def Gn(N:Nat)(f1:List (Int×Int×Int×(List (Int×Int))×Int×Int))(how2:Int)(n3:Int)(at4:Int):Option (List (Int×Int×Int×(List (Int×Int))×Int×Int)):=(De N f1 N 0 []).bind λl58=>bif decide ((l58.length:Int)=0)then(some [(n3,0,0,[],0,0)])else((Ae N at4 (l58.length:Int)).bind λr60=>(Ae N how2 4).bind λgy=>bif decide (gy=0)then((AA l58 r60).bind λ(dm,dl,dh,dg,de,db)=>gd (Ab (how2.tdiv 4))<|gd (Ab (at4.tdiv 12))<|(Fo N dm dl dh dg de db (how2.tdiv 4) n3 (at4.tdiv 12)).bind λ(fo,fj,fh,fg,fb,ez)=>some (l58.set r60.toNat (fo,fj,fh,fg,fb,ez)))else(bif decide (gy=1)then((AA l58 r60).bind λ(cz,cy,cu,cr,cq,co)=>(Bd N cz cy cu cr cq co).bind λ(eh,d9,d8,d7,d6,d5)=>gd ((l58.length+1)*64<=140737488355328)<|some (l58++[(eh,d9,d8,d7,d6,d5)]))else(bif decide (gy=2)then((AA l58 r60).bind λ(ce,b9,bz,bw,bv,bu)=>(Ae N n3 9).bind λav=>gd (Ab (av-4))<|gd (Ab (n3.tdiv 9))<|(Ae N (n3.tdiv 9) 9).bind λau=>gd (Ab (au-4))<|(DX N bw (av-4) (au-4)).bind λ(dz,gz)=>some (l58.set r60.toNat (ce,b9,bz,dz,bv,bu)))else((AA l58 r60).bind λ(ak,aj,ai,ah,af,ae)=>(AA l58 0).bind λ(br,bq,bp,bo,bm,bj)=>(AA (l58.set 0 (ak,aj,ai,ah,af,ae)) r60).bind λ(bi,bh,bg,be,bb,az)=>some ((l58.set 0 (ak,aj,ai,ah,af,ae)).set r60.toNat (br,bq,bp,bo,bm,bj))))))
@[go_sem] def s13(N:Nat):Spec:=p0<|pG<|pD Ar λf1=>pE<|pI λhow2=>pI λn3=>pI λat4=>pE<|pF (Gn N f1 how2 n3 at4) [] λr=>.agg [Aj r]
theorem AbJ(N:Nat):AZ Tryz.prog 13 (s13 N):=by
 refine Ax x13.ok<|A2<|Dj λf1=>Ai<|Ad λhow2=>Ad λn3=>Ad λat4=>Ai<|Ay λr h=>?_
 unfold Gn at h;rw[yB]at h;obtain⟨l0,iv,h⟩:=h;by_cases hz:decide ((l0.length:Int)=0)=true
 ·rw[hz,Cg]at h;obtain rfl:=yJ h;refine PCall.resD (r:=.agg [.sl 6 false [[.i n3,.i 0,.i 0,.sl 0 true [] [],.i 0,.i 0]] [.i 0,.i 0,.i 0,.sl 0 true [] [],.i 0,.i 0]]) (by simp[Js,JP,J0,Ih,wk,go_sem]) ?_;refine wx x13 (Ac (P5 N)<|Ac (UE N)<|Ac (oH N)<|Ac (Zk N)<|An) λ_ hS F=>?_
  dsimp only[x13,Al,Ar];refine go hS F ?_;refine DO hS 1 x51.hf x51.hc x51.hn x51.ok rfl (ev F) (ev F) ?_ rfl (ev F) (mO rfl) λhb=>?_
  ·exact Hk hS F
  dsimp only[x51,Al];refine go hS F ?_;refine Dy 1000001 (100,4) 0 6 [.i 0,.i 0,.i 0,.sl 0 true [] [],.i 0,.i 0] (by omega) (ev F) ?_;refine go hS F ?_;refine AM l0 (λz:(List (Int×Int×Int×(List (Int×Int))×Int×Int))×Nat=>⟨[(2,.box (1,3) 0),(3,.box (100,4) 0)],[(.c (1,1) 0,.sl 0 true [] []),(.c (0,1) 0,Aj f1),(.c (100,4) 0,.own (1000001,6) z.1.length),(.a (1000001,6),Bl z.1),(.c (1,3) 0,.sl 0 true [] [])],z.2⟩) (λz=>(z.1:(List (Int×Int×Int×(List (Int×Int))×Int×Int)))) (.x 0) ?_ ?_
  ·refine AH (λn (y:Int×(List (Int×Int×Int×(List (Int×Int))×Int×Int))×Nat)=>De N f1 n y.1 y.2.1) (λy=>⟨[(1,.box (0,3) 0),(2,.box (1,3) 0),(3,.box (100,4) 0),(4,.i y.1)],[(.c (1,1) 0,.sl 0 true [] []),(.c (0,1) 0,Aj f1),(.c (100,4) 0,.own (1000001,6) y.2.1.length),(.a (1000001,6),Bl y.2.1),(.c (1,3) 0,.sl 0 true [] []),(.c (0,3) 0,Aj f1)],y.2.2⟩) (0,[],6) iv (Bn F) ?_;rintro n ⟨am,l39,gx⟩ aa;simp only[De]at aa;refine Ap hS F aa (λ_ aa=>?_) (λ_ aa=>?_)
   ·obtain⟨⟨x40,x41,x42,x43,x44,VC⟩,ay,aa⟩:=un aa;obtain⟨ic,F⟩:=Bt Ak ay F;obtain⟨⟨r47,dw,du,dt,dq,dp⟩,aw,aa⟩:=un aa;obtain⟨iy,iw,aa⟩:=un aa;exact Bk hS (fc aw F) (n,am+1,l39++[(r47,dw,du,dt,dq,dp)],gx+1+1+1) aa
   ·exact A9 hS F (l39,gx+1) aa
  ·rintro⟨l58,i6⟩ rfl;simp only at hz;refine TB hS (fc hz F) ?_;exact Af hS F (rfl:some ()=some ())
 ·rw[(w6.2 hz),tN]at h;refine wx x13 (Ac (P5 N)<|Ac (UE N)<|Ac (oH N)<|Ac (Zk N)<|An) λ_ hS F=>?_
  dsimp only[x13,Al,Ar];refine go hS F ?_;refine DO hS 1 x51.hf x51.hc x51.hn x51.ok rfl (ev F) (ev F) ?_ rfl (ev F) (mO rfl) λhb=>?_
  ·exact Hk hS F
  dsimp only[x51,Al];refine go hS F ?_;refine Dy 1000001 (100,4) 0 6 [.i 0,.i 0,.i 0,.sl 0 true [] [],.i 0,.i 0] (by omega) (ev F) ?_;refine go hS F ?_;refine AM l0 (λz:(List (Int×Int×Int×(List (Int×Int))×Int×Int))×Nat=>⟨[(2,.box (1,3) 0),(3,.box (100,4) 0)],[(.c (1,1) 0,.sl 0 true [] []),(.c (0,1) 0,Aj f1),(.c (100,4) 0,.own (1000001,6) z.1.length),(.a (1000001,6),Bl z.1),(.c (1,3) 0,.sl 0 true [] [])],z.2⟩) (λz=>(z.1:(List (Int×Int×Int×(List (Int×Int))×Int×Int)))) (.x 0) ?_ ?_
  ·refine AH (λn (y:Int×(List (Int×Int×Int×(List (Int×Int))×Int×Int))×Nat)=>De N f1 n y.1 y.2.1) (λy=>⟨[(1,.box (0,3) 0),(2,.box (1,3) 0),(3,.box (100,4) 0),(4,.i y.1)],[(.c (1,1) 0,.sl 0 true [] []),(.c (0,1) 0,Aj f1),(.c (100,4) 0,.own (1000001,6) y.2.1.length),(.a (1000001,6),Bl y.2.1),(.c (1,3) 0,.sl 0 true [] []),(.c (0,3) 0,Aj f1)],y.2.2⟩) (0,[],6) iv (Bn F) ?_;rintro n ⟨am,l39,gx⟩ aa;simp only[De]at aa;refine Ap hS F aa (λ_ aa=>?_) (λ_ aa=>?_)
   ·obtain⟨⟨x40,x41,x42,x43,x44,VC⟩,ay,aa⟩:=un aa;obtain⟨ic,F⟩:=Bt Ak ay F;obtain⟨⟨r47,dw,du,dt,dq,dp⟩,aw,aa⟩:=un aa;obtain⟨iy,iw,aa⟩:=un aa;exact Bk hS (fc aw F) (n,am+1,l39++[(r47,dw,du,dt,dq,dp)],gx+1+1+1) aa
   ·exact A9 hS F (l39,gx+1) aa
  ·rintro⟨l58,i6⟩ rfl;have hz':=w6.2 hz;simp only at hz';refine Kg hS (fc hz' F) ?_
   ·obtain⟨r60,g9,gy,g8,h⟩:=un h;replace F:=fc g8 (fc g9 F);refine Ap hS F h (λ_ h=>?_) (λ_ h=>?_)
    ·obtain⟨⟨dm,dl,dh,dg,de,db⟩,gw,h⟩:=un h;obtain⟨ir,F⟩:=Bt Ak gw F;obtain⟨jb,ja,⟨fo,fj,fh,fg,fb,ez⟩,gh,h⟩:=un h;exact Af hS (fc gh F) h
    ·refine Ap hS F h (λ_ h=>?_) (λ_ h=>?_)
     ·obtain⟨⟨cz,cy,cu,cr,cq,co⟩,gu,h⟩:=un h;obtain⟨iq,F⟩:=Bt Ak gu F;obtain⟨⟨eh,d9,d8,d7,d6,d5⟩,gf,h⟩:=un h;obtain⟨i9,h⟩:=un h;exact Af hS (fc gf F) h
     ·refine Ap hS F h (λ_ h=>?_) (λ_ h=>?_)
      ·obtain⟨⟨ce,b9,bz,bw,bv,bu⟩,gt,h⟩:=un h;obtain⟨ip,F⟩:=Bt Ak gt F;obtain⟨av,gc,i8,i7,au,fq,iz,⟨dz,gz⟩,fp,h⟩:=un h;exact Af hS (fc fp (fc fq (fc gc F))) h
      ·obtain⟨⟨ak,aj,ai,ah,af,ae⟩,gj,h⟩:=un h;obtain⟨ij,F⟩:=Bt Ak gj F;obtain⟨⟨br,bq,bp,bo,bm,bj⟩,gi,h⟩:=un h;obtain⟨ig,F⟩:=Ma 0 Ak gi F;obtain⟨⟨bi,bh,bg,be,bb,az⟩,aq,h⟩:=un h;have an:∀d,BG ((l58.set 0 (ak,aj,ai,ah,af,ae)).map Ak) d r60.toNat=[.i bi,.i bh,.i bg,A3 be,.i bb,.i az]:=Ut aq;simp only[List.map_set,Ak,A3]at an;have ie:=(JQ aq).1;exact Af hS (fc an F) h
