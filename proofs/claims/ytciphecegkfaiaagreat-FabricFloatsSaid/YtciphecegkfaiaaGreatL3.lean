import Derived.Test.YtciphecegkfaiaaGreatNS
namespace Go.Proofs.YtciphecegkfaiaaGreat.Am
open Go
attribute [local irreducible] awp B5 BR Bx B3 Bw Bn BS B1 itK
set_option maxRecDepth 100000
set_option maxHeartbeats 8000000
set_option linter.unusedSimpArgs false
set_option linter.unusedVariables false
def DY (N:Nat) (r61:List (Int×Int)) (x65:Int) (x74:Int):Nat→Int→Int→Int→Int→Option (Sum (Int×Int×Int) Bool)
 |0,_,_,_,_=>none
 |n+1,av,ak,ae,am=>
  bif decide (am<(r61.length:Int)) then(
   (nth r61 am).bind fun(x99,x100)=>
   (bif decide (x99=x65)&&decide (x100=x74) then(
     gd (I64 (av+1))<|
     some (av+1))
    else(
     some av):Option (Int)).bind fun bb=>
   (bif decide (x99=x74)&&decide (x100=x65) then(
     gd (I64 (ak+1))<|
     some (ak+1))
    else(
     some ak):Option (Int)).bind fun bh=>
   (bif decide (x99=x65)&&decide (x100=(-1)) then(
     gd (I64 (ae+1))<|
     some (ae+1))
    else(
     some ae):Option (Int)).bind fun au=>
   gd ((decide (0<am))=true→(I64 (am-1)))<|
   gd ((decide (0<am))=true→(0≤max (am-1) 0∧max (am-1) 0<(r61.length:Int)))<|
   gd ((!(decide (x99<(r61.getD (max (am-1) 0).toNat (0,0)).1)))=true→(I64 (am-1)))<|
   gd ((!(decide (x99<(r61.getD (max (am-1) 0).toNat (0,0)).1)))=true→(0≤max (am-1) 0∧max (am-1) 0<(r61.length:Int)))<|
   gd ((decide (x99=(r61.getD (max (am-1) 0).toNat (0,0)).1))=true→(I64 (am-1)))<|
   gd ((decide (x99=(r61.getD (max (am-1) 0).toNat (0,0)).1))=true→(0≤max (am-1) 0∧max (am-1) 0<(r61.length:Int)))<|
   bif (decide (x99=(-1)))||((decide (0<am))&&((decide (x99<(r61.getD (max (am-1) 0).toNat (0,0)).1))||((decide (x99=(r61.getD (max (am-1) 0).toNat (0,0)).1))&&(decide (x100≤(r61.getD (max (am-1) 0).toNat (0,0)).2))))) then(
    some (.inr false))
   else(
    gd (I64 (am+1))<|
    DY N r61 x65 x74 n bb bh au (am+1)))
  else(
   some (.inl (av,ak,ae)))
def DZ (N:Nat) (low172:List (Int×Int)) (aj:Int) (af:Int) (ah:Int) (aw:Int):Nat→Int→Option (Sum Unit Bool)
 |0,_=>none
 |n+1,bm=>
  bif decide (bm<(low172.length:Int)) then(
   (nth low172 bm).bind fun(bj,bi)=>
   gd (I64 (aj-af))<|
   gd (I64 (bi-ah))<|
   gd (I64 ((aj-af)*(bi-ah)))<|
   gd (I64 (aw-ah))<|
   gd (I64 (bj-af))<|
   gd (I64 ((aw-ah)*(bj-af)))<|
   gd (I64 (((aj-af)*(bi-ah))-((aw-ah)*(bj-af))))<|
   bif ((decide (0<aj-af))&&(decide (0<((aj-af)*(bi-ah))-((aw-ah)*(bj-af)))))||((decide (aj-af<0))&&(decide (((aj-af)*(bi-ah))-((aw-ah)*(bj-af))<0))) then(
    some (.inr false))
   else(
    gd (I64 (bm+1))<|
    DZ N low172 aj af ah aw n (bm+1)))
  else(
   some (.inl ()))
def Hr (N:Nat) (x54:List (Int×Int×Int×Int×Int×Int)) (ay:Int) (az:Int):Option Bool:=
 (Cy N).bind fun bo=>
 bif !bo then(
  some false)
 else(
  (Cx N x54).bind fun r59=>
  (Co N r59).bind fun r61=>
  bif decide ((r59.length:Int)=0) then(
   gd ((decide ((r61.length:Int)=0))=true→((Bi N r59).isSome=true))<|
   some ((decide ((r61.length:Int)=0))&&(decide ((((Bi N r59).getD []).length:Int)=0))))
  else(
   (BB N ay (r59.length:Int)).bind fun gz=>
   (nth r59 gz).bind fun(x65,x66,x67,x68,x69,x70)=>
   (BB N az (r59.length:Int)).bind fun gy=>
   (nth r59 gy).bind fun(x74,x75,x76,x77,x78,bz)=>
   (DY N r61 x65 x74 N 0 0 0 0).bind fun cr=>match cr with
    | .inl (an,bg,aq)=>(
     (Dl N x65 x66 x67 x68 x69 x70).bind fun((eh,d9,((d8,d7),(d6,d5)),dz,dw),de)=>
     bif (de !=(decide (aq=1)))||(decide (1<aq)) then(
      some false)
     else(
      bif decide (x65=x74) then(
       some (decide (an=0)))
      else(
       (Eg N x65 x66 x67 x68 x69 x70 x74 x75 x76 x77 x78 bz).bind fun((co,ci,((af,ah),(aj,aw)),ce,b9),db)=>
       bif (!db)||(decide (af=aj)) then(
        some ((decide (an=0))&&(decide (bg=0))))
       else(
        gd (I64 (an+bg))<|
        bif decide (an+bg≠1) then(
         some false)
        else(
         (bif decide (an=1) then(
           some (x74,x75,x76,x77,x78,bz))
          else(
           some (x65,x66,x67,x68,x69,x70)):Option (Int×Int×Int×(List (Int×Int))×Int×Int)).bind fun(bv,bu,br,low172,bq,bp)=>
         (DZ N low172 aj af ah aw N 0).bind fun cq=>match cq with
          | .inl ()=>(
           some bo)
          | .inr du=>(
           some du))))))
    | .inr ez=>(
     some ez)))
theorem PJ (N:Nat) (x54:List (Int×Int×Int×Int×Int×Int)) (ay:Int) (az:Int) (r:Bool) (h:Hr N x54 ay az=some r):PCall Tryz.prog 5 [G8 x54,.i ay,.i az] (.b r):=by
 refine wx x5 (Aa (Nb N)<|Aa (M8 N)<|Aa (Q8 N)<|Aa (Q7 N)<|Aa (M7 N)<|Aa (QT N)<|Aa (QS N)<|Aj) fun _ hS F=> ?_
 dsimp only[x5,mkX]
 unfold Hr at h
 obtain⟨bo,gh,h⟩:=un h
 replace F:=fc gh F
 refine gcb hS F h (fun _ h=> ?_) (fun _ h=> ?_)
 ·exact Ad hS F h
 ·obtain⟨r59,gf,r61,gc,h⟩:=un h
  replace F:=fc gc (fc gf F)
  refine gcb hS F h (fun _ h=> ?_) (fun _ h=> ?_)
  ·obtain⟨ji,h⟩:=un h
   exact Ad hS F h
  ·obtain⟨gz,fq,⟨x65,x66,x67,x68,x69,x70⟩,gj,h⟩:=un h
   obtain⟨jc,F⟩:=rqG Ai gj (fc fq F)
   obtain⟨gy,fj,⟨x74,x75,x76,x77,x78,bz⟩,gi,h⟩:=un h
   obtain⟨jb,F⟩:=rqG Ai gi (fc fj F)
   obtain⟨cr,jd,h⟩:=un h
   refine go hS F ?_
   refine Au cr (fun z:Int×Int×Int×Nat=>⟨[(7,.b bo),(10,.box (809,7) 0),(11,.box (909,8) 0),(12,.i z.1),(13,.i z.2.1),(14,.i z.2.2.1)],[(.c (909,8) 0,.i x74),(.c (909,8) 1,.i x75),(.c (909,8) 2,.i x76),(.c (909,8) 3,A1 x77),(.c (909,8) 4,.i x78),(.c (909,8) 5,.i bz),(.c (809,7) 0,.i x65),(.c (809,7) 1,.i x66),(.c (809,7) 2,.i x67),(.c (809,7) 3,A1 x68),(.c (809,7) 4,.i x69),(.c (809,7) 5,.i x70)],z.2.2.2⟩) (fun z=>(.inl (z.1,z.2.1,z.2.2.1):Sum (Int×Int×Int) Bool)) (.x 0) ?_ ?_
   ·refine Aq (fun n (y:Int×Int×Int×Int×Nat)=>DY N r61 x65 x74 n y.1 y.2.1 y.2.2.1 y.2.2.2.1) (fun y=>⟨[(7,.b bo),(9,A1 r61),(10,.box (809,7) 0),(11,.box (909,8) 0),(12,.i y.1),(13,.i y.2.1),(14,.i y.2.2.1),(15,.i y.2.2.2.1)],[(.c (909,8) 0,.i x74),(.c (909,8) 1,.i x75),(.c (909,8) 2,.i x76),(.c (909,8) 3,A1 x77),(.c (909,8) 4,.i x78),(.c (909,8) 5,.i bz),(.c (809,7) 0,.i x65),(.c (809,7) 1,.i x66),(.c (809,7) 2,.i x67),(.c (809,7) 3,A1 x68),(.c (809,7) 4,.i x69),(.c (809,7) 5,.i x70)],y.2.2.2.2⟩) (0,0,0,0,12) jd (leF F) ?_
    rintro n ⟨av,ak,ae,am,gu⟩ be
    simp only[DY] at be
    refine gcb hS F be (fun _ be=> ?_) (fun _ be=> ?_)
    ·obtain⟨⟨x99,x100⟩,dm,be⟩:=un be
     obtain⟨g9,F⟩:=rqG Br dm F
     obtain⟨fh,cz,be⟩:=un be
     refine go hS F ?_
     refine Au fh (fun z:Int×Nat=>⟨[(7,.b bo),(9,A1 r61),(10,.box (809,7) 0),(11,.box (909,8) 0),(12,.i z.1),(13,.i ak),(14,.i ae),(15,.i am)],[(.c (909,8) 0,.i x74),(.c (909,8) 1,.i x75),(.c (909,8) 2,.i x76),(.c (909,8) 3,A1 x77),(.c (909,8) 4,.i x78),(.c (909,8) 5,.i bz),(.c (809,7) 0,.i x65),(.c (809,7) 1,.i x66),(.c (809,7) 2,.i x67),(.c (809,7) 3,A1 x68),(.c (809,7) 4,.i x69),(.c (809,7) 5,.i x70)],z.2⟩) (fun z=>(z.1:Int)) .n ?_ ?_
     ·refine gcb hS F cz (fun _ cz=> ?_) (fun _ cz=> ?_)
      ·obtain⟨jh,cz⟩:=un cz
       exact gck hS F (av+1,gu+1+1+1) cz
      ·exact gck hS F (av,gu+1+1) cz
     ·rintro⟨bb,dt⟩ rfl
      obtain⟨fg,cy,be⟩:=un be
      refine go hS F ?_
      refine Au fg (fun z:Int×Nat=>⟨[(7,.b bo),(9,A1 r61),(10,.box (809,7) 0),(11,.box (909,8) 0),(12,.i bb),(13,.i z.1),(14,.i ae),(15,.i am)],[(.c (909,8) 0,.i x74),(.c (909,8) 1,.i x75),(.c (909,8) 2,.i x76),(.c (909,8) 3,A1 x77),(.c (909,8) 4,.i x78),(.c (909,8) 5,.i bz),(.c (809,7) 0,.i x65),(.c (809,7) 1,.i x66),(.c (809,7) 2,.i x67),(.c (809,7) 3,A1 x68),(.c (809,7) 4,.i x69),(.c (809,7) 5,.i x70)],z.2⟩) (fun z=>(z.1:Int)) .n ?_ ?_
      ·refine gcb hS F cy (fun _ cy=> ?_) (fun _ cy=> ?_)
       ·obtain⟨jg,cy⟩:=un cy
        exact gck hS F (ak+1,dt+1+1) cy
       ·exact gck hS F (ak,dt+1) cy
      ·rintro⟨bh,dq⟩ rfl
       obtain⟨fb,cu,be⟩:=un be
       refine go hS F ?_
       refine Au fb (fun z:Int×Nat=>⟨[(7,.b bo),(9,A1 r61),(10,.box (809,7) 0),(11,.box (909,8) 0),(12,.i bb),(13,.i bh),(14,.i z.1),(15,.i am)],[(.c (909,8) 0,.i x74),(.c (909,8) 1,.i x75),(.c (909,8) 2,.i x76),(.c (909,8) 3,A1 x77),(.c (909,8) 4,.i x78),(.c (909,8) 5,.i bz),(.c (809,7) 0,.i x65),(.c (809,7) 1,.i x66),(.c (809,7) 2,.i x67),(.c (809,7) 3,A1 x68),(.c (809,7) 4,.i x69),(.c (809,7) 5,.i x70)],z.2⟩) (fun z=>(z.1:Int)) .n ?_ ?_
       ·refine gcb hS F cu (fun _ cu=> ?_) (fun _ cu=> ?_)
        ·obtain⟨jf,cu⟩:=un cu
         exact gck hS F (ae+1,dq+1+1) cu
        ·exact gck hS F (ae,dq+1) cu
       ·rintro⟨au,gx⟩ rfl
        obtain⟨ja,i9,i8,i7,i6,iz,be⟩:=un be
        refine gcb hS F be (fun _ be=> ?_) (fun _ be=> ?_)
        ·obtain rfl:=yJ be
         exact Ad hS F h
        ·obtain⟨iy,be⟩:=un be
         exact gbk hS F (n,bb,bh,au,am+1,gx+1+1) be
    ·exact gck hS F (av,ak,ae,gu+1) be
   ·rintro⟨an,bg,aq,aa⟩ rfl
    obtain⟨⟨⟨eh,d9,⟨⟨d8,d7⟩,⟨d6,d5⟩⟩,dz,dw⟩,de⟩,dh,h⟩:=un h
    replace F:=fc dh F
    refine gcb hS F h (fun _ h=> ?_) (fun _ h=> ?_)
    ·exact Ad hS F h
    ·refine gcb hS F h (fun _ h=> ?_) (fun _ h=> ?_)
     ·exact Ad hS F h
     ·obtain⟨⟨⟨co,ci,⟨⟨af,ah⟩,⟨aj,aw⟩⟩,ce,b9⟩,db⟩,dg,h⟩:=un h
      replace F:=fc dg F
      refine gcb hS F h (fun _ h=> ?_) (fun _ h=> ?_)
      ·exact Ad hS F h
      ·obtain⟨iw,h⟩:=un h
       refine gcb hS F h (fun _ h=> ?_) (fun _ h=> ?_)
       ·exact Ad hS F h
       ·obtain⟨e9,bw,h⟩:=un h
        refine go hS F ?_
        refine Au e9 (fun z:Int×Int×Int×(List (Int×Int))×Int×Int×Nat=>⟨[(7,.b bo),(18,.box (2906,aa+1+1+1+1) 0),(20,.box (3401,aa+1+1+1+1+1+1+1) 0)],[(.c (3401,aa+1+1+1+1+1+1+1) 0,.i z.1),(.c (3401,aa+1+1+1+1+1+1+1) 1,.i z.2.1),(.c (3401,aa+1+1+1+1+1+1+1) 2,.i z.2.2.1),(.c (3401,aa+1+1+1+1+1+1+1) 3,A1 z.2.2.2.1),(.c (3401,aa+1+1+1+1+1+1+1) 4,.i z.2.2.2.2.1),(.c (3401,aa+1+1+1+1+1+1+1) 5,.i z.2.2.2.2.2.1),(.c (2906,aa+1+1+1+1) 0,.i co),(.c (2906,aa+1+1+1+1) 1,.i ci),(.c (2906,aa+1+1+1+1) 2,.i af),(.c (2906,aa+1+1+1+1) 3,.i ah),(.c (2906,aa+1+1+1+1) 4,.i aj),(.c (2906,aa+1+1+1+1) 5,.i aw),(.c (2906,aa+1+1+1+1) 6,.i ce),(.c (2906,aa+1+1+1+1) 7,.i b9)],z.2.2.2.2.2.2⟩) (fun z=>((z.1,z.2.1,z.2.2.1,z.2.2.2.1,z.2.2.2.2.1,z.2.2.2.2.2.1):Int×Int×Int×(List (Int×Int))×Int×Int)) .n ?_ ?_
        ·refine gcb hS F bw (fun _ bw=> ?_) (fun _ bw=> ?_)
         ·exact gck hS F (x74,x75,x76,x77,x78,bz,aa+1+1+1+1+1+1+1+1+1) bw
         ·exact gck hS F (x65,x66,x67,x68,x69,x70,aa+1+1+1+1+1+1+1+1) bw
        ·rintro⟨bv,bu,br,low172,bq,bp,gw⟩ rfl
         obtain⟨cq,gt,h⟩:=un h
         refine go hS F ?_
         refine Au cq (fun z:Nat=>⟨[(7,.b bo)],[],z⟩) (fun z=>(.inl ():Sum Unit Bool)) (.x 2) ?_ ?_
         ·refine Aq (fun n (y:Int×Nat)=>DZ N low172 aj af ah aw n y.1) (fun y=>⟨[(7,.b bo),(18,.box (2906,aa+1+1+1+1) 0),(20,.box (3401,aa+1+1+1+1+1+1+1) 0),(21,.i y.1)],[(.c (3401,aa+1+1+1+1+1+1+1) 0,.i bv),(.c (3401,aa+1+1+1+1+1+1+1) 1,.i bu),(.c (3401,aa+1+1+1+1+1+1+1) 2,.i br),(.c (3401,aa+1+1+1+1+1+1+1) 3,A1 low172),(.c (3401,aa+1+1+1+1+1+1+1) 4,.i bq),(.c (3401,aa+1+1+1+1+1+1+1) 5,.i bp),(.c (2906,aa+1+1+1+1) 0,.i co),(.c (2906,aa+1+1+1+1) 1,.i ci),(.c (2906,aa+1+1+1+1) 2,.i af),(.c (2906,aa+1+1+1+1) 3,.i ah),(.c (2906,aa+1+1+1+1) 4,.i aj),(.c (2906,aa+1+1+1+1) 5,.i aw),(.c (2906,aa+1+1+1+1) 6,.i ce),(.c (2906,aa+1+1+1+1) 7,.i b9)],y.2⟩) (0,gw+1) gt (leF F) ?_
          rintro n ⟨bm,dp⟩ ai
          simp only[DZ] at ai
          refine gcb hS F ai (fun _ ai=> ?_) (fun _ ai=> ?_)
          ·obtain⟨⟨bj,bi⟩,dl,ai⟩:=un ai
           obtain⟨g8,F⟩:=rqG Br dl F
           obtain⟨iv,iq,ip,ij,ig,ie,ic,ai⟩:=un ai
           refine gcb hS F ai (fun _ ai=> ?_) (fun _ ai=> ?_)
           ·obtain rfl:=yJ ai
            exact Ad hS F h
           ·obtain⟨ib,ai⟩:=un ai
            exact gbk hS F (n,bm+1,dp+1+1+1+1+1+1) ai
          ·exact gck hS F (dp+1) ai
         ·rintro je rfl
          exact Ad hS F h
end Go.Proofs.YtciphecegkfaiaaGreat.Am
