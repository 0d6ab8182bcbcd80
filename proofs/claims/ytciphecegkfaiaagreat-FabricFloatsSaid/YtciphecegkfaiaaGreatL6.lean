import Derived.Test.YtciphecegkfaiaaGreatNS
namespace Go.Proofs.YtciphecegkfaiaaGreat.Am
open Go
attribute [local irreducible] awp B5 BR Bx B3 Bw Bn BS B1 itK
set_option maxRecDepth 100000
set_option maxHeartbeats 8000000
set_option linter.unusedSimpArgs false
set_option linter.unusedVariables false
attribute [local go_sem] Q5 Q6
def FG (N:Nat) (l132:List Int) (bp:Int):Nat→Int→Option (Sum Unit Bool)
 |0,_=>none
 |n+1,cz=>
  bif decide (cz<(l132.length:Int)) then(
   (nth l132 cz).bind fun Yb=>
   bif decide (Yb=bp) then(
    some (.inr true))
   else(
    gd (I64 (cz+1))<|
    FG N l132 bp n (cz+1)))
  else(
   some (.inl ()))
def Dq (N:Nat) (l132:List Int) (bp:Int):Option Bool:=
 (FG N l132 bp N 0).bind fun d8=>match d8 with
  | .inl ()=>(
   some false)
  | .inr kr=>(
   some kr)
@[go_sem] def s35 (N:Nat):Spec:=p0<|pS R_i fun l132=>pI fun bp=>pE<|pF (Dq N l132 bp) false fun r=> .b r
theorem mI (N:Nat):FOK Tryz.prog 35 (s35 N):=by
 refine Al x35.ok<|A3 fun l132=>Ac fun bp=>Ah<|An fun r h=>wx x35 (Aj) fun _ hS F=> ?_
 dsimp only[x35,mkX,R_i]
 unfold Dq at h
 obtain⟨d8,lf,h⟩:=un h
 refine go hS F ?_
 refine Au d8 (fun z:Nat=>⟨[],[],z⟩) (fun z=>(.inl ():Sum Unit Bool)) (.x 0) ?_ ?_
 ·refine Aq (fun n (y:Int×Nat)=>FG N l132 bp n y.1) (fun y=>⟨[(0,L_i l132),(1,.i bp),(5,.i y.1)],[],y.2⟩) (0,2) lf (leF F) ?_
  rintro n ⟨cz,jm⟩ av
  simp only[FG] at av
  refine gcb hS F av (fun _ av=> ?_) (fun _ av=> ?_)
  ·obtain⟨Yb,je,av⟩:=un av
   obtain⟨mb,F⟩:=rqG e_i je F
   refine gcb hS F av (fun _ av=> ?_) (fun _ av=> ?_)
   ·obtain rfl:=yJ av
    exact Ad hS F h
   ·obtain⟨nw,av⟩:=un av
    exact gbk hS F (n,cz+1,jm+1+1+1) av
  ·exact gck hS F (jm+1) av
 ·rintro nk rfl
  exact Ad hS F h
def DH (N:Nat) (r157:List (Int×Int×Int×(List (Int×Int))×Int×Int)) (ci:Int) (ce:Int) (b9:Int) (bz:List (Int×Int)) (bw:Int) (bv:Int) (x321:List Int):Nat→Int→Option (Sum Unit Bool)
 |0,_=>none
 |n+1,cq=>
  bif decide (cq<(r157.length:Int)) then(
   (nth r157 cq).bind fun(dg,fg,fb,e9,ez,eh)=>
   (Eg N ci ce b9 bz bw bv dg fg fb e9 ez eh).bind fun((ke,j9,((j8,j7),(j6,j5)),j4,jz),dq)=>
   gd (dq=true→((Dq N x321 dg).isSome=true))<|
   bif dq&&(!((Dq N x321 dg).getD false)) then(
    some (.inr false))
   else(
    gd (I64 (cq+1))<|
    DH N r157 ci ce b9 bz bw bv x321 n (cq+1)))
  else(
   some (.inl ()))
def DI (N:Nat) (x321:List Int) (r157:List (Int×Int×Int×(List (Int×Int))×Int×Int)):Nat→Int→Bool→Int→Option (Sum (Int×Bool) Bool)
 |0,_,_,_=>none
 |n+1,ai,af,ay=>
  bif decide (ay<(x321.length:Int)) then(
   (nth x321 ay).bind fun dm=>
   (El N r157 dm).bind fun((ci,ce,b9,bz,bw,bv),gx)=>
   (Dl N ci ce b9 bz bw bv).bind fun((kq,km,((kl,kj),(ki,kh)),kg,kf),de)=>
   gd (I64 (ai+1))<|
   gd ((decide (0<ay))=true→(I64 (ay-1)))<|
   gd ((decide (0<ay))=true→(0≤max (ay-1) 0∧max (ay-1) 0<(x321.length:Int)))<|
   bif (!gx)||((decide (0<ay))&&(decide (dm≤x321.getD (max (ay-1) 0).toNat 0))) then(
    some (.inr false))
   else(
    (DH N r157 ci ce b9 bz bw bv x321 N 0).bind fun d7=>match d7 with
     | .inl ()=>(
      gd (I64 (ay+1))<|
      DI N x321 r157 n (ai+1) (af||de) (ay+1))
     | .inr jy=>(
      some (.inr jy))))
  else(
   some (.inl (ai,af)))
def DJ (N:Nat) (x321:List Int) (r161:List Int) (ae:Bool):Nat→Int→Option (Sum Unit Bool)
 |0,_=>none
 |n+1,cr=>
  bif decide (cr<(x321.length:Int)) then(
   (nth x321 cr).bind fun d9=>
   (Dq N r161 d9).bind fun gw=>
   bif (gw==ae) then(
    some (.inr false))
   else(
    gd (I64 (cr+1))<|
    DJ N x321 r161 ae n (cr+1)))
  else(
   some (.inl ()))
def DK (N:Nat) (r159:List (List Int)) (r157:List (Int×Int×Int×(List (Int×Int))×Int×Int)) (r161:List Int):Nat→Int→Int→Option (Sum Int Bool)
 |0,_,_=>none
 |n+1,be,aw=>
  bif decide (aw<(r159.length:Int)) then(
   (nth r159 aw).bind fun x321=>
   (DI N x321 r157 N be false 0).bind fun d6=>match d6 with
    | .inl (bb,ae)=>(
     gd ((decide (0<aw))=true→(0≤0∧0<(x321.length:Int)))<|
     gd ((decide (0<aw))=true→(I64 (aw-1)))<|
     (nth r159 (max (aw-1) 0)).bind fun x461=>
     gd ((decide (0<aw))=true→(0≤0∧0<(x461.length:Int)))<|
     bif (decide ((x321.length:Int)=0))||((decide (0<aw))&&(decide (x321.getD 0 0≤x461.getD 0 0))) then(
      some (.inr false))
     else(
      (DJ N x321 r161 ae N 0).bind fun d5=>match d5 with
       | .inl ()=>(
        gd (I64 (aw+1))<|
        DK N r159 r157 r161 n bb (aw+1))
       | .inr jw=>(
        some (.inr jw))))
    | .inr jx=>(
     some (.inr jx)))
  else(
   some (.inl be))
def DA (N:Nat) (r540:List Int) (r161:List Int) (ah:Int) (au:Int) (aq:Int) (an:Int) (am:Int) (ak:Int) (aj:Int):Nat→Int→Option (Sum Unit Bool)
 |0,_=>none
 |n+1,cy=>
  bif decide (cy<(r540.length:Int)) then(
   (nth r540 cy).bind fun dl=>
   (Dq N r161 dl).bind fun dp=>
   gd ((!dp)=true→((CD N ah au aq an am ak aj).isSome=true))<|
   bif (!dp)&&(decide (dl≠((CD N ah au aq an am ak aj).getD (0,0,0,[],0,0)).1)) then(
    some (.inr false))
   else(
    gd (I64 (cy+1))<|
    DA N r540 r161 ah au aq an am ak aj n (cy+1)))
  else(
   some (.inl ()))
def DB (N:Nat) (r161:List Int) (bo:Int) (bu:List Int):Nat→Int→Option (Sum Unit Bool)
 |0,_=>none
 |n+1,cu=>
  bif decide (cu<(r161.length:Int)) then(
   (nth r161 cu).bind fun db=>
   gd ((decide (db≠bo))=true→((Dq N bu db).isSome=true))<|
   bif (decide (db≠bo))&&(!((Dq N bu db).getD false)) then(
    some (.inr false))
   else(
    gd (I64 (cu+1))<|
    DB N r161 bo bu n (cu+1)))
  else(
   some (.inl ()))
def Hf (N:Nat) (x146:List (Int×Int×Int×Int×Int×Int)) (ah:Int) (au:Int) (aq:Int) (an:Int) (am:Int) (ak:Int) (aj:Int) (aa:Int):Option Bool:=
 (Cy N).bind fun az=>
 bif !az then(
  some false)
 else(
  (Cx N x146).bind fun r157=>
  (Dv CA N r157).bind fun r159=>
  (CE CA N r157).bind fun r161=>
  (DK N r159 r157 r161 N 0 0).bind fun dz=>match dz with
   | .inl co=>(
    bif decide (co≠(r157.length:Int)) then(
     some false)
    else(
     (CD N ah au aq an am ak aj).bind fun(gu,gt,gj,gi,gh,gf)=>
     (EM N r157 gu gt gj gi gh gf).bind fun(gc,fq)=>
     (bif decide (fq=0) then(
       (CE CA N gc).bind fun r540=>
       (DA N r540 r161 ah au aq an am ak aj N 0).bind fun dw=>match dw with
        | .inl ()=>(
         some (.inl ()))
        | .inr ju=>(
         some (.inr ju)))
      else(
       some (.inl ())):Option (Sum Unit Bool)).bind fun du=>match du with
      | .inl ()=>(
       bif decide ((r157.length:Int)=0) then(
        some az)
       else(
        (BB N aa (r157.length:Int)).bind fun fj=>
        (nth r157 fj).bind fun(bo,jr,jq,jp,jo,jn)=>
        (Cn N r157 bo).bind fun(fh,dh)=>
        (CE CA N fh).bind fun bu=>
        (DB N r161 bo bu N 0).bind fun dt=>match dt with
         | .inl ()=>(
          some (decide (dh=0)))
         | .inr js=>(
          some js)))
      | .inr jt=>(
       some jt)))
   | .inr jv=>(
    some jv))
theorem Pq (N:Nat) (x146:List (Int×Int×Int×Int×Int×Int)) (ah:Int) (au:Int) (aq:Int) (an:Int) (am:Int) (ak:Int) (aj:Int) (aa:Int) (r:Bool) (h:Hf N x146 ah au aq an am ak aj aa=some r):PCall Tryz.prog 6 [G8 x146,.i ah,.agg [.i au,.i aq,.i an,.i am,.i ak,.i aj],.i aa] (.b r):=by
 refine wx x6 (Aa (Nb N)<|Aa (M8 N)<|Aa (PV N)<|Aa (PU N)<|Aa (QX N)<|Aa (QT N)<|Aa (QS N)<|Aa (mI N)<|Aa (UI N)<|Aa (UG N)<|Aa (M7 N)<|Aa (UH N)<|Aj) fun _ hS F=> ?_
 dsimp only[x6,mkX]
 unfold Hf at h
 obtain⟨az,iz,h⟩:=un h
 replace F:=fc iz F
 refine gcb hS F h (fun _ h=> ?_) (fun _ h=> ?_)
 ·exact Ad hS F h
 ·obtain⟨r157,iy,r159,iw,r161,iv,h⟩:=un h
  replace F:=fc iv (fc iw (fc iy F))
  obtain⟨dz,lf,h⟩:=un h
  refine go hS F ?_
  refine Au dz (fun z:Int×Nat=>⟨[(1,.i ah),(3,.i aa),(6,.box (0,1) 0),(9,.b az),(10,.box (402,4) 0),(12,L_i r161),(13,.i z.1)],[(.c (402,4) 0,Af r157),(.c (0,1) 0,.i au),(.c (0,1) 1,.i aq),(.c (0,1) 2,.i an),(.c (0,1) 3,.i am),(.c (0,1) 4,.i ak),(.c (0,1) 5,.i aj)],z.2⟩) (fun z=>(.inl z.1:Sum Int Bool)) (.x 0) ?_ ?_
  ·refine Aq (fun n (y:Int×Int×Nat)=>DK N r159 r157 r161 n y.1 y.2.1) (fun y=>⟨[(1,.i ah),(3,.i aa),(6,.box (0,1) 0),(9,.b az),(10,.box (402,4) 0),(11,JC r159),(12,L_i r161),(13,.i y.1),(14,.i y.2.1)],[(.c (402,4) 0,Af r157),(.c (0,1) 0,.i au),(.c (0,1) 1,.i aq),(.c (0,1) 2,.i an),(.c (0,1) 3,.i am),(.c (0,1) 4,.i ak),(.c (0,1) 5,.i aj)],y.2.2⟩) (0,0,8) lf (leF F) ?_
   rintro n ⟨be,aw,jk⟩ av
   simp only[DK] at av
   refine gcb hS F av (fun _ av=> ?_) (fun _ av=> ?_)
   ·obtain⟨x321,jd,av⟩:=un av
    obtain⟨ma,F⟩:=rqG I7 jd F
    obtain⟨d6,nh,av⟩:=un av
    refine go hS F ?_
    refine Au d6 (fun z:Int×Bool×Nat=>⟨[(1,.i ah),(3,.i aa),(6,.box (0,1) 0),(9,.b az),(10,.box (402,4) 0),(11,JC r159),(12,L_i r161),(13,.i z.1),(14,.i aw),(15,L_i x321),(16,.b z.2.1)],[(.c (402,4) 0,Af r157),(.c (0,1) 0,.i au),(.c (0,1) 1,.i aq),(.c (0,1) 2,.i an),(.c (0,1) 3,.i am),(.c (0,1) 4,.i ak),(.c (0,1) 5,.i aj)],z.2.2⟩) (fun z=>(.inl (z.1,z.2.1):Sum (Int×Bool) Bool)) (.x 2) ?_ ?_
    ·refine Aq (fun n (y:Int×Bool×Int×Nat)=>DI N x321 r157 n y.1 y.2.1 y.2.2.1) (fun y=>⟨[(1,.i ah),(3,.i aa),(6,.box (0,1) 0),(9,.b az),(10,.box (402,4) 0),(11,JC r159),(12,L_i r161),(13,.i y.1),(14,.i aw),(15,L_i x321),(16,.b y.2.1),(17,.i y.2.2.1)],[(.c (402,4) 0,Af r157),(.c (0,1) 0,.i au),(.c (0,1) 1,.i aq),(.c (0,1) 2,.i an),(.c (0,1) 3,.i am),(.c (0,1) 4,.i ak),(.c (0,1) 5,.i aj)],y.2.2.2⟩) (be,false,0,jk+1+1+1+1) nh (leF F) ?_
     rintro n ⟨ai,af,ay,bq⟩ bm
     simp only[DI] at bm
     refine gcb hS F bm (fun _ bm=> ?_) (fun _ bm=> ?_)
     ·obtain⟨dm,jc,⟨⟨ci,ce,b9,bz,bw,bv⟩,gx⟩,iq,bm⟩:=un bm
      obtain⟨l7,F⟩:=rqG e_i jc F
      obtain⟨⟨⟨kq,km,⟨⟨kl,kj⟩,⟨ki,kh⟩⟩,kg,kf⟩,de⟩,ip,bm⟩:=un bm
      obtain⟨nv,nu,nr,bm⟩:=un bm
      replace F:=fc ip (fc iq F)
      refine gcb hS F bm (fun _ bm=> ?_) (fun _ bm=> ?_)
      ·obtain rfl:=yJ bm
       obtain rfl:=yJ av
       exact Ad hS F h
      ·obtain⟨d7,ng,bm⟩:=un bm
       refine go hS F ?_
       refine Au d7 (fun z:Nat=>⟨[(1,.i ah),(3,.i aa),(6,.box (0,1) 0),(9,.b az),(10,.box (402,4) 0),(11,JC r159),(12,L_i r161),(13,.i (ai+1)),(14,.i aw),(15,L_i x321),(16,.b (af||de)),(17,.i ay)],[(.c (402,4) 0,Af r157),(.c (0,1) 0,.i au),(.c (0,1) 1,.i aq),(.c (0,1) 2,.i an),(.c (0,1) 3,.i am),(.c (0,1) 4,.i ak),(.c (0,1) 5,.i aj)],z⟩) (fun z=>(.inl ():Sum Unit Bool)) (.x 4) ?_ ?_
       ·refine Aq (fun n (y:Int×Nat)=>DH N r157 ci ce b9 bz bw bv x321 n y.1) (fun y=>⟨[(1,.i ah),(3,.i aa),(6,.box (0,1) 0),(9,.b az),(10,.box (402,4) 0),(11,JC r159),(12,L_i r161),(13,.i (ai+1)),(14,.i aw),(15,L_i x321),(16,.b (af||de)),(17,.i ay),(18,.box (1609,bq+1+1) 0),(22,.i y.1)],[(.c (1609,bq+1+1) 0,.i ci),(.c (1609,bq+1+1) 1,.i ce),(.c (1609,bq+1+1) 2,.i b9),(.c (1609,bq+1+1) 3,A1 bz),(.c (1609,bq+1+1) 4,.i bw),(.c (1609,bq+1+1) 5,.i bv),(.c (402,4) 0,Af r157),(.c (0,1) 0,.i au),(.c (0,1) 1,.i aq),(.c (0,1) 2,.i an),(.c (0,1) 3,.i am),(.c (0,1) 4,.i ak),(.c (0,1) 5,.i aj)],y.2⟩) (0,bq+1+1+1+1+1+1+1) ng (leF F) ?_
        rintro n ⟨cq,jj⟩ br
        simp only[DH] at br
        refine gcb hS F br (fun _ br=> ?_) (fun _ br=> ?_)
        ·obtain⟨⟨dg,fg,fb,e9,ez,eh⟩,jb,br⟩:=un br
         obtain⟨l6,F⟩:=rqG Ai jb F
         obtain⟨⟨⟨ke,j9,⟨⟨j8,j7⟩,⟨j6,j5⟩⟩,j4,jz⟩,dq⟩,ij,br⟩:=un br
         obtain⟨nb,br⟩:=un br
         replace F:=fc ij F
         refine gcb hS F br (fun _ br=> ?_) (fun _ br=> ?_)
         ·obtain rfl:=yJ br
          obtain rfl:=yJ bm
          obtain rfl:=yJ av
          exact Ad hS F h
         ·obtain⟨m9,br⟩:=un br
          exact gbk hS F (n,cq+1,jj+1+1+1+1) br
        ·exact gck hS F (jj+1) br
       ·rintro lm rfl
        obtain⟨m8,bm⟩:=un bm
        exact gbk hS F (n,ai+1,af||de,ay+1,lm+1) bm
     ·exact gck hS F (ai,af,bq+1) bm
    ·rintro⟨bb,ae,lj⟩ rfl
     obtain⟨m7,mz,x461,ja,my,av⟩:=un av
     obtain⟨l5,F⟩:=rqG I7 ja F
     refine gcb hS F av (fun _ av=> ?_) (fun _ av=> ?_)
     ·obtain rfl:=yJ av
      exact Ad hS F h
     ·obtain⟨d5,k9,av⟩:=un av
      refine go hS F ?_
      refine Au d5 (fun z:Nat=>⟨[(1,.i ah),(3,.i aa),(6,.box (0,1) 0),(9,.b az),(10,.box (402,4) 0),(11,JC r159),(12,L_i r161),(13,.i bb),(14,.i aw)],[(.c (402,4) 0,Af r157),(.c (0,1) 0,.i au),(.c (0,1) 1,.i aq),(.c (0,1) 2,.i an),(.c (0,1) 3,.i am),(.c (0,1) 4,.i ak),(.c (0,1) 5,.i aj)],z⟩) (fun z=>(.inl ():Sum Unit Bool)) (.x 6) ?_ ?_
      ·refine Aq (fun n (y:Int×Nat)=>DJ N x321 r161 ae n y.1) (fun y=>⟨[(1,.i ah),(3,.i aa),(6,.box (0,1) 0),(9,.b az),(10,.box (402,4) 0),(11,JC r159),(12,L_i r161),(13,.i bb),(14,.i aw),(15,L_i x321),(16,.b ae),(25,.i y.1)],[(.c (402,4) 0,Af r157),(.c (0,1) 0,.i au),(.c (0,1) 1,.i aq),(.c (0,1) 2,.i an),(.c (0,1) 3,.i am),(.c (0,1) 4,.i ak),(.c (0,1) 5,.i aj)],y.2⟩) (0,lj+1+1) k9 (leF F) ?_
       rintro n ⟨cr,ji⟩ bi
       simp only[DJ] at bi
       refine gcb hS F bi (fun _ bi=> ?_) (fun _ bi=> ?_)
       ·obtain⟨d9,i9,gw,ig,bi⟩:=un bi
        obtain⟨lz,F⟩:=rqG e_i i9 F
        replace F:=fc ig F
        refine gcb hS F bi (fun _ bi=> ?_) (fun _ bi=> ?_)
        ·obtain rfl:=yJ bi
         obtain rfl:=yJ av
         exact Ad hS F h
        ·obtain⟨mr,bi⟩:=un bi
         exact gbk hS F (n,cr+1,ji+1+1+1) bi
       ·exact gck hS F (ji+1) bi
      ·rintro li rfl
       obtain⟨mq,av⟩:=un av
       exact gbk hS F (n,bb,aw+1,li+1) av
   ·exact gck hS F (be,jk+1) av
  ·rintro⟨co,jh⟩ rfl
   refine gcb hS F h (fun _ h=> ?_) (fun _ h=> ?_)
   ·exact Ad hS F h
   ·obtain⟨⟨gu,gt,gj,gi,gh,gf⟩,ie,h⟩:=un h
    obtain⟨⟨gc,fq⟩,ic,h⟩:=un h
    replace F:=fc ic (fc ie F)
    obtain⟨du,bj,h⟩:=un h
    refine go hS F ?_
    refine Au du (fun z:Nat=>⟨[(3,.i aa),(9,.b az),(10,.box (402,4) 0),(12,L_i r161)],[(.c (402,4) 0,Af r157)],z⟩) (fun z=>(.inl ():Sum Unit Bool)) .n ?_ ?_
    ·refine gcb hS F bj (fun _ bj=> ?_) (fun _ bj=> ?_)
     ·obtain⟨r540,ib,bj⟩:=un bj
      replace F:=fc ib F
      obtain⟨dw,kw,bj⟩:=un bj
      refine go hS F ?_
      refine Au dw (fun z:Nat=>⟨[(3,.i aa),(9,.b az),(10,.box (402,4) 0),(12,L_i r161)],[(.c (402,4) 0,Af r157)],z⟩) (fun z=>(.inl ():Sum Unit Bool)) (.x 8) ?_ ?_
      ·refine Aq (fun n (y:Int×Nat)=>DA N r540 r161 ah au aq an am ak aj n y.1) (fun y=>⟨[(1,.i ah),(3,.i aa),(6,.box (0,1) 0),(9,.b az),(10,.box (402,4) 0),(12,L_i r161),(28,L_i r540),(29,.i y.1)],[(.c (402,4) 0,Af r157),(.c (0,1) 0,.i au),(.c (0,1) 1,.i aq),(.c (0,1) 2,.i an),(.c (0,1) 3,.i am),(.c (0,1) 4,.i ak),(.c (0,1) 5,.i aj)],y.2⟩) (0,jh+1+1+1+1+1) kw (leF F) ?_
       rintro n ⟨cy,jg⟩ bh
       simp only[DA] at bh
       refine gcb hS F bh (fun _ bh=> ?_) (fun _ bh=> ?_)
       ·obtain⟨dl,i8,dp,g9,mo,bh⟩:=un bh
        obtain⟨lw,F⟩:=rqG e_i i8 F
        replace F:=fc g9 F
        refine gcb hS F bh (fun _ bh=> ?_) (fun _ bh=> ?_)
        ·obtain rfl:=yJ bh
         obtain rfl:=yJ bj
         exact Ad hS F h
        ·obtain⟨mh,bh⟩:=un bh
         exact gbk hS F (n,cy+1,jg+1+1+1) bh
       ·exact gck hS F (jg+1) bh
      ·rintro lh rfl
       exact gck hS F lh bj
     ·exact gck hS F (jh+1+1+1) bj
    ·rintro lg rfl
     refine gcb hS F h (fun _ h=> ?_) (fun _ h=> ?_)
     ·exact Ad hS F h
     ·obtain⟨fj,g8,⟨bo,jr,jq,jp,jo,jn⟩,i7,h⟩:=un h
      obtain⟨lr,F⟩:=rqG Ai i7 (fc g8 F)
      obtain⟨⟨fh,dh⟩,gz,h⟩:=un h
      obtain⟨bu,gy,h⟩:=un h
      replace F:=fc gy (fc gz F)
      obtain⟨dt,kv,h⟩:=un h
      refine go hS F ?_
      refine Au dt (fun z:Nat=>⟨[(32,.i dh)],[],z⟩) (fun z=>(.inl ():Sum Unit Bool)) (.x 10) ?_ ?_
      ·refine Aq (fun n (y:Int×Nat)=>DB N r161 bo bu n y.1) (fun y=>⟨[(12,L_i r161),(30,.i bo),(32,.i dh),(33,L_i bu),(34,.i y.1)],[],y.2⟩) (0,lg+1+1+1+1+1) kv (leF F) ?_
       rintro n ⟨cu,jf⟩ bg
       simp only[DB] at bg
       refine gcb hS F bg (fun _ bg=> ?_) (fun _ bg=> ?_)
       ·obtain⟨db,i6,mg,bg⟩:=un bg
        obtain⟨lq,F⟩:=rqG e_i i6 F
        refine gcb hS F bg (fun _ bg=> ?_) (fun _ bg=> ?_)
        ·obtain rfl:=yJ bg
         exact Ad hS F h
        ·obtain⟨me,bg⟩:=un bg
         exact gbk hS F (n,cu+1,jf+1+1+1) bg
       ·exact gck hS F (jf+1) bg
      ·rintro nj rfl
       exact Ad hS F h
end Go.Proofs.YtciphecegkfaiaaGreat.Am
