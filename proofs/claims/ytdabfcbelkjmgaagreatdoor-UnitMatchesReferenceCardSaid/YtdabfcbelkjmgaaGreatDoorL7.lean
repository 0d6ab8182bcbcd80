import Derived.Test.YtdabfcbelkjmgaaGreatDoorE4
import Derived.Test.YtdabfcbelkjmgaaGreatDoorE6
import Derived.Test.YtdabfcbelkjmgaaGreatDoorAl3
namespace Go.Proofs.YtdabfcbelkjmgaaGreatDoor.Am
open Go
attribute [local irreducible] awp Ed Df Dr Ee Bz B8 Dg DM itK
set_option maxRecDepth 100000
set_option maxHeartbeats 8000000
set_option linter.unusedSimpArgs false
set_option linter.unusedVariables false
def e_s (x:List UInt8):List AV:=[.v (.string (sB x))]
def d_s:List AV→List UInt8
 |[.v (.string a1)]=>(bL a1)
 |_=>[]
theorem qO (x:List UInt8):d_s (e_s x)=x:=by rfl
theorem qP (R:List (List UInt8)):(R.map e_s).map d_s=R:=by
 induction R with
 |nil=>rfl
 |cons r R ih=>rw[List.map_cons,List.map_cons,ih,qO]
theorem dX (R:List (List UInt8)) (i:Nat):C1 (R.map e_s) [.v (.string (sB []))] i=e_s (R.getD i []):=by
 unfold C1;rw[List.getD_eq_getElem?_getD,List.getD_eq_getElem?_getD,List.getElem?_map];cases R[i]? <;>rfl
def Tj (x:Int×Int×Int×(List (Int×Int))×Int×Int):List AV:=[.i x.1,.i x.2.1,.i x.2.2.1,.sl 2 false (x.2.2.2.1.map R9) [.i 0,.i 0],.i x.2.2.2.2.1,.i x.2.2.2.2.2]
def UG:List AV→Int×Int×Int×(List (Int×Int))×Int×Int
 |[.v (.int _ a1),.v (.int _ a2),.v (.int _ a3),.sl _ _ a4 _,.v (.int _ a5),.v (.int _ a6)]=>(a1,a2,a3,(a4.map R8),a5,a6)
 |_=>(0,0,0,[],0,0)
theorem Wi (x:Int×Int×Int×(List (Int×Int))×Int×Int):UG (Tj x)=x:=by simp only[Tj,UG,Sf]
theorem Wj (R:List (Int×Int×Int×(List (Int×Int))×Int×Int)):(R.map Tj).map UG=R:=by
 induction R with
 |nil=>rfl
 |cons r R ih=>rw[List.map_cons,List.map_cons,ih,Wi]
theorem Vu {R:List (Int×Int×Int×(List (Int×Int))×Int×Int)} {i:Int} {x:(Int×Int×Int×(List (Int×Int))×Int×Int)} (h:nth R i=some x) (d:List AV):C1 (R.map Tj) d i.toNat=Tj x:=by
 unfold nth at h
 split at h
 ·unfold C1;rw[List.getD_eq_getElem?_getD,List.getElem?_map,h];rfl
 ·cases h
def SM (N:Nat) (r416:List (Int×Int)) (r418:List (Int×Int)):Nat→Int→Option (Sum Unit Bool)
 |0,_=>none
 |n+1,j428=>
  bif decide (j428<(r416.length:Int)) then(
   (nth r416 j428).bind fun(gj,gi)=>
   (nth r418 j428).bind fun(gh,gg)=>
   bif !(decide (gj=gh)&&decide (gi=gg)) then(
    some (.inr false))
   else(
    gd (I64 (j428+1))<|
    SM N r416 r418 n (j428+1)))
  else(
   some (.inl ()))
def SN (N:Nat) (r184:Int) (ba:Int) (az:Int) (r187:List (Int×Int)) (ay:Int) (aw:Int) (bu:Int) (br:Int) (bq:Int) (r193:List (Int×Int)) (bp:Int) (bo:Int) (bn:Int) (bm:Int) (bj:Int) (r200:List (Int×Int)) (bi:Int) (bh:Int) (an:Int) (am:Int) (ak:Int) (raw174:List (Int×Int)) (aj:Int) (ai:Int) (ah:Int) (af:Int) (aa:Int) (x412:List (Int×Int)) (ae:Int) (ab:Int):Nat→Int→Int→Int→Int→Int→Int→Int→Int→Int→Int→Int→Int→Int→Int→Int→Int→Int→Option (Sum Unit Bool)
 |0,_,_,_,_,_,_,_,_,_,_,_,_,_,_,_,_,_=>none
 |n+1,j486,oz,oy,ox,ow,ov,ot,om,oj,ph,pg,pd,pc,o9,o8,o7,o0=>
  bif decide (j486<4) then(
   (nth [(r184,ba,az,r187,ay,aw),(bu,br,bq,r193,bp,bo),(bn,bm,bj,r200,bi,bh),(an,am,ak,raw174.take ((min (raw174.length:Int) 9).toNat-0),aj,ai)] j486).bind fun(cu,cr,cq,x506,co,cn)=>
   (ST N ah af aa x412 ae ab cu cr cq x506 co cn).bind fun((eh,d9,((d8,dz),(dw,du)),dt,dq),ez)=>
   (Sx N ah af aa x412 ae ab cu cr cq x506 co cn).bind fun((dp,dm,((dh,dg),(de,dc)),db,c8),eu)=>
   gd ((!((!(decide (eh=dp)&&(decide (d9=dm)&&(decide (d8=dh)&&(decide (dz=dg)&&(decide (dw=de)&&(decide (du=dc)&&(decide (dt=db)&&decide (dq=c8)))))))))||(ez !=eu)))=true→((Sw N ah af aa x412 ae ab cu cr cq x506 co cn).isSome=true))<|
   gd ((!((!(decide (eh=dp)&&(decide (d9=dm)&&(decide (d8=dh)&&(decide (dz=dg)&&(decide (dw=de)&&(decide (du=dc)&&(decide (dt=db)&&decide (dq=c8)))))))))||(ez !=eu)))=true→((Ti N ah af aa x412 ae ab cu cr cq x506 co cn).isSome=true))<|
   bif ((!(decide (eh=dp)&&(decide (d9=dm)&&(decide (d8=dh)&&(decide (dz=dg)&&(decide (dw=de)&&(decide (du=dc)&&(decide (dt=db)&&decide (dq=c8)))))))))||(ez !=eu))||(((Sw N ah af aa x412 ae ab cu cr cq x506 co cn).getD false) !=((Ti N ah af aa x412 ae ab cu cr cq x506 co cn).getD false)) then(
    some (.inr false))
   else(
    gd (I64 (j486+1))<|
    SN N r184 ba az r187 ay aw bu br bq r193 bp bo bn bm bj r200 bi bh an am ak raw174 aj ai ah af aa x412 ae ab n (j486+1) dp dm dh dg de dc db c8 eh d9 d8 dz dw du dt dq))
  else(
   some (.inl ()))
def SO (N:Nat) (av:Int) (au:Int) (ca:Int) (b9:Int) (ah:Int) (af:Int) (aa:Int) (x412:List (Int×Int)) (ae:Int) (ab:Int):Nat→Int→Option (Sum Unit Bool)
 |0,_=>none
 |n+1,x573=>
  bif decide (x573<2) then(
   (nth [(av,au),(ca-10,b9-10)] x573).bind fun(em,ej)=>
   (Tl N ah af aa x412 ae ab em ej).bind fun((i6,iz,iy,iw,iv,iu),ir)=>
   (SU N ah af aa x412 ae ab em ej).bind fun((iq,ip,im,il,ij,ii),ig)=>
   gd ((!(decide (ir≠ig)))=true→((SC N i6 iz iy iw iv iu iq ip im il ij ii).isSome=true))<|
   bif (decide (ir≠ig))||(!((SC N i6 iz iy iw iv iu iq ip im il ij ii).getD false)) then(
    some (.inr false))
   else(
    gd (I64 (x573+1))<|
    SO N av au ca b9 ah af aa x412 ae ab n (x573+1)))
  else(
   some (.inl ()))
def SP (N:Nat) (r184:Int) (ba:Int) (az:Int) (r187:List (Int×Int)) (ay:Int) (aw:Int) (bu:Int) (br:Int) (bq:Int) (r193:List (Int×Int)) (bp:Int) (bo:Int) (bn:Int) (bm:Int) (bj:Int) (r200:List (Int×Int)) (bi:Int) (bh:Int) (an:Int) (am:Int) (ak:Int) (raw174:List (Int×Int)) (aj:Int) (ai:Int) (av:Int) (au:Int):Nat→Int→Option (Sum Unit Bool)
 |0,_=>none
 |n+1,i408=>
  bif decide (i408<4) then(
   (nth [(r184,ba,az,r187,ay,aw),(bu,br,bq,r193,bp,bo),(bn,bm,bj,r200,bi,bh),(an,am,ak,raw174.take ((min (raw174.length:Int) 9).toNat-0),aj,ai)] i408).bind fun(ah,af,aa,x412,ae,ab)=>
   (UF N ah af aa x412 ae ab).bind fun r416=>
   (Um N ah af aa x412 ae ab).bind fun r418=>
   bif decide ((r416.length:Int)≠(r418.length:Int)) then(
    some (.inr false))
   else(
    (SM N r416 r418 N 0).bind fun jj=>match jj with
     | .inl ()=>(
      (SZ N ah af aa x412 ae ab).bind fun((gf,ge,((gc,fy),(fx,fv)),fu,ft),ke)=>
      (Sq N ah af aa x412 ae ab).bind fun((fr,fq,((fo,fm),(fj,fh)),fg,fb),kd)=>
      (Sh N ah af aa x412 ae ab).bind fun cz=>
      (Sk N ah af aa x412 ae ab).bind fun cy=>
      gd ((!(cz !=cy))=true→((SK N ah af aa x412 ae ab).isSome=true))<|
      gd ((!(cz !=cy))=true→((Sr N ah af aa x412 ae ab).isSome=true))<|
      gd ((!((cz !=cy)||(decide ((SK N ah af aa x412 ae ab).getD 0≠(Sr N ah af aa x412 ae ab).getD 0))))=true→((Sp N ah af aa x412 ae ab).isSome=true))<|
      gd ((!((cz !=cy)||(decide ((SK N ah af aa x412 ae ab).getD 0≠(Sr N ah af aa x412 ae ab).getD 0))))=true→((SX N ah af aa x412 ae ab).isSome=true))<|
      gd ((!(((cz !=cy)||(decide ((SK N ah af aa x412 ae ab).getD 0≠(Sr N ah af aa x412 ae ab).getD 0)))||(decide ((Sp N ah af aa x412 ae ab).getD 0≠(SX N ah af aa x412 ae ab).getD 0))))=true→((SB N ah af aa x412 ae ab).isSome=true))<|
      gd ((!(((cz !=cy)||(decide ((SK N ah af aa x412 ae ab).getD 0≠(Sr N ah af aa x412 ae ab).getD 0)))||(decide ((Sp N ah af aa x412 ae ab).getD 0≠(SX N ah af aa x412 ae ab).getD 0))))=true→((Th N ah af aa x412 ae ab).isSome=true))<|
      bif (((((cz !=cy)||(decide ((SK N ah af aa x412 ae ab).getD 0≠(Sr N ah af aa x412 ae ab).getD 0)))||(decide ((Sp N ah af aa x412 ae ab).getD 0≠(SX N ah af aa x412 ae ab).getD 0)))||(decide ((SB N ah af aa x412 ae ab).getD 0≠(Th N ah af aa x412 ae ab).getD 0)))||(!(decide (gf=fr)&&(decide (ge=fq)&&(decide (gc=fo)&&(decide (fy=fm)&&(decide (fx=fj)&&(decide (fv=fh)&&(decide (fu=fg)&&decide (ft=fb))))))))))||(ke !=kd) then(
       some (.inr false))
      else(
       (SN N r184 ba az r187 ay aw bu br bq r193 bp bo bn bm bj r200 bi bh an am ak raw174 aj ai ah af aa x412 ae ab N 0 fr fq fo fm fj fh fg fb gf ge gc fy fx fv fu ft).bind fun ji=>match ji with
        | .inl ()=>(
         (S8 N av 21).bind fun ca=>
         gd (I64 (ca-10))<|
         (S8 N au 21).bind fun b9=>
         gd (I64 (b9-10))<|
         (SO N av au ca b9 ah af aa x412 ae ab N 0).bind fun jh=>match jh with
          | .inl ()=>(
           (CJ N ah af aa x412 ae ab).bind fun(kc,ka)=>
           (Tt N ah af aa x412 ae ab).bind fun(j9,j8)=>
           (S7 N aa).bind fun((j7,j6,j5,j4,jz),jy)=>
           (SD N aa).bind fun((jx,jw,jv,ju,jt),js)=>
           bif (((!decide (kc=j9))||(decide (ka≠j8)))||(!(decide (j7=jx)&&(decide (j6=jw)&&(decide (j5=jv)&&(decide (j4=ju)&&decide (jz=jt)))))))||(decide (jy≠js)) then(
            some (.inr false))
           else(
            gd (I64 (i408+1))<|
            SP N r184 ba az r187 ay aw bu br bq r193 bp bo bn bm bj r200 bi bh an am ak raw174 aj ai av au n (i408+1)))
          | .inr nh=>(
           some (.inr nh)))
        | .inr nj=>(
         some (.inr nj))))
     | .inr nk=>(
      some (.inr nk))))
  else(
   some (.inl ()))
def SQ (N:Nat) (r623:List UInt8) (r626:Int) (c181:Int) (text179:List UInt8):Nat→Int→Option (Sum Unit Bool)
 |0,_=>none
 |n+1,x646=>
  bif decide (x646<4) then(
   (nth [((r623.take r626.toNat)++[UInt8.ofNat c181.toNat])++(r623.drop (r626+1).toNat),r623.take r626.toNat,r623++(text179.take (min (text179.length:Int) 60).toNat),text179.take (min (text179.length:Int) 60).toNat] x646).bind fun ei=>
   (Bh N ei).bind fun((ie,ic,ib,g9,g8,gz),gy)=>
   (SF N ei).bind fun((gx,gw,gv,gu,gt,gr),gm)=>
   gd ((!(decide (gy≠gm)))=true→((SC N ie ic ib g9 g8 gz gx gw gv gu gt gr).isSome=true))<|
   bif (decide (gy≠gm))||(!((SC N ie ic ib g9 g8 gz gx gw gv gu gt gr).getD false)) then(
    some (.inr false))
   else(
    gd (I64 (x646+1))<|
    SQ N r623 r626 c181 text179 n (x646+1)))
  else(
   some (.inl ()))
def Uv (N:Nat) (x157:List (Int×Int)) (y158:List (Int×Int)) (c7:Int) (je:Int) (jd:Int) (jc:Int) (jb:Int) (ja:Int) (i9:Int) (i8:Int) (i7:Int) (cj:Int) (ci:Int) (ce:Int) (an:Int) (am:Int) (ak:Int) (raw174:List (Int×Int)) (aj:Int) (ai:Int) (av:Int) (au:Int) (text179:List UInt8) (bz:Int) (c181:Int):Option Bool:=
 (Uq N).bind fun b7=>
 bif !b7 then(
  some false)
 else(
  (Sj N x157 y158 c7 je jd jc jb ja i9 i8 i7).bind fun((r184,ba,az,r187,ay,aw),(bu,br,bq,r193,bp,bo))=>
  gd (0≤0∧0≤min (raw174.length:Int) 9∧min (raw174.length:Int) 9≤(raw174.length:Int))<|
  (S2 N r184 ba az r187 ay aw cj ci ce).bind fun(bn,bm,bj,r200,bi,bh)=>
  (SP N r184 ba az r187 ay aw bu br bq r193 bp bo bn bm bj r200 bi bh an am ak raw174 aj ai av au N 0).bind fun jg=>match jg with
   | .inl ()=>(
    (Tt N r184 ba az r187 ay aw).bind fun(r623,nc)=>
    (S8 N bz (r623.length:Int)).bind fun r626=>
    gd (0≤r626∧r626≤(r623.length:Int))<|
    gd (((r623.take r626.toNat)++[UInt8.ofNat c181.toNat]).length≤140737488355328)<|
    gd (I64 (r626+1))<|
    gd (0≤r626+1∧r626+1≤(r623.length:Int))<|
    gd ((((r623.take r626.toNat)++[UInt8.ofNat c181.toNat])++(r623.drop (r626+1).toNat)).length≤140737488355328)<|
    gd (0≤r626∧r626≤(r623.length:Int))<|
    gd (0≤min (text179.length:Int) 60∧min (text179.length:Int) 60≤(text179.length:Int))<|
    gd ((r623++(text179.take (min (text179.length:Int) 60).toNat)).length≤140737488355328)<|
    gd (0≤min (text179.length:Int) 60∧min (text179.length:Int) 60≤(text179.length:Int))<|
    (SQ N r623 r626 c181 text179 N 0).bind fun jf=>match jf with
     | .inl ()=>(
      some b7)
     | .inr nb=>(
      some nb))
   | .inr ng=>(
    some ng))
def T3 (N:Nat):List (Nat×Bt):=[(4,s4 N),(5,s5 N),(6,s6 N),(7,s7 N),(8,s8 N),(9,s9 N),(10,s10 N),(11,s11 N),(12,s12 N),(13,s13 N),(14,s14 N),(15,s15 N),(16,s16 N),(17,s17 N),(18,s18 N),(19,s19 N),(20,s20 N),(21,s21 N),(22,s22 N),(23,s23 N),(24,s24 N),(25,s25 N),(26,s26 N),(27,s27 N),(28,s28 N),(29,s29 N),(30,s30 N),(31,s31 N),(32,s32 N)]
theorem YJ (N:Nat):TabOK Tryz.prog (CC (T3 N)):=EC (qL N) (EC (qK N) (EC (qN N) (EC (dW N) (EC (qM N) (EC (dV N) (EC (fP N) (EC (UH N) (EC (UJ N) (EC (WL N) (EC (YD N) (EC (Yp N) (EC (fL N) (EC (Yq N) (EC (fM N) (EC (Yu N) (EC (fO N) (EC (Yt N) (EC (fN N) (EC (fI N) (EC (Yw N) (EC (fQ N) (EC (YA N) (EC (R3 N) (EC (fU N) (EC (WK N) (EC (WM N) (EC (R4 N) (EC (fW N) (BW)))))))))))))))))))))))))))))
section
attribute [local go_sem] T3 s4 s5 s6 s7 s8 s9 s10 s11 s12 s13 s14 s15 s16 s17 s18 s19 s20 s21 s22 s23 s24 s25 s26 s27 s28 s29 s30 s31 s32 VB YG YH WN e_s qP dX d_s R9 Sf Sg R8 Tj Wj UG RX Qr Qs List.set_cons_succ List.isEmpty_map List.map_append List.map_eq_nil_iff ne_eq List.length_replicate RG RH H8 isB List.length_set Option.isSome_some
theorem Vw (N:Nat) (x157:List (Int×Int)) (y158:List (Int×Int)) (c7:Int) (je:Int) (jd:Int) (jc:Int) (jb:Int) (ja:Int) (i9:Int) (i8:Int) (i7:Int) (cj:Int) (ci:Int) (ce:Int) (an:Int) (am:Int) (ak:Int) (raw174:List (Int×Int)) (aj:Int) (ai:Int) (av:Int) (au:Int) (text179:List UInt8) (bz:Int) (c181:Int) (r:Bool) (h:Uv N x157 y158 c7 je jd jc jb ja i9 i8 i7 cj ci ce an am ak raw174 aj ai av au text179 bz c181=some r):PCall Tryz.prog 3 [.sl 2 false (x157.map R9) [.i 0,.i 0],.sl 2 false (y158.map R9) [.i 0,.i 0],.i c7,.agg [.i je,.i jd,.i jc,.i jb],.agg [.i ja,.i i9,.i i8,.i i7],.agg [.i cj,.i ci,.i ce],.agg [.i an,.i am,.i ak,.sl 2 false (raw174.map R9) [.i 0,.i 0],.i aj,.i ai],.i av,.i au,.v (.string (sB text179)),.i bz,.v (.int .u8 c181)] (.b r):=by
 refine Jw (YJ N) _ Tryz.func3 ok3 nt3 (by simp) fun _=> ?_
 have hS:=YJ N
 have F:=f0
 unfold ac3 rv3
 unfold Uv at h
 try simp only[Ov,yB] at h
 obtain⟨b7,mg,h⟩:=h
 replace F:=fc mg F
 refine go hS F ?_
 refine cb F (!b7) (fun od=> ?_) (fun od=> ?_)
 ·replace h:=RT od h
  obtain rfl:=yJ h
  refine go hS F ?_
  exact fin F
 ·replace h:=RU od h
  try simp only[Ov,yB] at h
  obtain⟨⟨⟨r184,ba,az,r187,ay,aw⟩,⟨bu,br,bq,r193,bp,bo⟩⟩,me,h⟩:=h
  replace F:=fc me F
  try simp only[Ov,yB] at h
  obtain⟨qr,⟨bn,bm,bj,r200,bi,bh⟩,md,h⟩:=h
  replace F:=fc md F
  try simp only[Ov,yB] at h
  obtain⟨jg,qo,h⟩:=h
  refine go hS F ?_
  refine Rx (fun z:Nat=>⟨[(9,.v (.string (sB text179))),(10,.i bz),(11,.v (.int .u8 c181)),(25,.b b7),(26,.box (409,4) 0)],[(.c (409,4) 0,.i r184),(.c (409,4) 1,.i ba),(.c (409,4) 2,.i az),(.c (409,4) 3,.sl 2 false (r187.map R9) [.i 0,.i 0]),(.c (409,4) 4,.i ay),(.c (409,4) 5,.i aw)],z⟩) (fun z=>(.inl ():Sum Unit Bool)=jg) (.x 0) ?_ ?_
  ·refine Ez (fun y:Nat×Int×Nat=>⟨[(7,.i av),(8,.i au),(9,.v (.string (sB text179))),(10,.i bz),(11,.v (.int .u8 c181)),(25,.b b7),(26,.box (409,4) 0),(28,.own (611,6) [(r184,ba,az,r187,ay,aw),(bu,br,bq,r193,bp,bo),(bn,bm,bj,r200,bi,bh),(an,am,ak,raw174.take ((min (raw174.length:Int) 9).toNat-0),aj,ai)].length),(29,.i y.2.1)],[(.a (611,6),.sl 6 true ([(r184,ba,az,r187,ay,aw),(bu,br,bq,r193,bp,bo),(bn,bm,bj,r200,bi,bh),(an,am,ak,raw174.take ((min (raw174.length:Int) 9).toNat-0),aj,ai)].map Tj) [.i 0,.i 0,.i 0,.sl 0 true [] [],.i 0,.i 0]),(.c (409,4) 0,.i r184),(.c (409,4) 1,.i ba),(.c (409,4) 2,.i az),(.c (409,4) 3,.sl 2 false (r187.map R9) [.i 0,.i 0]),(.c (409,4) 4,.i ay),(.c (409,4) 5,.i aw)],y.2.2⟩) (fun y=>SP N r184 ba az r187 ay aw bu br bq r193 bp bo bn bm bj r200 bi bh an am ak raw174 aj ai av au y.1 y.2.1=some jg) (fun y=>y.1) (N,0,7) qo ?_ ?_
   ·exact leF F
   ·rintro⟨n,i408,aq⟩ bb
    try simp only at bb
    obtain _|n:=n
    ·exact absurd bb (by simp[SP])
    rw[SP] at bb
    refine go hS F ?_
    refine cb F (decide (i408<4)) (fun oc=> ?_) (fun oc=> ?_)
    ·replace bb:=RT oc bb
     try simp only[Ov,yB] at bb
     obtain⟨⟨ah,af,aa,x412,ae,ab⟩,jr,bb⟩:=bb
     have mo:∀d,C1 [[.i r184,.i ba,.i az,.sl 2 false (r187.map R9) [.i 0,.i 0],.i ay,.i aw],[.i bu,.i br,.i bq,.sl 2 false (r193.map R9) [.i 0,.i 0],.i bp,.i bo],[.i bn,.i bm,.i bj,.sl 2 false (r200.map R9) [.i 0,.i 0],.i bi,.i bh],[.i an,.i am,.i ak,.sl 2 false ((raw174.take ((min (raw174.length:Int) 9).toNat-0)).map R9) [.i 0,.i 0],.i aj,.i ai]] d i408.toNat=[.i ah,.i af,.i aa,.sl 2 false (x412.map R9) [.i 0,.i 0],.i ae,.i ab]:=Vu jr
     have my:=(Nr jr).1
     try simp only[List.length_cons,List.length_nil] at my
     replace F:=fc mo F
     try simp only[Ov,yB] at bb
     obtain⟨r416,mc,r418,mb,bb⟩:=bb
     replace F:=fc mb (fc mc F)
     refine go hS F ?_
     refine cb F (decide ((r416.length:Int)≠(r418.length:Int))) (fun oa=> ?_) (fun oa=> ?_)
     ·replace bb:=RT oa bb
      obtain rfl:=yJ bb
      try simp only at h
      obtain rfl:=yJ h
      refine go hS F ?_
      exact fin F
     ·replace bb:=RU oa bb
      try simp only[Ov,yB] at bb
      obtain⟨jj,qn,bb⟩:=bb
      refine go hS F ?_
      refine Rx (fun z:Nat=>⟨[(7,.i av),(8,.i au),(9,.v (.string (sB text179))),(10,.i bz),(11,.v (.int .u8 c181)),(25,.b b7),(26,.box (409,4) 0),(28,.own (611,6) [(r184,ba,az,r187,ay,aw),(bu,br,bq,r193,bp,bo),(bn,bm,bj,r200,bi,bh),(an,am,ak,raw174.take ((min (raw174.length:Int) 9).toNat-0),aj,ai)].length),(29,.i i408),(30,.box (1004,aq+1+1) 0)],[(.c (1004,aq+1+1) 0,.i ah),(.c (1004,aq+1+1) 1,.i af),(.c (1004,aq+1+1) 2,.i aa),(.c (1004,aq+1+1) 3,.sl 2 false (x412.map R9) [.i 0,.i 0]),(.c (1004,aq+1+1) 4,.i ae),(.c (1004,aq+1+1) 5,.i ab),(.a (611,6),.sl 6 true ([(r184,ba,az,r187,ay,aw),(bu,br,bq,r193,bp,bo),(bn,bm,bj,r200,bi,bh),(an,am,ak,raw174.take ((min (raw174.length:Int) 9).toNat-0),aj,ai)].map Tj) [.i 0,.i 0,.i 0,.sl 0 true [] [],.i 0,.i 0]),(.c (409,4) 0,.i r184),(.c (409,4) 1,.i ba),(.c (409,4) 2,.i az),(.c (409,4) 3,.sl 2 false (r187.map R9) [.i 0,.i 0]),(.c (409,4) 4,.i ay),(.c (409,4) 5,.i aw)],z⟩) (fun z=>(.inl ():Sum Unit Bool)=jj) (.x 2) ?_ ?_
      ·refine Ez (fun y:Nat×Int×Nat=>⟨[(7,.i av),(8,.i au),(9,.v (.string (sB text179))),(10,.i bz),(11,.v (.int .u8 c181)),(25,.b b7),(26,.box (409,4) 0),(28,.own (611,6) [(r184,ba,az,r187,ay,aw),(bu,br,bq,r193,bp,bo),(bn,bm,bj,r200,bi,bh),(an,am,ak,raw174.take ((min (raw174.length:Int) 9).toNat-0),aj,ai)].length),(29,.i i408),(30,.box (1004,aq+1+1) 0),(31,.sl 2 false (r416.map R9) [.i 0,.i 0]),(32,.sl 2 false (r418.map R9) [.i 0,.i 0]),(33,.i y.2.1)],[(.c (1004,aq+1+1) 0,.i ah),(.c (1004,aq+1+1) 1,.i af),(.c (1004,aq+1+1) 2,.i aa),(.c (1004,aq+1+1) 3,.sl 2 false (x412.map R9) [.i 0,.i 0]),(.c (1004,aq+1+1) 4,.i ae),(.c (1004,aq+1+1) 5,.i ab),(.a (611,6),.sl 6 true ([(r184,ba,az,r187,ay,aw),(bu,br,bq,r193,bp,bo),(bn,bm,bj,r200,bi,bh),(an,am,ak,raw174.take ((min (raw174.length:Int) 9).toNat-0),aj,ai)].map Tj) [.i 0,.i 0,.i 0,.sl 0 true [] [],.i 0,.i 0]),(.c (409,4) 0,.i r184),(.c (409,4) 1,.i ba),(.c (409,4) 2,.i az),(.c (409,4) 3,.sl 2 false (r187.map R9) [.i 0,.i 0]),(.c (409,4) 4,.i ay),(.c (409,4) 5,.i aw)],y.2.2⟩) (fun y=>SM N r416 r418 y.1 y.2.1=some jj) (fun y=>y.1) (N,0,aq+1+1+1+1+1+1) qn ?_ ?_
       ·exact leF F
       ·rintro⟨n,j428,m9⟩ ck
        try simp only at ck
        obtain _|n:=n
        ·exact absurd ck (by simp[SM])
        rw[SM] at ck
        refine go hS F ?_
        refine cb F (decide (j428<(r416.length:Int))) (fun n9=> ?_) (fun n9=> ?_)
        ·replace ck:=RT n9 ck
         try simp only[Ov,yB] at ck
         obtain⟨⟨gj,gi⟩,jq,ck⟩:=ck
         have kx:r416.getD j428.toNat (0,0)=(gj,gi):=ixs jq _
         have pn:=(Nr jq).1
         replace F:=fc kx F
         try simp only[Ov,yB] at ck
         obtain⟨⟨gh,gg⟩,jp,ck⟩:=ck
         have kw:r418.getD j428.toNat (0,0)=(gh,gg):=ixs jp _
         have pj:=(Nr jp).1
         replace F:=fc kw F
         refine go hS F ?_
         refine cb F (!(decide (gj=gh)&&decide (gi=gg))) (fun kr=> ?_) (fun kr=> ?_)
         ·replace ck:=RT kr ck
          obtain rfl:=yJ ck
          try simp only at bb
          obtain rfl:=yJ bb
          try simp only at h
          obtain rfl:=yJ h
          refine go hS F ?_
          exact fin F
         ·replace ck:=RU kr ck
          try simp only[Ov,yB] at ck
          obtain⟨n8,ck⟩:=ck
          simp only[I64] at n8
          refine go hS F ?_
          exact Fb (n,j428+1,m9+1+1+1) ck (Nat.lt_succ_self _) (leF F)
        ·replace ck:=RU n9 ck
         refine go hS F ?_
         exact RW (m9+1) (yJ ck) (leF F)
      ·rintro bw nv
       subst nv
       try simp only at bb
       try simp only[Ov,yB] at bb
       obtain⟨⟨⟨gf,ge,⟨⟨gc,fy⟩,⟨fx,fv⟩⟩,fu,ft⟩,ke⟩,ma,bb⟩:=bb
       replace F:=fc ma F
       try simp only[Ov,yB] at bb
       obtain⟨⟨⟨fr,fq,⟨⟨fo,fm⟩,⟨fj,fh⟩⟩,fg,fb⟩,kd⟩,l7,bb⟩:=bb
       replace F:=fc l7 F
       try simp only[Ov,yB] at bb
       obtain⟨cz,l6,cy,lz,qm,ql,qk,qj,qh,qg,bb⟩:=bb
       replace F:=fc lz (fc l6 F)
       refine go hS F ?_
       refine cb F ((((((cz !=cy)||(decide ((SK N ah af aa x412 ae ab).getD 0≠(Sr N ah af aa x412 ae ab).getD 0)))||(decide ((Sp N ah af aa x412 ae ab).getD 0≠(SX N ah af aa x412 ae ab).getD 0)))||(decide ((SB N ah af aa x412 ae ab).getD 0≠(Th N ah af aa x412 ae ab).getD 0)))||(!(decide (gf=fr)&&(decide (ge=fq)&&(decide (gc=fo)&&(decide (fy=fm)&&(decide (fx=fj)&&(decide (fv=fh)&&(decide (fu=fg)&&decide (ft=fb))))))))))||(ke !=kd)) (fun kq=> ?_) (fun kq=> ?_)
       ·replace bb:=RT kq bb
        obtain rfl:=yJ bb
        try simp only at h
        obtain rfl:=yJ h
        refine go hS F ?_
        exact fin F
       ·replace bb:=RU kq bb
        try simp only[Ov,yB] at bb
        obtain⟨ji,oh,bb⟩:=bb
        refine go hS F ?_
        refine Rx (fun z:Nat=>⟨[(7,.i av),(8,.i au),(9,.v (.string (sB text179))),(10,.i bz),(11,.v (.int .u8 c181)),(25,.b b7),(26,.box (409,4) 0),(28,.own (611,6) [(r184,ba,az,r187,ay,aw),(bu,br,bq,r193,bp,bo),(bn,bm,bj,r200,bi,bh),(an,am,ak,raw174.take ((min (raw174.length:Int) 9).toNat-0),aj,ai)].length),(29,.i i408),(30,.box (1004,aq+1+1) 0)],[(.c (1004,aq+1+1) 0,.i ah),(.c (1004,aq+1+1) 1,.i af),(.c (1004,aq+1+1) 2,.i aa),(.c (1004,aq+1+1) 3,.sl 2 false (x412.map R9) [.i 0,.i 0]),(.c (1004,aq+1+1) 4,.i ae),(.c (1004,aq+1+1) 5,.i ab),(.a (611,6),.sl 6 true ([(r184,ba,az,r187,ay,aw),(bu,br,bq,r193,bp,bo),(bn,bm,bj,r200,bi,bh),(an,am,ak,raw174.take ((min (raw174.length:Int) 9).toNat-0),aj,ai)].map Tj) [.i 0,.i 0,.i 0,.sl 0 true [] [],.i 0,.i 0]),(.c (409,4) 0,.i r184),(.c (409,4) 1,.i ba),(.c (409,4) 2,.i az),(.c (409,4) 3,.sl 2 false (r187.map R9) [.i 0,.i 0]),(.c (409,4) 4,.i ay),(.c (409,4) 5,.i aw)],z⟩) (fun z=>(.inl ():Sum Unit Bool)=ji) (.x 4) ?_ ?_
        ·refine Ez (fun y:Nat×Int×Int×Int×Int×Int×Int×Int×Int×Int×Int×Int×Int×Int×Int×Int×Int×Int×Nat=>⟨[(7,.i av),(8,.i au),(9,.v (.string (sB text179))),(10,.i bz),(11,.v (.int .u8 c181)),(25,.b b7),(26,.box (409,4) 0),(28,.own (611,6) [(r184,ba,az,r187,ay,aw),(bu,br,bq,r193,bp,bo),(bn,bm,bj,r200,bi,bh),(an,am,ak,raw174.take ((min (raw174.length:Int) 9).toNat-0),aj,ai)].length),(29,.i i408),(30,.box (1004,aq+1+1) 0),(34,.box (2005,bw+1) 0),(36,.box (2105,bw+1+1) 0),(38,.i y.2.1)],[(.c (2105,bw+1+1) 0,.i y.2.2.1),(.c (2105,bw+1+1) 1,.i y.2.2.2.1),(.c (2105,bw+1+1) 2,.i y.2.2.2.2.1),(.c (2105,bw+1+1) 3,.i y.2.2.2.2.2.1),(.c (2105,bw+1+1) 4,.i y.2.2.2.2.2.2.1),(.c (2105,bw+1+1) 5,.i y.2.2.2.2.2.2.2.1),(.c (2105,bw+1+1) 6,.i y.2.2.2.2.2.2.2.2.1),(.c (2105,bw+1+1) 7,.i y.2.2.2.2.2.2.2.2.2.1),(.c (2005,bw+1) 0,.i y.2.2.2.2.2.2.2.2.2.2.1),(.c (2005,bw+1) 1,.i y.2.2.2.2.2.2.2.2.2.2.2.1),(.c (2005,bw+1) 2,.i y.2.2.2.2.2.2.2.2.2.2.2.2.1),(.c (2005,bw+1) 3,.i y.2.2.2.2.2.2.2.2.2.2.2.2.2.1),(.c (2005,bw+1) 4,.i y.2.2.2.2.2.2.2.2.2.2.2.2.2.2.1),(.c (2005,bw+1) 5,.i y.2.2.2.2.2.2.2.2.2.2.2.2.2.2.2.1),(.c (2005,bw+1) 6,.i y.2.2.2.2.2.2.2.2.2.2.2.2.2.2.2.2.1),(.c (2005,bw+1) 7,.i y.2.2.2.2.2.2.2.2.2.2.2.2.2.2.2.2.2.1),(.c (1004,aq+1+1) 0,.i ah),(.c (1004,aq+1+1) 1,.i af),(.c (1004,aq+1+1) 2,.i aa),(.c (1004,aq+1+1) 3,.sl 2 false (x412.map R9) [.i 0,.i 0]),(.c (1004,aq+1+1) 4,.i ae),(.c (1004,aq+1+1) 5,.i ab),(.a (611,6),.sl 6 true ([(r184,ba,az,r187,ay,aw),(bu,br,bq,r193,bp,bo),(bn,bm,bj,r200,bi,bh),(an,am,ak,raw174.take ((min (raw174.length:Int) 9).toNat-0),aj,ai)].map Tj) [.i 0,.i 0,.i 0,.sl 0 true [] [],.i 0,.i 0]),(.c (409,4) 0,.i r184),(.c (409,4) 1,.i ba),(.c (409,4) 2,.i az),(.c (409,4) 3,.sl 2 false (r187.map R9) [.i 0,.i 0]),(.c (409,4) 4,.i ay),(.c (409,4) 5,.i aw)],y.2.2.2.2.2.2.2.2.2.2.2.2.2.2.2.2.2.2⟩) (fun y=>SN N r184 ba az r187 ay aw bu br bq r193 bp bo bn bm bj r200 bi bh an am ak raw174 aj ai ah af aa x412 ae ab y.1 y.2.1 y.2.2.1 y.2.2.2.1 y.2.2.2.2.1 y.2.2.2.2.2.1 y.2.2.2.2.2.2.1 y.2.2.2.2.2.2.2.1 y.2.2.2.2.2.2.2.2.1 y.2.2.2.2.2.2.2.2.2.1 y.2.2.2.2.2.2.2.2.2.2.1 y.2.2.2.2.2.2.2.2.2.2.2.1 y.2.2.2.2.2.2.2.2.2.2.2.2.1 y.2.2.2.2.2.2.2.2.2.2.2.2.2.1 y.2.2.2.2.2.2.2.2.2.2.2.2.2.2.1 y.2.2.2.2.2.2.2.2.2.2.2.2.2.2.2.1 y.2.2.2.2.2.2.2.2.2.2.2.2.2.2.2.2.1 y.2.2.2.2.2.2.2.2.2.2.2.2.2.2.2.2.2.1=some ji) (fun y=>y.1) (N,0,fr,fq,fo,fm,fj,fh,fg,fb,gf,ge,gc,fy,fx,fv,fu,ft,bw+1+1+1+1) oh ?_ ?_
         ·exact leF F
         ·rintro⟨n,j486,oz,oy,ox,ow,ov,ot,om,oj,ph,pg,pd,pc,o9,o8,o7,o0,m8⟩ bg
          try simp only at bg
          obtain _|n:=n
          ·exact absurd bg (by simp[SN])
          rw[SN] at bg
          refine go hS F ?_
          refine cb F (decide (j486<4)) (fun km=> ?_) (fun km=> ?_)
          ·replace bg:=RT km bg
           try simp only[Ov,yB] at bg
           obtain⟨⟨cu,cr,cq,x506,co,cn⟩,jo,bg⟩:=bg
           have mj:∀d,C1 [[.i r184,.i ba,.i az,.sl 2 false (r187.map R9) [.i 0,.i 0],.i ay,.i aw],[.i bu,.i br,.i bq,.sl 2 false (r193.map R9) [.i 0,.i 0],.i bp,.i bo],[.i bn,.i bm,.i bj,.sl 2 false (r200.map R9) [.i 0,.i 0],.i bi,.i bh],[.i an,.i am,.i ak,.sl 2 false ((raw174.take ((min (raw174.length:Int) 9).toNat-0)).map R9) [.i 0,.i 0],.i aj,.i ai]] d j486.toNat=[.i cu,.i cr,.i cq,.sl 2 false (x506.map R9) [.i 0,.i 0],.i co,.i cn]:=Vu jo
           have mu:=(Nr jo).1
           try simp only[List.length_cons,List.length_nil] at mu
           replace F:=fc mj F
           try simp only[Ov,yB] at bg
           obtain⟨⟨⟨eh,d9,⟨⟨d8,dz⟩,⟨dw,du⟩⟩,dt,dq⟩,ez⟩,ly,bg⟩:=bg
           replace F:=fc ly F
           try simp only[Ov,yB] at bg
           obtain⟨⟨⟨dp,dm,⟨⟨dh,dg⟩,⟨de,dc⟩⟩,db,c8⟩,eu⟩,lx,bg⟩:=bg
           replace F:=fc lx F
           try simp only[Ov,yB] at bg
           obtain⟨qf,qe,bg⟩:=bg
           refine go hS F ?_
           refine cb F (((!(decide (eh=dp)&&(decide (d9=dm)&&(decide (d8=dh)&&(decide (dz=dg)&&(decide (dw=de)&&(decide (du=dc)&&(decide (dt=db)&&decide (dq=c8)))))))))||(ez !=eu))||(((Sw N ah af aa x412 ae ab cu cr cq x506 co cn).getD false) !=((Ti N ah af aa x412 ae ab cu cr cq x506 co cn).getD false))) (fun kl=> ?_) (fun kl=> ?_)
           ·replace bg:=RT kl bg
            obtain rfl:=yJ bg
            try simp only at bb
            obtain rfl:=yJ bb
            try simp only at h
            obtain rfl:=yJ h
            refine go hS F ?_
            exact fin F
           ·replace bg:=RU kl bg
            try simp only[Ov,yB] at bg
            obtain⟨n7,bg⟩:=bg
            simp only[I64] at n7
            refine go hS F ?_
            exact Fb (n,j486+1,dp,dm,dh,dg,de,dc,db,c8,eh,d9,d8,dz,dw,du,dt,dq,m8+1+1+1+1+1) bg (Nat.lt_succ_self _) (leF F)
          ·replace bg:=RU km bg
           refine go hS F ?_
           exact RW (m8+1) (yJ bg) (leF F)
        ·rintro kv nu
         subst nu
         try simp only at bb
         try simp only[Ov,yB] at bb
         obtain⟨ca,lw,n6,b9,lu,n5,bb⟩:=bb
         simp only[I64] at n6
         simp only[I64] at n5
         replace F:=fc lu (fc lw F)
         try simp only[Ov,yB] at bb
         obtain⟨jh,og,bb⟩:=bb
         refine go hS F ?_
         refine Rx (fun z:Nat=>⟨[(7,.i av),(8,.i au),(9,.v (.string (sB text179))),(10,.i bz),(11,.v (.int .u8 c181)),(25,.b b7),(26,.box (409,4) 0),(28,.own (611,6) [(r184,ba,az,r187,ay,aw),(bu,br,bq,r193,bp,bo),(bn,bm,bj,r200,bi,bh),(an,am,ak,raw174.take ((min (raw174.length:Int) 9).toNat-0),aj,ai)].length),(29,.i i408),(30,.box (1004,aq+1+1) 0)],[(.c (1004,aq+1+1) 0,.i ah),(.c (1004,aq+1+1) 1,.i af),(.c (1004,aq+1+1) 2,.i aa),(.c (1004,aq+1+1) 3,.sl 2 false (x412.map R9) [.i 0,.i 0]),(.c (1004,aq+1+1) 4,.i ae),(.c (1004,aq+1+1) 5,.i ab),(.a (611,6),.sl 6 true ([(r184,ba,az,r187,ay,aw),(bu,br,bq,r193,bp,bo),(bn,bm,bj,r200,bi,bh),(an,am,ak,raw174.take ((min (raw174.length:Int) 9).toNat-0),aj,ai)].map Tj) [.i 0,.i 0,.i 0,.sl 0 true [] [],.i 0,.i 0]),(.c (409,4) 0,.i r184),(.c (409,4) 1,.i ba),(.c (409,4) 2,.i az),(.c (409,4) 3,.sl 2 false (r187.map R9) [.i 0,.i 0]),(.c (409,4) 4,.i ay),(.c (409,4) 5,.i aw)],z⟩) (fun z=>(.inl ():Sum Unit Bool)=jh) (.x 6) ?_ ?_
         ·refine Ez (fun y:Nat×Int×Nat=>⟨[(7,.i av),(8,.i au),(9,.v (.string (sB text179))),(10,.i bz),(11,.v (.int .u8 c181)),(25,.b b7),(26,.box (409,4) 0),(28,.own (611,6) [(r184,ba,az,r187,ay,aw),(bu,br,bq,r193,bp,bo),(bn,bm,bj,r200,bi,bh),(an,am,ak,raw174.take ((min (raw174.length:Int) 9).toNat-0),aj,ai)].length),(29,.i i408),(30,.box (1004,aq+1+1) 0),(227,.own (3110,kv+1) [(av,au),(ca-10,b9-10)].length),(228,.i 2),(229,.i y.2.1)],[(.a (3110,kv+1),.sl 2 true ([(av,au),(ca-10,b9-10)].map R9) [.i 0,.i 0]),(.c (1004,aq+1+1) 0,.i ah),(.c (1004,aq+1+1) 1,.i af),(.c (1004,aq+1+1) 2,.i aa),(.c (1004,aq+1+1) 3,.sl 2 false (x412.map R9) [.i 0,.i 0]),(.c (1004,aq+1+1) 4,.i ae),(.c (1004,aq+1+1) 5,.i ab),(.a (611,6),.sl 6 true ([(r184,ba,az,r187,ay,aw),(bu,br,bq,r193,bp,bo),(bn,bm,bj,r200,bi,bh),(an,am,ak,raw174.take ((min (raw174.length:Int) 9).toNat-0),aj,ai)].map Tj) [.i 0,.i 0,.i 0,.sl 0 true [] [],.i 0,.i 0]),(.c (409,4) 0,.i r184),(.c (409,4) 1,.i ba),(.c (409,4) 2,.i az),(.c (409,4) 3,.sl 2 false (r187.map R9) [.i 0,.i 0]),(.c (409,4) 4,.i ay),(.c (409,4) 5,.i aw)],y.2.2⟩) (fun y=>SO N av au ca b9 ah af aa x412 ae ab y.1 y.2.1=some jh) (fun y=>y.1) (N,0,kv+1) og ?_ ?_
          ·exact leF F
          ·rintro⟨n,x573,m7⟩ be
           try simp only at be
           obtain _|n:=n
           ·exact absurd be (by simp[SO])
           rw[SO] at be
           refine go hS F ?_
           refine cb F (decide (x573<2)) (fun kj=> ?_) (fun kj=> ?_)
           ·replace be:=RT kj be
            try simp only[Ov,yB] at be
            obtain⟨⟨em,ej⟩,jn,be⟩:=be
            have jl:[(av,au),(ca-10,b9-10)].getD x573.toNat (0,0)=(em,ej):=ixs jn _
            have mi:C1 [[.i av,.i au],[.i (ca-10),.i (b9-10)]] [.i 0,.i 0] x573.toNat=[.i em,.i ej]:=by have hq:=Sg [(av,au),(ca-10,b9-10)] x573.toNat;rw[jl] at hq;exact hq
            have mr:=(Nr jn).1
            try simp only[List.length_cons,List.length_nil] at mr
            replace F:=fc mi (fc jl F)
            try simp only[Ov,yB] at be
            obtain⟨⟨⟨i6,iz,iy,iw,iv,iu⟩,ir⟩,lr,be⟩:=be
            replace F:=fc lr F
            try simp only[Ov,yB] at be
            obtain⟨⟨⟨iq,ip,im,il,ij,ii⟩,ig⟩,lq,be⟩:=be
            replace F:=fc lq F
            try simp only[Ov,yB] at be
            obtain⟨qd,be⟩:=be
            refine go hS F ?_
            refine cb F ((decide (ir≠ig))||(!((SC N i6 iz iy iw iv iu iq ip im il ij ii).getD false))) (fun ki=> ?_) (fun ki=> ?_)
            ·replace be:=RT ki be
             obtain rfl:=yJ be
             try simp only at bb
             obtain rfl:=yJ bb
             try simp only at h
             obtain rfl:=yJ h
             refine go hS F ?_
             exact fin F
            ·replace be:=RU ki be
             try simp only[Ov,yB] at be
             obtain⟨n4,be⟩:=be
             simp only[I64] at n4
             refine go hS F ?_
             exact Fb (n,x573+1,m7+1+1+1+1+1+1) be (Nat.lt_succ_self _) (leF F)
           ·replace be:=RU kj be
            refine go hS F ?_
            exact RW (m7+1) (yJ be) (leF F)
         ·rintro pi nr
          subst nr
          try simp only at bb
          try simp only[Ov,yB] at bb
          obtain⟨⟨kc,ka⟩,lm,bb⟩:=bb
          replace F:=fc lm F
          try simp only[Ov,yB] at bb
          obtain⟨⟨j9,j8⟩,lj,bb⟩:=bb
          replace F:=fc lj F
          try simp only[Ov,yB] at bb
          obtain⟨⟨⟨j7,j6,j5,j4,jz⟩,jy⟩,li,bb⟩:=bb
          replace F:=fc li F
          try simp only[Ov,yB] at bb
          obtain⟨⟨⟨jx,jw,jv,ju,jt⟩,js⟩,lh,bb⟩:=bb
          replace F:=fc lh F
          refine go hS F ?_
          refine cb F ((((!decide (kc=j9))||(decide (ka≠j8)))||(!(decide (j7=jx)&&(decide (j6=jw)&&(decide (j5=jv)&&(decide (j4=ju)&&decide (jz=jt)))))))||(decide (jy≠js))) (fun kh=> ?_) (fun kh=> ?_)
          ·replace bb:=RT kh bb
           obtain rfl:=yJ bb
           try simp only at h
           obtain rfl:=yJ h
           refine go hS F ?_
           exact fin F
          ·replace bb:=RU kh bb
           try simp only[Ov,yB] at bb
           obtain⟨nz,bb⟩:=bb
           simp only[I64] at nz
           refine go hS F ?_
           exact Fb (n,i408+1,pi+1+1+1+1+1+1) bb (Nat.lt_succ_self _) (leF F)
    ·replace bb:=RU oc bb
     refine go hS F ?_
     exact RW (aq+1) (yJ bb) (leF F)
  ·rintro kt nq
   subst nq
   try simp only at h
   try simp only[Ov,yB] at h
   obtain⟨⟨r623,nc⟩,lg,h⟩:=h
   replace F:=fc lg F
   try simp only[Ov,yB] at h
   obtain⟨r626,lf,qc,qb,ny,p9,pz,pv,pt,pq,pp,h⟩:=h
   simp only[I64] at ny
   replace F:=fc lf F
   try simp only[Ov,yB] at h
   obtain⟨jf,oe,h⟩:=h
   refine go hS F ?_
   refine Rx (fun z:Nat=>⟨[(25,.b b7)],[],z⟩) (fun z=>(.inl ():Sum Unit Bool)=jf) (.x 8) ?_ ?_
   ·refine Ez (fun y:Nat×Int×Nat=>⟨[(25,.b b7),(337,.own (4727,kt+1+1+1) [((r623.take r626.toNat)++[UInt8.ofNat c181.toNat])++(r623.drop (r626+1).toNat),r623.take r626.toNat,r623++(text179.take (min (text179.length:Int) 60).toNat),text179.take (min (text179.length:Int) 60).toNat].length),(338,.i 4),(339,.i y.2.1)],[(.a (4727,kt+1+1+1),.sl 1 true ([((r623.take r626.toNat)++[UInt8.ofNat c181.toNat])++(r623.drop (r626+1).toNat),r623.take r626.toNat,r623++(text179.take (min (text179.length:Int) 60).toNat),text179.take (min (text179.length:Int) 60).toNat].map e_s) [.v (.string (sB []))])],y.2.2⟩) (fun y=>SQ N r623 r626 c181 text179 y.1 y.2.1=some jf) (fun y=>y.1) (N,0,kt+1+1+1) oe ?_ ?_
    ·exact leF F
    ·rintro⟨n,x646,mz⟩ bv
     try simp only at bv
     obtain _|n:=n
     ·exact absurd bv (by simp[SQ])
     rw[SQ] at bv
     refine go hS F ?_
     refine cb F (decide (x646<4)) (fun kg=> ?_) (fun kg=> ?_)
     ·replace bv:=RT kg bv
      try simp only[Ov,yB] at bv
      obtain⟨ei,jm,⟨⟨ie,ic,ib,g9,g8,gz⟩,gy⟩,k9,bv⟩:=bv
      have jk:[((r623.take r626.toNat)++[UInt8.ofNat c181.toNat])++(r623.drop (r626+1).toNat),r623.take r626.toNat,r623++(text179.take (min (text179.length:Int) 60).toNat),text179.take (min (text179.length:Int) 60).toNat].getD x646.toNat []=ei:=ixs jm _
      have mh:C1 [[.v (.string (sB (((r623.take r626.toNat)++[UInt8.ofNat c181.toNat])++(r623.drop (r626+1).toNat))))],[.v (.string (sB (r623.take r626.toNat)))],[.v (.string (sB (r623++(text179.take (min (text179.length:Int) 60).toNat))))],[.v (.string (sB (text179.take (min (text179.length:Int) 60).toNat)))]] [.v (.string (sB []))] x646.toNat=[.v (.string (sB ei))]:=by have hq:=dX [((r623.take r626.toNat)++[UInt8.ofNat c181.toNat])++(r623.drop (r626+1).toNat),r623.take r626.toNat,r623++(text179.take (min (text179.length:Int) 60).toNat),text179.take (min (text179.length:Int) 60).toNat] x646.toNat;rw[jk] at hq;exact hq
      have mq:=(Nr jm).1
      try simp only[List.length_cons,List.length_nil] at mq
      replace F:=fc k9 (fc mh (fc jk F))
      try simp only[Ov,yB] at bv
      obtain⟨⟨⟨gx,gw,gv,gu,gt,gr⟩,gm⟩,k7,bv⟩:=bv
      replace F:=fc k7 F
      try simp only[Ov,yB] at bv
      obtain⟨po,bv⟩:=bv
      refine go hS F ?_
      refine cb F ((decide (gy≠gm))||(!((SC N ie ic ib g9 g8 gz gx gw gv gu gt gr).getD false))) (fun kf=> ?_) (fun kf=> ?_)
      ·replace bv:=RT kf bv
       obtain rfl:=yJ bv
       try simp only at h
       obtain rfl:=yJ h
       refine go hS F ?_
       exact fin F
      ·replace bv:=RU kf bv
       try simp only[Ov,yB] at bv
       obtain⟨nw,bv⟩:=bv
       simp only[I64] at nw
       refine go hS F ?_
       exact Fb (n,x646+1,mz+1+1+1+1+1+1) bv (Nat.lt_succ_self _) (leF F)
     ·replace bv:=RU kg bv
      refine go hS F ?_
      exact RW (mz+1) (yJ bv) (leF F)
   ·rintro qq no
    subst no
    try simp only at h
    obtain rfl:=yJ h
    refine go hS F ?_
    exact fin F
end
end Go.Proofs.YtdabfcbelkjmgaaGreatDoor.Am
