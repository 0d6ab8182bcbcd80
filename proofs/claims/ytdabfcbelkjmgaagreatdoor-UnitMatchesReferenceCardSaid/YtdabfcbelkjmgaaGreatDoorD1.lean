import Derived.Test.YtdabfcbelkjmgaaGreatDoorAc1
import Derived.Test.YtdabfcbelkjmgaaGreatDoorA13
import Derived.Test.YtdabfcbelkjmgaaGreatDoorA10
namespace Go.Proofs.YtdabfcbelkjmgaaGreatDoor.Am
open Go
attribute [local irreducible] awp Ed Df Dr Ee Bz B8 Dg DM itK
set_option maxRecDepth 100000
set_option maxHeartbeats 8000000
set_option linter.unusedSimpArgs false
set_option linter.unusedVariables false
def R9 (x:Int×Int):List AV:=[.i x.1,.i x.2]
def R8:List AV→Int×Int
 |[.v (.int _ a1),.v (.int _ a2)]=>(a1,a2)
 |_=>(0,0)
theorem dY (x:Int×Int):R8 (R9 x)=x:=by rfl
theorem Sf (R:List (Int×Int)):(R.map R9).map R8=R:=by
 induction R with
 |nil=>rfl
 |cons r R ih=>rw[List.map_cons,List.map_cons,ih,dY]
theorem Sg (R:List (Int×Int)) (i:Nat):C1 (R.map R9) [.i 0,.i 0] i=R9 (R.getD i (0,0)):=by
 unfold C1;rw[List.getD_eq_getElem?_getD,List.getD_eq_getElem?_getD,List.getElem?_map];cases R[i]? <;>rfl
def SG (N:Nat) (a1:Int) (a2:Int) (b3:Int) (b4:Int) (c5:Int) (c6:Int):Option Int:=
 gd (I64 (b3-a1))<|
 gd (I64 (c6-a2))<|
 gd (I64 ((b3-a1)*(c6-a2)))<|
 gd (I64 (b4-a2))<|
 gd (I64 (c5-a1))<|
 gd (I64 ((b4-a2)*(c5-a1)))<|
 gd (I64 (((b3-a1)*(c6-a2))-((b4-a2)*(c5-a1))))<|
 some (((b3-a1)*(c6-a2))-((b4-a2)*(c5-a1)))
def T69 (N:Nat):List (Nat×Bt):=[]
theorem WO (N:Nat):TabOK Tryz.prog (CC (T69 N)):=BW
attribute [local go_sem] RX Qr Qs List.set_cons_succ List.isEmpty_map List.map_append List.map_eq_nil_iff ne_eq List.length_replicate RG RH List.length_set Option.isSome_some
section
attribute [local go_sem] T69
theorem U6 (N:Nat) (a1:Int) (a2:Int) (b3:Int) (b4:Int) (c5:Int) (c6:Int) (r:Int) (h:SG N a1 a2 b3 b4 c5 c6=some r):PCall Tryz.prog 69 [.agg [.i a1,.i a2],.agg [.i b3,.i b4],.agg [.i c5,.i c6]] (.i r):=by
 refine Jw (WO N) _ Tryz.func69 jI jJ (by simp) fun _=> ?_
 have hS:=WO N
 have F:=f0
 unfold Zt Zu
 unfold SG at h
 try simp only[Ov,yB] at h
 obtain⟨dz,c8,dq,c7,br,ce,fm,h⟩:=h
 simp only[I64] at dz
 simp only[I64] at c8
 simp only[I64] at dq
 simp only[I64] at c7
 simp only[I64] at br
 simp only[I64] at ce
 simp only[I64] at fm
 obtain rfl:=yJ h
 refine go hS F ?_
 exact fin F
end
def s69 (N:Nat):Bt
 |[.agg [.v (.int .i64 a1),.v (.int .i64 a2)],.agg [.v (.int .i64 b3),.v (.int .i64 b4)],.agg [.v (.int .i64 c5),.v (.int .i64 c6)]]=>some ((SG N a1 a2 b3 b4 c5 c6).isSome=true,.i ((SG N a1 a2 b3 b4 c5 c6).getD 0))
 |_=>none
theorem Wm (N:Nat):FOK Tryz.prog 69 (s69 N):=⟨jK,by
 intro args vc r h hv
 unfold s69 at h
 split at h
 ·cases h
  have hs:=hv
  obtain⟨r,hr⟩:=yX hs
  have hk:=U6 N _ _ _ _ _ _ r hr
  simp only[hr,Option.getD_some]
  refine PCall.arg ?_ hk
  simp only[wkL,wk,and_true,true_and,yF,false_implies,implies_true]
  try trivial
 ·simp at h⟩
def Tx (N:Nat) (p7:Int) (p8:Int):Option Bool:=
 some ((((decide (0≤p7))&&(decide (p7≤40)))&&(decide (0≤p8)))&&(decide (p8≤40)))
def T68 (N:Nat):List (Nat×Bt):=[]
theorem WP (N:Nat):TabOK Tryz.prog (CC (T68 N)):=BW
section
attribute [local go_sem] T68
theorem UY (N:Nat) (p7:Int) (p8:Int) (r:Bool) (h:Tx N p7 p8=some r):PCall Tryz.prog 68 [.agg [.i p7,.i p8]] (.b r):=by
 refine Jw (WP N) _ Tryz.func68 jF jG (by simp) fun _=> ?_
 have hS:=WP N
 have F:=f0
 unfold Zr Zs
 unfold Tx at h
 obtain rfl:=yJ h
 refine go hS F ?_
 exact fin F
end
def s68 (N:Nat):Bt
 |[.agg [.v (.int .i64 p7),.v (.int .i64 p8)]]=>some ((Tx N p7 p8).isSome=true,.b ((Tx N p7 p8).getD false))
 |_=>none
theorem dZ (N:Nat):FOK Tryz.prog 68 (s68 N):=⟨jH,by
 intro args vc r h hv
 unfold s68 at h
 split at h
 ·cases h
  have hs:=hv
  obtain⟨r,hr⟩:=yX hs
  have hk:=UY N _ _ r hr
  simp only[hr,Option.getD_some]
  refine PCall.arg ?_ hk
  simp only[wkL,wk,and_true,true_and,yF,false_implies,implies_true]
  try trivial
 ·simp at h⟩
def Sl (N:Nat) (l9:List (Int×Int)) (bo:Int):Option (Int×Int):=
 gd (I64 (bo+1))<|
 gd ((l9.length:Int)≠0)<|
 (nth l9 ((bo+1).tmod (l9.length:Int))).bind fun(ft,fr)=>
 some (ft,fr)
def T70 (N:Nat):List (Nat×Bt):=[]
theorem WR (N:Nat):TabOK Tryz.prog (CC (T70 N)):=BW
section
attribute [local go_sem] T70 R9 Sf Sg R8
theorem Vn (N:Nat) (l9:List (Int×Int)) (bo:Int) (r:Int×Int) (h:Sl N l9 bo=some r):PCall Tryz.prog 70 [.sl 2 false (l9.map R9) [.i 0,.i 0],.i bo] (.agg [.i r.1,.i r.2]):=by
 refine Jw (WR N) _ Tryz.func70 jL jM (by simp) fun _=> ?_
 have hS:=WR N
 have F:=f0
 unfold Zv Zw
 unfold Sl at h
 try simp only[Ov,yB] at h
 obtain⟨dz,c8,⟨ft,fr⟩,ez,h⟩:=h
 simp only[I64] at dz
 have gg:l9.getD ((bo+1).tmod (l9.length:Int)).toNat (0,0)=(ft,fr):=ixs ez _
 have iq:=(Nr ez).1
 replace F:=fc gg F
 obtain rfl:=yJ h
 refine go hS F ?_
 exact fin F
end
def s70 (N:Nat):Bt
 |[.sl g9 _ l9 _,.v (.int .i64 bo)]=>some (((g9=2∨l9=[])∧l9=(l9.map R8).map R9)∧(Sl N (l9.map R8) bo).isSome=true,.agg [.i (((Sl N (l9.map R8) bo).getD (0,0)).1),.i (((Sl N (l9.map R8) bo).getD (0,0)).2)])
 |_=>none
theorem VV (N:Nat):FOK Tryz.prog 70 (s70 N):=⟨jN,by
 intro args vc r h hv
 unfold s70 at h
 split at h
 ·cases h
  obtain⟨⟨gw,gx⟩,hs⟩:=hv
  obtain⟨r,hr⟩:=yX hs
  have hk:=Vn N _ _ r hr
  simp only[hr,Option.getD_some]
  refine PCall.arg ?_ hk
  simp only[wkL,wk,and_true,true_and,yF,false_implies,implies_true]
  repeat' (first|exact yT|assumption|apply And.intro)
 ·simp at h⟩
def SR (N:Nat) (bm:Int) (bj:Int) (bi:Int) (bh:Int):Option Int:=
 gd (I64 (bm-bi))<|
 gd (I64 (bm-bi))<|
 gd (I64 ((bm-bi)*(bm-bi)))<|
 gd (I64 (bj-bh))<|
 gd (I64 (bj-bh))<|
 gd (I64 ((bj-bh)*(bj-bh)))<|
 gd (I64 (((bm-bi)*(bm-bi))+((bj-bh)*(bj-bh))))<|
 some (((bm-bi)*(bm-bi))+((bj-bh)*(bj-bh)))
def T94 (N:Nat):List (Nat×Bt):=[]
theorem WS (N:Nat):TabOK Tryz.prog (CC (T94 N)):=BW
section
attribute [local go_sem] T94
theorem Vo (N:Nat) (bm:Int) (bj:Int) (bi:Int) (bh:Int) (r:Int) (h:SR N bm bj bi bh=some r):PCall Tryz.prog 94 [.agg [.i bm,.i bj],.agg [.i bi,.i bh]] (.i r):=by
 refine Jw (WS N) _ Tryz.func94 lF lG (by simp) fun _=> ?_
 have hS:=WS N
 have F:=f0
 unfold Z4 Z5
 unfold SR at h
 try simp only[Ov,yB] at h
 obtain⟨dz,c8,dq,c7,br,ce,fm,h⟩:=h
 simp only[I64] at dz
 simp only[I64] at c8
 simp only[I64] at dq
 simp only[I64] at c7
 simp only[I64] at br
 simp only[I64] at ce
 simp only[I64] at fm
 obtain rfl:=yJ h
 refine go hS F ?_
 exact fin F
end
def s94 (N:Nat):Bt
 |[.agg [.v (.int .i64 bm),.v (.int .i64 bj)],.agg [.v (.int .i64 bi),.v (.int .i64 bh)]]=>some ((SR N bm bj bi bh).isSome=true,.i ((SR N bm bj bi bh).getD 0))
 |_=>none
theorem eC (N:Nat):FOK Tryz.prog 94 (s94 N):=⟨lH,by
 intro args vc r h hv
 unfold s94 at h
 split at h
 ·cases h
  have hs:=hv
  obtain⟨r,hr⟩:=yX hs
  have hk:=Vo N _ _ _ _ r hr
  simp only[hr,Option.getD_some]
  refine PCall.arg ?_ hk
  simp only[wkL,wk,and_true,true_and,yF,false_implies,implies_true]
  try trivial
 ·simp at h⟩
def Si (N:Nat) (c18:Int) (bn:Int):Option Int:=
 bif decide (c18<0) then(
  gd (I64 (c18+1))<|
  gd (I64 (-(c18+1)))<|
  gd (bn≠0)<|
  some ((-(c18+1)).tmod bn))
 else(
  gd (bn≠0)<|
  some (c18.tmod bn))
def T62 (N:Nat):List (Nat×Bt):=[]
theorem WT (N:Nat):TabOK Tryz.prog (CC (T62 N)):=BW
section
attribute [local go_sem] T62
theorem U7 (N:Nat) (c18:Int) (bn:Int) (r:Int) (h:Si N c18 bn=some r):PCall Tryz.prog 62 [.i c18,.i bn] (.i r):=by
 refine Jw (WT N) _ Tryz.func62 iQ iR (by simp) fun _=> ?_
 have hS:=WT N
 have F:=f0
 unfold Ze Zf
 unfold Si at h
 refine go hS F ?_
 refine cb F (decide (c18<0)) (fun gr=> ?_) (fun gr=> ?_)
 ·replace h:=RT gr h
  try simp only[Ov,yB] at h
  obtain⟨c8,dq,c7,h⟩:=h
  simp only[I64] at c8
  simp only[I64] at dq
  obtain rfl:=yJ h
  refine go hS F ?_
  exact fin F
 ·replace h:=RU gr h
  try simp only[Ov,yB] at h
  obtain⟨br,h⟩:=h
  obtain rfl:=yJ h
  refine go hS F ?_
  exact fin F
end
def s62 (N:Nat):Bt
 |[.v (.int .i64 c18),.v (.int .i64 bn)]=>some ((Si N c18 bn).isSome=true,.i ((Si N c18 bn).getD 0))
 |_=>none
theorem WH (N:Nat):FOK Tryz.prog 62 (s62 N):=⟨iS,by
 intro args vc r h hv
 unfold s62 at h
 split at h
 ·cases h
  have hs:=hv
  obtain⟨r,hr⟩:=yX hs
  have hk:=U7 N _ _ r hr
  simp only[hr,Option.getD_some]
  refine PCall.arg ?_ hk
  simp only[wkL,wk,and_true,true_and,yF,false_implies,implies_true]
  try trivial
 ·simp at h⟩
def SV (N:Nat) (l20:List (Int×Int)):Nat→Int→Int→Int→Option (Int×Int)
 |0,_,_,_=>none
 |n+1,i31,aw,an=>
  bif decide (i31<(l20.length:Int)) then(
   (nth l20 i31).bind fun(cy,bq)=>
   bif (decide (bq<an))||((decide (bq=an))&&(decide (cy<aw))) then(
    gd (I64 (i31+1))<|
    SV N l20 n (i31+1) cy bq)
   else(
    gd (I64 (i31+1))<|
    SV N l20 n (i31+1) aw an))
  else(
   some (aw,an))
def SJ (N:Nat) (l20:List (Int×Int)) (au:Int) (aq:Int):Nat→Int→Int→Int→Option (Int×Int)
 |0,_,_,_=>none
 |n+1,i97,aj,ai=>
  bif decide (i97<(l20.length:Int)) then(
   (nth l20 i97).bind fun(ba,az)=>
   bif decide (ba=au)&&decide (az=aq) then(
    gd (I64 (i97+1))<|
    SJ N l20 au aq n (i97+1) aj ai)
   else(
    (SG N au aq aj ai ba az).bind fun be=>
    gd ((decide (be=0))=true→((SR N au aq ba az).isSome=true))<|
    gd ((decide (be=0))=true→((SR N au aq aj ai).isSome=true))<|
    bif ((decide (aj=au)&&decide (ai=aq))||(decide (be<0)))||((decide (be=0))&&(decide ((SR N au aq aj ai).getD 0<(SR N au aq ba az).getD 0))) then(
     gd (I64 (i97+1))<|
     SJ N l20 au aq n (i97+1) ba az)
    else(
     gd (I64 (i97+1))<|
     SJ N l20 au aq n (i97+1) aj ai)))
  else(
   some (aj,ai))
def Te (N:Nat) (l20:List (Int×Int)) (af:Int) (ae:Int):Nat→Int→Int→(List (Int×Int))→Option ((List (Int×Int)))
 |0,_,_,_=>none
 |n+1,au,aq,l92=>
  (SJ N l20 au aq N 0 au aq).bind fun(am,ak)=>
  bif (decide (am=au)&&decide (ak=aq))||(decide (am=af)&&decide (ak=ae)) then(
   some l92)
  else(
   gd ((l92.length+1)*16≤140737488355328)<|
   Te N l20 af ae n am ak (l92++[(am,ak)]))
def Tm (N:Nat) (l20:List (Int×Int)):Option (List (Int×Int)):=
 (nth l20 0).bind fun(fj,fh)=>
 (SV N l20 N 0 fj fh).bind fun(af,ae)=>
 (Te N l20 af ae N af ae [(af,ae)]).bind fun fu=>
 some fu
def T82 (N:Nat):List (Nat×Bt):=[(69,s69 N),(94,s94 N)]
theorem WU (N:Nat):TabOK Tryz.prog (CC (T82 N)):=EC (Wm N) (EC (eC N) (BW))
section
attribute [local go_sem] T82 s69 s94 R9 Sf Sg R8
theorem U8 (N:Nat) (l20:List (Int×Int)) (r:List (Int×Int)) (h:Tm N l20=some r):PCall Tryz.prog 82 [.sl 2 false (l20.map R9) [.i 0,.i 0]] (.sl 2 false (r.map R9) [.i 0,.i 0]):=by
 refine Jw (WU N) _ Tryz.func82 kG kH (by simp) fun _=> ?_
 have hS:=WU N
 have F:=f0
 unfold ZM ZN
 unfold Tm at h
 try simp only[Ov,yB] at h
 obtain⟨⟨fj,fh⟩,eu,h⟩:=h
 have gf:l20.getD 0 (0,0)=(fj,fh):=ixs eu _
 have ip:=(Nr eu).1
 replace F:=fc gf F
 try simp only[Ov,yB] at h
 obtain⟨gv,gt,h⟩:=h
 refine go hS F ?_
 refine Rx (fun z:Int×Int×Nat=>⟨[(0,.sl 2 false (l20.map R9) [.i 0,.i 0]),(3,.box (103,2) 0)],[(.c (103,2) 0,.i z.1),(.c (103,2) 1,.i z.2.1)],z.2.2⟩) (fun z=>((z.1,z.2.1):Int×Int)=gv) (.x 0) ?_ ?_
 ·refine Ez (fun y:Nat×Int×Int×Int×Nat=>⟨[(0,.sl 2 false (l20.map R9) [.i 0,.i 0]),(3,.box (103,2) 0),(4,.i y.2.1)],[(.c (103,2) 0,.i y.2.2.1),(.c (103,2) 1,.i y.2.2.2.1)],y.2.2.2.2⟩) (fun y=>SV N l20 y.1 y.2.1 y.2.2.1 y.2.2.2.1=some gv) (fun y=>y.1) (N,0,fj,fh,3) gt ?_ ?_
  ·exact leF F
  ·rintro⟨n,i31,aw,an,gu⟩ av
   try simp only at av
   obtain _|n:=n
   ·exact absurd av (by simp[SV])
   rw[SV] at av
   refine go hS F ?_
   refine cb F (decide (i31<(l20.length:Int))) (fun ci=> ?_) (fun ci=> ?_)
   ·replace av:=RT ci av
    try simp only[Ov,yB] at av
    obtain⟨⟨cy,bq⟩,em,av⟩:=av
    have ge:l20.getD i31.toNat (0,0)=(cy,bq):=ixs em _
    have im:=(Nr em).1
    replace F:=fc ge F
    refine go hS F ?_
    refine cb F ((decide (bq<an))||((decide (bq=an))&&(decide (cy<aw)))) (fun gm=> ?_) (fun gm=> ?_)
    ·replace av:=RT gm av
     try simp only[Ov,yB] at av
     obtain⟨br,av⟩:=av
     simp only[I64] at br
     refine go hS F ?_
     exact Fb (n,i31+1,cy,bq,gu+1+1+1+1) av (Nat.lt_succ_self _) (leF F)
    ·replace av:=RU gm av
     try simp only[Ov,yB] at av
     obtain⟨ce,av⟩:=av
     simp only[I64] at ce
     refine go hS F ?_
     exact Fb (n,i31+1,aw,an,gu+1+1+1) av (Nat.lt_succ_self _) (leF F)
   ·replace av:=RU ci av
    refine go hS F ?_
    exact RW (aw,an,gu+1) (yJ av) (leF F)
 ·rintro⟨af,ae,bz⟩ ic
  subst ic
  try simp only at h
  refine go hS F ?_
  refine QP 2200 6 2 (by show(6:Nat)<116;omega) (by omega) (by simp only[go_sem,seval,F]<;>eq_refl) (by simp only[go_sem,seval,F]<;>eq_refl) ?_
  try simp only[Ov,yB] at h
  obtain⟨fx,ir,h⟩:=h
  refine go hS F ?_
  refine Ez (fun y:Nat×Int×Int×(List (Int×Int))×Nat×Nat=>⟨[(0,.sl 2 false (l20.map R9) [.i 0,.i 0]),(3,.box (103,2) 0),(5,.own (701,bz+1) y.2.2.2.1.length),(6,.box (2200,y.2.2.2.2.1) 0)],[(.c (2200,y.2.2.2.2.1) 0,.i y.2.1),(.c (2200,y.2.2.2.2.1) 1,.i y.2.2.1),(.a (701,bz+1),.sl 2 true (y.2.2.2.1.map R9) [.i 0,.i 0]),(.c (103,2) 0,.i af),(.c (103,2) 1,.i ae)],y.2.2.2.2.2⟩) (fun y=>Te N l20 af ae y.1 y.2.1 y.2.2.1 y.2.2.2.1=some fx) (fun y=>y.1) (N,af,ae,[(af,ae)],bz+1+1+1,bz+1+1+1) ir ?_ ?_
  ·exact leF F
  ·rintro⟨n,au,aq,l92,cz,cr⟩ bb
   try simp only at bb
   obtain _|n:=n
   ·exact absurd bb (by simp[Te])
   rw[Te] at bb
   try simp only[Ov,yB] at bb
   obtain⟨dg,ay,bb⟩:=bb
   refine go hS F ?_
   refine Rx (fun z:Int×Int×Nat=>⟨[(0,.sl 2 false (l20.map R9) [.i 0,.i 0]),(3,.box (103,2) 0),(5,.own (701,bz+1) l92.length),(6,.box (2200,cz) 0),(7,.box (901,cr+1) 0)],[(.c (901,cr+1) 0,.i z.1),(.c (901,cr+1) 1,.i z.2.1),(.c (2200,cz) 0,.i au),(.c (2200,cz) 1,.i aq),(.a (701,bz+1),.sl 2 true (l92.map R9) [.i 0,.i 0]),(.c (103,2) 0,.i af),(.c (103,2) 1,.i ae)],z.2.2⟩) (fun z=>((z.1,z.2.1):Int×Int)=dg) (.x 4) ?_ ?_
   ·refine Ez (fun y:Nat×Int×Int×Int×Nat=>⟨[(0,.sl 2 false (l20.map R9) [.i 0,.i 0]),(3,.box (103,2) 0),(5,.own (701,bz+1) l92.length),(6,.box (2200,cz) 0),(7,.box (901,cr+1) 0),(8,.i y.2.1)],[(.c (901,cr+1) 0,.i y.2.2.1),(.c (901,cr+1) 1,.i y.2.2.2.1),(.c (2200,cz) 0,.i au),(.c (2200,cz) 1,.i aq),(.a (701,bz+1),.sl 2 true (l92.map R9) [.i 0,.i 0]),(.c (103,2) 0,.i af),(.c (103,2) 1,.i ae)],y.2.2.2.2⟩) (fun y=>SJ N l20 au aq y.1 y.2.1 y.2.2.1 y.2.2.2.1=some dg) (fun y=>y.1) (N,0,au,aq,cr+1+1) ay ?_ ?_
    ·exact leF F
    ·rintro⟨n,i97,aj,ai,fo⟩ ah
     try simp only at ah
     obtain _|n:=n
     ·exact absurd ah (by simp[SJ])
     rw[SJ] at ah
     refine go hS F ?_
     refine cb F (decide (i97<(l20.length:Int))) (fun bg=> ?_) (fun bg=> ?_)
     ·replace ah:=RT bg ah
      try simp only[Ov,yB] at ah
      obtain⟨⟨ba,az⟩,bw,ah⟩:=ah
      have dp:l20.getD i97.toNat (0,0)=(ba,az):=ixs bw _
      have g8:=(Nr bw).1
      replace F:=fc dp F
      refine go hS F ?_
      refine cb F (decide (ba=au)&&decide (az=aq)) (fun co=> ?_) (fun co=> ?_)
      ·replace ah:=RT co ah
       try simp only[Ov,yB] at ah
       obtain⟨gj,ah⟩:=ah
       simp only[I64] at gj
       refine go hS F ?_
       exact Fb (n,i97+1,aj,ai,fo+1+1+1) ah (Nat.lt_succ_self _) (leF F)
      ·replace ah:=RU co ah
       try simp only[Ov,yB] at ah
       obtain⟨be,ej,dw,gi,ah⟩:=ah
       replace F:=fc ej F
       refine go hS F ?_
       refine cb F (((decide (aj=au)&&decide (ai=aq))||(decide (be<0)))||((decide (be=0))&&(decide ((SR N au aq aj ai).getD 0<(SR N au aq ba az).getD 0)))) (fun ck=> ?_) (fun ck=> ?_)
       ·replace ah:=RT ck ah
        try simp only[Ov,yB] at ah
        obtain⟨du,ah⟩:=ah
        simp only[I64] at du
        refine go hS F ?_
        exact Fb (n,i97+1,ba,az,fo+1+1+1+1+1+1) ah (Nat.lt_succ_self _) (leF F)
       ·replace ah:=RU ck ah
        try simp only[Ov,yB] at ah
        obtain⟨dt,ah⟩:=ah
        simp only[I64] at dt
        refine go hS F ?_
        exact Fb (n,i97+1,aj,ai,fo+1+1+1+1+1) ah (Nat.lt_succ_self _) (leF F)
     ·replace ah:=RU bg ah
      refine go hS F ?_
      exact RW (aj,ai,fo+1) (yJ ah) (leF F)
   ·rintro⟨am,ak,fg⟩ fy
    subst fy
    try simp only at bb
    refine go hS F ?_
    refine cb F ((decide (am=au)&&decide (ak=aq))||(decide (am=af)&&decide (ak=ae))) (fun cj=> ?_) (fun cj=> ?_)
    ·replace bb:=RT cj bb
     obtain rfl:=yJ bb
     try simp only at h
     obtain rfl:=yJ h
     refine go hS F ?_
     exact fin F
    ·replace bb:=RU cj bb
     try simp only[Ov,yB] at bb
     obtain⟨gh,bb⟩:=bb
     refine go hS F ?_
     exact Fb (n,am,ak,l92++[(am,ak)],fg+1+1+1+1+1,fg+1+1+1+1+1) bb (Nat.lt_succ_self _) (leF F)
end
def s82 (N:Nat):Bt
 |[.sl fq _ l20 _]=>some (((fq=2∨l20=[])∧l20=(l20.map R8).map R9)∧(Tm N (l20.map R8)).isSome=true,.sl 2 false (((Tm N (l20.map R8)).getD []).map R9) [.i 0,.i 0])
 |_=>none
theorem eD (N:Nat):FOK Tryz.prog 82 (s82 N):=⟨kI,by
 intro args vc r h hv
 unfold s82 at h
 split at h
 ·cases h
  obtain⟨⟨gw,gx⟩,hs⟩:=hv
  obtain⟨r,hr⟩:=yX hs
  have hk:=U8 N _ r hr
  simp only[hr,Option.getD_some]
  refine PCall.arg ?_ hk
  simp only[wkL,wk,and_true,true_and,yF,false_implies,implies_true]
  repeat' (first|exact yT|assumption|apply And.intro)
 ·simp at h⟩
def Tf (N:Nat) (x120:List (Int×Int)) (ab:Int) (aa:Int):Nat→Int→(List (Int×Int))→Option ((List (Int×Int)))
 |0,_,_=>none
 |n+1,i141,l142=>
  bif (decide (i141<(x120.length:Int)))&&(decide (i141<8)) then(
   (nth x120 i141).bind fun(b9,b7)=>
   gd (I64 (ab-aa))<|
   gd (I64 ((ab-aa)+1))<|
   (Si N b9 ((ab-aa)+1)).bind fun bp=>
   gd (I64 (aa+bp))<|
   (Si N b7 41).bind fun ca=>
   gd ((l142.length+1)*16≤140737488355328)<|
   gd (I64 (i141+1))<|
   Tf N x120 ab aa n (i141+1) (l142++[(aa+bp,ca)]))
  else(
   some l142)
def SH (N:Nat) (x120:List (Int×Int)) (aa:Int) (ab:Int):Option (List (Int×Int)):=
 (Tf N x120 ab aa N 0 []).bind fun l154=>
 (bif decide (0<(l154.length:Int)) then(
   (Tm N l154).bind fun r171=>
   bif decide (3≤(r171.length:Int)) then(
    some r171)
   else(
    some [(aa,10),(ab,10),(aa,20)]))
  else(
   some [(aa,10),(ab,10),(aa,20)]):Option ((List (Int×Int)))).bind fun l174=>
 bif decide (0<(x120.length:Int)) then(
  (nth x120 0).bind fun(x181,dc)=>
  gd (I64 (x181.tdiv 41))<|
  (Si N (x181.tdiv 41) (l174.length:Int)).bind fun r184=>
  gd (0≤r184∧r184≤(l174.length:Int))<|
  gd (((l174.drop r184.toNat).length)*16≤140737488355328)<|
  gd (0≤0∧0≤r184∧r184≤(l174.length:Int))<|
  gd (((l174.drop r184.toNat).length+(l174.take (r184.toNat-0)).length)*16≤140737488355328)<|
  some (l174.drop r184.toNat++(l174.take (r184.toNat-0))))
 else(
  gd (0≤0∧0≤(l174.length:Int))<|
  gd (((l174.drop 0).length)*16≤140737488355328)<|
  gd (0≤0∧0≤0∧0≤(l174.length:Int))<|
  gd (((l174.drop 0).length)*16≤140737488355328)<|
  some (l174.drop 0))
def T63 (N:Nat):List (Nat×Bt):=[(62,s62 N),(82,s82 N)]
theorem WV (N:Nat):TabOK Tryz.prog (CC (T63 N)):=EC (WH N) (EC (eD N) (BW))
section
attribute [local go_sem] T63 s62 s82 R9 Sf Sg R8
theorem U9 (N:Nat) (x120:List (Int×Int)) (aa:Int) (ab:Int) (r:List (Int×Int)) (h:SH N x120 aa ab=some r):PCall Tryz.prog 63 [.sl 2 false (x120.map R9) [.i 0,.i 0],.i aa,.i ab] (.sl 2 false (r.map R9) [.i 0,.i 0]):=by
 refine Jw (WV N) _ Tryz.func63 iT iU (by simp) fun _=> ?_
 have hS:=WV N
 have F:=f0
 unfold Zg Zh
 unfold SH at h
 refine go hS F ?_
 refine Kh 1000001 8 2 [.i 0,.i 0] (by show(8:Nat)<80;omega) (by omega) (by simp only[go_sem,seval,F]<;>eq_refl) ?_
 try simp only[Ov,yB] at h
 obtain⟨de,gt,h⟩:=h
 refine go hS F ?_
 refine Rx (fun z:(List (Int×Int))×Nat=>⟨[(0,.sl 2 false (x120.map R9) [.i 0,.i 0]),(7,.own (106,2) [(aa,10),(ab,10),(aa,20)].length),(8,.own (1000001,5) z.1.length)],[(.a (1000001,5),.sl 2 true (z.1.map R9) [.i 0,.i 0]),(.a (106,2),.sl 2 true ([(aa,10),(ab,10),(aa,20)].map R9) [.i 0,.i 0])],z.2⟩) (fun z=>(z.1:(List (Int×Int)))=de) (.x 0) ?_ ?_
 ·refine Ez (fun y:Nat×Int×(List (Int×Int))×Nat=>⟨[(0,.sl 2 false (x120.map R9) [.i 0,.i 0]),(1,.i aa),(2,.i ab),(7,.own (106,2) [(aa,10),(ab,10),(aa,20)].length),(8,.own (1000001,5) y.2.2.1.length),(9,.i y.2.1)],[(.a (1000001,5),.sl 2 true (y.2.2.1.map R9) [.i 0,.i 0]),(.a (106,2),.sl 2 true ([(aa,10),(ab,10),(aa,20)].map R9) [.i 0,.i 0])],y.2.2.2⟩) (fun y=>Tf N x120 ab aa y.1 y.2.1 y.2.2.1=some de) (fun y=>y.1) (N,0,[],5) gt ?_ ?_
  ·exact leF F
  ·rintro⟨n,i141,l142,fb⟩ av
   try simp only at av
   obtain _|n:=n
   ·exact absurd av (by simp[Tf])
   rw[Tf] at av
   refine go hS F ?_
   refine cb F ((decide (i141<(x120.length:Int)))&&(decide (i141<8))) (fun ci=> ?_) (fun ci=> ?_)
   ·replace av:=RT ci av
    try simp only[Ov,yB] at av
    obtain⟨⟨b9,b7⟩,bv,av⟩:=av
    have dm:x120.getD i141.toNat (0,0)=(b9,b7):=ixs bv _
    have gz:=(Nr bv).1
    replace F:=fc dm F
    try simp only[Ov,yB] at av
    obtain⟨c7,br,bp,ei,ce,ca,eh,fm,ie,av⟩:=av
    simp only[I64] at c7
    simp only[I64] at br
    simp only[I64] at ce
    simp only[I64] at ie
    replace F:=fc eh (fc ei F)
    refine go hS F ?_
    exact Fb (n,i141+1,l142++[(aa+bp,ca)],fb+1+1+1) av (Nat.lt_succ_self _) (leF F)
   ·replace av:=RU ci av
    refine go hS F ?_
    exact RW (l142,fb+1) (yJ av) (leF F)
 ·rintro⟨l154,cu⟩ ib
  subst ib
  try simp only at h
  refine go hS F ?_
  refine Ra 7 (by show(7:Nat)<80;omega) (by simp only[go_sem,seval,F]<;>eq_refl) (by simp only[go_sem,seval,F]<;>eq_refl) (by simp) ?_
  try simp only[Ov,yB] at h
  obtain⟨fv,ay,h⟩:=h
  refine go hS F ?_
  refine Rx (fun z:(List (Int×Int))×Nat=>⟨[(0,.sl 2 false (x120.map R9) [.i 0,.i 0]),(7,.sl 2 false (z.1.map R9) [.i 0,.i 0])],[],z.2⟩) (fun z=>(z.1:(List (Int×Int)))=fv) .n ?_ ?_
  ·refine go hS F ?_
   refine cb F (decide (0<(l154.length:Int))) (fun cq=> ?_) (fun cq=> ?_)
   ·replace ay:=RT cq ay
    try simp only[Ov,yB] at ay
    obtain⟨r171,d9,ay⟩:=ay
    replace F:=fc d9 F
    refine go hS F ?_
    refine cb F (decide (3≤(r171.length:Int))) (fun bg=> ?_) (fun bg=> ?_)
    ·replace ay:=RT bg ay
     refine go hS F ?_
     exact RW (r171,cu+1+1+1+1) (yJ ay) (leF F)
    ·replace ay:=RU bg ay
     refine go hS F ?_
     exact RW ([(aa,10),(ab,10),(aa,20)],cu+1+1+1) (yJ ay) (leF F)
   ·replace ay:=RU cq ay
    refine go hS F ?_
    exact RW ([(aa,10),(ab,10),(aa,20)],cu+1) (yJ ay) (leF F)
  ·rintro⟨l174,iu⟩ gc
   subst gc
   try simp only at h
   refine go hS F ?_
   refine cb F (decide (0<(x120.length:Int))) (fun cn=> ?_) (fun cn=> ?_)
   ·replace h:=RT cn h
    try simp only[Ov,yB] at h
    obtain⟨⟨x181,dc⟩,bu,h⟩:=h
    have dh:x120.getD 0 (0,0)=(x181,dc):=ixs bu _
    have gy:=(Nr bu).1
    replace F:=fc dh F
    try simp only[Ov,yB] at h
    obtain⟨dw,r184,d8,gi,il,du,dt,h⟩:=h
    simp only[I64] at dw
    replace F:=fc d8 F
    obtain rfl:=yJ h
    refine go hS F ?_
    exact fin F
   ·replace h:=RU cn h
    try simp only[Ov,yB] at h
    obtain⟨ij,ii,gh,ig,h⟩:=h
    obtain rfl:=yJ h
    refine go hS F ?_
    exact fin F
end
def s63 (N:Nat):Bt
 |[.sl db _ x120 _,.v (.int .i64 aa),.v (.int .i64 ab)]=>some (((db=2∨x120=[])∧x120=(x120.map R8).map R9)∧(SH N (x120.map R8) aa ab).isSome=true,.sl 2 false (((SH N (x120.map R8) aa ab).getD []).map R9) [.i 0,.i 0])
 |_=>none
theorem eE (N:Nat):FOK Tryz.prog 63 (s63 N):=⟨iV,by
 intro args vc r h hv
 unfold s63 at h
 split at h
 ·cases h
  obtain⟨⟨gw,gx⟩,hs⟩:=hv
  obtain⟨r,hr⟩:=yX hs
  have hk:=U9 N _ _ _ r hr
  simp only[hr,Option.getD_some]
  refine PCall.arg ?_ hk
  simp only[wkL,wk,and_true,true_and,yF,false_implies,implies_true]
  repeat' (first|exact yT|assumption|apply And.intro)
 ·simp at h⟩
end Go.Proofs.YtdabfcbelkjmgaaGreatDoor.Am
