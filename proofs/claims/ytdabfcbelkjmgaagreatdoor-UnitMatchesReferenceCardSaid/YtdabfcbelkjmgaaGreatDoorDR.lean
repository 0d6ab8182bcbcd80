import Derived.Test.YtdabfcbelkjmgaaGreatDoorD2
namespace Go.Proofs.YtdabfcbelkjmgaaGreatDoor.Am
open Go
attribute [local irreducible] awp Ed Df Dr Ee Bz B8 Dg DM itK
set_option maxRecDepth 100000
set_option maxHeartbeats 8000000
set_option linter.unusedSimpArgs false
set_option linter.unusedVariables false
def Tv (N:Nat) (l1164:List (Int×Int)) (am:Int) (ak:Int):Nat→Int→Int→Option (Sum Int Int)
 |0,_,_=>none
 |n+1,ay,i1178=>
  bif decide (i1178<(l1164.length:Int)) then(
   (nth l1164 i1178).bind fun(b9,b7)=>
   (Sl N l1164 i1178).bind fun(du,dt)=>
   (SG N b9 b7 du dt am ak).bind fun bo=>
   bif decide (bo<0) then(
    some (.inr (-1)))
   else(
    bif decide (bo=0) then(
     gd (I64 (i1178+1))<|
     Tv N l1164 am ak n 0 (i1178+1))
    else(
     gd (I64 (i1178+1))<|
     Tv N l1164 am ak n ay (i1178+1))))
  else(
   some (.inl ay))
def Tc (N:Nat) (l1164:List (Int×Int)) (am:Int) (ak:Int):Option Int:=
 (Tv N l1164 am ak N 1 0).bind fun br=>match br with
  | .inl bq=>(
   some bq)
  | .inr gy=>(
   some gy)
def T74 (N:Nat):List (Nat×Bt):=[(70,s70 N),(69,s69 N)]
theorem Xq (N:Nat):TabOK Tryz.prog (CC (T74 N)):=EC (VV N) (EC (Wm N) (BW))
attribute [local go_sem] R9 Sf Sg R8 RX Qr Qs List.set_cons_succ List.isEmpty_map List.map_append List.map_eq_nil_iff ne_eq List.length_replicate RG RH List.length_set Option.isSome_some
section
attribute [local go_sem] T74 s70 s69
theorem U0 (N:Nat) (l1164:List (Int×Int)) (am:Int) (ak:Int) (r:Int) (h:Tc N l1164 am ak=some r):PCall Tryz.prog 74 [.sl 2 false (l1164.map R9) [.i 0,.i 0],.agg [.i am,.i ak]] (.i r):=by
 refine Jw (Xq N) _ Tryz.func74 jX jY (by simp) fun _=> ?_
 have hS:=Xq N
 have F:=f0
 unfold ZD ZE
 unfold Tc at h
 try simp only[Ov,yB] at h
 obtain⟨br,jg,h⟩:=h
 refine go hS F ?_
 refine Rx (fun z:Int×Nat=>⟨[(5,.i z.1)],[],z.2⟩) (fun z=>(.inl z.1:Sum Int Int)=br) (.x 0) ?_ ?_
 ·refine Ez (fun y:Nat×Int×Int×Nat=>⟨[(0,.sl 2 false (l1164.map R9) [.i 0,.i 0]),(3,.box (0,1) 0),(5,.i y.2.1),(6,.i y.2.2.1)],[(.c (0,1) 0,.i am),(.c (0,1) 1,.i ak)],y.2.2.2⟩) (fun y=>Tv N l1164 am ak y.1 y.2.1 y.2.2.1=some br) (fun y=>y.1) (N,1,0,3) jg ?_ ?_
  ·exact leF F
  ·rintro⟨n,ay,i1178,db⟩ av
   try simp only at av
   obtain _|n:=n
   ·exact absurd av (by simp[Tv])
   rw[Tv] at av
   refine go hS F ?_
   refine cb F (decide (i1178<(l1164.length:Int))) (fun gw=> ?_) (fun gw=> ?_)
   ·replace av:=RT gw av
    try simp only[Ov,yB] at av
    obtain⟨⟨b9,b7⟩,c7,av⟩:=av
    have fu:l1164.getD i1178.toNat (0,0)=(b9,b7):=ixs c7 _
    have i9:=(Nr c7).1
    replace F:=fc fu F
    try simp only[Ov,yB] at av
    obtain⟨⟨du,dt⟩,gu,av⟩:=av
    replace F:=fc gu F
    try simp only[Ov,yB] at av
    obtain⟨bo,gt,av⟩:=av
    replace F:=fc gt F
    refine go hS F ?_
    refine cb F (decide (bo<0)) (fun bi=> ?_) (fun bi=> ?_)
    ·replace av:=RT bi av
     obtain rfl:=yJ av
     try simp only at h
     obtain rfl:=yJ h
     refine go hS F ?_
     exact fin F
    ·replace av:=RU bi av
     refine go hS F ?_
     refine cb F (decide (bo=0)) (fun gv=> ?_) (fun gv=> ?_)
     ·replace av:=RT gv av
      try simp only[Ov,yB] at av
      obtain⟨dc,av⟩:=av
      simp only[I64] at dc
      refine go hS F ?_
      exact Fb (n,0,i1178+1,db+1+1+1+1+1+1) av (Nat.lt_succ_self _) (leF F)
     ·replace av:=RU gv av
      try simp only[Ov,yB] at av
      obtain⟨fv,av⟩:=av
      simp only[I64] at fv
      refine go hS F ?_
      exact Fb (n,ay,i1178+1,db+1+1+1+1+1) av (Nat.lt_succ_self _) (leF F)
   ·replace av:=RU gw av
    refine go hS F ?_
    exact RW (ay,db+1) (yJ av) (leF F)
 ·rintro⟨bq,jd⟩ jf
  subst jf
  try simp only at h
  obtain rfl:=yJ h
  refine go hS F ?_
  exact fin F
end
def s74 (N:Nat):Bt
 |[.sl fg _ l1164 _,.agg [.v (.int .i64 am),.v (.int .i64 ak)]]=>some (((fg=2∨l1164=[])∧l1164=(l1164.map R8).map R9)∧(Tc N (l1164.map R8) am ak).isSome=true,.i ((Tc N (l1164.map R8) am ak).getD 0))
 |_=>none
theorem fC (N:Nat):FOK Tryz.prog 74 (s74 N):=⟨jZ,by
 intro args vc r h hv
 unfold s74 at h
 split at h
 ·cases h
  obtain⟨⟨il,ip⟩,hs⟩:=hv
  obtain⟨r,hr⟩:=yX hs
  have hk:=U0 N _ _ _ r hr
  simp only[hr,Option.getD_some]
  refine PCall.arg ?_ hk
  simp only[wkL,wk,and_true,true_and,yF,false_implies,implies_true]
  repeat' (first|exact yT|assumption|apply And.intro)
 ·simp at h⟩
def TY (N:Nat) (l1194:List (Int×Int)):Nat→Int→Int→Option Int
 |0,_,_=>none
 |n+1,ba,i1206=>
  bif decide (i1206<(l1194.length:Int)) then(
   (nth l1194 i1206).bind fun(az,bg)=>
   (Sl N l1194 i1206).bind fun(bn,bh)=>
   gd (I64 (az*bh))<|
   gd (I64 (ba+(az*bh)))<|
   gd (I64 (bg*bn))<|
   gd (I64 ((ba+(az*bh))-(bg*bn)))<|
   gd (I64 (i1206+1))<|
   TY N l1194 n ((ba+(az*bh))-(bg*bn)) (i1206+1))
  else(
   some ba)
def Ul (N:Nat) (l1194:List (Int×Int)):Option Int:=
 (Sa N l1194).bind fun cj=>
 bif !cj then(
  some 0)
 else(
  (TY N l1194 N 0 0).bind fun d9=>
  some d9)
def T44 (N:Nat):List (Nat×Bt):=[(41,s41 N),(70,s70 N)]
theorem Xr (N:Nat):TabOK Tryz.prog (CC (T44 N)):=EC (Vp N) (EC (VV N) (BW))
section
attribute [local go_sem] T44 s41 s70
theorem U1 (N:Nat) (l1194:List (Int×Int)) (r:Int) (h:Ul N l1194=some r):PCall Tryz.prog 44 [.sl 2 false (l1194.map R9) [.i 0,.i 0]] (.i r):=by
 refine Jw (Xr N) _ Tryz.func44 gQ gR (by simp) fun _=> ?_
 have hS:=Xr N
 have F:=f0
 unfold YV YW
 unfold Ul at h
 try simp only[Ov,yB] at h
 obtain⟨cj,gr,h⟩:=h
 replace F:=fc gr F
 refine go hS F ?_
 refine cb F (!cj) (fun c8=> ?_) (fun c8=> ?_)
 ·replace h:=RT c8 h
  obtain rfl:=yJ h
  refine go hS F ?_
  exact fin F
 ·replace h:=RU c8 h
  try simp only[Ov,yB] at h
  obtain⟨d8,ij,h⟩:=h
  refine go hS F ?_
  refine Rx (fun z:Int×Nat=>⟨[(3,.i z.1)],[],z.2⟩) (fun z=>(z.1:Int)=d8) (.x 0) ?_ ?_
  ·refine Ez (fun y:Nat×Int×Int×Nat=>⟨[(0,.sl 2 false (l1194.map R9) [.i 0,.i 0]),(3,.i y.2.1),(4,.i y.2.2.1)],[],y.2.2.2⟩) (fun y=>TY N l1194 y.1 y.2.1 y.2.2.1=some d8) (fun y=>y.1) (N,0,0,4) ij ?_ ?_
   ·exact leF F
   ·rintro⟨n,ba,i1206,ej⟩ aj
    try simp only at aj
    obtain _|n:=n
    ·exact absurd aj (by simp[TY])
    rw[TY] at aj
    refine go hS F ?_
    refine cb F (decide (i1206<(l1194.length:Int))) (fun bi=> ?_) (fun bi=> ?_)
    ·replace aj:=RT bi aj
     try simp only[Ov,yB] at aj
     obtain⟨⟨az,bg⟩,cz,aj⟩:=aj
     have ft:l1194.getD i1206.toNat (0,0)=(az,bg):=ixs cz _
     have i8:=(Nr cz).1
     replace F:=fc ft F
     try simp only[Ov,yB] at aj
     obtain⟨⟨bn,bh⟩,gm,aj⟩:=aj
     replace F:=fc gm F
     try simp only[Ov,yB] at aj
     obtain⟨g8,dc,fv,gz,im,aj⟩:=aj
     simp only[I64] at g8
     simp only[I64] at dc
     simp only[I64] at fv
     simp only[I64] at gz
     simp only[I64] at im
     refine go hS F ?_
     exact Fb (n,(ba+(az*bh))-(bg*bn),i1206+1,ej+1+1+1+1+1) aj (Nat.lt_succ_self _) (leF F)
    ·replace aj:=RU bi aj
     refine go hS F ?_
     exact RW (ba,ej+1) (yJ aj) (leF F)
  ·rintro⟨d9,jc⟩ ir
   subst ir
   try simp only at h
   obtain rfl:=yJ h
   refine go hS F ?_
   exact fin F
end
def s44 (N:Nat):Bt
 |[.sl fb _ l1194 _]=>some (((fb=2∨l1194=[])∧l1194=(l1194.map R8).map R9)∧(Ul N (l1194.map R8)).isSome=true,.i ((Ul N (l1194.map R8)).getD 0))
 |_=>none
theorem fD (N:Nat):FOK Tryz.prog 44 (s44 N):=⟨gS,by
 intro args vc r h hv
 unfold s44 at h
 split at h
 ·cases h
  obtain⟨⟨il,ip⟩,hs⟩:=hv
  obtain⟨r,hr⟩:=yX hs
  have hk:=U1 N _ r hr
  simp only[hr,Option.getD_some]
  refine PCall.arg ?_ hk
  simp only[wkL,wk,and_true,true_and,yF,false_implies,implies_true]
  repeat' (first|exact yT|assumption|apply And.intro)
 ·simp at h⟩
def TM (N:Nat) (l1219:List (Int×Int)):Nat→Int→Int→Int→Option (Int×Int)
 |0,_,_,_=>none
 |n+1,be,bb,i1232=>
  bif decide (i1232<(l1219.length:Int)) then(
   (nth l1219 i1232).bind fun(af,ae)=>
   (Sl N l1219 i1232).bind fun(ai,ah)=>
   gd (I64 (af+ai))<|
   gd (I64 (af*ah))<|
   gd (I64 (ae*ai))<|
   gd (I64 ((af*ah)-(ae*ai)))<|
   gd (I64 ((af+ai)*((af*ah)-(ae*ai))))<|
   gd (I64 (be+((af+ai)*((af*ah)-(ae*ai)))))<|
   gd (I64 (ae+ah))<|
   gd (I64 (af*ah))<|
   gd (I64 (ae*ai))<|
   gd (I64 ((af*ah)-(ae*ai)))<|
   gd (I64 ((ae+ah)*((af*ah)-(ae*ai))))<|
   gd (I64 (bb+((ae+ah)*((af*ah)-(ae*ai)))))<|
   gd (I64 (i1232+1))<|
   TM N l1219 n (be+((af+ai)*((af*ah)-(ae*ai)))) (bb+((ae+ah)*((af*ah)-(ae*ai)))) (i1232+1))
  else(
   some (be,bb))
def TF (N:Nat) (l1219:List (Int×Int)):Option (Int×Int):=
 (Sa N l1219).bind fun ci=>
 bif !ci then(
  some (0,0))
 else(
  (TM N l1219 N 0 0 0).bind fun(dq,de)=>
  some (dq,de))
def T47 (N:Nat):List (Nat×Bt):=[(41,s41 N),(70,s70 N)]
theorem Xt (N:Nat):TabOK Tryz.prog (CC (T47 N)):=EC (Vp N) (EC (VV N) (BW))
section
attribute [local go_sem] T47 s41 s70
theorem UM (N:Nat) (l1219:List (Int×Int)) (r:Int×Int) (h:TF N l1219=some r):PCall Tryz.prog 47 [.sl 2 false (l1219.map R9) [.i 0,.i 0]] (.tup [.i r.1,.i r.2]):=by
 refine Jw (Xt N) _ Tryz.func47 gW gX (by simp) fun _=> ?_
 have hS:=Xt N
 have F:=f0
 unfold YZ Y0
 unfold TF at h
 try simp only[Ov,yB] at h
 obtain⟨ci,gj,h⟩:=h
 replace F:=fc gj F
 refine go hS F ?_
 refine cb F (!ci) (fun c8=> ?_) (fun c8=> ?_)
 ·replace h:=RT c8 h
  obtain rfl:=yJ h
  refine go hS F ?_
  exact fin F
 ·replace h:=RU c8 h
  try simp only[Ov,yB] at h
  obtain⟨dz,ij,h⟩:=h
  refine go hS F ?_
  refine Rx (fun z:Int×Int×Nat=>⟨[(4,.i z.1),(5,.i z.2.1)],[],z.2.2⟩) (fun z=>((z.1,z.2.1):Int×Int)=dz) (.x 0) ?_ ?_
  ·refine Ez (fun y:Nat×Int×Int×Int×Nat=>⟨[(0,.sl 2 false (l1219.map R9) [.i 0,.i 0]),(4,.i y.2.1),(5,.i y.2.2.1),(6,.i y.2.2.2.1)],[],y.2.2.2.2⟩) (fun y=>TM N l1219 y.1 y.2.1 y.2.2.1 y.2.2.2.1=some dz) (fun y=>y.1) (N,0,0,0,5) ij ?_ ?_
   ·exact leF F
   ·rintro⟨n,be,bb,i1232,ei⟩ aj
    try simp only at aj
    obtain _|n:=n
    ·exact absurd aj (by simp[TM])
    rw[TM] at aj
    refine go hS F ?_
    refine cb F (decide (i1232<(l1219.length:Int))) (fun bi=> ?_) (fun bi=> ?_)
    ·replace aj:=RT bi aj
     try simp only[Ov,yB] at aj
     obtain⟨⟨af,ae⟩,cy,aj⟩:=aj
     have fr:l1219.getD i1232.toNat (0,0)=(af,ae):=ixs cy _
     have i7:=(Nr cy).1
     replace F:=fc fr F
     try simp only[Ov,yB] at aj
     obtain⟨⟨ai,ah⟩,gi,aj⟩:=aj
     replace F:=fc gi F
     try simp only[Ov,yB] at aj
     obtain⟨g8,dc,fv,gz,im,fy,ii,ig,ie,fx,ic,ib,g9,aj⟩:=aj
     simp only[I64] at g8
     simp only[I64] at dc
     simp only[I64] at fv
     simp only[I64] at gz
     simp only[I64] at im
     simp only[I64] at fy
     simp only[I64] at ii
     simp only[I64] at ig
     simp only[I64] at ie
     simp only[I64] at fx
     simp only[I64] at ic
     simp only[I64] at ib
     simp only[I64] at g9
     refine go hS F ?_
     exact Fb (n,be+((af+ai)*((af*ah)-(ae*ai))),bb+((ae+ah)*((af*ah)-(ae*ai))),i1232+1,ei+1+1+1+1+1+1) aj (Nat.lt_succ_self _) (leF F)
    ·replace aj:=RU bi aj
     refine go hS F ?_
     exact RW (be,bb,ei+1) (yJ aj) (leF F)
  ·rintro⟨dq,de,jb⟩ iq
   subst iq
   try simp only at h
   obtain rfl:=yJ h
   refine go hS F ?_
   exact fin F
end
def s47 (N:Nat):Bt
 |[.sl ez _ l1219 _]=>some (((ez=2∨l1219=[])∧l1219=(l1219.map R8).map R9)∧(TF N (l1219.map R8)).isSome=true,.tup [.i (((TF N (l1219.map R8)).getD (0,0)).1),.i (((TF N (l1219.map R8)).getD (0,0)).2)])
 |_=>none
theorem fE (N:Nat):FOK Tryz.prog 47 (s47 N):=⟨gY,by
 intro args vc r h hv
 unfold s47 at h
 split at h
 ·cases h
  obtain⟨⟨il,ip⟩,hs⟩:=hv
  obtain⟨r,hr⟩:=yX hs
  have hk:=UM N _ r hr
  simp only[hr,Option.getD_some]
  refine PCall.arg ?_ hk
  simp only[wkL,wk,and_true,true_and,yF,false_implies,implies_true]
  repeat' (first|exact yT|assumption|apply And.intro)
 ·simp at h⟩
def Ub (N:Nat) (l1247:List (Int×Int)) (ab:Int) (aa:Int):Nat→Int→(List (Int×Int))→Option ((List (Int×Int)))
 |0,_,_=>none
 |n+1,i1262,l1263=>
  bif decide (i1262<(l1247.length:Int)) then(
   (nth l1247 i1262).bind fun(bm,bj)=>
   gd (I64 (bm+ab))<|
   gd (I64 (bj+aa))<|
   gd ((l1263.length+1)*16≤140737488355328)<|
   gd (I64 (i1262+1))<|
   Ub N l1247 ab aa n (i1262+1) (l1263++[(bm+ab,bj+aa)]))
  else(
   some l1263)
def Uc (N:Nat) (l1247:List (Int×Int)) (ab:Int) (aa:Int):Option ((List (Int×Int))×Int):=
 (Sa N l1247).bind fun ce=>
 bif ((((!ce)||(decide (ab<(-40))))||(decide (40<ab)))||(decide (aa<(-40))))||(decide (40<aa)) then(
  some ([],70))
 else(
  (Ub N l1247 ab aa N 0 []).bind fun ck=>
  (Sa N ck).bind fun ca=>
  bif !ca then(
   some ([],70))
  else(
   some (ck,0)))
def T55 (N:Nat):List (Nat×Bt):=[(41,s41 N)]
theorem Xu (N:Nat):TabOK Tryz.prog (CC (T55 N)):=EC (Vp N) (BW)
section
attribute [local go_sem] T55 s41
theorem Vd (N:Nat) (l1247:List (Int×Int)) (ab:Int) (aa:Int) (r:(List (Int×Int))×Int) (h:Uc N l1247 ab aa=some r):PCall Tryz.prog 55 [.sl 2 false (l1247.map R9) [.i 0,.i 0],.i ab,.i aa] (.tup [.sl 2 false (r.1.map R9) [.i 0,.i 0],.i r.2]):=by
 refine Jw (Xu N) _ Tryz.func55 iN iO (by simp) fun _=> ?_
 have hS:=Xu N
 have F:=f0
 unfold Zc Zd
 unfold Uc at h
 try simp only[Ov,yB] at h
 obtain⟨ce,gh,h⟩:=h
 replace F:=fc gh F
 refine go hS F ?_
 refine cb F (((((!ce)||(decide (ab<(-40))))||(decide (40<ab)))||(decide (aa<(-40))))||(decide (40<aa))) (fun c8=> ?_) (fun c8=> ?_)
 ·replace h:=RT c8 h
  obtain rfl:=yJ h
  refine go hS F ?_
  exact fin F
 ·replace h:=RU c8 h
  refine go hS F ?_
  refine Kh 1000001 8 2 [.i 0,.i 0] (by show(8:Nat)<57;omega) (by omega) (by simp only[go_sem,seval,F]<;>eq_refl) ?_
  try simp only[Ov,yB] at h
  obtain⟨dw,ij,h⟩:=h
  refine go hS F ?_
  refine Rx (fun z:(List (Int×Int))×Nat=>⟨[(8,.own (1000001,5) z.1.length)],[(.a (1000001,5),.sl 2 true (z.1.map R9) [.i 0,.i 0])],z.2⟩) (fun z=>(z.1:(List (Int×Int)))=dw) (.x 0) ?_ ?_
  ·refine Ez (fun y:Nat×Int×(List (Int×Int))×Nat=>⟨[(0,.sl 2 false (l1247.map R9) [.i 0,.i 0]),(1,.i ab),(2,.i aa),(8,.own (1000001,5) y.2.2.1.length),(9,.i y.2.1)],[(.a (1000001,5),.sl 2 true (y.2.2.1.map R9) [.i 0,.i 0])],y.2.2.2⟩) (fun y=>Ub N l1247 ab aa y.1 y.2.1 y.2.2.1=some dw) (fun y=>y.1) (N,0,[],5) ij ?_ ?_
   ·exact leF F
   ·rintro⟨n,i1262,l1263,eh⟩ aj
    try simp only at aj
    obtain _|n:=n
    ·exact absurd aj (by simp[Ub])
    rw[Ub] at aj
    refine go hS F ?_
    refine cb F (decide (i1262<(l1247.length:Int))) (fun bi=> ?_) (fun bi=> ?_)
    ·replace aj:=RT bi aj
     try simp only[Ov,yB] at aj
     obtain⟨⟨bm,bj⟩,cu,aj⟩:=aj
     have fq:l1247.getD i1262.toNat (0,0)=(bm,bj):=ixs cu _
     have i6:=(Nr cu).1
     replace F:=fc fq F
     try simp only[Ov,yB] at aj
     obtain⟨g8,dc,fv,gz,aj⟩:=aj
     simp only[I64] at g8
     simp only[I64] at dc
     simp only[I64] at gz
     refine go hS F ?_
     exact Fb (n,i1262+1,l1263++[(bm+ab,bj+aa)],eh+1+1+1) aj (Nat.lt_succ_self _) (leF F)
    ·replace aj:=RU bi aj
     refine go hS F ?_
     exact RW (l1263,eh+1) (yJ aj) (leF F)
  ·rintro⟨ck,ja⟩ je
   subst je
   try simp only at h
   try simp only[Ov,yB] at h
   obtain⟨ca,gg,h⟩:=h
   replace F:=fc gg F
   refine go hS F ?_
   refine cb F (!ca) (fun gx=> ?_) (fun gx=> ?_)
   ·replace h:=RT gx h
    obtain rfl:=yJ h
    refine go hS F ?_
    exact fin F
   ·replace h:=RU gx h
    obtain rfl:=yJ h
    refine go hS F ?_
    exact fin F
end
def s55 (N:Nat):Bt
 |[.sl eu _ l1247 _,.v (.int .i64 ab),.v (.int .i64 aa)]=>some (((eu=2∨l1247=[])∧l1247=(l1247.map R8).map R9)∧(Uc N (l1247.map R8) ab aa).isSome=true,.tup [.sl 2 false ((((Uc N (l1247.map R8) ab aa).getD ([],0)).1).map R9) [.i 0,.i 0],.i (((Uc N (l1247.map R8) ab aa).getD ([],0)).2)])
 |_=>none
theorem fF (N:Nat):FOK Tryz.prog 55 (s55 N):=⟨iP,by
 intro args vc r h hv
 unfold s55 at h
 split at h
 ·cases h
  obtain⟨⟨il,ip⟩,hs⟩:=hv
  obtain⟨r,hr⟩:=yX hs
  have hk:=Vd N _ _ _ r hr
  simp only[hr,Option.getD_some]
  refine PCall.arg ?_ hk
  simp only[wkL,wk,and_true,true_and,yF,false_implies,implies_true]
  repeat' (first|exact yT|assumption|apply And.intro)
 ·simp at h⟩
def Uo (N:Nat) (l1275:List (Int×Int)) (an:Int) (aq:Int) (au:Int):Option (List (Int×Int)):=
 gd ((l1275.length)*16≤140737488355328)<|
 bif decide ((l1275.length:Int)=0) then(
  some [(aq,aq)])
 else(
  (Si N au (l1275.length:Int)).bind fun r1279=>
  (Si N an 5).bind fun aw=>
  bif decide (aw=0) then(
   (nth l1275 r1279).bind fun(dp,bz)=>
   some (l1275.set r1279.toNat (aq,bz)))
  else(
   bif decide (aw=1) then(
    (nth l1275 r1279).bind fun(bw,dm)=>
    some (l1275.set r1279.toNat (bw,aq)))
   else(
    bif decide (aw=2) then(
     gd (I64 (r1279+1))<|
     gd ((l1275.length:Int)≠0)<|
     (nth l1275 ((r1279+1).tmod (l1275.length:Int))).bind fun(bv,bu)=>
     (nth l1275 r1279).bind fun(dh,dg)=>
     some (l1275.set r1279.toNat (bv,bu)))
    else(
     bif decide (aw=3) then(
      gd (0≤0∧0≤r1279∧r1279≤r1279∧r1279≤(l1275.length:Int))<|
      gd (I64 (r1279+1))<|
      gd (0≤r1279+1∧r1279+1≤(l1275.length:Int))<|
      gd (((l1275.take (r1279.toNat-0)).length+(l1275.drop (r1279+1).toNat).length)*16≤140737488355328)<|
      some (l1275.take (r1279.toNat-0)++(l1275.drop (r1279+1).toNat)))
     else(
      gd (0≤0∧0≤r1279∧r1279≤r1279∧r1279≤(l1275.length:Int))<|
      (Si N au 50).bind fun bp=>
      gd (I64 (bp-5))<|
      gd (0≤r1279∧r1279≤(l1275.length:Int))<|
      gd ((1+(l1275.drop r1279.toNat).length)*16≤140737488355328)<|
      gd (((l1275.take (r1279.toNat-0)).length+([(aq,bp-5)]++(l1275.drop r1279.toNat)).length)*16≤140737488355328)<|
      some (l1275.take (r1279.toNat-0)++([(aq,bp-5)]++(l1275.drop r1279.toNat))))))))
def T37 (N:Nat):List (Nat×Bt):=[(62,s62 N)]
theorem Xv (N:Nat):TabOK Tryz.prog (CC (T37 N)):=EC (WH N) (BW)
section
attribute [local go_sem] T37 s62
theorem Ve (N:Nat) (l1275:List (Int×Int)) (an:Int) (aq:Int) (au:Int) (r:List (Int×Int)) (h:Uo N l1275 an aq au=some r):PCall Tryz.prog 37 [.sl 2 false (l1275.map R9) [.i 0,.i 0],.i an,.i aq,.i au] (.sl 2 false (r.map R9) [.i 0,.i 0]):=by
 refine Jw (Xv N) _ Tryz.func37 gA gC (by simp) fun _=> ?_
 have hS:=Xv N
 have F:=f0
 unfold YN YO
 unfold Uo at h
 try simp only[Ov,yB] at h
 obtain⟨jh,h⟩:=h
 refine go hS F ?_
 refine cb F (decide ((l1275.length:Int)=0)) (fun hc2=> ?_) (fun hc2=> ?_)
 ·replace h:=RT hc2 h
  obtain rfl:=yJ h
  refine go hS F ?_
  exact fin F
 ·replace h:=RU hc2 h
  try simp only[Ov,yB] at h
  obtain⟨r1279,gf,aw,ge,h⟩:=h
  replace F:=fc ge (fc gf F)
  refine go hS F ?_
  refine cb F (decide (aw=0)) (fun gw=> ?_) (fun gw=> ?_)
  ·replace h:=RT gw h
   try simp only[Ov,yB] at h
   obtain⟨⟨dp,bz⟩,cr,h⟩:=h
   have fo:l1275.getD r1279.toNat (0,0)=(dp,bz):=ixs cr _
   have iz:=(Nr cr).1
   replace F:=fc fo F
   obtain rfl:=yJ h
   refine go hS F ?_
   exact fin F
  ·replace h:=RU gw h
   refine go hS F ?_
   refine cb F (decide (aw=1)) (fun bi=> ?_) (fun bi=> ?_)
   ·replace h:=RT bi h
    try simp only[Ov,yB] at h
    obtain⟨⟨bw,dm⟩,cq,h⟩:=h
    have fm:l1275.getD r1279.toNat (0,0)=(bw,dm):=ixs cq _
    have iy:=(Nr cq).1
    replace F:=fc fm F
    obtain rfl:=yJ h
    refine go hS F ?_
    exact fin F
   ·replace h:=RU bi h
    refine go hS F ?_
    refine cb F (decide (aw=2)) (fun gv=> ?_) (fun gv=> ?_)
    ·replace h:=RT gv h
     try simp only[Ov,yB] at h
     obtain⟨dc,fv,⟨bv,bu⟩,co,h⟩:=h
     simp only[I64] at dc
     have fj:l1275.getD ((r1279+1).tmod (l1275.length:Int)).toNat (0,0)=(bv,bu):=ixs co _
     have iw:=(Nr co).1
     replace F:=fc fj F
     try simp only[Ov,yB] at h
     obtain⟨⟨dh,dg⟩,cn,h⟩:=h
     have fh:l1275.getD r1279.toNat (0,0)=(dh,dg):=ixs cn _
     have iv:=(Nr cn).1
     replace F:=fc fh F
     obtain rfl:=yJ h
     refine go hS F ?_
     exact fin F
    ·replace h:=RU gv h
     refine go hS F ?_
     refine cb F (decide (aw=3)) (fun iu=> ?_) (fun iu=> ?_)
     ·replace h:=RT iu h
      refine go hS F ?_
      refine Ra 9 (by show(9:Nat)<81;omega) (by simp only[go_sem,seval,F]<;>eq_refl) (by simp only[go_sem,seval,F]<;>eq_refl) (by simp) ?_
      try simp only[Ov,yB] at h
      obtain⟨im,fy,ii,ig,h⟩:=h
      simp only[I64] at fy
      obtain rfl:=yJ h
      refine go hS F ?_
      exact fin F
     ·replace h:=RU iu h
      refine go hS F ?_
      refine Ra 9 (by show(9:Nat)<81;omega) (by simp only[go_sem,seval,F]<;>eq_refl) (by simp only[go_sem,seval,F]<;>eq_refl) (by simp) ?_
      try simp only[Ov,yB] at h
      obtain⟨ie,bp,gc,fx,ic,ib,g9,h⟩:=h
      simp only[I64] at fx
      replace F:=fc gc F
      obtain rfl:=yJ h
      refine go hS F ?_
      exact fin F
end
def s37 (N:Nat):Bt
 |[.sl em _ l1275 _,.v (.int .i64 an),.v (.int .i64 aq),.v (.int .i64 au)]=>some (((em=2∨l1275=[])∧l1275=(l1275.map R8).map R9)∧(Uo N (l1275.map R8) an aq au).isSome=true,.sl 2 false (((Uo N (l1275.map R8) an aq au).getD []).map R9) [.i 0,.i 0])
 |_=>none
theorem fG (N:Nat):FOK Tryz.prog 37 (s37 N):=⟨gE,by
 intro args vc r h hv
 unfold s37 at h
 split at h
 ·cases h
  obtain⟨⟨il,ip⟩,hs⟩:=hv
  obtain⟨r,hr⟩:=yX hs
  have hk:=Ve N _ _ _ _ r hr
  simp only[hr,Option.getD_some]
  refine PCall.arg ?_ hk
  simp only[wkL,wk,and_true,true_and,yF,false_implies,implies_true]
  repeat' (first|exact yT|assumption|apply And.intro)
 ·simp at h⟩
end Go.Proofs.YtdabfcbelkjmgaaGreatDoor.Am
