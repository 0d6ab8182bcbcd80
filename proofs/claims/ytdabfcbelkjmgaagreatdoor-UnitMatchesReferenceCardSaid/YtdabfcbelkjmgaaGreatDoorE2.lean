import Derived.Test.YtdabfcbelkjmgaaGreatDoorD2
import Derived.Test.YtdabfcbelkjmgaaGreatDoorAc2
namespace Go.Proofs.YtdabfcbelkjmgaaGreatDoor.Am
open Go
attribute [local irreducible] awp Ed Df Dr Ee Bz B8 Dg DM itK
set_option maxRecDepth 100000
set_option maxHeartbeats 8000000
set_option linter.unusedSimpArgs false
set_option linter.unusedVariables false
def SI (N:Nat) (c1072:Int) (aw:Int):Option Int:=
 bif decide (c1072<0) then(
  gd (I64 (c1072+1))<|
  gd (I64 (-(c1072+1)))<|
  gd (aw≠0)<|
  some ((-(c1072+1)).tmod aw))
 else(
  gd (aw≠0)<|
  some (c1072.tmod aw))
def T36 (N:Nat):List (Nat×Bt):=[]
theorem XI (N:Nat):TabOK Tryz.prog (CC (T36 N)):=BW
attribute [local go_sem] RX Qr Qs List.set_cons_succ List.isEmpty_map List.map_append List.map_eq_nil_iff ne_eq List.length_replicate RG RH List.length_set Option.isSome_some
section
attribute [local go_sem] T36
theorem Vf (N:Nat) (c1072:Int) (aw:Int) (r:Int) (h:SI N c1072 aw=some r):PCall Tryz.prog 36 [.i c1072,.i aw] (.i r):=by
 refine Jw (XI N) _ Tryz.func36 oF oG (by simp) fun _=> ?_
 have hS:=XI N
 have F:=f0
 unfold bR bT
 unfold SI at h
 refine go hS F ?_
 refine cb F (decide (c1072<0)) (fun ce=> ?_) (fun ce=> ?_)
 ·replace h:=RT ce h
  try simp only[Ov,yB] at h
  obtain⟨ez,fg,fj,h⟩:=h
  simp only[I64] at ez
  simp only[I64] at fg
  obtain rfl:=yJ h
  refine go hS F ?_
  exact fin F
 ·replace h:=RU ce h
  try simp only[Ov,yB] at h
  obtain⟨fh,h⟩:=h
  obtain rfl:=yJ h
  refine go hS F ?_
  exact fin F
end
def s36 (N:Nat):Bt
 |[.v (.int .i64 c1072),.v (.int .i64 aw)]=>some ((SI N c1072 aw).isSome=true,.i ((SI N c1072 aw).getD 0))
 |_=>none
theorem Yy (N:Nat):FOK Tryz.prog 36 (s36 N):=⟨oH,by
 intro args vc r h hv
 unfold s36 at h
 split at h
 ·cases h
  have hs:=hv
  obtain⟨r,hr⟩:=yX hs
  have hk:=Vf N _ _ r hr
  simp only[hr,Option.getD_some]
  refine PCall.arg ?_ hk
  simp only[wkL,wk,and_true,true_and,yF,false_implies,implies_true]
  try trivial
 ·simp at h⟩
def SL (N:Nat) (ak:Int) (shape1075:List (Int×Int)) (au:Int) (aq:Int) (an:Int) (am:Int):Option (Int×Int×Int×(List (Int×Int))×Int×Int):=
 (SI N ak 100).bind fun dg=>
 (SI N au 8).bind fun b7=>
 gd (I64 (1+b7))<|
 (SI N aq 8).bind fun de=>
 gd ((shape1075.length)*16≤140737488355328)<|
 (SI N an 8).bind fun bn=>
 gd (I64 (bn+1))<|
 gd (I64 (8-bn))<|
 (SI N am (8-bn)).bind fun bz=>
 gd (I64 ((bn+1)+bz))<|
 some (dg,1+b7,de,shape1075,bn,(bn+1)+bz)
def T35 (N:Nat):List (Nat×Bt):=[(36,s36 N)]
theorem XJ (N:Nat):TabOK Tryz.prog (CC (T35 N)):=EC (Yy N) (BW)
section
attribute [local go_sem] T35 s36 R9 Sf Sg R8
theorem Vv (N:Nat) (ak:Int) (shape1075:List (Int×Int)) (au:Int) (aq:Int) (an:Int) (am:Int) (r:Int×Int×Int×(List (Int×Int))×Int×Int) (h:SL N ak shape1075 au aq an am=some r):PCall Tryz.prog 35 [.i ak,.sl 2 false (shape1075.map R9) [.i 0,.i 0],.agg [.i au,.i aq,.i an,.i am]] (.agg [.i r.1,.i r.2.1,.i r.2.2.1,.sl 2 false (r.2.2.2.1.map R9) [.i 0,.i 0],.i r.2.2.2.2.1,.i r.2.2.2.2.2]):=by
 refine Jw (XJ N) _ Tryz.func35 oC oD (by simp) fun _=> ?_
 have hS:=XJ N
 have F:=f0
 unfold bP bQ
 unfold SL at h
 try simp only[Ov,yB] at h
 obtain⟨dg,eu,b7,em,fm,de,ej,ez,bn,ei,fg,fj,bz,eh,fh,h⟩:=h
 simp only[I64] at fm
 simp only[I64] at fg
 simp only[I64] at fj
 simp only[I64] at fh
 replace F:=fc eh (fc ei (fc ej (fc em (fc eu F))))
 obtain rfl:=yJ h
 refine go hS F ?_
 exact fin F
end
def s35 (N:Nat):Bt
 |[.v (.int .i64 ak),.sl bp _ shape1075 _,.agg [.v (.int .i64 au),.v (.int .i64 aq),.v (.int .i64 an),.v (.int .i64 am)]]=>some (((bp=2∨shape1075=[])∧shape1075=(shape1075.map R8).map R9)∧(SL N ak (shape1075.map R8) au aq an am).isSome=true,.agg [.i (((SL N ak (shape1075.map R8) au aq an am).getD (0,0,0,[],0,0)).1),.i (((SL N ak (shape1075.map R8) au aq an am).getD (0,0,0,[],0,0)).2.1),.i (((SL N ak (shape1075.map R8) au aq an am).getD (0,0,0,[],0,0)).2.2.1),.sl 2 false ((((SL N ak (shape1075.map R8) au aq an am).getD (0,0,0,[],0,0)).2.2.2.1).map R9) [.i 0,.i 0],.i (((SL N ak (shape1075.map R8) au aq an am).getD (0,0,0,[],0,0)).2.2.2.2.1),.i (((SL N ak (shape1075.map R8) au aq an am).getD (0,0,0,[],0,0)).2.2.2.2.2)])
 |_=>none
theorem fH (N:Nat):FOK Tryz.prog 35 (s35 N):=⟨oE,by
 intro args vc r h hv
 unfold s35 at h
 split at h
 ·cases h
  obtain⟨⟨fu,fv⟩,hs⟩:=hv
  obtain⟨r,hr⟩:=yX hs
  have hk:=Vv N _ _ _ _ _ _ r hr
  simp only[hr,Option.getD_some]
  refine PCall.arg ?_ hk
  simp only[wkL,wk,and_true,true_and,yF,false_implies,implies_true]
  repeat' (first|exact yT|assumption|apply And.intro)
 ·simp at h⟩
def Sj (N:Nat) (x1090:List (Int×Int)) (y1091:List (Int×Int)) (aa:Int) (a1093:Int) (aj:Int) (ai:Int) (ah:Int) (b1097:Int) (af:Int) (ae:Int) (ab:Int):Option ((Int×Int×Int×(List (Int×Int))×Int×Int)×(Int×Int×Int×(List (Int×Int))×Int×Int)):=
 (To N x1090 y1091 aa).bind fun(dc,db)=>
 gd (I64 (a1093.tdiv 8))<|
 (SL N (a1093.tdiv 8) dc a1093 aj ai ah).bind fun(c8,c7,cz,cy,cu,cr)=>
 gd (I64 (b1097.tdiv 8))<|
 (SL N (b1097.tdiv 8) db b1097 af ae ab).bind fun(cq,co,cn,ck,cj,ci)=>
 some ((c8,c7,cz,cy,cu,cr),(cq,co,cn,ck,cj,ci))
def T5 (N:Nat):List (Nat×Bt):=[(34,s34 N),(35,s35 N)]
theorem Yz (N:Nat):TabOK Tryz.prog (CC (T5 N)):=EC (eH N) (EC (fH N) (BW))
section
attribute [local go_sem] T5 s34 s35 R9 Sf Sg R8
theorem Vg (N:Nat) (x1090:List (Int×Int)) (y1091:List (Int×Int)) (aa:Int) (a1093:Int) (aj:Int) (ai:Int) (ah:Int) (b1097:Int) (af:Int) (ae:Int) (ab:Int) (r:(Int×Int×Int×(List (Int×Int))×Int×Int)×(Int×Int×Int×(List (Int×Int))×Int×Int)) (h:Sj N x1090 y1091 aa a1093 aj ai ah b1097 af ae ab=some r):PCall Tryz.prog 5 [.sl 2 false (x1090.map R9) [.i 0,.i 0],.sl 2 false (y1091.map R9) [.i 0,.i 0],.i aa,.agg [.i a1093,.i aj,.i ai,.i ah],.agg [.i b1097,.i af,.i ae,.i ab]] (.tup [.agg [.i r.1.1,.i r.1.2.1,.i r.1.2.2.1,.sl 2 false (r.1.2.2.2.1.map R9) [.i 0,.i 0],.i r.1.2.2.2.2.1,.i r.1.2.2.2.2.2],.agg [.i r.2.1,.i r.2.2.1,.i r.2.2.2.1,.sl 2 false (r.2.2.2.2.1.map R9) [.i 0,.i 0],.i r.2.2.2.2.2.1,.i r.2.2.2.2.2.2]]):=by
 refine Jw (Yz N) _ Tryz.func5 ok5 nt5 (by simp) fun _=> ?_
 have hS:=Yz N
 have F:=f0
 unfold ac5 rv5
 unfold Sj at h
 try simp only[Ov,yB] at h
 obtain⟨⟨dc,db⟩,d9,h⟩:=h
 replace F:=fc d9 F
 try simp only[Ov,yB] at h
 obtain⟨fm,⟨c8,c7,cz,cy,cu,cr⟩,d8,h⟩:=h
 simp only[I64] at fm
 replace F:=fc d8 F
 try simp only[Ov,yB] at h
 obtain⟨ez,⟨cq,co,cn,ck,cj,ci⟩,dz,h⟩:=h
 simp only[I64] at ez
 replace F:=fc dz F
 obtain rfl:=yJ h
 refine go hS F ?_
 exact fin F
end
def s5 (N:Nat):Bt
 |[.sl dp _ x1090 _,.sl dm _ y1091 _,.v (.int .i64 aa),.agg [.v (.int .i64 a1093),.v (.int .i64 aj),.v (.int .i64 ai),.v (.int .i64 ah)],.agg [.v (.int .i64 b1097),.v (.int .i64 af),.v (.int .i64 ae),.v (.int .i64 ab)]]=>some (((dp=2∨x1090=[])∧x1090=(x1090.map R8).map R9)∧((dm=2∨y1091=[])∧y1091=(y1091.map R8).map R9)∧(Sj N (x1090.map R8) (y1091.map R8) aa a1093 aj ai ah b1097 af ae ab).isSome=true,.tup [.agg [.i ((((Sj N (x1090.map R8) (y1091.map R8) aa a1093 aj ai ah b1097 af ae ab).getD ((0,0,0,[],0,0),(0,0,0,[],0,0))).1).1),.i ((((Sj N (x1090.map R8) (y1091.map R8) aa a1093 aj ai ah b1097 af ae ab).getD ((0,0,0,[],0,0),(0,0,0,[],0,0))).1).2.1),.i ((((Sj N (x1090.map R8) (y1091.map R8) aa a1093 aj ai ah b1097 af ae ab).getD ((0,0,0,[],0,0),(0,0,0,[],0,0))).1).2.2.1),.sl 2 false (((((Sj N (x1090.map R8) (y1091.map R8) aa a1093 aj ai ah b1097 af ae ab).getD ((0,0,0,[],0,0),(0,0,0,[],0,0))).1).2.2.2.1).map R9) [.i 0,.i 0],.i ((((Sj N (x1090.map R8) (y1091.map R8) aa a1093 aj ai ah b1097 af ae ab).getD ((0,0,0,[],0,0),(0,0,0,[],0,0))).1).2.2.2.2.1),.i ((((Sj N (x1090.map R8) (y1091.map R8) aa a1093 aj ai ah b1097 af ae ab).getD ((0,0,0,[],0,0),(0,0,0,[],0,0))).1).2.2.2.2.2)],.agg [.i ((((Sj N (x1090.map R8) (y1091.map R8) aa a1093 aj ai ah b1097 af ae ab).getD ((0,0,0,[],0,0),(0,0,0,[],0,0))).2).1),.i ((((Sj N (x1090.map R8) (y1091.map R8) aa a1093 aj ai ah b1097 af ae ab).getD ((0,0,0,[],0,0),(0,0,0,[],0,0))).2).2.1),.i ((((Sj N (x1090.map R8) (y1091.map R8) aa a1093 aj ai ah b1097 af ae ab).getD ((0,0,0,[],0,0),(0,0,0,[],0,0))).2).2.2.1),.sl 2 false (((((Sj N (x1090.map R8) (y1091.map R8) aa a1093 aj ai ah b1097 af ae ab).getD ((0,0,0,[],0,0),(0,0,0,[],0,0))).2).2.2.2.1).map R9) [.i 0,.i 0],.i ((((Sj N (x1090.map R8) (y1091.map R8) aa a1093 aj ai ah b1097 af ae ab).getD ((0,0,0,[],0,0),(0,0,0,[],0,0))).2).2.2.2.2.1),.i ((((Sj N (x1090.map R8) (y1091.map R8) aa a1093 aj ai ah b1097 af ae ab).getD ((0,0,0,[],0,0),(0,0,0,[],0,0))).2).2.2.2.2.2)]])
 |_=>none
theorem qK (N:Nat):FOK Tryz.prog 5 (s5 N):=⟨of5,by
 intro args vc r h hv
 unfold s5 at h
 split at h
 ·cases h
  obtain⟨⟨fu,fv⟩,⟨gc,gf⟩,hs⟩:=hv
  obtain⟨r,hr⟩:=yX hs
  have hk:=Vg N _ _ _ _ _ _ _ _ _ _ _ r hr
  simp only[hr,Option.getD_some]
  refine PCall.arg ?_ hk
  simp only[wkL,wk,and_true,true_and,yF,false_implies,implies_true]
  repeat' (first|exact yT|assumption|apply And.intro)
 ·simp at h⟩
def Ue (N:Nat) (a1121:List (Int×Int)) (b1127:List (Int×Int)):Nat→Int→Option (Sum Unit Bool)
 |0,_=>none
 |n+1,i1138=>
  bif decide (i1138<(a1121.length:Int)) then(
   (nth a1121 i1138).bind fun(bv,bu)=>
   (nth b1127 i1138).bind fun(br,bq)=>
   bif !(decide (bv=br)&&decide (bu=bq)) then(
    some (.inr false))
   else(
    gd (I64 (i1138+1))<|
    Ue N a1121 b1127 n (i1138+1)))
  else(
   some (.inl ()))
def SC (N:Nat) (bm:Int) (bj:Int) (bi:Int) (a1121:List (Int×Int)) (bh:Int) (bg:Int) (be:Int) (bb:Int) (ba:Int) (b1127:List (Int×Int)) (az:Int) (ay:Int):Option Bool:=
 bif (((((decide (bm≠be))||(decide (bj≠bb)))||(decide (bi≠ba)))||(decide (bh≠az)))||(decide (bg≠ay)))||(decide ((a1121.length:Int)≠(b1127.length:Int))) then(
  some false)
 else(
  (Ue N a1121 b1127 N 0).bind fun bw=>match bw with
   | .inl ()=>(
    some true)
   | .inr fb=>(
    some fb))
def T26 (N:Nat):List (Nat×Bt):=[]
theorem XK (N:Nat):TabOK Tryz.prog (CC (T26 N)):=BW
section
attribute [local go_sem] T26 R9 Sf Sg R8
theorem Vh (N:Nat) (bm:Int) (bj:Int) (bi:Int) (a1121:List (Int×Int)) (bh:Int) (bg:Int) (be:Int) (bb:Int) (ba:Int) (b1127:List (Int×Int)) (az:Int) (ay:Int) (r:Bool) (h:SC N bm bj bi a1121 bh bg be bb ba b1127 az ay=some r):PCall Tryz.prog 26 [.agg [.i bm,.i bj,.i bi,.sl 2 false (a1121.map R9) [.i 0,.i 0],.i bh,.i bg],.agg [.i be,.i bb,.i ba,.sl 2 false (b1127.map R9) [.i 0,.i 0],.i az,.i ay]] (.b r):=by
 refine Jw (XK N) _ Tryz.func26 nQ nR (by simp) fun _=> ?_
 have hS:=XK N
 have F:=f0
 unfold bG bH
 unfold SC at h
 refine go hS F ?_
 refine cb F ((((((decide (bm≠be))||(decide (bj≠bb)))||(decide (bi≠ba)))||(decide (bh≠az)))||(decide (bg≠ay)))||(decide ((a1121.length:Int)≠(b1127.length:Int)))) (fun ce=> ?_) (fun ce=> ?_)
 ·replace h:=RT ce h
  obtain rfl:=yJ h
  refine go hS F ?_
  exact fin F
 ·replace h:=RU ce h
  try simp only[Ov,yB] at h
  obtain⟨bw,gg,h⟩:=h
  refine go hS F ?_
  refine Rx (fun z:Nat=>⟨[],[],z⟩) (fun z=>(.inl ():Sum Unit Bool)=bw) (.x 0) ?_ ?_
  ·refine Ez (fun y:Nat×Int×Nat=>⟨[(2,.box (0,1) 0),(3,.box (1,1) 0),(5,.i y.2.1)],[(.c (1,1) 0,.i be),(.c (1,1) 1,.i bb),(.c (1,1) 2,.i ba),(.c (1,1) 3,.sl 2 false (b1127.map R9) [.i 0,.i 0]),(.c (1,1) 4,.i az),(.c (1,1) 5,.i ay),(.c (0,1) 0,.i bm),(.c (0,1) 1,.i bj),(.c (0,1) 2,.i bi),(.c (0,1) 3,.sl 2 false (a1121.map R9) [.i 0,.i 0]),(.c (0,1) 4,.i bh),(.c (0,1) 5,.i bg)],y.2.2⟩) (fun y=>Ue N a1121 b1127 y.1 y.2.1=some bw) (fun y=>y.1) (N,0,3) gg ?_ ?_
   ·exact leF F
   ·rintro⟨n,i1138,dh⟩ bo
    try simp only at bo
    obtain _|n:=n
    ·exact absurd bo (by simp[Ue])
    rw[Ue] at bo
    refine go hS F ?_
    refine cb F (decide (i1138<(a1121.length:Int))) (fun fq=> ?_) (fun fq=> ?_)
    ·replace bo:=RT fq bo
     try simp only[Ov,yB] at bo
     obtain⟨⟨bv,bu⟩,ca,bo⟩:=bo
     have dw:a1121.getD i1138.toNat (0,0)=(bv,bu):=ixs ca _
     have ft:=(Nr ca).1
     replace F:=fc dw F
     try simp only[Ov,yB] at bo
     obtain⟨⟨br,bq⟩,b9,bo⟩:=bo
     have du:b1127.getD i1138.toNat (0,0)=(br,bq):=ixs b9 _
     have fr:=(Nr b9).1
     replace F:=fc du F
     refine go hS F ?_
     refine cb F (!(decide (bv=br)&&decide (bu=bq))) (fun fo=> ?_) (fun fo=> ?_)
     ·replace bo:=RT fo bo
      obtain rfl:=yJ bo
      try simp only at h
      obtain rfl:=yJ h
      refine go hS F ?_
      exact fin F
     ·replace bo:=RU fo bo
      try simp only[Ov,yB] at bo
      obtain⟨ge,bo⟩:=bo
      simp only[I64] at ge
      refine go hS F ?_
      exact Fb (n,i1138+1,dh+1+1+1) bo (Nat.lt_succ_self _) (leF F)
    ·replace bo:=RU fq bo
     refine go hS F ?_
     exact RW (dh+1) (yJ bo) (leF F)
  ·rintro fx fy
   subst fy
   try simp only at h
   obtain rfl:=yJ h
   refine go hS F ?_
   exact fin F
end
def s26 (N:Nat):Bt
 |[.agg [.v (.int .i64 bm),.v (.int .i64 bj),.v (.int .i64 bi),.sl dt _ a1121 _,.v (.int .i64 bh),.v (.int .i64 bg)],.agg [.v (.int .i64 be),.v (.int .i64 bb),.v (.int .i64 ba),.sl dq _ b1127 _,.v (.int .i64 az),.v (.int .i64 ay)]]=>some (((dt=2∨a1121=[])∧a1121=(a1121.map R8).map R9)∧((dq=2∨b1127=[])∧b1127=(b1127.map R8).map R9)∧(SC N bm bj bi (a1121.map R8) bh bg be bb ba (b1127.map R8) az ay).isSome=true,.b ((SC N bm bj bi (a1121.map R8) bh bg be bb ba (b1127.map R8) az ay).getD false))
 |_=>none
theorem YA (N:Nat):FOK Tryz.prog 26 (s26 N):=⟨nS,by
 intro args vc r h hv
 unfold s26 at h
 split at h
 ·cases h
  obtain⟨⟨fu,fv⟩,⟨gc,gf⟩,hs⟩:=hv
  obtain⟨r,hr⟩:=yX hs
  have hk:=Vh N _ _ _ _ _ _ _ _ _ _ _ _ r hr
  simp only[hr,Option.getD_some]
  refine PCall.arg ?_ hk
  simp only[wkL,wk,and_true,true_and,yF,false_implies,implies_true]
  repeat' (first|exact yT|assumption|apply And.intro)
 ·simp at h⟩
def S8 (N:Nat) (c1150:Int) (av:Int):Option Int:=
 bif decide (c1150<0) then(
  gd (I64 (c1150+1))<|
  gd (I64 (-(c1150+1)))<|
  gd (av≠0)<|
  some ((-(c1150+1)).tmod av))
 else(
  gd (av≠0)<|
  some (c1150.tmod av))
def T23 (N:Nat):List (Nat×Bt):=[]
theorem XL (N:Nat):TabOK Tryz.prog (CC (T23 N)):=BW
section
attribute [local go_sem] T23
theorem Vi (N:Nat) (c1150:Int) (av:Int) (r:Int) (h:S8 N c1150 av=some r):PCall Tryz.prog 23 [.i c1150,.i av] (.i r):=by
 refine Jw (XL N) _ Tryz.func23 nF nG (by simp) fun _=> ?_
 have hS:=XL N
 have F:=f0
 unfold bA bB
 unfold S8 at h
 refine go hS F ?_
 refine cb F (decide (c1150<0)) (fun ce=> ?_) (fun ce=> ?_)
 ·replace h:=RT ce h
  try simp only[Ov,yB] at h
  obtain⟨ez,fg,fj,h⟩:=h
  simp only[I64] at ez
  simp only[I64] at fg
  obtain rfl:=yJ h
  refine go hS F ?_
  exact fin F
 ·replace h:=RU ce h
  try simp only[Ov,yB] at h
  obtain⟨fh,h⟩:=h
  obtain rfl:=yJ h
  refine go hS F ?_
  exact fin F
end
def s23 (N:Nat):Bt
 |[.v (.int .i64 c1150),.v (.int .i64 av)]=>some ((S8 N c1150 av).isSome=true,.i ((S8 N c1150 av).getD 0))
 |_=>none
theorem fI (N:Nat):FOK Tryz.prog 23 (s23 N):=⟨nH,by
 intro args vc r h hv
 unfold s23 at h
 split at h
 ·cases h
  have hs:=hv
  obtain⟨r,hr⟩:=yX hs
  have hk:=Vi N _ _ r hr
  simp only[hr,Option.getD_some]
  refine PCall.arg ?_ hk
  simp only[wkL,wk,and_true,true_and,yF,false_implies,implies_true]
  try trivial
 ·simp at h⟩
def Se (N:Nat):Option ((Int×Int×Int×(List (Int×Int))×Int×Int)×(Int×Int×Int×(List (Int×Int))×Int×Int)):=
 some ((3,2,0,[(0,0),(4,0),(4,4),(0,4)],0,2),(5,3,3,[(4,2),(8,2),(8,6),(4,6)],1,4))
def T33 (N:Nat):List (Nat×Bt):=[]
theorem XM (N:Nat):TabOK Tryz.prog (CC (T33 N)):=BW
section
attribute [local go_sem] T33 R9 Sf Sg R8
theorem UI (N:Nat) (r:(Int×Int×Int×(List (Int×Int))×Int×Int)×(Int×Int×Int×(List (Int×Int))×Int×Int)) (h:Se N=some r):PCall Tryz.prog 33 [] (.tup [.agg [.i r.1.1,.i r.1.2.1,.i r.1.2.2.1,.sl 2 false (r.1.2.2.2.1.map R9) [.i 0,.i 0],.i r.1.2.2.2.2.1,.i r.1.2.2.2.2.2],.agg [.i r.2.1,.i r.2.2.1,.i r.2.2.2.1,.sl 2 false (r.2.2.2.2.1.map R9) [.i 0,.i 0],.i r.2.2.2.2.2.1,.i r.2.2.2.2.2.2]]):=by
 refine Jw (XM N) _ Tryz.func33 nZ oA (by simp) fun _=> ?_
 have hS:=XM N
 have F:=f0
 unfold bN bO
 unfold Se at h
 obtain rfl:=yJ h
 refine go hS F ?_
 exact fin F
end
def s33 (N:Nat):Bt
 |[]=>some ((Se N).isSome=true,.tup [.agg [.i ((((Se N).getD ((0,0,0,[],0,0),(0,0,0,[],0,0))).1).1),.i ((((Se N).getD ((0,0,0,[],0,0),(0,0,0,[],0,0))).1).2.1),.i ((((Se N).getD ((0,0,0,[],0,0),(0,0,0,[],0,0))).1).2.2.1),.sl 2 false (((((Se N).getD ((0,0,0,[],0,0),(0,0,0,[],0,0))).1).2.2.2.1).map R9) [.i 0,.i 0],.i ((((Se N).getD ((0,0,0,[],0,0),(0,0,0,[],0,0))).1).2.2.2.2.1),.i ((((Se N).getD ((0,0,0,[],0,0),(0,0,0,[],0,0))).1).2.2.2.2.2)],.agg [.i ((((Se N).getD ((0,0,0,[],0,0),(0,0,0,[],0,0))).2).1),.i ((((Se N).getD ((0,0,0,[],0,0),(0,0,0,[],0,0))).2).2.1),.i ((((Se N).getD ((0,0,0,[],0,0),(0,0,0,[],0,0))).2).2.2.1),.sl 2 false (((((Se N).getD ((0,0,0,[],0,0),(0,0,0,[],0,0))).2).2.2.2.1).map R9) [.i 0,.i 0],.i ((((Se N).getD ((0,0,0,[],0,0),(0,0,0,[],0,0))).2).2.2.2.2.1),.i ((((Se N).getD ((0,0,0,[],0,0),(0,0,0,[],0,0))).2).2.2.2.2.2)]])
 |_=>none
theorem fJ (N:Nat):FOK Tryz.prog 33 (s33 N):=⟨oB,by
 intro args vc r h hv
 unfold s33 at h
 split at h
 ·cases h
  have hs:=hv
  obtain⟨r,hr⟩:=yX hs
  have hk:=UI N r hr
  simp only[hr,Option.getD_some]
  refine PCall.arg ?_ hk
  simp only[wkL,wk,and_true,true_and,yF,false_implies,implies_true]
  try trivial
 ·simp at h⟩
end Go.Proofs.YtdabfcbelkjmgaaGreatDoor.Am
