import Derived.Test.YtdabfcbelkjmgaaGreatDoorP3
namespace Go.Proofs.YtdabfcbelkjmgaaGreatDoor.Am
open Go
attribute [local irreducible] awp Ed Df Dr Ee Bz B8 Dg DM itK
set_option maxRecDepth 100000
set_option maxHeartbeats 8000000
set_option linter.unusedSimpArgs false
set_option linter.unusedVariables false
def Ss (N:Nat) (s539:List (Int×Int)):Nat→Int→Option (Sum Unit Int)
 |0,_=>none
 |n+1,x547=>
  bif decide (x547<(s539.length:Int)) then(
   (nth s539 x547).bind fun(fm,fj)=>
   (Us N fm fj).bind fun fy=>
   bif fy then(
    some (.inr x547))
   else(
    gd (I64 (x547+1))<|
    Ss N s539 n (x547+1)))
  else(
   some (.inl ()))
def Sz (N:Nat) (s539:List (Int×Int)):Option Int:=
 (Ss N s539 N 0).bind fun dt=>match dt with
  | .inl ()=>(
   some (-1))
  | .inr kl=>(
   some kl)
def Wt (N:Nat):List (Nat×Bt):=[(66,s66 N)]
theorem VZ (N:Nat):TabOK Tryz.prog (CC (Wt N)):=EC (eK N) (BW)
attribute [local go_sem] RX Qr Qs List.set_cons_succ List.isEmpty_map List.map_append List.map_eq_nil_iff ne_eq List.length_replicate RG RH List.length_set Option.isSome_some
section
attribute [local go_sem] Wt s66 R9 Sf Sg R8
theorem Uz (N:Nat) (s539:List (Int×Int)) (r:Int) (h:Sz N s539=some r):PCall Tryz.prog 84 [.sl 2 false (s539.map R9) [.i 0,.i 0],.clo (.func 66) [] []] (.i r):=by
 refine Jw (VZ N) _ Tryz.func84 ZQ ZR (by simp) fun _=> ?_
 have hS:=VZ N
 have F:=f0
 unfold X8 X9
 unfold Sz at h
 try simp only[Ov,yB] at h
 obtain⟨dt,li,h⟩:=h
 refine go hS F ?_
 refine Rx (fun z:Nat=>⟨[],[],z⟩) (fun z=>(.inl ():Sum Unit Int)=dt) (.x 0) ?_ ?_
 ·refine Ez (fun y:Nat×Int×Nat=>⟨[(0,.sl 2 false (s539.map R9) [.i 0,.i 0]),(1,.clo (.func 66) [] []),(7,.i (s539.length:Int)),(8,.i y.2.1)],[],y.2.2⟩) (fun y=>Ss N s539 y.1 y.2.1=some dt) (fun y=>y.1) (N,0,2) li ?_ ?_
  ·exact leF F
  ·rintro⟨n,x547,kd⟩ af
   try simp only at af
   obtain _|n:=n
   ·exact absurd af (by simp[Ss])
   rw[Ss] at af
   refine go hS F ?_
   refine cb F (decide (x547<(s539.length:Int))) (fun cr=> ?_) (fun cr=> ?_)
   ·replace af:=RT cr af
    try simp only[Ov,yB] at af
    obtain⟨⟨fm,fj⟩,eu,af⟩:=af
    have jj:s539.getD x547.toNat (0,0)=(fm,fj):=ixs eu _
    have mb:=(Nr eu).1
    replace F:=fc jj F
    try simp only[Ov,yB] at af
    obtain⟨fy,j6,af⟩:=af
    replace F:=fc j6 F
    refine go hS F ?_
    refine cb F (fy) (fun cq=> ?_) (fun cq=> ?_)
    ·replace af:=RT cq af
     obtain rfl:=yJ af
     try simp only at h
     obtain rfl:=yJ h
     refine go hS F ?_
     exact fin F
    ·replace af:=RU cq af
     try simp only[Ov,yB] at af
     obtain⟨kx,af⟩:=af
     simp only[I64] at kx
     refine go hS F ?_
     exact Fb (n,x547+1,kd+1+1+1+1) af (Nat.lt_succ_self _) (leF F)
   ·replace af:=RU cr af
    refine go hS F ?_
    exact RW (kd+1) (yJ af) (leF F)
 ·rintro my kq
  subst kq
  try simp only at h
  obtain rfl:=yJ h
  refine go hS F ?_
  exact fin F
end
def VC (N:Nat):Bt
 |[.sl gx _ s539 _,.clo (.func 66) [] []]=>some (((gx=2∨s539=[])∧s539=(s539.map R8).map R9)∧(Sz N (s539.map R8)).isSome=true,.i ((Sz N (s539.map R8)).getD 0))
 |_=>none
theorem Xb (N:Nat):FOK Tryz.prog 84 (VC N):=⟨ZS,by
 intro args vc r h hv
 unfold VC at h
 split at h
 ·cases h
  obtain⟨⟨cz,c7⟩,hs⟩:=hv
  obtain⟨r,hr⟩:=yX hs
  have hk:=Uz N _ r hr
  simp only[hr,Option.getD_some]
  refine PCall.arg ?_ hk
  simp only[wkL,wk,and_true,true_and,yF,false_implies,implies_true]
  repeat' (first|exact yT|assumption|apply And.intro)
 ·simp at h⟩
def Sb (N:Nat) (s558:List (Int×Int)):Option Bool:=
 (Sz N s558).bind fun i8=>
 some (decide (0≤i8))
def Wu (N:Nat):List (Nat×Bt):=[(84,VC N)]
theorem V0 (N:Nat):TabOK Tryz.prog (CC (Wu N)):=EC (Xb N) (BW)
section
attribute [local go_sem] Wu VC R9 Sf Sg R8
theorem Uw (N:Nat) (s558:List (Int×Int)) (r:Bool) (h:Sb N s558=some r):PCall Tryz.prog 65 [.sl 2 false (s558.map R9) [.i 0,.i 0],.clo (.func 66) [] []] (.b r):=by
 refine Jw (V0 N) _ Tryz.func65 Zk Zl (by simp) fun _=> ?_
 have hS:=V0 N
 have F:=f0
 unfold X4 X5
 unfold Sb at h
 try simp only[Ov,yB] at h
 obtain⟨i8,j5,h⟩:=h
 replace F:=fc j5 F
 obtain rfl:=yJ h
 refine go hS F ?_
 exact fin F
end
def UK (N:Nat):Bt
 |[.sl gw _ s558 _,.clo (.func 66) [] []]=>some (((gw=2∨s558=[])∧s558=(s558.map R8).map R9)∧(Sb N (s558.map R8)).isSome=true,.b ((Sb N (s558.map R8)).getD false))
 |_=>none
theorem Wg (N:Nat):FOK Tryz.prog 65 (UK N):=⟨Zm,by
 intro args vc r h hv
 unfold UK at h
 split at h
 ·cases h
  obtain⟨⟨cz,c7⟩,hs⟩:=hv
  obtain⟨r,hr⟩:=yX hs
  have hk:=Uw N _ r hr
  simp only[hr,Option.getD_some]
  refine PCall.arg ?_ hk
  simp only[wkL,wk,and_true,true_and,yF,false_implies,implies_true]
  repeat' (first|exact yT|assumption|apply And.intro)
 ·simp at h⟩
def Ur (N:Nat) (bv:Int) (bu:Int) (br:Int) (bq:Int) (bp:Int) (bo:Int):Option Bool:=
 (S0 N br bq bp bo bv bu).bind fun i7=>
 some (decide (0<i7))
def T98 (N:Nat):List (Nat×Bt):=[(67,s67 N)]
theorem Xc (N:Nat):TabOK Tryz.prog (CC (T98 N)):=EC (VX N) (BW)
section
attribute [local go_sem] T98 s67
theorem Vy (N:Nat) (bv:Int) (bu:Int) (br:Int) (bq:Int) (bp:Int) (bo:Int) (r:Bool) (h:Ur N bv bu br bq bp bo=some r):PCall Tryz.prog 98 [.agg [.i bv,.i bu],.ro [.i br,.i bq] 0,.ro [.i bp,.i bo] 0] (.b r):=by
 refine Jw (Xc N) _ Tryz.func98 lN lO (by simp) fun _=> ?_
 have hS:=Xc N
 have F:=f0
 unfold Z8 Z9
 unfold Ur at h
 try simp only[Ov,yB] at h
 obtain⟨i7,j4,h⟩:=h
 replace F:=fc j4 F
 obtain rfl:=yJ h
 refine go hS F ?_
 exact fin F
end
def s98 (N:Nat):Bt
 |[.agg [.v (.int .i64 bv),.v (.int .i64 bu)],.ro [.v (.int .i64 br),.v (.int .i64 bq)] 0,.ro [.v (.int .i64 bp),.v (.int .i64 bo)] 0]=>some ((Ur N bv bu br bq bp bo).isSome=true,.b ((Ur N bv bu br bq bp bo).getD false))
 |_=>none
theorem eS (N:Nat):FOK Tryz.prog 98 (s98 N):=⟨lR,by
 intro args vc r h hv
 unfold s98 at h
 split at h
 ·cases h
  have hs:=hv
  obtain⟨r,hr⟩:=yX hs
  have hk:=Vy N _ _ _ _ _ _ r hr
  simp only[hr,Option.getD_some]
  refine PCall.arg ?_ hk
  simp only[wkL,wk,and_true,true_and,yF,false_implies,implies_true]
  try trivial
 ·simp at h⟩
def Su (N:Nat) (s569:List (Int×Int)) (am:Int) (ak:Int) (aj:Int) (ai:Int):Nat→Int→Option (Sum Unit Int)
 |0,_=>none
 |n+1,x581=>
  bif decide (x581<(s569.length:Int)) then(
   (nth s569 x581).bind fun(fh,fg)=>
   (Ur N fh fg am ak aj ai).bind fun fx=>
   bif fx then(
    some (.inr x581))
   else(
    gd (I64 (x581+1))<|
    Su N s569 am ak aj ai n (x581+1)))
  else(
   some (.inl ()))
def SA (N:Nat) (s569:List (Int×Int)) (am:Int) (ak:Int) (aj:Int) (ai:Int):Option Int:=
 (Su N s569 am ak aj ai N 0).bind fun dq=>match dq with
  | .inl ()=>(
   some (-1))
  | .inr kj=>(
   some kj)
def Wv (N:Nat):List (Nat×Bt):=[(98,s98 N)]
theorem V1 (N:Nat):TabOK Tryz.prog (CC (Wv N)):=EC (eS N) (BW)
section
attribute [local go_sem] Wv s98 R9 Sf Sg R8
theorem UA (N:Nat) (s569:List (Int×Int)) (am:Int) (ak:Int) (aj:Int) (ai:Int) (r:Int) (h:SA N s569 am ak aj ai=some r):PCall Tryz.prog 84 [.sl 2 false (s569.map R9) [.i 0,.i 0],.clo (.func 98) [] [.ro [.i am,.i ak] 0,.ro [.i aj,.i ai] 0]] (.i r):=by
 refine Jw (V1 N) _ Tryz.func84 ZQ ZR (by simp) fun _=> ?_
 have hS:=V1 N
 have F:=f0
 unfold X8 X9
 unfold SA at h
 try simp only[Ov,yB] at h
 obtain⟨dq,li,h⟩:=h
 refine go hS F ?_
 refine Rx (fun z:Nat=>⟨[],[],z⟩) (fun z=>(.inl ():Sum Unit Int)=dq) (.x 0) ?_ ?_
 ·refine Ez (fun y:Nat×Int×Nat=>⟨[(0,.sl 2 false (s569.map R9) [.i 0,.i 0]),(1,.clo (.func 98) [] [.ro [.i am,.i ak] 0,.ro [.i aj,.i ai] 0]),(7,.i (s569.length:Int)),(8,.i y.2.1)],[],y.2.2⟩) (fun y=>Su N s569 am ak aj ai y.1 y.2.1=some dq) (fun y=>y.1) (N,0,2) li ?_ ?_
  ·exact leF F
  ·rintro⟨n,x581,kc⟩ af
   try simp only at af
   obtain _|n:=n
   ·exact absurd af (by simp[Su])
   rw[Su] at af
   refine go hS F ?_
   refine cb F (decide (x581<(s569.length:Int))) (fun cr=> ?_) (fun cr=> ?_)
   ·replace af:=RT cr af
    try simp only[Ov,yB] at af
    obtain⟨⟨fh,fg⟩,em,af⟩:=af
    have ji:s569.getD x581.toNat (0,0)=(fh,fg):=ixs em _
    have ma:=(Nr em).1
    replace F:=fc ji F
    try simp only[Ov,yB] at af
    obtain⟨fx,jz,af⟩:=af
    replace F:=fc jz F
    refine go hS F ?_
    refine cb F (fx) (fun cq=> ?_) (fun cq=> ?_)
    ·replace af:=RT cq af
     obtain rfl:=yJ af
     try simp only at h
     obtain rfl:=yJ h
     refine go hS F ?_
     exact fin F
    ·replace af:=RU cq af
     try simp only[Ov,yB] at af
     obtain⟨kx,af⟩:=af
     simp only[I64] at kx
     refine go hS F ?_
     exact Fb (n,x581+1,kc+1+1+1+1) af (Nat.lt_succ_self _) (leF F)
   ·replace af:=RU cr af
    refine go hS F ?_
    exact RW (kc+1) (yJ af) (leF F)
 ·rintro mu kq
  subst kq
  try simp only at h
  obtain rfl:=yJ h
  refine go hS F ?_
  exact fin F
end
def VD (N:Nat):Bt
 |[.sl gv _ s569 _,.clo (.func 98) [] [.ro [.v (.int .i64 am),.v (.int .i64 ak)] 0,.ro [.v (.int .i64 aj),.v (.int .i64 ai)] 0]]=>some (((gv=2∨s569=[])∧s569=(s569.map R8).map R9)∧(SA N (s569.map R8) am ak aj ai).isSome=true,.i ((SA N (s569.map R8) am ak aj ai).getD 0))
 |_=>none
theorem Xd (N:Nat):FOK Tryz.prog 84 (VD N):=⟨ZS,by
 intro args vc r h hv
 unfold VD at h
 split at h
 ·cases h
  obtain⟨⟨cz,c7⟩,hs⟩:=hv
  obtain⟨r,hr⟩:=yX hs
  have hk:=UA N _ _ _ _ _ r hr
  simp only[hr,Option.getD_some]
  refine PCall.arg ?_ hk
  simp only[wkL,wk,and_true,true_and,yF,false_implies,implies_true]
  repeat' (first|exact yT|assumption|apply And.intro)
 ·simp at h⟩
def Sv (N:Nat) (s592:List (Int×Int)) (ca:Int) (b9:Int) (b7:Int) (bz:Int):Option Bool:=
 (SA N s592 ca b9 b7 bz).bind fun i6=>
 some (decide (0≤i6))
def Ww (N:Nat):List (Nat×Bt):=[(84,VD N)]
theorem V2 (N:Nat):TabOK Tryz.prog (CC (Ww N)):=EC (Xd N) (BW)
section
attribute [local go_sem] Ww VD R9 Sf Sg R8
theorem Ux (N:Nat) (s592:List (Int×Int)) (ca:Int) (b9:Int) (b7:Int) (bz:Int) (r:Bool) (h:Sv N s592 ca b9 b7 bz=some r):PCall Tryz.prog 65 [.sl 2 false (s592.map R9) [.i 0,.i 0],.clo (.func 98) [] [.ro [.i ca,.i b9] 0,.ro [.i b7,.i bz] 0]] (.b r):=by
 refine Jw (V2 N) _ Tryz.func65 Zk Zl (by simp) fun _=> ?_
 have hS:=V2 N
 have F:=f0
 unfold X4 X5
 unfold Sv at h
 try simp only[Ov,yB] at h
 obtain⟨i6,jy,h⟩:=h
 replace F:=fc jy F
 obtain rfl:=yJ h
 refine go hS F ?_
 exact fin F
end
def VE (N:Nat):Bt
 |[.sl gu _ s592 _,.clo (.func 98) [] [.ro [.v (.int .i64 ca),.v (.int .i64 b9)] 0,.ro [.v (.int .i64 b7),.v (.int .i64 bz)] 0]]=>some (((gu=2∨s592=[])∧s592=(s592.map R8).map R9)∧(Sv N (s592.map R8) ca b9 b7 bz).isSome=true,.b ((Sv N (s592.map R8) ca b9 b7 bz).getD false))
 |_=>none
theorem Xe (N:Nat):FOK Tryz.prog 65 (VE N):=⟨Zm,by
 intro args vc r h hv
 unfold VE at h
 split at h
 ·cases h
  obtain⟨⟨cz,c7⟩,hs⟩:=hv
  obtain⟨r,hr⟩:=yX hs
  have hk:=Ux N _ _ _ _ _ r hr
  simp only[hr,Option.getD_some]
  refine PCall.arg ?_ hk
  simp only[wkL,wk,and_true,true_and,yF,false_implies,implies_true]
  repeat' (first|exact yT|assumption|apply And.intro)
 ·simp at h⟩
def S3 (N:Nat) (l599:List (Int×Int)) (x616:Int) (au:Int) (aq:Int):Nat→Int→Option (Sum Unit Bool)
 |0,_=>none
 |n+1,x625=>
  bif decide (x625<(l599.length:Int)) then(
   (nth l599 x625).bind fun(ck,cj)=>
   gd (((decide (x625≠x616))&&(decide (x625≠(x616+1).tmod (l599.length:Int))))=true→(0≤(x616+1).tmod (l599.length:Int)∧(x616+1).tmod (l599.length:Int)<(l599.length:Int)))<|
   gd (((decide (x625≠x616))&&(decide (x625≠(x616+1).tmod (l599.length:Int))))=true→((S0 N au aq ((l599.getD ((x616+1).tmod (l599.length:Int)).toNat (0,0)).1) ((l599.getD ((x616+1).tmod (l599.length:Int)).toNat (0,0)).2) ck cj).isSome=true))<|
   bif ((decide (x625≠x616))&&(decide (x625≠(x616+1).tmod (l599.length:Int))))&&(decide ((S0 N au aq ((l599.getD ((x616+1).tmod (l599.length:Int)).toNat (0,0)).1) ((l599.getD ((x616+1).tmod (l599.length:Int)).toNat (0,0)).2) ck cj).getD 0≤0)) then(
    some (.inr false))
   else(
    gd (I64 (x625+1))<|
    S3 N l599 x616 au aq n (x625+1)))
  else(
   some (.inl ()))
def Tb (N:Nat) (l599:List (Int×Int)):Nat→Int→Option (Sum Unit Bool)
 |0,_=>none
 |n+1,x616=>
  bif decide (x616<(l599.length:Int)) then(
   (nth l599 x616).bind fun(au,aq)=>
   gd (I64 (x616+1))<|
   gd ((l599.length:Int)≠0)<|
   (S3 N l599 x616 au aq N 0).bind fun dp=>match dp with
    | .inl ()=>(
     gd (I64 (x616+1))<|
     Tb N l599 n (x616+1))
    | .inr ki=>(
     some (.inr ki)))
  else(
   some (.inl ()))
def Sm (N:Nat) (l599:List (Int×Int)):Option Bool:=
 gd ((!((decide ((l599.length:Int)<3))||(decide (8<(l599.length:Int)))))=true→((Sb N l599).isSome=true))<|
 bif ((decide ((l599.length:Int)<3))||(decide (8<(l599.length:Int))))||((Sb N l599).getD false) then(
  some false)
 else(
  (Tb N l599 N 0).bind fun dm=>match dm with
   | .inl ()=>(
    some true)
   | .inr kh=>(
    some kh))
def T40 (N:Nat):List (Nat×Bt):=[(65,UK N),(67,s67 N)]
theorem Xf (N:Nat):TabOK Tryz.prog (CC (T40 N)):=EC (Wg N) (EC (VX N) (BW))
section
attribute [local go_sem] T40 UK s67 R9 Sf Sg R8
theorem VQ (N:Nat) (l599:List (Int×Int)) (r:Bool) (h:Sm N l599=some r):PCall Tryz.prog 40 [.sl 2 false (l599.map R9) [.i 0,.i 0]] (.b r):=by
 refine Jw (Xf N) _ Tryz.func40 gF gG (by simp) fun _=> ?_
 have hS:=Xf N
 have F:=f0
 unfold YP YQ
 unfold Sm at h
 try simp only[Ov,yB] at h
 obtain⟨lg,h⟩:=h
 refine go hS F ?_
 refine cb F (((decide ((l599.length:Int)<3))||(decide (8<(l599.length:Int))))||((Sb N l599).getD false)) (fun hc2=> ?_) (fun hc2=> ?_)
 ·replace h:=RT hc2 h
  obtain rfl:=yJ h
  refine go hS F ?_
  exact fin F
 ·replace h:=RU hc2 h
  try simp only[Ov,yB] at h
  obtain⟨dm,j8,h⟩:=h
  refine go hS F ?_
  refine Rx (fun z:Nat=>⟨[],[],z⟩) (fun z=>(.inl ():Sum Unit Bool)=dm) (.x 0) ?_ ?_
  ·refine Ez (fun y:Nat×Int×Nat=>⟨[(0,.sl 2 false (l599.map R9) [.i 0,.i 0]),(20,.sl 2 false (l599.map R9) [.i 0,.i 0]),(21,.i (l599.length:Int)),(22,.i y.2.1)],[],y.2.2⟩) (fun y=>Tb N l599 y.1 y.2.1=some dm) (fun y=>y.1) (N,0,3) j8 ?_ ?_
   ·exact leF F
   ·rintro⟨n,x616,cy⟩ ae
    try simp only at ae
    obtain _|n:=n
    ·exact absurd ae (by simp[Tb])
    rw[Tb] at ae
    refine go hS F ?_
    refine cb F (decide (x616<(l599.length:Int))) (fun lh=> ?_) (fun lh=> ?_)
    ·replace ae:=RT lh ae
     try simp only[Ov,yB] at ae
     obtain⟨⟨au,aq⟩,ej,ae⟩:=ae
     have jh:l599.getD x616.toNat (0,0)=(au,aq):=ixs ej _
     have l7:=(Nr ej).1
     replace F:=fc jh F
     try simp only[Ov,yB] at ae
     obtain⟨md,dw,ae⟩:=ae
     simp only[I64] at md
     try simp only[Ov,yB] at ae
     obtain⟨dp,me,ae⟩:=ae
     refine go hS F ?_
     refine Rx (fun z:Nat=>⟨[(0,.sl 2 false (l599.map R9) [.i 0,.i 0]),(20,.sl 2 false (l599.map R9) [.i 0,.i 0]),(21,.i (l599.length:Int)),(22,.i x616)],[],z⟩) (fun z=>(.inl ():Sum Unit Bool)=dp) (.x 2) ?_ ?_
     ·refine Ez (fun y:Nat×Int×Nat=>⟨[(0,.sl 2 false (l599.map R9) [.i 0,.i 0]),(3,.i x616),(4,.box (503,cy+1+1) 0),(5,.i ((x616+1).tmod (l599.length:Int))),(20,.sl 2 false (l599.map R9) [.i 0,.i 0]),(21,.i (l599.length:Int)),(22,.i x616),(32,.sl 2 false (l599.map R9) [.i 0,.i 0]),(33,.i (l599.length:Int)),(34,.i y.2.1)],[(.c (503,cy+1+1) 0,.i au),(.c (503,cy+1+1) 1,.i aq)],y.2.2⟩) (fun y=>S3 N l599 x616 au aq y.1 y.2.1=some dp) (fun y=>y.1) (N,0,cy+1+1+1+1) me ?_ ?_
      ·exact leF F
      ·rintro⟨n,x625,ka⟩ an
       try simp only at an
       obtain _|n:=n
       ·exact absurd an (by simp[S3])
       rw[S3] at an
       refine go hS F ?_
       refine cb F (decide (x625<(l599.length:Int))) (fun gj=> ?_) (fun gj=> ?_)
       ·replace an:=RT gj an
        try simp only[Ov,yB] at an
        obtain⟨⟨ck,cj⟩,ei,an⟩:=an
        have jg:l599.getD x625.toNat (0,0)=(ck,cj):=ixs ei _
        have l6:=(Nr ei).1
        replace F:=fc jg F
        try simp only[Ov,yB] at an
        obtain⟨jl,jk,an⟩:=an
        refine go hS F ?_
        refine cb F (((decide (x625≠x616))&&(decide (x625≠(x616+1).tmod (l599.length:Int))))&&(decide ((S0 N au aq ((l599.getD ((x616+1).tmod (l599.length:Int)).toNat (0,0)).1) ((l599.getD ((x616+1).tmod (l599.length:Int)).toNat (0,0)).2) ck cj).getD 0≤0))) (fun gh=> ?_) (fun gh=> ?_)
        ·replace an:=RT gh an
         obtain rfl:=yJ an
         try simp only at ae
         obtain rfl:=yJ ae
         try simp only at h
         obtain rfl:=yJ h
         refine go hS F ?_
         exact fin F
        ·replace an:=RU gh an
         try simp only[Ov,yB] at an
         obtain⟨gf,an⟩:=an
         simp only[I64] at gf
         refine go hS F ?_
         exact Fb (n,x625+1,ka+1+1+1+1) an (Nat.lt_succ_self _) (leF F)
       ·replace an:=RU gj an
        refine go hS F ?_
        exact RW (ka+1) (yJ an) (leF F)
     ·rintro lj ge
      subst ge
      try simp only at ae
      try simp only[Ov,yB] at ae
      obtain⟨k7,ae⟩:=ae
      simp only[I64] at k7
      refine go hS F ?_
      exact Fb (n,x616+1,lj+1) ae (Nat.lt_succ_self _) (leF F)
    ·replace ae:=RU lh ae
     refine go hS F ?_
     exact RW (cy+1) (yJ ae) (leF F)
  ·rintro mr kr
   subst kr
   try simp only at h
   obtain rfl:=yJ h
   refine go hS F ?_
   exact fin F
end
def s40 (N:Nat):Bt
 |[.sl ib _ l599 _]=>some (((ib=2∨l599=[])∧l599=(l599.map R8).map R9)∧(Sm N (l599.map R8)).isSome=true,.b ((Sm N (l599.map R8)).getD false))
 |_=>none
theorem Vs (N:Nat):FOK Tryz.prog 40 (s40 N):=⟨gH,by
 intro args vc r h hv
 unfold s40 at h
 split at h
 ·cases h
  obtain⟨⟨cz,c7⟩,hs⟩:=hv
  obtain⟨r,hr⟩:=yX hs
  have hk:=VQ N _ r hr
  simp only[hr,Option.getD_some]
  refine PCall.arg ?_ hk
  simp only[wkL,wk,and_true,true_and,yF,false_implies,implies_true]
  repeat' (first|exact yT|assumption|apply And.intro)
 ·simp at h⟩
def TI (N:Nat) (l639:List (Int×Int)):List ((Int×Int)×(Int×Int))→Int→Option Int
 |[],ah=>
  some ah
 |((iw,iv),(iu,ir))::ys,ah=>
  (nth l639 0).bind fun(fb,ez)=>
  (S0 N fb ez iw iv iu ir).bind fun dg=>
  gd (I64 (ah+dg))<|
  TI N l639 ys (ah+dg)
def Ut (N:Nat) (l639:List (Int×Int)):Option Int:=
 (Sm N l639).bind fun fv=>
 bif !fv then(
  some 0)
 else(
  gd (l639.length≤1000000000)<|
  (TI N l639 (AS l639) 0).bind fun cn=>
  some cn)
def T42 (N:Nat):List (Nat×Bt):=[(40,s40 N),(71,Mk),(67,s67 N)]
theorem Xg (N:Nat):TabOK Tryz.prog (CC (T42 N)):=EC (Vs N) (EC QU (EC (VX N) (BW)))
section
attribute [local go_sem] T42 s40 Mk s67 R9 Sf Sg R8
theorem VR (N:Nat) (l639:List (Int×Int)) (r:Int) (h:Ut N l639=some r):PCall Tryz.prog 42 [.sl 2 false (l639.map R9) [.i 0,.i 0]] (.i r):=by
 refine Jw (Xg N) _ Tryz.func42 gN gO (by simp) fun _=> ?_
 have hS:=Xg N
 have F:=f0
 unfold YT YU
 unfold Ut at h
 try simp only[Ov,yB] at h
 obtain⟨fv,jx,h⟩:=h
 replace F:=fc jx F
 refine go hS F ?_
 refine cb F (!fv) (fun cu=> ?_) (fun cu=> ?_)
 ·replace h:=RT cu h
  obtain rfl:=yJ h
  refine go hS F ?_
  exact fin F
 ·replace h:=RU cu h
  try simp only[Ov,yB] at h
  obtain⟨lr,h⟩:=h
  try simp only[Ov,yB] at h
  obtain⟨jb,j8,h⟩:=h
  refine go hS F ?_
  refine Rx (fun z:Int×Nat=>⟨[(3,.box (300,3) 0)],[(.c (300,3) 0,.i z.1)],z.2⟩) (fun z=>(z.1:Int)=jb) .n ?_ ?_
  ·refine Q3 (fun y:Nat×Int×Nat=>([(.c (300,3) 0,.i y.2.1),(.c (0,1) 0,.sl 2 false (l639.map R9) [.i 0,.i 0])],y.2.2)) (fun y=>TI N l639 ((AS l639).drop y.1) y.2.1=some jb∧y.1≤(AS l639).length) (fun y=>y.1) (0,0,4) (by simp only[go_sem,seval,F]<;>eq_refl) (Rj l639 false (by assumption)) Wo ⟨rfl,rfl⟩ (by simp) (by intro a ha;obtain⟨y,_,rfl⟩:=List.mem_map.1 ha;exact⟨rfl,rfl⟩) ⟨j8,Nat.zero_le _⟩ rfl ?_ ?_ ?_
   ·exact leF F
   ·rintro l ⟨n,ah,gt⟩ ⟨ae,hle⟩ args j7
    obtain⟨⟨⟨iw,iv⟩,⟨iu,ir⟩⟩,jc,rfl,hlt⟩:=OY j7
    rw[jc,TI] at ae
    try simp only at ae
    clear j7 jc
    simp only[edA,Dt]
    try simp only[Ov,yB] at ae
    obtain⟨⟨fb,ez⟩,eh,ae⟩:=ae
    have jf:l639.getD 0 (0,0)=(fb,ez):=ixs eh _
    have lz:=(Nr eh).1
    replace F:=fc jf F
    try simp only[Ov,yB] at ae
    obtain⟨dg,jw,dw,ae⟩:=ae
    simp only[I64] at dw
    replace F:=fc jw F
    refine go hS F ?_
    exact L0 (n+1,ah+dg,gt+1+1+1) ⟨ae,by omega⟩ rfl (leF F)
   ·rintro⟨n,ah,gt⟩ ⟨ae,hle⟩ hk
    rw[show n=_ from hk,Rk,TI] at ae
    try simp only at ae
    refine go hS F ?_
    exact RW (ah,gt) (yJ ae) (leF F)
  ·rintro⟨cn,mq⟩ km
   subst km
   try simp only at h
   obtain rfl:=yJ h
   refine go hS F ?_
   exact fin F
end
def s42 (N:Nat):Bt
 |[.sl g9 _ l639 _]=>some (((g9=2∨l639=[])∧l639=(l639.map R8).map R9)∧(Ut N (l639.map R8)).isSome=true,.i ((Ut N (l639.map R8)).getD 0))
 |_=>none
theorem eT (N:Nat):FOK Tryz.prog 42 (s42 N):=⟨gP,by
 intro args vc r h hv
 unfold s42 at h
 split at h
 ·cases h
  obtain⟨⟨cz,c7⟩,hs⟩:=hv
  obtain⟨r,hr⟩:=yX hs
  have hk:=VR N _ r hr
  simp only[hr,Option.getD_some]
  refine PCall.arg ?_ hk
  simp only[wkL,wk,and_true,true_and,yF,false_implies,implies_true]
  repeat' (first|exact yT|assumption|apply And.intro)
 ·simp at h⟩
def Tp (N:Nat) (l668:List (Int×Int)):List ((Int×Int)×(Int×Int))→Int→Int→Option (Int×Int)
 |[],bg,bi=>
  some (bg,bi)
 |((be,bb),(bm,bj))::ys,bg,bi=>
  (nth l668 0).bind fun(aw,av)=>
  (S0 N aw av be bb bm bj).bind fun ay=>
  gd (I64 (aw+be))<|
  gd (I64 ((aw+be)+bm))<|
  gd (I64 (ay*((aw+be)+bm)))<|
  gd (I64 (bi+(ay*((aw+be)+bm))))<|
  gd (I64 (av+bb))<|
  gd (I64 ((av+bb)+bj))<|
  gd (I64 (ay*((av+bb)+bj)))<|
  gd (I64 (bg+(ay*((av+bb)+bj))))<|
  Tp N l668 ys (bg+(ay*((av+bb)+bj))) (bi+(ay*((aw+be)+bm)))
def TW (N:Nat) (l668:List (Int×Int)):Option (Int×Int):=
 (Sm N l668).bind fun fu=>
 bif !fu then(
  some (0,0))
 else(
  gd (l668.length≤1000000000)<|
  (Tp N l668 (AS l668) 0 0).bind fun(iq,iy)=>
  some (iy,iq))
def T46 (N:Nat):List (Nat×Bt):=[(40,s40 N),(71,Mk),(67,s67 N)]
theorem Xh (N:Nat):TabOK Tryz.prog (CC (T46 N)):=EC (Vs N) (EC QU (EC (VX N) (BW)))
section
attribute [local go_sem] T46 s40 Mk s67 R9 Sf Sg R8
theorem Vz (N:Nat) (l668:List (Int×Int)) (r:Int×Int) (h:TW N l668=some r):PCall Tryz.prog 46 [.sl 2 false (l668.map R9) [.i 0,.i 0]] (.tup [.i r.1,.i r.2]):=by
 refine Jw (Xh N) _ Tryz.func46 gT gU (by simp) fun _=> ?_
 have hS:=Xh N
 have F:=f0
 unfold YX YY
 unfold TW at h
 try simp only[Ov,yB] at h
 obtain⟨fu,jv,h⟩:=h
 replace F:=fc jv F
 refine go hS F ?_
 refine cb F (!fu) (fun cu=> ?_) (fun cu=> ?_)
 ·replace h:=RT cu h
  obtain rfl:=yJ h
  refine go hS F ?_
  exact fin F
 ·replace h:=RU cu h
  try simp only[Ov,yB] at h
  obtain⟨lr,h⟩:=h
  try simp only[Ov,yB] at h
  obtain⟨ja,j8,h⟩:=h
  refine go hS F ?_
  refine Rx (fun z:Int×Int×Nat=>⟨[(2,.box (1,1) 0),(3,.box (2,1) 0)],[(.c (2,1) 0,.i z.1),(.c (1,1) 0,.i z.2.1)],z.2.2⟩) (fun z=>((z.1,z.2.1):Int×Int)=ja) .n ?_ ?_
  ·refine Q3 (fun y:Nat×Int×Int×Nat=>([(.c (2,1) 0,.i y.2.1),(.c (1,1) 0,.i y.2.2.1),(.c (0,1) 0,.sl 2 false (l668.map R9) [.i 0,.i 0])],y.2.2.2)) (fun y=>Tp N l668 ((AS l668).drop y.1) y.2.1 y.2.2.1=some ja∧y.1≤(AS l668).length) (fun y=>y.1) (0,0,0,3) (by simp only[go_sem,seval,F]<;>eq_refl) (Rj l668 false (by assumption)) Wo ⟨rfl,rfl⟩ (by simp) (by intro a ha;obtain⟨y,_,rfl⟩:=List.mem_map.1 ha;exact⟨rfl,rfl⟩) ⟨j8,Nat.zero_le _⟩ rfl ?_ ?_ ?_
   ·exact leF F
   ·rintro l ⟨n,bg,bi,gr⟩ ⟨ae,hle⟩ args j7
    obtain⟨⟨⟨be,bb⟩,⟨bm,bj⟩⟩,jc,rfl,hlt⟩:=OY j7
    rw[jc,Tp] at ae
    try simp only at ae
    clear j7 jc
    simp only[edA,Dt]
    try simp only[Ov,yB] at ae
    obtain⟨⟨aw,av⟩,d9,ae⟩:=ae
    have je:l668.getD 0 (0,0)=(aw,av):=ixs d9 _
    have ly:=(Nr d9).1
    replace F:=fc je F
    try simp only[Ov,yB] at ae
    obtain⟨ay,ju,dw,kw,kv,lf,jl,jk,k9,gf,ae⟩:=ae
    simp only[I64] at dw
    simp only[I64] at kw
    simp only[I64] at kv
    simp only[I64] at lf
    simp only[I64] at jl
    simp only[I64] at jk
    simp only[I64] at k9
    simp only[I64] at gf
    replace F:=fc ju F
    refine go hS F ?_
    exact L0 (n+1,bg+(ay*((av+bb)+bj)),bi+(ay*((aw+be)+bm)),gr+1+1+1+1+1) ⟨ae,by omega⟩ rfl (leF F)
   ·rintro⟨n,bg,bi,gr⟩ ⟨ae,hle⟩ hk
    rw[show n=_ from hk,Rk,Tp] at ae
    try simp only at ae
    refine go hS F ?_
    exact RW (bg,bi,gr) (yJ ae) (leF F)
  ·rintro⟨iq,iy,mo⟩ ge
   subst ge
   try simp only at h
   obtain rfl:=yJ h
   refine go hS F ?_
   exact fin F
end
def s46 (N:Nat):Bt
 |[.sl g8 _ l668 _]=>some (((g8=2∨l668=[])∧l668=(l668.map R8).map R9)∧(TW N (l668.map R8)).isSome=true,.tup [.i (((TW N (l668.map R8)).getD (0,0)).1),.i (((TW N (l668.map R8)).getD (0,0)).2)])
 |_=>none
theorem eU (N:Nat):FOK Tryz.prog 46 (s46 N):=⟨gV,by
 intro args vc r h hv
 unfold s46 at h
 split at h
 ·cases h
  obtain⟨⟨cz,c7⟩,hs⟩:=hv
  obtain⟨r,hr⟩:=yX hs
  have hk:=Vz N _ r hr
  simp only[hr,Option.getD_some]
  refine PCall.arg ?_ hk
  simp only[wkL,wk,and_true,true_and,yF,false_implies,implies_true]
  repeat' (first|exact yT|assumption|apply And.intro)
 ·simp at h⟩
def TJ (N:Nat) (other701:List (Int×Int)):List ((Int×Int)×(Int×Int))→Int→Option (Sum Unit Int)
 |[],bw=>
  some (.inl ())
 |((ip,im),(il,ij))::ys,bw=>
  (Sv N other701 ip im il ij).bind fun ft=>
  bif !ft then(
   some (.inr bw))
  else(
   gd (I64 (bw+1))<|
   TJ N other701 ys (bw+1))
def Uk (N:Nat) (l700:List (Int×Int)) (other701:List (Int×Int)):Option Int:=
 gd (l700.length≤1000000000)<|
 (TJ N other701 (AS l700) 0).bind fun dh=>match dh with
  | .inl ()=>(
   some (-1))
  | .inr kg=>(
   some kg)
def T91 (N:Nat):List (Nat×Bt):=[(71,Mk),(65,VE N)]
theorem Xi (N:Nat):TabOK Tryz.prog (CC (T91 N)):=EC QU (EC (Xe N) (BW))
section
attribute [local go_sem] T91 Mk VE R9 Sf Sg R8
theorem VS (N:Nat) (l700:List (Int×Int)) (other701:List (Int×Int)) (r:Int) (h:Uk N l700 other701=some r):PCall Tryz.prog 91 [.sl 2 false (l700.map R9) [.i 0,.i 0],.sl 2 false (other701.map R9) [.i 0,.i 0]] (.i r):=by
 refine Jw (Xi N) _ Tryz.func91 lC lD (by simp) fun _=> ?_
 have hS:=Xi N
 have F:=f0
 unfold Z2 Z3
 unfold Uk at h
 try simp only[Ov,yB] at h
 obtain⟨lg,h⟩:=h
 try simp only[Ov,yB] at h
 obtain⟨dh,mh,h⟩:=h
 refine go hS F ?_
 refine Rx (fun z:Nat=>⟨[(4,.box (1,1) 0)],[(.c (1,1) 0,.i 0)],z⟩) (fun z=>(.inl ():Sum Unit Int)=dh) .n ?_ ?_
 ·refine Q3 (fun y:Nat×Int×Nat=>([(.c (100,2) 0,.i y.2.1),(.c (1,1) 0,.i 0),(.c (0,1) 0,.sl 2 false (other701.map R9) [.i 0,.i 0])],y.2.2)) (fun y=>TJ N other701 ((AS l700).drop y.1) y.2.1=some dh∧y.1≤(AS l700).length) (fun y=>y.1) (0,0,3) (by simp only[go_sem,seval,F]<;>eq_refl) (Rj l700 false (by assumption)) Wo ⟨rfl,rfl⟩ (by simp) (by intro a ha;obtain⟨y,_,rfl⟩:=List.mem_map.1 ha;exact⟨rfl,rfl⟩) ⟨mh,Nat.zero_le _⟩ rfl ?_ ?_ ?_
  ·exact leF F
  ·rintro l ⟨n,bw,gm⟩ ⟨ba,hle⟩ args mc
   obtain⟨⟨⟨ip,im⟩,⟨il,ij⟩⟩,lm,rfl,hlt⟩:=OY mc
   rw[lm,TJ] at ba
   try simp only at ba
   clear mc lm
   simp only[edA,Dt]
   try simp only[Ov,yB] at ba
   obtain⟨ft,jt,ba⟩:=ba
   replace F:=fc jt F
   refine go hS F ?_
   refine cb F (!ft) (fun gg=> ?_) (fun gg=> ?_)
   ·replace ba:=RT gg ba
    obtain rfl:=yJ ba
    try simp only at h
    obtain rfl:=yJ h
    refine go hS F ?_
    exact fin F
   ·replace ba:=RU gg ba
    try simp only[Ov,yB] at ba
    obtain⟨dw,ba⟩:=ba
    simp only[I64] at dw
    refine go hS F ?_
    exact L0 (n+1,bw+1,gm+1+1+1+1+1) ⟨ba,by omega⟩ rfl (leF F)
  ·rintro⟨n,bw,gm⟩ ⟨ba,hle⟩ hk
   rw[show n=_ from hk,Rk,TJ] at ba
   try simp only at ba
   refine go hS F ?_
   exact RW (gm) (yJ ba) (leF F)
 ·rintro mj km
  subst km
  try simp only at h
  obtain rfl:=yJ h
  refine go hS F ?_
  exact fin F
end
def s91 (N:Nat):Bt
 |[.sl gz _ l700 _,.sl ce _ other701 _]=>some (((gz=2∨l700=[])∧l700=(l700.map R8).map R9)∧((ce=2∨other701=[])∧other701=(other701.map R8).map R9)∧(Uk N (l700.map R8) (other701.map R8)).isSome=true,.i ((Uk N (l700.map R8) (other701.map R8)).getD 0))
 |_=>none
theorem eV (N:Nat):FOK Tryz.prog 91 (s91 N):=⟨lE,by
 intro args vc r h hv
 unfold s91 at h
 split at h
 ·cases h
  obtain⟨⟨cz,c7⟩,⟨lq,lu⟩,hs⟩:=hv
  obtain⟨r,hr⟩:=yX hs
  have hk:=VS N _ _ r hr
  simp only[hr,Option.getD_some]
  refine PCall.arg ?_ hk
  simp only[wkL,wk,and_true,true_and,yF,false_implies,implies_true]
  repeat' (first|exact yT|assumption|apply And.intro)
 ·simp at h⟩
def Ug (N:Nat) (a722:List (Int×Int)) (b723:List (Int×Int)):Option (Int×Int×Bool):=
 (Sm N a722).bind fun de=>
 gd ((!(!de))=true→((Sm N b723).isSome=true))<|
 bif (!de)||(!((Sm N b723).getD false)) then(
  some (0,0,false))
 else(
  (Uk N a722 b723).bind fun dc=>
  bif decide (0≤dc) then(
   some (0,dc,true))
  else(
   (Uk N b723 a722).bind fun db=>
   bif decide (0≤db) then(
    some (1,db,true))
   else(
    some (0,0,false))))
def T75 (N:Nat):List (Nat×Bt):=[(40,s40 N),(91,s91 N)]
theorem Xj (N:Nat):TabOK Tryz.prog (CC (T75 N)):=EC (Vs N) (EC (eV N) (BW))
section
attribute [local go_sem] T75 s40 s91 R9 Sf Sg R8
theorem V3 (N:Nat) (a722:List (Int×Int)) (b723:List (Int×Int)) (r:Int×Int×Bool) (h:Ug N a722 b723=some r):PCall Tryz.prog 75 [.sl 2 false (a722.map R9) [.i 0,.i 0],.sl 2 false (b723.map R9) [.i 0,.i 0]] (.tup [.i r.1,.i r.2.1,.b r.2.2]):=by
 refine Jw (Xj N) _ Tryz.func75 kA kB (by simp) fun _=> ?_
 have hS:=Xj N
 have F:=f0
 unfold ZF ZG
 unfold Ug at h
 try simp only[Ov,yB] at h
 obtain⟨de,js,lg,h⟩:=h
 replace F:=fc js F
 refine go hS F ?_
 refine cb F ((!de)||(!((Sm N b723).getD false))) (fun hc2=> ?_) (fun hc2=> ?_)
 ·replace h:=RT hc2 h
  obtain rfl:=yJ h
  refine go hS F ?_
  exact fin F
 ·replace h:=RU hc2 h
  try simp only[Ov,yB] at h
  obtain⟨dc,jr,h⟩:=h
  replace F:=fc jr F
  refine go hS F ?_
  refine cb F (decide (0≤dc)) (fun cr=> ?_) (fun cr=> ?_)
  ·replace h:=RT cr h
   obtain rfl:=yJ h
   refine go hS F ?_
   exact fin F
  ·replace h:=RU cr h
   try simp only[Ov,yB] at h
   obtain⟨db,jq,h⟩:=h
   replace F:=fc jq F
   refine go hS F ?_
   refine cb F (decide (0≤db)) (fun cq=> ?_) (fun cq=> ?_)
   ·replace h:=RT cq h
    obtain rfl:=yJ h
    refine go hS F ?_
    exact fin F
   ·replace h:=RU cq h
    obtain rfl:=yJ h
    refine go hS F ?_
    exact fin F
end
def s75 (N:Nat):Bt
 |[.sl ii _ a722 _,.sl ie _ b723 _]=>some (((ii=2∨a722=[])∧a722=(a722.map R8).map R9)∧((ie=2∨b723=[])∧b723=(b723.map R8).map R9)∧(Ug N (a722.map R8) (b723.map R8)).isSome=true,.tup [.i (((Ug N (a722.map R8) (b723.map R8)).getD (0,0,false)).1),.i (((Ug N (a722.map R8) (b723.map R8)).getD (0,0,false)).2.1),.b (((Ug N (a722.map R8) (b723.map R8)).getD (0,0,false)).2.2)])
 |_=>none
theorem eW (N:Nat):FOK Tryz.prog 75 (s75 N):=⟨kC,by
 intro args vc r h hv
 unfold s75 at h
 split at h
 ·cases h
  obtain⟨⟨cz,c7⟩,⟨lq,lu⟩,hs⟩:=hv
  obtain⟨r,hr⟩:=yX hs
  have hk:=V3 N _ _ r hr
  simp only[hr,Option.getD_some]
  refine PCall.arg ?_ hk
  simp only[wkL,wk,and_true,true_and,yF,false_implies,implies_true]
  repeat' (first|exact yT|assumption|apply And.intro)
 ·simp at h⟩
def S6 (N:Nat) (a730:List (Int×Int)) (b731:List (Int×Int)):Option Bool:=
 (Ug N a730 b731).bind fun(kf,ke,iz)=>
 (Sm N a730).bind fun fr=>
 gd (fr=true→((Sm N b731).isSome=true))<|
 some ((fr&&((Sm N b731).getD false))&&(!iz))
def T52 (N:Nat):List (Nat×Bt):=[(75,s75 N),(40,s40 N)]
theorem Xk (N:Nat):TabOK Tryz.prog (CC (T52 N)):=EC (eW N) (EC (Vs N) (BW))
section
attribute [local go_sem] T52 s75 s40 R9 Sf Sg R8
theorem VA (N:Nat) (a730:List (Int×Int)) (b731:List (Int×Int)) (r:Bool) (h:S6 N a730 b731=some r):PCall Tryz.prog 52 [.sl 2 false (a730.map R9) [.i 0,.i 0],.sl 2 false (b731.map R9) [.i 0,.i 0]] (.b r):=by
 refine Jw (Xk N) _ Tryz.func52 iE iF (by simp) fun _=> ?_
 have hS:=Xk N
 have F:=f0
 unfold Y6 Y7
 unfold S6 at h
 try simp only[Ov,yB] at h
 obtain⟨⟨kf,ke,iz⟩,jp,h⟩:=h
 replace F:=fc jp F
 try simp only[Ov,yB] at h
 obtain⟨fr,jo,lg,h⟩:=h
 replace F:=fc jo F
 obtain rfl:=yJ h
 refine go hS F ?_
 exact fin F
end
def s52 (N:Nat):Bt
 |[.sl ig _ a730 _,.sl ic _ b731 _]=>some (((ig=2∨a730=[])∧a730=(a730.map R8).map R9)∧((ic=2∨b731=[])∧b731=(b731.map R8).map R9)∧(S6 N (a730.map R8) (b731.map R8)).isSome=true,.b ((S6 N (a730.map R8) (b731.map R8)).getD false))
 |_=>none
theorem Ym (N:Nat):FOK Tryz.prog 52 (s52 N):=⟨iG,by
 intro args vc r h hv
 unfold s52 at h
 split at h
 ·cases h
  obtain⟨⟨cz,c7⟩,⟨lq,lu⟩,hs⟩:=hv
  obtain⟨r,hr⟩:=yX hs
  have hk:=VA N _ _ r hr
  simp only[hr,Option.getD_some]
  refine PCall.arg ?_ hk
  simp only[wkL,wk,and_true,true_and,yF,false_implies,implies_true]
  repeat' (first|exact yT|assumption|apply And.intro)
 ·simp at h⟩
def Uh (N:Nat) (l738:List (Int×Int)) (aa:Int) (ab:Int):Nat→Int→(List (Int×Int))→Option ((List (Int×Int)))
 |0,_,_=>none
 |n+1,x751,l752=>
  bif decide (x751<(l738.length:Int)) then(
   (nth l752 x751).bind fun(bh,bn)=>
   gd (I64 (bh+aa))<|
   (nth (l752.set x751.toNat (bh+aa,bn)) x751).bind fun(c8,ci)=>
   gd (I64 (ci+ab))<|
   gd (I64 (x751+1))<|
   Uh N l738 aa ab n (x751+1) ((l752.set x751.toNat (bh+aa,bn)).set x751.toNat (c8,ci+ab)))
  else(
   some l752)
def Un (N:Nat) (l738:List (Int×Int)) (aa:Int) (ab:Int):Option ((List (Int×Int))×Int):=
 (Sm N l738).bind fun fq=>
 bif ((!fq)||(decide (40<max aa ab)))||(decide (min aa ab<(-40))) then(
  some ([],70))
 else(
  gd (l738≠[])<|
  gd ((l738.length)*16≤140737488355328)<|
  (Uh N l738 aa ab N 0 l738).bind fun gc=>
  (Sb N gc).bind fun fo=>
  bif fo then(
   some ([],70))
  else(
   some (gc,0)))
def T54 (N:Nat):List (Nat×Bt):=[(40,s40 N),(65,UK N)]
theorem Xl (N:Nat):TabOK Tryz.prog (CC (T54 N)):=EC (Vs N) (EC (Wg N) (BW))
section
attribute [local go_sem] T54 s40 UK R9 Sf Sg R8
theorem V4 (N:Nat) (l738:List (Int×Int)) (aa:Int) (ab:Int) (r:(List (Int×Int))×Int) (h:Un N l738 aa ab=some r):PCall Tryz.prog 54 [.sl 2 false (l738.map R9) [.i 0,.i 0],.i aa,.i ab] (.tup [.sl 2 false (r.1.map R9) [.i 0,.i 0],.i r.2]):=by
 refine Jw (Xl N) _ Tryz.func54 iK iL (by simp) fun _=> ?_
 have hS:=Xl N
 have F:=f0
 unfold Za Zb
 unfold Un at h
 try simp only[Ov,yB] at h
 obtain⟨fq,jn,h⟩:=h
 replace F:=fc jn F
 refine go hS F ?_
 refine cb F (((!fq)||(decide (40<max aa ab)))||(decide (min aa ab<(-40)))) (fun cu=> ?_) (fun cu=> ?_)
 ·replace h:=RT cu h
  obtain rfl:=yJ h
  refine go hS F ?_
  exact fin F
 ·replace h:=RU cu h
  refine go hS F ?_
  refine Np hS 1 Tryz.func77 kD kE kF rfl (by simp only[go_sem,seval,F]<;>eq_refl) (by simp only[go_sem,seval,F]<;>eq_refl) ?_ rfl (by simp only[go_sem,seval,F]<;>eq_refl) (by simp) fun hb=> ?_
  ·exact goc hS F
  unfold ZK ZL
  try simp only[Ov,yB] at h
  obtain⟨lr,h⟩:=h
  refine go hS F ?_
  refine cf F ?_
  try simp only[Ov,yB] at h
  obtain⟨mz,h⟩:=h
  try simp only[Ov,yB] at h
  obtain⟨i9,mg,h⟩:=h
  refine go hS F ?_
  refine Rx (fun z:(List (Int×Int))×Nat=>⟨[(8,.own (300,6) z.1.length)],[(.a (300,6),.sl 2 true (z.1.map R9) [.i 0,.i 0])],z.2⟩) (fun z=>(z.1:(List (Int×Int)))=i9) (.x 0) ?_ ?_
  ·refine Ez (fun y:Nat×Int×(List (Int×Int))×Nat=>⟨[(1,.i aa),(2,.i ab),(8,.own (300,6) y.2.2.1.length),(28,.i (l738.length:Int)),(29,.i y.2.1)],[(.a (300,6),.sl 2 true (y.2.2.1.map R9) [.i 0,.i 0])],y.2.2.2⟩) (fun y=>Uh N l738 aa ab y.1 y.2.1 y.2.2.1=some i9) (fun y=>y.1) (N,0,l738,8) mg ?_ ?_
   ·exact leF F
   ·rintro⟨n,x751,l752,j9⟩ az
    try simp only at az
    obtain _|n:=n
    ·exact absurd az (by simp[Uh])
    rw[Uh] at az
    refine go hS F ?_
    refine cb F (decide (x751<(l738.length:Int))) (fun gg=> ?_) (fun gg=> ?_)
    ·replace az:=RT gg az
     try simp only[Ov,yB] at az
     obtain⟨⟨bh,bn⟩,d8,az⟩:=az
     have jd:l752.getD x751.toNat (0,0)=(bh,bn):=ixs d8 _
     have lx:=(Nr d8).1
     replace F:=fc jd F
     try simp only[Ov,yB] at az
     obtain⟨dw,⟨c8,ci⟩,dz,az⟩:=az
     simp only[I64] at dw
     have du:(l752.set x751.toNat (bh+aa,bn)).getD x751.toNat (0,0)=(c8,ci):=ixs dz _
     have co:=Sg (l752.set x751.toNat (bh+aa,bn)) x751.toNat
     rw[du] at co
     simp only[List.map_set,R9] at co
     have lw:=(Nr dz).1
     replace F:=fc co (fc du F)
     try simp only[Ov,yB] at az
     obtain⟨kw,kv,az⟩:=az
     simp only[I64] at kw
     simp only[I64] at kv
     refine go hS F ?_
     exact Fb (n,x751+1,(l752.set x751.toNat (bh+aa,bn)).set x751.toNat (c8,ci+ab),j9+1+1+1+1+1) az (Nat.lt_succ_self _) (leF F)
    ·replace az:=RU gg az
     refine go hS F ?_
     exact RW (l752,j9+1) (yJ az) (leF F)
  ·rintro⟨gc,mi⟩ kt
   subst kt
   try simp only at h
   try simp only[Ov,yB] at h
   obtain⟨fo,jm,h⟩:=h
   replace F:=fc jm F
   refine go hS F ?_
   refine cb F (fo) (fun gi=> ?_) (fun gi=> ?_)
   ·replace h:=RT gi h
    obtain rfl:=yJ h
    refine go hS F ?_
    exact fin F
   ·replace h:=RU gi h
    obtain rfl:=yJ h
    refine go hS F ?_
    exact fin F
end
def s54 (N:Nat):Bt
 |[.sl gy _ l738 _,.v (.int .i64 aa),.v (.int .i64 ab)]=>some (((gy=2∨l738=[])∧l738=(l738.map R8).map R9)∧(Un N (l738.map R8) aa ab).isSome=true,.tup [.sl 2 false ((((Un N (l738.map R8) aa ab).getD ([],0)).1).map R9) [.i 0,.i 0],.i (((Un N (l738.map R8) aa ab).getD ([],0)).2)])
 |_=>none
theorem eZ (N:Nat):FOK Tryz.prog 54 (s54 N):=⟨iM,by
 intro args vc r h hv
 unfold s54 at h
 split at h
 ·cases h
  obtain⟨⟨cz,c7⟩,hs⟩:=hv
  obtain⟨r,hr⟩:=yX hs
  have hk:=V4 N _ _ _ r hr
  simp only[hr,Option.getD_some]
  refine PCall.arg ?_ hk
  simp only[wkL,wk,and_true,true_and,yF,false_implies,implies_true]
  repeat' (first|exact yT|assumption|apply And.intro)
 ·simp at h⟩
end Go.Proofs.YtdabfcbelkjmgaaGreatDoor.Am
