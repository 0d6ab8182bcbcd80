import Derived.Test.YtdabfcbelkjmgaaGreatDoorD1
namespace Go.Proofs.YtdabfcbelkjmgaaGreatDoor.Am
open Go
attribute [local irreducible] awp Ed Df Dr Ee Bz B8 Dg DM itK
set_option maxRecDepth 100000
set_option maxHeartbeats 8000000
set_option linter.unusedSimpArgs false
set_option linter.unusedVariables false
def Tg (N:Nat) (ah:Int) (l186:List (Int×Int)):Nat→Int→(List (Int×Int))→Option ((List (Int×Int)))
 |0,_,_=>none
 |n+1,ak,l198=>
  bif decide (ak≠ah) then(
   gd (I64 (ak+1))<|
   gd ((l186.length:Int)≠0)<|
   (nth l186 ((ak+1).tmod (l186.length:Int))).bind fun(bg,be)=>
   gd ((l198.length+1)*16≤140737488355328)<|
   Tg N ah l186 n ((ak+1).tmod (l186.length:Int)) (l198++[(bg,be)]))
  else(
   some l198)
def Tn (N:Nat) (l186:List (Int×Int)) (i187:Int) (ah:Int):Option (List (Int×Int)):=
 (nth l186 i187).bind fun(bi,bh)=>
 (Tg N ah l186 N i187 [(bi,bh)]).bind fun d9=>
 some d9
def T83 (N:Nat):List (Nat×Bt):=[]
theorem WW (N:Nat):TabOK Tryz.prog (CC (T83 N)):=BW
attribute [local go_sem] R9 Sf Sg R8 RX Qr Qs List.set_cons_succ List.isEmpty_map List.map_append List.map_eq_nil_iff ne_eq List.length_replicate RG RH List.length_set Option.isSome_some
section
attribute [local go_sem] T83
theorem Va (N:Nat) (l186:List (Int×Int)) (i187:Int) (ah:Int) (r:List (Int×Int)) (h:Tn N l186 i187 ah=some r):PCall Tryz.prog 83 [.sl 2 false (l186.map R9) [.i 0,.i 0],.i i187,.i ah] (.sl 2 false (r.map R9) [.i 0,.i 0]):=by
 refine Jw (WW N) _ Tryz.func83 kJ kK (by simp) fun _=> ?_
 have hS:=WW N
 have F:=f0
 unfold ZO ZP
 unfold Tn at h
 try simp only[Ov,yB] at h
 obtain⟨⟨bi,bh⟩,bv,h⟩:=h
 have eu:l186.getD i187.toNat (0,0)=(bi,bh):=ixs bv _
 have i9:=(Nr bv).1
 replace F:=fc eu F
 try simp only[Ov,yB] at h
 obtain⟨d8,jk,h⟩:=h
 refine go hS F ?_
 refine Rx (fun z:(List (Int×Int))×Nat=>⟨[(7,.own (104,2) z.1.length)],[(.a (104,2),.sl 2 true (z.1.map R9) [.i 0,.i 0])],z.2⟩) (fun z=>(z.1:(List (Int×Int)))=d8) (.x 0) ?_ ?_
 ·refine Ez (fun y:Nat×Int×(List (Int×Int))×Nat=>⟨[(0,.sl 2 false (l186.map R9) [.i 0,.i 0]),(1,.i y.2.1),(2,.i ah),(7,.own (104,2) y.2.2.1.length)],[(.a (104,2),.sl 2 true (y.2.2.1.map R9) [.i 0,.i 0])],y.2.2.2⟩) (fun y=>Tg N ah l186 y.1 y.2.1 y.2.2.1=some d8) (fun y=>y.1) (N,i187,[(bi,bh)],2) jk ?_ ?_
  ·exact leF F
  ·rintro⟨n,ak,l198,gw⟩ an
   try simp only at an
   obtain _|n:=n
   ·exact absurd an (by simp[Tg])
   rw[Tg] at an
   refine go hS F ?_
   refine cb F (decide (ak≠ah)) (fun iu=> ?_) (fun iu=> ?_)
   ·replace an:=RT iu an
    try simp only[Ov,yB] at an
    obtain⟨jc,jp,⟨bg,be⟩,bu,an⟩:=an
    simp only[I64] at jc
    have em:l186.getD ((ak+1).tmod (l186.length:Int)).toNat (0,0)=(bg,be):=ixs bu _
    have i8:=(Nr bu).1
    replace F:=fc em F
    try simp only[Ov,yB] at an
    obtain⟨ig,an⟩:=an
    refine go hS F ?_
    exact Fb (n,(ak+1).tmod (l186.length:Int),l198++[(bg,be)],gw+1+1+1) an (Nat.lt_succ_self _) (leF F)
   ·replace an:=RU iu an
    refine go hS F ?_
    exact RW (l198,gw+1) (yJ an) (leF F)
 ·rintro⟨d9,jn⟩ g8
  subst g8
  try simp only at h
  obtain rfl:=yJ h
  refine go hS F ?_
  exact fin F
end
def s83 (N:Nat):Bt
 |[.sl db _ l186 _,.v (.int .i64 i187),.v (.int .i64 ah)]=>some (((db=2∨l186=[])∧l186=(l186.map R8).map R9)∧(Tn N (l186.map R8) i187 ah).isSome=true,.sl 2 false (((Tn N (l186.map R8) i187 ah).getD []).map R9) [.i 0,.i 0])
 |_=>none
theorem eF (N:Nat):FOK Tryz.prog 83 (s83 N):=⟨kL,by
 intro args vc r h hv
 unfold s83 at h
 split at h
 ·cases h
  obtain⟨⟨ie,iq⟩,hs⟩:=hv
  obtain⟨r,hr⟩:=yX hs
  have hk:=Va N _ _ _ r hr
  simp only[hr,Option.getD_some]
  refine PCall.arg ?_ hk
  simp only[wkL,wk,and_true,true_and,yF,false_implies,implies_true]
  repeat' (first|exact yT|assumption|apply And.intro)
 ·simp at h⟩
def SS (N:Nat) (l208:List (Int×Int)):Nat→Int→Option (Sum Unit Bool)
 |0,_=>none
 |n+1,i216=>
  bif decide (i216<(l208.length:Int)) then(
   (nth l208 i216).bind fun(bz,bw)=>
   (Tx N bz bw).bind fun ce=>
   bif !ce then(
    some (.inr false))
   else(
    gd (I64 (i216+1))<|
    SS N l208 n (i216+1)))
  else(
   some (.inl ()))
def Sy (N:Nat) (l208:List (Int×Int)) (i237:Int):Nat→Int→Option (Sum Unit Bool)
 |0,_=>none
 |n+1,k240=>
  bif decide (k240<(l208.length:Int)) then(
   gd ((decide (k240≠i237))=true→(I64 (i237+1)))<|
   gd ((decide (k240≠i237))=true→((l208.length:Int)≠0))<|
   gd (((decide (k240≠i237))&&(decide (k240≠(i237+1).tmod (l208.length:Int))))=true→(0≤i237∧i237<(l208.length:Int)))<|
   gd (((decide (k240≠i237))&&(decide (k240≠(i237+1).tmod (l208.length:Int))))=true→((Sl N l208 i237).isSome=true))<|
   gd (((decide (k240≠i237))&&(decide (k240≠(i237+1).tmod (l208.length:Int))))=true→(0≤k240∧k240<(l208.length:Int)))<|
   gd (((decide (k240≠i237))&&(decide (k240≠(i237+1).tmod (l208.length:Int))))=true→((SG N ((l208.getD i237.toNat (0,0)).1) ((l208.getD i237.toNat (0,0)).2) (((Sl N l208 i237).getD (0,0)).1) (((Sl N l208 i237).getD (0,0)).2) ((l208.getD k240.toNat (0,0)).1) ((l208.getD k240.toNat (0,0)).2)).isSome=true))<|
   bif ((decide (k240≠i237))&&(decide (k240≠(i237+1).tmod (l208.length:Int))))&&(decide ((SG N ((l208.getD i237.toNat (0,0)).1) ((l208.getD i237.toNat (0,0)).2) (((Sl N l208 i237).getD (0,0)).1) (((Sl N l208 i237).getD (0,0)).2) ((l208.getD k240.toNat (0,0)).1) ((l208.getD k240.toNat (0,0)).2)).getD 0≤0)) then(
    some (.inr false))
   else(
    gd (I64 (k240+1))<|
    Sy N l208 i237 n (k240+1)))
  else(
   some (.inl ()))
def SE (N:Nat) (l208:List (Int×Int)):Nat→Int→Option (Sum Unit Bool)
 |0,_=>none
 |n+1,i237=>
  bif decide (i237<(l208.length:Int)) then(
   (Sy N l208 i237 N 0).bind fun bn=>match bn with
    | .inl ()=>(
     gd (I64 (i237+1))<|
     SE N l208 n (i237+1))
    | .inr gy=>(
     some (.inr gy)))
  else(
   some (.inl ()))
def Sa (N:Nat) (l208:List (Int×Int)):Option Bool:=
 bif (decide ((l208.length:Int)<3))||(decide (8<(l208.length:Int))) then(
  some false)
 else(
  (SS N l208 N 0).bind fun bo=>match bo with
   | .inl ()=>(
    (SE N l208 N 0).bind fun bm=>match bm with
     | .inl ()=>(
      some true)
     | .inr gx=>(
      some gx))
   | .inr gz=>(
    some gz))
def T41 (N:Nat):List (Nat×Bt):=[(68,s68 N),(70,s70 N),(69,s69 N)]
theorem WX (N:Nat):TabOK Tryz.prog (CC (T41 N)):=EC (dZ N) (EC (VV N) (EC (Wm N) (BW)))
section
attribute [local go_sem] T41 s68 s70 s69
theorem UZ (N:Nat) (l208:List (Int×Int)) (r:Bool) (h:Sa N l208=some r):PCall Tryz.prog 41 [.sl 2 false (l208.map R9) [.i 0,.i 0]] (.b r):=by
 refine Jw (WX N) _ Tryz.func41 gI gJ (by simp) fun _=> ?_
 have hS:=WX N
 have F:=f0
 unfold YR YS
 unfold Sa at h
 refine go hS F ?_
 refine cb F ((decide ((l208.length:Int)<3))||(decide (8<(l208.length:Int)))) (fun av=> ?_) (fun av=> ?_)
 ·replace h:=RT av h
  obtain rfl:=yJ h
  refine go hS F ?_
  exact fin F
 ·replace h:=RU av h
  try simp only[Ov,yB] at h
  obtain⟨bo,jj,h⟩:=h
  refine go hS F ?_
  refine Rx (fun z:Nat=>⟨[(0,.sl 2 false (l208.map R9) [.i 0,.i 0])],[],z⟩) (fun z=>(.inl ():Sum Unit Bool)=bo) (.x 0) ?_ ?_
  ·refine Ez (fun y:Nat×Int×Nat=>⟨[(0,.sl 2 false (l208.map R9) [.i 0,.i 0]),(3,.i y.2.1)],[],y.2.2⟩) (fun y=>SS N l208 y.1 y.2.1=some bo) (fun y=>y.1) (N,0,3) jj ?_ ?_
   ·exact leF F
   ·rintro⟨n,i216,gv⟩ ai
    try simp only at ai
    obtain _|n:=n
    ·exact absurd ai (by simp[SS])
    rw[SS] at ai
    refine go hS F ?_
    refine cb F (decide (i216<(l208.length:Int))) (fun ir=> ?_) (fun ir=> ?_)
    ·replace ai:=RT ir ai
     try simp only[Ov,yB] at ai
     obtain⟨⟨bz,bw⟩,br,ai⟩:=ai
     have ej:l208.getD i216.toNat (0,0)=(bz,bw):=ixs br _
     have i7:=(Nr br).1
     replace F:=fc ej F
     try simp only[Ov,yB] at ai
     obtain⟨ce,gj,ai⟩:=ai
     replace F:=fc gj F
     refine go hS F ?_
     refine cb F (!ce) (fun ck=> ?_) (fun ck=> ?_)
     ·replace ai:=RT ck ai
      obtain rfl:=yJ ai
      try simp only at h
      obtain rfl:=yJ h
      refine go hS F ?_
      exact fin F
     ·replace ai:=RU ck ai
      try simp only[Ov,yB] at ai
      obtain⟨ig,ai⟩:=ai
      simp only[I64] at ig
      refine go hS F ?_
      exact Fb (n,i216+1,gv+1+1+1) ai (Nat.lt_succ_self _) (leF F)
    ·replace ai:=RU ir ai
     refine go hS F ?_
     exact RW (gv+1) (yJ ai) (leF F)
  ·rintro iy g8
   subst g8
   try simp only at h
   try simp only[Ov,yB] at h
   obtain⟨bm,jh,h⟩:=h
   refine go hS F ?_
   refine Rx (fun z:Nat=>⟨[],[],z⟩) (fun z=>(.inl ():Sum Unit Bool)=bm) (.x 2) ?_ ?_
   ·refine Ez (fun y:Nat×Int×Nat=>⟨[(0,.sl 2 false (l208.map R9) [.i 0,.i 0]),(4,.i y.2.1)],[],y.2.2⟩) (fun y=>SE N l208 y.1 y.2.1=some bm) (fun y=>y.1) (N,0,iy+1) jh ?_ ?_
    ·exact leF F
    ·rintro⟨n,i237,gu⟩ aj
     try simp only at aj
     obtain _|n:=n
     ·exact absurd aj (by simp[SE])
     rw[SE] at aj
     refine go hS F ?_
     refine cb F (decide (i237<(l208.length:Int))) (fun cu=> ?_) (fun cu=> ?_)
     ·replace aj:=RT cu aj
      try simp only[Ov,yB] at aj
      obtain⟨bn,iv,aj⟩:=aj
      refine go hS F ?_
      refine Rx (fun z:Nat=>⟨[(0,.sl 2 false (l208.map R9) [.i 0,.i 0]),(4,.i i237)],[],z⟩) (fun z=>(.inl ():Sum Unit Bool)=bn) (.x 4) ?_ ?_
      ·refine Ez (fun y:Nat×Int×Nat=>⟨[(0,.sl 2 false (l208.map R9) [.i 0,.i 0]),(4,.i i237),(5,.i y.2.1)],[],y.2.2⟩) (fun y=>Sy N l208 i237 y.1 y.2.1=some bn) (fun y=>y.1) (N,0,gu+1+1) iv ?_ ?_
       ·exact leF F
       ·rintro⟨n,k240,gt⟩ aa
        try simp only at aa
        obtain _|n:=n
        ·exact absurd aa (by simp[Sy])
        rw[Sy] at aa
        refine go hS F ?_
        refine cb F (decide (k240<(l208.length:Int))) (fun cq=> ?_) (fun cq=> ?_)
        ·replace aa:=RT cq aa
         try simp only[Ov,yB] at aa
         obtain⟨im,fh,fg,fb,ez,il,aa⟩:=aa
         simp only[I64] at im
         refine go hS F ?_
         refine cb F (((decide (k240≠i237))&&(decide (k240≠(i237+1).tmod (l208.length:Int))))&&(decide ((SG N ((l208.getD i237.toNat (0,0)).1) ((l208.getD i237.toNat (0,0)).2) (((Sl N l208 i237).getD (0,0)).1) (((Sl N l208 i237).getD (0,0)).2) ((l208.getD k240.toNat (0,0)).1) ((l208.getD k240.toNat (0,0)).2)).getD 0≤0))) (fun co=> ?_) (fun co=> ?_)
         ·replace aa:=RT co aa
          obtain rfl:=yJ aa
          try simp only at aj
          obtain rfl:=yJ aj
          try simp only at h
          obtain rfl:=yJ h
          refine go hS F ?_
          exact fin F
         ·replace aa:=RU co aa
          try simp only[Ov,yB] at aa
          obtain⟨cj,aa⟩:=aa
          simp only[I64] at cj
          refine go hS F ?_
          exact Fb (n,k240+1,gt+1+1+1) aa (Nat.lt_succ_self _) (leF F)
        ·replace aa:=RU cq aa
         refine go hS F ?_
         exact RW (gt+1) (yJ aa) (leF F)
      ·rintro iw ib
       subst ib
       try simp only at aj
       try simp only[Ov,yB] at aj
       obtain⟨ci,aj⟩:=aj
       simp only[I64] at ci
       refine go hS F ?_
       exact Fb (n,i237+1,iw+1) aj (Nat.lt_succ_self _) (leF F)
     ·replace aj:=RU cu aj
      refine go hS F ?_
      exact RW (gu+1) (yJ aj) (leF F)
   ·rintro jm g9
    subst g9
    try simp only at h
    obtain rfl:=yJ h
    refine go hS F ?_
    exact fin F
end
def s41 (N:Nat):Bt
 |[.sl c8 _ l208 _]=>some (((c8=2∨l208=[])∧l208=(l208.map R8).map R9)∧(Sa N (l208.map R8)).isSome=true,.b ((Sa N (l208.map R8)).getD false))
 |_=>none
theorem Vp (N:Nat):FOK Tryz.prog 41 (s41 N):=⟨gK,by
 intro args vc r h hv
 unfold s41 at h
 split at h
 ·cases h
  obtain⟨⟨ie,iq⟩,hs⟩:=hv
  obtain⟨r,hr⟩:=yX hs
  have hk:=UZ N _ r hr
  simp only[hr,Option.getD_some]
  refine PCall.arg ?_ hk
  simp only[wkL,wk,and_true,true_and,yF,false_implies,implies_true]
  repeat' (first|exact yT|assumption|apply And.intro)
 ·simp at h⟩
def Td (N:Nat) (l251:List (Int×Int)) (af:Int) (ae:Int):Option ((List (Int×Int))×(List (Int×Int))×Int):=
 (Sa N l251).bind fun ca=>
 bif ((((!ca)||(decide (af<0)))||(decide ((l251.length:Int)≤af)))||(decide (ae<0)))||(decide ((l251.length:Int)≤ae)) then(
  some ([],[],70))
 else(
  (Tn N l251 af ae).bind fun r256=>
  (Tn N l251 ae af).bind fun r258=>
  bif (decide ((r256.length:Int)<3))||(decide ((r258.length:Int)<3)) then(
   some ([],[],70))
  else(
   some (r256,r258,0)))
def T64 (N:Nat):List (Nat×Bt):=[(41,s41 N),(83,s83 N)]
theorem WY (N:Nat):TabOK Tryz.prog (CC (T64 N)):=EC (Vp N) (EC (eF N) (BW))
section
attribute [local go_sem] T64 s41 s83
theorem Vq (N:Nat) (l251:List (Int×Int)) (af:Int) (ae:Int) (r:(List (Int×Int))×(List (Int×Int))×Int) (h:Td N l251 af ae=some r):PCall Tryz.prog 64 [.sl 2 false (l251.map R9) [.i 0,.i 0],.i af,.i ae] (.tup [.sl 2 false (r.1.map R9) [.i 0,.i 0],.sl 2 false (r.2.1.map R9) [.i 0,.i 0],.i r.2.2]):=by
 refine Jw (WY N) _ Tryz.func64 iW iX (by simp) fun _=> ?_
 have hS:=WY N
 have F:=f0
 unfold Zi Zj
 unfold Td at h
 try simp only[Ov,yB] at h
 obtain⟨ca,gi,h⟩:=h
 replace F:=fc gi F
 refine go hS F ?_
 refine cb F (((((!ca)||(decide (af<0)))||(decide ((l251.length:Int)≤af)))||(decide (ae<0)))||(decide ((l251.length:Int)≤ae))) (fun av=> ?_) (fun av=> ?_)
 ·replace h:=RT av h
  obtain rfl:=yJ h
  refine go hS F ?_
  exact fin F
 ·replace h:=RU av h
  try simp only[Ov,yB] at h
  obtain⟨r256,gh,r258,gg,h⟩:=h
  replace F:=fc gg (fc gh F)
  refine go hS F ?_
  refine cb F ((decide ((r256.length:Int)<3))||(decide ((r258.length:Int)<3))) (fun hc2=> ?_) (fun hc2=> ?_)
  ·replace h:=RT hc2 h
   obtain rfl:=yJ h
   refine go hS F ?_
   exact fin F
  ·replace h:=RU hc2 h
   obtain rfl:=yJ h
   refine go hS F ?_
   exact fin F
end
def s64 (N:Nat):Bt
 |[.sl c7 _ l251 _,.v (.int .i64 af),.v (.int .i64 ae)]=>some (((c7=2∨l251=[])∧l251=(l251.map R8).map R9)∧(Td N (l251.map R8) af ae).isSome=true,.tup [.sl 2 false ((((Td N (l251.map R8) af ae).getD ([],[],0)).1).map R9) [.i 0,.i 0],.sl 2 false ((((Td N (l251.map R8) af ae).getD ([],[],0)).2.1).map R9) [.i 0,.i 0],.i (((Td N (l251.map R8) af ae).getD ([],[],0)).2.2)])
 |_=>none
theorem eG (N:Nat):FOK Tryz.prog 64 (s64 N):=⟨iY,by
 intro args vc r h hv
 unfold s64 at h
 split at h
 ·cases h
  obtain⟨⟨ie,iq⟩,hs⟩:=hv
  obtain⟨r,hr⟩:=yX hs
  have hk:=Vq N _ _ _ r hr
  simp only[hr,Option.getD_some]
  refine PCall.arg ?_ hk
  simp only[wkL,wk,and_true,true_and,yF,false_implies,implies_true]
  repeat' (first|exact yT|assumption|apply And.intro)
 ·simp at h⟩
def S9 (N:Nat) (x260:List (Int×Int)):Nat→Int→(List (Int×Int))→Option ((List (Int×Int)))
 |0,_,_=>none
 |n+1,i445,l446=>
  bif (decide (i445<(x260.length:Int)))&&(decide (i445<6)) then(
   (nth x260 i445).bind fun(bb,ba)=>
   gd ((l446.length+1)*16≤140737488355328)<|
   gd (I64 (i445+1))<|
   S9 N x260 n (i445+1) (l446++[(bb,ba)]))
  else(
   some l446)
def Ta (N:Nat) (y261:List (Int×Int)):Nat→Int→(List (Int×Int))→Option ((List (Int×Int)))
 |0,_,_=>none
 |n+1,i466,l467=>
  bif (decide (i466<(y261.length:Int)))&&(decide (i466<6)) then(
   (nth y261 i466).bind fun(az,ay)=>
   gd ((l467.length+1)*16≤140737488355328)<|
   gd (I64 (i466+1))<|
   Ta N y261 n (i466+1) (l467++[(az,ay)]))
  else(
   some l467)
def To (N:Nat) (x260:List (Int×Int)) (y261:List (Int×Int)) (how262:Int):Option ((List (Int×Int))×(List (Int×Int))):=
 (Si N how262 3).bind fun au=>
 bif decide (au=0) then(
  (SH N x260 0 40).bind fun du=>
  (SH N y261 0 40).bind fun dt=>
  some (du,dt))
 else(
  bif decide (au=1) then(
   (S9 N x260 N 0 []).bind fun l454=>
   (Ta N y261 N 0 []).bind fun l475=>
   gd (I64 (how262.tdiv 3))<|
   (Si N (how262.tdiv 3) 30).bind fun aq=>
   gd (I64 (aq+1))<|
   gd (I64 (how262.tdiv 90))<|
   (Si N (how262.tdiv 90) 10).bind fun b9=>
   gd (I64 ((aq+1)+b9))<|
   gd ((l454.length+2)*16≤140737488355328)<|
   gd (I64 (how262.tdiv 900))<|
   (Si N (how262.tdiv 900) 40).bind fun dq=>
   gd (I64 (how262.tdiv 7))<|
   (Si N (how262.tdiv 7) 40).bind fun dp=>
   gd ((l475.length+2)*16≤140737488355328)<|
   (SH N (l454++[(20,aq),(20,(aq+1)+b9)]) 0 20).bind fun dm=>
   (SH N (l475++[(0,dq),(0,dp)]) 20 40).bind fun dh=>
   some (dm,dh))
  else(
   (SH N x260 0 40).bind fun r489=>
   gd (I64 (how262.tdiv 3))<|
   (Si N (how262.tdiv 3) (r489.length:Int)).bind fun bj=>
   gd (I64 (bj+2))<|
   gd ((r489.length:Int)≠0)<|
   (Td N r489 bj ((bj+2).tmod (r489.length:Int))).bind fun(dg,de,b7)=>
   bif decide (b7≠0) then(
    (SH N y261 0 40).bind fun dc=>
    some (r489,dc))
   else(
    some (dg,de))))
def T34 (N:Nat):List (Nat×Bt):=[(62,s62 N),(63,s63 N),(64,s64 N)]
theorem WZ (N:Nat):TabOK Tryz.prog (CC (T34 N)):=EC (WH N) (EC (eE N) (EC (eG N) (BW)))
section
attribute [local go_sem] T34 s62 s63 s64
theorem Vb (N:Nat) (x260:List (Int×Int)) (y261:List (Int×Int)) (how262:Int) (r:(List (Int×Int))×(List (Int×Int))) (h:To N x260 y261 how262=some r):PCall Tryz.prog 34 [.sl 2 false (x260.map R9) [.i 0,.i 0],.sl 2 false (y261.map R9) [.i 0,.i 0],.i how262] (.tup [.sl 2 false (r.1.map R9) [.i 0,.i 0],.sl 2 false (r.2.map R9) [.i 0,.i 0]]):=by
 refine Jw (WZ N) _ Tryz.func34 fX fY (by simp) fun _=> ?_
 have hS:=WZ N
 have F:=f0
 unfold YL YM
 unfold To at h
 try simp only[Ov,yB] at h
 obtain⟨au,gf,h⟩:=h
 replace F:=fc gf F
 refine go hS F ?_
 refine cb F (decide (au=0)) (fun av=> ?_) (fun av=> ?_)
 ·replace h:=RT av h
  try simp only[Ov,yB] at h
  obtain⟨du,ge,dt,gc,h⟩:=h
  replace F:=fc gc (fc ge F)
  obtain rfl:=yJ h
  refine go hS F ?_
  exact fin F
 ·replace h:=RU av h
  refine go hS F ?_
  refine cb F (decide (au=1)) (fun hc2=> ?_) (fun hc2=> ?_)
  ·replace h:=RT hc2 h
   refine go hS F ?_
   refine Kh 1000007 8 2 [.i 0,.i 0] (by show(8:Nat)<118;omega) (by omega) (by simp only[go_sem,seval,F]<;>eq_refl) ?_
   try simp only[Ov,yB] at h
   obtain⟨dz,ji,h⟩:=h
   refine go hS F ?_
   refine Rx (fun z:(List (Int×Int))×Nat=>⟨[(1,.sl 2 false (y261.map R9) [.i 0,.i 0]),(2,.i how262),(8,.own (1000007,8) z.1.length),(9,.sl 0 true [] [])],[(.a (1000007,8),.sl 2 true (z.1.map R9) [.i 0,.i 0])],z.2⟩) (fun z=>(z.1:(List (Int×Int)))=dz) (.x 1) ?_ ?_
   ·refine Ez (fun y:Nat×Int×(List (Int×Int))×Nat=>⟨[(0,.sl 2 false (x260.map R9) [.i 0,.i 0]),(1,.sl 2 false (y261.map R9) [.i 0,.i 0]),(2,.i how262),(8,.own (1000007,8) y.2.2.1.length),(9,.sl 0 true [] []),(10,.i y.2.1)],[(.a (1000007,8),.sl 2 true (y.2.2.1.map R9) [.i 0,.i 0])],y.2.2.2⟩) (fun y=>S9 N x260 y.1 y.2.1 y.2.2.1=some dz) (fun y=>y.1) (N,0,[],8) ji ?_ ?_
    ·exact leF F
    ·rintro⟨n,i445,l446,gr⟩ am
     try simp only at am
     obtain _|n:=n
     ·exact absurd am (by simp[S9])
     rw[S9] at am
     refine go hS F ?_
     refine cb F ((decide (i445<(x260.length:Int)))&&(decide (i445<6))) (fun ck=> ?_) (fun ck=> ?_)
     ·replace am:=RT ck am
      try simp only[Ov,yB] at am
      obtain⟨⟨bb,ba⟩,bq,am⟩:=am
      have ei:x260.getD i445.toNat (0,0)=(bb,ba):=ixs bq _
      have i6:=(Nr bq).1
      replace F:=fc ei F
      try simp only[Ov,yB] at am
      obtain⟨ig,jb,am⟩:=am
      simp only[I64] at jb
      refine go hS F ?_
      exact Fb (n,i445+1,l446++[(bb,ba)],gr+1+1+1) am (Nat.lt_succ_self _) (leF F)
     ·replace am:=RU ck am
      refine go hS F ?_
      exact RW (l446,gr+1) (yJ am) (leF F)
   ·rintro⟨l454,aw⟩ ja
    subst ja
    try simp only at h
    refine go hS F ?_
    refine Kh 1000008 9 2 [.i 0,.i 0] (by show(9:Nat)<118;omega) (by omega) (by simp only[go_sem,seval,F]<;>eq_refl) ?_
    try simp only[Ov,yB] at h
    obtain⟨dw,jg,h⟩:=h
    refine go hS F ?_
    refine Rx (fun z:(List (Int×Int))×Nat=>⟨[(2,.i how262),(8,.own (1000007,8) l454.length),(9,.own (1000008,aw+1+1) z.1.length)],[(.a (1000008,aw+1+1),.sl 2 true (z.1.map R9) [.i 0,.i 0]),(.a (1000007,8),.sl 2 true (l454.map R9) [.i 0,.i 0])],z.2⟩) (fun z=>(z.1:(List (Int×Int)))=dw) (.x 3) ?_ ?_
    ·refine Ez (fun y:Nat×Int×(List (Int×Int))×Nat=>⟨[(1,.sl 2 false (y261.map R9) [.i 0,.i 0]),(2,.i how262),(8,.own (1000007,8) l454.length),(9,.own (1000008,aw+1+1) y.2.2.1.length),(11,.i y.2.1)],[(.a (1000008,aw+1+1),.sl 2 true (y.2.2.1.map R9) [.i 0,.i 0]),(.a (1000007,8),.sl 2 true (l454.map R9) [.i 0,.i 0])],y.2.2.2⟩) (fun y=>Ta N y261 y.1 y.2.1 y.2.2.1=some dw) (fun y=>y.1) (N,0,[],aw+1+1) jg ?_ ?_
     ·exact leF F
     ·rintro⟨n,i466,l467,gm⟩ ab
      try simp only at ab
      obtain _|n:=n
      ·exact absurd ab (by simp[Ta])
      rw[Ta] at ab
      refine go hS F ?_
      refine cb F ((decide (i466<(y261.length:Int)))&&(decide (i466<6))) (fun cr=> ?_) (fun cr=> ?_)
      ·replace ab:=RT cr ab
       try simp only[Ov,yB] at ab
       obtain⟨⟨az,ay⟩,bp,ab⟩:=ab
       have eh:y261.getD i466.toNat (0,0)=(az,ay):=ixs bp _
       have iz:=(Nr bp).1
       replace F:=fc eh F
       try simp only[Ov,yB] at ab
       obtain⟨jf,ip,ab⟩:=ab
       simp only[I64] at ip
       refine go hS F ?_
       exact Fb (n,i466+1,l467++[(az,ay)],gm+1+1+1) ab (Nat.lt_succ_self _) (leF F)
      ·replace ab:=RU cr ab
       refine go hS F ?_
       exact RW (l467,gm+1) (yJ ab) (leF F)
    ·rintro⟨l475,jl⟩ ic
     subst ic
     try simp only at h
     try simp only[Ov,yB] at h
     obtain⟨fh,aq,fy,fg,fb,b9,fx,ez,il,ij,dq,fv,cj,dp,fu,je,dm,ft,dh,fr,h⟩:=h
     simp only[I64] at fh
     simp only[I64] at fg
     simp only[I64] at fb
     simp only[I64] at ez
     simp only[I64] at ij
     simp only[I64] at cj
     replace F:=fc fr (fc ft (fc fu (fc fv (fc fx (fc fy F)))))
     obtain rfl:=yJ h
     refine go hS F ?_
     exact fin F
  ·replace h:=RU hc2 h
   try simp only[Ov,yB] at h
   obtain⟨r489,fq,ci,bj,fo,ii,jd,⟨dg,de,b7⟩,fm,h⟩:=h
   simp only[I64] at ci
   simp only[I64] at ii
   replace F:=fc fm (fc fo (fc fq F))
   refine go hS F ?_
   refine cb F (decide (b7≠0)) (fun cn=> ?_) (fun cn=> ?_)
   ·replace h:=RT cn h
    try simp only[Ov,yB] at h
    obtain⟨dc,fj,h⟩:=h
    replace F:=fc fj F
    obtain rfl:=yJ h
    refine go hS F ?_
    exact fin F
   ·replace h:=RU cn h
    obtain rfl:=yJ h
    refine go hS F ?_
    exact fin F
end
def s34 (N:Nat):Bt
 |[.sl cz _ x260 _,.sl cy _ y261 _,.v (.int .i64 how262)]=>some (((cz=2∨x260=[])∧x260=(x260.map R8).map R9)∧((cy=2∨y261=[])∧y261=(y261.map R8).map R9)∧(To N (x260.map R8) (y261.map R8) how262).isSome=true,.tup [.sl 2 false ((((To N (x260.map R8) (y261.map R8) how262).getD ([],[])).1).map R9) [.i 0,.i 0],.sl 2 false ((((To N (x260.map R8) (y261.map R8) how262).getD ([],[])).2).map R9) [.i 0,.i 0]])
 |_=>none
theorem eH (N:Nat):FOK Tryz.prog 34 (s34 N):=⟨fZ,by
 intro args vc r h hv
 unfold s34 at h
 split at h
 ·cases h
  obtain⟨⟨ie,iq⟩,⟨jo,jq⟩,hs⟩:=hv
  obtain⟨r,hr⟩:=yX hs
  have hk:=Vb N _ _ _ r hr
  simp only[hr,Option.getD_some]
  refine PCall.arg ?_ hk
  simp only[wkL,wk,and_true,true_and,yF,false_implies,implies_true]
  repeat' (first|exact yT|assumption|apply And.intro)
 ·simp at h⟩
end Go.Proofs.YtdabfcbelkjmgaaGreatDoor.Am
