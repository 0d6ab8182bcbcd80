import Derived.Test.YtdabfcbelkjmgaaGreatDoorD3
import Derived.Test.YtdabfcbelkjmgaaGreatDoorE2
import Derived.Test.YtdabfcbelkjmgaaGreatDoorAc2
namespace Go.Proofs.YtdabfcbelkjmgaaGreatDoor.Am
open Go
attribute [local irreducible] awp Ed Df Dr Ee Bz B8 Dg DM itK
set_option maxRecDepth 100000
set_option maxHeartbeats 8000000
set_option linter.unusedSimpArgs false
set_option linter.unusedVariables false
def Vk (x:Int×Int×Int×Int×Int):List AV:=[.i x.1,.i x.2.1,.i x.2.2.1,.i x.2.2.2.1,.i x.2.2.2.2]
def Wf:List AV→Int×Int×Int×Int×Int
 |[.v (.int _ a1),.v (.int _ a2),.v (.int _ a3),.v (.int _ a4),.v (.int _ a5)]=>(a1,a2,a3,a4,a5)
 |_=>(0,0,0,0,0)
theorem Yj (x:Int×Int×Int×Int×Int):Wf (Vk x)=x:=by rfl
theorem Yk (R:List (Int×Int×Int×Int×Int)):(R.map Vk).map Wf=R:=by
 induction R with
 |nil=>rfl
 |cons r R ih=>rw[List.map_cons,List.map_cons,ih,Yj]
theorem Ws (R:List (Int×Int×Int×Int×Int)) (i:Nat):C1 (R.map Vk) [.i 0,.i 0,.i 0,.i 0,.i 0] i=Vk (R.getD i (0,0,0,0,0)):=by
 unfold C1;rw[List.getD_eq_getElem?_getD,List.getD_eq_getElem?_getD,List.getElem?_map];cases R[i]? <;>rfl
def Sk (N:Nat) (u1:Int) (u2:Int) (u3:Int) (u4:List (Int×Int)) (u5:Int) (u6:Int):Option Bool:=
 bif (((((decide (u1<0))||(decide (99<u1)))||(decide (u2<1)))||(decide (8<u2)))||(decide (u3<0)))||(decide (7<u3)) then(
  some false)
 else(
  gd ((((decide (0≤u5))&&(decide (u5<u6)))&&(decide (u6≤8)))=true→((Sa N u4).isSome=true))<|
  some ((((decide (0≤u5))&&(decide (u5<u6)))&&(decide (u6≤8)))&&((Sa N u4).getD false)))
def T12 (N:Nat):List (Nat×Bt):=[(41,s41 N)]
theorem XO (N:Nat):TabOK Tryz.prog (CC (T12 N)):=EC (Vp N) (BW)
attribute [local go_sem] R9 Sf Sg R8 RX Qr Qs List.set_cons_succ List.isEmpty_map List.map_append List.map_eq_nil_iff ne_eq List.length_replicate RG RH H8 isB List.length_set Option.isSome_some
section
attribute [local go_sem] T12 s41
theorem U2 (N:Nat) (u1:Int) (u2:Int) (u3:Int) (u4:List (Int×Int)) (u5:Int) (u6:Int) (r:Bool) (h:Sk N u1 u2 u3 u4 u5 u6=some r):PCall Tryz.prog 12 [.agg [.i u1,.i u2,.i u3,.sl 2 false (u4.map R9) [.i 0,.i 0],.i u5,.i u6]] (.b r):=by
 refine Jw (XO N) _ Tryz.func12 lY lZ (by simp) fun _=> ?_
 have hS:=XO N
 have F:=f0
 unfold aE aF
 unfold Sk at h
 refine go hS F ?_
 refine cb F ((((((decide (u1<0))||(decide (99<u1)))||(decide (u2<1)))||(decide (8<u2)))||(decide (u3<0)))||(decide (7<u3))) (fun bi=> ?_) (fun bi=> ?_)
 ·replace h:=RT bi h
  obtain rfl:=yJ h
  refine go hS F ?_
  exact fin F
 ·replace h:=RU bi h
  try simp only[Ov,yB] at h
  obtain⟨gt,h⟩:=h
  obtain rfl:=yJ h
  refine go hS F ?_
  exact fin F
end
def s12 (N:Nat):Bt
 |[.agg [.v (.int .i64 u1),.v (.int .i64 u2),.v (.int .i64 u3),.sl kq _ u4 _,.v (.int .i64 u5),.v (.int .i64 u6)]]=>some (((kq=2∨u4=[])∧u4=(u4.map R8).map R9)∧(Sk N u1 u2 u3 (u4.map R8) u5 u6).isSome=true,.b ((Sk N u1 u2 u3 (u4.map R8) u5 u6).getD false))
 |_=>none
theorem UJ (N:Nat):FOK Tryz.prog 12 (s12 N):=⟨mA,by
 intro args vc r h hv
 unfold s12 at h
 split at h
 ·cases h
  obtain⟨⟨co,cq⟩,hs⟩:=hv
  obtain⟨r,hr⟩:=yX hs
  have hk:=U2 N _ _ _ _ _ _ r hr
  simp only[hr,Option.getD_some]
  refine PCall.arg ?_ hk
  simp only[wkL,wk,and_true,true_and,yF,false_implies,implies_true]
  repeat' (first|exact yT|assumption|apply And.intro)
 ·simp at h⟩
def SD (N:Nat) (material7:Int):Option ((Int×Int×Int×Int×Int)×Int):=
 bif (decide (material7<0))||(decide (7<material7)) then(
  some ((0,0,0,0,0),80))
 else(
  (nth [(9,3,9,1,0),(8,3,6,4,1),(7,3,5,5,1),(6,3,4,6,3),(3,2,5,3,0),(5,2,2,7,1),(8,3,8,1,4),(10,1,9,0,0)] material7).bind fun(x8,x9,ja,i9,i8)=>
  some ((x8,x9,ja,i9,i8),0))
def T30 (N:Nat):List (Nat×Bt):=[]
theorem XP (N:Nat):TabOK Tryz.prog (CC (T30 N)):=BW
section
attribute [local go_sem] T30 Vk Yk Ws Wf
theorem U3 (N:Nat) (material7:Int) (r:(Int×Int×Int×Int×Int)×Int) (h:SD N material7=some r):PCall Tryz.prog 30 [.i material7] (.tup [.agg [.i r.1.1,.i r.1.2.1,.i r.1.2.2.1,.i r.1.2.2.2.1,.i r.1.2.2.2.2],.i r.2]):=by
 refine Jw (XP N) _ Tryz.func30 nW nX (by simp) fun _=> ?_
 have hS:=XP N
 have F:=f0
 unfold bK bM
 unfold SD at h
 refine go hS F ?_
 refine cb F ((decide (material7<0))||(decide (7<material7))) (fun bi=> ?_) (fun bi=> ?_)
 ·replace h:=RT bi h
  obtain rfl:=yJ h
  refine go hS F ?_
  exact fin F
 ·replace h:=RU bi h
  try simp only[Ov,yB] at h
  obtain⟨⟨x8,x9,ja,i9,i8⟩,i7,h⟩:=h
  have ip:[(9,3,9,1,0),(8,3,6,4,1),(7,3,5,5,1),(6,3,4,6,3),(3,2,5,3,0),(5,2,2,7,1),(8,3,8,1,4),(10,1,9,0,0)].getD material7.toNat (0,0,0,0,0)=(x8,x9,ja,i9,i8):=ixs i7 _
  have j7:C1 [[.i 9,.i 3,.i 9,.i 1,.i 0],[.i 8,.i 3,.i 6,.i 4,.i 1],[.i 7,.i 3,.i 5,.i 5,.i 1],[.i 6,.i 3,.i 4,.i 6,.i 3],[.i 3,.i 2,.i 5,.i 3,.i 0],[.i 5,.i 2,.i 2,.i 7,.i 1],[.i 8,.i 3,.i 8,.i 1,.i 4],[.i 10,.i 1,.i 9,.i 0,.i 0]] [.i 0,.i 0,.i 0,.i 0,.i 0] material7.toNat=[.i x8,.i x9,.i ja,.i i9,.i i8]:=by have hq:=Ws [(9,3,9,1,0),(8,3,6,4,1),(7,3,5,5,1),(6,3,4,6,3),(3,2,5,3,0),(5,2,2,7,1),(8,3,8,1,4),(10,1,9,0,0)] material7.toNat;rw[ip] at hq;exact hq
  have ka:=(Nr i7).1
  try simp only[List.length_cons,List.length_nil] at ka
  replace F:=fc j7 (fc ip F)
  obtain rfl:=yJ h
  refine go hS F ?_
  exact fin F
end
def s30 (N:Nat):Bt
 |[.v (.int .i64 material7)]=>some ((SD N material7).isSome=true,.tup [.agg [.i ((((SD N material7).getD ((0,0,0,0,0),0)).1).1),.i ((((SD N material7).getD ((0,0,0,0,0),0)).1).2.1),.i ((((SD N material7).getD ((0,0,0,0,0),0)).1).2.2.1),.i ((((SD N material7).getD ((0,0,0,0,0),0)).1).2.2.2.1),.i ((((SD N material7).getD ((0,0,0,0,0),0)).1).2.2.2.2)],.i (((SD N material7).getD ((0,0,0,0,0),0)).2)])
 |_=>none
theorem WM (N:Nat):FOK Tryz.prog 30 (s30 N):=⟨nY,by
 intro args vc r h hv
 unfold s30 at h
 split at h
 ·cases h
  have hs:=hv
  obtain⟨r,hr⟩:=yX hs
  have hk:=U3 N _ r hr
  simp only[hr,Option.getD_some]
  refine PCall.arg ?_ hk
  simp only[wkL,wk,and_true,true_and,yF,false_implies,implies_true]
  try trivial
 ·simp at h⟩
def TZ (N:Nat) (u17:List (Int×Int)) (bz:Int):Nat→Int→(List (Int×Int))→Option ((List (Int×Int)))
 |0,_,_=>none
 |n+1,dh,l27=>
  bif decide (dh<(u17.length:Int)) then(
   gd ((l27.length+1)*16≤140737488355328)<|
   gd (I64 (dh+1))<|
   TZ N u17 bz n (dh+1) (l27++[(bz,dh)]))
  else(
   some l27)
def Um (N:Nat) (bz:Int) (c8:Int) (u16:Int) (u17:List (Int×Int)) (c7:Int) (cz:Int):Option (List (Int×Int)):=
 (Sk N bz c8 u16 u17 c7 cz).bind fun jr=>
 bif !jr then(
  some [])
 else(
  (TZ N u17 bz N 0 []).bind fun l32=>
  gd ((l32.length+2)*16≤140737488355328)<|
  some (l32++[(bz,(-1)),(bz,(-2))]))
def T8 (N:Nat):List (Nat×Bt):=[(12,s12 N)]
theorem YC (N:Nat):TabOK Tryz.prog (CC (T8 N)):=EC (UJ N) (BW)
section
attribute [local go_sem] T8 s12
theorem U4 (N:Nat) (bz:Int) (c8:Int) (u16:Int) (u17:List (Int×Int)) (c7:Int) (cz:Int) (r:List (Int×Int)) (h:Um N bz c8 u16 u17 c7 cz=some r):PCall Tryz.prog 8 [.agg [.i bz,.i c8,.i u16,.sl 2 false (u17.map R9) [.i 0,.i 0],.i c7,.i cz]] (.sl 2 false (r.map R9) [.i 0,.i 0]):=by
 refine Jw (YC N) _ Tryz.func8 ok8 nt8 (by simp) fun _=> ?_
 have hS:=YC N
 have F:=f0
 unfold ac8 rv8
 unfold Um at h
 try simp only[Ov,yB] at h
 obtain⟨jr,j6,h⟩:=h
 replace F:=fc j6 F
 refine go hS F ?_
 refine cb F (!jr) (fun bi=> ?_) (fun bi=> ?_)
 ·replace h:=RT bi h
  obtain rfl:=yJ h
  refine go hS F ?_
  exact fin F
 ·replace h:=RU bi h
  refine go hS F ?_
  refine Kh 1000001 3 2 [.i 0,.i 0] (by show(3:Nat)<31;omega) (by omega) (by simp only[go_sem,seval,F]<;>eq_refl) ?_
  try simp only[Ov,yB] at h
  obtain⟨kd,kc,h⟩:=h
  refine go hS F ?_
  refine Rx (fun z:(List (Int×Int))×Nat=>⟨[(1,.box (0,1) 0),(3,.own (1000001,5) z.1.length)],[(.a (1000001,5),.sl 2 true (z.1.map R9) [.i 0,.i 0]),(.c (0,1) 0,.i bz),(.c (0,1) 1,.i c8),(.c (0,1) 2,.i u16),(.c (0,1) 3,.sl 2 false (u17.map R9) [.i 0,.i 0]),(.c (0,1) 4,.i c7),(.c (0,1) 5,.i cz)],z.2⟩) (fun z=>(z.1:(List (Int×Int)))=kd) (.x 0) ?_ ?_
  ·refine Ez (fun y:Nat×Int×(List (Int×Int))×Nat=>⟨[(1,.box (0,1) 0),(3,.own (1000001,5) y.2.2.1.length),(4,.i y.2.1)],[(.a (1000001,5),.sl 2 true (y.2.2.1.map R9) [.i 0,.i 0]),(.c (0,1) 0,.i bz),(.c (0,1) 1,.i c8),(.c (0,1) 2,.i u16),(.c (0,1) 3,.sl 2 false (u17.map R9) [.i 0,.i 0]),(.c (0,1) 4,.i c7),(.c (0,1) 5,.i cz)],y.2.2.2⟩) (fun y=>TZ N u17 bz y.1 y.2.1 y.2.2.1=some kd) (fun y=>y.1) (N,0,[],5) kc ?_ ?_
   ·exact leF F
   ·rintro⟨n,dh,l27,km⟩ aj
    try simp only at aj
    obtain _|n:=n
    ·exact absurd aj (by simp[TZ])
    rw[TZ] at aj
    refine go hS F ?_
    refine cb F (decide (dh<(u17.length:Int))) (fun cj=> ?_) (fun cj=> ?_)
    ·replace aj:=RT cj aj
     try simp only[Ov,yB] at aj
     obtain⟨lu,kg,aj⟩:=aj
     simp only[I64] at kg
     refine go hS F ?_
     exact Fb (n,dh+1,l27++[(bz,dh)],km+1+1+1) aj (Nat.lt_succ_self _) (leF F)
    ·replace aj:=RU cj aj
     refine go hS F ?_
     exact RW (l27,km+1) (yJ aj) (leF F)
  ·rintro⟨l32,lw⟩ lm
   subst lm
   try simp only at h
   try simp only[Ov,yB] at h
   obtain⟨kf,h⟩:=h
   obtain rfl:=yJ h
   refine go hS F ?_
   exact fin F
end
def s8 (N:Nat):Bt
 |[.agg [.v (.int .i64 bz),.v (.int .i64 c8),.v (.int .i64 u16),.sl jh _ u17 _,.v (.int .i64 c7),.v (.int .i64 cz)]]=>some (((jh=2∨u17=[])∧u17=(u17.map R8).map R9)∧(Um N bz c8 u16 (u17.map R8) c7 cz).isSome=true,.sl 2 false (((Um N bz c8 u16 (u17.map R8) c7 cz).getD []).map R9) [.i 0,.i 0])
 |_=>none
theorem qM (N:Nat):FOK Tryz.prog 8 (s8 N):=⟨of8,by
 intro args vc r h hv
 unfold s8 at h
 split at h
 ·cases h
  obtain⟨⟨co,cq⟩,hs⟩:=hv
  obtain⟨r,hr⟩:=yX hs
  have hk:=U4 N _ _ _ _ _ _ r hr
  simp only[hr,Option.getD_some]
  refine PCall.arg ?_ hk
  simp only[wkL,wk,and_true,true_and,yF,false_implies,implies_true]
  repeat' (first|exact yT|assumption|apply And.intro)
 ·simp at h⟩
def Sr (N:Nat) (fg:Int) (fb:Int) (ez:Int) (u37:List (Int×Int)) (cn:Int) (ck:Int):Option Int:=
 (Sk N fg fb ez u37 cn ck).bind fun jq=>
 bif !jq then(
  some 0)
 else(
  (Ul N u37).bind fun jp=>
  gd (I64 (ck-cn))<|
  gd (I64 (jp*(ck-cn)))<|
  some (jp*(ck-cn)))
def T14 (N:Nat):List (Nat×Bt):=[(12,s12 N),(44,s44 N)]
theorem XQ (N:Nat):TabOK Tryz.prog (CC (T14 N)):=EC (UJ N) (EC (fD N) (BW))
section
attribute [local go_sem] T14 s12 s44
theorem UN (N:Nat) (fg:Int) (fb:Int) (ez:Int) (u37:List (Int×Int)) (cn:Int) (ck:Int) (r:Int) (h:Sr N fg fb ez u37 cn ck=some r):PCall Tryz.prog 14 [.agg [.i fg,.i fb,.i ez,.sl 2 false (u37.map R9) [.i 0,.i 0],.i cn,.i ck]] (.i r):=by
 refine Jw (XQ N) _ Tryz.func14 mE mF (by simp) fun _=> ?_
 have hS:=XQ N
 have F:=f0
 unfold aI aJ
 unfold Sr at h
 try simp only[Ov,yB] at h
 obtain⟨jq,j5,h⟩:=h
 replace F:=fc j5 F
 refine go hS F ?_
 refine cb F (!jq) (fun bi=> ?_) (fun bi=> ?_)
 ·replace h:=RT bi h
  obtain rfl:=yJ h
  refine go hS F ?_
  exact fin F
 ·replace h:=RU bi h
  try simp only[Ov,yB] at h
  obtain⟨jp,j4,gt,jt,h⟩:=h
  simp only[I64] at gt
  simp only[I64] at jt
  replace F:=fc j4 F
  obtain rfl:=yJ h
  refine go hS F ?_
  exact fin F
end
def s14 (N:Nat):Bt
 |[.agg [.v (.int .i64 fg),.v (.int .i64 fb),.v (.int .i64 ez),.sl jg _ u37 _,.v (.int .i64 cn),.v (.int .i64 ck)]]=>some (((jg=2∨u37=[])∧u37=(u37.map R8).map R9)∧(Sr N fg fb ez (u37.map R8) cn ck).isSome=true,.i ((Sr N fg fb ez (u37.map R8) cn ck).getD 0))
 |_=>none
theorem YD (N:Nat):FOK Tryz.prog 14 (s14 N):=⟨mG,by
 intro args vc r h hv
 unfold s14 at h
 split at h
 ·cases h
  obtain⟨⟨co,cq⟩,hs⟩:=hv
  obtain⟨r,hr⟩:=yX hs
  have hk:=UN N _ _ _ _ _ _ r hr
  simp only[hr,Option.getD_some]
  refine PCall.arg ?_ hk
  simp only[wkL,wk,and_true,true_and,yF,false_implies,implies_true]
  repeat' (first|exact yT|assumption|apply And.intro)
 ·simp at h⟩
def SX (N:Nat) (eu:Int) (em:Int) (dg:Int) (u47:List (Int×Int)) (ej:Int) (ei:Int):Option Int:=
 (SD N dg).bind fun((jo,li,lh,lg,lf),k9)=>
 (Sr N eu em dg u47 ej ei).bind fun jc=>
 gd (I64 (3*jc))<|
 gd (I64 ((3*jc)*jo))<|
 some ((3*jc)*jo)
def T16 (N:Nat):List (Nat×Bt):=[(30,s30 N),(14,s14 N)]
theorem XR (N:Nat):TabOK Tryz.prog (CC (T16 N)):=EC (WM N) (EC (YD N) (BW))
section
attribute [local go_sem] T16 s30 s14
theorem UO (N:Nat) (eu:Int) (em:Int) (dg:Int) (u47:List (Int×Int)) (ej:Int) (ei:Int) (r:Int) (h:SX N eu em dg u47 ej ei=some r):PCall Tryz.prog 16 [.agg [.i eu,.i em,.i dg,.sl 2 false (u47.map R9) [.i 0,.i 0],.i ej,.i ei]] (.i r):=by
 refine Jw (XR N) _ Tryz.func16 mK mL (by simp) fun _=> ?_
 have hS:=XR N
 have F:=f0
 unfold aM aN
 unfold SX at h
 try simp only[Ov,yB] at h
 obtain⟨⟨⟨jo,li,lh,lg,lf⟩,k9⟩,jz,h⟩:=h
 replace F:=fc jz F
 try simp only[Ov,yB] at h
 obtain⟨jc,jy,jd,gt,h⟩:=h
 simp only[I64] at jd
 simp only[I64] at gt
 replace F:=fc jy F
 obtain rfl:=yJ h
 refine go hS F ?_
 exact fin F
end
def s16 (N:Nat):Bt
 |[.agg [.v (.int .i64 eu),.v (.int .i64 em),.v (.int .i64 dg),.sl jf _ u47 _,.v (.int .i64 ej),.v (.int .i64 ei)]]=>some (((jf=2∨u47=[])∧u47=(u47.map R8).map R9)∧(SX N eu em dg (u47.map R8) ej ei).isSome=true,.i ((SX N eu em dg (u47.map R8) ej ei).getD 0))
 |_=>none
theorem fL (N:Nat):FOK Tryz.prog 16 (s16 N):=⟨mM,by
 intro args vc r h hv
 unfold s16 at h
 split at h
 ·cases h
  obtain⟨⟨co,cq⟩,hs⟩:=hv
  obtain⟨r,hr⟩:=yX hs
  have hk:=UO N _ _ _ _ _ _ r hr
  simp only[hr,Option.getD_some]
  refine PCall.arg ?_ hk
  simp only[wkL,wk,and_true,true_and,yF,false_implies,implies_true]
  repeat' (first|exact yT|assumption|apply And.intro)
 ·simp at h⟩
def Th (N:Nat) (eh:Int) (d9:Int) (de:Int) (u62:List (Int×Int)) (ci:Int) (u64:Int):Option Int:=
 (Sk N eh d9 de u62 ci u64).bind fun jn=>
 bif !jn then(
  some 0)
 else(
  (SD N de).bind fun((jm,k7,kx,kw,kv),kt)=>
  (TF N u62).bind fun(jb,kr)=>
  gd (I64 (u64-ci))<|
  gd (I64 (jb*(u64-ci)))<|
  gd (I64 ((jb*(u64-ci))*jm))<|
  some ((jb*(u64-ci))*jm))
def T18 (N:Nat):List (Nat×Bt):=[(12,s12 N),(30,s30 N),(47,s47 N)]
theorem XS (N:Nat):TabOK Tryz.prog (CC (T18 N)):=EC (UJ N) (EC (WM N) (EC (fE N) (BW)))
section
attribute [local go_sem] T18 s12 s30 s47
theorem UQ (N:Nat) (eh:Int) (d9:Int) (de:Int) (u62:List (Int×Int)) (ci:Int) (u64:Int) (r:Int) (h:Th N eh d9 de u62 ci u64=some r):PCall Tryz.prog 18 [.agg [.i eh,.i d9,.i de,.sl 2 false (u62.map R9) [.i 0,.i 0],.i ci,.i u64]] (.i r):=by
 refine Jw (XS N) _ Tryz.func18 mQ mR (by simp) fun _=> ?_
 have hS:=XS N
 have F:=f0
 unfold aQ aR
 unfold Th at h
 try simp only[Ov,yB] at h
 obtain⟨jn,jx,h⟩:=h
 replace F:=fc jx F
 refine go hS F ?_
 refine cb F (!jn) (fun bi=> ?_) (fun bi=> ?_)
 ·replace h:=RT bi h
  obtain rfl:=yJ h
  refine go hS F ?_
  exact fin F
 ·replace h:=RU bi h
  try simp only[Ov,yB] at h
  obtain⟨⟨⟨jm,k7,kx,kw,kv⟩,kt⟩,jw,h⟩:=h
  replace F:=fc jw F
  try simp only[Ov,yB] at h
  obtain⟨⟨jb,kr⟩,jv,h⟩:=h
  replace F:=fc jv F
  try simp only[Ov,yB] at h
  obtain⟨gt,jt,lq,h⟩:=h
  simp only[I64] at gt
  simp only[I64] at jt
  simp only[I64] at lq
  obtain rfl:=yJ h
  refine go hS F ?_
  exact fin F
end
def s18 (N:Nat):Bt
 |[.agg [.v (.int .i64 eh),.v (.int .i64 d9),.v (.int .i64 de),.sl je _ u62 _,.v (.int .i64 ci),.v (.int .i64 u64)]]=>some (((je=2∨u62=[])∧u62=(u62.map R8).map R9)∧(Th N eh d9 de (u62.map R8) ci u64).isSome=true,.i ((Th N eh d9 de (u62.map R8) ci u64).getD 0))
 |_=>none
theorem fM (N:Nat):FOK Tryz.prog 18 (s18 N):=⟨mS,by
 intro args vc r h hv
 unfold s18 at h
 split at h
 ·cases h
  obtain⟨⟨co,cq⟩,hs⟩:=hv
  obtain⟨r,hr⟩:=yX hs
  have hk:=UQ N _ _ _ _ _ _ r hr
  simp only[hr,Option.getD_some]
  refine PCall.arg ?_ hk
  simp only[wkL,wk,and_true,true_and,yF,false_implies,implies_true]
  repeat' (first|exact yT|assumption|apply And.intro)
 ·simp at h⟩
def TO (N:Nat) (gr:Int) (gm:Int) (gj:Int) (a80:List (Int×Int)) (d8:Int) (dz:Int) (dw:Int) (du:Int) (dt:Int) (b86:List (Int×Int)) (dc:Int) (db:Int):Option Bool:=
 (Sk N gr gm gj a80 d8 dz).bind fun jl=>
 gd (jl=true→((Sk N dw du dt b86 dc db).isSome=true))<|
 some ((jl&&((Sk N dw du dt b86 dc db).getD false))&&(decide (max d8 dc<min dz db)))
def T50 (N:Nat):List (Nat×Bt):=[(12,s12 N)]
theorem XT (N:Nat):TabOK Tryz.prog (CC (T50 N)):=EC (UJ N) (BW)
section
attribute [local go_sem] T50 s12
theorem US (N:Nat) (gr:Int) (gm:Int) (gj:Int) (a80:List (Int×Int)) (d8:Int) (dz:Int) (dw:Int) (du:Int) (dt:Int) (b86:List (Int×Int)) (dc:Int) (db:Int) (r:Bool) (h:TO N gr gm gj a80 d8 dz dw du dt b86 dc db=some r):PCall Tryz.prog 50 [.agg [.i gr,.i gm,.i gj,.sl 2 false (a80.map R9) [.i 0,.i 0],.i d8,.i dz],.agg [.i dw,.i du,.i dt,.sl 2 false (b86.map R9) [.i 0,.i 0],.i dc,.i db]] (.b r):=by
 refine Jw (XT N) _ Tryz.func50 oU oV (by simp) fun _=> ?_
 have hS:=XT N
 have F:=f0
 unfold cJ cL
 unfold TO at h
 try simp only[Ov,yB] at h
 obtain⟨jl,ju,jd,h⟩:=h
 replace F:=fc ju F
 obtain rfl:=yJ h
 refine go hS F ?_
 exact fin F
end
def s50 (N:Nat):Bt
 |[.agg [.v (.int .i64 gr),.v (.int .i64 gm),.v (.int .i64 gj),.sl jk _ a80 _,.v (.int .i64 d8),.v (.int .i64 dz)],.agg [.v (.int .i64 dw),.v (.int .i64 du),.v (.int .i64 dt),.sl ji _ b86 _,.v (.int .i64 dc),.v (.int .i64 db)]]=>some (((jk=2∨a80=[])∧a80=(a80.map R8).map R9)∧((ji=2∨b86=[])∧b86=(b86.map R8).map R9)∧(TO N gr gm gj (a80.map R8) d8 dz dw du dt (b86.map R8) dc db).isSome=true,.b ((TO N gr gm gj (a80.map R8) d8 dz dw du dt (b86.map R8) dc db).getD false))
 |_=>none
theorem YE (N:Nat):FOK Tryz.prog 50 (s50 N):=⟨oW,by
 intro args vc r h hv
 unfold s50 at h
 split at h
 ·cases h
  obtain⟨⟨co,cq⟩,⟨ke,kh⟩,hs⟩:=hv
  obtain⟨r,hr⟩:=yX hs
  have hk:=US N _ _ _ _ _ _ _ _ _ _ _ _ r hr
  simp only[hr,Option.getD_some]
  refine PCall.arg ?_ hk
  simp only[wkL,wk,and_true,true_and,yF,false_implies,implies_true]
  repeat' (first|exact yT|assumption|apply And.intro)
 ·simp at h⟩
def Ti (N:Nat) (gi:Int) (gh:Int) (gg:Int) (a94:List (Int×Int)) (gf:Int) (ge:Int) (gc:Int) (fy:Int) (fx:Int) (b100:List (Int×Int)) (b9:Int) (b7:Int):Option Bool:=
 (TO N gi gh gg a94 gf ge gc fy fx b100 b9 b7).bind fun fq=>
 gd (fq=true→((SW N a94 b100).isSome=true))<|
 some (fq&&((SW N a94 b100).getD false))
def T22 (N:Nat):List (Nat×Bt):=[(50,s50 N),(53,s53 N)]
theorem XU (N:Nat):TabOK Tryz.prog (CC (T22 N)):=EC (YE N) (EC (Yl N) (BW))
section
attribute [local go_sem] T22 s50 s53
theorem UR (N:Nat) (gi:Int) (gh:Int) (gg:Int) (a94:List (Int×Int)) (gf:Int) (ge:Int) (gc:Int) (fy:Int) (fx:Int) (b100:List (Int×Int)) (b9:Int) (b7:Int) (r:Bool) (h:Ti N gi gh gg a94 gf ge gc fy fx b100 b9 b7=some r):PCall Tryz.prog 22 [.agg [.i gi,.i gh,.i gg,.sl 2 false (a94.map R9) [.i 0,.i 0],.i gf,.i ge],.agg [.i gc,.i fy,.i fx,.sl 2 false (b100.map R9) [.i 0,.i 0],.i b9,.i b7]] (.b r):=by
 refine Jw (XU N) _ Tryz.func22 nC nD (by simp) fun _=> ?_
 have hS:=XU N
 have F:=f0
 unfold aY aZ
 unfold Ti at h
 try simp only[Ov,yB] at h
 obtain⟨fq,i6,jd,h⟩:=h
 replace F:=fc i6 F
 obtain rfl:=yJ h
 refine go hS F ?_
 exact fin F
end
def s22 (N:Nat):Bt
 |[.agg [.v (.int .i64 gi),.v (.int .i64 gh),.v (.int .i64 gg),.sl jj _ a94 _,.v (.int .i64 gf),.v (.int .i64 ge)],.agg [.v (.int .i64 gc),.v (.int .i64 fy),.v (.int .i64 fx),.sl gy _ b100 _,.v (.int .i64 b9),.v (.int .i64 b7)]]=>some (((jj=2∨a94=[])∧a94=(a94.map R8).map R9)∧((gy=2∨b100=[])∧b100=(b100.map R8).map R9)∧(Ti N gi gh gg (a94.map R8) gf ge gc fy fx (b100.map R8) b9 b7).isSome=true,.b ((Ti N gi gh gg (a94.map R8) gf ge gc fy fx (b100.map R8) b9 b7).getD false))
 |_=>none
theorem fN (N:Nat):FOK Tryz.prog 22 (s22 N):=⟨nE,by
 intro args vc r h hv
 unfold s22 at h
 split at h
 ·cases h
  obtain⟨⟨co,cq⟩,⟨ke,kh⟩,hs⟩:=hv
  obtain⟨r,hr⟩:=yX hs
  have hk:=UR N _ _ _ _ _ _ _ _ _ _ _ _ r hr
  simp only[hr,Option.getD_some]
  refine PCall.arg ?_ hk
  simp only[wkL,wk,and_true,true_and,yF,false_implies,implies_true]
  repeat' (first|exact yT|assumption|apply And.intro)
 ·simp at h⟩
def Sx (N:Nat) (bh:Int) (bo:Int) (bn:Int) (a108:List (Int×Int)) (bg:Int) (be:Int) (bb:Int) (bm:Int) (bj:Int) (b114:List (Int×Int)) (ba:Int) (az:Int):Option ((Int×Int×((Int×Int)×(Int×Int))×Int×Int)×Bool):=
 (TO N bh bo bn a108 bg be bb bm bj b114 ba az).bind fun fo=>
 bif !fo then(
  some ((0,0,((0,0),(0,0)),0,0),false))
 else(
  (S5 N a108 b114).bind fun(((ig,ie),(ic,ib)),fm)=>
  bif !fm then(
   some ((0,0,((0,0),(0,0)),0,0),false))
  else(
   some ((bh,bb,((ig,ie),(ic,ib)),max bg ba,min be az),true)))
def T20 (N:Nat):List (Nat×Bt):=[(50,s50 N),(51,s51 N)]
theorem XV (N:Nat):TabOK Tryz.prog (CC (T20 N)):=EC (YE N) (EC (eJ N) (BW))
section
attribute [local go_sem] T20 s50 s51
theorem U5 (N:Nat) (bh:Int) (bo:Int) (bn:Int) (a108:List (Int×Int)) (bg:Int) (be:Int) (bb:Int) (bm:Int) (bj:Int) (b114:List (Int×Int)) (ba:Int) (az:Int) (r:(Int×Int×((Int×Int)×(Int×Int))×Int×Int)×Bool) (h:Sx N bh bo bn a108 bg be bb bm bj b114 ba az=some r):PCall Tryz.prog 20 [.agg [.i bh,.i bo,.i bn,.sl 2 false (a108.map R9) [.i 0,.i 0],.i bg,.i be],.agg [.i bb,.i bm,.i bj,.sl 2 false (b114.map R9) [.i 0,.i 0],.i ba,.i az]] (.tup [.agg [.i r.1.1,.i r.1.2.1,.i r.1.2.2.1.1.1,.i r.1.2.2.1.1.2,.i r.1.2.2.1.2.1,.i r.1.2.2.1.2.2,.i r.1.2.2.2.1,.i r.1.2.2.2.2],.b r.2]):=by
 refine Jw (XV N) _ Tryz.func20 mW mX (by simp) fun _=> ?_
 have hS:=XV N
 have F:=f0
 unfold aU aV
 unfold Sx at h
 try simp only[Ov,yB] at h
 obtain⟨fo,iz,h⟩:=h
 replace F:=fc iz F
 refine go hS F ?_
 refine cb F (!fo) (fun bi=> ?_) (fun bi=> ?_)
 ·replace h:=RT bi h
  obtain rfl:=yJ h
  refine go hS F ?_
  exact fin F
 ·replace h:=RU bi h
  try simp only[Ov,yB] at h
  obtain⟨⟨⟨⟨ig,ie⟩,⟨ic,ib⟩⟩,fm⟩,iy,h⟩:=h
  replace F:=fc iy F
  refine go hS F ?_
  refine cb F (!fm) (fun hc2=> ?_) (fun hc2=> ?_)
  ·replace h:=RT hc2 h
   obtain rfl:=yJ h
   refine go hS F ?_
   exact fin F
  ·replace h:=RU hc2 h
   obtain rfl:=yJ h
   refine go hS F ?_
   exact fin F
end
def s20 (N:Nat):Bt
 |[.agg [.v (.int .i64 bh),.v (.int .i64 bo),.v (.int .i64 bn),.sl gz _ a108 _,.v (.int .i64 bg),.v (.int .i64 be)],.agg [.v (.int .i64 bb),.v (.int .i64 bm),.v (.int .i64 bj),.sl gx _ b114 _,.v (.int .i64 ba),.v (.int .i64 az)]]=>some (((gz=2∨a108=[])∧a108=(a108.map R8).map R9)∧((gx=2∨b114=[])∧b114=(b114.map R8).map R9)∧(Sx N bh bo bn (a108.map R8) bg be bb bm bj (b114.map R8) ba az).isSome=true,.tup [.agg [.i ((((Sx N bh bo bn (a108.map R8) bg be bb bm bj (b114.map R8) ba az).getD ((0,0,((0,0),(0,0)),0,0),false)).1).1),.i ((((Sx N bh bo bn (a108.map R8) bg be bb bm bj (b114.map R8) ba az).getD ((0,0,((0,0),(0,0)),0,0),false)).1).2.1),.i ((((((Sx N bh bo bn (a108.map R8) bg be bb bm bj (b114.map R8) ba az).getD ((0,0,((0,0),(0,0)),0,0),false)).1).2.2.1).1).1),.i ((((((Sx N bh bo bn (a108.map R8) bg be bb bm bj (b114.map R8) ba az).getD ((0,0,((0,0),(0,0)),0,0),false)).1).2.2.1).1).2),.i ((((((Sx N bh bo bn (a108.map R8) bg be bb bm bj (b114.map R8) ba az).getD ((0,0,((0,0),(0,0)),0,0),false)).1).2.2.1).2).1),.i ((((((Sx N bh bo bn (a108.map R8) bg be bb bm bj (b114.map R8) ba az).getD ((0,0,((0,0),(0,0)),0,0),false)).1).2.2.1).2).2),.i ((((Sx N bh bo bn (a108.map R8) bg be bb bm bj (b114.map R8) ba az).getD ((0,0,((0,0),(0,0)),0,0),false)).1).2.2.2.1),.i ((((Sx N bh bo bn (a108.map R8) bg be bb bm bj (b114.map R8) ba az).getD ((0,0,((0,0),(0,0)),0,0),false)).1).2.2.2.2)],.b (((Sx N bh bo bn (a108.map R8) bg be bb bm bj (b114.map R8) ba az).getD ((0,0,((0,0),(0,0)),0,0),false)).2)])
 |_=>none
theorem fO (N:Nat):FOK Tryz.prog 20 (s20 N):=⟨mY,by
 intro args vc r h hv
 unfold s20 at h
 split at h
 ·cases h
  obtain⟨⟨co,cq⟩,⟨ke,kh⟩,hs⟩:=hv
  obtain⟨r,hr⟩:=yX hs
  have hk:=U5 N _ _ _ _ _ _ _ _ _ _ _ _ r hr
  simp only[hr,Option.getD_some]
  refine PCall.arg ?_ hk
  simp only[wkL,wk,and_true,true_and,yF,false_implies,implies_true]
  repeat' (first|exact yT|assumption|apply And.intro)
 ·simp at h⟩
def Tq (N:Nat) (u128:List (Int×Int)):Nat→Int→(List (Int×Int))→Option ((List (Int×Int)))
 |0,_,_=>none
 |n+1,i143,l144=>
  bif decide (i143<(u128.length:Int)) then(
   (nth u128 i143).bind fun(cy,ce)=>
   bif decide (ce=0) then(
    gd ((l144.length+1)*16≤140737488355328)<|
    gd (I64 (i143+1))<|
    Tq N u128 n (i143+1) (l144++[(cy,ce)]))
   else(
    gd (I64 (i143+1))<|
    Tq N u128 n (i143+1) l144))
  else(
   some l144)
def Sq (N:Nat) (ah:Int) (am:Int) (ak:Int) (u128:List (Int×Int)) (af:Int) (ae:Int):Option ((Int×Int×((Int×Int)×(Int×Int))×Int×Int)×Bool):=
 (Sk N ah am ak u128 af ae).bind fun fj=>
 bif !fj then(
  some ((0,0,((0,0),(0,0)),0,0),false))
 else(
  (Tq N u128 N 0 []).bind fun l152=>
  bif decide ((l152.length:Int)≠2) then(
   some ((0,0,((0,0),(0,0)),0,0),false))
  else(
   (nth l152 0).bind fun(ca,cu)=>
   (nth l152 1).bind fun(x157,cr)=>
   bif decide (x157<ca) then(
    some ((ah,(-1),((x157,cr),(ca,cu)),af,ae),true))
   else(
    some ((ah,(-1),((ca,cu),(x157,cr)),af,ae),true))))
def T10 (N:Nat):List (Nat×Bt):=[(12,s12 N)]
theorem XW (N:Nat):TabOK Tryz.prog (CC (T10 N)):=EC (UJ N) (BW)
section
attribute [local go_sem] T10 s12
theorem UT (N:Nat) (ah:Int) (am:Int) (ak:Int) (u128:List (Int×Int)) (af:Int) (ae:Int) (r:(Int×Int×((Int×Int)×(Int×Int))×Int×Int)×Bool) (h:Sq N ah am ak u128 af ae=some r):PCall Tryz.prog 10 [.agg [.i ah,.i am,.i ak,.sl 2 false (u128.map R9) [.i 0,.i 0],.i af,.i ae]] (.tup [.agg [.i r.1.1,.i r.1.2.1,.i r.1.2.2.1.1.1,.i r.1.2.2.1.1.2,.i r.1.2.2.1.2.1,.i r.1.2.2.1.2.2,.i r.1.2.2.2.1,.i r.1.2.2.2.2],.b r.2]):=by
 refine Jw (XW N) _ Tryz.func10 lS lT (by simp) fun _=> ?_
 have hS:=XW N
 have F:=f0
 unfold aA aB
 unfold Sq at h
 try simp only[Ov,yB] at h
 obtain⟨fj,iw,h⟩:=h
 replace F:=fc iw F
 refine go hS F ?_
 refine cb F (!fj) (fun bi=> ?_) (fun bi=> ?_)
 ·replace h:=RT bi h
  obtain rfl:=yJ h
  refine go hS F ?_
  exact fin F
 ·replace h:=RU bi h
  refine go hS F ?_
  refine Kh 1000001 4 2 [.i 0,.i 0] (by show(4:Nat)<68;omega) (by omega) (by simp only[go_sem,seval,F]<;>eq_refl) ?_
  try simp only[Ov,yB] at h
  obtain⟨ii,kc,h⟩:=h
  refine go hS F ?_
  refine Rx (fun z:(List (Int×Int))×Nat=>⟨[(1,.box (0,1) 0),(2,.box (1,1) 0),(4,.own (1000001,5) z.1.length)],[(.a (1000001,5),.sl 2 true (z.1.map R9) [.i 0,.i 0]),(.c (1,1) 0,.i 0),(.c (1,1) 1,.i 0),(.c (1,1) 2,.i 0),(.c (1,1) 3,.i 0),(.c (1,1) 4,.i 0),(.c (1,1) 5,.i 0),(.c (1,1) 6,.i 0),(.c (1,1) 7,.i 0),(.c (0,1) 0,.i ah),(.c (0,1) 1,.i am),(.c (0,1) 2,.i ak),(.c (0,1) 3,.sl 2 false (u128.map R9) [.i 0,.i 0]),(.c (0,1) 4,.i af),(.c (0,1) 5,.i ae)],z.2⟩) (fun z=>(z.1:(List (Int×Int)))=ii) (.x 0) ?_ ?_
  ·refine Ez (fun y:Nat×Int×(List (Int×Int))×Nat=>⟨[(1,.box (0,1) 0),(2,.box (1,1) 0),(4,.own (1000001,5) y.2.2.1.length),(5,.i y.2.1)],[(.a (1000001,5),.sl 2 true (y.2.2.1.map R9) [.i 0,.i 0]),(.c (1,1) 0,.i 0),(.c (1,1) 1,.i 0),(.c (1,1) 2,.i 0),(.c (1,1) 3,.i 0),(.c (1,1) 4,.i 0),(.c (1,1) 5,.i 0),(.c (1,1) 6,.i 0),(.c (1,1) 7,.i 0),(.c (0,1) 0,.i ah),(.c (0,1) 1,.i am),(.c (0,1) 2,.i ak),(.c (0,1) 3,.sl 2 false (u128.map R9) [.i 0,.i 0]),(.c (0,1) 4,.i af),(.c (0,1) 5,.i ae)],y.2.2.2⟩) (fun y=>Tq N u128 y.1 y.2.1 y.2.2.1=some ii) (fun y=>y.1) (N,0,[],5) kc ?_ ?_
   ·exact leF F
   ·rintro⟨n,i143,l144,fv⟩ aj
    try simp only at aj
    obtain _|n:=n
    ·exact absurd aj (by simp[Tq])
    rw[Tq] at aj
    refine go hS F ?_
    refine cb F (decide (i143<(u128.length:Int))) (fun cj=> ?_) (fun cj=> ?_)
    ·replace aj:=RT cj aj
     try simp only[Ov,yB] at aj
     obtain⟨⟨cy,ce⟩,dq,aj⟩:=aj
     have im:u128.getD i143.toNat (0,0)=(cy,ce):=ixs dq _
     have kl:=(Nr dq).1
     replace F:=fc im F
     refine go hS F ?_
     refine cb F (decide (ce=0)) (fun fr=> ?_) (fun fr=> ?_)
     ·replace aj:=RT fr aj
      try simp only[Ov,yB] at aj
      obtain⟨kg,js,aj⟩:=aj
      simp only[I64] at js
      refine go hS F ?_
      exact Fb (n,i143+1,l144++[(cy,ce)],fv+1+1+1+1) aj (Nat.lt_succ_self _) (leF F)
     ·replace aj:=RU fr aj
      try simp only[Ov,yB] at aj
      obtain⟨kf,aj⟩:=aj
      simp only[I64] at kf
      refine go hS F ?_
      exact Fb (n,i143+1,l144,fv+1+1+1) aj (Nat.lt_succ_self _) (leF F)
    ·replace aj:=RU cj aj
     refine go hS F ?_
     exact RW (l144,fv+1) (yJ aj) (leF F)
  ·rintro⟨l152,lr⟩ lj
   subst lj
   try simp only at h
   refine go hS F ?_
   refine cb F (decide ((l152.length:Int)≠2)) (fun fu=> ?_) (fun fu=> ?_)
   ·replace h:=RT fu h
    obtain rfl:=yJ h
    refine go hS F ?_
    exact fin F
   ·replace h:=RU fu h
    try simp only[Ov,yB] at h
    obtain⟨⟨ca,cu⟩,dp,h⟩:=h
    have il:l152.getD 0 (0,0)=(ca,cu):=ixs dp _
    have kj:=(Nr dp).1
    replace F:=fc il F
    try simp only[Ov,yB] at h
    obtain⟨⟨x157,cr⟩,dm,h⟩:=h
    have ij:l152.getD 1 (0,0)=(x157,cr):=ixs dm _
    have ki:=(Nr dm).1
    replace F:=fc ij F
    refine go hS F ?_
    refine cb F (decide (x157<ca)) (fun ft=> ?_) (fun ft=> ?_)
    ·replace h:=RT ft h
     obtain rfl:=yJ h
     refine go hS F ?_
     exact fin F
    ·replace h:=RU ft h
     obtain rfl:=yJ h
     refine go hS F ?_
     exact fin F
end
def s10 (N:Nat):Bt
 |[.agg [.v (.int .i64 ah),.v (.int .i64 am),.v (.int .i64 ak),.sl gw _ u128 _,.v (.int .i64 af),.v (.int .i64 ae)]]=>some (((gw=2∨u128=[])∧u128=(u128.map R8).map R9)∧(Sq N ah am ak (u128.map R8) af ae).isSome=true,.tup [.agg [.i ((((Sq N ah am ak (u128.map R8) af ae).getD ((0,0,((0,0),(0,0)),0,0),false)).1).1),.i ((((Sq N ah am ak (u128.map R8) af ae).getD ((0,0,((0,0),(0,0)),0,0),false)).1).2.1),.i ((((((Sq N ah am ak (u128.map R8) af ae).getD ((0,0,((0,0),(0,0)),0,0),false)).1).2.2.1).1).1),.i ((((((Sq N ah am ak (u128.map R8) af ae).getD ((0,0,((0,0),(0,0)),0,0),false)).1).2.2.1).1).2),.i ((((((Sq N ah am ak (u128.map R8) af ae).getD ((0,0,((0,0),(0,0)),0,0),false)).1).2.2.1).2).1),.i ((((((Sq N ah am ak (u128.map R8) af ae).getD ((0,0,((0,0),(0,0)),0,0),false)).1).2.2.1).2).2),.i ((((Sq N ah am ak (u128.map R8) af ae).getD ((0,0,((0,0),(0,0)),0,0),false)).1).2.2.2.1),.i ((((Sq N ah am ak (u128.map R8) af ae).getD ((0,0,((0,0),(0,0)),0,0),false)).1).2.2.2.2)],.b (((Sq N ah am ak (u128.map R8) af ae).getD ((0,0,((0,0),(0,0)),0,0),false)).2)])
 |_=>none
theorem fP (N:Nat):FOK Tryz.prog 10 (s10 N):=⟨lU,by
 intro args vc r h hv
 unfold s10 at h
 split at h
 ·cases h
  obtain⟨⟨co,cq⟩,hs⟩:=hv
  obtain⟨r,hr⟩:=yX hs
  have hk:=UT N _ _ _ _ _ _ r hr
  simp only[hr,Option.getD_some]
  refine PCall.arg ?_ hk
  simp only[wkL,wk,and_true,true_and,yF,false_implies,implies_true]
  repeat' (first|exact yT|assumption|apply And.intro)
 ·simp at h⟩
def SU (N:Nat) (bv:Int) (bu:Int) (br:Int) (u163:List (Int×Int)) (bq:Int) (bp:Int) (ab:Int) (aa:Int):Option ((Int×Int×Int×(List (Int×Int))×Int×Int)×Int):=
 (Sk N bv bu br u163 bq bp).bind fun fh=>
 bif !fh then(
  some ((0,0,0,[],0,0),80))
 else(
  (Uc N u163 ab aa).bind fun(g9,r171)=>
  bif decide (r171≠0) then(
   some ((0,0,0,[],0,0),80))
  else(
   some ((bv,bu,br,g9,bq,bp),0)))
def T25 (N:Nat):List (Nat×Bt):=[(12,s12 N),(55,s55 N)]
theorem XX (N:Nat):TabOK Tryz.prog (CC (T25 N)):=EC (UJ N) (EC (fF N) (BW))
section
attribute [local go_sem] T25 s12 s55
theorem Vl (N:Nat) (bv:Int) (bu:Int) (br:Int) (u163:List (Int×Int)) (bq:Int) (bp:Int) (ab:Int) (aa:Int) (r:(Int×Int×Int×(List (Int×Int))×Int×Int)×Int) (h:SU N bv bu br u163 bq bp ab aa=some r):PCall Tryz.prog 25 [.agg [.i bv,.i bu,.i br,.sl 2 false (u163.map R9) [.i 0,.i 0],.i bq,.i bp],.i ab,.i aa] (.tup [.agg [.i r.1.1,.i r.1.2.1,.i r.1.2.2.1,.sl 2 false (r.1.2.2.2.1.map R9) [.i 0,.i 0],.i r.1.2.2.2.2.1,.i r.1.2.2.2.2.2],.i r.2]):=by
 refine Jw (XX N) _ Tryz.func25 nL nN (by simp) fun _=> ?_
 have hS:=XX N
 have F:=f0
 unfold bE bF
 unfold SU at h
 try simp only[Ov,yB] at h
 obtain⟨fh,iv,h⟩:=h
 replace F:=fc iv F
 refine go hS F ?_
 refine cb F (!fh) (fun bi=> ?_) (fun bi=> ?_)
 ·replace h:=RT bi h
  obtain rfl:=yJ h
  refine go hS F ?_
  exact fin F
 ·replace h:=RU bi h
  try simp only[Ov,yB] at h
  obtain⟨⟨g9,r171⟩,iu,h⟩:=h
  replace F:=fc iu F
  refine go hS F ?_
  refine cb F (decide (r171≠0)) (fun hc2=> ?_) (fun hc2=> ?_)
  ·replace h:=RT hc2 h
   obtain rfl:=yJ h
   refine go hS F ?_
   exact fin F
  ·replace h:=RU hc2 h
   obtain rfl:=yJ h
   refine go hS F ?_
   exact fin F
end
def s25 (N:Nat):Bt
 |[.agg [.v (.int .i64 bv),.v (.int .i64 bu),.v (.int .i64 br),.sl gv _ u163 _,.v (.int .i64 bq),.v (.int .i64 bp)],.v (.int .i64 ab),.v (.int .i64 aa)]=>some (((gv=2∨u163=[])∧u163=(u163.map R8).map R9)∧(SU N bv bu br (u163.map R8) bq bp ab aa).isSome=true,.tup [.agg [.i ((((SU N bv bu br (u163.map R8) bq bp ab aa).getD ((0,0,0,[],0,0),0)).1).1),.i ((((SU N bv bu br (u163.map R8) bq bp ab aa).getD ((0,0,0,[],0,0),0)).1).2.1),.i ((((SU N bv bu br (u163.map R8) bq bp ab aa).getD ((0,0,0,[],0,0),0)).1).2.2.1),.sl 2 false (((((SU N bv bu br (u163.map R8) bq bp ab aa).getD ((0,0,0,[],0,0),0)).1).2.2.2.1).map R9) [.i 0,.i 0],.i ((((SU N bv bu br (u163.map R8) bq bp ab aa).getD ((0,0,0,[],0,0),0)).1).2.2.2.2.1),.i ((((SU N bv bu br (u163.map R8) bq bp ab aa).getD ((0,0,0,[],0,0),0)).1).2.2.2.2.2)],.i (((SU N bv bu br (u163.map R8) bq bp ab aa).getD ((0,0,0,[],0,0),0)).2)])
 |_=>none
theorem fQ (N:Nat):FOK Tryz.prog 25 (s25 N):=⟨nP,by
 intro args vc r h hv
 unfold s25 at h
 split at h
 ·cases h
  obtain⟨⟨co,cq⟩,hs⟩:=hv
  obtain⟨r,hr⟩:=yX hs
  have hk:=Vl N _ _ _ _ _ _ _ _ r hr
  simp only[hr,Option.getD_some]
  refine PCall.arg ?_ hk
  simp only[wkL,wk,and_true,true_and,yF,false_implies,implies_true]
  repeat' (first|exact yT|assumption|apply And.intro)
 ·simp at h⟩
def S2 (N:Nat) (ay:Int) (aw:Int) (av:Int) (u176:List (Int×Int)) (au:Int) (aq:Int) (how179:Int) (an:Int) (ai:Int):Option (Int×Int×Int×(List (Int×Int))×Int×Int):=
 gd ((u176.length)*16≤140737488355328)<|
 (SI N how179 6).bind fun bw=>
 bif decide (bw=0) then(
  some (an,aw,av,u176,au,aq))
 else(
  bif decide (bw=1) then(
   some (ay,an,av,u176,au,aq))
  else(
   bif decide (bw=2) then(
    some (ay,aw,an,u176,au,aq))
   else(
    bif decide (bw=3) then(
     some (ay,aw,av,u176,an,aq))
    else(
     bif decide (bw=4) then(
      some (ay,aw,av,u176,au,an))
     else(
      gd (I64 (how179.tdiv 6))<|
      (Uo N u176 ai an (how179.tdiv 6)).bind fun g8=>
      some (ay,aw,av,g8,au,aq))))))
def T6 (N:Nat):List (Nat×Bt):=[(36,s36 N),(37,s37 N)]
theorem YF (N:Nat):TabOK Tryz.prog (CC (T6 N)):=EC (Yy N) (EC (fG N) (BW))
section
attribute [local go_sem] T6 s36 s37
theorem Vm (N:Nat) (ay:Int) (aw:Int) (av:Int) (u176:List (Int×Int)) (au:Int) (aq:Int) (how179:Int) (an:Int) (ai:Int) (r:Int×Int×Int×(List (Int×Int))×Int×Int) (h:S2 N ay aw av u176 au aq how179 an ai=some r):PCall Tryz.prog 6 [.agg [.i ay,.i aw,.i av,.sl 2 false (u176.map R9) [.i 0,.i 0],.i au,.i aq],.i how179,.i an,.i ai] (.agg [.i r.1,.i r.2.1,.i r.2.2.1,.sl 2 false (r.2.2.2.1.map R9) [.i 0,.i 0],.i r.2.2.2.2.1,.i r.2.2.2.2.2]):=by
 refine Jw (YF N) _ Tryz.func6 ok6 nt6 (by simp) fun _=> ?_
 have hS:=YF N
 have F:=f0
 unfold ac6 rv6
 unfold S2 at h
 try simp only[Ov,yB] at h
 obtain⟨jd,bw,ir,h⟩:=h
 replace F:=fc ir F
 refine go hS F ?_
 refine cb F (decide (bw=0)) (fun hc2=> ?_) (fun hc2=> ?_)
 ·replace h:=RT hc2 h
  obtain rfl:=yJ h
  refine go hS F ?_
  exact fin F
 ·replace h:=RU hc2 h
  refine go hS F ?_
  refine cb F (decide (bw=1)) (fun j9=> ?_) (fun j9=> ?_)
  ·replace h:=RT j9 h
   obtain rfl:=yJ h
   refine go hS F ?_
   exact fin F
  ·replace h:=RU j9 h
   refine go hS F ?_
   refine cb F (decide (bw=2)) (fun cj=> ?_) (fun cj=> ?_)
   ·replace h:=RT cj h
    obtain rfl:=yJ h
    refine go hS F ?_
    exact fin F
   ·replace h:=RU cj h
    refine go hS F ?_
    refine cb F (decide (bw=3)) (fun fr=> ?_) (fun fr=> ?_)
    ·replace h:=RT fr h
     obtain rfl:=yJ h
     refine go hS F ?_
     exact fin F
    ·replace h:=RU fr h
     refine go hS F ?_
     refine cb F (decide (bw=4)) (fun j8=> ?_) (fun j8=> ?_)
     ·replace h:=RT j8 h
      obtain rfl:=yJ h
      refine go hS F ?_
      exact fin F
     ·replace h:=RU j8 h
      try simp only[Ov,yB] at h
      obtain⟨js,g8,iq,h⟩:=h
      simp only[I64] at js
      replace F:=fc iq F
      obtain rfl:=yJ h
      refine go hS F ?_
      exact fin F
end
def s6 (N:Nat):Bt
 |[.agg [.v (.int .i64 ay),.v (.int .i64 aw),.v (.int .i64 av),.sl gu _ u176 _,.v (.int .i64 au),.v (.int .i64 aq)],.v (.int .i64 how179),.v (.int .i64 an),.v (.int .i64 ai)]=>some (((gu=2∨u176=[])∧u176=(u176.map R8).map R9)∧(S2 N ay aw av (u176.map R8) au aq how179 an ai).isSome=true,.agg [.i (((S2 N ay aw av (u176.map R8) au aq how179 an ai).getD (0,0,0,[],0,0)).1),.i (((S2 N ay aw av (u176.map R8) au aq how179 an ai).getD (0,0,0,[],0,0)).2.1),.i (((S2 N ay aw av (u176.map R8) au aq how179 an ai).getD (0,0,0,[],0,0)).2.2.1),.sl 2 false ((((S2 N ay aw av (u176.map R8) au aq how179 an ai).getD (0,0,0,[],0,0)).2.2.2.1).map R9) [.i 0,.i 0],.i (((S2 N ay aw av (u176.map R8) au aq how179 an ai).getD (0,0,0,[],0,0)).2.2.2.2.1),.i (((S2 N ay aw av (u176.map R8) au aq how179 an ai).getD (0,0,0,[],0,0)).2.2.2.2.2)])
 |_=>none
theorem qN (N:Nat):FOK Tryz.prog 6 (s6 N):=⟨of6,by
 intro args vc r h hv
 unfold s6 at h
 split at h
 ·cases h
  obtain⟨⟨co,cq⟩,hs⟩:=hv
  obtain⟨r,hr⟩:=yX hs
  have hk:=Vm N _ _ _ _ _ _ _ _ _ r hr
  simp only[hr,Option.getD_some]
  refine PCall.arg ?_ hk
  simp only[wkL,wk,and_true,true_and,yF,false_implies,implies_true]
  repeat' (first|exact yT|assumption|apply And.intro)
 ·simp at h⟩
end Go.Proofs.YtdabfcbelkjmgaaGreatDoor.Am
