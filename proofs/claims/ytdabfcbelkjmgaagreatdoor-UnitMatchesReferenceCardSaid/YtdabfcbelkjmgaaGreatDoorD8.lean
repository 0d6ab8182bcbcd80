import Derived.Test.YtdabfcbelkjmgaaGreatDoorD6
import Derived.Test.YtdabfcbelkjmgaaGreatDoorD7
import Derived.Test.YtdabfcbelkjmgaaGreatDoorP3
namespace Go.Proofs.YtdabfcbelkjmgaaGreatDoor.Am
open Go
attribute [local irreducible] awp Ed Df Dr Ee Bz B8 Dg DM itK
set_option maxRecDepth 100000
set_option maxHeartbeats 8000000
set_option linter.unusedSimpArgs false
set_option linter.unusedVariables false
def TD (N:Nat) (ah:Int) (af:Int) (ae:Int) (ab:Int):List ((Int×Int)×(Int×Int))→Option (Sum Unit ((((Int×Int)×(Int×Int))×Bool)))
 |[]=>
  some (.inl ())
 |((bg,be),(av,au))::ys=>
  (S0 N ah af ae ab bg be).bind fun ay=>
  gd ((!(decide (ay≠0)))=true→((S0 N ah af ae ab av au).isSome=true))<|
  bif (decide (ay≠0))||(decide ((S0 N ah af ae ab av au).getD 0≠0)) then(
   TD N ah af ae ab ys)
  else(
   (Tu N ah af ae ab bg be av au).bind fun((an,am),(ak,aj))=>
   gd ((!(decide (an=ak)&&decide (am=aj)))=true→((SY N an am ak aj).isSome=true))<|
   bif (decide (an=ak)&&decide (am=aj))||(decide (0<(SY N an am ak aj).getD 0)) then(
    TD N ah af ae ab ys)
   else(
    (SY N ah af ae ab).bind fun bh=>
    bif decide (0<bh) then(
     some (.inr (((ak,aj),(an,am)),true)))
    else(
     some (.inr (((an,am),(ak,aj)),true)))))
def TX (N:Nat) (b864:List (Int×Int)):List ((Int×Int)×(Int×Int))→Option (Sum Unit ((((Int×Int)×(Int×Int))×Bool)))
 |[]=>
  some (.inl ())
 |((ah,af),(ae,ab))::ys=>
  gd (b864.length≤1000000000)<|
  (TD N ah af ae ab (AS b864)).bind fun ba=>match ba with
   | .inl ()=>(
    TX N b864 ys)
   | .inr b7=>(
    some (.inr b7))
def TL (N:Nat) (a863:List (Int×Int)) (b864:List (Int×Int)):Option (((Int×Int)×(Int×Int))×Bool):=
 (Sm N a863).bind fun aw=>
 gd ((!(!aw))=true→((Sm N b864).isSome=true))<|
 gd ((!((!aw)||(!((Sm N b864).getD false))))=true→((S6 N a863 b864).isSome=true))<|
 bif ((!aw)||(!((Sm N b864).getD false)))||((S6 N a863 b864).getD false) then(
  some (((0,0),(0,0)),false))
 else(
  gd (a863.length≤1000000000)<|
  (TX N b864 (AS a863)).bind fun az=>match az with
   | .inl ()=>(
    some (((0,0),(0,0)),false))
   | .inr bz=>(
    some bz))
def T49 (N:Nat):List (Nat×Bt):=[(40,s40 N),(52,s52 N),(71,Mk),(67,s67 N),(72,s72 N),(73,s73 N)]
theorem Xp (N:Nat):TabOK Tryz.prog (CC (T49 N)):=EC (Vs N) (EC (Ym N) (EC QU (EC (VX N) (EC (fA N) (EC (Wn N) (BW))))))
section
attribute [local go_sem] T49 s40 s52 Mk s67 s72 s73 R9 Sf Sg R8 RX Qr Qs List.set_cons_succ List.isEmpty_map List.map_append List.map_eq_nil_iff ne_eq List.length_replicate RG RH List.length_set Option.isSome_some
theorem V7 (N:Nat) (a863:List (Int×Int)) (b864:List (Int×Int)) (r:((Int×Int)×(Int×Int))×Bool) (h:TL N a863 b864=some r):PCall Tryz.prog 49 [.sl 2 false (a863.map R9) [.i 0,.i 0],.sl 2 false (b864.map R9) [.i 0,.i 0]] (.tup [.agg [.i r.1.1.1,.i r.1.1.2,.i r.1.2.1,.i r.1.2.2],.b r.2]):=by
 refine Jw (Xp N) _ Tryz.func49 gZ hH (by simp) fun _=> ?_
 have hS:=Xp N
 have F:=f0
 unfold Y2 Y3
 unfold TL at h
 try simp only[Ov,yB] at h
 obtain⟨aw,bv,dc,db,h⟩:=h
 replace F:=fc bv F
 refine go hS F ?_
 refine cb F (((!aw)||(!((Sm N b864).getD false)))||((S6 N a863 b864).getD false)) (fun ce=> ?_) (fun ce=> ?_)
 ·replace h:=RT ce h
  obtain rfl:=yJ h
  refine go hS F ?_
  exact fin F
 ·replace h:=RU ce h
  try simp only[Ov,yB] at h
  obtain⟨c8,h⟩:=h
  try simp only[Ov,yB] at h
  obtain⟨az,cr,h⟩:=h
  refine go hS F ?_
  refine Rx (fun z:Nat=>⟨[(4,.box (1,1) 0),(5,.box (2,1) 0)],[(.c (2,1) 0,.b false),(.c (1,1) 0,.i 0),(.c (1,1) 1,.i 0),(.c (1,1) 2,.i 0),(.c (1,1) 3,.i 0)],z⟩) (fun z=>(.inl ():Sum Unit ((((Int×Int)×(Int×Int))×Bool)))=az) .n ?_ ?_
  ·refine QM (fun y:Nat×Nat=>([(.c (2,1) 0,.b false),(.c (1,1) 0,.i 0),(.c (1,1) 1,.i 0),(.c (1,1) 2,.i 0),(.c (1,1) 3,.i 0),(.c (0,1) 0,.sl 2 false (b864.map R9) [.i 0,.i 0])],y.2)) (fun y=>TX N b864 ((AS a863).drop y.1)=some az∧y.1≤(AS a863).length) (fun y=>y.1) (0,3) (by simp only[go_sem,seval,F]<;>eq_refl) (Rj a863 false (by assumption)) Wo ⟨rfl,rfl⟩ (by simp) (by intro a ha;obtain⟨y,_,rfl⟩:=List.mem_map.1 ha;exact⟨rfl,rfl⟩) ⟨cr,Nat.zero_le _⟩ rfl ?_ ?_ ?_
   ·exact leF F
   ·rintro l ⟨n,ai⟩ ⟨aq,hle⟩ args cn
    obtain⟨⟨⟨ah,af⟩,⟨ae,ab⟩⟩,ck,rfl,hlt⟩:=OY cn
    rw[ck,TX] at aq
    try simp only at aq
    clear cn ck
    simp only[edA,Dt]
    try simp only[Ov,yB] at aq
    obtain⟨c7,aq⟩:=aq
    try simp only[Ov,yB] at aq
    obtain⟨ba,ci,aq⟩:=aq
    refine go hS F ?_
    refine Rx (fun z:Nat=>⟨[(3,.box (0,1) 0),(4,.box (1,1) 0),(5,.box (2,1) 0),(6,.box (400,ai+1) 0),(7,.box (500,ai+1+1) 0),(27,.clo (.func 85) [] [.ro [.sl 2 false (a863.map R9) [.i 0,.i 0]] 0]),(28,.agg [.i ah,.i af]),(29,.agg [.i ae,.i ab])],[(.c (500,ai+1+1) 0,.i ae),(.c (500,ai+1+1) 1,.i ab),(.c (400,ai+1) 0,.i ah),(.c (400,ai+1) 1,.i af),(.c (2,1) 0,.b false),(.c (1,1) 0,.i 0),(.c (1,1) 1,.i 0),(.c (1,1) 2,.i 0),(.c (1,1) 3,.i 0),(.c (0,1) 0,.sl 2 false (b864.map R9) [.i 0,.i 0])],z⟩) (fun z=>(.inl ():Sum Unit ((((Int×Int)×(Int×Int))×Bool)))=ba) .n ?_ ?_
    ·refine QN (fun y:Nat×Nat=>([(.c (500,ai+1+1) 0,.i ae),(.c (500,ai+1+1) 1,.i ab),(.c (400,ai+1) 0,.i ah),(.c (400,ai+1) 1,.i af),(.c (2,1) 0,.b false),(.c (1,1) 0,.i 0),(.c (1,1) 1,.i 0),(.c (1,1) 2,.i 0),(.c (1,1) 3,.i 0),(.c (0,1) 0,.sl 2 false (b864.map R9) [.i 0,.i 0])],y.2)) (fun y=>TD N ah af ae ab ((AS b864).drop y.1)=some ba∧y.1≤(AS b864).length) (fun y=>y.1) (0,ai+1+1+1) (by simp only[go_sem,seval,F]<;>eq_refl) (Rj b864 false (by assumption)) Wo ⟨rfl,rfl⟩ (by simp) (by intro a ha;obtain⟨y,_,rfl⟩:=List.mem_map.1 ha;exact⟨rfl,rfl⟩) (Rm b864 false _) ⟨ci,Nat.zero_le _⟩ rfl ?_ ?_ ?_
     ·exact leF F
     ·rintro l ⟨n,bb⟩ ⟨aa,hle⟩ args bw
      obtain⟨⟨⟨bg,be⟩,⟨av,au⟩⟩,bp,rfl,hlt⟩:=OY bw
      rw[bp,TD] at aa
      try simp only at aa
      clear bw bp
      simp only[edA,Dt]
      try simp only[Ov,yB] at aa
      obtain⟨ay,bu,cq,aa⟩:=aa
      replace F:=fc bu F
      refine go hS F ?_
      refine cb F ((decide (ay≠0))||(decide ((S0 N ah af ae ab av au).getD 0≠0))) (fun bm=> ?_) (fun bm=> ?_)
      ·replace aa:=RT bm aa
       refine go hS F ?_
       exact L0 (n+1,bb+1+1+1) ⟨aa,by omega⟩ rfl (leF F)
      ·replace aa:=RU bm aa
       try simp only[Ov,yB] at aa
       obtain⟨⟨⟨an,am⟩,⟨ak,aj⟩⟩,br,aa⟩:=aa
       replace F:=fc br F
       try simp only[Ov,yB] at aa
       obtain⟨co,aa⟩:=aa
       refine go hS F ?_
       refine cb F ((decide (an=ak)&&decide (am=aj))||(decide (0<(SY N an am ak aj).getD 0))) (fun bj=> ?_) (fun bj=> ?_)
       ·replace aa:=RT bj aa
        refine go hS F ?_
        exact L0 (n+1,bb+1+1+1+1+1) ⟨aa,by omega⟩ rfl (leF F)
       ·replace aa:=RU bj aa
        try simp only[Ov,yB] at aa
        obtain⟨bh,bq,aa⟩:=aa
        replace F:=fc bq F
        refine go hS F ?_
        refine cb F (decide (0<bh)) (fun bi=> ?_) (fun bi=> ?_)
        ·replace aa:=RT bi aa
         obtain rfl:=yJ aa
         try simp only at aq
         obtain rfl:=yJ aq
         try simp only at h
         obtain rfl:=yJ h
         refine go hS F ?_
         exact fin F
        ·replace aa:=RU bi aa
         obtain rfl:=yJ aa
         try simp only at aq
         obtain rfl:=yJ aq
         try simp only at h
         obtain rfl:=yJ h
         refine go hS F ?_
         exact fin F
     ·rintro⟨n,bb⟩ ⟨aa,hle⟩ hk
      rw[show n=_ from hk,Rk,TD] at aa
      try simp only at aa
      refine go hS F ?_
      exact RW (bb) (yJ aa) (leF F)
    ·rintro cj ca
     subst ca
     try simp only at aq
     refine go hS F ?_
     exact L0 (n+1,cj) ⟨aq,by omega⟩ rfl (leF F)
   ·rintro⟨n,ai⟩ ⟨aq,hle⟩ hk
    rw[show n=_ from hk,Rk,TX] at aq
    try simp only at aq
    refine go hS F ?_
    exact RW (ai) (yJ aq) (leF F)
  ·rintro cu b9
   subst b9
   try simp only at h
   obtain rfl:=yJ h
   refine go hS F ?_
   exact fin F
end
def s49 (N:Nat):Bt
 |[.sl bo _ a863 _,.sl bn _ b864 _]=>some (((bo=2∨a863=[])∧a863=(a863.map R8).map R9)∧((bn=2∨b864=[])∧b864=(b864.map R8).map R9)∧(TL N (a863.map R8) (b864.map R8)).isSome=true,.tup [.agg [.i (((((TL N (a863.map R8) (b864.map R8)).getD (((0,0),(0,0)),false)).1).1).1),.i (((((TL N (a863.map R8) (b864.map R8)).getD (((0,0),(0,0)),false)).1).1).2),.i (((((TL N (a863.map R8) (b864.map R8)).getD (((0,0),(0,0)),false)).1).2).1),.i (((((TL N (a863.map R8) (b864.map R8)).getD (((0,0),(0,0)),false)).1).2).2)],.b (((TL N (a863.map R8) (b864.map R8)).getD (((0,0),(0,0)),false)).2)])
 |_=>none
theorem fB (N:Nat):FOK Tryz.prog 49 (s49 N):=⟨iA,by
 intro args vc r h hv
 unfold s49 at h
 split at h
 ·cases h
  obtain⟨⟨cz,dg⟩,⟨cy,de⟩,hs⟩:=hv
  obtain⟨r,hr⟩:=yX hs
  have hk:=V7 N _ _ r hr
  simp only[hr,Option.getD_some]
  refine PCall.arg ?_ hk
  simp only[wkL,wk,and_true,true_and,yF,false_implies,implies_true]
  repeat' (first|exact yT|assumption|apply And.intro)
 ·simp at h⟩
end Go.Proofs.YtdabfcbelkjmgaaGreatDoor.Am
