import Derived.Test.YtdabfcbelkjmgaaGreatDoorD1
namespace Go.Proofs.YtdabfcbelkjmgaaGreatDoor.Am
open Go
attribute [local irreducible] awp Ed Df Dr Ee Bz B8 Dg DM itK
set_option maxRecDepth 100000
set_option maxHeartbeats 8000000
set_option linter.unusedSimpArgs false
set_option linter.unusedVariables false
def e_i (x:Int):List AV:=[.i x]
def d_i:List AV→Int
 |[.v (.int _ a1)]=>a1
 |_=>0
theorem qJ (x:Int):d_i (e_i x)=x:=by rfl
theorem Wp (R:List Int):(R.map e_i).map d_i=R:=by
 induction R with
 |nil=>rfl
 |cons r R ih=>rw[List.map_cons,List.map_cons,ih,qJ]
theorem Wq (R:List Int) (i:Nat):C1 (R.map e_i) [.i 0] i=e_i (R.getD i 0):=by
 unfold C1;rw[List.getD_eq_getElem?_getD,List.getD_eq_getElem?_getD,List.getElem?_map];cases R[i]? <;>rfl
def S0 (N:Nat) (ab:Int) (aa:Int) (ak:Int) (aj:Int) (ai:Int) (ah:Int):Option Int:=
 gd (I64 (ak-ab))<|
 gd (I64 (ah-aa))<|
 gd (I64 ((ak-ab)*(ah-aa)))<|
 gd (I64 (aj-aa))<|
 gd (I64 (ai-ab))<|
 gd (I64 ((aj-aa)*(ai-ab)))<|
 gd (I64 (((ak-ab)*(ah-aa))-((aj-aa)*(ai-ab))))<|
 some (((ak-ab)*(ah-aa))-((aj-aa)*(ai-ab)))
def T67 (N:Nat):List (Nat×Bt):=[]
theorem W5 (N:Nat):TabOK Tryz.prog (CC (T67 N)):=BW
attribute [local go_sem] RX Qr Qs List.set_cons_succ List.isEmpty_map List.map_append List.map_eq_nil_iff ne_eq List.length_replicate RG RH List.length_set Option.isSome_some
section
attribute [local go_sem] T67
theorem VW (N:Nat) (ab:Int) (aa:Int) (ak:Int) (aj:Int) (ai:Int) (ah:Int) (r:Int) (h:S0 N ab aa ak aj ai ah=some r):PCall Tryz.prog 67 [.agg [.i ab,.i aa],.agg [.i ak,.i aj],.agg [.i ai,.i ah]] (.i r):=by
 refine Jw (W5 N) _ Tryz.func67 jC jD (by simp) fun _=> ?_
 have hS:=W5 N
 have F:=f0
 unfold Zp Zq
 unfold S0 at h
 try simp only[Ov,yB] at h
 obtain⟨cy,cu,cr,cq,ca,co,cn,h⟩:=h
 simp only[I64] at cy
 simp only[I64] at cu
 simp only[I64] at cr
 simp only[I64] at cq
 simp only[I64] at ca
 simp only[I64] at co
 simp only[I64] at cn
 obtain rfl:=yJ h
 refine go hS F ?_
 exact fin F
end
def s67 (N:Nat):Bt
 |[.agg [.v (.int .i64 ab),.v (.int .i64 aa)],.agg [.v (.int .i64 ak),.v (.int .i64 aj)],.agg [.v (.int .i64 ai),.v (.int .i64 ah)]]=>some ((S0 N ab aa ak aj ai ah).isSome=true,.i ((S0 N ab aa ak aj ai ah).getD 0))
 |_=>none
theorem VX (N:Nat):FOK Tryz.prog 67 (s67 N):=⟨jE,by
 intro args vc r h hv
 unfold s67 at h
 split at h
 ·cases h
  have hs:=hv
  obtain⟨r,hr⟩:=yX hs
  have hk:=VW N _ _ _ _ _ _ r hr
  simp only[hr,Option.getD_some]
  refine PCall.arg ?_ hk
  simp only[wkL,wk,and_true,true_and,yF,false_implies,implies_true]
  try trivial
 ·simp at h⟩
def Us (N:Nat) (au:Int) (aq:Int):Option Bool:=
 some ((decide (min au aq<0))||(decide (40<max au aq)))
def T66 (N:Nat):List (Nat×Bt):=[]
theorem W6 (N:Nat):TabOK Tryz.prog (CC (T66 N)):=BW
section
attribute [local go_sem] T66
theorem VN (N:Nat) (au:Int) (aq:Int) (r:Bool) (h:Us N au aq=some r):PCall Tryz.prog 66 [.agg [.i au,.i aq]] (.b r):=by
 refine Jw (W6 N) _ Tryz.func66 iZ jA (by simp) fun _=> ?_
 have hS:=W6 N
 have F:=f0
 unfold Zn Zo
 unfold Us at h
 obtain rfl:=yJ h
 refine go hS F ?_
 exact fin F
end
def s66 (N:Nat):Bt
 |[.agg [.v (.int .i64 au),.v (.int .i64 aq)]]=>some ((Us N au aq).isSome=true,.b ((Us N au aq).getD false))
 |_=>none
theorem eK (N:Nat):FOK Tryz.prog 66 (s66 N):=⟨jB,by
 intro args vc r h hv
 unfold s66 at h
 split at h
 ·cases h
  have hs:=hv
  obtain⟨r,hr⟩:=yX hs
  have hk:=VN N _ _ r hr
  simp only[hr,Option.getD_some]
  refine PCall.arg ?_ hk
  simp only[wkL,wk,and_true,true_and,yF,false_implies,implies_true]
  try trivial
 ·simp at h⟩
def Uf (N:Nat) (an:Int):Option Bool:=
 some (decide (an≠an))
def T97 (N:Nat):List (Nat×Bt):=[]
theorem W7 (N:Nat):TabOK Tryz.prog (CC (T97 N)):=BW
section
attribute [local go_sem] T97
theorem Vx (N:Nat) (an:Int) (r:Bool) (h:Uf N an=some r):PCall Tryz.prog 97 [.i an] (.b r):=by
 refine Jw (W7 N) _ Tryz.func97 lK lL (by simp) fun _=> ?_
 have hS:=W7 N
 have F:=f0
 unfold Z6 Z7
 unfold Uf at h
 obtain rfl:=yJ h
 refine go hS F ?_
 exact fin F
end
def s97 (N:Nat):Bt
 |[.v (.int .i64 an)]=>some ((Uf N an).isSome=true,.b ((Uf N an).getD false))
 |_=>none
theorem eL (N:Nat):FOK Tryz.prog 97 (s97 N):=⟨lM,by
 intro args vc r h hv
 unfold s97 at h
 split at h
 ·cases h
  have hs:=hv
  obtain⟨r,hr⟩:=yX hs
  have hk:=Vx N _ r hr
  simp only[hr,Option.getD_some]
  refine PCall.arg ?_ hk
  simp only[wkL,wk,and_true,true_and,yF,false_implies,implies_true]
  try trivial
 ·simp at h⟩
def Tw (N:Nat) (af:Int) (ae:Int):Option Int:=
 (Uf N af).bind fun bi=>
 (Uf N ae).bind fun be=>
 bif bi then(
  bif be then(
   some 0)
  else(
   some (-1)))
 else(
  bif be then(
   some 1)
  else(
   bif decide (af<ae) then(
    some (-1))
   else(
    bif decide (ae<af) then(
     some 1)
    else(
     some 0))))
def T90 (N:Nat):List (Nat×Bt):=[(97,s97 N)]
theorem W8 (N:Nat):TabOK Tryz.prog (CC (T90 N)):=EC (eL N) (BW)
section
attribute [local go_sem] T90 s97
theorem Vr (N:Nat) (af:Int) (ae:Int) (r:Int) (h:Tw N af ae=some r):PCall Tryz.prog 90 [.i af,.i ae] (.i r):=by
 refine Jw (W8 N) _ Tryz.func90 kZ lA (by simp) fun _=> ?_
 have hS:=W8 N
 have F:=f0
 unfold Z0 Z1
 unfold Tw at h
 try simp only[Ov,yB] at h
 obtain⟨bi,bz,be,bw,h⟩:=h
 replace F:=fc bw (fc bz F)
 refine go hS F ?_
 refine cb F (bi) (fun ci=> ?_) (fun ci=> ?_)
 ·replace h:=RT ci h
  refine go hS F ?_
  refine cb F (be) (fun hc2=> ?_) (fun hc2=> ?_)
  ·replace h:=RT hc2 h
   obtain rfl:=yJ h
   refine go hS F ?_
   exact fin F
  ·replace h:=RU hc2 h
   obtain rfl:=yJ h
   refine go hS F ?_
   exact fin F
 ·replace h:=RU ci h
  refine go hS F ?_
  refine cb F (be) (fun bm=> ?_) (fun bm=> ?_)
  ·replace h:=RT bm h
   obtain rfl:=yJ h
   refine go hS F ?_
   exact fin F
  ·replace h:=RU bm h
   refine go hS F ?_
   refine cb F (decide (af<ae)) (fun bj=> ?_) (fun bj=> ?_)
   ·replace h:=RT bj h
    obtain rfl:=yJ h
    refine go hS F ?_
    exact fin F
   ·replace h:=RU bj h
    refine go hS F ?_
    refine cb F (decide (ae<af)) (fun ce=> ?_) (fun ce=> ?_)
    ·replace h:=RT ce h
     obtain rfl:=yJ h
     refine go hS F ?_
     exact fin F
    ·replace h:=RU ce h
     obtain rfl:=yJ h
     refine go hS F ?_
     exact fin F
end
def s90 (N:Nat):Bt
 |[.v (.int .i64 af),.v (.int .i64 ae)]=>some ((Tw N af ae).isSome=true,.i ((Tw N af ae).getD 0))
 |_=>none
theorem eN (N:Nat):FOK Tryz.prog 90 (s90 N):=⟨lB,by
 intro args vc r h hv
 unfold s90 at h
 split at h
 ·cases h
  have hs:=hv
  obtain⟨r,hr⟩:=yX hs
  have hk:=Vr N _ _ r hr
  simp only[hr,Option.getD_some]
  refine PCall.arg ?_ hk
  simp only[wkL,wk,and_true,true_and,yF,false_implies,implies_true]
  try trivial
 ·simp at h⟩
def TV (N:Nat) (vals516:List Int):Nat→Int→Option (Sum Unit Int)
 |0,_=>none
 |n+1,x521=>
  bif decide (x521<(vals516.length:Int)) then(
   (nth vals516 x521).bind fun bb=>
   bif decide (bb≠0) then(
    some (.inr bb))
   else(
    gd (I64 (x521+1))<|
    TV N vals516 n (x521+1)))
  else(
   some (.inl ()))
def UE (N:Nat) (vals516:List Int):Option Int:=
 (TV N vals516 N 0).bind fun bg=>match bg with
  | .inl ()=>(
   some 0)
  | .inr b9=>(
   some b9)
def T89 (N:Nat):List (Nat×Bt):=[]
theorem W9 (N:Nat):TabOK Tryz.prog (CC (T89 N)):=BW
section
attribute [local go_sem] T89 e_i Wp Wq d_i
theorem VY (N:Nat) (vals516:List Int) (r:Int) (h:UE N vals516=some r):PCall Tryz.prog 89 [.sl 1 false (vals516.map e_i) [.i 0]] (.i r):=by
 refine Jw (W9 N) _ Tryz.func89 kW kX (by simp) fun _=> ?_
 have hS:=W9 N
 have F:=f0
 unfold ZY ZZ
 unfold UE at h
 try simp only[Ov,yB] at h
 obtain⟨bg,cz,h⟩:=h
 refine go hS F ?_
 refine Rx (fun z:Nat=>⟨[(3,.i 0)],[],z⟩) (fun z=>(.inl ():Sum Unit Int)=bg) (.x 0) ?_ ?_
 ·refine Ez (fun y:Nat×Int×Nat=>⟨[(3,.i 0),(6,.sl 1 false (vals516.map e_i) [.i 0]),(7,.i (vals516.length:Int)),(8,.i y.2.1)],[],y.2.2⟩) (fun y=>TV N vals516 y.1 y.2.1=some bg) (fun y=>y.1) (N,0,3) cz ?_ ?_
  ·exact leF F
  ·rintro⟨n,x521,b7⟩ am
   try simp only at am
   obtain _|n:=n
   ·exact absurd am (by simp[TV])
   rw[TV] at am
   refine go hS F ?_
   refine cb F (decide (x521<(vals516.length:Int))) (fun bm=> ?_) (fun bm=> ?_)
   ·replace am:=RT bm am
    try simp only[Ov,yB] at am
    obtain⟨bb,bh,am⟩:=am
    have bq:vals516.getD x521.toNat 0=bb:=ixs bh _
    have cj:=(Nr bh).1
    replace F:=fc bq F
    refine go hS F ?_
    refine cb F (decide (bb≠0)) (fun bj=> ?_) (fun bj=> ?_)
    ·replace am:=RT bj am
     obtain rfl:=yJ am
     try simp only at h
     obtain rfl:=yJ h
     refine go hS F ?_
     exact fin F
    ·replace am:=RU bj am
     try simp only[Ov,yB] at am
     obtain⟨ca,am⟩:=am
     simp only[I64] at ca
     refine go hS F ?_
     exact Fb (n,x521+1,b7+1+1+1+1) am (Nat.lt_succ_self _) (leF F)
   ·replace am:=RU bm am
    refine go hS F ?_
    exact RW (b7+1) (yJ am) (leF F)
 ·rintro c7 ck
  subst ck
  try simp only at h
  obtain rfl:=yJ h
  refine go hS F ?_
  exact fin F
end
def s89 (N:Nat):Bt
 |[.sl ba _ vals516 _]=>some (((ba=1∨vals516=[])∧vals516=(vals516.map d_i).map e_i)∧(UE N (vals516.map d_i)).isSome=true,.i ((UE N (vals516.map d_i)).getD 0))
 |_=>none
theorem eR (N:Nat):FOK Tryz.prog 89 (s89 N):=⟨kY,by
 intro args vc r h hv
 unfold s89 at h
 split at h
 ·cases h
  obtain⟨⟨c8,db⟩,hs⟩:=hv
  obtain⟨r,hr⟩:=yX hs
  have hk:=VY N _ r hr
  simp only[hr,Option.getD_some]
  refine PCall.arg ?_ hk
  simp only[wkL,wk,and_true,true_and,yF,false_implies,implies_true]
  repeat' (first|exact yT|assumption|apply And.intro)
 ·simp at h⟩
def SY (N:Nat) (az:Int) (ay:Int) (aw:Int) (av:Int):Option Int:=
 (Tw N az aw).bind fun bp=>
 (Tw N ay av).bind fun bo=>
 (UE N [bp,bo]).bind fun bn=>
 some bn
def T73 (N:Nat):List (Nat×Bt):=[(90,s90 N),(89,s89 N)]
theorem Xa (N:Nat):TabOK Tryz.prog (CC (T73 N)):=EC (eN N) (EC (eR N) (BW))
section
attribute [local go_sem] T73 s90 s89 e_i Wp Wq d_i
theorem VO (N:Nat) (az:Int) (ay:Int) (aw:Int) (av:Int) (r:Int) (h:SY N az ay aw av=some r):PCall Tryz.prog 73 [.agg [.i az,.i ay],.agg [.i aw,.i av]] (.i r):=by
 refine Jw (Xa N) _ Tryz.func73 jU jV (by simp) fun _=> ?_
 have hS:=Xa N
 have F:=f0
 unfold ZB ZC
 unfold SY at h
 try simp only[Ov,yB] at h
 obtain⟨bp,bv,bo,bu,bn,br,h⟩:=h
 replace F:=fc br (fc bu (fc bv F))
 obtain rfl:=yJ h
 refine go hS F ?_
 exact fin F
end
def s73 (N:Nat):Bt
 |[.agg [.v (.int .i64 az),.v (.int .i64 ay)],.agg [.v (.int .i64 aw),.v (.int .i64 av)]]=>some ((SY N az ay aw av).isSome=true,.i ((SY N az ay aw av).getD 0))
 |_=>none
theorem Wn (N:Nat):FOK Tryz.prog 73 (s73 N):=⟨jW,by
 intro args vc r h hv
 unfold s73 at h
 split at h
 ·cases h
  have hs:=hv
  obtain⟨r,hr⟩:=yX hs
  have hk:=VO N _ _ _ _ r hr
  simp only[hr,Option.getD_some]
  refine PCall.arg ?_ hk
  simp only[wkL,wk,and_true,true_and,yF,false_implies,implies_true]
  try trivial
 ·simp at h⟩
end Go.Proofs.YtdabfcbelkjmgaaGreatDoor.Am
