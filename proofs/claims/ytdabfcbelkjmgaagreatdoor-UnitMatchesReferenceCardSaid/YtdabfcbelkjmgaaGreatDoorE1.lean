import Derived.Test.YtdabfcbelkjmgaaGreatDoorD8
import Derived.Test.YtdabfcbelkjmgaaGreatDoorAc2
namespace Go.Proofs.YtdabfcbelkjmgaaGreatDoor.Am
open Go
attribute [local irreducible] awp Ed Df Dr Ee Bz B8 Dg DM itK
set_option maxRecDepth 100000
set_option maxHeartbeats 8000000
set_option linter.unusedSimpArgs false
set_option linter.unusedVariables false
def S4 (N:Nat) (dz:Int) (bg:Int) (az:Int):Option Bool:=
 some ((decide (bg≤dz))&&(decide (dz≤az)))
def T39 (N:Nat):List (Nat×Bt):=[]
theorem Xw (N:Nat):TabOK Tryz.prog (CC (T39 N)):=BW
attribute [local go_sem] RX Qr Qs List.set_cons_succ List.isEmpty_map List.map_append List.map_eq_nil_iff ne_eq List.length_replicate RG RH List.length_set Option.isSome_some
section
attribute [local go_sem] T39
theorem Wd (N:Nat) (dz:Int) (bg:Int) (az:Int) (r:Bool) (h:S4 N dz bg az=some r):PCall Tryz.prog 39 [.i dz,.i bg,.i az] (.b r):=by
 refine Jw (Xw N) _ Tryz.func39 oI oJ (by simp) fun _=> ?_
 have hS:=Xw N
 have F:=f0
 unfold bX bY
 unfold S4 at h
 obtain rfl:=yJ h
 refine go hS F ?_
 exact fin F
end
def s39 (N:Nat):Bt
 |[.v (.int .i64 dz),.v (.int .i64 bg),.v (.int .i64 az)]=>some ((S4 N dz bg az).isSome=true,.b ((S4 N dz bg az).getD false))
 |_=>none
theorem WJ (N:Nat):FOK Tryz.prog 39 (s39 N):=⟨oK,by
 intro args vc r h hv
 unfold s39 at h
 split at h
 ·cases h
  have hs:=hv
  obtain⟨r,hr⟩:=yX hs
  have hk:=Wd N _ _ _ r hr
  simp only[hr,Option.getD_some]
  refine PCall.arg ?_ hk
  simp only[wkL,wk,and_true,true_and,yF,false_implies,implies_true]
  try trivial
 ·simp at h⟩
def Sh (N:Nat) (fg:Int) (cn:Int) (cz:Int) (u900:List (Int×Int)) (ck:Int) (cj:Int):Option Bool:=
 (S4 N fg 0 99).bind fun gm=>
 gd (gm=true→((S4 N cn 1 8).isSome=true))<|
 gd ((gm&&((S4 N cn 1 8).getD false))=true→((S4 N cz 0 7).isSome=true))<|
 gd ((((((gm&&((S4 N cn 1 8).getD false))&&((S4 N cz 0 7).getD false))&&(decide (0≤ck)))&&(decide (ck<cj)))&&(decide (cj≤8)))=true→((Sm N u900).isSome=true))<|
 some ((((((gm&&((S4 N cn 1 8).getD false))&&((S4 N cz 0 7).getD false))&&(decide (0≤ck)))&&(decide (ck<cj)))&&(decide (cj≤8)))&&((Sm N u900).getD false))
def T11 (N:Nat):List (Nat×Bt):=[(39,s39 N),(40,s40 N)]
theorem Xx (N:Nat):TabOK Tryz.prog (CC (T11 N)):=EC (WJ N) (EC (Vs N) (BW))
section
attribute [local go_sem] T11 s39 s40 R9 Sf Sg R8
theorem V8 (N:Nat) (fg:Int) (cn:Int) (cz:Int) (u900:List (Int×Int)) (ck:Int) (cj:Int) (r:Bool) (h:Sh N fg cn cz u900 ck cj=some r):PCall Tryz.prog 11 [.agg [.i fg,.i cn,.i cz,.sl 2 false (u900.map R9) [.i 0,.i 0],.i ck,.i cj]] (.b r):=by
 refine Jw (Xx N) _ Tryz.func11 lV lW (by simp) fun _=> ?_
 have hS:=Xx N
 have F:=f0
 unfold aC aD
 unfold Sh at h
 try simp only[Ov,yB] at h
 obtain⟨gm,kf,ic,ir,lu,h⟩:=h
 replace F:=fc kf F
 obtain rfl:=yJ h
 refine go hS F ?_
 exact fin F
end
def s11 (N:Nat):Bt
 |[.agg [.v (.int .i64 fg),.v (.int .i64 cn),.v (.int .i64 cz),.sl jq _ u900 _,.v (.int .i64 ck),.v (.int .i64 cj)]]=>some (((jq=2∨u900=[])∧u900=(u900.map R8).map R9)∧(Sh N fg cn cz (u900.map R8) ck cj).isSome=true,.b ((Sh N fg cn cz (u900.map R8) ck cj).getD false))
 |_=>none
theorem UH (N:Nat):FOK Tryz.prog 11 (s11 N):=⟨lX,by
 intro args vc r h hv
 unfold s11 at h
 split at h
 ·cases h
  obtain⟨⟨gw,gx⟩,hs⟩:=hv
  obtain⟨r,hr⟩:=yX hs
  have hk:=V8 N _ _ _ _ _ _ r hr
  simp only[hr,Option.getD_some]
  refine PCall.arg ?_ hk
  simp only[wkL,wk,and_true,true_and,yF,false_implies,implies_true]
  repeat' (first|exact yT|assumption|apply And.intro)
 ·simp at h⟩
def S7 (N:Nat) (material905:Int):Option ((Int×Int×Int×Int×Int)×Int):=
 (S4 N material905 0 7).bind fun jc=>
 bif !jc then(
  some ((0,0,0,0,0),80))
 else(
  gd (0≤material905∧material905<8)<|
  some (((GT 0).getD (material905.toNat*5) 0,(GT 0).getD (material905.toNat*5+1) 0,(GT 0).getD (material905.toNat*5+1+1) 0,(GT 0).getD (material905.toNat*5+1+1+1) 0,(GT 0).getD (material905.toNat*5+1+1+1+1) 0),0))
def T29 (N:Nat):List (Nat×Bt):=[(39,s39 N)]
theorem Xy (N:Nat):TabOK Tryz.prog (CC (T29 N)):=EC (WJ N) (BW)
section
attribute [local go_sem] T29 s39
theorem V9 (N:Nat) (material905:Int) (r:(Int×Int×Int×Int×Int)×Int) (h:S7 N material905=some r):PCall Tryz.prog 29 [.i material905] (.tup [.agg [.i r.1.1,.i r.1.2.1,.i r.1.2.2.1,.i r.1.2.2.2.1,.i r.1.2.2.2.2],.i r.2]):=by
 refine Jw (Xy N) _ Tryz.func29 nT nU (by simp) fun _=> ?_
 have hS:=Xy N
 have F:=f0
 unfold bI bJ
 unfold S7 at h
 try simp only[Ov,yB] at h
 obtain⟨jc,ke,h⟩:=h
 replace F:=fc ke F
 refine go hS F ?_
 refine cb F (!jc) (fun c7=> ?_) (fun c7=> ?_)
 ·replace h:=RT c7 h
  obtain rfl:=yJ h
  refine go hS F ?_
  exact fin F
 ·replace h:=RU c7 h
  try simp only[Ov,yB] at h
  obtain⟨ir,h⟩:=h
  obtain rfl:=yJ h
  refine go hS F ?_
  exact fin F
end
def s29 (N:Nat):Bt
 |[.v (.int .i64 material905)]=>some ((S7 N material905).isSome=true,.tup [.agg [.i ((((S7 N material905).getD ((0,0,0,0,0),0)).1).1),.i ((((S7 N material905).getD ((0,0,0,0,0),0)).1).2.1),.i ((((S7 N material905).getD ((0,0,0,0,0),0)).1).2.2.1),.i ((((S7 N material905).getD ((0,0,0,0,0),0)).1).2.2.2.1),.i ((((S7 N material905).getD ((0,0,0,0,0),0)).1).2.2.2.2)],.i (((S7 N material905).getD ((0,0,0,0,0),0)).2)])
 |_=>none
theorem WK (N:Nat):FOK Tryz.prog 29 (s29 N):=⟨nV,by
 intro args vc r h hv
 unfold s29 at h
 split at h
 ·cases h
  have hs:=hv
  obtain⟨r,hr⟩:=yX hs
  have hk:=V9 N _ r hr
  simp only[hr,Option.getD_some]
  refine PCall.arg ?_ hk
  simp only[wkL,wk,and_true,true_and,yF,false_implies,implies_true]
  try trivial
 ·simp at h⟩
def Up (N:Nat) (fb:Int) (ez:Int) (eu:Int) (u911:List (Int×Int)) (cy:Int) (cu:Int):Option Int:=
 (Sh N fb ez eu u911 cy cu).bind fun jb=>
 bif !jb then(
  some 0)
 else(
  gd (I64 (cu-cy))<|
  some (cu-cy))
def T43 (N:Nat):List (Nat×Bt):=[(11,s11 N)]
theorem Xz (N:Nat):TabOK Tryz.prog (CC (T43 N)):=EC (UH N) (BW)
section
attribute [local go_sem] T43 s11 R9 Sf Sg R8
theorem Wa (N:Nat) (fb:Int) (ez:Int) (eu:Int) (u911:List (Int×Int)) (cy:Int) (cu:Int) (r:Int) (h:Up N fb ez eu u911 cy cu=some r):PCall Tryz.prog 43 [.agg [.i fb,.i ez,.i eu,.sl 2 false (u911.map R9) [.i 0,.i 0],.i cy,.i cu]] (.i r):=by
 refine Jw (Xz N) _ Tryz.func43 oL oM (by simp) fun _=> ?_
 have hS:=Xz N
 have F:=f0
 unfold bZ cC
 unfold Up at h
 try simp only[Ov,yB] at h
 obtain⟨jb,kd,h⟩:=h
 replace F:=fc kd F
 refine go hS F ?_
 refine cb F (!jb) (fun c7=> ?_) (fun c7=> ?_)
 ·replace h:=RT c7 h
  obtain rfl:=yJ h
  refine go hS F ?_
  exact fin F
 ·replace h:=RU c7 h
  try simp only[Ov,yB] at h
  obtain⟨ir,h⟩:=h
  simp only[I64] at ir
  obtain rfl:=yJ h
  refine go hS F ?_
  exact fin F
end
def s43 (N:Nat):Bt
 |[.agg [.v (.int .i64 fb),.v (.int .i64 ez),.v (.int .i64 eu),.sl jp _ u911 _,.v (.int .i64 cy),.v (.int .i64 cu)]]=>some (((jp=2∨u911=[])∧u911=(u911.map R8).map R9)∧(Up N fb ez eu (u911.map R8) cy cu).isSome=true,.i ((Up N fb ez eu (u911.map R8) cy cu).getD 0))
 |_=>none
theorem Yn (N:Nat):FOK Tryz.prog 43 (s43 N):=⟨oN,by
 intro args vc r h hv
 unfold s43 at h
 split at h
 ·cases h
  obtain⟨⟨gw,gx⟩,hs⟩:=hv
  obtain⟨r,hr⟩:=yX hs
  have hk:=Wa N _ _ _ _ _ _ r hr
  simp only[hr,Option.getD_some]
  refine PCall.arg ?_ hk
  simp only[wkL,wk,and_true,true_and,yF,false_implies,implies_true]
  repeat' (first|exact yT|assumption|apply And.intro)
 ·simp at h⟩
def SK (N:Nat) (em:Int) (ej:Int) (ei:Int) (u919:List (Int×Int)) (eh:Int) (d9:Int):Option Int:=
 (Ut N u919).bind fun ja=>
 (Up N em ej ei u919 eh d9).bind fun i9=>
 gd (I64 (ja*i9))<|
 some (ja*i9)
def T13 (N:Nat):List (Nat×Bt):=[(42,s42 N),(43,s43 N)]
theorem XA (N:Nat):TabOK Tryz.prog (CC (T13 N)):=EC (eT N) (EC (Yn N) (BW))
section
attribute [local go_sem] T13 s42 s43 R9 Sf Sg R8
theorem VI (N:Nat) (em:Int) (ej:Int) (ei:Int) (u919:List (Int×Int)) (eh:Int) (d9:Int) (r:Int) (h:SK N em ej ei u919 eh d9=some r):PCall Tryz.prog 13 [.agg [.i em,.i ej,.i ei,.sl 2 false (u919.map R9) [.i 0,.i 0],.i eh,.i d9]] (.i r):=by
 refine Jw (XA N) _ Tryz.func13 mB mC (by simp) fun _=> ?_
 have hS:=XA N
 have F:=f0
 unfold aG aH
 unfold SK at h
 try simp only[Ov,yB] at h
 obtain⟨ja,kc,i9,ka,ic,h⟩:=h
 simp only[I64] at ic
 replace F:=fc ka (fc kc F)
 obtain rfl:=yJ h
 refine go hS F ?_
 exact fin F
end
def s13 (N:Nat):Bt
 |[.agg [.v (.int .i64 em),.v (.int .i64 ej),.v (.int .i64 ei),.sl jo _ u919 _,.v (.int .i64 eh),.v (.int .i64 d9)]]=>some (((jo=2∨u919=[])∧u919=(u919.map R8).map R9)∧(SK N em ej ei (u919.map R8) eh d9).isSome=true,.i ((SK N em ej ei (u919.map R8) eh d9).getD 0))
 |_=>none
theorem WL (N:Nat):FOK Tryz.prog 13 (s13 N):=⟨mD,by
 intro args vc r h hv
 unfold s13 at h
 split at h
 ·cases h
  obtain⟨⟨gw,gx⟩,hs⟩:=hv
  obtain⟨r,hr⟩:=yX hs
  have hk:=VI N _ _ _ _ _ _ r hr
  simp only[hr,Option.getD_some]
  refine PCall.arg ?_ hk
  simp only[wkL,wk,and_true,true_and,yF,false_implies,implies_true]
  repeat' (first|exact yT|assumption|apply And.intro)
 ·simp at h⟩
def Ud (N:Nat) (gh:Int) (gg:Int) (d8:Int) (u929:List (Int×Int)) (gf:Int) (ge:Int):Option Int:=
 (S7 N d8).bind fun((jx,kr,kq,km,kl),kj)=>
 some jx
def T45 (N:Nat):List (Nat×Bt):=[(29,s29 N)]
theorem XB (N:Nat):TabOK Tryz.prog (CC (T45 N)):=EC (WK N) (BW)
section
attribute [local go_sem] T45 s29 R9 Sf Sg R8
theorem VJ (N:Nat) (gh:Int) (gg:Int) (d8:Int) (u929:List (Int×Int)) (gf:Int) (ge:Int) (r:Int) (h:Ud N gh gg d8 u929 gf ge=some r):PCall Tryz.prog 45 [.agg [.i gh,.i gg,.i d8,.sl 2 false (u929.map R9) [.i 0,.i 0],.i gf,.i ge]] (.i r):=by
 refine Jw (XB N) _ Tryz.func45 oO oP (by simp) fun _=> ?_
 have hS:=XB N
 have F:=f0
 unfold cD cE
 unfold Ud at h
 try simp only[Ov,yB] at h
 obtain⟨⟨⟨jx,kr,kq,km,kl⟩,kj⟩,j9,h⟩:=h
 replace F:=fc j9 F
 obtain rfl:=yJ h
 refine go hS F ?_
 exact fin F
end
def s45 (N:Nat):Bt
 |[.agg [.v (.int .i64 gh),.v (.int .i64 gg),.v (.int .i64 d8),.sl jn _ u929 _,.v (.int .i64 gf),.v (.int .i64 ge)]]=>some (((jn=2∨u929=[])∧u929=(u929.map R8).map R9)∧(Ud N gh gg d8 (u929.map R8) gf ge).isSome=true,.i ((Ud N gh gg d8 (u929.map R8) gf ge).getD 0))
 |_=>none
theorem Yo (N:Nat):FOK Tryz.prog 45 (s45 N):=⟨oQ,by
 intro args vc r h hv
 unfold s45 at h
 split at h
 ·cases h
  obtain⟨⟨gw,gx⟩,hs⟩:=hv
  obtain⟨r,hr⟩:=yX hs
  have hk:=VJ N _ _ _ _ _ _ r hr
  simp only[hr,Option.getD_some]
  refine PCall.arg ?_ hk
  simp only[wkL,wk,and_true,true_and,yF,false_implies,implies_true]
  repeat' (first|exact yT|assumption|apply And.intro)
 ·simp at h⟩
def Sp (N:Nat) (dw:Int) (du:Int) (dt:Int) (u942:List (Int×Int)) (dq:Int) (dp:Int):Option Int:=
 (SK N dw du dt u942 dq dp).bind fun ib=>
 gd (I64 (3*ib))<|
 (Ud N dw du dt u942 dq dp).bind fun i8=>
 gd (I64 ((3*ib)*i8))<|
 some ((3*ib)*i8)
def T15 (N:Nat):List (Nat×Bt):=[(13,s13 N),(45,s45 N)]
theorem XC (N:Nat):TabOK Tryz.prog (CC (T15 N)):=EC (WL N) (EC (Yo N) (BW))
section
attribute [local go_sem] T15 s13 s45 R9 Sf Sg R8
theorem VK (N:Nat) (dw:Int) (du:Int) (dt:Int) (u942:List (Int×Int)) (dq:Int) (dp:Int) (r:Int) (h:Sp N dw du dt u942 dq dp=some r):PCall Tryz.prog 15 [.agg [.i dw,.i du,.i dt,.sl 2 false (u942.map R9) [.i 0,.i 0],.i dq,.i dp]] (.i r):=by
 refine Jw (XC N) _ Tryz.func15 mH mI (by simp) fun _=> ?_
 have hS:=XC N
 have F:=f0
 unfold aK aL
 unfold Sp at h
 try simp only[Ov,yB] at h
 obtain⟨ib,j8,ic,i8,j7,ir,h⟩:=h
 simp only[I64] at ic
 simp only[I64] at ir
 replace F:=fc j7 (fc j8 F)
 obtain rfl:=yJ h
 refine go hS F ?_
 exact fin F
end
def s15 (N:Nat):Bt
 |[.agg [.v (.int .i64 dw),.v (.int .i64 du),.v (.int .i64 dt),.sl jm _ u942 _,.v (.int .i64 dq),.v (.int .i64 dp)]]=>some (((jm=2∨u942=[])∧u942=(u942.map R8).map R9)∧(Sp N dw du dt (u942.map R8) dq dp).isSome=true,.i ((Sp N dw du dt (u942.map R8) dq dp).getD 0))
 |_=>none
theorem Yp (N:Nat):FOK Tryz.prog 15 (s15 N):=⟨mJ,by
 intro args vc r h hv
 unfold s15 at h
 split at h
 ·cases h
  obtain⟨⟨gw,gx⟩,hs⟩:=hv
  obtain⟨r,hr⟩:=yX hs
  have hk:=VK N _ _ _ _ _ _ r hr
  simp only[hr,Option.getD_some]
  refine PCall.arg ?_ hk
  simp only[wkL,wk,and_true,true_and,yF,false_implies,implies_true]
  repeat' (first|exact yT|assumption|apply And.intro)
 ·simp at h⟩
def SB (N:Nat) (dm:Int) (dh:Int) (dg:Int) (u952:List (Int×Int)) (de:Int) (dc:Int):Option Int:=
 (TW N u952).bind fun(g9,ki)=>
 (Up N dm dh dg u952 de dc).bind fun g8=>
 gd (I64 (g9*g8))<|
 (Ud N dm dh dg u952 de dc).bind fun i7=>
 gd (I64 ((g9*g8)*i7))<|
 some ((g9*g8)*i7)
def T17 (N:Nat):List (Nat×Bt):=[(46,s46 N),(43,s43 N),(45,s45 N)]
theorem XD (N:Nat):TabOK Tryz.prog (CC (T17 N)):=EC (eU N) (EC (Yn N) (EC (Yo N) (BW)))
section
attribute [local go_sem] T17 s46 s43 s45 R9 Sf Sg R8
theorem VL (N:Nat) (dm:Int) (dh:Int) (dg:Int) (u952:List (Int×Int)) (de:Int) (dc:Int) (r:Int) (h:SB N dm dh dg u952 de dc=some r):PCall Tryz.prog 17 [.agg [.i dm,.i dh,.i dg,.sl 2 false (u952.map R9) [.i 0,.i 0],.i de,.i dc]] (.i r):=by
 refine Jw (XD N) _ Tryz.func17 mN mO (by simp) fun _=> ?_
 have hS:=XD N
 have F:=f0
 unfold aO aP
 unfold SB at h
 try simp only[Ov,yB] at h
 obtain⟨⟨g9,ki⟩,j6,h⟩:=h
 replace F:=fc j6 F
 try simp only[Ov,yB] at h
 obtain⟨g8,j5,ic,i7,j4,ir,h⟩:=h
 simp only[I64] at ic
 simp only[I64] at ir
 replace F:=fc j4 (fc j5 F)
 obtain rfl:=yJ h
 refine go hS F ?_
 exact fin F
end
def s17 (N:Nat):Bt
 |[.agg [.v (.int .i64 dm),.v (.int .i64 dh),.v (.int .i64 dg),.sl jl _ u952 _,.v (.int .i64 de),.v (.int .i64 dc)]]=>some (((jl=2∨u952=[])∧u952=(u952.map R8).map R9)∧(SB N dm dh dg (u952.map R8) de dc).isSome=true,.i ((SB N dm dh dg (u952.map R8) de dc).getD 0))
 |_=>none
theorem Yq (N:Nat):FOK Tryz.prog 17 (s17 N):=⟨mP,by
 intro args vc r h hv
 unfold s17 at h
 split at h
 ·cases h
  obtain⟨⟨gw,gx⟩,hs⟩:=hv
  obtain⟨r,hr⟩:=yX hs
  have hk:=VL N _ _ _ _ _ _ r hr
  simp only[hr,Option.getD_some]
  refine PCall.arg ?_ hk
  simp only[wkL,wk,and_true,true_and,yF,false_implies,implies_true]
  repeat' (first|exact yT|assumption|apply And.intro)
 ·simp at h⟩
def TN (N:Nat) (ci:Int) (ce:Int) (ca:Int) (a965:List (Int×Int)) (bq:Int) (bp:Int) (cr:Int) (cq:Int) (co:Int) (b971:List (Int×Int)) (b7:Int) (bz:Int):Option (Int×Int×Bool):=
 gd ((decide (max bq b7<min bp bz))=true→((Sh N ci ce ca a965 bq bp).isSome=true))<|
 gd (((decide (max bq b7<min bp bz))&&((Sh N ci ce ca a965 bq bp).getD false))=true→((Sh N cr cq co b971 b7 bz).isSome=true))<|
 some (max bq b7,min bp bz,((decide (max bq b7<min bp bz))&&((Sh N ci ce ca a965 bq bp).getD false))&&((Sh N cr cq co b971 b7 bz).getD false))
def T48 (N:Nat):List (Nat×Bt):=[(11,s11 N)]
theorem XE (N:Nat):TabOK Tryz.prog (CC (T48 N)):=EC (UH N) (BW)
section
attribute [local go_sem] T48 s11 R9 Sf Sg R8
theorem VT (N:Nat) (ci:Int) (ce:Int) (ca:Int) (a965:List (Int×Int)) (bq:Int) (bp:Int) (cr:Int) (cq:Int) (co:Int) (b971:List (Int×Int)) (b7:Int) (bz:Int) (r:Int×Int×Bool) (h:TN N ci ce ca a965 bq bp cr cq co b971 b7 bz=some r):PCall Tryz.prog 48 [.agg [.i ci,.i ce,.i ca,.sl 2 false (a965.map R9) [.i 0,.i 0],.i bq,.i bp],.agg [.i cr,.i cq,.i co,.sl 2 false (b971.map R9) [.i 0,.i 0],.i b7,.i bz]] (.tup [.i r.1,.i r.2.1,.b r.2.2]):=by
 refine Jw (XE N) _ Tryz.func48 oR oS (by simp) fun _=> ?_
 have hS:=XE N
 have F:=f0
 unfold cH cI
 unfold TN at h
 try simp only[Ov,yB] at h
 obtain⟨ic,ir,h⟩:=h
 obtain rfl:=yJ h
 refine go hS F ?_
 exact fin F
end
def s48 (N:Nat):Bt
 |[.agg [.v (.int .i64 ci),.v (.int .i64 ce),.v (.int .i64 ca),.sl jw _ a965 _,.v (.int .i64 bq),.v (.int .i64 bp)],.agg [.v (.int .i64 cr),.v (.int .i64 cq),.v (.int .i64 co),.sl jt _ b971 _,.v (.int .i64 b7),.v (.int .i64 bz)]]=>some (((jw=2∨a965=[])∧a965=(a965.map R8).map R9)∧((jt=2∨b971=[])∧b971=(b971.map R8).map R9)∧(TN N ci ce ca (a965.map R8) bq bp cr cq co (b971.map R8) b7 bz).isSome=true,.tup [.i (((TN N ci ce ca (a965.map R8) bq bp cr cq co (b971.map R8) b7 bz).getD (0,0,false)).1),.i (((TN N ci ce ca (a965.map R8) bq bp cr cq co (b971.map R8) b7 bz).getD (0,0,false)).2.1),.b (((TN N ci ce ca (a965.map R8) bq bp cr cq co (b971.map R8) b7 bz).getD (0,0,false)).2.2)])
 |_=>none
theorem Yr (N:Nat):FOK Tryz.prog 48 (s48 N):=⟨oT,by
 intro args vc r h hv
 unfold s48 at h
 split at h
 ·cases h
  obtain⟨⟨gw,gx⟩,⟨k7,lh⟩,hs⟩:=hv
  obtain⟨r,hr⟩:=yX hs
  have hk:=VT N _ _ _ _ _ _ _ _ _ _ _ _ r hr
  simp only[hr,Option.getD_some]
  refine PCall.arg ?_ hk
  simp only[wkL,wk,and_true,true_and,yF,false_implies,implies_true]
  repeat' (first|exact yT|assumption|apply And.intro)
 ·simp at h⟩
def Sw (N:Nat) (fx:Int) (fv:Int) (fu:Int) (a977:List (Int×Int)) (ft:Int) (fr:Int) (fq:Int) (fo:Int) (fm:Int) (b983:List (Int×Int)) (fj:Int) (fh:Int):Option Bool:=
 (TN N fx fv fu a977 ft fr fq fo fm b983 fj fh).bind fun(kh,kg,i6)=>
 gd (i6=true→((S6 N a977 b983).isSome=true))<|
 some (i6&&((S6 N a977 b983).getD false))
def T21 (N:Nat):List (Nat×Bt):=[(48,s48 N),(52,s52 N)]
theorem XF (N:Nat):TabOK Tryz.prog (CC (T21 N)):=EC (Yr N) (EC (Ym N) (BW))
section
attribute [local go_sem] T21 s48 s52 R9 Sf Sg R8
theorem VM (N:Nat) (fx:Int) (fv:Int) (fu:Int) (a977:List (Int×Int)) (ft:Int) (fr:Int) (fq:Int) (fo:Int) (fm:Int) (b983:List (Int×Int)) (fj:Int) (fh:Int) (r:Bool) (h:Sw N fx fv fu a977 ft fr fq fo fm b983 fj fh=some r):PCall Tryz.prog 21 [.agg [.i fx,.i fv,.i fu,.sl 2 false (a977.map R9) [.i 0,.i 0],.i ft,.i fr],.agg [.i fq,.i fo,.i fm,.sl 2 false (b983.map R9) [.i 0,.i 0],.i fj,.i fh]] (.b r):=by
 refine Jw (XF N) _ Tryz.func21 mZ nA (by simp) fun _=> ?_
 have hS:=XF N
 have F:=f0
 unfold aW aX
 unfold Sw at h
 try simp only[Ov,yB] at h
 obtain⟨⟨kh,kg,i6⟩,jz,h⟩:=h
 replace F:=fc jz F
 try simp only[Ov,yB] at h
 obtain⟨ic,h⟩:=h
 obtain rfl:=yJ h
 refine go hS F ?_
 exact fin F
end
def s21 (N:Nat):Bt
 |[.agg [.v (.int .i64 fx),.v (.int .i64 fv),.v (.int .i64 fu),.sl jv _ a977 _,.v (.int .i64 ft),.v (.int .i64 fr)],.agg [.v (.int .i64 fq),.v (.int .i64 fo),.v (.int .i64 fm),.sl js _ b983 _,.v (.int .i64 fj),.v (.int .i64 fh)]]=>some (((jv=2∨a977=[])∧a977=(a977.map R8).map R9)∧((js=2∨b983=[])∧b983=(b983.map R8).map R9)∧(Sw N fx fv fu (a977.map R8) ft fr fq fo fm (b983.map R8) fj fh).isSome=true,.b ((Sw N fx fv fu (a977.map R8) ft fr fq fo fm (b983.map R8) fj fh).getD false))
 |_=>none
theorem Yt (N:Nat):FOK Tryz.prog 21 (s21 N):=⟨nB,by
 intro args vc r h hv
 unfold s21 at h
 split at h
 ·cases h
  obtain⟨⟨gw,gx⟩,⟨k7,lh⟩,hs⟩:=hv
  obtain⟨r,hr⟩:=yX hs
  have hk:=VM N _ _ _ _ _ _ _ _ _ _ _ _ r hr
  simp only[hr,Option.getD_some]
  refine PCall.arg ?_ hk
  simp only[wkL,wk,and_true,true_and,yF,false_implies,implies_true]
  repeat' (first|exact yT|assumption|apply And.intro)
 ·simp at h⟩
def ST (N:Nat) (be:Int) (bo:Int) (bn:Int) (a993:List (Int×Int)) (bm:Int) (bj:Int) (bb:Int) (bi:Int) (bh:Int) (b999:List (Int×Int)) (ay:Int) (aw:Int):Option ((Int×Int×((Int×Int)×(Int×Int))×Int×Int)×Bool):=
 (TN N be bo bn a993 bm bj bb bi bh b999 ay aw).bind fun(ip,im,gv)=>
 bif !gv then(
  some ((0,0,((0,0),(0,0)),0,0),false))
 else(
  (TL N a993 b999).bind fun(((il,ij),(ii,ig)),gu)=>
  bif !gu then(
   some ((0,0,((0,0),(0,0)),0,0),false))
  else(
   some ((be,bb,((il,ij),(ii,ig)),ip,im),true)))
def T19 (N:Nat):List (Nat×Bt):=[(48,s48 N),(49,s49 N)]
theorem XG (N:Nat):TabOK Tryz.prog (CC (T19 N)):=EC (Yr N) (EC (fB N) (BW))
section
attribute [local go_sem] T19 s48 s49 R9 Sf Sg R8
theorem Wb (N:Nat) (be:Int) (bo:Int) (bn:Int) (a993:List (Int×Int)) (bm:Int) (bj:Int) (bb:Int) (bi:Int) (bh:Int) (b999:List (Int×Int)) (ay:Int) (aw:Int) (r:(Int×Int×((Int×Int)×(Int×Int))×Int×Int)×Bool) (h:ST N be bo bn a993 bm bj bb bi bh b999 ay aw=some r):PCall Tryz.prog 19 [.agg [.i be,.i bo,.i bn,.sl 2 false (a993.map R9) [.i 0,.i 0],.i bm,.i bj],.agg [.i bb,.i bi,.i bh,.sl 2 false (b999.map R9) [.i 0,.i 0],.i ay,.i aw]] (.tup [.agg [.i r.1.1,.i r.1.2.1,.i r.1.2.2.1.1.1,.i r.1.2.2.1.1.2,.i r.1.2.2.1.2.1,.i r.1.2.2.1.2.2,.i r.1.2.2.2.1,.i r.1.2.2.2.2],.b r.2]):=by
 refine Jw (XG N) _ Tryz.func19 mT mU (by simp) fun _=> ?_
 have hS:=XG N
 have F:=f0
 unfold aS aT
 unfold ST at h
 try simp only[Ov,yB] at h
 obtain⟨⟨ip,im,gv⟩,jj,h⟩:=h
 replace F:=fc jj F
 refine go hS F ?_
 refine cb F (!gv) (fun c7=> ?_) (fun c7=> ?_)
 ·replace h:=RT c7 h
  obtain rfl:=yJ h
  refine go hS F ?_
  exact fin F
 ·replace h:=RU c7 h
  try simp only[Ov,yB] at h
  obtain⟨⟨⟨⟨il,ij⟩,⟨ii,ig⟩⟩,gu⟩,ji,h⟩:=h
  replace F:=fc ji F
  refine go hS F ?_
  refine cb F (!gu) (fun hc2=> ?_) (fun hc2=> ?_)
  ·replace h:=RT hc2 h
   obtain rfl:=yJ h
   refine go hS F ?_
   exact fin F
  ·replace h:=RU hc2 h
   obtain rfl:=yJ h
   refine go hS F ?_
   exact fin F
end
def s19 (N:Nat):Bt
 |[.agg [.v (.int .i64 be),.v (.int .i64 bo),.v (.int .i64 bn),.sl ju _ a993 _,.v (.int .i64 bm),.v (.int .i64 bj)],.agg [.v (.int .i64 bb),.v (.int .i64 bi),.v (.int .i64 bh),.sl jr _ b999 _,.v (.int .i64 ay),.v (.int .i64 aw)]]=>some (((ju=2∨a993=[])∧a993=(a993.map R8).map R9)∧((jr=2∨b999=[])∧b999=(b999.map R8).map R9)∧(ST N be bo bn (a993.map R8) bm bj bb bi bh (b999.map R8) ay aw).isSome=true,.tup [.agg [.i ((((ST N be bo bn (a993.map R8) bm bj bb bi bh (b999.map R8) ay aw).getD ((0,0,((0,0),(0,0)),0,0),false)).1).1),.i ((((ST N be bo bn (a993.map R8) bm bj bb bi bh (b999.map R8) ay aw).getD ((0,0,((0,0),(0,0)),0,0),false)).1).2.1),.i ((((((ST N be bo bn (a993.map R8) bm bj bb bi bh (b999.map R8) ay aw).getD ((0,0,((0,0),(0,0)),0,0),false)).1).2.2.1).1).1),.i ((((((ST N be bo bn (a993.map R8) bm bj bb bi bh (b999.map R8) ay aw).getD ((0,0,((0,0),(0,0)),0,0),false)).1).2.2.1).1).2),.i ((((((ST N be bo bn (a993.map R8) bm bj bb bi bh (b999.map R8) ay aw).getD ((0,0,((0,0),(0,0)),0,0),false)).1).2.2.1).2).1),.i ((((((ST N be bo bn (a993.map R8) bm bj bb bi bh (b999.map R8) ay aw).getD ((0,0,((0,0),(0,0)),0,0),false)).1).2.2.1).2).2),.i ((((ST N be bo bn (a993.map R8) bm bj bb bi bh (b999.map R8) ay aw).getD ((0,0,((0,0),(0,0)),0,0),false)).1).2.2.2.1),.i ((((ST N be bo bn (a993.map R8) bm bj bb bi bh (b999.map R8) ay aw).getD ((0,0,((0,0),(0,0)),0,0),false)).1).2.2.2.2)],.b (((ST N be bo bn (a993.map R8) bm bj bb bi bh (b999.map R8) ay aw).getD ((0,0,((0,0),(0,0)),0,0),false)).2)])
 |_=>none
theorem Yu (N:Nat):FOK Tryz.prog 19 (s19 N):=⟨mV,by
 intro args vc r h hv
 unfold s19 at h
 split at h
 ·cases h
  obtain⟨⟨gw,gx⟩,⟨k7,lh⟩,hs⟩:=hv
  obtain⟨r,hr⟩:=yX hs
  have hk:=Wb N _ _ _ _ _ _ _ _ _ _ _ _ r hr
  simp only[hr,Option.getD_some]
  refine PCall.arg ?_ hk
  simp only[wkL,wk,and_true,true_and,yF,false_implies,implies_true]
  repeat' (first|exact yT|assumption|apply And.intro)
 ·simp at h⟩
def Uy (N:Nat) (u1015:List (Int×Int)) (ae:Int) (ab:Int) (aa:Int):Nat→Int→Option (Sum Unit (((Int×Int×((Int×Int)×(Int×Int))×Int×Int)×Bool)))
 |0,_=>none
 |n+1,x1028=>
  bif decide (x1028<(u1015.length:Int)) then(
   (nth u1015 x1028).bind fun(gj,db)=>
   gd (I64 (x1028+1))<|
   gd ((u1015.length:Int)≠0)<|
   (nth u1015 ((x1028+1).tmod (u1015.length:Int))).bind fun(gi,c8)=>
   bif (decide (db=0))&&(decide (c8=0)) then(
    some (.inr ((ae,(-1),((gj,db),(gi,c8)),ab,aa),true)))
   else(
    gd (I64 (x1028+1))<|
    Uy N u1015 ae ab aa n (x1028+1)))
  else(
   some (.inl ()))
def SZ (N:Nat) (ae:Int) (av:Int) (au:Int) (u1015:List (Int×Int)) (ab:Int) (aa:Int):Option ((Int×Int×((Int×Int)×(Int×Int))×Int×Int)×Bool):=
 (Sh N ae av au u1015 ab aa).bind fun gt=>
 bif !gt then(
  some ((0,0,((0,0),(0,0)),0,0),false))
 else(
  (Uy N u1015 ae ab aa N 0).bind fun gc=>match gc with
   | .inl ()=>(
    some ((0,0,((0,0),(0,0)),0,0),false))
   | .inr jy=>(
    some jy))
def T9 (N:Nat):List (Nat×Bt):=[(11,s11 N)]
theorem Yv (N:Nat):TabOK Tryz.prog (CC (T9 N)):=EC (UH N) (BW)
section
attribute [local go_sem] T9 s11 R9 Sf Sg R8
theorem VU (N:Nat) (ae:Int) (av:Int) (au:Int) (u1015:List (Int×Int)) (ab:Int) (aa:Int) (r:(Int×Int×((Int×Int)×(Int×Int))×Int×Int)×Bool) (h:SZ N ae av au u1015 ab aa=some r):PCall Tryz.prog 9 [.agg [.i ae,.i av,.i au,.sl 2 false (u1015.map R9) [.i 0,.i 0],.i ab,.i aa]] (.tup [.agg [.i r.1.1,.i r.1.2.1,.i r.1.2.2.1.1.1,.i r.1.2.2.1.1.2,.i r.1.2.2.1.2.1,.i r.1.2.2.1.2.2,.i r.1.2.2.2.1,.i r.1.2.2.2.2],.b r.2]):=by
 refine Jw (Yv N) _ Tryz.func9 ok9 nt9 (by simp) fun _=> ?_
 have hS:=Yv N
 have F:=f0
 unfold ac9 rv9
 unfold SZ at h
 try simp only[Ov,yB] at h
 obtain⟨gt,jh,h⟩:=h
 replace F:=fc jh F
 refine go hS F ?_
 refine cb F (!gt) (fun c7=> ?_) (fun c7=> ?_)
 ·replace h:=RT c7 h
  obtain rfl:=yJ h
  refine go hS F ?_
  exact fin F
 ·replace h:=RU c7 h
  try simp only[Ov,yB] at h
  obtain⟨gc,kx,h⟩:=h
  refine go hS F ?_
  refine Rx (fun z:Nat=>⟨[(2,.box (1,1) 0)],[(.c (1,1) 0,.i 0),(.c (1,1) 1,.i 0),(.c (1,1) 2,.i 0),(.c (1,1) 3,.i 0),(.c (1,1) 4,.i 0),(.c (1,1) 5,.i 0),(.c (1,1) 6,.i 0),(.c (1,1) 7,.i 0)],z⟩) (fun z=>(.inl ():Sum Unit (((Int×Int×((Int×Int)×(Int×Int))×Int×Int)×Bool)))=gc) (.x 0) ?_ ?_
  ·refine Ez (fun y:Nat×Int×Nat=>⟨[(1,.box (0,1) 0),(2,.box (1,1) 0),(12,.sl 2 false (u1015.map R9) [.i 0,.i 0]),(13,.i (u1015.length:Int)),(14,.i y.2.1)],[(.c (1,1) 0,.i 0),(.c (1,1) 1,.i 0),(.c (1,1) 2,.i 0),(.c (1,1) 3,.i 0),(.c (1,1) 4,.i 0),(.c (1,1) 5,.i 0),(.c (1,1) 6,.i 0),(.c (1,1) 7,.i 0),(.c (0,1) 0,.i ae),(.c (0,1) 1,.i av),(.c (0,1) 2,.i au),(.c (0,1) 3,.sl 2 false (u1015.map R9) [.i 0,.i 0]),(.c (0,1) 4,.i ab),(.c (0,1) 5,.i aa)],y.2.2⟩) (fun y=>Uy N u1015 ae ab aa y.1 y.2.1=some gc) (fun y=>y.1) (N,0,3) kx ?_ ?_
   ·exact leF F
   ·rintro⟨n,x1028,iv⟩ ba
    try simp only at ba
    obtain _|n:=n
    ·exact absurd ba (by simp[Uy])
    rw[Uy] at ba
    refine go hS F ?_
    refine cb F (decide (x1028<(u1015.length:Int))) (fun jk=> ?_) (fun jk=> ?_)
    ·replace ba:=RT jk ba
     try simp only[Ov,yB] at ba
     obtain⟨⟨gj,db⟩,gz,ba⟩:=ba
     have je:u1015.getD x1028.toNat (0,0)=(gj,db):=ixs gz _
     have kw:=(Nr gz).1
     replace F:=fc je F
     try simp only[Ov,yB] at ba
     obtain⟨lg,lf,⟨gi,c8⟩,gy,ba⟩:=ba
     simp only[I64] at lg
     have jd:u1015.getD ((x1028+1).tmod (u1015.length:Int)).toNat (0,0)=(gi,c8):=ixs gy _
     have kv:=(Nr gy).1
     replace F:=fc jd F
     refine go hS F ?_
     refine cb F ((decide (db=0))&&(decide (c8=0))) (fun kt=> ?_) (fun kt=> ?_)
     ·replace ba:=RT kt ba
      obtain rfl:=yJ ba
      try simp only at h
      obtain rfl:=yJ h
      refine go hS F ?_
      exact fin F
     ·replace ba:=RU kt ba
      try simp only[Ov,yB] at ba
      obtain⟨k9,ba⟩:=ba
      simp only[I64] at k9
      refine go hS F ?_
      exact Fb (n,x1028+1,iv+1+1+1+1+1) ba (Nat.lt_succ_self _) (leF F)
    ·replace ba:=RU jk ba
     refine go hS F ?_
     exact RW (iv+1) (yJ ba) (leF F)
  ·rintro lj lm
   subst lm
   try simp only at h
   obtain rfl:=yJ h
   refine go hS F ?_
   exact fin F
end
def s9 (N:Nat):Bt
 |[.agg [.v (.int .i64 ae),.v (.int .i64 av),.v (.int .i64 au),.sl iz _ u1015 _,.v (.int .i64 ab),.v (.int .i64 aa)]]=>some (((iz=2∨u1015=[])∧u1015=(u1015.map R8).map R9)∧(SZ N ae av au (u1015.map R8) ab aa).isSome=true,.tup [.agg [.i ((((SZ N ae av au (u1015.map R8) ab aa).getD ((0,0,((0,0),(0,0)),0,0),false)).1).1),.i ((((SZ N ae av au (u1015.map R8) ab aa).getD ((0,0,((0,0),(0,0)),0,0),false)).1).2.1),.i ((((((SZ N ae av au (u1015.map R8) ab aa).getD ((0,0,((0,0),(0,0)),0,0),false)).1).2.2.1).1).1),.i ((((((SZ N ae av au (u1015.map R8) ab aa).getD ((0,0,((0,0),(0,0)),0,0),false)).1).2.2.1).1).2),.i ((((((SZ N ae av au (u1015.map R8) ab aa).getD ((0,0,((0,0),(0,0)),0,0),false)).1).2.2.1).2).1),.i ((((((SZ N ae av au (u1015.map R8) ab aa).getD ((0,0,((0,0),(0,0)),0,0),false)).1).2.2.1).2).2),.i ((((SZ N ae av au (u1015.map R8) ab aa).getD ((0,0,((0,0),(0,0)),0,0),false)).1).2.2.2.1),.i ((((SZ N ae av au (u1015.map R8) ab aa).getD ((0,0,((0,0),(0,0)),0,0),false)).1).2.2.2.2)],.b (((SZ N ae av au (u1015.map R8) ab aa).getD ((0,0,((0,0),(0,0)),0,0),false)).2)])
 |_=>none
theorem dV (N:Nat):FOK Tryz.prog 9 (s9 N):=⟨of9,by
 intro args vc r h hv
 unfold s9 at h
 split at h
 ·cases h
  obtain⟨⟨gw,gx⟩,hs⟩:=hv
  obtain⟨r,hr⟩:=yX hs
  have hk:=VU N _ _ _ _ _ _ r hr
  simp only[hr,Option.getD_some]
  refine PCall.arg ?_ hk
  simp only[wkL,wk,and_true,true_and,yF,false_implies,implies_true]
  repeat' (first|exact yT|assumption|apply And.intro)
 ·simp at h⟩
def Tl (N:Nat) (aq:Int) (an:Int) (am:Int) (u1043:List (Int×Int)) (ak:Int) (aj:Int) (ai:Int) (ah:Int):Option ((Int×Int×Int×(List (Int×Int))×Int×Int)×Int):=
 (Un N u1043 ai ah).bind fun(ie,fy)=>
 gd ((!(decide (fy≠0)))=true→((Sh N aq an am u1043 ak aj).isSome=true))<|
 bif (decide (fy≠0))||(!((Sh N aq an am u1043 ak aj).getD false)) then(
  some ((0,0,0,[],0,0),80))
 else(
  some ((aq,an,am,ie,ak,aj),0))
def T24 (N:Nat):List (Nat×Bt):=[(54,s54 N),(11,s11 N)]
theorem XH (N:Nat):TabOK Tryz.prog (CC (T24 N)):=EC (eZ N) (EC (UH N) (BW))
section
attribute [local go_sem] T24 s54 s11 R9 Sf Sg R8
theorem We (N:Nat) (aq:Int) (an:Int) (am:Int) (u1043:List (Int×Int)) (ak:Int) (aj:Int) (ai:Int) (ah:Int) (r:(Int×Int×Int×(List (Int×Int))×Int×Int)×Int) (h:Tl N aq an am u1043 ak aj ai ah=some r):PCall Tryz.prog 24 [.agg [.i aq,.i an,.i am,.sl 2 false (u1043.map R9) [.i 0,.i 0],.i ak,.i aj],.i ai,.i ah] (.tup [.agg [.i r.1.1,.i r.1.2.1,.i r.1.2.2.1,.sl 2 false (r.1.2.2.2.1.map R9) [.i 0,.i 0],.i r.1.2.2.2.2.1,.i r.1.2.2.2.2.2],.i r.2]):=by
 refine Jw (XH N) _ Tryz.func24 nI nJ (by simp) fun _=> ?_
 have hS:=XH N
 have F:=f0
 unfold bC bD
 unfold Tl at h
 try simp only[Ov,yB] at h
 obtain⟨⟨ie,fy⟩,jg,h⟩:=h
 replace F:=fc jg F
 try simp only[Ov,yB] at h
 obtain⟨ic,h⟩:=h
 refine go hS F ?_
 refine cb F ((decide (fy≠0))||(!((Sh N aq an am u1043 ak aj).getD false))) (fun hc2=> ?_) (fun hc2=> ?_)
 ·replace h:=RT hc2 h
  obtain rfl:=yJ h
  refine go hS F ?_
  exact fin F
 ·replace h:=RU hc2 h
  obtain rfl:=yJ h
  refine go hS F ?_
  exact fin F
end
def s24 (N:Nat):Bt
 |[.agg [.v (.int .i64 aq),.v (.int .i64 an),.v (.int .i64 am),.sl iy _ u1043 _,.v (.int .i64 ak),.v (.int .i64 aj)],.v (.int .i64 ai),.v (.int .i64 ah)]=>some (((iy=2∨u1043=[])∧u1043=(u1043.map R8).map R9)∧(Tl N aq an am (u1043.map R8) ak aj ai ah).isSome=true,.tup [.agg [.i ((((Tl N aq an am (u1043.map R8) ak aj ai ah).getD ((0,0,0,[],0,0),0)).1).1),.i ((((Tl N aq an am (u1043.map R8) ak aj ai ah).getD ((0,0,0,[],0,0),0)).1).2.1),.i ((((Tl N aq an am (u1043.map R8) ak aj ai ah).getD ((0,0,0,[],0,0),0)).1).2.2.1),.sl 2 false (((((Tl N aq an am (u1043.map R8) ak aj ai ah).getD ((0,0,0,[],0,0),0)).1).2.2.2.1).map R9) [.i 0,.i 0],.i ((((Tl N aq an am (u1043.map R8) ak aj ai ah).getD ((0,0,0,[],0,0),0)).1).2.2.2.2.1),.i ((((Tl N aq an am (u1043.map R8) ak aj ai ah).getD ((0,0,0,[],0,0),0)).1).2.2.2.2.2)],.i (((Tl N aq an am (u1043.map R8) ak aj ai ah).getD ((0,0,0,[],0,0),0)).2)])
 |_=>none
theorem Yw (N:Nat):FOK Tryz.prog 24 (s24 N):=⟨nK,by
 intro args vc r h hv
 unfold s24 at h
 split at h
 ·cases h
  obtain⟨⟨gw,gx⟩,hs⟩:=hv
  obtain⟨r,hr⟩:=yX hs
  have hk:=We N _ _ _ _ _ _ _ _ r hr
  simp only[hr,Option.getD_some]
  refine PCall.arg ?_ hk
  simp only[wkL,wk,and_true,true_and,yF,false_implies,implies_true]
  repeat' (first|exact yT|assumption|apply And.intro)
 ·simp at h⟩
def UB (N:Nat) (u1054:List (Int×Int)) (af:Int):Nat→Int→(List (Int×Int))→Option ((List (Int×Int)))
 |0,_,_=>none
 |n+1,b9,l1065=>
  bif decide (b9<(u1054.length:Int)) then(
   gd ((l1065.length+1)*16≤140737488355328)<|
   gd (I64 (b9+1))<|
   UB N u1054 af n (b9+1) (l1065++[(af,b9)]))
  else(
   some l1065)
def UF (N:Nat) (af:Int) (bw:Int) (bv:Int) (u1054:List (Int×Int)) (bu:Int) (br:Int):Option (List (Int×Int)):=
 (Sh N af bw bv u1054 bu br).bind fun gr=>
 bif !gr then(
  some [])
 else(
  (UB N u1054 af N 0 []).bind fun l1070=>
  gd ((l1070.length+1)*16≤140737488355328)<|
  gd (((l1070++[(af,(-1))]).length+1)*16≤140737488355328)<|
  some (l1070++[(af,(-1))]++[(af,(-2))]))
def T7 (N:Nat):List (Nat×Bt):=[(11,s11 N)]
theorem Yx (N:Nat):TabOK Tryz.prog (CC (T7 N)):=EC (UH N) (BW)
section
attribute [local go_sem] T7 s11 e_i Wp Wq d_i R9 Sf Sg R8
theorem Wc (N:Nat) (af:Int) (bw:Int) (bv:Int) (u1054:List (Int×Int)) (bu:Int) (br:Int) (r:List (Int×Int)) (h:UF N af bw bv u1054 bu br=some r):PCall Tryz.prog 7 [.agg [.i af,.i bw,.i bv,.sl 2 false (u1054.map R9) [.i 0,.i 0],.i bu,.i br]] (.sl 2 false (r.map R9) [.i 0,.i 0]):=by
 refine Jw (Yx N) _ Tryz.func7 ok7 nt7 (by simp) fun _=> ?_
 have hS:=Yx N
 have F:=f0
 unfold ac7 rv7
 unfold UF at h
 try simp only[Ov,yB] at h
 obtain⟨gr,jf,h⟩:=h
 replace F:=fc jf F
 refine go hS F ?_
 refine cb F (!gr) (fun c7=> ?_) (fun c7=> ?_)
 ·replace h:=RT c7 h
  obtain rfl:=yJ h
  refine go hS F ?_
  exact fin F
 ·replace h:=RU c7 h
  refine go hS F ?_
  refine E4 1000001 (300,3) 0 2 [.i 0,.i 0] (by omega) (by simp only[go_sem,seval,F]<;>eq_refl) ?_
  try simp only[Ov,yB] at h
  obtain⟨iq,kx,h⟩:=h
  refine go hS F ?_
  refine Rx (fun z:(List (Int×Int))×Nat=>⟨[(3,.box (300,3) 0),(4,.clo (.func 38) [] [.box (300,3) 0,.box (0,1) 0])],[(.c (0,1) 0,.i af),(.c (0,1) 1,.i bw),(.c (0,1) 2,.i bv),(.c (0,1) 3,.sl 2 false (u1054.map R9) [.i 0,.i 0]),(.c (0,1) 4,.i bu),(.c (0,1) 5,.i br),(.c (300,3) 0,.own (1000001,6) z.1.length),(.a (1000001,6),.sl 2 true (z.1.map R9) [.i 0,.i 0])],z.2⟩) (fun z=>(z.1:(List (Int×Int)))=iq) (.x 0) ?_ ?_
  ·refine Ez (fun y:Nat×Int×(List (Int×Int))×Nat=>⟨[(3,.box (300,3) 0),(4,.clo (.func 38) [] [.box (300,3) 0,.box (0,1) 0]),(12,.i (u1054.length:Int)),(13,.i y.2.1)],[(.c (0,1) 0,.i af),(.c (0,1) 1,.i bw),(.c (0,1) 2,.i bv),(.c (0,1) 3,.sl 2 false (u1054.map R9) [.i 0,.i 0]),(.c (0,1) 4,.i bu),(.c (0,1) 5,.i br),(.c (300,3) 0,.own (1000001,6) y.2.2.1.length),(.a (1000001,6),.sl 2 true (y.2.2.1.map R9) [.i 0,.i 0])],y.2.2.2⟩) (fun y=>UB N u1054 af y.1 y.2.1 y.2.2.1=some iq) (fun y=>y.1) (N,0,[],6) kx ?_ ?_
   ·exact leF F
   ·rintro⟨n,b9,l1065,iu⟩ ba
    try simp only at ba
    obtain _|n:=n
    ·exact absurd ba (by simp[UB])
    rw[UB] at ba
    refine go hS F ?_
    refine cb F (decide (b9<(u1054.length:Int))) (fun jk=> ?_) (fun jk=> ?_)
    ·replace ba:=RT jk ba
     refine go hS F ?_
     refine Np hS 3 Tryz.func38 bU bV bW rfl (by simp only[go_sem,seval,F]<;>eq_refl) (by simp only[go_sem,seval,F]<;>eq_refl) ?_ rfl (by simp only[go_sem,seval,F]<;>eq_refl) (by simp) fun hb=> ?_
     ·exact goc hS F
     unfold Yg Yh
     refine go hS F ?_
     refine Li 30 ?_
     refine go hS F ?_
     refine ct F ?_
     try simp only[Ov,yB] at ba
     obtain⟨lg,ba⟩:=ba
     refine go hS F ?_
     refine cf F ?_
     try simp only[Ov,yB] at ba
     obtain⟨lf,ba⟩:=ba
     simp only[I64] at lf
     refine go hS F ?_
     exact Fb (n,b9+1,l1065++[(af,b9)],iu+1+1+1+1+1+1+1+1+1+1+1) ba (Nat.lt_succ_self _) (leF F)
    ·replace ba:=RU jk ba
     refine go hS F ?_
     exact RW (l1065,iu+1) (yJ ba) (leF F)
  ·rintro⟨l1070,li⟩ lq
   subst lq
   try simp only at h
   refine go hS F ?_
   refine Np hS 2 Tryz.func38 bU bV bW rfl (by simp only[go_sem,seval,F]<;>eq_refl) (by simp only[go_sem,seval,F]<;>eq_refl) ?_ rfl (by simp only[go_sem,seval,F]<;>eq_refl) (by simp) fun hb=> ?_
   ·exact goc hS F
   unfold Yg Yh
   refine go hS F ?_
   refine Li 30 ?_
   refine go hS F ?_
   refine ct F ?_
   try simp only[Ov,yB] at h
   obtain⟨k9,h⟩:=h
   refine go hS F ?_
   refine ct F ?_
   try simp only[Ov,yB] at h
   obtain⟨lr,h⟩:=h
   refine go hS F ?_
   refine cf F ?_
   obtain rfl:=yJ h
   refine go hS F ?_
   exact fin F
end
def s7 (N:Nat):Bt
 |[.agg [.v (.int .i64 af),.v (.int .i64 bw),.v (.int .i64 bv),.sl iw _ u1054 _,.v (.int .i64 bu),.v (.int .i64 br)]]=>some (((iw=2∨u1054=[])∧u1054=(u1054.map R8).map R9)∧(UF N af bw bv (u1054.map R8) bu br).isSome=true,.sl 2 false (((UF N af bw bv (u1054.map R8) bu br).getD []).map R9) [.i 0,.i 0])
 |_=>none
theorem dW (N:Nat):FOK Tryz.prog 7 (s7 N):=⟨of7,by
 intro args vc r h hv
 unfold s7 at h
 split at h
 ·cases h
  obtain⟨⟨gw,gx⟩,hs⟩:=hv
  obtain⟨r,hr⟩:=yX hs
  have hk:=Wc N _ _ _ _ _ _ r hr
  simp only[hr,Option.getD_some]
  refine PCall.arg ?_ hk
  simp only[wkL,wk,and_true,true_and,yF,false_implies,implies_true]
  repeat' (first|exact yT|assumption|apply And.intro)
 ·simp at h⟩
end Go.Proofs.YtdabfcbelkjmgaaGreatDoor.Am
