import Derived.Test.YtdabfcbelkjmgaaGreatDoorP9
import Derived.Test.YtdabfcbelkjmgaaGreatDoorE2
namespace Go.Proofs.YtdabfcbelkjmgaaGreatDoor.Am
open Go
attribute [local irreducible] awp Ed Df Dr Ee Bz B8 Dg DM itK
set_option maxRecDepth 100000
set_option maxHeartbeats 8000000
set_option linter.unusedSimpArgs false
set_option linter.unusedVariables false
def Uq (N:Nat):Option Bool:=
 (Se N).bind fun((ai,ah,af,ae,ab,aa),(au,aq,an,am,dm,ak))=>
 (ST N ai ah af ae ab aa au aq an am dm ak).bind fun((ce,ca,((b9,b7),(bz,bw)),bv,bu),br)=>
 (SZ N ai ah af ae ab aa).bind fun((bq,bp,((bo,bn),(bm,bj)),bi,bh),bg)=>
 (SZ N au aq an am dm ak).bind fun((gj,gi,((gh,gg),(gf,ge)),gc,fy),be)=>
 (S7 N 3).bind fun((bb,ba,az,ay,aw),dh)=>
 (S7 N 8).bind fun((fx,fv,fu,ft,fr),dg)=>
 (CJ N ai ah af ae ab aa).bind fun(dp,de)=>
 (Bh N dp).bind fun((dc,db,c8,c7,cz,cy),cu)=>
 (Tl N au aq an am dm ak (-4) (-2)).bind fun((cq,co,cn,ck,cj,ci),cr)=>
 (ST N ai ah af ae ab aa au aq an am 2 ak).bind fun((fq,fo,((fm,fj),(fh,fg)),fb,ez),av)=>
 (UF N ai ah af ae ab aa).bind fun r2245=>
 gd ((!((((((decide (dh≠0))||(decide (dg≠80)))||(decide (de≠0)))||(decide (cu≠0)))||(decide (cr≠0)))||(decide ((r2245.length:Int)≠6))))=true→((SC N dc db c8 c7 cz cy ai ah af ae ab aa).isSome=true))<|
 bif ((((((decide (dh≠0))||(decide (dg≠80)))||(decide (de≠0)))||(decide (cu≠0)))||(decide (cr≠0)))||(decide ((r2245.length:Int)≠6)))||(!((SC N dc db c8 c7 cz cy ai ah af ae ab aa).getD false)) then(
  some false)
 else(
  (SK N ai ah af ae ab aa).bind fun aj=>
  gd ((decide (aj=64))=true→((Sp N ai ah af ae ab aa).isSome=true))<|
  gd (((decide (aj=64))&&(decide ((Sp N ai ah af ae ab aa).getD 0=1728)))=true→((SB N ai ah af ae ab aa).isSome=true))<|
  gd (((((((br&&(decide (ce=3)&&(decide (ca=5)&&(decide (b9=4)&&(decide (b7=2)&&(decide (bz=4)&&(decide (bw=4)&&(decide (bv=1)&&decide (bu=2)))))))))&&bg)&&(decide (bq=3)&&(decide (bp=(-1))&&(decide (bo=0)&&(decide (bn=0)&&(decide (bm=4)&&(decide (bj=0)&&(decide (bi=0)&&decide (bh=2)))))))))&&(!be))&&(!av))&&((((decide (aj=64))&&(decide ((Sp N ai ah af ae ab aa).getD 0=1728)))&&(decide ((SB N ai ah af ae ab aa).getD 0=3456)))&&(decide (bb=6)&&(decide (ba=3)&&(decide (az=4)&&(decide (ay=6)&&decide (aw=3)))))))=true→(0≤3∧3<(r2245.length:Int)))<|
  gd ((((((((br&&(decide (ce=3)&&(decide (ca=5)&&(decide (b9=4)&&(decide (b7=2)&&(decide (bz=4)&&(decide (bw=4)&&(decide (bv=1)&&decide (bu=2)))))))))&&bg)&&(decide (bq=3)&&(decide (bp=(-1))&&(decide (bo=0)&&(decide (bn=0)&&(decide (bm=4)&&(decide (bj=0)&&(decide (bi=0)&&decide (bh=2)))))))))&&(!be))&&(!av))&&((((decide (aj=64))&&(decide ((Sp N ai ah af ae ab aa).getD 0=1728)))&&(decide ((SB N ai ah af ae ab aa).getD 0=3456)))&&(decide (bb=6)&&(decide (ba=3)&&(decide (az=4)&&(decide (ay=6)&&decide (aw=3)))))))&&(decide ((r2245.getD 3 (0,0)).1=3)&&decide ((r2245.getD 3 (0,0)).2=3)))=true→(0≤5∧5<(r2245.length:Int)))<|
  gd (((((((((br&&(decide (ce=3)&&(decide (ca=5)&&(decide (b9=4)&&(decide (b7=2)&&(decide (bz=4)&&(decide (bw=4)&&(decide (bv=1)&&decide (bu=2)))))))))&&bg)&&(decide (bq=3)&&(decide (bp=(-1))&&(decide (bo=0)&&(decide (bn=0)&&(decide (bm=4)&&(decide (bj=0)&&(decide (bi=0)&&decide (bh=2)))))))))&&(!be))&&(!av))&&((((decide (aj=64))&&(decide ((Sp N ai ah af ae ab aa).getD 0=1728)))&&(decide ((SB N ai ah af ae ab aa).getD 0=3456)))&&(decide (bb=6)&&(decide (ba=3)&&(decide (az=4)&&(decide (ay=6)&&decide (aw=3)))))))&&(decide ((r2245.getD 3 (0,0)).1=3)&&decide ((r2245.getD 3 (0,0)).2=3)))&&(decide ((r2245.getD 5 (0,0)).1=3)&&decide ((r2245.getD 5 (0,0)).2=(-2))))=true→((Sw N ai ah af ae ab aa cq co cn ck cj ci).isSome=true))<|
  gd ((((((((((br&&(decide (ce=3)&&(decide (ca=5)&&(decide (b9=4)&&(decide (b7=2)&&(decide (bz=4)&&(decide (bw=4)&&(decide (bv=1)&&decide (bu=2)))))))))&&bg)&&(decide (bq=3)&&(decide (bp=(-1))&&(decide (bo=0)&&(decide (bn=0)&&(decide (bm=4)&&(decide (bj=0)&&(decide (bi=0)&&decide (bh=2)))))))))&&(!be))&&(!av))&&((((decide (aj=64))&&(decide ((Sp N ai ah af ae ab aa).getD 0=1728)))&&(decide ((SB N ai ah af ae ab aa).getD 0=3456)))&&(decide (bb=6)&&(decide (ba=3)&&(decide (az=4)&&(decide (ay=6)&&decide (aw=3)))))))&&(decide ((r2245.getD 3 (0,0)).1=3)&&decide ((r2245.getD 3 (0,0)).2=3)))&&(decide ((r2245.getD 5 (0,0)).1=3)&&decide ((r2245.getD 5 (0,0)).2=(-2))))&&((Sw N ai ah af ae ab aa cq co cn ck cj ci).getD false))=true→((Sw N ai ah af ae ab aa au aq an am 2 ak).isSome=true))<|
  gd (((((((((((br&&(decide (ce=3)&&(decide (ca=5)&&(decide (b9=4)&&(decide (b7=2)&&(decide (bz=4)&&(decide (bw=4)&&(decide (bv=1)&&decide (bu=2)))))))))&&bg)&&(decide (bq=3)&&(decide (bp=(-1))&&(decide (bo=0)&&(decide (bn=0)&&(decide (bm=4)&&(decide (bj=0)&&(decide (bi=0)&&decide (bh=2)))))))))&&(!be))&&(!av))&&((((decide (aj=64))&&(decide ((Sp N ai ah af ae ab aa).getD 0=1728)))&&(decide ((SB N ai ah af ae ab aa).getD 0=3456)))&&(decide (bb=6)&&(decide (ba=3)&&(decide (az=4)&&(decide (ay=6)&&decide (aw=3)))))))&&(decide ((r2245.getD 3 (0,0)).1=3)&&decide ((r2245.getD 3 (0,0)).2=3)))&&(decide ((r2245.getD 5 (0,0)).1=3)&&decide ((r2245.getD 5 (0,0)).2=(-2))))&&((Sw N ai ah af ae ab aa cq co cn ck cj ci).getD false))&&(!((Sw N ai ah af ae ab aa au aq an am 2 ak).getD false)))=true→((Sh N ai ah af ae ab aa).isSome=true))<|
  gd ((((((((((((br&&(decide (ce=3)&&(decide (ca=5)&&(decide (b9=4)&&(decide (b7=2)&&(decide (bz=4)&&(decide (bw=4)&&(decide (bv=1)&&decide (bu=2)))))))))&&bg)&&(decide (bq=3)&&(decide (bp=(-1))&&(decide (bo=0)&&(decide (bn=0)&&(decide (bm=4)&&(decide (bj=0)&&(decide (bi=0)&&decide (bh=2)))))))))&&(!be))&&(!av))&&((((decide (aj=64))&&(decide ((Sp N ai ah af ae ab aa).getD 0=1728)))&&(decide ((SB N ai ah af ae ab aa).getD 0=3456)))&&(decide (bb=6)&&(decide (ba=3)&&(decide (az=4)&&(decide (ay=6)&&decide (aw=3)))))))&&(decide ((r2245.getD 3 (0,0)).1=3)&&decide ((r2245.getD 3 (0,0)).2=3)))&&(decide ((r2245.getD 5 (0,0)).1=3)&&decide ((r2245.getD 5 (0,0)).2=(-2))))&&((Sw N ai ah af ae ab aa cq co cn ck cj ci).getD false))&&(!((Sw N ai ah af ae ab aa au aq an am 2 ak).getD false)))&&((Sh N ai ah af ae ab aa).getD false))=true→((Sh N 0 0 0 [] 0 0).isSome=true))<|
  some ((((((((((((br&&(decide (ce=3)&&(decide (ca=5)&&(decide (b9=4)&&(decide (b7=2)&&(decide (bz=4)&&(decide (bw=4)&&(decide (bv=1)&&decide (bu=2)))))))))&&bg)&&(decide (bq=3)&&(decide (bp=(-1))&&(decide (bo=0)&&(decide (bn=0)&&(decide (bm=4)&&(decide (bj=0)&&(decide (bi=0)&&decide (bh=2)))))))))&&(!be))&&(!av))&&((((decide (aj=64))&&(decide ((Sp N ai ah af ae ab aa).getD 0=1728)))&&(decide ((SB N ai ah af ae ab aa).getD 0=3456)))&&(decide (bb=6)&&(decide (ba=3)&&(decide (az=4)&&(decide (ay=6)&&decide (aw=3)))))))&&(decide ((r2245.getD 3 (0,0)).1=3)&&decide ((r2245.getD 3 (0,0)).2=3)))&&(decide ((r2245.getD 5 (0,0)).1=3)&&decide ((r2245.getD 5 (0,0)).2=(-2))))&&((Sw N ai ah af ae ab aa cq co cn ck cj ci).getD false))&&(!((Sw N ai ah af ae ab aa au aq an am 2 ak).getD false)))&&((Sh N ai ah af ae ab aa).getD false))&&(!((Sh N 0 0 0 [] 0 0).getD false))))
def T4 (N:Nat):List (Nat×Bt):=[(33,s33 N),(19,s19 N),(9,s9 N),(29,s29 N),(27,s27 N),(31,s31 N),(24,s24 N),(7,s7 N),(26,s26 N),(13,s13 N),(15,s15 N),(17,s17 N),(21,s21 N),(11,s11 N)]
theorem YB (N:Nat):TabOK Tryz.prog (CC (T4 N)):=EC (fJ N) (EC (Yu N) (EC (dV N) (EC (WK N) (EC (R3 N) (EC (R4 N) (EC (Yw N) (EC (dW N) (EC (YA N) (EC (WL N) (EC (Yp N) (EC (Yq N) (EC (Yt N) (EC (UH N) (BW))))))))))))))
section
attribute [local go_sem] T4 s33 s19 s9 s29 s27 s31 s24 s7 s26 s13 s15 s17 s21 s11 RX Qr Qs List.set_cons_succ List.isEmpty_map List.map_append List.map_eq_nil_iff ne_eq List.length_replicate RG RH R9 Sf Sg R8 H8 isB List.length_set Option.isSome_some
theorem Vj (N:Nat) (r:Bool) (h:Uq N=some r):PCall Tryz.prog 4 [] (.b r):=by
 refine Jw (YB N) _ Tryz.func4 ok4 nt4 (by simp) fun _=> ?_
 have hS:=YB N
 have F:=f0
 unfold ac4 rv4
 unfold Uq at h
 try simp only[Ov,yB] at h
 obtain⟨⟨⟨ai,ah,af,ae,ab,aa⟩,⟨au,aq,an,am,dm,ak⟩⟩,eu,h⟩:=h
 replace F:=fc eu F
 try simp only[Ov,yB] at h
 obtain⟨⟨⟨ce,ca,⟨⟨b9,b7⟩,⟨bz,bw⟩⟩,bv,bu⟩,br⟩,em,h⟩:=h
 replace F:=fc em F
 try simp only[Ov,yB] at h
 obtain⟨⟨⟨bq,bp,⟨⟨bo,bn⟩,⟨bm,bj⟩⟩,bi,bh⟩,bg⟩,ej,h⟩:=h
 replace F:=fc ej F
 try simp only[Ov,yB] at h
 obtain⟨⟨⟨gj,gi,⟨⟨gh,gg⟩,⟨gf,ge⟩⟩,gc,fy⟩,be⟩,ei,h⟩:=h
 replace F:=fc ei F
 try simp only[Ov,yB] at h
 obtain⟨⟨⟨bb,ba,az,ay,aw⟩,dh⟩,eh,h⟩:=h
 replace F:=fc eh F
 try simp only[Ov,yB] at h
 obtain⟨⟨⟨fx,fv,fu,ft,fr⟩,dg⟩,d9,h⟩:=h
 replace F:=fc d9 F
 try simp only[Ov,yB] at h
 obtain⟨⟨dp,de⟩,d8,h⟩:=h
 replace F:=fc d8 F
 try simp only[Ov,yB] at h
 obtain⟨⟨⟨dc,db,c8,c7,cz,cy⟩,cu⟩,dz,h⟩:=h
 replace F:=fc dz F
 try simp only[Ov,yB] at h
 obtain⟨⟨⟨cq,co,cn,ck,cj,ci⟩,cr⟩,dw,h⟩:=h
 replace F:=fc dw F
 try simp only[Ov,yB] at h
 obtain⟨⟨⟨fq,fo,⟨⟨fm,fj⟩,⟨fh,fg⟩⟩,fb,ez⟩,av⟩,du,h⟩:=h
 replace F:=fc du F
 try simp only[Ov,yB] at h
 obtain⟨r2245,dt,gz,h⟩:=h
 replace F:=fc dt F
 refine go hS F ?_
 refine cb F (((((((decide (dh≠0))||(decide (dg≠80)))||(decide (de≠0)))||(decide (cu≠0)))||(decide (cr≠0)))||(decide ((r2245.length:Int)≠6)))||(!((SC N dc db c8 c7 cz cy ai ah af ae ab aa).getD false))) (fun hc2=> ?_) (fun hc2=> ?_)
 ·replace h:=RT hc2 h
  obtain rfl:=yJ h
  refine go hS F ?_
  exact fin F
 ·replace h:=RU hc2 h
  try simp only[Ov,yB] at h
  obtain⟨aj,dq,gy,gx,gw,gv,gu,gt,gr,gm,h⟩:=h
  replace F:=fc dq F
  obtain rfl:=yJ h
  refine go hS F ?_
  exact fin F
end
def s4 (N:Nat):Bt
 |[]=>some ((Uq N).isSome=true,.b ((Uq N).getD false))
 |_=>none
theorem qL (N:Nat):FOK Tryz.prog 4 (s4 N):=⟨of4,by
 intro args vc r h hv
 unfold s4 at h
 split at h
 ·cases h
  have hs:=hv
  obtain⟨r,hr⟩:=yX hs
  have hk:=Vj N r hr
  simp only[hr,Option.getD_some]
  refine PCall.arg ?_ hk
  simp only[wkL,wk,and_true,true_and,yF,false_implies,implies_true]
  try trivial
 ·simp at h⟩
end Go.Proofs.YtdabfcbelkjmgaaGreatDoor.Am
