import Derived.Test.YtdabfcbelkjmgaaGreatDoorP3
namespace Go.Proofs.YtdabfcbelkjmgaaGreatDoor.Am
open Go
attribute [local irreducible] awp Ed Df Dr Ee Bz B8 Dg DM itK
set_option maxRecDepth 100000
set_option maxHeartbeats 8000000
set_option linter.unusedSimpArgs false
set_option linter.unusedVariables false
def Sn (N:Nat) (x767:List (Int×Int)):Nat→Int→Int→Int→Option (Int×Int)
 |0,_,_,_=>none
 |n+1,i778,av,au=>
  bif decide (i778<(x767.length:Int)) then(
   (nth x767 i778).bind fun(ba,az)=>
   (SY N ba az av au).bind fun bv=>
   bif decide (0<bv) then(
    gd (I64 (i778+1))<|
    Sn N x767 n (i778+1) ba az)
   else(
    gd (I64 (i778+1))<|
    Sn N x767 n (i778+1) av au))
  else(
   some (av,au))
def Sc (N:Nat) (x767:List (Int×Int)):Option (Int×Int):=
 gd ((decide ((x767.length:Int)<1))=false)<|
 (nth x767 0).bind fun(bi,bh)=>
 (Sn N x767 N 1 bi bh).bind fun(dt,dq)=>
 some (dt,dq)
def Wx (N:Nat):List (Nat×Bt):=[(73,s73 N)]
theorem V5 (N:Nat):TabOK Tryz.prog (CC (Wx N)):=EC (Wn N) (BW)
attribute [local go_sem] s73 R9 Sf Sg R8 RX Qr Qs List.set_cons_succ List.isEmpty_map List.map_append List.map_eq_nil_iff ne_eq List.length_replicate RG RH List.length_set Option.isSome_some
section
attribute [local go_sem] Wx
theorem UC (N:Nat) (x767:List (Int×Int)) (r:Int×Int) (h:Sc N x767=some r):PCall Tryz.prog 87 [.sl 2 false (x767.map R9) [.i 0,.i 0],.clo (.func 73) [] []] (.agg [.i r.1,.i r.2]):=by
 refine Jw (V5 N) _ Tryz.func87 kQ kR (by simp) fun _=> ?_
 have hS:=V5 N
 have F:=f0
 unfold ZU ZV
 unfold Sc at h
 try simp only[Ov,yB] at h
 obtain⟨fv,h⟩:=h
 refine go hS F ?_
 refine cb F (decide ((x767.length:Int)<1)) (fun hc2=> ?_) (fun hc2=> ?_)
 ·exact Bool.noConfusion (hc2.symm.trans fv)
 try simp only[Ov,yB] at h
 obtain⟨⟨bi,bh⟩,bo,h⟩:=h
 have d8:x767.getD 0 (0,0)=(bi,bh):=ixs bo _
 have gj:=(Nr bo).1
 replace F:=fc d8 F
 try simp only[Ov,yB] at h
 obtain⟨dh,gf,h⟩:=h
 refine go hS F ?_
 refine Rx (fun z:Int×Int×Nat=>⟨[(4,.box (0,1) 0),(5,.box (303,3) 0)],[(.c (303,3) 0,.i z.1),(.c (303,3) 1,.i z.2.1),(.c (0,1) 0,.i 0),(.c (0,1) 1,.i 0)],z.2.2⟩) (fun z=>((z.1,z.2.1):Int×Int)=dh) (.x 0) ?_ ?_
 ·refine Ez (fun y:Nat×Int×Int×Int×Nat=>⟨[(0,.sl 2 false (x767.map R9) [.i 0,.i 0]),(1,.clo (.func 73) [] []),(4,.box (0,1) 0),(5,.box (303,3) 0),(6,.i y.2.1)],[(.c (303,3) 0,.i y.2.2.1),(.c (303,3) 1,.i y.2.2.2.1),(.c (0,1) 0,.i 0),(.c (0,1) 1,.i 0)],y.2.2.2.2⟩) (fun y=>Sn N x767 y.1 y.2.1 y.2.2.1 y.2.2.2.1=some dh) (fun y=>y.1) (N,1,bi,bh,4) gf ?_ ?_
  ·exact leF F
  ·rintro⟨n,i778,av,au,b7⟩ aa
   try simp only at aa
   obtain _|n:=n
   ·exact absurd aa (by simp[Sn])
   rw[Sn] at aa
   refine go hS F ?_
   refine cb F (decide (i778<(x767.length:Int))) (fun bw=> ?_) (fun bw=> ?_)
   ·replace aa:=RT bw aa
    try simp only[Ov,yB] at aa
    obtain⟨⟨ba,az⟩,bn,aa⟩:=aa
    have dz:x767.getD i778.toNat (0,0)=(ba,az):=ixs bn _
    have gi:=(Nr bn).1
    replace F:=fc dz F
    try simp only[Ov,yB] at aa
    obtain⟨bv,fq,aa⟩:=aa
    replace F:=fc fq F
    refine go hS F ?_
    refine cb F (decide (0<bv)) (fun bb=> ?_) (fun bb=> ?_)
    ·replace aa:=RT bb aa
     try simp only[Ov,yB] at aa
     obtain⟨fu,aa⟩:=aa
     simp only[I64] at fu
     refine go hS F ?_
     exact Fb (n,i778+1,ba,az,b7+1+1+1+1) aa (Nat.lt_succ_self _) (leF F)
    ·replace aa:=RU bb aa
     try simp only[Ov,yB] at aa
     obtain⟨ft,aa⟩:=aa
     simp only[I64] at ft
     refine go hS F ?_
     exact Fb (n,i778+1,av,au,b7+1+1+1) aa (Nat.lt_succ_self _) (leF F)
   ·replace aa:=RU bw aa
    refine go hS F ?_
    exact RW (av,au,b7+1) (yJ aa) (leF F)
 ·rintro⟨dt,dq,gu⟩ fy
  subst fy
  try simp only at h
  obtain rfl:=yJ h
  refine go hS F ?_
  exact fin F
end
def VF (N:Nat):Bt
 |[.sl ca _ x767 _,.clo (.func 73) [] []]=>some (((ca=2∨x767=[])∧x767=(x767.map R8).map R9)∧(Sc N (x767.map R8)).isSome=true,.agg [.i (((Sc N (x767.map R8)).getD (0,0)).1),.i (((Sc N (x767.map R8)).getD (0,0)).2)])
 |_=>none
theorem Xm (N:Nat):FOK Tryz.prog 87 (VF N):=⟨kS,by
 intro args vc r h hv
 unfold VF at h
 split at h
 ·cases h
  obtain⟨⟨gm,gr⟩,hs⟩:=hv
  obtain⟨r,hr⟩:=yX hs
  have hk:=UC N _ r hr
  simp only[hr,Option.getD_some]
  refine PCall.arg ?_ hk
  simp only[wkL,wk,and_true,true_and,yF,false_implies,implies_true]
  repeat' (first|exact yT|assumption|apply And.intro)
 ·simp at h⟩
def So (N:Nat) (x794:List (Int×Int)):Nat→Int→Int→Int→Option (Int×Int)
 |0,_,_,_=>none
 |n+1,i805,aq,an=>
  bif decide (i805<(x794.length:Int)) then(
   (nth x794 i805).bind fun(ay,aw)=>
   (SY N ay aw aq an).bind fun bu=>
   bif decide (bu<0) then(
    gd (I64 (i805+1))<|
    So N x794 n (i805+1) ay aw)
   else(
    gd (I64 (i805+1))<|
    So N x794 n (i805+1) aq an))
  else(
   some (aq,an))
def Sd (N:Nat) (x794:List (Int×Int)):Option (Int×Int):=
 gd ((decide ((x794.length:Int)<1))=false)<|
 (nth x794 0).bind fun(bg,be)=>
 (So N x794 N 1 bg be).bind fun(dp,dm)=>
 some (dp,dm)
def Wy (N:Nat):List (Nat×Bt):=[(73,s73 N)]
theorem V6 (N:Nat):TabOK Tryz.prog (CC (Wy N)):=EC (Wn N) (BW)
section
attribute [local go_sem] Wy
theorem UD (N:Nat) (x794:List (Int×Int)) (r:Int×Int) (h:Sd N x794=some r):PCall Tryz.prog 88 [.sl 2 false (x794.map R9) [.i 0,.i 0],.clo (.func 73) [] []] (.agg [.i r.1,.i r.2]):=by
 refine Jw (V6 N) _ Tryz.func88 kT kU (by simp) fun _=> ?_
 have hS:=V6 N
 have F:=f0
 unfold ZW ZX
 unfold Sd at h
 try simp only[Ov,yB] at h
 obtain⟨fv,h⟩:=h
 refine go hS F ?_
 refine cb F (decide ((x794.length:Int)<1)) (fun hc2=> ?_) (fun hc2=> ?_)
 ·exact Bool.noConfusion (hc2.symm.trans fv)
 try simp only[Ov,yB] at h
 obtain⟨⟨bg,be⟩,bm,h⟩:=h
 have dw:x794.getD 0 (0,0)=(bg,be):=ixs bm _
 have gh:=(Nr bm).1
 replace F:=fc dw F
 try simp only[Ov,yB] at h
 obtain⟨dg,gf,h⟩:=h
 refine go hS F ?_
 refine Rx (fun z:Int×Int×Nat=>⟨[(4,.box (0,1) 0),(5,.box (303,3) 0)],[(.c (303,3) 0,.i z.1),(.c (303,3) 1,.i z.2.1),(.c (0,1) 0,.i 0),(.c (0,1) 1,.i 0)],z.2.2⟩) (fun z=>((z.1,z.2.1):Int×Int)=dg) (.x 0) ?_ ?_
 ·refine Ez (fun y:Nat×Int×Int×Int×Nat=>⟨[(0,.sl 2 false (x794.map R9) [.i 0,.i 0]),(1,.clo (.func 73) [] []),(4,.box (0,1) 0),(5,.box (303,3) 0),(6,.i y.2.1)],[(.c (303,3) 0,.i y.2.2.1),(.c (303,3) 1,.i y.2.2.2.1),(.c (0,1) 0,.i 0),(.c (0,1) 1,.i 0)],y.2.2.2.2⟩) (fun y=>So N x794 y.1 y.2.1 y.2.2.1 y.2.2.2.1=some dg) (fun y=>y.1) (N,1,bg,be,4) gf ?_ ?_
  ·exact leF F
  ·rintro⟨n,i805,aq,an,bz⟩ aa
   try simp only at aa
   obtain _|n:=n
   ·exact absurd aa (by simp[So])
   rw[So] at aa
   refine go hS F ?_
   refine cb F (decide (i805<(x794.length:Int))) (fun bw=> ?_) (fun bw=> ?_)
   ·replace aa:=RT bw aa
    try simp only[Ov,yB] at aa
    obtain⟨⟨ay,aw⟩,bj,aa⟩:=aa
    have du:x794.getD i805.toNat (0,0)=(ay,aw):=ixs bj _
    have gg:=(Nr bj).1
    replace F:=fc du F
    try simp only[Ov,yB] at aa
    obtain⟨bu,fo,aa⟩:=aa
    replace F:=fc fo F
    refine go hS F ?_
    refine cb F (decide (bu<0)) (fun bb=> ?_) (fun bb=> ?_)
    ·replace aa:=RT bb aa
     try simp only[Ov,yB] at aa
     obtain⟨fu,aa⟩:=aa
     simp only[I64] at fu
     refine go hS F ?_
     exact Fb (n,i805+1,ay,aw,bz+1+1+1+1) aa (Nat.lt_succ_self _) (leF F)
    ·replace aa:=RU bb aa
     try simp only[Ov,yB] at aa
     obtain⟨ft,aa⟩:=aa
     simp only[I64] at ft
     refine go hS F ?_
     exact Fb (n,i805+1,aq,an,bz+1+1+1) aa (Nat.lt_succ_self _) (leF F)
   ·replace aa:=RU bw aa
    refine go hS F ?_
    exact RW (aq,an,bz+1) (yJ aa) (leF F)
 ·rintro⟨dp,dm,gt⟩ fy
  subst fy
  try simp only at h
  obtain rfl:=yJ h
  refine go hS F ?_
  exact fin F
end
def VG (N:Nat):Bt
 |[.sl b9 _ x794 _,.clo (.func 73) [] []]=>some (((b9=2∨x794=[])∧x794=(x794.map R8).map R9)∧(Sd N (x794.map R8)).isSome=true,.agg [.i (((Sd N (x794.map R8)).getD (0,0)).1),.i (((Sd N (x794.map R8)).getD (0,0)).2)])
 |_=>none
theorem Xn (N:Nat):FOK Tryz.prog 88 (VG N):=⟨kV,by
 intro args vc r h hv
 unfold VG at h
 split at h
 ·cases h
  obtain⟨⟨gm,gr⟩,hs⟩:=hv
  obtain⟨r,hr⟩:=yX hs
  have hk:=UD N _ r hr
  simp only[hr,Option.getD_some]
  refine PCall.arg ?_ hk
  simp only[wkL,wk,and_true,true_and,yF,false_implies,implies_true]
  repeat' (first|exact yT|assumption|apply And.intro)
 ·simp at h⟩
def Tu (N:Nat) (am:Int) (ak:Int) (aj:Int) (ai:Int) (ah:Int) (af:Int) (ae:Int) (ab:Int):Option ((Int×Int)×(Int×Int)):=
 gd (0≤IntKind.wrap .u64 2)<|
 gd (IntKind.wrap .u64 2≤1000000)<|
 (some ((Lib.bitLen (IntKind.wrap .u64 2:Int).toNat:Int))).bind fun fx=>
 (SY N aj ai am ak).bind fun br=>
 bif decide (br<0) then(
  gd (0≤IntKind.wrap .u64 2)<|
  gd (IntKind.wrap .u64 2≤1000000)<|
  (SY N ae ab ah af).bind fun bq=>
  bif decide (bq<0) then(
   (Sc N [(aj,ai),(ae,ab)]).bind fun(de,dc)=>
   (Sd N [(am,ak),(ah,af)]).bind fun(db,c8)=>
   some ((de,dc),(db,c8)))
  else(
   (Sc N [(aj,ai),(ah,af)]).bind fun(c7,cz)=>
   (Sd N [(am,ak),(ae,ab)]).bind fun(cy,cu)=>
   some ((c7,cz),(cy,cu))))
 else(
  gd (0≤IntKind.wrap .u64 2)<|
  gd (IntKind.wrap .u64 2≤1000000)<|
  (SY N ae ab ah af).bind fun bp=>
  bif decide (bp<0) then(
   (Sc N [(am,ak),(ae,ab)]).bind fun(cr,cq)=>
   (Sd N [(aj,ai),(ah,af)]).bind fun(co,cn)=>
   some ((cr,cq),(co,cn)))
  else(
   (Sc N [(am,ak),(ah,af)]).bind fun(ck,cj)=>
   (Sd N [(aj,ai),(ae,ab)]).bind fun(ci,ce)=>
   some ((ck,cj),(ci,ce))))
def T72 (N:Nat):List (Nat×Bt):=[(96,NX),(73,s73 N),(87,VF N),(88,VG N)]
theorem Xo (N:Nat):TabOK Tryz.prog (CC (T72 N)):=EC Rl (EC (Wn N) (EC (Xm N) (EC (Xn N) (BW))))
section
attribute [local go_sem] T72 NX VF VG
theorem VH (N:Nat) (am:Int) (ak:Int) (aj:Int) (ai:Int) (ah:Int) (af:Int) (ae:Int) (ab:Int) (r:(Int×Int)×(Int×Int)) (h:Tu N am ak aj ai ah af ae ab=some r):PCall Tryz.prog 72 [.agg [.i am,.i ak],.agg [.i aj,.i ai],.agg [.i ah,.i af],.agg [.i ae,.i ab]] (.tup [.agg [.i r.1.1,.i r.1.2],.agg [.i r.2.1,.i r.2.2]]):=by
 refine Jw (Xo N) _ Tryz.func72 jR jS (by simp) fun _=> ?_
 have hS:=Xo N
 have F:=f0
 unfold Zz ZA
 unfold Tu at h
 refine go hS F ?_
 refine Np hS 1 Tryz.func86 Ya Yb Yc rfl (by simp only[go_sem,seval,F]<;>eq_refl) (by simp only[go_sem,seval,F]<;>eq_refl) ?_ rfl (by simp only[go_sem,seval,F]<;>eq_refl) (by simp) fun hb=> ?_
 ·exact goc hS F
 unfold Wz WA
 try simp only[Ov,yB] at h
 obtain⟨fv,gx,fx,fm,h⟩:=h
 have fr:=yJ fm
 replace F:=fc fr F
 refine go hS F ?_
 refine Np hS 6 Tryz.func95 Yd Ye Yf rfl (by simp only[go_sem,seval,F]<;>eq_refl) (by simp only[go_sem,seval,F]<;>eq_refl) ?_ rfl (by simp only[go_sem,seval,F]<;>eq_refl) (by simp) fun hb=> ?_
 ·exact goc hS F
 unfold WB WC
 refine go hS F ?_
 refine Li 30 ?_
 refine go hS F ?_
 refine ct F ?_
 refine go hS F ?_
 refine Np hS 4 Tryz.func101 WD WE WF rfl (by simp only[go_sem,seval,F]<;>eq_refl) (by simp only[go_sem,seval,F]<;>eq_refl) ?_ rfl (by simp only[go_sem,seval,F]<;>eq_refl) (by simp) fun hb=> ?_
 ·exact goc hS F
 unfold Wk Wl
 refine go hS F ?_
 refine Li 30 ?_
 refine go hS F ?_
 refine ct F ?_
 refine go hS F ?_
 refine Li 30 ?_
 try simp only[Ov,yB] at h
 obtain⟨br,fj,h⟩:=h
 replace F:=fc fj F
 refine go hS F ?_
 refine cb F (decide (br<0)) (fun ge=> ?_) (fun ge=> ?_)
 ·replace h:=RT ge h
  refine go hS F ?_
  refine cf F ?_
  refine go hS F ?_
  refine cf F ?_
  refine go hS F ?_
  refine Np hS 1 Tryz.func86 Ya Yb Yc rfl (by simp only[go_sem,seval,F]<;>eq_refl) (by simp only[go_sem,seval,F]<;>eq_refl) ?_ rfl (by simp only[go_sem,seval,F]<;>eq_refl) (by simp) fun hb=> ?_
  ·exact goc hS F
  unfold Wz WA
  try simp only[Ov,yB] at h
  obtain⟨gw,gv,h⟩:=h
  refine go hS F ?_
  refine Np hS 6 Tryz.func95 Yd Ye Yf rfl (by simp only[go_sem,seval,F]<;>eq_refl) (by simp only[go_sem,seval,F]<;>eq_refl) ?_ rfl (by simp only[go_sem,seval,F]<;>eq_refl) (by simp) fun hb=> ?_
  ·exact goc hS F
  unfold WB WC
  refine go hS F ?_
  refine Li 30 ?_
  refine go hS F ?_
  refine ct F ?_
  refine go hS F ?_
  refine Np hS 4 Tryz.func101 WD WE WF rfl (by simp only[go_sem,seval,F]<;>eq_refl) (by simp only[go_sem,seval,F]<;>eq_refl) ?_ rfl (by simp only[go_sem,seval,F]<;>eq_refl) (by simp) fun hb=> ?_
  ·exact goc hS F
  unfold Wk Wl
  refine go hS F ?_
  refine Li 30 ?_
  refine go hS F ?_
  refine ct F ?_
  refine go hS F ?_
  refine Li 30 ?_
  try simp only[Ov,yB] at h
  obtain⟨bq,fh,h⟩:=h
  replace F:=fc fh F
  refine go hS F ?_
  refine cb F (decide (bq<0)) (fun bb=> ?_) (fun bb=> ?_)
  ·replace h:=RT bb h
   refine go hS F ?_
   refine cf F ?_
   refine go hS F ?_
   refine cf F ?_
   try simp only[Ov,yB] at h
   obtain⟨⟨de,dc⟩,fg,h⟩:=h
   replace F:=fc fg F
   try simp only[Ov,yB] at h
   obtain⟨⟨db,c8⟩,fb,h⟩:=h
   replace F:=fc fb F
   obtain rfl:=yJ h
   refine go hS F ?_
   exact fin F
  ·replace h:=RU bb h
   refine go hS F ?_
   refine cf F ?_
   try simp only[Ov,yB] at h
   obtain⟨⟨c7,cz⟩,ez,h⟩:=h
   replace F:=fc ez F
   try simp only[Ov,yB] at h
   obtain⟨⟨cy,cu⟩,eu,h⟩:=h
   replace F:=fc eu F
   obtain rfl:=yJ h
   refine go hS F ?_
   exact fin F
 ·replace h:=RU ge h
  refine go hS F ?_
  refine cf F ?_
  refine go hS F ?_
  refine Np hS 1 Tryz.func86 Ya Yb Yc rfl (by simp only[go_sem,seval,F]<;>eq_refl) (by simp only[go_sem,seval,F]<;>eq_refl) ?_ rfl (by simp only[go_sem,seval,F]<;>eq_refl) (by simp) fun hb=> ?_
  ·exact goc hS F
  unfold Wz WA
  try simp only[Ov,yB] at h
  obtain⟨fu,ft,h⟩:=h
  refine go hS F ?_
  refine Np hS 6 Tryz.func95 Yd Ye Yf rfl (by simp only[go_sem,seval,F]<;>eq_refl) (by simp only[go_sem,seval,F]<;>eq_refl) ?_ rfl (by simp only[go_sem,seval,F]<;>eq_refl) (by simp) fun hb=> ?_
  ·exact goc hS F
  unfold WB WC
  refine go hS F ?_
  refine Li 30 ?_
  refine go hS F ?_
  refine ct F ?_
  refine go hS F ?_
  refine Np hS 4 Tryz.func101 WD WE WF rfl (by simp only[go_sem,seval,F]<;>eq_refl) (by simp only[go_sem,seval,F]<;>eq_refl) ?_ rfl (by simp only[go_sem,seval,F]<;>eq_refl) (by simp) fun hb=> ?_
  ·exact goc hS F
  unfold Wk Wl
  refine go hS F ?_
  refine Li 30 ?_
  refine go hS F ?_
  refine ct F ?_
  refine go hS F ?_
  refine Li 30 ?_
  try simp only[Ov,yB] at h
  obtain⟨bp,em,h⟩:=h
  replace F:=fc em F
  refine go hS F ?_
  refine cb F (decide (bp<0)) (fun gc=> ?_) (fun gc=> ?_)
  ·replace h:=RT gc h
   refine go hS F ?_
   refine cf F ?_
   refine go hS F ?_
   refine cf F ?_
   try simp only[Ov,yB] at h
   obtain⟨⟨cr,cq⟩,ej,h⟩:=h
   replace F:=fc ej F
   try simp only[Ov,yB] at h
   obtain⟨⟨co,cn⟩,ei,h⟩:=h
   replace F:=fc ei F
   obtain rfl:=yJ h
   refine go hS F ?_
   exact fin F
  ·replace h:=RU gc h
   refine go hS F ?_
   refine cf F ?_
   try simp only[Ov,yB] at h
   obtain⟨⟨ck,cj⟩,eh,h⟩:=h
   replace F:=fc eh F
   try simp only[Ov,yB] at h
   obtain⟨⟨ci,ce⟩,d9,h⟩:=h
   replace F:=fc d9 F
   obtain rfl:=yJ h
   refine go hS F ?_
   exact fin F
end
def s72 (N:Nat):Bt
 |[.agg [.v (.int .i64 am),.v (.int .i64 ak)],.agg [.v (.int .i64 aj),.v (.int .i64 ai)],.agg [.v (.int .i64 ah),.v (.int .i64 af)],.agg [.v (.int .i64 ae),.v (.int .i64 ab)]]=>some ((Tu N am ak aj ai ah af ae ab).isSome=true,.tup [.agg [.i ((((Tu N am ak aj ai ah af ae ab).getD ((0,0),(0,0))).1).1),.i ((((Tu N am ak aj ai ah af ae ab).getD ((0,0),(0,0))).1).2)],.agg [.i ((((Tu N am ak aj ai ah af ae ab).getD ((0,0),(0,0))).2).1),.i ((((Tu N am ak aj ai ah af ae ab).getD ((0,0),(0,0))).2).2)]])
 |_=>none
theorem fA (N:Nat):FOK Tryz.prog 72 (s72 N):=⟨jT,by
 intro args vc r h hv
 unfold s72 at h
 split at h
 ·cases h
  have hs:=hv
  obtain⟨r,hr⟩:=yX hs
  have hk:=VH N _ _ _ _ _ _ _ _ r hr
  simp only[hr,Option.getD_some]
  refine PCall.arg ?_ hk
  simp only[wkL,wk,and_true,true_and,yF,false_implies,implies_true]
  try trivial
 ·simp at h⟩
end Go.Proofs.YtdabfcbelkjmgaaGreatDoor.Am
