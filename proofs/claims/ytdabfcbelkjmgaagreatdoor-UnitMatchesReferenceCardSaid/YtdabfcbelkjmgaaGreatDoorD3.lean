import Derived.Test.YtdabfcbelkjmgaaGreatDoorDR
import Derived.Test.YtdabfcbelkjmgaaGreatDoorA13
namespace Go.Proofs.YtdabfcbelkjmgaaGreatDoor.Am
open Go
attribute [local irreducible] awp Ed Df Dr Ee Bz B8 Dg DM itK
set_option maxRecDepth 100000
set_option maxHeartbeats 8000000
set_option linter.unusedSimpArgs false
set_option linter.unusedVariables false
def Tk (x:Int×Int×Int):List AV:=[.i x.1,.i x.2.1,.i x.2.2]
def WI:List AV→Int×Int×Int
 |[.v (.int _ a1),.v (.int _ a2),.v (.int _ a3)]=>(a1,a2,a3)
 |_=>(0,0,0)
theorem dT (x:Int×Int×Int):WI (Tk x)=x:=by rfl
theorem dU (R:List (Int×Int×Int)):(R.map Tk).map WI=R:=by
 induction R with
 |nil=>rfl
 |cons r R ih=>rw[List.map_cons,List.map_cons,ih,dT]
theorem W0 (R:List (Int×Int×Int)) (i:Nat):C1 (R.map Tk) [.i 0,.i 0,.i 0] i=Tk (R.getD i (0,0,0)):=by
 unfold C1;rw[List.getD_eq_getElem?_getD,List.getD_eq_getElem?_getD,List.getElem?_map];cases R[i]? <;>rfl
theorem YK (A B:List (Int×Int×Int)) (i:Nat):C1 (A.map Tk++B.map Tk) [.i 0,.i 0,.i 0] i=Tk ((A++B).getD i (0,0,0)):=by
 rw[←List.map_append];exact W0 _ _
def TG (N:Nat) (a1381:List (Int×Int)):Nat→Int→(List (Int×Int×Int))→Option ((List (Int×Int×Int)))
 |0,_,_=>none
 |n+1,i1401,l1402=>
  bif decide (i1401<(a1381.length:Int)) then(
   (nth a1381 i1401).bind fun(bm,bj)=>
   (Sl N a1381 i1401).bind fun(ck,cj)=>
   gd (I64 (bj-cj))<|
   gd (I64 (ck-bm))<|
   gd (I64 (cj-bj))<|
   gd (I64 ((cj-bj)*bm))<|
   gd (I64 (ck-bm))<|
   gd (I64 ((ck-bm)*bj))<|
   gd (I64 (((cj-bj)*bm)-((ck-bm)*bj)))<|
   gd ((l1402.length+1)*24≤140737488355328)<|
   gd (I64 (i1401+1))<|
   TG N a1381 n (i1401+1) (l1402++[(bj-cj,ck-bm,((cj-bj)*bm)-((ck-bm)*bj))]))
  else(
   some l1402)
def TH (N:Nat) (b1382:List (Int×Int)):Nat→Int→(List (Int×Int×Int))→Option ((List (Int×Int×Int)))
 |0,_,_=>none
 |n+1,i1431,l1432=>
  bif decide (i1431<(b1382.length:Int)) then(
   (nth b1382 i1431).bind fun(bi,bh)=>
   (Sl N b1382 i1431).bind fun(ci,ce)=>
   gd (I64 (bh-ce))<|
   gd (I64 (ci-bi))<|
   gd (I64 (ce-bh))<|
   gd (I64 ((ce-bh)*bi))<|
   gd (I64 (ci-bi))<|
   gd (I64 ((ci-bi)*bh))<|
   gd (I64 (((ce-bh)*bi)-((ci-bi)*bh)))<|
   gd ((l1432.length+1)*24≤140737488355328)<|
   gd (I64 (i1431+1))<|
   TH N b1382 n (i1431+1) (l1432++[(bh-ce,ci-bi,((ce-bh)*bi)-((ci-bi)*bh))]))
  else(
   some l1432)
def Ty (N:Nat) (l1413:List (Int×Int×Int)) (l1443:List (Int×Int×Int)) (bo:Int) (bn:Int) (bp:Int):Nat→Bool→Int→Option Bool
 |0,_,_=>none
 |n+1,ae,n1717=>
  bif decide (n1717<((l1413++l1443).length:Int)) then(
   gd (ae=true→(0≤n1717∧n1717<((l1413++l1443).length:Int)))<|
   gd (ae=true→(0≤n1717∧n1717<((l1413++l1443).length:Int)))<|
   gd (ae=true→(I64 ((((l1413++l1443).getD n1717.toNat (0,0,0)).1)*bo)))<|
   gd (ae=true→(0≤n1717∧n1717<((l1413++l1443).length:Int)))<|
   gd (ae=true→(0≤n1717∧n1717<((l1413++l1443).length:Int)))<|
   gd (ae=true→(I64 ((((l1413++l1443).getD n1717.toNat (0,0,0)).2.1)*bn)))<|
   gd (ae=true→(I64 (((((l1413++l1443).getD n1717.toNat (0,0,0)).1)*bo)+((((l1413++l1443).getD n1717.toNat (0,0,0)).2.1)*bn))))<|
   gd (ae=true→(0≤n1717∧n1717<((l1413++l1443).length:Int)))<|
   gd (ae=true→(0≤n1717∧n1717<((l1413++l1443).length:Int)))<|
   gd (ae=true→(I64 ((((l1413++l1443).getD n1717.toNat (0,0,0)).2.2)*bp)))<|
   gd (ae=true→(I64 ((((((l1413++l1443).getD n1717.toNat (0,0,0)).1)*bo)+((((l1413++l1443).getD n1717.toNat (0,0,0)).2.1)*bn))+((((l1413++l1443).getD n1717.toNat (0,0,0)).2.2)*bp))))<|
   gd (I64 (n1717+1))<|
   Ty N l1413 l1443 bo bn bp n (ae&&(decide (0≤(((((l1413++l1443).getD n1717.toNat (0,0,0)).1)*bo)+((((l1413++l1443).getD n1717.toNat (0,0,0)).2.1)*bn))+((((l1413++l1443).getD n1717.toNat (0,0,0)).2.2)*bp)))) (n1717+1))
  else(
   some ae)
def S1 (N:Nat) (l1413:List (Int×Int×Int)) (l1443:List (Int×Int×Int)) (i1636:Int):Nat→Int→(List (Int×Int×Int))→Option ((List (Int×Int×Int)))
 |0,_,_=>none
 |n+1,k1681,l1682=>
  bif decide (k1681<((l1413++l1443).length:Int)) then(
   (nth (l1413++l1443) i1636).bind fun(aj,ai,av)=>
   (nth (l1413++l1443) k1681).bind fun(ah,af,au)=>
   gd (I64 (ai*au))<|
   gd (I64 (af*av))<|
   gd (I64 ((ai*au)-(af*av)))<|
   gd (I64 (av*ah))<|
   gd (I64 (au*aj))<|
   gd (I64 ((av*ah)-(au*aj)))<|
   gd (I64 (aj*af))<|
   gd (I64 (ah*ai))<|
   gd (I64 ((aj*af)-(ah*ai)))<|
   bif decide ((aj*af)-(ah*ai)=0) then(
    gd (I64 (k1681+1))<|
    S1 N l1413 l1443 i1636 n (k1681+1) l1682)
   else(
    (bif decide ((aj*af)-(ah*ai)<0) then(
      gd (I64 (-((ai*au)-(af*av))))<|
      gd (I64 (-((av*ah)-(au*aj))))<|
      gd (I64 (-((aj*af)-(ah*ai))))<|
      some (-((ai*au)-(af*av)),-((av*ah)-(au*aj)),-((aj*af)-(ah*ai))))
     else(
      some ((ai*au)-(af*av),(av*ah)-(au*aj),(aj*af)-(ah*ai))):Option (Int×Int×Int)).bind fun(bo,bn,bp)=>
    (Ty N l1413 l1443 bo bn bp N true 0).bind fun dg=>
    bif dg then(
     gd ((l1682.length+1)*24≤140737488355328)<|
     gd (I64 (k1681+1))<|
     S1 N l1413 l1443 i1636 n (k1681+1) (l1682++[(bo,bn,bp)]))
    else(
     gd (I64 (k1681+1))<|
     S1 N l1413 l1443 i1636 n (k1681+1) l1682)))
  else(
   some l1682)
def Tz (N:Nat) (l1413:List (Int×Int×Int)) (l1443:List (Int×Int×Int)):Nat→Int→(List (Int×Int×Int))→Option ((List (Int×Int×Int)))
 |0,_,_=>none
 |n+1,i1636,db=>
  bif decide (i1636<((l1413++l1443).length:Int)) then(
   gd (I64 (i1636+1))<|
   (S1 N l1413 l1443 i1636 N (i1636+1) db).bind fun ei=>
   gd (I64 (i1636+1))<|
   Tz N l1413 l1443 n (i1636+1) ei)
  else(
   some db)
def TA (N:Nat) (k1749:Int) (l1734:List (Int×Int×Int)) (i1742:Int):Nat→Int→Option (Sum Unit Bool)
 |0,_=>none
 |n+1,n1764=>
  bif decide (n1764<k1749) then(
   (nth l1734 i1742).bind fun(cq,co,cu)=>
   (nth l1734 k1749).bind fun(be,bb,aq)=>
   (nth l1734 n1764).bind fun(ba,az,an)=>
   gd (I64 (bb*an))<|
   gd (I64 (aq*az))<|
   gd (I64 ((bb*an)-(aq*az)))<|
   gd (I64 (cq*((bb*an)-(aq*az))))<|
   gd (I64 (be*an))<|
   gd (I64 (aq*ba))<|
   gd (I64 ((be*an)-(aq*ba)))<|
   gd (I64 (co*((be*an)-(aq*ba))))<|
   gd (I64 ((cq*((bb*an)-(aq*az)))-(co*((be*an)-(aq*ba)))))<|
   gd (I64 (be*az))<|
   gd (I64 (bb*ba))<|
   gd (I64 ((be*az)-(bb*ba)))<|
   gd (I64 (cu*((be*az)-(bb*ba))))<|
   gd (I64 (((cq*((bb*an)-(aq*az)))-(co*((be*an)-(aq*ba))))+(cu*((be*az)-(bb*ba)))))<|
   bif decide (((cq*((bb*an)-(aq*az)))-(co*((be*an)-(aq*ba))))+(cu*((be*az)-(bb*ba)))≠0) then(
    some (.inr true))
   else(
    gd (I64 (n1764+1))<|
    TA N k1749 l1734 i1742 n (n1764+1)))
  else(
   some (.inl ()))
def TB (N:Nat) (i1742:Int) (l1734:List (Int×Int×Int)):Nat→Int→Option (Sum Unit Bool)
 |0,_=>none
 |n+1,k1749=>
  bif decide (k1749<i1742) then(
   (TA N k1749 l1734 i1742 N 0).bind fun dw=>match dw with
    | .inl ()=>(
     gd (I64 (k1749+1))<|
     TB N i1742 l1734 n (k1749+1))
    | .inr jn=>(
     some (.inr jn)))
  else(
   some (.inl ()))
def TC (N:Nat) (l1734:List (Int×Int×Int)):Nat→Int→Option (Sum Unit Bool)
 |0,_=>none
 |n+1,i1742=>
  bif decide (i1742<(l1734.length:Int)) then(
   (TB N i1742 l1734 N 0).bind fun du=>match du with
    | .inl ()=>(
     gd (I64 (i1742+1))<|
     TC N l1734 n (i1742+1))
    | .inr jm=>(
     some (.inr jm)))
  else(
   some (.inl ()))
def SW (N:Nat) (a1381:List (Int×Int)) (b1382:List (Int×Int)):Option Bool:=
 (Sa N a1381).bind fun dp=>
 gd ((!(!dp))=true→((Sa N b1382).isSome=true))<|
 bif (!dp)||(!((Sa N b1382).getD false)) then(
  some false)
 else(
  (TG N a1381 N 0 []).bind fun l1413=>
  (TH N b1382 N 0 []).bind fun l1443=>
  gd ((l1413.length+l1443.length)*24≤140737488355328)<|
  (Tz N l1413 l1443 N 0 []).bind fun l1734=>
  (TC N l1734 N 0).bind fun dt=>match dt with
   | .inl ()=>(
    some false)
   | .inr jl=>(
    some jl))
def T53 (N:Nat):List (Nat×Bt):=[(41,s41 N),(70,s70 N)]
theorem W3 (N:Nat):TabOK Tryz.prog (CC (T53 N)):=EC (Vp N) (EC (VV N) (BW))
attribute [local go_sem] s41 R9 Sf Sg R8 RX Qr Qs List.set_cons_succ List.isEmpty_map List.map_append List.map_eq_nil_iff ne_eq List.length_replicate RG RH List.length_set Option.isSome_some
section
attribute [local go_sem] T53 s70 Tk dU W0 YK WI
theorem UL (N:Nat) (a1381:List (Int×Int)) (b1382:List (Int×Int)) (r:Bool) (h:SW N a1381 b1382=some r):PCall Tryz.prog 53 [.sl 2 false (a1381.map R9) [.i 0,.i 0],.sl 2 false (b1382.map R9) [.i 0,.i 0]] (.b r):=by
 refine Jw (W3 N) _ Tryz.func53 iH iI (by simp) fun _=> ?_
 have hS:=W3 N
 have F:=f0
 unfold Y8 Y9
 unfold SW at h
 try simp only[Ov,yB] at h
 obtain⟨dp,i7,o9,h⟩:=h
 replace F:=fc i7 F
 refine go hS F ?_
 refine cb F ((!dp)||(!((Sa N b1382).getD false))) (fun hc2=> ?_) (fun hc2=> ?_)
 ·replace h:=RT hc2 h
  obtain rfl:=yJ h
  refine go hS F ?_
  exact fin F
 ·replace h:=RU hc2 h
  refine go hS F ?_
  refine QO hS 1 3 (by decide) Tryz.func76 ZH ZI ZJ Tryz.func76 ZH ZI ZJ rfl rfl (by simp only[go_sem,seval,F]<;>eq_refl) (by simp only[go_sem,seval,F]<;>eq_refl) (by simp only[go_sem,seval,F]<;>eq_refl) ?_ rfl (by simp only[go_sem,seval,F]<;>eq_refl) (by simp) fun hb=> ?_
  ·exact goc hS F
  unfold X6 X7
  refine go hS F ?_
  refine Kh 1000001 3 3 [.i 0,.i 0,.i 0] (by show(3:Nat)<52;omega) (by omega) (by simp only[go_sem,seval,F]<;>eq_refl) ?_
  try simp only[Ov,yB] at h
  obtain⟨ge,pi,h⟩:=h
  refine go hS F ?_
  refine Rx (fun z:(List (Int×Int×Int))×Nat=>⟨[(3,.own (1000001,7) z.1.length)],[(.a (1000001,7),.sl 3 true (z.1.map Tk) [.i 0,.i 0,.i 0])],z.2⟩) (fun z=>(z.1:(List (Int×Int×Int)))=ge) (.x 0) ?_ ?_
  ·refine Ez (fun y:Nat×Int×(List (Int×Int×Int))×Nat=>⟨[(0,.sl 2 false (a1381.map R9) [.i 0,.i 0]),(3,.own (1000001,7) y.2.2.1.length),(4,.i y.2.1)],[(.a (1000001,7),.sl 3 true (y.2.2.1.map Tk) [.i 0,.i 0,.i 0])],y.2.2.2⟩) (fun y=>TG N a1381 y.1 y.2.1 y.2.2.1=some ge) (fun y=>y.1) (N,0,[],7) pi ?_ ?_
   ·exact leF F
   ·rintro⟨n,i1401,l1402,gv⟩ cz
    try simp only at cz
    obtain _|n:=n
    ·exact absurd cz (by simp[TG])
    rw[TG] at cz
    refine go hS F ?_
    refine cb F (decide (i1401<(a1381.length:Int))) (fun nb=> ?_) (fun nb=> ?_)
    ·replace cz:=RT nb cz
     try simp only[Ov,yB] at cz
     obtain⟨⟨bm,bj⟩,fo,cz⟩:=cz
     have ip:a1381.getD i1401.toNat (0,0)=(bm,bj):=ixs fo _
     have nw:=(Nr fo).1
     replace F:=fc ip F
     try simp only[Ov,yB] at cz
     obtain⟨⟨ck,cj⟩,i6,cz⟩:=cz
     replace F:=fc i6 F
     try simp only[Ov,yB] at cz
     obtain⟨oy,om,oh,og,jx,m7,jt,js,iu,cz⟩:=cz
     simp only[I64] at oy
     simp only[I64] at om
     simp only[I64] at oh
     simp only[I64] at og
     simp only[I64] at jx
     simp only[I64] at m7
     simp only[I64] at jt
     simp only[I64] at iu
     refine go hS F ?_
     exact Fb (n,i1401+1,l1402++[(bj-cj,ck-bm,((cj-bj)*bm)-((ck-bm)*bj))],gv+1+1+1+1+1) cz (Nat.lt_succ_self _) (leF F)
    ·replace cz:=RU nb cz
     refine go hS F ?_
     exact RW (l1402,gv+1) (yJ cz) (leF F)
  ·rintro⟨l1413,dc⟩ g8
   subst g8
   try simp only at h
   refine go hS F ?_
   first|refine RO (by simp only[go_sem,seval,F]<;>eq_refl) (by simp only[go_sem,seval,F]<;>eq_refl) ?_ ?_ rfl (by simp only[go_sem,seval,F]<;>eq_refl) (by simp) fun hb=> ?_|refine RN (by simp only[go_sem,seval,F]<;>eq_refl) (by simp only[go_sem,seval,F]<;>eq_refl) ?_ ?_ rfl (by simp only[go_sem,seval,F]<;>eq_refl) (by simp) fun hb=> ?_
   ·exact goc hS F
   ·exact goc hS F
   try unfold X6 X7
   refine go hS F ?_
   refine Kh 1000002 3 3 [.i 0,.i 0,.i 0] (by show(3:Nat)<52;omega) (by omega) (by simp only[go_sem,seval,F]<;>eq_refl) ?_
   try simp only[Ov,yB] at h
   obtain⟨gc,n9,h⟩:=h
   refine go hS F ?_
   refine Rx (fun z:(List (Int×Int×Int))×Nat=>⟨[(3,.own (1000002,dc+1+1+1+1+1+1) z.1.length)],[(.a (1000001,7),.sl 3 true (l1413.map Tk) [.i 0,.i 0,.i 0]),(.a (1000002,dc+1+1+1+1+1+1),.sl 3 true (z.1.map Tk) [.i 0,.i 0,.i 0])],z.2⟩) (fun z=>(z.1:(List (Int×Int×Int)))=gc) (.x 0) ?_ ?_
   ·refine Ez (fun y:Nat×Int×(List (Int×Int×Int))×Nat=>⟨[(0,.sl 2 false (b1382.map R9) [.i 0,.i 0]),(3,.own (1000002,dc+1+1+1+1+1+1) y.2.2.1.length),(4,.i y.2.1)],[(.a (1000001,7),.sl 3 true (l1413.map Tk) [.i 0,.i 0,.i 0]),(.a (1000002,dc+1+1+1+1+1+1),.sl 3 true (y.2.2.1.map Tk) [.i 0,.i 0,.i 0])],y.2.2.2⟩) (fun y=>TH N b1382 y.1 y.2.1 y.2.2.1=some gc) (fun y=>y.1) (N,0,[],dc+1+1+1+1+1+1) n9 ?_ ?_
    ·exact leF F
    ·rintro⟨n,i1431,l1432,gu⟩ bw
     try simp only at bw
     obtain _|n:=n
     ·exact absurd bw (by simp[TH])
     rw[TH] at bw
     refine go hS F ?_
     refine cb F (decide (i1431<(b1382.length:Int))) (fun dh=> ?_) (fun dh=> ?_)
     ·replace bw:=RT dh bw
      try simp only[Ov,yB] at bw
      obtain⟨⟨bi,bh⟩,fm,bw⟩:=bw
      have im:b1382.getD i1431.toNat (0,0)=(bi,bh):=ixs fm _
      have nv:=(Nr fm).1
      replace F:=fc im F
      try simp only[Ov,yB] at bw
      obtain⟨⟨ci,ce⟩,iz,bw⟩:=bw
      replace F:=fc iz F
      try simp only[Ov,yB] at bw
      obtain⟨ir,my,mu,mr,mq,iq,mo,o8,mj,bw⟩:=bw
      simp only[I64] at ir
      simp only[I64] at my
      simp only[I64] at mu
      simp only[I64] at mr
      simp only[I64] at mq
      simp only[I64] at iq
      simp only[I64] at mo
      simp only[I64] at mj
      refine go hS F ?_
      exact Fb (n,i1431+1,l1432++[(bh-ce,ci-bi,((ce-bh)*bi)-((ci-bi)*bh))],gu+1+1+1+1+1) bw (Nat.lt_succ_self _) (leF F)
     ·replace bw:=RU dh bw
      refine go hS F ?_
      exact RW (l1432,gu+1) (yJ bw) (leF F)
   ·rintro⟨l1443,ab⟩ kd
    subst kd
    try simp only at h
    try simp only[Ov,yB] at h
    obtain⟨o7,h⟩:=h
    refine go hS F ?_
    refine Kh 1000004 6 3 [.i 0,.i 0,.i 0] (by show(6:Nat)<245;omega) (by omega) (by simp only[go_sem,seval,F]<;>eq_refl) ?_
    try simp only[Ov,yB] at h
    obtain⟨fv,n7,h⟩:=h
    refine go hS F ?_
    refine Rx (fun z:(List (Int×Int×Int))×Nat=>⟨[(6,.own (1000004,ab+1+1+1+1+1) z.1.length)],[(.a (1000004,ab+1+1+1+1+1),.sl 3 true (z.1.map Tk) [.i 0,.i 0,.i 0])],z.2⟩) (fun z=>(z.1:(List (Int×Int×Int)))=fv) (.x 0) ?_ ?_
    ·refine Ez (fun y:Nat×Int×(List (Int×Int×Int))×Nat=>⟨[(5,.own (1000001,7) (l1413++l1443).length),(6,.own (1000004,ab+1+1+1+1+1) y.2.2.1.length),(7,.i y.2.1)],[(.a (1000004,ab+1+1+1+1+1),.sl 3 true (y.2.2.1.map Tk) [.i 0,.i 0,.i 0]),(.a (1000001,7),.sl 3 true ((l1413++l1443).map Tk) [.i 0,.i 0,.i 0])],y.2.2.2⟩) (fun y=>Tz N l1413 l1443 y.1 y.2.1 y.2.2.1=some fv) (fun y=>y.1) (N,0,[],ab+1+1+1+1+1) n7 ?_ ?_
     ·exact leF F
     ·rintro⟨n,i1636,db,gt⟩ br
      try simp only at br
      obtain _|n:=n
      ·exact absurd br (by simp[Tz])
      rw[Tz] at br
      refine go hS F ?_
      refine cb F (decide (i1636<((l1413++l1443).length:Int))) (fun jg=> ?_) (fun jg=> ?_)
      ·replace br:=RT jg br
       try simp only[Ov,yB] at br
       obtain⟨mi,br⟩:=br
       simp only[I64] at mi
       try simp only[Ov,yB] at br
       obtain⟨fx,n6,br⟩:=br
       refine go hS F ?_
       refine Rx (fun z:(List (Int×Int×Int))×Nat=>⟨[(5,.own (1000001,7) (l1413++l1443).length),(6,.own (1000004,ab+1+1+1+1+1) z.1.length),(7,.i i1636)],[(.a (1000004,ab+1+1+1+1+1),.sl 3 true (z.1.map Tk) [.i 0,.i 0,.i 0]),(.a (1000001,7),.sl 3 true ((l1413++l1443).map Tk) [.i 0,.i 0,.i 0])],z.2⟩) (fun z=>(z.1:(List (Int×Int×Int)))=fx) (.x 2) ?_ ?_
       ·refine Ez (fun y:Nat×Int×(List (Int×Int×Int))×Nat=>⟨[(5,.own (1000001,7) (l1413++l1443).length),(6,.own (1000004,ab+1+1+1+1+1) y.2.2.1.length),(7,.i i1636),(8,.i y.2.1)],[(.a (1000004,ab+1+1+1+1+1),.sl 3 true (y.2.2.1.map Tk) [.i 0,.i 0,.i 0]),(.a (1000001,7),.sl 3 true ((l1413++l1443).map Tk) [.i 0,.i 0,.i 0])],y.2.2.2⟩) (fun y=>S1 N l1413 l1443 i1636 y.1 y.2.1 y.2.2.1=some fx) (fun y=>y.1) (N,i1636+1,db,gt+1+1) n6 ?_ ?_
        ·exact leF F
        ·rintro⟨n,k1681,l1682,aw⟩ aa
         try simp only at aa
         obtain _|n:=n
         ·exact absurd aa (by simp[S1])
         rw[S1] at aa
         refine go hS F ?_
         refine cb F (decide (k1681<((l1413++l1443).length:Int))) (fun jf=> ?_) (fun jf=> ?_)
         ·replace aa:=RT jf aa
          try simp only[Ov,yB] at aa
          obtain⟨⟨aj,ai,av⟩,fj,aa⟩:=aa
          have il:(l1413++l1443).getD i1636.toNat (0,0,0)=(aj,ai,av):=ixs fj _
          have nu:=(Nr fj).1
          replace F:=fc il F
          try simp only[Ov,yB] at aa
          obtain⟨⟨ah,af,au⟩,fh,aa⟩:=aa
          have ij:(l1413++l1443).getD k1681.toNat (0,0,0)=(ah,af,au):=ixs fh _
          have nr:=(Nr fh).1
          replace F:=fc ij F
          try simp only[Ov,yB] at aa
          obtain⟨mh,mg,me,md,mc,mb,ma,l7,l6,aa⟩:=aa
          simp only[I64] at mh
          simp only[I64] at mg
          simp only[I64] at me
          simp only[I64] at md
          simp only[I64] at mc
          simp only[I64] at mb
          simp only[I64] at ma
          simp only[I64] at l7
          simp only[I64] at l6
          refine go hS F ?_
          refine cb F (decide ((aj*af)-(ah*ai)=0)) (fun je=> ?_) (fun je=> ?_)
          ·replace aa:=RT je aa
           try simp only[Ov,yB] at aa
           obtain⟨lz,aa⟩:=aa
           simp only[I64] at lz
           refine go hS F ?_
           exact Fb (n,k1681+1,l1682,aw+1+1+1+1) aa (Nat.lt_succ_self _) (leF F)
          ·replace aa:=RU je aa
           try simp only[Ov,yB] at aa
           obtain⟨jo,cy,aa⟩:=aa
           refine go hS F ?_
           refine Rx (fun z:Int×Int×Int×Nat=>⟨[(5,.own (1000001,7) (l1413++l1443).length),(6,.own (1000004,ab+1+1+1+1+1) l1682.length),(7,.i i1636),(8,.i k1681),(9,.box (1170,aw+1+1) 0)],[(.c (1170,aw+1+1) 0,.i z.1),(.c (1170,aw+1+1) 1,.i z.2.1),(.c (1170,aw+1+1) 2,.i z.2.2.1),(.a (1000004,ab+1+1+1+1+1),.sl 3 true (l1682.map Tk) [.i 0,.i 0,.i 0]),(.a (1000001,7),.sl 3 true ((l1413++l1443).map Tk) [.i 0,.i 0,.i 0])],z.2.2.2⟩) (fun z=>((z.1,z.2.1,z.2.2.1):Int×Int×Int)=jo) .n ?_ ?_
           ·refine go hS F ?_
            refine cb F (decide ((aj*af)-(ah*ai)<0)) (fun jd=> ?_) (fun jd=> ?_)
            ·replace cy:=RT jd cy
             try simp only[Ov,yB] at cy
             obtain⟨ly,lx,lw,cy⟩:=cy
             simp only[I64] at ly
             simp only[I64] at lx
             simp only[I64] at lw
             refine go hS F ?_
             exact RW (-((ai*au)-(af*av)),-((av*ah)-(au*aj)),-((aj*af)-(ah*ai)),aw+1+1+1+1+1) (yJ cy) (leF F)
            ·replace cy:=RU jd cy
             refine go hS F ?_
             exact RW ((ai*au)-(af*av),(av*ah)-(au*aj),(aj*af)-(ah*ai),aw+1+1+1+1) (yJ cy) (leF F)
           ·rintro⟨bo,bn,bp,j7⟩ kc
            subst kc
            try simp only at aa
            try simp only[Ov,yB] at aa
            obtain⟨fy,n5,aa⟩:=aa
            refine go hS F ?_
            refine Rx (fun z:Bool×Nat=>⟨[(5,.own (1000001,7) (l1413++l1443).length),(6,.own (1000004,ab+1+1+1+1+1) l1682.length),(7,.i i1636),(8,.i k1681),(9,.box (1170,aw+1+1) 0),(10,.b z.1)],[(.c (1170,aw+1+1) 0,.i bo),(.c (1170,aw+1+1) 1,.i bn),(.c (1170,aw+1+1) 2,.i bp),(.a (1000004,ab+1+1+1+1+1),.sl 3 true (l1682.map Tk) [.i 0,.i 0,.i 0]),(.a (1000001,7),.sl 3 true ((l1413++l1443).map Tk) [.i 0,.i 0,.i 0])],z.2⟩) (fun z=>(z.1:Bool)=fy) (.x 4) ?_ ?_
            ·refine Ez (fun y:Nat×Bool×Int×Nat=>⟨[(5,.own (1000001,7) (l1413++l1443).length),(6,.own (1000004,ab+1+1+1+1+1) l1682.length),(7,.i i1636),(8,.i k1681),(9,.box (1170,aw+1+1) 0),(10,.b y.2.1),(11,.i y.2.2.1)],[(.c (1170,aw+1+1) 0,.i bo),(.c (1170,aw+1+1) 1,.i bn),(.c (1170,aw+1+1) 2,.i bp),(.a (1000004,ab+1+1+1+1+1),.sl 3 true (l1682.map Tk) [.i 0,.i 0,.i 0]),(.a (1000001,7),.sl 3 true ((l1413++l1443).map Tk) [.i 0,.i 0,.i 0])],y.2.2.2⟩) (fun y=>Ty N l1413 l1443 bo bn bp y.1 y.2.1 y.2.2.1=some fy) (fun y=>y.1) (N,true,0,j7+1+1) n5 ?_ ?_
             ·exact leF F
             ·rintro⟨n,ae,n1717,gr⟩ cn
              try simp only at cn
              obtain _|n:=n
              ·exact absurd cn (by simp[Ty])
              rw[Ty] at cn
              refine go hS F ?_
              refine cb F (decide (n1717<((l1413++l1443).length:Int))) (fun jc=> ?_) (fun jc=> ?_)
              ·replace cn:=RT jc cn
               try simp only[Ov,yB] at cn
               obtain⟨o0,oz,lu,ox,ow,lr,lq,ov,ot,lm,lj,li,cn⟩:=cn
               simp only[I64] at lu
               simp only[I64] at lr
               simp only[I64] at lq
               simp only[I64] at lm
               simp only[I64] at lj
               simp only[I64] at li
               refine go hS F ?_
               exact Fb (n,ae&&(decide (0≤(((((l1413++l1443).getD n1717.toNat (0,0,0)).1)*bo)+((((l1413++l1443).getD n1717.toNat (0,0,0)).2.1)*bn))+((((l1413++l1443).getD n1717.toNat (0,0,0)).2.2)*bp))),n1717+1,gr+1+1+1) cn (Nat.lt_succ_self _) (leF F)
              ·replace cn:=RU jc cn
               refine go hS F ?_
               exact RW (ae,gr+1) (yJ cn) (leF F)
            ·rintro⟨dg,gm⟩ ka
             subst ka
             try simp only at aa
             refine go hS F ?_
             refine cb F (dg) (fun jb=> ?_) (fun jb=> ?_)
             ·replace aa:=RT jb aa
              try simp only[Ov,yB] at aa
              obtain⟨oj,lh,aa⟩:=aa
              simp only[I64] at lh
              refine go hS F ?_
              exact Fb (n,k1681+1,l1682++[(bo,bn,bp)],gm+1+1+1) aa (Nat.lt_succ_self _) (leF F)
             ·replace aa:=RU jb aa
              try simp only[Ov,yB] at aa
              obtain⟨lg,aa⟩:=aa
              simp only[I64] at lg
              refine go hS F ?_
              exact Fb (n,k1681+1,l1682,gm+1+1) aa (Nat.lt_succ_self _) (leF F)
         ·replace aa:=RU jf aa
          refine go hS F ?_
          exact RW (l1682,aw+1) (yJ aa) (leF F)
       ·rintro⟨ei,j6⟩ j9
        subst j9
        try simp only at br
        try simp only[Ov,yB] at br
        obtain⟨lf,br⟩:=br
        simp only[I64] at lf
        refine go hS F ?_
        exact Fb (n,i1636+1,ei,j6+1) br (Nat.lt_succ_self _) (leF F)
      ·replace br:=RU jg br
       refine go hS F ?_
       exact RW (db,gt+1) (yJ br) (leF F)
    ·rintro⟨l1734,j5⟩ j8
     subst j8
     try simp only at h
     try simp only[Ov,yB] at h
     obtain⟨dt,n4,h⟩:=h
     refine go hS F ?_
     refine Rx (fun z:Nat=>⟨[],[],z⟩) (fun z=>(.inl ():Sum Unit Bool)=dt) (.x 6) ?_ ?_
     ·refine Ez (fun y:Nat×Int×Nat=>⟨[(6,.own (1000004,ab+1+1+1+1+1) l1734.length),(12,.i y.2.1)],[(.a (1000004,ab+1+1+1+1+1),.sl 3 true (l1734.map Tk) [.i 0,.i 0,.i 0])],y.2.2⟩) (fun y=>TC N l1734 y.1 y.2.1=some dt) (fun y=>y.1) (N,0,j5+1) n4 ?_ ?_
      ·exact leF F
      ·rintro⟨n,i1742,gj⟩ bv
       try simp only at bv
       obtain _|n:=n
       ·exact absurd bv (by simp[TC])
       rw[TC] at bv
       refine go hS F ?_
       refine cb F (decide (i1742<(l1734.length:Int))) (fun ja=> ?_) (fun ja=> ?_)
       ·replace bv:=RT ja bv
        try simp only[Ov,yB] at bv
        obtain⟨du,nz,bv⟩:=bv
        refine go hS F ?_
        refine Rx (fun z:Nat=>⟨[(6,.own (1000004,ab+1+1+1+1+1) l1734.length),(12,.i i1742)],[(.a (1000004,ab+1+1+1+1+1),.sl 3 true (l1734.map Tk) [.i 0,.i 0,.i 0])],z⟩) (fun z=>(.inl ():Sum Unit Bool)=du) (.x 8) ?_ ?_
        ·refine Ez (fun y:Nat×Int×Nat=>⟨[(6,.own (1000004,ab+1+1+1+1+1) l1734.length),(12,.i i1742),(13,.i y.2.1)],[(.a (1000004,ab+1+1+1+1+1),.sl 3 true (l1734.map Tk) [.i 0,.i 0,.i 0])],y.2.2⟩) (fun y=>TB N i1742 l1734 y.1 y.2.1=some du) (fun y=>y.1) (N,0,gj+1+1) nz ?_ ?_
         ·exact leF F
         ·rintro⟨n,k1749,gi⟩ bu
          try simp only at bu
          obtain _|n:=n
          ·exact absurd bu (by simp[TB])
          rw[TB] at bu
          refine go hS F ?_
          refine cb F (decide (k1749<i1742)) (fun i9=> ?_) (fun i9=> ?_)
          ·replace bu:=RT i9 bu
           try simp only[Ov,yB] at bu
           obtain⟨dw,ny,bu⟩:=bu
           refine go hS F ?_
           refine Rx (fun z:Nat=>⟨[(6,.own (1000004,ab+1+1+1+1+1) l1734.length),(12,.i i1742),(13,.i k1749)],[(.a (1000004,ab+1+1+1+1+1),.sl 3 true (l1734.map Tk) [.i 0,.i 0,.i 0])],z⟩) (fun z=>(.inl ():Sum Unit Bool)=dw) (.x 10) ?_ ?_
           ·refine Ez (fun y:Nat×Int×Nat=>⟨[(6,.own (1000004,ab+1+1+1+1+1) l1734.length),(12,.i i1742),(13,.i k1749),(14,.i y.2.1)],[(.a (1000004,ab+1+1+1+1+1),.sl 3 true (l1734.map Tk) [.i 0,.i 0,.i 0])],y.2.2⟩) (fun y=>TA N k1749 l1734 i1742 y.1 y.2.1=some dw) (fun y=>y.1) (N,0,gi+1+1) ny ?_ ?_
            ·exact leF F
            ·rintro⟨n,n1764,gh⟩ am
             try simp only at am
             obtain _|n:=n
             ·exact absurd am (by simp[TA])
             rw[TA] at am
             refine go hS F ?_
             refine cb F (decide (n1764<k1749)) (fun i8=> ?_) (fun i8=> ?_)
             ·replace am:=RT i8 am
              try simp only[Ov,yB] at am
              obtain⟨⟨cq,co,cu⟩,fg,am⟩:=am
              have ii:l1734.getD i1742.toNat (0,0,0)=(cq,co,cu):=ixs fg _
              have nq:=(Nr fg).1
              replace F:=fc ii F
              try simp only[Ov,yB] at am
              obtain⟨⟨be,bb,aq⟩,fb,am⟩:=am
              have ig:l1734.getD k1749.toNat (0,0,0)=(be,bb,aq):=ixs fb _
              have no:=(Nr fb).1
              replace F:=fc ig F
              try simp only[Ov,yB] at am
              obtain⟨⟨ba,az,an⟩,ez,am⟩:=am
              have ie:l1734.getD n1764.toNat (0,0,0)=(ba,az,an):=ixs ez _
              have nk:=(Nr ez).1
              replace F:=fc ie F
              try simp only[Ov,yB] at am
              obtain⟨k9,k7,kx,kw,kv,kt,kr,kq,km,kl,kj,ki,kh,kg,am⟩:=am
              simp only[I64] at k9
              simp only[I64] at k7
              simp only[I64] at kx
              simp only[I64] at kw
              simp only[I64] at kv
              simp only[I64] at kt
              simp only[I64] at kr
              simp only[I64] at kq
              simp only[I64] at km
              simp only[I64] at kl
              simp only[I64] at kj
              simp only[I64] at ki
              simp only[I64] at kh
              simp only[I64] at kg
              refine go hS F ?_
              refine cb F (decide (((cq*((bb*an)-(aq*az)))-(co*((be*an)-(aq*ba))))+(cu*((be*az)-(bb*ba)))≠0)) (fun fq=> ?_) (fun fq=> ?_)
              ·replace am:=RT fq am
               obtain rfl:=yJ am
               try simp only at bu
               obtain rfl:=yJ bu
               try simp only at bv
               obtain rfl:=yJ bv
               try simp only at h
               obtain rfl:=yJ h
               refine go hS F ?_
               exact fin F
              ·replace am:=RU fq am
               try simp only[Ov,yB] at am
               obtain⟨jw,am⟩:=am
               simp only[I64] at jw
               refine go hS F ?_
               exact Fb (n,n1764+1,gh+1+1+1+1+1+1) am (Nat.lt_succ_self _) (leF F)
             ·replace am:=RU i8 am
              refine go hS F ?_
              exact RW (gh+1) (yJ am) (leF F)
           ·rintro j4 jr
            subst jr
            try simp only at bu
            try simp only[Ov,yB] at bu
            obtain⟨jv,bu⟩:=bu
            simp only[I64] at jv
            refine go hS F ?_
            exact Fb (n,k1749+1,j4+1) bu (Nat.lt_succ_self _) (leF F)
          ·replace bu:=RU i9 bu
           refine go hS F ?_
           exact RW (gi+1) (yJ bu) (leF F)
        ·rintro jz jq
         subst jq
         try simp only at bv
         try simp only[Ov,yB] at bv
         obtain⟨ju,bv⟩:=bv
         simp only[I64] at ju
         refine go hS F ?_
         exact Fb (n,i1742+1,jz+1) bv (Nat.lt_succ_self _) (leF F)
       ·replace bv:=RU ja bv
        refine go hS F ?_
        exact RW (gj+1) (yJ bv) (leF F)
     ·rintro oc jp
      subst jp
      try simp only at h
      obtain rfl:=yJ h
      refine go hS F ?_
      exact fin F
end
def s53 (N:Nat):Bt
 |[.sl gz _ a1381 _,.sl gx _ b1382 _]=>some (((gz=2∨a1381=[])∧a1381=(a1381.map R8).map R9)∧((gx=2∨b1382=[])∧b1382=(b1382.map R8).map R9)∧(SW N (a1381.map R8) (b1382.map R8)).isSome=true,.b ((SW N (a1381.map R8) (b1382.map R8)).getD false))
 |_=>none
theorem Yl (N:Nat):FOK Tryz.prog 53 (s53 N):=⟨iJ,by
 intro args vc r h hv
 unfold s53 at h
 split at h
 ·cases h
  obtain⟨⟨oe,pd⟩,⟨od,pc⟩,hs⟩:=hv
  obtain⟨r,hr⟩:=yX hs
  have hk:=UL N _ _ r hr
  simp only[hr,Option.getD_some]
  refine PCall.arg ?_ hk
  simp only[wkL,wk,and_true,true_and,yF,false_implies,implies_true]
  repeat' (first|exact yT|assumption|apply And.intro)
 ·simp at h⟩
def TE (N:Nat) (a1792:List (Int×Int)) (ak:Int) (b1793:List (Int×Int)):Nat→Int→(List (Int×Int))→Option ((List (Int×Int)))
 |0,_,_=>none
 |n+1,ay,l1839=>
  bif decide (ay≤40) then(
   (Tc N a1792 ak ay).bind fun dm=>
   gd ((decide (dm=0))=true→((Tc N b1793 ak ay).isSome=true))<|
   bif (decide (dm=0))&&(decide ((Tc N b1793 ak ay).getD 0=0)) then(
    gd ((l1839.length+1)*16≤140737488355328)<|
    gd (I64 (ay+1))<|
    TE N a1792 ak b1793 n (ay+1) (l1839++[(ak,ay)]))
   else(
    gd (I64 (ay+1))<|
    TE N a1792 ak b1793 n (ay+1) l1839))
  else(
   some l1839)
def T1 (N:Nat) (a1792:List (Int×Int)) (b1793:List (Int×Int)):Nat→Int→(List (Int×Int))→Option ((List (Int×Int)))
 |0,_,_=>none
 |n+1,ak,c8=>
  bif decide (ak≤40) then(
   (TE N a1792 ak b1793 N 0 c8).bind fun eh=>
   gd (I64 (ak+1))<|
   T1 N a1792 b1793 n (ak+1) eh)
  else(
   some c8)
def Ua (N:Nat) (a1792:List (Int×Int)) (ca:Int) (b9:Int) (b7:Int) (bz:Int):Nat→Int→Option (Sum Unit ((((Int×Int)×(Int×Int))×Bool)))
 |0,_=>none
 |n+1,i1867=>
  bif decide (i1867<(a1792.length:Int)) then(
   (nth a1792 i1867).bind fun(d8,dz)=>
   (SG N ca b9 b7 bz d8 dz).bind fun d9=>
   bif decide (d9<0) then(
    some (.inr (((b7,bz),(ca,b9)),true)))
   else(
    gd (I64 (i1867+1))<|
    Ua N a1792 ca b9 b7 bz n (i1867+1)))
  else(
   some (.inl ()))
def S5 (N:Nat) (a1792:List (Int×Int)) (b1793:List (Int×Int)):Option (((Int×Int)×(Int×Int))×Bool):=
 (Sa N a1792).bind fun c7=>
 gd ((!(!c7))=true→((Sa N b1793).isSome=true))<|
 gd ((!((!c7)||(!((Sa N b1793).getD false))))=true→((SW N a1792 b1793).isSome=true))<|
 bif ((!c7)||(!((Sa N b1793).getD false)))||((SW N a1792 b1793).getD false) then(
  some (((0,0),(0,0)),false))
 else(
  (T1 N a1792 b1793 N 0 []).bind fun l1852=>
  bif decide ((l1852.length:Int)<2) then(
   some (((0,0),(0,0)),false))
  else(
   (nth l1852 0).bind fun(ca,b9)=>
   gd (I64 ((l1852.length:Int)-1))<|
   (nth l1852 ((l1852.length:Int)-1)).bind fun(b7,bz)=>
   (Ua N a1792 ca b9 b7 bz N 0).bind fun dq=>match dq with
    | .inl ()=>(
     some (((ca,b9),(b7,bz)),true))
    | .inr jk=>(
     some jk)))
def T51 (N:Nat):List (Nat×Bt):=[(41,s41 N),(53,s53 N),(74,s74 N),(69,s69 N)]
theorem W4 (N:Nat):TabOK Tryz.prog (CC (T51 N)):=EC (Vp N) (EC (Yl N) (EC (fC N) (EC (Wm N) (BW))))
section
attribute [local go_sem] T51 s53 s74 s69
theorem Vc (N:Nat) (a1792:List (Int×Int)) (b1793:List (Int×Int)) (r:((Int×Int)×(Int×Int))×Bool) (h:S5 N a1792 b1793=some r):PCall Tryz.prog 51 [.sl 2 false (a1792.map R9) [.i 0,.i 0],.sl 2 false (b1793.map R9) [.i 0,.i 0]] (.tup [.agg [.i r.1.1.1,.i r.1.1.2,.i r.1.2.1,.i r.1.2.2],.b r.2]):=by
 refine Jw (W4 N) _ Tryz.func51 iB iC (by simp) fun _=> ?_
 have hS:=W4 N
 have F:=f0
 unfold Y4 Y5
 unfold S5 at h
 try simp only[Ov,yB] at h
 obtain⟨c7,iy,o9,pj,h⟩:=h
 replace F:=fc iy F
 refine go hS F ?_
 refine cb F (((!c7)||(!((Sa N b1793).getD false)))||((SW N a1792 b1793).getD false)) (fun nc=> ?_) (fun nc=> ?_)
 ·replace h:=RT nc h
  obtain rfl:=yJ h
  refine go hS F ?_
  exact fin F
 ·replace h:=RU nc h
  refine go hS F ?_
  refine Kh 1000002 6 2 [.i 0,.i 0] (by show(6:Nat)<85;omega) (by omega) (by simp only[go_sem,seval,F]<;>eq_refl) ?_
  try simp only[Ov,yB] at h
  obtain⟨ft,ph,h⟩:=h
  refine go hS F ?_
  refine Rx (fun z:(List (Int×Int))×Nat=>⟨[(0,.sl 2 false (a1792.map R9) [.i 0,.i 0]),(4,.box (0,1) 0),(6,.own (1000002,5) z.1.length)],[(.a (1000002,5),.sl 2 true (z.1.map R9) [.i 0,.i 0]),(.c (0,1) 0,.i 0),(.c (0,1) 1,.i 0),(.c (0,1) 2,.i 0),(.c (0,1) 3,.i 0)],z.2⟩) (fun z=>(z.1:(List (Int×Int)))=ft) (.x 0) ?_ ?_
  ·refine Ez (fun y:Nat×Int×(List (Int×Int))×Nat=>⟨[(0,.sl 2 false (a1792.map R9) [.i 0,.i 0]),(1,.sl 2 false (b1793.map R9) [.i 0,.i 0]),(4,.box (0,1) 0),(6,.own (1000002,5) y.2.2.1.length),(7,.i y.2.1)],[(.a (1000002,5),.sl 2 true (y.2.2.1.map R9) [.i 0,.i 0]),(.c (0,1) 0,.i 0),(.c (0,1) 1,.i 0),(.c (0,1) 2,.i 0),(.c (0,1) 3,.i 0)],y.2.2.2⟩) (fun y=>T1 N a1792 b1793 y.1 y.2.1 y.2.2.1=some ft) (fun y=>y.1) (N,0,[],5) ph ?_ ?_
   ·exact leF F
   ·rintro⟨n,ak,c8,gg⟩ de
    try simp only at de
    obtain _|n:=n
    ·exact absurd de (by simp[T1])
    rw[T1] at de
    refine go hS F ?_
    refine cb F (decide (ak≤40)) (fun m9=> ?_) (fun m9=> ?_)
    ·replace de:=RT m9 de
     try simp only[Ov,yB] at de
     obtain⟨fu,pg,de⟩:=de
     refine go hS F ?_
     refine Rx (fun z:(List (Int×Int))×Nat=>⟨[(0,.sl 2 false (a1792.map R9) [.i 0,.i 0]),(1,.sl 2 false (b1793.map R9) [.i 0,.i 0]),(4,.box (0,1) 0),(6,.own (1000002,5) z.1.length),(7,.i ak)],[(.a (1000002,5),.sl 2 true (z.1.map R9) [.i 0,.i 0]),(.c (0,1) 0,.i 0),(.c (0,1) 1,.i 0),(.c (0,1) 2,.i 0),(.c (0,1) 3,.i 0)],z.2⟩) (fun z=>(z.1:(List (Int×Int)))=fu) (.x 2) ?_ ?_
     ·refine Ez (fun y:Nat×Int×(List (Int×Int))×Nat=>⟨[(0,.sl 2 false (a1792.map R9) [.i 0,.i 0]),(1,.sl 2 false (b1793.map R9) [.i 0,.i 0]),(4,.box (0,1) 0),(6,.own (1000002,5) y.2.2.1.length),(7,.i ak),(8,.i y.2.1)],[(.a (1000002,5),.sl 2 true (y.2.2.1.map R9) [.i 0,.i 0]),(.c (0,1) 0,.i 0),(.c (0,1) 1,.i 0),(.c (0,1) 2,.i 0),(.c (0,1) 3,.i 0)],y.2.2.2⟩) (fun y=>TE N a1792 ak b1793 y.1 y.2.1 y.2.2.1=some fu) (fun y=>y.1) (N,0,c8,gg+1+1) pg ?_ ?_
      ·exact leF F
      ·rintro⟨n,ay,l1839,fr⟩ cr
       try simp only at cr
       obtain _|n:=n
       ·exact absurd cr (by simp[TE])
       rw[TE] at cr
       refine go hS F ?_
       refine cb F (decide (ay≤40)) (fun m8=> ?_) (fun m8=> ?_)
       ·replace cr:=RT m8 cr
        try simp only[Ov,yB] at cr
        obtain⟨dm,iw,jx,cr⟩:=cr
        replace F:=fc iw F
        refine go hS F ?_
        refine cb F ((decide (dm=0))&&(decide ((Tc N b1793 ak ay).getD 0=0))) (fun jj=> ?_) (fun jj=> ?_)
        ·replace cr:=RT jj cr
         try simp only[Ov,yB] at cr
         obtain⟨jt,js,cr⟩:=cr
         simp only[I64] at js
         refine go hS F ?_
         exact Fb (n,ay+1,l1839++[(ak,ay)],fr+1+1+1+1+1) cr (Nat.lt_succ_self _) (leF F)
        ·replace cr:=RU jj cr
         try simp only[Ov,yB] at cr
         obtain⟨iu,cr⟩:=cr
         simp only[I64] at iu
         refine go hS F ?_
         exact Fb (n,ay+1,l1839,fr+1+1+1+1) cr (Nat.lt_succ_self _) (leF F)
       ·replace cr:=RU m8 cr
        refine go hS F ?_
        exact RW (l1839,fr+1) (yJ cr) (leF F)
     ·rintro⟨eh,jy⟩ g8
      subst g8
      try simp only at de
      try simp only[Ov,yB] at de
      obtain⟨mz,de⟩:=de
      simp only[I64] at mz
      refine go hS F ?_
      exact Fb (n,ak+1,eh,jy+1) de (Nat.lt_succ_self _) (leF F)
    ·replace de:=RU m9 de
     refine go hS F ?_
     exact RW (c8,gg+1) (yJ de) (leF F)
  ·rintro⟨l1852,bq⟩ kf
   subst kf
   try simp only at h
   refine go hS F ?_
   refine cb F (decide ((l1852.length:Int)<2)) (fun dh=> ?_) (fun dh=> ?_)
   ·replace h:=RT dh h
    obtain rfl:=yJ h
    refine go hS F ?_
    exact fin F
   ·replace h:=RU dh h
    try simp only[Ov,yB] at h
    obtain⟨⟨ca,b9⟩,eu,h⟩:=h
    have ic:l1852.getD 0 (0,0)=(ca,b9):=ixs eu _
    have nj:=(Nr eu).1
    replace F:=fc ic F
    try simp only[Ov,yB] at h
    obtain⟨ir,⟨b7,bz⟩,em,h⟩:=h
    simp only[I64] at ir
    have ib:l1852.getD ((l1852.length:Int)-1).toNat (0,0)=(b7,bz):=ixs em _
    have nh:=(Nr em).1
    replace F:=fc ib F
    try simp only[Ov,yB] at h
    obtain⟨dq,n8,h⟩:=h
    refine go hS F ?_
    refine Rx (fun z:Nat=>⟨[(4,.box (0,1) 0),(10,.box (1503,bq+1+1) 0),(11,.box (1606,bq+1+1+1) 0)],[(.c (1606,bq+1+1+1) 0,.i b7),(.c (1606,bq+1+1+1) 1,.i bz),(.c (1503,bq+1+1) 0,.i ca),(.c (1503,bq+1+1) 1,.i b9),(.c (0,1) 0,.i 0),(.c (0,1) 1,.i 0),(.c (0,1) 2,.i 0),(.c (0,1) 3,.i 0)],z⟩) (fun z=>(.inl ():Sum Unit ((((Int×Int)×(Int×Int))×Bool)))=dq) (.x 4) ?_ ?_
    ·refine Ez (fun y:Nat×Int×Nat=>⟨[(0,.sl 2 false (a1792.map R9) [.i 0,.i 0]),(4,.box (0,1) 0),(10,.box (1503,bq+1+1) 0),(11,.box (1606,bq+1+1+1) 0),(12,.i y.2.1)],[(.c (1606,bq+1+1+1) 0,.i b7),(.c (1606,bq+1+1+1) 1,.i bz),(.c (1503,bq+1+1) 0,.i ca),(.c (1503,bq+1+1) 1,.i b9),(.c (0,1) 0,.i 0),(.c (0,1) 1,.i 0),(.c (0,1) 2,.i 0),(.c (0,1) 3,.i 0)],y.2.2⟩) (fun y=>Ua N a1792 ca b9 b7 bz y.1 y.2.1=some dq) (fun y=>y.1) (N,0,bq+1+1+1+1) n8 ?_ ?_
     ·exact leF F
     ·rintro⟨n,i1867,gf⟩ bg
      try simp only at bg
      obtain _|n:=n
      ·exact absurd bg (by simp[Ua])
      rw[Ua] at bg
      refine go hS F ?_
      refine cb F (decide (i1867<(a1792.length:Int))) (fun ji=> ?_) (fun ji=> ?_)
      ·replace bg:=RT ji bg
       try simp only[Ov,yB] at bg
       obtain⟨⟨d8,dz⟩,ej,bg⟩:=bg
       have g9:a1792.getD i1867.toNat (0,0)=(d8,dz):=ixs ej _
       have ng:=(Nr ej).1
       replace F:=fc g9 F
       try simp only[Ov,yB] at bg
       obtain⟨d9,iv,bg⟩:=bg
       replace F:=fc iv F
       refine go hS F ?_
       refine cb F (decide (d9<0)) (fun jh=> ?_) (fun jh=> ?_)
       ·replace bg:=RT jh bg
        obtain rfl:=yJ bg
        try simp only at h
        obtain rfl:=yJ h
        refine go hS F ?_
        exact fin F
       ·replace bg:=RU jh bg
        try simp only[Ov,yB] at bg
        obtain⟨iq,bg⟩:=bg
        simp only[I64] at iq
        refine go hS F ?_
        exact Fb (n,i1867+1,gf+1+1+1) bg (Nat.lt_succ_self _) (leF F)
      ·replace bg:=RU ji bg
       refine go hS F ?_
       exact RW (gf+1) (yJ bg) (leF F)
    ·rintro oa ke
     subst ke
     try simp only at h
     obtain rfl:=yJ h
     refine go hS F ?_
     exact fin F
end
def s51 (N:Nat):Bt
 |[.sl gy _ a1792 _,.sl gw _ b1793 _]=>some (((gy=2∨a1792=[])∧a1792=(a1792.map R8).map R9)∧((gw=2∨b1793=[])∧b1793=(b1793.map R8).map R9)∧(S5 N (a1792.map R8) (b1793.map R8)).isSome=true,.tup [.agg [.i (((((S5 N (a1792.map R8) (b1793.map R8)).getD (((0,0),(0,0)),false)).1).1).1),.i (((((S5 N (a1792.map R8) (b1793.map R8)).getD (((0,0),(0,0)),false)).1).1).2),.i (((((S5 N (a1792.map R8) (b1793.map R8)).getD (((0,0),(0,0)),false)).1).2).1),.i (((((S5 N (a1792.map R8) (b1793.map R8)).getD (((0,0),(0,0)),false)).1).2).2)],.b (((S5 N (a1792.map R8) (b1793.map R8)).getD (((0,0),(0,0)),false)).2)])
 |_=>none
theorem eJ (N:Nat):FOK Tryz.prog 51 (s51 N):=⟨iD,by
 intro args vc r h hv
 unfold s51 at h
 split at h
 ·cases h
  obtain⟨⟨oe,pd⟩,⟨od,pc⟩,hs⟩:=hv
  obtain⟨r,hr⟩:=yX hs
  have hk:=Vc N _ _ r hr
  simp only[hr,Option.getD_some]
  refine PCall.arg ?_ hk
  simp only[wkL,wk,and_true,true_and,yF,false_implies,implies_true]
  repeat' (first|exact yT|assumption|apply And.intro)
 ·simp at h⟩
end Go.Proofs.YtdabfcbelkjmgaaGreatDoor.Am
