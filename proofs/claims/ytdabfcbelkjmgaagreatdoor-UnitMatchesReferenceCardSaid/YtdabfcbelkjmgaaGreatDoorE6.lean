import Derived.Test.YtdabfcbelkjmgaaGreatDoorE5
import Derived.Test.YtdabfcbelkjmgaaGreatDoorD4
import Derived.Test.YtdabfcbelkjmgaaGreatDoorAc3
namespace Go.Proofs.YtdabfcbelkjmgaaGreatDoor.Am
open Go
attribute [local irreducible] awp Ed Df Dr Ee Bz B8 Dg DM itK
set_option maxRecDepth 100000
set_option maxHeartbeats 8000000
set_option linter.unusedSimpArgs false
set_option linter.unusedVariables false
def VB (x:Int):List AV:=[.v (.int .u8 x)]
def WN:List AV→Int
 |[.v (.int _ a1)]=>a1
 |_=>0
theorem fR (x:Int):WN (VB x)=x:=by rfl
theorem YG (R:List Int):(R.map VB).map WN=R:=by
 induction R with
 |nil=>rfl
 |cons r R ih=>rw[List.map_cons,List.map_cons,ih,fR]
theorem YH (R:List Int) (i:Nat):C1 (R.map VB) [.v (.int .u8 0)] i=VB (R.getD i 0):=by
 unfold C1;rw[List.getD_eq_getElem?_getD,List.getD_eq_getElem?_getD,List.getElem?_map];cases R[i]? <;>rfl
theorem vH (l:List Int):(l.map VB).map H8=l.map fun x=>UInt8.ofNat x.toNat:=by rw[List.map_map];rfl
theorem vI (l:List Int):(l.map VB).all isB=true:=by induction l with|nil=>rfl|cons x l ih=>simp[VB,isB]
def Ui (N:Nat) (n1:Int):Option Int:=
 bif decide (n1<0) then(
  gd (I64 (-n1))<|
  gd (IntKind.wrap .u64 ((IntKind.wrap .u64 (-n1))*2)=((IntKind.wrap .u64 (-n1))*2))<|
  gd (IntKind.wrap .u64 (((IntKind.wrap .u64 (-n1))*2)-1)=(((IntKind.wrap .u64 (-n1))*2)-1))<|
  some (((IntKind.wrap .u64 (-n1))*2)-1))
 else(
  gd (IntKind.wrap .u64 ((IntKind.wrap .u64 n1)*2)=((IntKind.wrap .u64 n1)*2))<|
  some ((IntKind.wrap .u64 n1)*2))
def T80 (N:Nat):List (Nat×Bt):=[]
theorem XY (N:Nat):TabOK Tryz.prog (CC (T80 N)):=BW
attribute [local go_sem] RX Qr Qs List.set_cons_succ List.isEmpty_map List.map_append List.map_eq_nil_iff ne_eq List.length_replicate RG RH R9 Sf Sg R8 H8 isB vH vI List.all_append List.length_set Option.isSome_some
section
attribute [local go_sem] T80
theorem UU (N:Nat) (n1:Int) (r:Int) (h:Ui N n1=some r):PCall Tryz.prog 80 [.i n1] (.v (.int .u64 r)):=by
 refine Jw (XY N) _ Tryz.func80 pW pX (by simp) fun _=> ?_
 have hS:=XY N
 have F:=f0
 unfold dK dL
 unfold Ui at h
 refine go hS F ?_
 refine cb F (decide (n1<0)) (fun az=> ?_) (fun az=> ?_)
 ·replace h:=RT az h
  try simp only[Ov,yB] at h
  obtain⟨i7,iz,gc,h⟩:=h
  simp only[I64] at i7
  obtain rfl:=yJ h
  refine go hS F ?_
  exact fin F
 ·replace h:=RU az h
  try simp only[Ov,yB] at h
  obtain⟨fb,h⟩:=h
  obtain rfl:=yJ h
  refine go hS F ?_
  exact fin F
end
def s80 (N:Nat):Bt
 |[.v (.int .i64 n1)]=>some ((Ui N n1).isSome=true,.v (.int .u64 ((Ui N n1).getD 0)))
 |_=>none
theorem fS (N:Nat):FOK Tryz.prog 80 (s80 N):=⟨pY,by
 intro args vc r h hv
 unfold s80 at h
 split at h
 ·cases h
  have hs:=hv
  obtain⟨r,hr⟩:=yX hs
  have hk:=UU N _ r hr
  simp only[hr,Option.getD_some]
  refine PCall.arg ?_ hk
  simp only[wkL,wk,and_true,true_and,yF,false_implies,implies_true]
  try trivial
 ·simp at h⟩
def TP (N:Nat):Nat→Int→(List Int)→Option (Int×(List Int))
 |0,_,_=>none
 |n+1,z10,l11=>
  bif decide (128≤z10) then(
   gd (IntKind.wrap .u64 ((z10.tmod 128)+128)=((z10.tmod 128)+128))<|
   gd ((l11.length+1)*1≤140737488355328)<|
   gd (IntKind.wrap .u64 (z10.tdiv 128)=(z10.tdiv 128))<|
   TP N n (z10.tdiv 128) (l11++[IntKind.wrap .u8 ((z10.tmod 128)+128)]))
  else(
   some (z10,l11))
def Ts (N:Nat) (n2:Int):Option ((List UInt8)×Int):=
 bif (decide (n2<(-4611686018427387903)))||(decide (4611686018427387903<n2)) then(
  some ([],10))
 else(
  (Ui N n2).bind fun r3=>
  (TP N N r3 []).bind fun(gw,l17)=>
  gd ((l17.length+1)*1≤140737488355328)<|
  some ((l17++[IntKind.wrap .u8 gw]).map fun x=>UInt8.ofNat x.toNat,0))
def T58 (N:Nat):List (Nat×Bt):=[(80,s80 N)]
theorem XZ (N:Nat):TabOK Tryz.prog (CC (T58 N)):=EC (fS N) (BW)
section
attribute [local go_sem] T58 s80 VB YG YH WN
theorem UV (N:Nat) (n2:Int) (r:(List UInt8)×Int) (h:Ts N n2=some r):PCall Tryz.prog 58 [.i n2] (.tup [.v (.string (sB r.1)),.i r.2]):=by
 refine Jw (XZ N) _ Tryz.func58 pL pM (by simp) fun _=> ?_
 have hS:=XZ N
 have F:=f0
 unfold cX cY
 unfold Ts at h
 refine go hS F ?_
 refine cb F ((decide (n2<(-4611686018427387903)))||(decide (4611686018427387903<n2))) (fun az=> ?_) (fun az=> ?_)
 ·replace h:=RT az h
  obtain rfl:=yJ h
  refine go hS F ?_
  exact fin F
 ·replace h:=RU az h
  try simp only[Ov,yB] at h
  obtain⟨r3,ja,h⟩:=h
  replace F:=fc ja F
  refine go hS F ?_
  refine Kh 1000001 5 1 [.v (.int .u8 0)] (by show(5:Nat)<31;omega) (by omega) (by simp only[go_sem,seval,F]<;>eq_refl) ?_
  try simp only[Ov,yB] at h
  obtain⟨gz,d9,h⟩:=h
  refine go hS F ?_
  refine Rx (fun z:Int×(List Int)×Nat=>⟨[(4,.v (.int .u64 z.1)),(5,.own (1000001,5) z.2.1.length)],[(.a (1000001,5),.sl 1 true (z.2.1.map VB) [.v (.int .u8 0)])],z.2.2⟩) (fun z=>((z.1,z.2.1):Int×(List Int))=gz) (.x 0) ?_ ?_
  ·refine Ez (fun y:Nat×Int×(List Int)×Nat=>⟨[(4,.v (.int .u64 y.2.1)),(5,.own (1000001,5) y.2.2.1.length)],[(.a (1000001,5),.sl 1 true (y.2.2.1.map VB) [.v (.int .u8 0)])],y.2.2.2⟩) (fun y=>TP N y.1 y.2.1 y.2.2.1=some gz) (fun y=>y.1) (N,r3,[],5) d9 ?_ ?_
   ·exact leF F
   ·rintro⟨n,z10,l11,c9⟩ aa
    try simp only at aa
    obtain _|n:=n
    ·exact absurd aa (by simp[TP])
    rw[TP] at aa
    refine go hS F ?_
    refine cb F (decide (128≤z10)) (fun ck=> ?_) (fun ck=> ?_)
    ·replace aa:=RT ck aa
     try simp only[Ov,yB] at aa
     obtain⟨fb,c7,iy,aa⟩:=aa
     refine go hS F ?_
     exact Fb (n,z10.tdiv 128,l11++[IntKind.wrap .u8 ((z10.tmod 128)+128)],c9+1+1+1) aa (Nat.lt_succ_self _) (leF F)
    ·replace aa:=RU ck aa
     refine go hS F ?_
     exact RW (z10,l11,c9+1) (yJ aa) (leF F)
  ·rintro⟨gw,l17,jm⟩ iu
   subst iu
   try simp only at h
   try simp only[Ov,yB] at h
   obtain⟨g8,h⟩:=h
   obtain rfl:=yJ h
   refine go hS F ?_
   exact fin F
end
def s58 (N:Nat):Bt
 |[.v (.int .i64 n2)]=>some ((Ts N n2).isSome=true,.tup [.v (.string (sB (((Ts N n2).getD ([],0)).1))),.i (((Ts N n2).getD ([],0)).2)])
 |_=>none
theorem YI (N:Nat):FOK Tryz.prog 58 (s58 N):=⟨pN,by
 intro args vc r h hv
 unfold s58 at h
 split at h
 ·cases h
  have hs:=hv
  obtain⟨r,hr⟩:=yX hs
  have hk:=UV N _ r hr
  simp only[hr,Option.getD_some]
  refine PCall.arg ?_ hk
  simp only[wkL,wk,and_true,true_and,yF,false_implies,implies_true]
  try trivial
 ·simp at h⟩
def Uj (N:Nat) (at20:Int) (s19:List UInt8):Nat→Int→Int→Option (Sum Unit ((Int×Int×Int)))
 |0,_,_=>none
 |n+1,aw,ab=>
  gd ((decide (ab<9))=true→(I64 (at20+ab)))<|
  bif (decide (ab<9))&&(decide (at20+ab<(s19.length:Int))) then(
   gd (I64 (at20+ab))<|
   gd (0≤at20+ab∧at20+ab<(s19.length:Int))<|
   gd (I64 (7*ab))<|
   gd (0≤7*ab)<|
   gd (IntKind.wrap .u64 (aw+(Cn .shl .u64 ((IntKind.wrap .u64 ((s19.getD (at20+ab).toNat 0).toNat:Int)).tmod 128) (7*ab)))=(aw+(Cn .shl .u64 ((IntKind.wrap .u64 ((s19.getD (at20+ab).toNat 0).toNat:Int)).tmod 128) (7*ab))))<|
   bif decide (128≤IntKind.wrap .u64 ((s19.getD (at20+ab).toNat 0).toNat:Int)) then(
    gd (I64 (ab+1))<|
    Uj N at20 s19 n (aw+(Cn .shl .u64 ((IntKind.wrap .u64 ((s19.getD (at20+ab).toNat 0).toNat:Int)).tmod 128) (7*ab))) (ab+1))
   else(
    gd (IntKind.wrap .u64 ((aw+(Cn .shl .u64 ((IntKind.wrap .u64 ((s19.getD (at20+ab).toNat 0).toNat:Int)).tmod 128) (7*ab))).tdiv 2)=((aw+(Cn .shl .u64 ((IntKind.wrap .u64 ((s19.getD (at20+ab).toNat 0).toNat:Int)).tmod 128) (7*ab))).tdiv 2))<|
    (bif decide ((aw+(Cn .shl .u64 ((IntKind.wrap .u64 ((s19.getD (at20+ab).toNat 0).toNat:Int)).tmod 128) (7*ab))).tmod 2=1) then(
      gd (I64 (-(IntKind.wrap .i64 ((aw+(Cn .shl .u64 ((IntKind.wrap .u64 ((s19.getD (at20+ab).toNat 0).toNat:Int)).tmod 128) (7*ab))).tdiv 2))))<|
      gd (I64 ((-(IntKind.wrap .i64 ((aw+(Cn .shl .u64 ((IntKind.wrap .u64 ((s19.getD (at20+ab).toNat 0).toNat:Int)).tmod 128) (7*ab))).tdiv 2)))-1))<|
      some ((-(IntKind.wrap .i64 ((aw+(Cn .shl .u64 ((IntKind.wrap .u64 ((s19.getD (at20+ab).toNat 0).toNat:Int)).tmod 128) (7*ab))).tdiv 2)))-1))
     else(
      some (IntKind.wrap .i64 ((aw+(Cn .shl .u64 ((IntKind.wrap .u64 ((s19.getD (at20+ab).toNat 0).toNat:Int)).tmod 128) (7*ab))).tdiv 2))):Option (Int)).bind fun fr=>
    (Ts N fr).bind fun(fo,cz)=>
    gd ((!(decide (cz≠0)))=true→(I64 (at20+ab)))<|
    gd ((!(decide (cz≠0)))=true→(I64 ((at20+ab)+1)))<|
    gd ((!(decide (cz≠0)))=true→(0≤at20∧at20≤(at20+ab)+1∧(at20+ab)+1≤(s19.length:Int)))<|
    bif (decide (cz≠0))||(!decide (fo=(s19.drop at20.toNat).take (((at20+ab)+1).toNat-at20.toNat))) then(
     some (.inr (0,0,10)))
    else(
     gd (I64 (at20+ab))<|
     gd (I64 ((at20+ab)+1))<|
     some (.inr (fr,(at20+ab)+1,0)))))
  else(
   some (.inl ()))
def TU (N:Nat) (s19:List UInt8) (at20:Int):Option (Int×Int×Int):=
 bif (decide (at20<0))||(decide ((s19.length:Int)<at20)) then(
  some (0,0,2))
 else(
  (Uj N at20 s19 N 0 0).bind fun ez=>match ez with
   | .inl ()=>(
    some (0,0,10))
   | .inr iq=>(
    some iq))
def T61 (N:Nat):List (Nat×Bt):=[(58,s58 N)]
theorem X0 (N:Nat):TabOK Tryz.prog (CC (T61 N)):=EC (YI N) (BW)
section
attribute [local go_sem] T61 s58
theorem Vt (N:Nat) (s19:List UInt8) (at20:Int) (r:Int×Int×Int) (h:TU N s19 at20=some r):PCall Tryz.prog 61 [.v (.string (sB s19)),.i at20] (.tup [.i r.1,.i r.2.1,.i r.2.2]):=by
 refine Jw (X0 N) _ Tryz.func61 pQ pR (by simp) fun _=> ?_
 have hS:=X0 N
 have F:=f0
 unfold dG dH
 unfold TU at h
 refine go hS F ?_
 refine cb F ((decide (at20<0))||(decide ((s19.length:Int)<at20))) (fun az=> ?_) (fun az=> ?_)
 ·replace h:=RT az h
  obtain rfl:=yJ h
  refine go hS F ?_
  exact fin F
 ·replace h:=RU az h
  try simp only[Ov,yB] at h
  obtain⟨ez,d9,h⟩:=h
  refine go hS F ?_
  refine Rx (fun z:Nat=>⟨[],[],z⟩) (fun z=>(.inl ():Sum Unit ((Int×Int×Int)))=ez) (.x 0) ?_ ?_
  ·refine Ez (fun y:Nat×Int×Int×Nat=>⟨[(0,.v (.string (sB s19))),(1,.i at20),(7,.v (.int .u64 y.2.1)),(8,.i y.2.2.1)],[],y.2.2.2⟩) (fun y=>Uj N at20 s19 y.1 y.2.1 y.2.2.1=some ez) (fun y=>y.1) (N,0,0,4) d9 ?_ ?_
   ·exact leF F
   ·rintro⟨n,aw,ab,fg⟩ aa
    try simp only at aa
    obtain _|n:=n
    ·exact absurd aa (by simp[Uj])
    rw[Uj] at aa
    try simp only[Ov,yB] at aa
    obtain⟨gc,aa⟩:=aa
    simp only[I64] at gc
    refine go hS F ?_
    refine cb F ((decide (ab<9))&&(decide (at20+ab<(s19.length:Int)))) (fun gu=> ?_) (fun gu=> ?_)
    ·replace aa:=RT gu aa
     try simp only[Ov,yB] at aa
     obtain⟨c7,iy,iw,g8,du,aa⟩:=aa
     simp only[I64] at c7
     simp only[I64] at iw
     refine go hS F ?_
     refine cb F (decide (128≤IntKind.wrap .u64 ((s19.getD (at20+ab).toNat 0).toNat:Int))) (fun cu=> ?_) (fun cu=> ?_)
     ·replace aa:=RT cu aa
      try simp only[Ov,yB] at aa
      obtain⟨cj,aa⟩:=aa
      simp only[I64] at cj
      refine go hS F ?_
      exact Fb (n,aw+(Cn .shl .u64 ((IntKind.wrap .u64 ((s19.getD (at20+ab).toNat 0).toNat:Int)).tmod 128) (7*ab)),ab+1,fg+1+1+1+1+1) aa (Nat.lt_succ_self _) (leF F)
     ·replace aa:=RU cu aa
      try simp only[Ov,yB] at aa
      obtain⟨i8,aa⟩:=aa
      try simp only[Ov,yB] at aa
      obtain⟨ir,ak,aa⟩:=aa
      refine go hS F ?_
      refine Rx (fun z:Int×Nat=>⟨[(0,.v (.string (sB s19))),(1,.i at20),(8,.i ab),(10,.i z.1)],[],z.2⟩) (fun z=>(z.1:Int)=ir) .n ?_ ?_
      ·refine go hS F ?_
       refine cb F (decide ((aw+(Cn .shl .u64 ((IntKind.wrap .u64 ((s19.getD (at20+ab).toNat 0).toNat:Int)).tmod 128) (7*ab))).tmod 2=1)) (fun cq=> ?_) (fun cq=> ?_)
       ·replace ak:=RT cq ak
        try simp only[Ov,yB] at ak
        obtain⟨dt,ci,ak⟩:=ak
        simp only[I64] at dt
        simp only[I64] at ci
        refine go hS F ?_
        exact RW ((-(IntKind.wrap .i64 ((aw+(Cn .shl .u64 ((IntKind.wrap .u64 ((s19.getD (at20+ab).toNat 0).toNat:Int)).tmod 128) (7*ab))).tdiv 2)))-1,fg+1+1+1+1+1+1+1) (yJ ak) (leF F)
       ·replace ak:=RU cq ak
        refine go hS F ?_
        exact RW (IntKind.wrap .i64 ((aw+(Cn .shl .u64 ((IntKind.wrap .u64 ((s19.getD (at20+ab).toNat 0).toNat:Int)).tmod 128) (7*ab))).tdiv 2),fg+1+1+1+1+1+1) (yJ ak) (leF F)
      ·rintro⟨fr,jl⟩ ce
       subst ce
       try simp only at aa
       try simp only[Ov,yB] at aa
       obtain⟨⟨fo,cz⟩,gm,aa⟩:=aa
       replace F:=fc gm F
       try simp only[Ov,yB] at aa
       obtain⟨dq,gg,i6,aa⟩:=aa
       simp only[I64] at dq
       simp only[I64] at gg
       refine go hS F ?_
       refine cb F ((decide (cz≠0))||(!decide (fo=(s19.drop at20.toNat).take (((at20+ab)+1).toNat-at20.toNat)))) (fun cn=> ?_) (fun cn=> ?_)
       ·replace aa:=RT cn aa
        obtain rfl:=yJ aa
        try simp only at h
        obtain rfl:=yJ h
        refine go hS F ?_
        exact fin F
       ·replace aa:=RU cn aa
        try simp only[Ov,yB] at aa
        obtain⟨gf,ge,aa⟩:=aa
        simp only[I64] at gf
        simp only[I64] at ge
        obtain rfl:=yJ aa
        try simp only at h
        obtain rfl:=yJ h
        refine go hS F ?_
        exact fin F
    ·replace aa:=RU gu aa
     refine go hS F ?_
     exact RW (fg+1) (yJ aa) (leF F)
  ·rintro jk ft
   subst ft
   try simp only at h
   obtain rfl:=yJ h
   refine go hS F ?_
   exact fin F
end
def s61 (N:Nat):Bt
 |[.v (.string s19),.v (.int .i64 at20)]=>some ((TU N (bL s19) at20).isSome=true,.tup [.i (((TU N (bL s19) at20).getD (0,0,0)).1),.i (((TU N (bL s19) at20).getD (0,0,0)).2.1),.i (((TU N (bL s19) at20).getD (0,0,0)).2.2)])
 |_=>none
theorem fT (N:Nat):FOK Tryz.prog 61 (s61 N):=⟨pS,by
 intro args vc r h hv
 unfold s61 at h
 split at h
 ·cases h
  have hs:=hv
  obtain⟨r,hr⟩:=yX hs
  have hk:=Vt N _ _ r hr
  simp only[hr,Option.getD_some]
  refine PCall.arg ?_ hk
  simp only[wkL,wk,and_true,true_and,yF,false_implies,implies_true]
  try trivial
 ·simp at h⟩
def TQ (N:Nat) (u52:List (Int×Int)):Nat→Int→(List Int)→Option ((List Int))
 |0,_,_=>none
 |n+1,i62,l63=>
  bif decide (i62<(u52.length:Int)) then(
   (nth u52 i62).bind fun(em,ej)=>
   gd ((l63.length+2)*8≤140737488355328)<|
   gd (I64 (i62+1))<|
   TQ N u52 n (i62+1) (l63++[em,ej]))
  else(
   some l63)
def TR (N:Nat) (l71:List Int):Nat→(List UInt8)→Int→Option ((List UInt8))
 |0,_,_=>none
 |n+1,s80,i81=>
  bif decide (i81<(l71.length:Int)) then(
   (nth l71 i81).bind fun fj=>
   (Ts N fj).bind fun(eu,ip)=>
   gd ((s80++eu).length≤140737488355328)<|
   gd (I64 (i81+1))<|
   TR N l71 n (s80++eu) (i81+1))
  else(
   some s80)
def Tt (N:Nat) (bj:Int) (bi:Int) (bh:Int) (u52:List (Int×Int)) (bg:Int) (be:Int):Option ((List UInt8)×Int):=
 (Sk N bj bi bh u52 bg be).bind fun fm=>
 bif !fm then(
  some ([],80))
 else(
  (TQ N u52 N 0 [bj,bi,bh,bg,be,(u52.length:Int)]).bind fun l71=>
  (TR N l71 N [] 0).bind fun s91=>
  some (s91,0))
def T28 (N:Nat):List (Nat×Bt):=[(12,s12 N),(58,s58 N)]
theorem X2 (N:Nat):TabOK Tryz.prog (CC (T28 N)):=EC (UJ N) (EC (YI N) (BW))
section
attribute [local go_sem] T28 s12 s58 e_i Wp Wq d_i
theorem UW (N:Nat) (bj:Int) (bi:Int) (bh:Int) (u52:List (Int×Int)) (bg:Int) (be:Int) (r:(List UInt8)×Int) (h:Tt N bj bi bh u52 bg be=some r):PCall Tryz.prog 28 [.agg [.i bj,.i bi,.i bh,.sl 2 false (u52.map R9) [.i 0,.i 0],.i bg,.i be]] (.tup [.v (.string (sB r.1)),.i r.2]):=by
 refine Jw (X2 N) _ Tryz.func28 pA pB (by simp) fun _=> ?_
 have hS:=X2 N
 have F:=f0
 unfold cO cP
 unfold Tt at h
 try simp only[Ov,yB] at h
 obtain⟨fm,gj,h⟩:=h
 replace F:=fc gj F
 refine go hS F ?_
 refine cb F (!fm) (fun az=> ?_) (fun az=> ?_)
 ·replace h:=RT az h
  obtain rfl:=yJ h
  refine go hS F ?_
  exact fin F
 ·replace h:=RU az h
  try simp only[Ov,yB] at h
  obtain⟨gy,d9,h⟩:=h
  refine go hS F ?_
  refine Rx (fun z:(List Int)×Nat=>⟨[(4,.own (313,3) z.1.length)],[(.a (313,3),.sl 1 true (z.1.map e_i) [.i 0])],z.2⟩) (fun z=>(z.1:(List Int))=gy) (.x 0) ?_ ?_
  ·refine Ez (fun y:Nat×Int×(List Int)×Nat=>⟨[(1,.box (0,1) 0),(4,.own (313,3) y.2.2.1.length),(5,.i y.2.1)],[(.a (313,3),.sl 1 true (y.2.2.1.map e_i) [.i 0]),(.c (0,1) 0,.i bj),(.c (0,1) 1,.i bi),(.c (0,1) 2,.i bh),(.c (0,1) 3,.sl 2 false (u52.map R9) [.i 0,.i 0]),(.c (0,1) 4,.i bg),(.c (0,1) 5,.i be)],y.2.2.2⟩) (fun y=>TQ N u52 y.1 y.2.1 y.2.2.1=some gy) (fun y=>y.1) (N,0,[bj,bi,bh,bg,be,(u52.length:Int)],4) d9 ?_ ?_
   ·exact leF F
   ·rintro⟨n,i62,l63,im⟩ aa
    try simp only at aa
    obtain _|n:=n
    ·exact absurd aa (by simp[TQ])
    rw[TQ] at aa
    refine go hS F ?_
    refine cb F (decide (i62<(u52.length:Int))) (fun ck=> ?_) (fun ck=> ?_)
    ·replace aa:=RT ck aa
     try simp only[Ov,yB] at aa
     obtain⟨⟨em,ej⟩,d8,aa⟩:=aa
     have fy:u52.getD i62.toNat (0,0)=(em,ej):=ixs d8 _
     have jc:=(Nr d8).1
     replace F:=fc fy F
     try simp only[Ov,yB] at aa
     obtain⟨fb,c7,aa⟩:=aa
     simp only[I64] at c7
     refine go hS F ?_
     exact Fb (n,i62+1,l63++[em,ej],im+1+1+1) aa (Nat.lt_succ_self _) (leF F)
    ·replace aa:=RU ck aa
     refine go hS F ?_
     exact RW (l63,im+1) (yJ aa) (leF F)
  ·rintro⟨l71,jf⟩ iv
   subst iv
   try simp only at h
   try simp only[Ov,yB] at h
   obtain⟨gx,jd,h⟩:=h
   refine go hS F ?_
   refine Rx (fun z:(List UInt8)×Nat=>⟨[(6,.v (.string (sB z.1)))],[],z.2⟩) (fun z=>(z.1:(List UInt8))=gx) (.x 2) ?_ ?_
   ·refine Ez (fun y:Nat×(List UInt8)×Int×Nat=>⟨[(4,.own (313,3) l71.length),(6,.v (.string (sB y.2.1))),(7,.i y.2.2.1)],[(.a (313,3),.sl 1 true (l71.map e_i) [.i 0])],y.2.2.2⟩) (fun y=>TR N l71 y.1 y.2.1 y.2.2.1=some gx) (fun y=>y.1) (N,[],0,jf+1+1) jd ?_ ?_
    ·exact leF F
    ·rintro⟨n,s80,i81,il⟩ ba
     try simp only at ba
     obtain _|n:=n
     ·exact absurd ba (by simp[TR])
     rw[TR] at ba
     refine go hS F ?_
     refine cb F (decide (i81<(l71.length:Int))) (fun cy=> ?_) (fun cy=> ?_)
     ·replace ba:=RT cy ba
      try simp only[Ov,yB] at ba
      obtain⟨fj,dz,⟨eu,ip⟩,gi,ba⟩:=ba
      have fx:l71.getD i81.toNat 0=fj:=ixs dz _
      have jb:=(Nr dz).1
      replace F:=fc gi (fc fx F)
      try simp only[Ov,yB] at ba
      obtain⟨i9,cj,ba⟩:=ba
      simp only[I64] at cj
      refine go hS F ?_
      exact Fb (n,s80++eu,i81+1,il+1+1+1+1) ba (Nat.lt_succ_self _) (leF F)
     ·replace ba:=RU cy ba
      refine go hS F ?_
      exact RW (s80,il+1) (yJ ba) (leF F)
   ·rintro⟨s91,jj⟩ fu
    subst fu
    try simp only at h
    obtain rfl:=yJ h
    refine go hS F ?_
    exact fin F
end
def s28 (N:Nat):Bt
 |[.agg [.v (.int .i64 bj),.v (.int .i64 bi),.v (.int .i64 bh),.sl fh _ u52 _,.v (.int .i64 bg),.v (.int .i64 be)]]=>some (((fh=2∨u52=[])∧u52=(u52.map R8).map R9)∧(Tt N bj bi bh (u52.map R8) bg be).isSome=true,.tup [.v (.string (sB (((Tt N bj bi bh (u52.map R8) bg be).getD ([],0)).1))),.i (((Tt N bj bi bh (u52.map R8) bg be).getD ([],0)).2)])
 |_=>none
theorem fU (N:Nat):FOK Tryz.prog 28 (s28 N):=⟨pC,by
 intro args vc r h hv
 unfold s28 at h
 split at h
 ·cases h
  obtain⟨⟨jh,ji⟩,hs⟩:=hv
  obtain⟨r,hr⟩:=yX hs
  have hk:=UW N _ _ _ _ _ _ r hr
  simp only[hr,Option.getD_some]
  refine PCall.arg ?_ hk
  simp only[wkL,wk,and_true,true_and,yF,false_implies,implies_true]
  repeat' (first|exact yT|assumption|apply And.intro)
 ·simp at h⟩
def TS (N:Nat) (s93:List UInt8):Nat→Int→Int→(List Int)→Option (Sum (Int×(List Int)) (((Int×Int×Int×(List (Int×Int))×Int×Int)×Int)))
 |0,_,_,_=>none
 |n+1,bb,af,l108=>
  gd ((!(decide (af<6)))=true→(0≤5∧5<(l108.length:Int)))<|
  gd ((!(decide (af<6)))=true→(0≤5∧5<(l108.length:Int)))<|
  gd ((!(decide (af<6)))=true→(I64 (2*(l108.getD 5 0))))<|
  gd ((!(decide (af<6)))=true→(I64 (6+(2*(l108.getD 5 0)))))<|
  bif (decide (af<6))||(decide (af<6+(2*(l108.getD 5 0)))) then(
   (TU N s93 bb).bind fun(ay,ca,b9)=>
   bif (decide (b9≠0))||((decide (af=5))&&((decide (ay<3))||(decide (8<ay)))) then(
    some (.inr ((0,0,0,[],0,0),80)))
   else(
    gd ((l108.length+1)*8≤140737488355328)<|
    gd (I64 (af+1))<|
    TS N s93 n ca (af+1) (l108++[ay])))
  else(
   some (.inl (bb,l108)))
def TT (N:Nat) (l119:List Int):Nat→Int→(List (Int×Int))→Option ((List (Int×Int)))
 |0,_,_=>none
 |n+1,i145,l146=>
  bif decide (i145<(l119.length:Int)) then(
   (nth l119 i145).bind fun bo=>
   gd (I64 (i145+1))<|
   (nth l119 (i145+1)).bind fun bn=>
   gd ((l146.length+1)*16≤140737488355328)<|
   gd (I64 (i145+2))<|
   TT N l119 n (i145+2) (l146++[(bo,bn)]))
  else(
   some l146)
def SF (N:Nat) (s93:List UInt8):Option ((Int×Int×Int×(List (Int×Int))×Int×Int)×Int):=
 (TS N s93 N 0 0 []).bind fun bp=>match bp with
  | .inl (aj,l119)=>(
   (nth l119 0).bind fun av=>
   (nth l119 1).bind fun au=>
   (nth l119 2).bind fun aq=>
   (nth l119 3).bind fun an=>
   (nth l119 4).bind fun am=>
   (TT N l119 N 6 []).bind fun bm=>
   gd ((!(decide (aj≠(s93.length:Int))))=true→((Sk N av au aq bm an am).isSome=true))<|
   bif (decide (aj≠(s93.length:Int)))||(!((Sk N av au aq bm an am).getD false)) then(
    some ((0,0,0,[],0,0),80))
   else(
    some ((av,au,aq,bm,an,am),0)))
  | .inr fq=>(
   some fq)
def T32 (N:Nat):List (Nat×Bt):=[(61,s61 N),(12,s12 N)]
theorem X3 (N:Nat):TabOK Tryz.prog (CC (T32 N)):=EC (fT N) (EC (UJ N) (BW))
section
attribute [local go_sem] T32 s61 s12 e_i Wp Wq d_i
theorem UX (N:Nat) (s93:List UInt8) (r:(Int×Int×Int×(List (Int×Int))×Int×Int)×Int) (h:SF N s93=some r):PCall Tryz.prog 32 [.v (.string (sB s93))] (.tup [.agg [.i r.1.1,.i r.1.2.1,.i r.1.2.2.1,.sl 2 false (r.1.2.2.2.1.map R9) [.i 0,.i 0],.i r.1.2.2.2.2.1,.i r.1.2.2.2.2.2],.i r.2]):=by
 refine Jw (X3 N) _ Tryz.func32 pG pH (by simp) fun _=> ?_
 have hS:=X3 N
 have F:=f0
 unfold cR cS
 unfold SF at h
 refine go hS F ?_
 refine Kh 1000001 4 1 [.i 0] (by show(4:Nat)<100;omega) (by omega) (by simp only[go_sem,seval,F]<;>eq_refl) ?_
 try simp only[Ov,yB] at h
 obtain⟨bp,je,h⟩:=h
 refine go hS F ?_
 refine Rx (fun z:Int×(List Int)×Nat=>⟨[(0,.v (.string (sB s93))),(2,.box (0,1) 0),(4,.own (1000001,5) z.2.1.length),(5,.i z.1)],[(.a (1000001,5),.sl 1 true (z.2.1.map e_i) [.i 0]),(.c (0,1) 0,.i 0),(.c (0,1) 1,.i 0),(.c (0,1) 2,.i 0),(.c (0,1) 3,.sl 0 true [] []),(.c (0,1) 4,.i 0),(.c (0,1) 5,.i 0)],z.2.2⟩) (fun z=>(.inl (z.1,z.2.1):Sum (Int×(List Int)) (((Int×Int×Int×(List (Int×Int))×Int×Int)×Int)))=bp) (.x 0) ?_ ?_
 ·refine Ez (fun y:Nat×Int×Int×(List Int)×Nat=>⟨[(0,.v (.string (sB s93))),(2,.box (0,1) 0),(4,.own (1000001,5) y.2.2.2.1.length),(5,.i y.2.1),(6,.i y.2.2.1)],[(.a (1000001,5),.sl 1 true (y.2.2.2.1.map e_i) [.i 0]),(.c (0,1) 0,.i 0),(.c (0,1) 1,.i 0),(.c (0,1) 2,.i 0),(.c (0,1) 3,.sl 0 true [] []),(.c (0,1) 4,.i 0),(.c (0,1) 5,.i 0)],y.2.2.2.2⟩) (fun y=>TS N s93 y.1 y.2.1 y.2.2.1 y.2.2.2.1=some bp) (fun y=>y.1) (N,0,0,[],5) je ?_ ?_
  ·exact leF F
  ·rintro⟨n,bb,af,l108,ei⟩ ai
   try simp only at ai
   obtain _|n:=n
   ·exact absurd ai (by simp[TS])
   rw[TS] at ai
   try simp only[Ov,yB] at ai
   obtain⟨iz,gc,fb,c7,ai⟩:=ai
   simp only[I64] at fb
   simp only[I64] at c7
   refine go hS F ?_
   refine cb F ((decide (af<6))||(decide (af<6+(2*(l108.getD 5 0))))) (fun gt=> ?_) (fun gt=> ?_)
   ·replace ai:=RT gt ai
    try simp only[Ov,yB] at ai
    obtain⟨⟨ay,ca,b9⟩,dw,ai⟩:=ai
    replace F:=fc dw F
    refine go hS F ?_
    refine cb F ((decide (b9≠0))||((decide (af=5))&&((decide (ay<3))||(decide (8<ay))))) (fun gr=> ?_) (fun gr=> ?_)
    ·replace ai:=RT gr ai
     obtain rfl:=yJ ai
     try simp only at h
     obtain rfl:=yJ h
     refine go hS F ?_
     exact fin F
    ·replace ai:=RU gr ai
     try simp only[Ov,yB] at ai
     obtain⟨g8,du,ai⟩:=ai
     simp only[I64] at du
     refine go hS F ?_
     exact Fb (n,ca,af+1,l108++[ay],ei+1+1+1+1+1+1) ai (Nat.lt_succ_self _) (leF F)
   ·replace ai:=RU gt ai
    refine go hS F ?_
    exact RW (bb,l108,ei+1) (yJ ai) (leF F)
 ·rintro⟨aj,l119,ae⟩ fv
  subst fv
  try simp only at h
  try simp only[Ov,yB] at h
  obtain⟨av,b7,au,bz,aq,bw,an,bv,am,bu,h⟩:=h
  have dp:l119.getD 0 0=av:=ixs b7 _
  have ij:=(Nr b7).1
  have dm:l119.getD 1 0=au:=ixs bz _
  have ii:=(Nr bz).1
  have dh:l119.getD 2 0=aq:=ixs bw _
  have ig:=(Nr bw).1
  have dg:l119.getD 3 0=an:=ixs bv _
  have ie:=(Nr bv).1
  have de:l119.getD 4 0=am:=ixs bu _
  have ic:=(Nr bu).1
  replace F:=fc de (fc dg (fc dh (fc dm (fc dp F))))
  refine go hS F ?_
  refine E4 1000002 (1116,ae+1) 3 2 [.i 0,.i 0] (by omega) (by simp only[go_sem,seval,F]<;>eq_refl) ?_
  try simp only[Ov,yB] at h
  obtain⟨c8,gv,h⟩:=h
  refine go hS F ?_
  refine Rx (fun z:(List (Int×Int))×Nat=>⟨[(0,.v (.string (sB s93))),(2,.box (0,1) 0),(5,.i aj),(10,.box (1116,ae+1) 0)],[(.c (1116,ae+1) 0,.i av),(.c (1116,ae+1) 1,.i au),(.c (1116,ae+1) 2,.i aq),(.c (1116,ae+1) 3,.own (1000002,ae+1+1+1) z.1.length),(.c (1116,ae+1) 4,.i an),(.c (1116,ae+1) 5,.i am),(.a (1000002,ae+1+1+1),.sl 2 true (z.1.map R9) [.i 0,.i 0]),(.c (0,1) 0,.i 0),(.c (0,1) 1,.i 0),(.c (0,1) 2,.i 0),(.c (0,1) 3,.sl 0 true [] []),(.c (0,1) 4,.i 0),(.c (0,1) 5,.i 0)],z.2⟩) (fun z=>(z.1:(List (Int×Int)))=c8) (.x 2) ?_ ?_
  ·refine Ez (fun y:Nat×Int×(List (Int×Int))×Nat=>⟨[(0,.v (.string (sB s93))),(2,.box (0,1) 0),(4,.own (1000001,5) l119.length),(5,.i aj),(10,.box (1116,ae+1) 0),(11,.i y.2.1)],[(.c (1116,ae+1) 0,.i av),(.c (1116,ae+1) 1,.i au),(.c (1116,ae+1) 2,.i aq),(.c (1116,ae+1) 3,.own (1000002,ae+1+1+1) y.2.2.1.length),(.c (1116,ae+1) 4,.i an),(.c (1116,ae+1) 5,.i am),(.a (1000002,ae+1+1+1),.sl 2 true (y.2.2.1.map R9) [.i 0,.i 0]),(.a (1000001,5),.sl 1 true (l119.map e_i) [.i 0]),(.c (0,1) 0,.i 0),(.c (0,1) 1,.i 0),(.c (0,1) 2,.i 0),(.c (0,1) 3,.sl 0 true [] []),(.c (0,1) 4,.i 0),(.c (0,1) 5,.i 0)],y.2.2.2⟩) (fun y=>TT N l119 y.1 y.2.1 y.2.2.1=some c8) (fun y=>y.1) (N,6,[],ae+1+1+1) gv ?_ ?_
   ·exact leF F
   ·rintro⟨n,i145,l146,eh⟩ ah
    try simp only at ah
    obtain _|n:=n
    ·exact absurd ah (by simp[TT])
    rw[TT] at ah
    refine go hS F ?_
    refine cb F (decide (i145<(l119.length:Int))) (fun cr=> ?_) (fun cr=> ?_)
    ·replace ah:=RT cr ah
     try simp only[Ov,yB] at ah
     obtain⟨bo,br,gh,bn,bq,dt,ci,ah⟩:=ah
     have dc:l119.getD i145.toNat 0=bo:=ixs br _
     have ib:=(Nr br).1
     simp only[I64] at gh
     have db:l119.getD (i145+1).toNat 0=bn:=ixs bq _
     have g9:=(Nr bq).1
     simp only[I64] at ci
     replace F:=fc db (fc dc F)
     refine go hS F ?_
     exact Fb (n,i145+2,l146++[(bo,bn)],eh+1+1+1) ah (Nat.lt_succ_self _) (leF F)
    ·replace ah:=RU cr ah
     refine go hS F ?_
     exact RW (l146,eh+1) (yJ ah) (leF F)
  ·rintro⟨bm,jg⟩ ce
   subst ce
   try simp only at h
   try simp only[Ov,yB] at h
   obtain⟨dq,h⟩:=h
   refine go hS F ?_
   refine cb F ((decide (aj≠(s93.length:Int)))||(!((Sk N av au aq bm an am).getD false))) (fun co=> ?_) (fun co=> ?_)
   ·replace h:=RT co h
    obtain rfl:=yJ h
    refine go hS F ?_
    exact fin F
   ·replace h:=RU co h
    obtain rfl:=yJ h
    refine go hS F ?_
    exact fin F
end
def s32 (N:Nat):Bt
 |[.v (.string s93)]=>some ((SF N (bL s93)).isSome=true,.tup [.agg [.i ((((SF N (bL s93)).getD ((0,0,0,[],0,0),0)).1).1),.i ((((SF N (bL s93)).getD ((0,0,0,[],0,0),0)).1).2.1),.i ((((SF N (bL s93)).getD ((0,0,0,[],0,0),0)).1).2.2.1),.sl 2 false (((((SF N (bL s93)).getD ((0,0,0,[],0,0),0)).1).2.2.2.1).map R9) [.i 0,.i 0],.i ((((SF N (bL s93)).getD ((0,0,0,[],0,0),0)).1).2.2.2.2.1),.i ((((SF N (bL s93)).getD ((0,0,0,[],0,0),0)).1).2.2.2.2.2)],.i (((SF N (bL s93)).getD ((0,0,0,[],0,0),0)).2)])
 |_=>none
theorem fW (N:Nat):FOK Tryz.prog 32 (s32 N):=⟨pI,by
 intro args vc r h hv
 unfold s32 at h
 split at h
 ·cases h
  have hs:=hv
  obtain⟨r,hr⟩:=yX hs
  have hk:=UX N _ r hr
  simp only[hr,Option.getD_some]
  refine PCall.arg ?_ hk
  simp only[wkL,wk,and_true,true_and,yF,false_implies,implies_true]
  try trivial
 ·simp at h⟩
end Go.Proofs.YtdabfcbelkjmgaaGreatDoor.Am
