import Derived.Test.YtdabfcbelkjmgaaGreatDoorD1
import Derived.Test.YtdabfcbelkjmgaaGreatDoorAc3
namespace Go.Proofs.YtdabfcbelkjmgaaGreatDoor.Am
open Go
attribute [local irreducible] awp Ed Df Dr Ee Bz B8 Dg DM itK
set_option maxRecDepth 100000
set_option maxHeartbeats 8000000
set_option linter.unusedSimpArgs false
set_option linter.unusedVariables false
def Uu (N:Nat) (aa:Int) (s1152:List UInt8):Nat→Int→Int→Option (Sum Unit ((Int×Int×Int)))
 |0,_,_=>none
 |n+1,af,ab=>
  bif decide (ab<9) then(
   gd (I64 (aa+ab))<|
   bif decide ((s1152.length:Int)≤aa+ab) then(
    some (.inl ()))
   else(
    gd (I64 (aa+ab))<|
    gd (0≤aa+ab∧aa+ab<(s1152.length:Int))<|
    gd (I64 (7*ab))<|
    gd (0≤7*ab)<|
    bif decide (128≤((s1152.getD (aa+ab).toNat 0).toNat:Int)) then(
     gd (I64 (ab+1))<|
     Uu N aa s1152 n (Be .or .u64 af (Cn .shl .u64 (IntKind.wrap .u64 (Be .and .u8 ((s1152.getD (aa+ab).toNat 0).toNat:Int) 127)) (7*ab))) (ab+1))
    else(
     gd (I64 (-(IntKind.wrap .i64 (Be .and .u64 (Be .or .u64 af (Cn .shl .u64 (IntKind.wrap .u64 (Be .and .u8 ((s1152.getD (aa+ab).toNat 0).toNat:Int) 127)) (7*ab))) 1))))<|
     bif ((decide (((s1152.getD (aa+ab).toNat 0).toNat:Int)=0))&&(decide (0<ab)))||(decide (Be .xor .i64 (IntKind.wrap .i64 (Cn .shr .u64 (Be .or .u64 af (Cn .shl .u64 (IntKind.wrap .u64 (Be .and .u8 ((s1152.getD (aa+ab).toNat 0).toNat:Int) 127)) (7*ab))) 1)) (-(IntKind.wrap .i64 (Be .and .u64 (Be .or .u64 af (Cn .shl .u64 (IntKind.wrap .u64 (Be .and .u8 ((s1152.getD (aa+ab).toNat 0).toNat:Int) 127)) (7*ab))) 1)))<(-4611686018427387903))) then(
      some (.inl ()))
     else(
      gd (I64 (aa+ab))<|
      gd (I64 ((aa+ab)+1))<|
      some (.inr (Be .xor .i64 (IntKind.wrap .i64 (Cn .shr .u64 (Be .or .u64 af (Cn .shl .u64 (IntKind.wrap .u64 (Be .and .u8 ((s1152.getD (aa+ab).toNat 0).toNat:Int) 127)) (7*ab))) 1)) (-(IntKind.wrap .i64 (Be .and .u64 (Be .or .u64 af (Cn .shl .u64 (IntKind.wrap .u64 (Be .and .u8 ((s1152.getD (aa+ab).toNat 0).toNat:Int) 127)) (7*ab))) 1))),(aa+ab)+1,0))))))
  else(
   some (.inl ()))
def Tr (N:Nat) (s1152:List UInt8) (aa:Int):Option (Int×Int×Int):=
 bif (decide (aa<0))||(decide ((s1152.length:Int)<aa)) then(
  some (0,0,2))
 else(
  (Uu N aa s1152 N 0 0).bind fun ah=>match ah with
   | .inl ()=>(
    some (0,0,10))
   | .inr am=>(
    some am))
def T81 (N:Nat):List (Nat×Bt):=[]
theorem XN (N:Nat):TabOK Tryz.prog (CC (T81 N)):=BW
section
attribute [local go_sem] T81 RX Qr Qs List.set_cons_succ List.isEmpty_map List.map_append List.map_eq_nil_iff ne_eq List.length_replicate RG RH List.length_set Option.isSome_some
theorem Wh (N:Nat) (s1152:List UInt8) (aa:Int) (r:Int×Int×Int) (h:Tr N s1152 aa=some r):PCall Tryz.prog 81 [.v (.string (sB s1152)),.i aa] (.tup [.i r.1,.i r.2.1,.i r.2.2]):=by
 refine Jw (XN N) _ Tryz.func81 pZ qA (by simp) fun _=> ?_
 have hS:=XN N
 have F:=f0
 unfold dM dO
 unfold Tr at h
 refine go hS F ?_
 refine cb F ((decide (aa<0))||(decide ((s1152.length:Int)<aa))) (fun ba=> ?_) (fun ba=> ?_)
 ·replace h:=RT ba h
  obtain rfl:=yJ h
  refine go hS F ?_
  exact fin F
 ·replace h:=RU ba h
  try simp only[Ov,yB] at h
  obtain⟨ah,bj,h⟩:=h
  refine go hS F ?_
  refine Rx (fun z:Nat=>⟨[],[],z⟩) (fun z=>(.inl ():Sum Unit ((Int×Int×Int)))=ah) (.x 0) ?_ ?_
  ·refine Ez (fun y:Nat×Int×Int×Nat=>⟨[(0,.v (.string (sB s1152))),(1,.i aa),(7,.v (.int .u64 y.2.1)),(19,.i y.2.2.1)],[],y.2.2.2⟩) (fun y=>Uu N aa s1152 y.1 y.2.1 y.2.2.1=some ah) (fun y=>y.1) (N,0,0,4) bj ?_ ?_
   ·exact leF F
   ·rintro⟨n,af,ab,ai⟩ ae
    try simp only at ae
    obtain _|n:=n
    ·exact absurd ae (by simp[Uu])
    rw[Uu] at ae
    refine go hS F ?_
    refine cb F (decide (ab<9)) (fun az=> ?_) (fun az=> ?_)
    ·replace ae:=RT az ae
     try simp only[Ov,yB] at ae
     obtain⟨bh,ae⟩:=ae
     simp only[I64] at bh
     refine go hS F ?_
     refine cb F (decide ((s1152.length:Int)≤aa+ab)) (fun ay=> ?_) (fun ay=> ?_)
     ·replace ae:=RT ay ae
      refine go hS F ?_
      exact RW (ai+1+1+1) (yJ ae) (leF F)
     ·replace ae:=RU ay ae
      try simp only[Ov,yB] at ae
      obtain⟨bg,bm,be,bi,ae⟩:=ae
      simp only[I64] at bg
      simp only[I64] at be
      refine go hS F ?_
      refine cb F (decide (128≤((s1152.getD (aa+ab).toNat 0).toNat:Int))) (fun ak=> ?_) (fun ak=> ?_)
      ·replace ae:=RT ak ae
       try simp only[Ov,yB] at ae
       obtain⟨aw,ae⟩:=ae
       simp only[I64] at aw
       refine go hS F ?_
       exact Fb (n,Be .or .u64 af (Cn .shl .u64 (IntKind.wrap .u64 (Be .and .u8 ((s1152.getD (aa+ab).toNat 0).toNat:Int) 127)) (7*ab)),ab+1,ai+1+1+1+1+1+1+1) ae (Nat.lt_succ_self _) (leF F)
      ·replace ae:=RU ak ae
       try simp only[Ov,yB] at ae
       obtain⟨av,ae⟩:=ae
       simp only[I64] at av
       refine go hS F ?_
       refine cb F (((decide (((s1152.getD (aa+ab).toNat 0).toNat:Int)=0))&&(decide (0<ab)))||(decide (Be .xor .i64 (IntKind.wrap .i64 (Cn .shr .u64 (Be .or .u64 af (Cn .shl .u64 (IntKind.wrap .u64 (Be .and .u8 ((s1152.getD (aa+ab).toNat 0).toNat:Int) 127)) (7*ab))) 1)) (-(IntKind.wrap .i64 (Be .and .u64 (Be .or .u64 af (Cn .shl .u64 (IntKind.wrap .u64 (Be .and .u8 ((s1152.getD (aa+ab).toNat 0).toNat:Int) 127)) (7*ab))) 1)))<(-4611686018427387903)))) (fun aj=> ?_) (fun aj=> ?_)
       ·replace ae:=RT aj ae
        refine go hS F ?_
        exact RW (ai+1+1+1+1+1+1+1+1) (yJ ae) (leF F)
       ·replace ae:=RU aj ae
        try simp only[Ov,yB] at ae
        obtain⟨au,aq,ae⟩:=ae
        simp only[I64] at au
        simp only[I64] at aq
        obtain rfl:=yJ ae
        try simp only at h
        obtain rfl:=yJ h
        refine go hS F ?_
        exact fin F
    ·replace ae:=RU az ae
     refine go hS F ?_
     exact RW (ai+1) (yJ ae) (leF F)
  ·rintro bb an
   subst an
   try simp only at h
   obtain rfl:=yJ h
   refine go hS F ?_
   exact fin F
end
def s81 (N:Nat):Bt
 |[.v (.string s1152),.v (.int .i64 aa)]=>some ((Tr N (bL s1152) aa).isSome=true,.tup [.i (((Tr N (bL s1152) aa).getD (0,0,0)).1),.i (((Tr N (bL s1152) aa).getD (0,0,0)).2.1),.i (((Tr N (bL s1152) aa).getD (0,0,0)).2.2)])
 |_=>none
theorem fK (N:Nat):FOK Tryz.prog 81 (s81 N):=⟨qB,by
 intro args vc r h hv
 unfold s81 at h
 split at h
 ·cases h
  have hs:=hv
  obtain⟨r,hr⟩:=yX hs
  have hk:=Wh N _ _ r hr
  simp only[hr,Option.getD_some]
  refine PCall.arg ?_ hk
  simp only[wkL,wk,and_true,true_and,yF,false_implies,implies_true]
  try trivial
 ·simp at h⟩
end Go.Proofs.YtdabfcbelkjmgaaGreatDoor.Am
