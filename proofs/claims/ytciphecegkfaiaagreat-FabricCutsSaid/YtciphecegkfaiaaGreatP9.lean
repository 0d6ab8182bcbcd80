import Derived.Test.YtciphecegkfaiaaGreatDR
import Derived.Test.YtciphecegkfaiaaGreatA21
import Derived.Test.YtciphecegkfaiaaGreatAx5
import Derived.Test.YtciphecegkfaiaaGreatA19
import Derived.Test.YtciphecegkfaiaaGreatE1
namespace Go.Proofs.YtciphecegkfaiaaGreat.Am
open Go
attribute [local irreducible] awp B5 BR Bx B3 Bw Bn BS B1 itK
set_option maxRecDepth 100000
set_option maxHeartbeats 8000000
set_option linter.unusedSimpArgs false
set_option linter.unusedVariables false
def F2 (N:Nat) (aa:Int) (s604:List UInt8):Nat→Int→Int→Option (Sum Unit ((Int×Int×Int)))
 |0,_,_=>none
 |n+1,ah,ae=>
  bif decide (ae<9) then(
   gd (I64 (aa+ae))<|
   bif decide ((s604.length:Int)≤aa+ae) then(
    some (.inl ()))
   else(
    gd (I64 (aa+ae))<|
    gd (0≤aa+ae∧aa+ae<(s604.length:Int))<|
    gd (I64 (7*ae))<|
    gd (0≤7*ae)<|
    bif decide (128≤((s604.getD (aa+ae).toNat 0).toNat:Int)) then(
     gd (I64 (ae+1))<|
     F2 N aa s604 n (BW .or .u64 ah (Cp .shl .u64 (IntKind.wrap .u64 (BW .and .u8 ((s604.getD (aa+ae).toNat 0).toNat:Int) 127)) (7*ae))) (ae+1))
    else(
     gd (I64 (-(IntKind.wrap .i64 (BW .and .u64 (BW .or .u64 ah (Cp .shl .u64 (IntKind.wrap .u64 (BW .and .u8 ((s604.getD (aa+ae).toNat 0).toNat:Int) 127)) (7*ae))) 1))))<|
     bif ((decide (((s604.getD (aa+ae).toNat 0).toNat:Int)=0))&&(decide (0<ae)))||(decide (BW .xor .i64 (IntKind.wrap .i64 (Cp .shr .u64 (BW .or .u64 ah (Cp .shl .u64 (IntKind.wrap .u64 (BW .and .u8 ((s604.getD (aa+ae).toNat 0).toNat:Int) 127)) (7*ae))) 1)) (-(IntKind.wrap .i64 (BW .and .u64 (BW .or .u64 ah (Cp .shl .u64 (IntKind.wrap .u64 (BW .and .u8 ((s604.getD (aa+ae).toNat 0).toNat:Int) 127)) (7*ae))) 1)))<(-4611686018427387903))) then(
      some (.inl ()))
     else(
      gd (I64 (aa+ae))<|
      gd (I64 ((aa+ae)+1))<|
      some (.inr (BW .xor .i64 (IntKind.wrap .i64 (Cp .shr .u64 (BW .or .u64 ah (Cp .shl .u64 (IntKind.wrap .u64 (BW .and .u8 ((s604.getD (aa+ae).toNat 0).toNat:Int) 127)) (7*ae))) 1)) (-(IntKind.wrap .i64 (BW .and .u64 (BW .or .u64 ah (Cp .shl .u64 (IntKind.wrap .u64 (BW .and .u8 ((s604.getD (aa+ae).toNat 0).toNat:Int) 127)) (7*ae))) 1))),(aa+ae)+1,0))))))
  else(
   some (.inl ()))
def DT (N:Nat) (s604:List UInt8) (aa:Int):Option (Int×Int×Int):=
 bif (decide (aa<0))||(decide ((s604.length:Int)<aa)) then(
  some (0,0,2))
 else(
  (F2 N aa s604 N 0 0).bind fun aj=>match aj with
   | .inl ()=>(
    some (0,0,10))
   | .inr ak=>(
    some ak))
@[go_sem] def s67 (N:Nat):Spec:=p0<|pT fun s604=>pI fun aa=>pE<|pF (DT N s604 aa) (0,0,0) fun r=> .tup [.i r.1,.i r.2.1,.i r.2.2]
theorem Uw (N:Nat):FOK Tryz.prog 67 (s67 N):=by
 refine Al x67.ok<|JK fun s604=>Ac fun aa=>Ah<|An fun r h=>wx x67 (Aj) fun _ hS F=> ?_
 dsimp only[x67,mkX]
 unfold DT at h
 refine gcb hS F h (fun _ h=> ?_) (fun _ h=> ?_)
 ·exact Ad hS F h
 ·obtain⟨aj,aq,h⟩:=un h
  refine go hS F ?_
  refine Au aj (fun z:Nat=>⟨[],[],z⟩) (fun z=>(.inl ():Sum Unit ((Int×Int×Int)))) (.x 0) ?_ ?_
  ·refine Aq (fun n (y:Int×Int×Nat)=>F2 N aa s604 n y.1 y.2.1) (fun y=>⟨[(0,.v (.string (sB s604))),(1,.i aa),(7,.v (.int .u64 y.1)),(19,.i y.2.1)],[],y.2.2⟩) (0,0,4) aq (leF F) ?_
   rintro n ⟨ah,ae,ai⟩ af
   simp only[F2] at af
   refine gcb hS F af (fun _ af=> ?_) (fun _ af=> ?_)
   ·obtain⟨bg,af⟩:=un af
    refine gcb hS F af (fun _ af=> ?_) (fun _ af=> ?_)
    ·exact gck hS F (ai+1+1+1) af
    ·obtain⟨be,bb,az,ay,af⟩:=un af
     refine gcb hS F af (fun _ af=> ?_) (fun _ af=> ?_)
     ·obtain⟨aw,af⟩:=un af
      exact gbk hS F (n,BW .or .u64 ah (Cp .shl .u64 (IntKind.wrap .u64 (BW .and .u8 ((s604.getD (aa+ae).toNat 0).toNat:Int) 127)) (7*ae)),ae+1,ai+1+1+1+1+1+1+1) af
     ·obtain⟨av,af⟩:=un af
      refine gcb hS F af (fun _ af=> ?_) (fun _ af=> ?_)
      ·exact gck hS F (ai+1+1+1+1+1+1+1+1) af
      ·obtain⟨an,am,af⟩:=un af
       obtain rfl:=yJ af
       exact Ad hS F h
   ·exact gck hS F (ai+1) af
  ·rintro au rfl
   exact Ad hS F h
end Go.Proofs.YtciphecegkfaiaaGreat.Am
namespace Go.Proofs.YtciphecegkfaiaaGreat.Am
open Go
attribute [local irreducible] awp B5 BR Bx B3 Bw Bn BS B1 itK
set_option maxRecDepth 100000
set_option maxHeartbeats 8000000
set_option linter.unusedSimpArgs false
set_option linter.unusedVariables false
def I0 (z:Int):Int:=IntKind.wrap .u8 (BW .and .u64 z 127)
def D8:Nat→Int→List (Int×Bool)
 |0,_=>[]
 |f+1,z=>if z<128 then[(I0 z,true)] else(I0 z,false)::D8 f (Cp .shr .u64 z 7)
def grA (e:Int×Bool):List AV:=[.v (.int .u8 e.1),.v (.bool e.2)]
theorem YI (z:Int):Cp .shr .u64 z 7=z/128:=by
 show z.fdiv (2^min (7:Int).toNat 64)=z/128
 rw[show(2:Int)^min (7:Int).toNat 64=128 by decide]
 exact Int.fdiv_eq_ediv_of_nonneg z (by decide)
theorem Ni {f:Nat} {z:Int} (h:z<128):D8 (f+1) z=[(I0 z,true)]:=if_pos h
theorem Nj {f:Nat} {z:Int} (h:¬z<128):D8 (f+1) z=(I0 z,false)::D8 f (Cp .shr .u64 z 7):=if_neg h
theorem NW:∀(f:Nat) (z:Int),(D8 f z).length≤f
 |0,z=>by simp[D8]
 |f+1,z=>by
  have:=NW f (Cp .shr .u64 z 7)
  unfold D8
  split
  ·simp
  ·simp only[List.length_cons];omega
theorem WG (z0:Int) (m:Nm) (hz0:0≤z0∧z0<128^10):ItB Tryz.prog 165 [] [.box m 0] m [.v (.int .u64 z0)] ((D8 10 z0).map grA):=by
 refine ZE (Aj (P:=Tryz.prog)) _ x165.hf x165.hc x165.hn (by simp[x165,mkX,gs]) (Nat.le_of_ble_eq_true rfl) fun l Γ hOK hTS hY=> ?_
 have hS:=Aj (P:=Tryz.prog)
 dsimp only[x165,mkX,CZ]
 repeat' (first
  |((with_reducible first|apply AN|apply Bg|apply Bb|apply By|apply AO|apply AP);(·(first|exact Ctx.fn_ok hS|exact Ctx.rd_ok hS|assumption|exact yT));iterate 2 (·(simp only[go_sem,seval,hTS]<;>eq_refl)))
  |(with_reducible first|apply AI|apply A5|apply AF|apply AH|apply Ar|apply Ao|apply Ay|apply AZ|apply A6|apply A7|apply A8|apply A9|apply A4)
  |(with_reducible apply Ba;(·first|rfl|decide))
  |(with_reducible first|apply AJ|apply AM|apply Bd|apply Be|apply Bf|apply yT|apply And.intro yT yT)
  |(fail_if_success with_reducible apply B6);(fail_if_success with_reducible apply Bc);first|omega|(simp only[go_sem,seval,hTS];done)
  |fail)
 refine G4 (fun x:Nat×Int×Nat×Nat=>⟨[(1,.box m 0),(gs,Ck x.2.2.1),(0,.clo (.yield l) [] [])],[(.c m 0,.v (.int .u64 x.2.1))],x.2.2.2⟩)
  (fun x=>(0<x.1∧0≤x.2.1∧x.2.1<128^x.1)∧((D8 10 z0).drop x.2.2.1=D8 x.1 x.2.1∧x.2.2.1≤(D8 10 z0).length)) (fun x=>x.1) (10,z0,0,m.2) ?_ ?_ ?_
 ·exact⟨⟨Nat.zero_lt_succ _,hz0⟩,rfl,Nat.zero_le _⟩
 ·refine Le.of ?_ ?_ (by simp)<;>(simp only[go_sem,seval];try simp)
 ·rintro⟨f,z,k,c⟩ ⟨⟨hf,hz1,hz2⟩,hk,hkl⟩
  simp only at hf hz1 hz2 hk hkl
  obtain _|f:=f
  ·exact absurd hf (Nat.lt_irrefl _)
  have hkl':k<(D8 10 z0).length:=by
   have:=congrArg List.length hk
   rw[List.length_drop] at this
   by_cases hz:z<128
   ·rw[Ni hz,List.length_cons] at this;omega
   ·rw[Nj hz,List.length_cons] at this;omega
  by_cases hz:z<128
  ·have hk':(D8 10 z0).drop k=[(I0 z,true)]:=by rw[hk,Ni hz]
   have hk1:k+1=(D8 10 z0).length:=by
    have:=congrArg List.length hk'
    simp only[List.length_drop,List.length_cons,List.length_nil] at this
    omega
   have hxs:((D8 10 z0).map grA)[k]? =some [.v (.int .u8 (I0 z)),.v (.bool true)]:=by
    have:(D8 10 z0)[k]? =((D8 10 z0).drop k)[0]? :=by simp
    rw[List.getElem?_map,this,hk'];rfl
   repeat' (first
  |((with_reducible first|apply AN|apply Bg|apply Bb|apply By|apply AO|apply AP);(·(first|exact Ctx.fn_ok hS|exact Ctx.rd_ok hS|assumption|exact yT));iterate 2 (·(simp only[go_sem,seval,hTS,hz]<;>eq_refl)))
  |(with_reducible first|apply AI|apply A5|apply AF|apply AH|apply Ar|apply Ao|apply Ay|apply AZ|apply A6|apply A7|apply A8|apply A9|apply A4)
  |(with_reducible apply Ba;(·first|rfl|decide))
  |(with_reducible first|apply AJ|apply AM|apply Bd|apply Be|apply Bf|apply yT|apply And.intro yT yT)
  |(fail_if_success with_reducible apply B6);(fail_if_success with_reducible apply Bc);first|omega|(simp only[go_sem,seval,hTS,hz];done)
  |fail)
   refine hY 5 (args:=[.v (.int .u8 (I0 z)),.v (.bool true)]) rfl (by simp only[go_sem,seval,hTS,hz]<;>eq_refl) (by simp only[go_sem,seval,hTS,hz]<;>eq_refl) (by decide) (by simp only[go_sem,seval]<;>eq_refl) (by simp only[go_sem,seval]<;>eq_refl) (by simp only[go_sem,seval]<;>eq_refl) (by simp only[go_sem,seval,Am.I0]<;>eq_refl) hxs (by simp only[go_sem,seval,hTS]<;>eq_refl) ?_ ?_ (by simp only[go_sem,seval,hTS]<;>eq_refl) ?_ ?_
   ·simp only[go_sem,seval]
   ·repeat' (first
  |((with_reducible first|apply AN|apply Bg|apply Bb|apply By|apply AO|apply AP);(·(first|exact Ctx.fn_ok hS|exact Ctx.rd_ok hS|assumption|exact yT));iterate 2 (·(simp only[go_sem,seval,hTS]<;>eq_refl)))
  |(with_reducible first|apply AI|apply A5|apply AF|apply AH|apply Ar|apply Ao|apply Ay|apply AZ|apply A6|apply A7|apply A8|apply A9|apply A4)
  |(with_reducible apply Ba;(·first|rfl|decide))
  |(with_reducible first|apply AJ|apply AM|apply Bd|apply Be|apply Bf|apply yT|apply And.intro yT yT)
  |(fail_if_success with_reducible apply B6);(fail_if_success with_reducible apply Bc);first|omega|(simp only[go_sem,seval,hTS];done)
  |fail)
    refine Jq (by simp only[go_sem,seval]<;>eq_refl) ?_
    repeat' (first
  |((with_reducible first|apply AN|apply Bg|apply Bb|apply By|apply AO|apply AP);(·(first|exact Ctx.fn_ok hS|exact Ctx.rd_ok hS|assumption|exact yT));iterate 2 (·(simp only[go_sem,seval,hTS]<;>eq_refl)))
  |(with_reducible first|apply AI|apply A5|apply AF|apply AH|apply Ar|apply Ao|apply Ay|apply AZ|apply A6|apply A7|apply A8|apply A9|apply A4)
  |(with_reducible apply Ba;(·first|rfl|decide))
  |(with_reducible first|apply AJ|apply AM|apply Bd|apply Be|apply Bf|apply yT|apply And.intro yT yT)
  |(fail_if_success with_reducible apply B6);(fail_if_success with_reducible apply Bc);first|omega|(simp only[go_sem,seval,hTS];done)
  |fail)
    refine kZ ?_
    simp only[go_sem,seval,List.length_map]
    rw[←hk1];rfl
   ·simp only[go_sem,seval]
   ·repeat' (first
  |((with_reducible first|apply AN|apply Bg|apply Bb|apply By|apply AO|apply AP);(·(first|exact Ctx.fn_ok hS|exact Ctx.rd_ok hS|assumption|exact yT));iterate 2 (·(simp only[go_sem,seval,hTS]<;>eq_refl)))
  |(with_reducible first|apply AI|apply A5|apply AF|apply AH|apply Ar|apply Ao|apply Ay|apply AZ|apply A6|apply A7|apply A8|apply A9|apply A4)
  |(with_reducible apply Ba;(·first|rfl|decide))
  |(with_reducible first|apply AJ|apply AM|apply Bd|apply Be|apply Bf|apply yT|apply And.intro yT yT)
  |(fail_if_success with_reducible apply B6);(fail_if_success with_reducible apply Bc);first|omega|(simp only[go_sem,seval,hTS];done)
  |fail)
    refine Jq (by simp only[go_sem,seval]<;>eq_refl) ?_
    repeat' (first
  |((with_reducible first|apply AN|apply Bg|apply Bb|apply By|apply AO|apply AP);(·(first|exact Ctx.fn_ok hS|exact Ctx.rd_ok hS|assumption|exact yT));iterate 2 (·(simp only[go_sem,seval,hTS]<;>eq_refl)))
  |(with_reducible first|apply AI|apply A5|apply AF|apply AH|apply Ar|apply Ao|apply Ay|apply AZ|apply A6|apply A7|apply A8|apply A9|apply A4)
  |(with_reducible apply Ba;(·first|rfl|decide))
  |(with_reducible first|apply AJ|apply AM|apply Bd|apply Be|apply Bf|apply yT|apply And.intro yT yT)
  |(fail_if_success with_reducible apply B6);(fail_if_success with_reducible apply Bc);first|omega|(simp only[go_sem,seval,hTS];done)
  |fail)
    refine OM ?_
    simp only[go_sem,seval]
  ·have hk':(D8 10 z0).drop k=(I0 z,false)::D8 f (Cp .shr .u64 z 7):=by rw[hk,Nj hz]
   have hxs:((D8 10 z0).map grA)[k]? =some [.v (.int .u8 (I0 z)),.v (.bool false)]:=by
    have:(D8 10 z0)[k]? =((D8 10 z0).drop k)[0]? :=by simp
    rw[List.getElem?_map,this,hk'];rfl
   repeat' (first
  |((with_reducible first|apply AN|apply Bg|apply Bb|apply By|apply AO|apply AP);(·(first|exact Ctx.fn_ok hS|exact Ctx.rd_ok hS|assumption|exact yT));iterate 2 (·(simp only[go_sem,seval,hTS,hz]<;>eq_refl)))
  |(with_reducible first|apply AI|apply A5|apply AF|apply AH|apply Ar|apply Ao|apply Ay|apply AZ|apply A6|apply A7|apply A8|apply A9|apply A4)
  |(with_reducible apply Ba;(·first|rfl|decide))
  |(with_reducible first|apply AJ|apply AM|apply Bd|apply Be|apply Bf|apply yT|apply And.intro yT yT)
  |(fail_if_success with_reducible apply B6);(fail_if_success with_reducible apply Bc);first|omega|(simp only[go_sem,seval,hTS,hz];done)
  |fail)
   refine hY 5 (args:=[.v (.int .u8 (I0 z)),.v (.bool false)]) rfl (by simp only[go_sem,seval,hTS,hz]<;>eq_refl) (by simp only[go_sem,seval,hTS,hz]<;>eq_refl) (by decide) (by simp only[go_sem,seval]<;>eq_refl) (by simp only[go_sem,seval]<;>eq_refl) (by simp only[go_sem,seval]<;>eq_refl) (by simp only[go_sem,seval,Am.I0]<;>eq_refl) hxs (by simp only[go_sem,seval,hTS]<;>eq_refl) ?_ ?_ (by simp only[go_sem,seval,hTS]<;>eq_refl) ?_ ?_
   ·simp only[go_sem,seval]
   ·repeat' (first
  |((with_reducible first|apply AN|apply Bg|apply Bb|apply By|apply AO|apply AP);(·(first|exact Ctx.fn_ok hS|exact Ctx.rd_ok hS|assumption|exact yT));iterate 2 (·(simp only[go_sem,seval,hTS]<;>eq_refl)))
  |(with_reducible first|apply AI|apply A5|apply AF|apply AH|apply Ar|apply Ao|apply Ay|apply AZ|apply A6|apply A7|apply A8|apply A9|apply A4)
  |(with_reducible apply Ba;(·first|rfl|decide))
  |(with_reducible first|apply AJ|apply AM|apply Bd|apply Be|apply Bf|apply yT|apply And.intro yT yT)
  |(fail_if_success with_reducible apply B6);(fail_if_success with_reducible apply Bc);first|omega|(simp only[go_sem,seval,hTS];done)
  |fail)
    refine K4 (by simp only[go_sem,seval]<;>eq_refl) ?_
    repeat' (first
  |((with_reducible first|apply AN|apply Bg|apply Bb|apply By|apply AO|apply AP);(·(first|exact Ctx.fn_ok hS|exact Ctx.rd_ok hS|assumption|exact yT));iterate 2 (·(simp only[go_sem,seval,hTS]<;>eq_refl)))
  |(with_reducible first|apply AI|apply A5|apply AF|apply AH|apply Ar|apply Ao|apply Ay|apply AZ|apply A6|apply A7|apply A8|apply A9|apply A4)
  |(with_reducible apply Ba;(·first|rfl|decide))
  |(with_reducible first|apply AJ|apply AM|apply Bd|apply Be|apply Bf|apply yT|apply And.intro yT yT)
  |(fail_if_success with_reducible apply B6);(fail_if_success with_reducible apply Bc);first|omega|(simp only[go_sem,seval,hTS];done)
  |fail)
    have hf0:0<f:=by
     rcases Nat.eq_zero_or_pos f with rfl|h
     ·exact absurd hz2 (by simp only[Nat.zero_add,Int.pow_one] at hz2⊢;omega)
     ·exact h
    refine GG (f,Cp .shr .u64 z 7,k+1,c+50) ⟨⟨hf0, ?_, ?_⟩, ?_,by show k+1≤_;omega⟩ (Nat.lt_succ_self _) (Le.of ?_ ?_ ?_)
    ·show 0≤Cp .shr .u64 z 7
     rw[YI];omega
    ·show Cp .shr .u64 z 7<128^f
     rw[YI]
     rw[Int.pow_succ] at hz2
     omega
    ·show(D8 10 z0).drop (k+1)=_
     have:(D8 10 z0).drop (k+1)=((D8 10 z0).drop k).drop 1:=by simp
     rw[this,hk'];rfl
    ·simp only[go_sem,seval]<;>simp
    ·simp only[go_sem,seval]
    ·simp
   ·simp only[go_sem,seval]
   ·repeat' (first
  |((with_reducible first|apply AN|apply Bg|apply Bb|apply By|apply AO|apply AP);(·(first|exact Ctx.fn_ok hS|exact Ctx.rd_ok hS|assumption|exact yT));iterate 2 (·(simp only[go_sem,seval,hTS]<;>eq_refl)))
  |(with_reducible first|apply AI|apply A5|apply AF|apply AH|apply Ar|apply Ao|apply Ay|apply AZ|apply A6|apply A7|apply A8|apply A9|apply A4)
  |(with_reducible apply Ba;(·first|rfl|decide))
  |(with_reducible first|apply AJ|apply AM|apply Bd|apply Be|apply Bf|apply yT|apply And.intro yT yT)
  |(fail_if_success with_reducible apply B6);(fail_if_success with_reducible apply Bc);first|omega|(simp only[go_sem,seval,hTS];done)
  |fail)
    refine Jq (by simp only[go_sem,seval]<;>eq_refl) ?_
    repeat' (first
  |((with_reducible first|apply AN|apply Bg|apply Bb|apply By|apply AO|apply AP);(·(first|exact Ctx.fn_ok hS|exact Ctx.rd_ok hS|assumption|exact yT));iterate 2 (·(simp only[go_sem,seval,hTS]<;>eq_refl)))
  |(with_reducible first|apply AI|apply A5|apply AF|apply AH|apply Ar|apply Ao|apply Ay|apply AZ|apply A6|apply A7|apply A8|apply A9|apply A4)
  |(with_reducible apply Ba;(·first|rfl|decide))
  |(with_reducible first|apply AJ|apply AM|apply Bd|apply Be|apply Bf|apply yT|apply And.intro yT yT)
  |(fail_if_success with_reducible apply B6);(fail_if_success with_reducible apply Bc);first|omega|(simp only[go_sem,seval,hTS];done)
  |fail)
    refine OM ?_
    simp only[go_sem,seval]
def zz (n:Int):Int:=BW .xor .u64 (Cp .shl .u64 (IntKind.wrap .u64 n) 1) (IntKind.wrap .u64 (Cp .shr .i64 n 63))
def grO (e:Int×Bool):Int:=if e.2=true then e.1 else BW .or .u8 e.1 128
def PT (n:Int):List Int:=(D8 10 (zz n)).map grO
def toB (l:List Int):List UInt8:=l.map fun x=>UInt8.ofNat x.toNat
def EZ (n:Int):List UInt8:=bif decide (n< -4611686018427387903)||decide (4611686018427387903<n) then[] else toB (PT n)
def eBw (x:Int):List AV:=[.v (.int .u8 x)]
theorem WH (l:List Int):(l.map eBw).all isB=true:=by induction l with|nil=>rfl|cons x l ih=>simp[eBw,isB]
theorem TM (l:List Int):(l.map eBw).map KO=toB l:=by induction l with|nil=>rfl|cons x l ih=>rw[List.map_cons,List.map_cons,ih];rfl
theorem YJ (n:Int):0≤IntKind.wrap .u64 n∧IntKind.wrap .u64 n<128^10:=by
 have h:IntKind.wrap .u64 n=n%2^64:=by simp[IntKind.wrap,IntKind.bits,IntKind.signed]
 rw[h]
 have:(2:Int)^64=18446744073709551616:=by decide
 rw[this,show(128:Int)^10=1180591620717411303424 by decide]
 omega
theorem mX (n:Int):0≤zz n∧zz n<128^10:=YJ _
theorem WI (n:Int):PCall Tryz.prog 94 [.i n] (.tup [.v (.string (sB (EZ n))),.i (bif decide (n< -4611686018427387903)||decide (4611686018427387903<n) then 10 else 0)]):=by
 refine LD (Aj (P:=Tryz.prog)) _ x94.hf x94.hc x94.hn (Nat.le_of_ble_eq_true rfl) fun _=> ?_
 have hS:=Aj (P:=Tryz.prog)
 dsimp only[x94,mkX,CZ]
 repeat' (first
  |((with_reducible first|apply AN|apply Bg|apply Bb|apply By|apply AO|apply AP);(·(first|exact Ctx.fn_ok hS|exact Ctx.rd_ok hS|assumption|exact yT));iterate 2 (·(simp only[go_sem,seval]<;>eq_refl)))
  |(with_reducible first|apply AI|apply A5|apply AF|apply AH|apply Ar|apply Ao|apply Ay|apply AZ|apply A6|apply A7|apply A8|apply A9|apply A4)
  |(with_reducible apply Ba;(·first|rfl|decide))
  |(with_reducible first|apply AJ|apply AM|apply Bd|apply Be|apply Bf|apply yT|apply And.intro yT yT)
  |(fail_if_success with_reducible apply B6);(fail_if_success with_reducible apply Bc);first|omega|(simp only[go_sem,seval];done)
  |fail)
 refine kW (b:=decide (n< -4611686018427387903)||decide (4611686018427387903<n)) (by simp only[go_sem,seval]<;>eq_refl) (fun hb=> ?_) fun hb=> ?_
 ·repeat' (first
  |((with_reducible first|apply AN|apply Bg|apply Bb|apply By|apply AO|apply AP);(·(first|exact Ctx.fn_ok hS|exact Ctx.rd_ok hS|assumption|exact yT));iterate 2 (·(simp only[go_sem,seval]<;>eq_refl)))
  |(with_reducible first|apply AI|apply A5|apply AF|apply AH|apply Ar|apply Ao|apply Ay|apply AZ|apply A6|apply A7|apply A8|apply A9|apply A4)
  |(with_reducible apply Ba;(·first|rfl|decide))
  |(with_reducible first|apply AJ|apply AM|apply Bd|apply Be|apply Bf|apply yT|apply And.intro yT yT)
  |(fail_if_success with_reducible apply B6);(fail_if_success with_reducible apply Bc);first|omega|(simp only[go_sem,seval];done)
  |fail)
  first|refine J9 (by simp only[go_sem,seval]<;>eq_refl) (by simp only[go_sem,seval]) (by simp only[go_sem,seval]) ?_ rfl|refine Ka (by simp only[go_sem,seval]<;>eq_refl) (by simp only[go_sem,seval]) (by simp only[go_sem,seval]) ?_ rfl
  simp only[EZ,hb,go_sem,seval]
 ·repeat' (first
  |((with_reducible first|apply AN|apply Bg|apply Bb|apply By|apply AO|apply AP);(·(first|exact Ctx.fn_ok hS|exact Ctx.rd_ok hS|assumption|exact yT));iterate 2 (·(simp only[go_sem,seval]<;>eq_refl)))
  |(with_reducible first|apply AI|apply A5|apply AF|apply AH|apply Ar|apply Ao|apply Ay|apply AZ|apply A6|apply A7|apply A8|apply A9|apply A4)
  |(with_reducible apply Ba;(·first|rfl|decide))
  |(with_reducible first|apply AJ|apply AM|apply Bd|apply Be|apply Bf|apply yT|apply And.intro yT yT)
  |(fail_if_success with_reducible apply B6);(fail_if_success with_reducible apply Bc);first|omega|(simp only[go_sem,seval];done)
  |fail)
  refine Df hS 7 x135.hf x135.hc x135.hn x135.ok rfl (by simp only[go_sem,seval]<;>eq_refl) (by simp only[go_sem,seval]<;>eq_refl) ?_ rfl (by simp only[go_sem,seval]<;>eq_refl) (Nat.le_of_ble_eq_true rfl) fun _=> ?_
  ·exact yT
  dsimp only[x135,mkX,CZ]
  repeat' (first
  |((with_reducible first|apply AN|apply Bg|apply Bb|apply By|apply AO|apply AP);(·(first|exact Ctx.fn_ok hS|exact Ctx.rd_ok hS|assumption|exact yT));iterate 2 (·(simp only[go_sem,seval]<;>eq_refl)))
  |(with_reducible first|apply AI|apply A5|apply AF|apply AH|apply Ar|apply Ao|apply Ay|apply AZ|apply A6|apply A7|apply A8|apply A9|apply A4)
  |(with_reducible apply Ba;(·first|rfl|decide))
  |(with_reducible first|apply AJ|apply AM|apply Bd|apply Be|apply Bf|apply yT|apply And.intro yT yT)
  |(fail_if_success with_reducible apply B6);(fail_if_success with_reducible apply Bc);first|omega|(simp only[go_sem,seval];done)
  |fail)
  refine DR 1 (300,3) 0 1 [.v (.int .u8 0)] (by omega) (by simp only[go_sem,seval]<;>eq_refl) ?_
  have hlen:=NW 10 (zz n)
  refine Vi (0,5) [.v (.int .u64 (zz n))] (fun x:Nat×List Int×Nat=>([(.c (300,3) 0,.own (1,8) x.2.1.length),(.a (1,8),.sl 1 true (x.2.1.map eBw) [.v (.int .u8 0)])],x.2.2))
   (fun x=>x.2.1=((D8 10 (zz n)).take x.1).map grO∧x.1≤(D8 10 (zz n)).length) (fun x=>x.1) (0,[],8) (by simp only[go_sem,seval]<;>eq_refl) (WG (zz n) (0,5) (mX n)) x165.ok ⟨rfl,rfl,rfl⟩ ⟨rfl,rfl,rfl⟩ (fun j=>by simp[hl]) (by simp) (by intro a ha;obtain⟨y,_,rfl⟩:=List.mem_map.1 ha;exact⟨rfl,rfl⟩) ⟨rfl,Nat.zero_le _⟩ rfl ?_ ?_ ?_
  ·exact leF f0
  ·rintro l ⟨k,out,c⟩ ⟨hout,hk⟩ args ha
   simp only at hout hk
   obtain⟨⟨g,last⟩,hy,rfl,hlt⟩:=Iv ha
   have hout2:out++[grO (g,last)]=((D8 10 (zz n)).take (k+1)).map grO:=by
    have:(D8 10 (zz n))[k]? =some (g,last):=by
     have:(D8 10 (zz n))[k]? =((D8 10 (zz n)).drop k)[0]? :=by simp
     rw[this,hy];rfl
    rw[List.take_add_one,this,List.map_append,hout];rfl
   have hol:out.length=k:=by rw[hout];simp;omega
   clear ha hy
   simp only[grA,FF]
   have hOK:=Ctx.rdG_ok (nt:=33) (l:=l) hS
   cases last with
   |true=>
    repeat' (first
  |((with_reducible first|apply AN|apply Bg|apply Bb|apply By|apply AO|apply AP);(·(first|exact Ctx.fn_ok hS|exact Ctx.rd_ok hS|assumption|exact yT));iterate 2 (·(simp only[go_sem,seval]<;>eq_refl)))
  |(with_reducible first|apply AI|apply A5|apply AF|apply AH|apply Ar|apply Ao|apply Ay|apply AZ|apply A6|apply A7|apply A8|apply A9|apply A4)
  |(with_reducible apply Ba;(·first|rfl|decide))
  |(with_reducible first|apply AJ|apply AM|apply Bd|apply Be|apply Bf|apply yT|apply And.intro yT yT)
  |(fail_if_success with_reducible apply B6);(fail_if_success with_reducible apply Bc);first|omega|(simp only[go_sem,seval];done)
  |fail)
    refine K4 (by simp only[go_sem,seval]<;>eq_refl) ?_
    repeat' (first
  |((with_reducible first|apply AN|apply Bg|apply Bb|apply By|apply AO|apply AP);(·(first|exact Ctx.fn_ok hS|exact Ctx.rd_ok hS|assumption|exact yT));iterate 2 (·(simp only[go_sem,seval]<;>eq_refl)))
  |(with_reducible first|apply AI|apply A5|apply AF|apply AH|apply Ar|apply Ao|apply Ay|apply AZ|apply A6|apply A7|apply A8|apply A9|apply A4)
  |(with_reducible apply Ba;(·first|rfl|decide))
  |(with_reducible first|apply AJ|apply AM|apply Bd|apply Be|apply Bf|apply yT|apply And.intro yT yT)
  |(fail_if_success with_reducible apply B6);(fail_if_success with_reducible apply Bc);first|omega|(simp only[go_sem,seval];done)
  |fail)
    refine RO (k+1,out++[g],c+50) ⟨by rw[←hout2];rfl,hlt⟩ rfl ?_
    refine Le.of ?_ ?_ (by first|exact Nat.le_refl _|(simp;omega)|simp)<;>first|(simp only[go_sem,seval,eBw];done)|(simp only[go_sem,seval,eBw,List.map_append,List.map_cons,List.map_nil,List.map_set,List.map_take,List.map_drop];done)|(simp[eBw,List.map_append,List.map_set];done)
   |false=>
    repeat' (first
  |((with_reducible first|apply AN|apply Bg|apply Bb|apply By|apply AO|apply AP);(·(first|exact Ctx.fn_ok hS|exact Ctx.rd_ok hS|assumption|exact yT));iterate 2 (·(simp only[go_sem,seval]<;>eq_refl)))
  |(with_reducible first|apply AI|apply A5|apply AF|apply AH|apply Ar|apply Ao|apply Ay|apply AZ|apply A6|apply A7|apply A8|apply A9|apply A4)
  |(with_reducible apply Ba;(·first|rfl|decide))
  |(with_reducible first|apply AJ|apply AM|apply Bd|apply Be|apply Bf|apply yT|apply And.intro yT yT)
  |(fail_if_success with_reducible apply B6);(fail_if_success with_reducible apply Bc);first|omega|(simp only[go_sem,seval];done)
  |fail)
    refine Jq (by simp only[go_sem,seval]<;>eq_refl) ?_
    repeat' (first
  |((with_reducible first|apply AN|apply Bg|apply Bb|apply By|apply AO|apply AP);(·(first|exact Ctx.fn_ok hS|exact Ctx.rd_ok hS|assumption|exact yT));iterate 2 (·(simp only[go_sem,seval]<;>eq_refl)))
  |(with_reducible first|apply AI|apply A5|apply AF|apply AH|apply Ar|apply Ao|apply Ay|apply AZ|apply A6|apply A7|apply A8|apply A9|apply A4)
  |(with_reducible apply Ba;(·first|rfl|decide))
  |(with_reducible first|apply AJ|apply AM|apply Bd|apply Be|apply Bf|apply yT|apply And.intro yT yT)
  |(fail_if_success with_reducible apply B6);(fail_if_success with_reducible apply Bc);first|omega|(simp only[go_sem,seval];done)
  |fail)
    refine RO (k+1,out++[BW .or .u8 g 128],c+50) ⟨by rw[←hout2];rfl,hlt⟩ rfl ?_
    refine Le.of ?_ ?_ (by first|exact Nat.le_refl _|(simp;omega)|simp)<;>first|(simp only[go_sem,seval,eBw];done)|(simp only[go_sem,seval,eBw,List.map_append,List.map_cons,List.map_nil,List.map_set,List.map_take,List.map_drop];done)|(simp[eBw,List.map_append,List.map_set];done)
  ·rintro⟨k,out,c⟩ ⟨hout,hk⟩ hk2
   simp only at hout hk
   repeat' (first
  |((with_reducible first|apply AN|apply Bg|apply Bb|apply By|apply AO|apply AP);(·(first|exact Ctx.fn_ok hS|exact Ctx.rd_ok hS|assumption|exact yT));iterate 2 (·(simp only[go_sem,seval,WH,TM]<;>eq_refl)))
  |(with_reducible first|apply AI|apply A5|apply AF|apply AH|apply Ar|apply Ao|apply Ay|apply AZ|apply A6|apply A7|apply A8|apply A9|apply A4)
  |(with_reducible apply Ba;(·first|rfl|decide))
  |(with_reducible first|apply AJ|apply AM|apply Bd|apply Be|apply Bf|apply yT|apply And.intro yT yT)
  |(fail_if_success with_reducible apply B6);(fail_if_success with_reducible apply Bc);first|omega|(simp only[go_sem,seval,WH,TM];done)
  |fail)
   first|refine J9 (by simp only[go_sem,seval]<;>eq_refl) (by simp only[go_sem,seval]) (by simp only[go_sem,seval]) ?_ rfl|refine Ka (by simp only[go_sem,seval]<;>eq_refl) (by simp only[go_sem,seval]) (by simp only[go_sem,seval]) ?_ rfl
   have:out=PT n:=by rw[hout,show k=_ from hk2,PT,List.length_map,List.take_length]
   simp only[EZ,hb,this,go_sem,seval]
end Go.Proofs.YtciphecegkfaiaaGreat.Am
namespace Go.Proofs.YtciphecegkfaiaaGreat.Am
open Go
attribute [local irreducible] awp B5 BR Bx B3 Bw Bn BS B1 itK
set_option maxRecDepth 100000
set_option maxHeartbeats 8000000
set_option linter.unusedSimpArgs false
set_option linter.unusedVariables false
def LZ:Spec
 |[.v (.int .i64 n)]=>some (True,.tup [.v (.string (sB (EZ n))),.i (bif decide (n< -4611686018427387903)||decide (4611686018427387903<n) then 10 else 0)])
 |_=>none
theorem NX:FOK Tryz.prog 94 LZ:=⟨x94.ok,by
 intro args vc r h hv
 unfold LZ at h
 split at h
 ·cases h
  exact WI _
 ·simp at h⟩
def S42:List (Nat×Spec):=[(94,LZ)]
theorem WJ:TabOK Tryz.prog (Gb S42):=Aa NX Aj
def eIw (x:Int):List AV:=[.i x]
theorem eI_row (ns:List Int) (d:List AV) (j:Nat) (h:j<ns.length):BJ (ns.map eIw) d j=[.i (ns.getD j 0)]:=by
 unfold BJ
 simp[List.getD_eq_getElem?_getD,h,eIw]
def CC (ns:List Int):List UInt8:=(ns.map EZ).flatten
theorem YK:okF Tryz.prog 166:=⟨Tryz.f166,Tryz.func166,by kernel_rfl,by kernel_rfl⟩
theorem WK:okF Tryz.prog 137:=⟨Tryz.f137,Tryz.func137,by kernel_rfl,by kernel_rfl⟩
theorem cJ (ns:List Int) (j:Nat):(CC (ns.take j)).length≤(CC ns).length:=by
 have:CC ns=CC (ns.take j)++CC (ns.drop j):=by
  unfold CC
  rw[←List.flatten_append,←List.map_append,List.take_append_drop]
 rw[this,List.length_append]
 omega
theorem WL {ns:List Int} {j:Nat} (h:j<ns.length):CC (ns.take (j+1))=CC (ns.take j)++EZ (ns.getD j 0):=by
 unfold CC
 have:ns[j]? =some (ns.getD j 0):=by simp[List.getD_eq_getElem?_getD,h]
 rw[List.take_add_one,this]
 simp
theorem Qt (ns:List Int) (f:Bool) (d:List AV) (l:List UInt8) (hl:(l++CC ns).length≤140737488355328) (hn:ns.length≤1000000):Oo Tryz.prog 136 [.sl 1 f (ns.map eIw) d] l (some (l++CC ns)) (.tup []):=by
 refine Xn WJ _ x136.hf x136.hc x136.hn (by decide) (Nat.le_of_ble_eq_true rfl) fun hb N X b=> ?_
 have hS:=WJ
 have hOK:=Ctx.bd_ok (nt:=25) (hb:=hb) (N:=N) (X:=X) (hnt:=by decide) hS
 dsimp only[x136,mkX,CZ]
 repeat' (first
  |((with_reducible first|apply AN|apply Bg|apply Bb|apply By|apply AO|apply AP);(·(first|exact Ctx.fn_ok hS|exact Ctx.rd_ok hS|assumption|exact yT));iterate 2 (·(simp only[go_sem,seval,Xi]<;>eq_refl)))
  |(with_reducible first|apply AI|apply A5|apply AF|apply AH|apply Ar|apply Ao|apply Ay|apply AZ|apply A6|apply A7|apply A8|apply A9|apply A4)
  |(with_reducible apply Ba;(·first|rfl|decide))
  |(with_reducible first|apply AJ|apply AM|apply Bd|apply Be|apply Bf|apply yT|apply And.intro yT yT)
  |(fail_if_success with_reducible apply B6);(fail_if_success with_reducible apply Bc);first|omega|(simp only[go_sem,seval,Xi];done)
  |fail)
 refine G4 (fun x:Nat×Nat=>⟨[(10,.i x.1),(9,.i ns.length),(8,.sl 1 f (ns.map eIw) d),(0,.v (.pointer (some ⟨b,0,none⟩))),(bk,gB b (l++CC (ns.take x.1)))],[],x.2⟩)
  (fun x=>x.1≤ns.length) (fun x=>ns.length-x.1) (0,50) ?_ ?_ ?_
 ·exact Nat.zero_le _
 ·refine Le.of ?_ ?_ (by simp)<;>(simp only[go_sem,seval,CC];try simp)
 ·rintro⟨j,c⟩ hj
  simp only at hj
  repeat' (first
  |((with_reducible first|apply AN|apply Bg|apply Bb|apply By|apply AO|apply AP);(·(first|exact Ctx.fn_ok hS|exact Ctx.rd_ok hS|assumption|exact yT));iterate 2 (·(simp only[go_sem,seval]<;>eq_refl)))
  |(with_reducible first|apply AI|apply A5|apply AF|apply AH|apply Ar|apply Ao|apply Ay|apply AZ|apply A6|apply A7|apply A8|apply A9|apply A4)
  |(with_reducible apply Ba;(·first|rfl|decide))
  |(with_reducible first|apply AJ|apply AM|apply Bd|apply Be|apply Bf|apply yT|apply And.intro yT yT)
  |(fail_if_success with_reducible apply B6);(fail_if_success with_reducible apply Bc);first|omega|(simp only[go_sem,seval];done)
  |fail)
  refine RN ((j:Int)<ns.length) (by simp only[go_sem,seval]<;>eq_refl) (by first|simp only[Bool.decide_or,Bool.decide_and,decide_not]|simp) (fun hj1=> ?_) (fun hj1=> ?_)
  ·have hj':j<ns.length:=by omega
   have hrow:=eI_row ns d j hj'
   have hsu:=WL hj'
   have hle:=cJ ns (j+1)
   rw[hsu,List.length_append] at hle
   have hl2:(l++CC (ns.take j)).length+(EZ (ns.getD j 0)).length≤140737488355328:=by
    rw[List.length_append] at hl⊢
    omega
   repeat' (first
  |((with_reducible first|apply AN|apply Bg|apply Bb|apply By|apply AO|apply AP);(·(first|exact Ctx.fn_ok hS|exact Ctx.rd_ok hS|assumption|exact yT));iterate 2 (·(simp only[go_sem,seval,Am.S42,Am.LZ,hrow]<;>eq_refl)))
  |(with_reducible first|apply AI|apply A5|apply AF|apply AH|apply Ar|apply Ao|apply Ay|apply AZ|apply A6|apply A7|apply A8|apply A9|apply A4)
  |(with_reducible apply Ba;(·first|rfl|decide))
  |(with_reducible first|apply AJ|apply AM|apply Bd|apply Be|apply Bf|apply yT|apply And.intro yT yT)
  |(fail_if_success with_reducible apply B6);(fail_if_success with_reducible apply Bc);first|omega|(simp only[go_sem,seval,Am.S42,Am.LZ,hrow];done)
  |fail)
   refine Ky hS 4 rfl YK (by simp only[go_sem,seval]<;>eq_refl) yT (by simp only[go_sem,seval]<;>eq_refl) (by simp only[go_sem,seval]<;>eq_refl) (by simp only[go_sem,seval]<;>eq_refl) (by simp only[go_sem,seval,D3]<;>eq_refl) rfl rfl (SJ hl2) (by simp only[go_sem,seval]<;>eq_refl) yT ?_
   repeat' (first
  |((with_reducible first|apply AN|apply Bg|apply Bb|apply By|apply AO|apply AP);(·(first|exact Ctx.fn_ok hS|exact Ctx.rd_ok hS|assumption|exact yT));iterate 2 (·(simp only[go_sem,seval]<;>eq_refl)))
  |(with_reducible first|apply AI|apply A5|apply AF|apply AH|apply Ar|apply Ao|apply Ay|apply AZ|apply A6|apply A7|apply A8|apply A9|apply A4)
  |(with_reducible apply Ba;(·first|rfl|decide))
  |(with_reducible first|apply AJ|apply AM|apply Bd|apply Be|apply Bf|apply yT|apply And.intro yT yT)
  |(fail_if_success with_reducible apply B6);(fail_if_success with_reducible apply Bc);first|omega|(simp only[go_sem,seval];done)
  |fail)
   refine GG (j+1,c+50) (by show j+1≤_;omega) (by show ns.length-(j+1)<ns.length-j;omega) (Le.of ?_ ?_ ?_)
   ·simp only[go_sem,seval,hsu,List.append_assoc]<;>simp
   ·simp only[go_sem,seval]
   ·simp
  ·repeat' (first
  |((with_reducible first|apply AN|apply Bg|apply Bb|apply By|apply AO|apply AP);(·(first|exact Ctx.fn_ok hS|exact Ctx.rd_ok hS|assumption|exact yT));iterate 2 (·(simp only[go_sem,seval]<;>eq_refl)))
  |(with_reducible first|apply AI|apply A5|apply AF|apply AH|apply Ar|apply Ao|apply Ay|apply AZ|apply A6|apply A7|apply A8|apply A9|apply A4)
  |(with_reducible apply Ba;(·first|rfl|decide))
  |(with_reducible first|apply AJ|apply AM|apply Bd|apply Be|apply Bf|apply yT|apply And.intro yT yT)
  |(fail_if_success with_reducible apply B6);(fail_if_success with_reducible apply Bc);first|omega|(simp only[go_sem,seval];done)
  |fail)
   have:j=ns.length:=by omega
   subst this
   rw[List.take_length]
   refine dQ (by simp only[go_sem,seval]<;>eq_refl) (by simp only[go_sem,seval]<;>eq_refl) yT (by simp only[go_sem,seval]<;>eq_refl) (by simp only[go_sem,seval]<;>eq_refl) rfl
end Go.Proofs.YtciphecegkfaiaaGreat.Am
namespace Go.Proofs.YtciphecegkfaiaaGreat.Am
open Go
attribute [local irreducible] awp B5 BR Bx B3 Bw Bn BS B1 itK
set_option maxRecDepth 100000
set_option maxHeartbeats 8000000
set_option linter.unusedSimpArgs false
set_option linter.unusedVariables false
theorem WM:BT 174:=⟨by kernel_rfl,by decide⟩
def S21 (N:Nat):List (Nat×Spec):=[(43,s43 N)]
theorem WN (N:Nat):TabOK Tryz.prog (Gb (S21 N)):=Aa (JQ N) Aj
def Pe (a b c n p q:Int):List UInt8:=CC [a,b,c,p,q,n]
def ptS (l:List (Int×Int)):List UInt8:=(l.map fun p=>CC [p.1,p.2]).flatten
def Ip (a b c:Int) (l:List (Int×Int)) (p q:Int):List UInt8:=Pe a b c l.length p q++ptS l
theorem Sm (n:Int):(EZ n).length≤10:=by
 unfold EZ
 cases h:(decide (n< -4611686018427387903)||decide (4611686018427387903<n)) with
 |true=>simp
 |false=>simp only[cond_false,toB,PT,List.length_map];exact NW 10 _
theorem Km:∀(ns:List Int),(CC ns).length≤10*ns.length
 |[]=>by simp[CC]
 |n::ns=>by
  have h1:=Sm n
  have h2:=Km ns
  simp only[CC,List.map_cons,List.flatten_cons,List.length_append,List.length_cons] at h2⊢
  omega
theorem Nk:∀(l:List (Int×Int)),(ptS l).length≤20*l.length
 |[]=>by simp[ptS]
 |p::l=>by
  have h1:=Km [p.1,p.2]
  have h2:=Nk l
  simp only[ptS,List.map_cons,List.flatten_cons,List.length_append,List.length_cons,List.length_nil] at h1 h2⊢
  omega
theorem YL {l:List (Int×Int)} {j:Nat} (h:j<l.length):ptS (l.take (j+1))=ptS (l.take j)++CC [(l.getD j (0,0)).1,(l.getD j (0,0)).2]:=by
 unfold ptS
 have:l[j]? =some (l.getD j (0,0)):=by simp[List.getD_eq_getElem?_getD,h]
 rw[List.take_add_one,this]
 simp
theorem TN {n:Int} (h1: -4611686018427387903≤n) (h2:n≤4611686018427387903):EZ n≠[]:=by
 have e:(decide (n< -4611686018427387903)||decide (4611686018427387903<n))=false:=by simp;omega
 unfold EZ
 rw[e,cond_false]
 unfold toB PT
 intro h
 have h3:=List.map_eq_nil_iff.1 (List.map_eq_nil_iff.1 h)
 by_cases hz:zz n<128
 ·rw[Ni hz] at h3;cases h3
 ·rw[Nj hz] at h3;cases h3
theorem WO (N:Nat) (a b c:Int) (l:List (Int×Int)) (p q:Int) (v:Bool) (hv:BA N a b c l p q=some v) (hl:l.length≤1000000):
  PCall Tryz.prog 95 [.agg [.i a,.i b,.i c,.sl 2 false (l.map Br) [.i 0,.i 0],.i p,.i q]] (.tup [.v (.string (sB (bif v then Ip a b c l p q else[]))),.i (bif v then 0 else 80)]):=by
 refine Xl (WN N) _ x95.hf x95.hc x95.hn (by decide) (Nat.le_of_ble_eq_true rfl) fun hb M=> ?_
 have hS:=WN N
 have hOK:=Ctx.bd_ok (nt:=41) (hb:=hb) (N:=M) (X:=fun _=>False) (hnt:=by decide) hS
 dsimp only[x95,mkX,CZ]
 have hlen:=Nk l
 have hhl:=Km [a,b,c,p,q,(l.length:Int)]
 repeat' (first
  |((with_reducible first|apply AN|apply Bg|apply Bb|apply By|apply AO|apply AP);(·(first|exact Ctx.fn_ok hS|exact Ctx.rd_ok hS|assumption|exact yT));iterate 2 (·(simp only[go_sem,seval,Am.S21,Am.s43,Am.LQ,hv,Option.isSome_some]<;>eq_refl)))
  |(with_reducible first|apply AI|apply A5|apply AF|apply AH|apply Ar|apply Ao|apply Ay|apply AZ|apply A6|apply A7|apply A8|apply A9|apply A4)
  |(with_reducible apply Ba;(·first|rfl|decide))
  |(with_reducible first|apply AJ|apply AM|apply Bd|apply Be|apply Bf|apply yT|apply And.intro yT yT)
  |(fail_if_success with_reducible apply B6);(fail_if_success with_reducible apply Bc);first|omega|(simp only[go_sem,seval,Am.S21,Am.s43,Am.LQ,hv,Option.isSome_some];done)
  |fail)
 cases v with
 |false=>
  refine Jq (by simp only[go_sem,seval,hv,Option.getD_some]<;>eq_refl) ?_
  repeat' (first
  |((with_reducible first|apply AN|apply Bg|apply Bb|apply By|apply AO|apply AP);(·(first|exact Ctx.fn_ok hS|exact Ctx.rd_ok hS|assumption|exact yT));iterate 2 (·(simp only[go_sem,seval]<;>eq_refl)))
  |(with_reducible first|apply AI|apply A5|apply AF|apply AH|apply Ar|apply Ao|apply Ay|apply AZ|apply A6|apply A7|apply A8|apply A9|apply A4)
  |(with_reducible apply Ba;(·first|rfl|decide))
  |(with_reducible first|apply AJ|apply AM|apply Bd|apply Be|apply Bf|apply yT|apply And.intro yT yT)
  |(fail_if_success with_reducible apply B6);(fail_if_success with_reducible apply Bc);first|omega|(simp only[go_sem,seval];done)
  |fail)
  first|refine J9 (by simp only[go_sem,seval]<;>eq_refl) (by simp only[go_sem,seval]) (by simp only[go_sem,seval]) ?_ rfl|refine Ka (by simp only[go_sem,seval]<;>eq_refl) (by simp only[go_sem,seval]) (by simp only[go_sem,seval]) ?_ rfl
  simp only[go_sem,seval]
 |true=>
  refine K4 (by simp only[go_sem,seval,hv,Option.getD_some]<;>eq_refl) ?_
  repeat' (first
  |((with_reducible first|apply AN|apply Bg|apply Bb|apply By|apply AO|apply AP);(·(first|exact Ctx.fn_ok hS|exact Ctx.rd_ok hS|assumption|exact yT));iterate 2 (·(simp only[go_sem,seval]<;>eq_refl)))
  |(with_reducible first|apply AI|apply A5|apply AF|apply AH|apply Ar|apply Ao|apply Ay|apply AZ|apply A6|apply A7|apply A8|apply A9|apply A4)
  |(with_reducible apply Ba;(·first|rfl|decide))
  |(with_reducible first|apply AJ|apply AM|apply Bd|apply Be|apply Bf|apply yT|apply And.intro yT yT)
  |(fail_if_success with_reducible apply B6);(fail_if_success with_reducible apply Bc);first|omega|(simp only[go_sem,seval];done)
  |fail)
  refine Xj hS 0 rfl WM (by simp only[go_sem,seval]<;>eq_refl) yT fun B=>⟨_,_,_,(by simp only[go_sem,seval]<;>eq_refl),yT, ?_⟩
  repeat' (first
  |((with_reducible first|apply AN|apply Bg|apply Bb|apply By|apply AO|apply AP);(·(first|exact Ctx.fn_ok hS|exact Ctx.rd_ok hS|assumption|exact yT));iterate 2 (·(simp only[go_sem,seval]<;>eq_refl)))
  |(with_reducible first|apply AI|apply A5|apply AF|apply AH|apply Ar|apply Ao|apply Ay|apply AZ|apply A6|apply A7|apply A8|apply A9|apply A4)
  |(with_reducible apply Ba;(·first|rfl|decide))
  |(with_reducible first|apply AJ|apply AM|apply Bd|apply Be|apply Bf|apply yT|apply And.intro yT yT)
  |(fail_if_success with_reducible apply B6);(fail_if_success with_reducible apply Bc);first|omega|(simp only[go_sem,seval];done)
  |fail)
  have hh1:([]++CC [a,b,c,p,q,(l.length:Int)]).length≤140737488355328:=by
   simp only[List.nil_append,List.length_cons,List.length_nil] at hhl⊢
   omega
  refine Ky hS 14 (ax:=[.sl 1 false ([a,b,c,p,q,(l.length:Int)].map eIw) [.i 0]]) rfl x136.ok (by simp only[go_sem,seval]<;>eq_refl) yT (by simp only[go_sem,seval]<;>eq_refl) (by simp only[go_sem,seval]<;>eq_refl) (by simp only[go_sem,seval,Am.eIw]<;>eq_refl) ?_ rfl rfl (Qt _ _ _ [] hh1 (by simp)) (by simp only[go_sem,seval]<;>eq_refl) yT ?_
  ·simp only[go_sem,seval]
  repeat' (first
  |((with_reducible first|apply AN|apply Bg|apply Bb|apply By|apply AO|apply AP);(·(first|exact Ctx.fn_ok hS|exact Ctx.rd_ok hS|assumption|exact yT));iterate 2 (·(simp only[go_sem,seval]<;>eq_refl)))
  |(with_reducible first|apply AI|apply A5|apply AF|apply AH|apply Ar|apply Ao|apply Ay|apply AZ|apply A6|apply A7|apply A8|apply A9|apply A4)
  |(with_reducible apply Ba;(·first|rfl|decide))
  |(with_reducible first|apply AJ|apply AM|apply Bd|apply Be|apply Bf|apply yT|apply And.intro yT yT)
  |(fail_if_success with_reducible apply B6);(fail_if_success with_reducible apply Bc);first|omega|(simp only[go_sem,seval];done)
  |fail)
  refine G4 (fun x:Nat×Nat=>⟨[(28,.i x.1),(27,.i l.length),(26,.sl 2 false (l.map Br) [.i 0,.i 0]),(4,.v (.pointer (some ⟨B,0,none⟩))),(3,.i 0),(bk,gB B (CC [a,b,c,p,q,(l.length:Int)]++ptS (l.take x.1)))],[],x.2⟩)
   (fun x=>x.1≤l.length) (fun x=>l.length-x.1) (0,50) ?_ ?_ ?_
  ·exact Nat.zero_le _
  ·refine Le.of ?_ ?_ (by simp)<;>(simp only[go_sem,seval,ptS];try simp)
  ·rintro⟨j,cc⟩ hj
   simp only at hj
   repeat' (first
  |((with_reducible first|apply AN|apply Bg|apply Bb|apply By|apply AO|apply AP);(·(first|exact Ctx.fn_ok hS|exact Ctx.rd_ok hS|assumption|exact yT));iterate 2 (·(simp only[go_sem,seval]<;>eq_refl)))
  |(with_reducible first|apply AI|apply A5|apply AF|apply AH|apply Ar|apply Ao|apply Ay|apply AZ|apply A6|apply A7|apply A8|apply A9|apply A4)
  |(with_reducible apply Ba;(·first|rfl|decide))
  |(with_reducible first|apply AJ|apply AM|apply Bd|apply Be|apply Bf|apply yT|apply And.intro yT yT)
  |(fail_if_success with_reducible apply B6);(fail_if_success with_reducible apply Bc);first|omega|(simp only[go_sem,seval];done)
  |fail)
   refine RN ((j:Int)<l.length) (by simp only[go_sem,seval]<;>eq_refl) (by first|simp only[Bool.decide_or,Bool.decide_and,decide_not]|simp) (fun hj1=> ?_) (fun hj1=> ?_)
   ·have hj':j<l.length:=by omega
    have hrow:=LR l j
    have hsu:=YL hj'
    have hl1:=Nk (l.take j)
    have hl0:(l.take j).length≤l.length:=by rw[List.length_take];omega
    have hl3:=Km [(l.getD j (0,0)).1,(l.getD j (0,0)).2]
    have hl2:((CC [a,b,c,p,q,(l.length:Int)]++ptS (l.take j))++CC [(l.getD j (0,0)).1,(l.getD j (0,0)).2]).length≤140737488355328:=by
     simp only[List.length_append,List.length_cons,List.length_nil] at hhl hl3⊢
     omega
    repeat' (first
  |((with_reducible first|apply AN|apply Bg|apply Bb|apply By|apply AO|apply AP);(·(first|exact Ctx.fn_ok hS|exact Ctx.rd_ok hS|assumption|exact yT));iterate 2 (·(simp only[go_sem,seval,hrow,Am.Br]<;>eq_refl)))
  |(with_reducible first|apply AI|apply A5|apply AF|apply AH|apply Ar|apply Ao|apply Ay|apply AZ|apply A6|apply A7|apply A8|apply A9|apply A4)
  |(with_reducible apply Ba;(·first|rfl|decide))
  |(with_reducible first|apply AJ|apply AM|apply Bd|apply Be|apply Bf|apply yT|apply And.intro yT yT)
  |(fail_if_success with_reducible apply B6);(fail_if_success with_reducible apply Bc);first|omega|(simp only[go_sem,seval,hrow,Am.Br];done)
  |fail)
    refine Ky hS 5 (ax:=[.sl 1 false ([(l.getD j (0,0)).1,(l.getD j (0,0)).2].map eIw) [.i 0]]) rfl x136.ok (by simp only[go_sem,seval]<;>eq_refl) yT (by simp only[go_sem,seval]<;>eq_refl) (by simp only[go_sem,seval]<;>eq_refl) (by simp only[go_sem,seval,Am.eIw]<;>eq_refl) ?_ rfl rfl (Qt _ _ _ _ hl2 (by simp)) (by simp only[go_sem,seval]<;>eq_refl) yT ?_
    ·simp only[go_sem,seval]
    repeat' (first
  |((with_reducible first|apply AN|apply Bg|apply Bb|apply By|apply AO|apply AP);(·(first|exact Ctx.fn_ok hS|exact Ctx.rd_ok hS|assumption|exact yT));iterate 2 (·(simp only[go_sem,seval]<;>eq_refl)))
  |(with_reducible first|apply AI|apply A5|apply AF|apply AH|apply Ar|apply Ao|apply Ay|apply AZ|apply A6|apply A7|apply A8|apply A9|apply A4)
  |(with_reducible apply Ba;(·first|rfl|decide))
  |(with_reducible first|apply AJ|apply AM|apply Bd|apply Be|apply Bf|apply yT|apply And.intro yT yT)
  |(fail_if_success with_reducible apply B6);(fail_if_success with_reducible apply Bc);first|omega|(simp only[go_sem,seval];done)
  |fail)
    refine GG (j+1,cc+50) (by show j+1≤_;omega) (by show l.length-(j+1)<l.length-j;omega) (Le.of ?_ ?_ ?_)
    ·simp only[go_sem,seval,hsu,List.append_assoc]<;>simp
    ·simp only[go_sem,seval]
    ·simp
   ·repeat' (first
  |((with_reducible first|apply AN|apply Bg|apply Bb|apply By|apply AO|apply AP);(·(first|exact Ctx.fn_ok hS|exact Ctx.rd_ok hS|assumption|exact yT));iterate 2 (·(simp only[go_sem,seval]<;>eq_refl)))
  |(with_reducible first|apply AI|apply A5|apply AF|apply AH|apply Ar|apply Ao|apply Ay|apply AZ|apply A6|apply A7|apply A8|apply A9|apply A4)
  |(with_reducible apply Ba;(·first|rfl|decide))
  |(with_reducible first|apply AJ|apply AM|apply Bd|apply Be|apply Bf|apply yT|apply And.intro yT yT)
  |(fail_if_success with_reducible apply B6);(fail_if_success with_reducible apply Bc);first|omega|(simp only[go_sem,seval];done)
  |fail)
    have hjl:j=l.length:=by omega
    subst hjl
    rw[List.take_length]
    have hne:CC [a,b,c,p,q,(l.length:Int)]++ptS l≠[]:=by
     have h1:=TN (n:=(l.length:Int)) (by omega) (by omega)
     intro h
     have h2:=List.append_eq_nil_iff.1 h
     simp only[CC,List.map_cons,List.flatten_cons,List.append_eq_nil_iff] at h2
     exact h1 h2.1.2.2.2.2.2.1
    refine Ky hS 1 (ax:=[]) rfl WK (by simp only[go_sem,seval]<;>eq_refl) yT (by simp only[go_sem,seval]<;>eq_refl) (by simp only[go_sem,seval]<;>eq_refl) (by simp only[go_sem,seval]<;>eq_refl) yT rfl rfl (Rh hne) (by simp only[go_sem,seval]<;>eq_refl) yT ?_
    repeat' (first
  |((with_reducible first|apply AN|apply Bg|apply Bb|apply By|apply AO|apply AP);(·(first|exact Ctx.fn_ok hS|exact Ctx.rd_ok hS|assumption|exact yT));iterate 2 (·(simp only[go_sem,seval]<;>eq_refl)))
  |(with_reducible first|apply AI|apply A5|apply AF|apply AH|apply Ar|apply Ao|apply Ay|apply AZ|apply A6|apply A7|apply A8|apply A9|apply A4)
  |(with_reducible apply Ba;(·first|rfl|decide))
  |(with_reducible first|apply AJ|apply AM|apply Bd|apply Be|apply Bf|apply yT|apply And.intro yT yT)
  |(fail_if_success with_reducible apply B6);(fail_if_success with_reducible apply Bc);first|omega|(simp only[go_sem,seval];done)
  |fail)
    first|refine J9 (by simp only[go_sem,seval]<;>eq_refl) (by simp only[go_sem,seval]) (by simp only[go_sem,seval]) ?_ rfl|refine Ka (by simp only[go_sem,seval]<;>eq_refl) (by simp only[go_sem,seval]) (by simp only[go_sem,seval]) ?_ rfl
    simp only[Ip,Pe,go_sem,seval]
end Go.Proofs.YtciphecegkfaiaaGreat.Am
namespace Go.Proofs.YtciphecegkfaiaaGreat.Am
open Go
attribute [local irreducible] awp B5 BR Bx B3 Bw Bn BS B1 itK
set_option maxRecDepth 100000
set_option maxHeartbeats 8000000
set_option linter.unusedSimpArgs false
set_option linter.unusedVariables false
def S45 (N:Nat):List (Nat×Spec):=[(67,s67 N)]
theorem Pf (N:Nat):TabOK Tryz.prog (Gb (S45 N)):=Aa (Uw N) Aj
theorem YM (N:Nat) (m:Nm) (s:List UInt8) (p n q:Int) (h:DT N s p=some (n,q,0)):QM Tryz.prog 116 m [.box m 0] [.v (.string (sB s)),.i p] (.i n) [(1,.i q)]:=by
 refine Xf (Pf N) _ x116.hf x116.hc x116.hn (Nat.le_of_ble_eq_true rfl) fun hb=> ?_
 have hS:=Pf N
 dsimp only[x116,mkX,CZ]
 repeat' (first
  |((with_reducible first|apply AN|apply Bg|apply Bb|apply By|apply AO|apply AP);(·(first|exact Ctx.fn_ok hS|exact Ctx.rd_ok hS|assumption|exact yT));iterate 2 (·(simp only[go_sem,seval,Am.S45,Am.s67,h,Option.isSome_some]<;>eq_refl)))
  |(with_reducible first|apply AI|apply A5|apply AF|apply AH|apply Ar|apply Ao|apply Ay|apply AZ|apply A6|apply A7|apply A8|apply A9|apply A4)
  |(with_reducible apply Ba;(·first|rfl|decide))
  |(with_reducible first|apply AJ|apply AM|apply Bd|apply Be|apply Bf|apply yT|apply And.intro yT yT)
  |(fail_if_success with_reducible apply B6);(fail_if_success with_reducible apply Bc);first|omega|(simp only[go_sem,seval,Am.S45,Am.s67,h,Option.isSome_some];done)
  |fail)
 refine K4 (by simp only[go_sem,seval]<;>eq_refl) ?_
 repeat' (first
  |((with_reducible first|apply AN|apply Bg|apply Bb|apply By|apply AO|apply AP);(·(first|exact Ctx.fn_ok hS|exact Ctx.rd_ok hS|assumption|exact yT));iterate 2 (·(simp only[go_sem,seval]<;>eq_refl)))
  |(with_reducible first|apply AI|apply A5|apply AF|apply AH|apply Ar|apply Ao|apply Ay|apply AZ|apply A6|apply A7|apply A8|apply A9|apply A4)
  |(with_reducible apply Ba;(·first|rfl|decide))
  |(with_reducible first|apply AJ|apply AM|apply Bd|apply Be|apply Bf|apply yT|apply And.intro yT yT)
  |(fail_if_success with_reducible apply B6);(fail_if_success with_reducible apply Bc);first|omega|(simp only[go_sem,seval];done)
  |fail)
 exact OJ (by simp only[go_sem,seval]<;>eq_refl) yT ⟨by simp only[go_sem,seval],fun j c h=>h⟩
def fV:Value:= .iface 141 (.agg #[])
theorem YN (N:Nat) (m:Nm) (s:List UInt8) (p n q e:Int) (h:DT N s p=some (n,q,e)) (he:¬e=0):Oj Tryz.prog 116 m [.box m 0] [.v (.string (sB s)),.i p] fV:=by
 refine Vo (Pf N) _ x116.hf x116.hc x116.hn (Nat.le_of_ble_eq_true rfl) fun hb=> ?_
 have hS:=Pf N
 dsimp only[x116,mkX,CZ]
 repeat' (first
  |((with_reducible first|apply AN|apply Bg|apply Bb|apply By|apply AO|apply AP);(·(first|exact Ctx.fn_ok hS|exact Ctx.rd_ok hS|assumption|exact yT));iterate 2 (·(simp only[go_sem,seval,Am.S45,Am.s67,h,Option.isSome_some]<;>eq_refl)))
  |(with_reducible first|apply AI|apply A5|apply AF|apply AH|apply Ar|apply Ao|apply Ay|apply AZ|apply A6|apply A7|apply A8|apply A9|apply A4)
  |(with_reducible apply Ba;(·first|rfl|decide))
  |(with_reducible first|apply AJ|apply AM|apply Bd|apply Be|apply Bf|apply yT|apply And.intro yT yT)
  |(fail_if_success with_reducible apply B6);(fail_if_success with_reducible apply Bc);first|omega|(simp only[go_sem,seval,Am.S45,Am.s67,h,Option.isSome_some];done)
  |fail)
 refine Jq (by simp only[go_sem,seval,he,decide_not]<;>eq_refl) ?_
 refine MX (Ctx.fn_ok hS) 2 rfl rfl (by simp only[go_sem,seval]<;>eq_refl) (by simp only[go_sem,seval]) (by simp only[go_sem,seval]<;>eq_refl) ?_
 repeat' (with_reducible first|apply Ha|apply Hb)
 exact dS fun j c h=>h
def Sn (N:Nat):M3
 |[.box _ 0],[.v (.string s),.v (.int .i64 p)]=>match DT N (bL s) p with
  |some (n,q,e)=>if e=0 then some (True,.i n,[(1,.i q)]) else none
  |none=>none
 |_,_=>none
theorem cM (N:Nat):EOK Tryz.prog 116 (Sn N):=⟨x116.ok,by
 intro args cells vc r us n h hv hb
 unfold Sn at h
 split at h
 ·split at h
  ·rename_i m s p _ a b e hr
   split at h
   ·cases h
    rename_i he
    subst he
    simp only[EA,yE] at hb
    subst hb
    have:=YM N m (bL s) p a b hr
    rw[Kq] at this
    exact this
   ·cases h
  ·cases h
 ·simp at h⟩
def So (N:Nat):M4
 |[.box _ 0],[.v (.string s),.v (.int .i64 p)]=>match DT N (bL s) p with
  |some (_,_,e)=>if e=0 then none else some (True,fV)
  |none=>none
 |_,_=>none
theorem cN (N:Nat):POK Tryz.prog 116 (So N):=⟨x116.ok,by
 intro args cells vc v n h hv hb
 unfold So at h
 split at h
 ·split at h
  ·rename_i m s p _ a b e hr
   split at h
   ·cases h
   ·cases h
    rename_i he
    simp only[EA,yE] at hb
    subst hb
    have:=YN N m (bL s) p a b e hr he
    rw[Kq] at this
    exact this
  ·cases h
 ·simp at h⟩
def S22 (N:Nat):List (Nat×Spec):=[(43,s43 N),(97,s97 N)]
def E22 (N:Nat):List (Nat×M3):=[(116,Sn N)]
def P22 (N:Nat):List (Nat×M4):=[(116,So N)]
theorem Sp (N:Nat):TabOK Tryz.prog (Ke (S22 N) (E22 N) (P22 N)):=Z9 (Aa (JQ N) (Aa (Y0 N) Aj)) (by
 intro x hx
 simp only[E22,List.mem_singleton] at hx
 subst hx
 exact cM N) (by
 intro x hx
 simp only[P22,List.mem_singleton] at hx
 subst hx
 exact cN N)
def dN (N:Nat) (s:List UInt8) (p:Int):Option (Option (Int×Int)):=(DT N s p).bind fun(n,q,e)=>some (if e=0 then some (n,q) else none)
def pb {α β:Type}:Option (Option α)→(α→Option (Option β))→Option (Option β)
 |none,_=>none
 |some none,_=>some none
 |some (some a),f=>f a
theorem HH {N:Nat} {s:List UInt8} {p:Int} {β:Type} {f:Int×Int→Option (Option β)} {r:Option β} (h:pb (dN N s p) f=some r):∃x q e,DT N s p=some (x,q,e)∧(¬e=0∧r=none∨e=0∧f (x,q)=some r):=by
 unfold dN at h
 cases hw:DT N s p with
 |none=>rw[hw] at h;simp[pb] at h
 |some t=>
  obtain⟨x,q,e⟩:=t
  refine⟨x,q,e,rfl, ?_⟩
  rw[hw,Option.bind_some] at h
  simp only at h
  by_cases he:e=0
  ·rw[if_pos he] at h;exact .inr ⟨he,h⟩
  ·rw[if_neg he] at h;exact .inl ⟨he,(yJ h).symm⟩
theorem Zs {α β γ:Type} {x:Option (Option α)} {f:α→Option (Option β)} {g:β→Option (Option γ)}:pb (pb x f) g=pb x fun a=>pb (f a) g:=by
 rcases x with _|_|a<;>rfl
def dP (N:Nat) (s:List UInt8):Nat→Int→List (Int×Int)→Option (Option (List (Int×Int)×Int))
 |0,p,l=>some (some (l,p))
 |k+1,p,l=>pb (dN N s p) fun(x,q)=>pb (dN N s q) fun(y,r)=>dP N s k r (l++[(x,y)])
def Sq (N:Nat) (s:List UInt8):Option (Option (Int×Int×Int×List (Int×Int)×Int×Int)):=
 pb (dN N s 0) fun(a,p1)=>pb (dN N s p1) fun(b,p2)=>pb (dN N s p2) fun(c,p3)=>pb (dN N s p3) fun(f,p4)=>pb (dN N s p4) fun(g,p5)=>pb (dN N s p5) fun(n,p6)=>
 bif decide (3≤n)&&decide (n≤8) then
  pb (dP N s n.toNat p6 []) fun(l,p7)=>
  bif decide (p7<(s.length:Int)) then some none else
  (BA N a b c l f g).bind fun v=>some (bif v then some (a,b,c,l,f,g) else none)
 else some none
attribute [local go_sem] S22 E22 P22 Sn So s97 s43 Dn LQ Br Option.isSome_some
section
attribute [local go_sem] fV
def okC:Option AV→Bool
 |some c=> !isM c
 |none=>false
theorem cQ {o:Option AV}:okC o=true↔∃c,o=some c∧isM c=false:=by
 cases o with
 |none=>simp[okC]
 |some c=>simp[okC]
theorem FW (N:Nat) {e:Env} {h:Hp} {c:Nat} (e2:lk e 2= .box (0,1) 0) (e3:lk e 3= .box (1,1) 0) (ek:lk e (dk 64)= .gd false (.clo (.func 115) [] [.box (0,1) 0,.box (1,1) 0]))
  (hh:(okC (hl h (.c (0,1) 0))&&okC (hl h (.c (0,1) 1))&&okC (hl h (.c (0,1) 2))&&okC (hl h (.c (0,1) 3))&&okC (hl h (.c (0,1) 4))&&okC (hl h (.c (0,1) 5))&&okC (hl h (.c (1,1) 0)))=true):
  fdK Tryz.prog (Ke (S22 N) (E22 N) (P22 N)) 64 x69.rv (.tup [.agg [.i 0,.i 0,.i 0,.sl 2 false [] [.i 0,.i 0],.i 0,.i 0],.i 80]) (.p fV) ⟨e,h,c⟩:=by
 have hS:=Sp N
 simp only[Bool.and_eq_true,cQ] at hh
 obtain⟨⟨⟨⟨⟨⟨⟨c0,h0,k0⟩,⟨c1,h1,k1⟩⟩,⟨c2,h2,k2⟩⟩,⟨c3,h3,k3⟩⟩,⟨c4,h4,k4⟩⟩,⟨c5,h5,k5⟩⟩,⟨d0,h6,k6⟩⟩:=hh
 refine⟨_,_,ek,_,_,_,_,_,Tryz.func115,x115.hc,x115.hn,Nat.le_of_ble_eq_true rfl,x115.ok,fun aa=> ?_⟩
 dsimp only[x115,mkX,CZ]
 have ae:=Ctx.fd_ok (nt:=12) (hb:=aa) hS
 have F:=fc h0 (fc h1 (fc h2 (fc h3 (fc h4 (fc h5 (fc h6 (fc k0 (fc k1 (fc k2 (fc k3 (fc k4 (fc k5 (fc k6 f0)))))))))))))
 refine go hS F ?_
 refine cf F ?_
 refine go hS F ?_
 refine ct F ?_
 refine go hS F ?_
 refine Vj ⟨by simp only[go_sem,seval], ?_⟩
 try dsimp only[x69,mkX]
 exact⟨_,_,by simp only[go_sem,seval,e2,e3]<;>eq_refl,by simp only[go_sem,seval],by simp only[go_sem,seval],by simp only[go_sem,seval],rfl⟩
end
section
set_option maxRecDepth 100000 in
theorem WP (N:Nat) (s:List UInt8) (r:Option (Int×Int×Int×List (Int×Int)×Int×Int)) (h:Sq N s=some r):
  PCall Tryz.prog 69 [.v (.string (sB s))] (match r with|some (a,b,c,l,f,g)=> .tup [.agg [.i a,.i b,.i c,.sl 2 false (l.map Br) [.i 0,.i 0],.i f,.i g],.i 0]|none=> .tup [.agg [.i 0,.i 0,.i 0,.sl 2 false [] [.i 0,.i 0],.i 0,.i 0],.i 80]):=by
 refine Xh (Sp N) _ x69.hf x69.hc x69.hn (Nat.le_of_ble_eq_true rfl) fun hb=> ?_
 have hS:=Sp N
 have hOK:=Ctx.fd_ok (nt:=64) (hb:=hb) hS
 have F:=f0
 dsimp only[x69,mkX,CZ]
 unfold Sq at h
 refine go hS F ?_
 refine ZF hS 1 rfl rfl (by simp only[go_sem,seval]<;>eq_refl) yT (by simp only[go_sem,seval]<;>eq_refl) (by simp only[go_sem,seval]<;>eq_refl) ?_
 refine go hS F ?_
 refine E4 30 ?_
 replace h:=HH h
 obtain⟨a,p1,e0,k0,h⟩:=h
 refine go hS F ?_
 refine ct F ?_
 refine go hS F ?_
 rcases h with⟨he,rfl⟩|⟨rfl,h⟩
 ·replace F:=fc k0 (fc he F)
  refine NC (p:=fV) hOK F 2 ?_
  repeat' (with_reducible first|apply Ha|apply Hb|apply Hw|apply GF)
  exact FW N (by simp only[go_sem,seval]) (by simp only[go_sem,seval]) (by simp only[go_sem,seval]) (by simp only[go_sem,seval,okC])
 replace F:=fc k0 F
 replace h:=HH h
 obtain⟨b,p2,e1,k1,h⟩:=h
 refine go hS F ?_
 refine ct F ?_
 refine go hS F ?_
 rcases h with⟨he,rfl⟩|⟨rfl,h⟩
 ·replace F:=fc k1 (fc he F)
  refine NC (p:=fV) hOK F 2 ?_
  repeat' (with_reducible first|apply Ha|apply Hb|apply Hw|apply GF)
  exact FW N (by simp only[go_sem,seval]) (by simp only[go_sem,seval]) (by simp only[go_sem,seval]) (by simp only[go_sem,seval,okC])
 replace F:=fc k1 F
 replace h:=HH h
 obtain⟨c,p3,e2,k2,h⟩:=h
 refine go hS F ?_
 refine ct F ?_
 refine go hS F ?_
 rcases h with⟨he,rfl⟩|⟨rfl,h⟩
 ·replace F:=fc k2 (fc he F)
  refine NC (p:=fV) hOK F 2 ?_
  repeat' (with_reducible first|apply Ha|apply Hb|apply Hw|apply GF)
  exact FW N (by simp only[go_sem,seval]) (by simp only[go_sem,seval]) (by simp only[go_sem,seval]) (by simp only[go_sem,seval,okC])
 replace F:=fc k2 F
 replace h:=HH h
 obtain⟨f,p4,e3,k3,h⟩:=h
 refine go hS F ?_
 refine ct F ?_
 refine go hS F ?_
 rcases h with⟨he,rfl⟩|⟨rfl,h⟩
 ·replace F:=fc k3 (fc he F)
  refine NC (p:=fV) hOK F 2 ?_
  repeat' (with_reducible first|apply Ha|apply Hb|apply Hw|apply GF)
  exact FW N (by simp only[go_sem,seval]) (by simp only[go_sem,seval]) (by simp only[go_sem,seval]) (by simp only[go_sem,seval,okC])
 replace F:=fc k3 F
 replace h:=HH h
 obtain⟨g,p5,e4,k4,h⟩:=h
 refine go hS F ?_
 refine ct F ?_
 refine go hS F ?_
 rcases h with⟨he,rfl⟩|⟨rfl,h⟩
 ·replace F:=fc k4 (fc he F)
  refine NC (p:=fV) hOK F 2 ?_
  repeat' (with_reducible first|apply Ha|apply Hb|apply Hw|apply GF)
  exact FW N (by simp only[go_sem,seval]) (by simp only[go_sem,seval]) (by simp only[go_sem,seval]) (by simp only[go_sem,seval,okC])
 replace F:=fc k4 F
 replace h:=HH h
 obtain⟨n,p6,e5,k5,h⟩:=h
 refine go hS F ?_
 refine cf F ?_
 refine go hS F ?_
 rcases h with⟨he,rfl⟩|⟨rfl,h⟩
 ·replace F:=fc k5 (fc he F)
  refine NC (p:=fV) hOK F 1 ?_
  repeat' (with_reducible first|apply Ha|apply Hb|apply Hw|apply GF)
  exact FW N (by simp only[go_sem,seval]) (by simp only[go_sem,seval]) (by simp only[go_sem,seval]) (by simp only[go_sem,seval,okC])
 replace F:=fc k5 F
 refine go hS F ?_
 simp only at h
 cases hc:decide ((3:Int)≤n)&&decide (n≤(8:Int)) with
 |false=>
  rw[hc,cond_false] at h
  obtain rfl:=yJ h
  refine ct (fc hc F) ?_
  refine MX hOK 2 rfl rfl (by simp only[go_sem,seval]<;>eq_refl) (by simp only[go_sem,seval]) (by simp only[go_sem,seval]<;>eq_refl) ?_
  repeat' (with_reducible first|apply Ha|apply Hb|apply Hw|apply GF)
  exact FW N (by simp only[go_sem,seval]) (by simp only[go_sem,seval]) (by simp only[go_sem,seval]) (by simp only[go_sem,seval,okC])
 |true=>
 rw[hc,cond_true] at h
 have hn:3≤n∧n≤8:=by simpa using hc
 refine cf (fc hc F) ?_
 refine go hS F ?_
 refine RI (s':=⟨[(35,.i 0),(34,.i n),(4,.box (202,3) 0),(3,.box (1,1) 0),(2,.box (0,1) 0),(2000064,.gd false (.clo (.func 115) [] [.box (0,1) 0,.box (1,1) 0])),(0,.v (.string (sB s)))],
  [(.c (202,3) 1,.i p6),(.c (202,3) 0,.v (.string (sB s))),(.c (1,1) 0,.i 0),(.c (0,1) 0,.i a),(.c (0,1) 1,.i b),(.c (0,1) 2,.i c),(.c (0,1) 3,.sl 0 true [] []),(.c (0,1) 4,.i f),(.c (0,1) 5,.i g)],100⟩) (leF F) ?_
 refine DR 1 (0,1) 3 2 [.i 0,.i 0] (by omega) (by simp only[go_sem,seval]<;>eq_refl) ?_
 have key:∀(x:Nat×Nat×Int×List (Int×Int)×Nat),True:=fun _=>trivial
 refine G4 (fun x:Nat×Nat×Int×List (Int×Int)×Nat=>⟨[(35,.i x.2.1),(34,.i n),(4,.box (202,3) 0),(3,.box (1,1) 0),(2,.box (0,1) 0),(2000064,.gd false (.clo (.func 115) [] [.box (0,1) 0,.box (1,1) 0])),(0,.v (.string (sB s)))],
  [(.c (202,3) 1,.i x.2.2.1),(.c (202,3) 0,.v (.string (sB s))),(.c (1,1) 0,.i 0),(.c (0,1) 0,.i a),(.c (0,1) 1,.i b),(.c (0,1) 2,.i c),(.c (0,1) 3,.own (1,101) x.2.2.2.1.length),(.a (1,101),.sl 2 true (x.2.2.2.1.map Br) [.i 0,.i 0]),(.c (0,1) 4,.i f),(.c (0,1) 5,.i g)],x.2.2.2.2⟩)
  (fun x=>pb (dP N s x.1 x.2.2.1 x.2.2.2.1) (fun(l,p7)=>bif decide (p7<(s.length:Int)) then some none else(BA N a b c l f g).bind fun v=>some (bif v then some (a,b,c,l,f,g) else none))=some r∧x.2.1+x.1=n.toNat∧x.2.2.2.1.length=x.2.1) (fun x=>x.1) (n.toNat,0,p6,[],101) ⟨h,by simp,rfl⟩ ?_ ?_
 ·exact leF F
 ·rintro⟨k,j,p,ls,cc⟩ ⟨hd,hj,hls⟩
  simp only at hd hj hls
  refine go hS F ?_
  refine cb F (decide ((j:Int)<n)) (fun hc=> ?_) fun hc=> ?_
  ·have hc:=of_decide_eq_true hc
   obtain _|k:=k
   ·omega
   simp only[dP] at hd
   rw[Zs] at hd
   replace hd:=HH hd
   obtain⟨x,q,ex,m1,hd⟩:=hd
   refine go hS F ?_
   rcases hd with⟨he,rfl⟩|⟨rfl,hd⟩
   ·replace F:=fc m1 (fc he F)
    refine NC (p:=fV) hOK F 1 ?_
    repeat' (with_reducible first|apply Ha|apply Hb|apply Hw|apply GF)
    exact FW N (by simp only[go_sem,seval]) (by simp only[go_sem,seval]) (by simp only[go_sem,seval]) (by simp only[go_sem,seval,okC])
   simp only at hd
   rw[Zs] at hd
   replace hd:=HH hd
   obtain⟨y,w,ey,m2,hd⟩:=hd
   rcases hd with⟨he,rfl⟩|⟨rfl,hd⟩
   ·replace F:=fc m1 (fc m2 (fc he F))
    refine go hS F ?_
    refine nS (p:=fV) hOK F 4 (.i 0) ?_
    repeat' (with_reducible first|apply Ha|apply Hb|apply Hw|apply GF)
    exact FW N (by simp only[go_sem,seval]) (by simp only[go_sem,seval]) (by simp only[go_sem,seval]) (by simp only[go_sem,seval,okC])
   refine go hS (fc m1 (fc m2 F)) ?_
   refine GG (k,j+1,w,ls++[(x,y)],cc+100) ⟨hd,by simp only;omega,by simp[hls]⟩ (Nat.lt_succ_self _) (Le.of ?_ ?_ ?_)
   ·simp only[go_sem,seval,F]<;>simp
   ·simp only[go_sem,seval,F,List.map_append,List.map_cons,List.map_nil]
   ·simp
  ·have hc:=of_decide_eq_false hc
   have hk:k=0:=by omega
   subst hk
   simp only[dP,pb] at hd
   cases c9:decide (p<(s.length:Int)) with
   |true=>
    rw[c9,cond_true] at hd
    obtain rfl:=yJ hd
    refine go hS (fc c9 F) ?_
    refine ct (fc c9 F) ?_
    refine MX hOK 2 rfl rfl (by simp only[go_sem,seval]<;>eq_refl) (by simp only[go_sem,seval]) (by simp only[go_sem,seval]<;>eq_refl) ?_
    repeat' (with_reducible first|apply Ha|apply Hb|apply Hw|apply GF)
    exact FW N (by simp only[go_sem,seval]) (by simp only[go_sem,seval]) (by simp only[go_sem,seval]) (by simp only[go_sem,seval,okC])
   |false=>
   rw[c9,cond_false] at hd
   obtain⟨v,h9,hd⟩:=yB.1 hd
   replace F:=fc c9 (fc h9 F)
   refine go hS F ?_
   cases v with
   |false=>
    obtain rfl:=yJ hd
    refine ct F ?_
    refine MX hOK 2 rfl rfl (by simp only[go_sem,seval]<;>eq_refl) (by simp only[go_sem,seval]) (by simp only[go_sem,seval]<;>eq_refl) ?_
    repeat' (with_reducible first|apply Ha|apply Hb|apply Hw|apply GF)
    exact FW N (by simp only[go_sem,seval]) (by simp only[go_sem,seval]) (by simp only[go_sem,seval]) (by simp only[go_sem,seval,okC])
   |true=>
   obtain rfl:=yJ hd
   refine cf F ?_
   refine go hS F ?_
   refine .inr ⟨_,_,(by simp only[go_sem,seval]<;>eq_refl), ?_⟩
   refine⟨_,_,_,_,_,Tryz.func115,x115.hc,x115.hn,Nat.le_of_ble_eq_true rfl,x115.ok,fun aa=> ?_⟩
   dsimp only[x115,mkX,CZ]
   have ae:=Ctx.fd_ok (nt:=12) (hb:=aa) hS
   refine go hS F ?_
   refine ct F ?_
   refine go hS F ?_
   try dsimp only[x69,mkX]
   refine Vj ⟨by simp only[go_sem,seval],_,_,(by simp only[go_sem,seval]<;>eq_refl),by simp only[go_sem,seval],by simp only[go_sem,seval], ?_,rfl⟩
   simp only[go_sem,seval]
end
end Go.Proofs.YtciphecegkfaiaaGreat.Am
namespace Go.Proofs.YtciphecegkfaiaaGreat.Am
open Go
attribute [local irreducible] awp B5 BR Bx B3 Bw Bn BS B1 itK
set_option maxRecDepth 100000
set_option maxHeartbeats 8000000
set_option linter.unusedSimpArgs false
set_option linter.unusedVariables false
def DS (N:Nat) (a b c:Int) (l:List (Int×Int)) (p q:Int):Option (List UInt8×Int):=
 (BA N a b c l p q).bind fun v=>
 gd (l.length≤1000000)<|
 some (bif v then Ip a b c l p q else[],bif v then 0 else 80)
theorem NY (N:Nat) (a b c:Int) (l:List (Int×Int)) (p q:Int) (r:List UInt8×Int) (h:DS N a b c l p q=some r):
  PCall Tryz.prog 95 [.agg [.i a,.i b,.i c,.sl 2 false (l.map Br) [.i 0,.i 0],.i p,.i q]] (.tup [.v (.string (sB r.1)),.i r.2]):=by
 unfold DS at h
 obtain⟨v,h1,h2⟩:=yB.1 h
 simp only[HR] at h2
 obtain⟨h3,h2⟩:=h2
 cases h2
 exact WO N a b c l p q v h1 h3
def s95 (N:Nat):Spec
 |[.agg [.v (.int .i64 a),.v (.int .i64 b),.v (.int .i64 c),.sl yl _ l _,.v (.int .i64 p),.v (.int .i64 q)]]=>some (((yl=2∨l=[])∧l=(l.map KV).map Br)∧(DS N a b c (l.map KV) p q).isSome=true,.tup [.v (.string (sB ((DS N a b c (l.map KV) p q).getD ([],0)).1)),.i ((DS N a b c (l.map KV) p q).getD ([],0)).2])
 |_=>none
theorem mY (N:Nat):FOK Tryz.prog 95 (s95 N):=⟨x95.ok,by
 intro args vc r h hv
 unfold s95 at h
 split at h
 ·cases h
  obtain⟨⟨af,ah⟩,hs⟩:=hv
  obtain⟨r,hr⟩:=yX hs
  have hk:=NY N _ _ _ _ _ _ r hr
  simp only[hr,Option.getD_some]
  refine PCall.arg ?_ hk
  simp only[wkL,wk,and_true,true_and,yF,false_implies,implies_true]
  repeat' (first|exact yT|assumption|apply And.intro)
 ·simp at h⟩
def CK (N:Nat) (s:List UInt8):Option ((Int×Int×Int×List (Int×Int)×Int×Int)×Int):=(Sq N s).map fun r=>match r with|some x=>(x,0)|none=>((0,0,0,[],0,0),80)
theorem NZ (N:Nat) (s:List UInt8) (r:(Int×Int×Int×List (Int×Int)×Int×Int)×Int) (h:CK N s=some r):
  PCall Tryz.prog 69 [.v (.string (sB s))] (.tup [.agg [.i r.1.1,.i r.1.2.1,.i r.1.2.2.1,.sl 2 false (r.1.2.2.2.1.map Br) [.i 0,.i 0],.i r.1.2.2.2.2.1,.i r.1.2.2.2.2.2],.i r.2]):=by
 unfold CK at h
 obtain⟨x,h1,h2⟩:=Option.map_eq_some_iff.1 h
 have:=WP N s x h1
 subst h2
 rcases x with _|⟨a,b,c,l,f,g⟩<;>exact this
def s69 (N:Nat):Spec
 |[.v (.string s)]=>some ((CK N (bL s)).isSome=true,.tup [.agg [.i ((CK N (bL s)).getD ((0,0,0,[],0,0),0)).1.1,.i ((CK N (bL s)).getD ((0,0,0,[],0,0),0)).1.2.1,.i ((CK N (bL s)).getD ((0,0,0,[],0,0),0)).1.2.2.1,.sl 2 false (((CK N (bL s)).getD ((0,0,0,[],0,0),0)).1.2.2.2.1.map Br) [.i 0,.i 0],.i ((CK N (bL s)).getD ((0,0,0,[],0,0),0)).1.2.2.2.2.1,.i ((CK N (bL s)).getD ((0,0,0,[],0,0),0)).1.2.2.2.2.2],.i ((CK N (bL s)).getD ((0,0,0,[],0,0),0)).2])
 |_=>none
theorem mZ (N:Nat):FOK Tryz.prog 69 (s69 N):=⟨x69.ok,by
 intro args vc r h hv
 unfold s69 at h
 split at h
 ·cases h
  obtain⟨r,hr⟩:=yX hv
  have hk:=NZ N _ r hr
  simp only[hr,Option.getD_some]
  rw[Kq] at hk
  exact hk
 ·simp at h⟩
attribute [go_sem] s95 s69
end Go.Proofs.YtciphecegkfaiaaGreat.Am
