import Derived.Test.YtdabfcbelkjmgaaGreatDoorA16
import Derived.Test.YtdabfcbelkjmgaaGreatDoorAc3
import Derived.Test.YtdabfcbelkjmgaaGreatDoorE1
namespace Go.Proofs.YtdabfcbelkjmgaaGreatDoor.Am
open Go
attribute [local irreducible] awp Ed Df Dr Ee Bz B8 Dg DM itK
set_option maxRecDepth 100000
set_option maxHeartbeats 8000000
set_option linter.unusedSimpArgs false
set_option linter.unusedVariables false
def DQ (z:Int):Int:=IntKind.wrap .u8 (Be .and .u64 z 127)
def Bi:Nat→Int→List (Int×Bool)
 |0,_=>[]
 |f+1,z=>if z<128 then[(DQ z,true)] else(DQ z,false)::Bi f (Cn .shr .u64 z 7)
def grA (e:Int×Bool):List AV:=[.v (.int .u8 e.1),.v (.bool e.2)]
theorem NG (z:Int):Cn .shr .u64 z 7=z/128:=by
 show z.fdiv (2^min (7:Int).toNat 64)=z/128
 rw[show(2:Int)^min (7:Int).toNat 64=128 by decide]
 exact Int.fdiv_eq_ediv_of_nonneg z (by decide)
theorem GM {f:Nat} {z:Int} (h:z<128):Bi (f+1) z=[(DQ z,true)]:=if_pos h
theorem GN {f:Nat} {z:Int} (h:¬z<128):Bi (f+1) z=(DQ z,false)::Bi f (Cn .shr .u64 z 7):=if_neg h
theorem Hg:∀(f:Nat) (z:Int),(Bi f z).length≤f
 |0,z=>by simp[Bi]
 |f+1,z=>by
  have:=Hg f (Cn .shr .u64 z 7)
  unfold Bi
  split
  ·simp
  ·simp only[List.length_cons];omega
theorem Ml (z0:Int) (m:Nm) (hz0:0≤z0∧z0<128^10):ItB Tryz.prog 99 [] [.box m 0] m [.v (.int .u64 z0)] ((Bi 10 z0).map grA):=by
 refine Oa (BW (P:=Tryz.prog)) _ Tryz.func99 qG qH (by simp[gs]) (by simp) fun l Γ hOK hTS hY=> ?_
 have hS:=BW (P:=Tryz.prog)
 unfold dS
 repeat' (first
  |((with_reducible first|apply Ak|apply AF|apply Ay|apply AO|apply Al|apply An);(·(first|exact Ctx.fn_ok hS|exact Ctx.rd_ok hS|assumption|exact yT));iterate 2 (·(simp only[go_sem,seval,hTS]<;>eq_refl)))
  |(with_reducible first|apply Ah|apply Ap|apply Ae|apply Af|apply Ac|apply Ab|apply Ad|apply Aq|apply Ar|apply As|apply Au|apply Av|apply Aw)
  |(with_reducible apply Ax;(·first|rfl|decide))
  |(with_reducible first|apply Ai|apply Aj|apply AA|apply AB|apply AD|apply yT|apply And.intro yT yT)
  |(fail_if_success with_reducible apply AZ);(fail_if_success with_reducible apply Az);first|omega|(simp only[go_sem,seval,hTS];done)
  |fail)
 refine Ez (fun x:Nat×Int×Nat×Nat=>⟨[(1,.box m 0),(gs,AY x.2.2.1),(0,.clo (.yield l) [] [])],[(.c m 0,.v (.int .u64 x.2.1))],x.2.2.2⟩)
  (fun x=>(0<x.1∧0≤x.2.1∧x.2.1<128^x.1)∧((Bi 10 z0).drop x.2.2.1=Bi x.1 x.2.1∧x.2.2.1≤(Bi 10 z0).length)) (fun x=>x.1) (10,z0,0,m.2) ?_ ?_ ?_
 ·exact⟨⟨Nat.zero_lt_succ _,hz0⟩,rfl,Nat.zero_le _⟩
 ·refine Le.of ?_ ?_ (by simp)<;>(simp only[go_sem,seval];try simp)
 ·rintro⟨f,z,k,c⟩ ⟨⟨hf,hz1,hz2⟩,hk,hkl⟩
  simp only at hf hz1 hz2 hk hkl
  obtain _|f:=f
  ·exact absurd hf (Nat.lt_irrefl _)
  have hkl':k<(Bi 10 z0).length:=by
   have:=congrArg List.length hk
   rw[List.length_drop] at this
   by_cases hz:z<128
   ·rw[GM hz,List.length_cons] at this;omega
   ·rw[GN hz,List.length_cons] at this;omega
  by_cases hz:z<128
  ·have hk':(Bi 10 z0).drop k=[(DQ z,true)]:=by rw[hk,GM hz]
   have hk1:k+1=(Bi 10 z0).length:=by
    have:=congrArg List.length hk'
    simp only[List.length_drop,List.length_cons,List.length_nil] at this
    omega
   have hxs:((Bi 10 z0).map grA)[k]? =some [.v (.int .u8 (DQ z)),.v (.bool true)]:=by
    have:(Bi 10 z0)[k]? =((Bi 10 z0).drop k)[0]? :=by simp
    rw[List.getElem?_map,this,hk'];rfl
   repeat' (first
  |((with_reducible first|apply Ak|apply AF|apply Ay|apply AO|apply Al|apply An);(·(first|exact Ctx.fn_ok hS|exact Ctx.rd_ok hS|assumption|exact yT));iterate 2 (·(simp only[go_sem,seval,hTS,hz]<;>eq_refl)))
  |(with_reducible first|apply Ah|apply Ap|apply Ae|apply Af|apply Ac|apply Ab|apply Ad|apply Aq|apply Ar|apply As|apply Au|apply Av|apply Aw)
  |(with_reducible apply Ax;(·first|rfl|decide))
  |(with_reducible first|apply Ai|apply Aj|apply AA|apply AB|apply AD|apply yT|apply And.intro yT yT)
  |(fail_if_success with_reducible apply AZ);(fail_if_success with_reducible apply Az);first|omega|(simp only[go_sem,seval,hTS,hz];done)
  |fail)
   refine hY 5 (args:=[.v (.int .u8 (DQ z)),.v (.bool true)]) rfl (by simp only[go_sem,seval,hTS,hz]<;>eq_refl) (by simp only[go_sem,seval,hTS,hz]<;>eq_refl) (by decide) (by simp only[go_sem,seval]<;>eq_refl) (by simp only[go_sem,seval]<;>eq_refl) (by simp only[go_sem,seval]<;>eq_refl) (by simp only[go_sem,seval,Am.DQ]<;>eq_refl) hxs (by simp only[go_sem,seval,hTS]<;>eq_refl) ?_ ?_ (by simp only[go_sem,seval,hTS]<;>eq_refl) ?_ ?_
   ·simp only[go_sem,seval]
   ·repeat' (first
  |((with_reducible first|apply Ak|apply AF|apply Ay|apply AO|apply Al|apply An);(·(first|exact Ctx.fn_ok hS|exact Ctx.rd_ok hS|assumption|exact yT));iterate 2 (·(simp only[go_sem,seval,hTS]<;>eq_refl)))
  |(with_reducible first|apply Ah|apply Ap|apply Ae|apply Af|apply Ac|apply Ab|apply Ad|apply Aq|apply Ar|apply As|apply Au|apply Av|apply Aw)
  |(with_reducible apply Ax;(·first|rfl|decide))
  |(with_reducible first|apply Ai|apply Aj|apply AA|apply AB|apply AD|apply yT|apply And.intro yT yT)
  |(fail_if_success with_reducible apply AZ);(fail_if_success with_reducible apply Az);first|omega|(simp only[go_sem,seval,hTS];done)
  |fail)
    refine D9 (by simp only[go_sem,seval]<;>eq_refl) ?_
    repeat' (first
  |((with_reducible first|apply Ak|apply AF|apply Ay|apply AO|apply Al|apply An);(·(first|exact Ctx.fn_ok hS|exact Ctx.rd_ok hS|assumption|exact yT));iterate 2 (·(simp only[go_sem,seval,hTS]<;>eq_refl)))
  |(with_reducible first|apply Ah|apply Ap|apply Ae|apply Af|apply Ac|apply Ab|apply Ad|apply Aq|apply Ar|apply As|apply Au|apply Av|apply Aw)
  |(with_reducible apply Ax;(·first|rfl|decide))
  |(with_reducible first|apply Ai|apply Aj|apply AA|apply AB|apply AD|apply yT|apply And.intro yT yT)
  |(fail_if_success with_reducible apply AZ);(fail_if_success with_reducible apply Az);first|omega|(simp only[go_sem,seval,hTS];done)
  |fail)
    refine Qo ?_
    simp only[go_sem,seval,List.length_map]
    rw[←hk1];rfl
   ·simp only[go_sem,seval]
   ·repeat' (first
  |((with_reducible first|apply Ak|apply AF|apply Ay|apply AO|apply Al|apply An);(·(first|exact Ctx.fn_ok hS|exact Ctx.rd_ok hS|assumption|exact yT));iterate 2 (·(simp only[go_sem,seval,hTS]<;>eq_refl)))
  |(with_reducible first|apply Ah|apply Ap|apply Ae|apply Af|apply Ac|apply Ab|apply Ad|apply Aq|apply Ar|apply As|apply Au|apply Av|apply Aw)
  |(with_reducible apply Ax;(·first|rfl|decide))
  |(with_reducible first|apply Ai|apply Aj|apply AA|apply AB|apply AD|apply yT|apply And.intro yT yT)
  |(fail_if_success with_reducible apply AZ);(fail_if_success with_reducible apply Az);first|omega|(simp only[go_sem,seval,hTS];done)
  |fail)
    refine D9 (by simp only[go_sem,seval]<;>eq_refl) ?_
    repeat' (first
  |((with_reducible first|apply Ak|apply AF|apply Ay|apply AO|apply Al|apply An);(·(first|exact Ctx.fn_ok hS|exact Ctx.rd_ok hS|assumption|exact yT));iterate 2 (·(simp only[go_sem,seval,hTS]<;>eq_refl)))
  |(with_reducible first|apply Ah|apply Ap|apply Ae|apply Af|apply Ac|apply Ab|apply Ad|apply Aq|apply Ar|apply As|apply Au|apply Av|apply Aw)
  |(with_reducible apply Ax;(·first|rfl|decide))
  |(with_reducible first|apply Ai|apply Aj|apply AA|apply AB|apply AD|apply yT|apply And.intro yT yT)
  |(fail_if_success with_reducible apply AZ);(fail_if_success with_reducible apply Az);first|omega|(simp only[go_sem,seval,hTS];done)
  |fail)
    refine JE ?_
    simp only[go_sem,seval]
  ·have hk':(Bi 10 z0).drop k=(DQ z,false)::Bi f (Cn .shr .u64 z 7):=by rw[hk,GN hz]
   have hxs:((Bi 10 z0).map grA)[k]? =some [.v (.int .u8 (DQ z)),.v (.bool false)]:=by
    have:(Bi 10 z0)[k]? =((Bi 10 z0).drop k)[0]? :=by simp
    rw[List.getElem?_map,this,hk'];rfl
   repeat' (first
  |((with_reducible first|apply Ak|apply AF|apply Ay|apply AO|apply Al|apply An);(·(first|exact Ctx.fn_ok hS|exact Ctx.rd_ok hS|assumption|exact yT));iterate 2 (·(simp only[go_sem,seval,hTS,hz]<;>eq_refl)))
  |(with_reducible first|apply Ah|apply Ap|apply Ae|apply Af|apply Ac|apply Ab|apply Ad|apply Aq|apply Ar|apply As|apply Au|apply Av|apply Aw)
  |(with_reducible apply Ax;(·first|rfl|decide))
  |(with_reducible first|apply Ai|apply Aj|apply AA|apply AB|apply AD|apply yT|apply And.intro yT yT)
  |(fail_if_success with_reducible apply AZ);(fail_if_success with_reducible apply Az);first|omega|(simp only[go_sem,seval,hTS,hz];done)
  |fail)
   refine hY 5 (args:=[.v (.int .u8 (DQ z)),.v (.bool false)]) rfl (by simp only[go_sem,seval,hTS,hz]<;>eq_refl) (by simp only[go_sem,seval,hTS,hz]<;>eq_refl) (by decide) (by simp only[go_sem,seval]<;>eq_refl) (by simp only[go_sem,seval]<;>eq_refl) (by simp only[go_sem,seval]<;>eq_refl) (by simp only[go_sem,seval,Am.DQ]<;>eq_refl) hxs (by simp only[go_sem,seval,hTS]<;>eq_refl) ?_ ?_ (by simp only[go_sem,seval,hTS]<;>eq_refl) ?_ ?_
   ·simp only[go_sem,seval]
   ·repeat' (first
  |((with_reducible first|apply Ak|apply AF|apply Ay|apply AO|apply Al|apply An);(·(first|exact Ctx.fn_ok hS|exact Ctx.rd_ok hS|assumption|exact yT));iterate 2 (·(simp only[go_sem,seval,hTS]<;>eq_refl)))
  |(with_reducible first|apply Ah|apply Ap|apply Ae|apply Af|apply Ac|apply Ab|apply Ad|apply Aq|apply Ar|apply As|apply Au|apply Av|apply Aw)
  |(with_reducible apply Ax;(·first|rfl|decide))
  |(with_reducible first|apply Ai|apply Aj|apply AA|apply AB|apply AD|apply yT|apply And.intro yT yT)
  |(fail_if_success with_reducible apply AZ);(fail_if_success with_reducible apply Az);first|omega|(simp only[go_sem,seval,hTS];done)
  |fail)
    refine Fc (by simp only[go_sem,seval]<;>eq_refl) ?_
    repeat' (first
  |((with_reducible first|apply Ak|apply AF|apply Ay|apply AO|apply Al|apply An);(·(first|exact Ctx.fn_ok hS|exact Ctx.rd_ok hS|assumption|exact yT));iterate 2 (·(simp only[go_sem,seval,hTS]<;>eq_refl)))
  |(with_reducible first|apply Ah|apply Ap|apply Ae|apply Af|apply Ac|apply Ab|apply Ad|apply Aq|apply Ar|apply As|apply Au|apply Av|apply Aw)
  |(with_reducible apply Ax;(·first|rfl|decide))
  |(with_reducible first|apply Ai|apply Aj|apply AA|apply AB|apply AD|apply yT|apply And.intro yT yT)
  |(fail_if_success with_reducible apply AZ);(fail_if_success with_reducible apply Az);first|omega|(simp only[go_sem,seval,hTS];done)
  |fail)
    have hf0:0<f:=by
     rcases Nat.eq_zero_or_pos f with rfl|h
     ·exact absurd hz2 (by simp only[Nat.zero_add,Int.pow_one] at hz2⊢;omega)
     ·exact h
    refine Fb (f,Cn .shr .u64 z 7,k+1,c+50) ⟨⟨hf0, ?_, ?_⟩, ?_,by show k+1≤_;omega⟩ (Nat.lt_succ_self _) (Le.of ?_ ?_ ?_)
    ·show 0≤Cn .shr .u64 z 7
     rw[NG];omega
    ·show Cn .shr .u64 z 7<128^f
     rw[NG]
     rw[Int.pow_succ] at hz2
     omega
    ·show(Bi 10 z0).drop (k+1)=_
     have:(Bi 10 z0).drop (k+1)=((Bi 10 z0).drop k).drop 1:=by simp
     rw[this,hk'];rfl
    ·simp only[go_sem,seval]<;>simp
    ·simp only[go_sem,seval]
    ·simp
   ·simp only[go_sem,seval]
   ·repeat' (first
  |((with_reducible first|apply Ak|apply AF|apply Ay|apply AO|apply Al|apply An);(·(first|exact Ctx.fn_ok hS|exact Ctx.rd_ok hS|assumption|exact yT));iterate 2 (·(simp only[go_sem,seval,hTS]<;>eq_refl)))
  |(with_reducible first|apply Ah|apply Ap|apply Ae|apply Af|apply Ac|apply Ab|apply Ad|apply Aq|apply Ar|apply As|apply Au|apply Av|apply Aw)
  |(with_reducible apply Ax;(·first|rfl|decide))
  |(with_reducible first|apply Ai|apply Aj|apply AA|apply AB|apply AD|apply yT|apply And.intro yT yT)
  |(fail_if_success with_reducible apply AZ);(fail_if_success with_reducible apply Az);first|omega|(simp only[go_sem,seval,hTS];done)
  |fail)
    refine D9 (by simp only[go_sem,seval]<;>eq_refl) ?_
    repeat' (first
  |((with_reducible first|apply Ak|apply AF|apply Ay|apply AO|apply Al|apply An);(·(first|exact Ctx.fn_ok hS|exact Ctx.rd_ok hS|assumption|exact yT));iterate 2 (·(simp only[go_sem,seval,hTS]<;>eq_refl)))
  |(with_reducible first|apply Ah|apply Ap|apply Ae|apply Af|apply Ac|apply Ab|apply Ad|apply Aq|apply Ar|apply As|apply Au|apply Av|apply Aw)
  |(with_reducible apply Ax;(·first|rfl|decide))
  |(with_reducible first|apply Ai|apply Aj|apply AA|apply AB|apply AD|apply yT|apply And.intro yT yT)
  |(fail_if_success with_reducible apply AZ);(fail_if_success with_reducible apply Az);first|omega|(simp only[go_sem,seval,hTS];done)
  |fail)
    refine JE ?_
    simp only[go_sem,seval]
def zz (n:Int):Int:=Be .xor .u64 (Cn .shl .u64 (IntKind.wrap .u64 n) 1) (IntKind.wrap .u64 (Cn .shr .i64 n 63))
def grO (e:Int×Bool):Int:=if e.2=true then e.1 else Be .or .u8 e.1 128
def Ir (n:Int):List Int:=(Bi 10 (zz n)).map grO
def toB (l:List Int):List UInt8:=l.map fun x=>UInt8.ofNat x.toNat
def CZ (n:Int):List UInt8:=bif decide (n< -4611686018427387903)||decide (4611686018427387903<n) then[] else toB (Ir n)
def eB (x:Int):List AV:=[.v (.int .u8 x)]
theorem Mm (l:List Int):(l.map eB).all isB=true:=by induction l with|nil=>rfl|cons x l ih=>simp[eB,isB]
theorem KP (l:List Int):(l.map eB).map H8=toB l:=by induction l with|nil=>rfl|cons x l ih=>rw[List.map_cons,List.map_cons,ih];rfl
theorem NH (n:Int):0≤IntKind.wrap .u64 n∧IntKind.wrap .u64 n<128^10:=by
 have h:IntKind.wrap .u64 n=n%2^64:=by simp[IntKind.wrap,IntKind.bits,IntKind.signed]
 rw[h]
 have:(2:Int)^64=18446744073709551616:=by decide
 rw[this,show(128:Int)^10=1180591620717411303424 by decide]
 omega
theorem QE (n:Int):0≤zz n∧zz n<128^10:=NH _
theorem Mn (n:Int):PCall Tryz.prog 78 [.i n] (.tup [.v (.string (sB (CZ n))),.i (bif decide (n< -4611686018427387903)||decide (4611686018427387903<n) then 10 else 0)]):=by
 refine Jw (BW (P:=Tryz.prog)) _ Tryz.func78 pT pU (by simp) fun _=> ?_
 have hS:=BW (P:=Tryz.prog)
 unfold dI dJ
 repeat' (first
  |((with_reducible first|apply Ak|apply AF|apply Ay|apply AO|apply Al|apply An);(·(first|exact Ctx.fn_ok hS|exact Ctx.rd_ok hS|assumption|exact yT));iterate 2 (·(simp only[go_sem,seval]<;>eq_refl)))
  |(with_reducible first|apply Ah|apply Ap|apply Ae|apply Af|apply Ac|apply Ab|apply Ad|apply Aq|apply Ar|apply As|apply Au|apply Av|apply Aw)
  |(with_reducible apply Ax;(·first|rfl|decide))
  |(with_reducible first|apply Ai|apply Aj|apply AA|apply AB|apply AD|apply yT|apply And.intro yT yT)
  |(fail_if_success with_reducible apply AZ);(fail_if_success with_reducible apply Az);first|omega|(simp only[go_sem,seval];done)
  |fail)
 refine Qk (b:=decide (n< -4611686018427387903)||decide (4611686018427387903<n)) (by simp only[go_sem,seval]<;>eq_refl) (fun hb=> ?_) fun hb=> ?_
 ·repeat' (first
  |((with_reducible first|apply Ak|apply AF|apply Ay|apply AO|apply Al|apply An);(·(first|exact Ctx.fn_ok hS|exact Ctx.rd_ok hS|assumption|exact yT));iterate 2 (·(simp only[go_sem,seval]<;>eq_refl)))
  |(with_reducible first|apply Ah|apply Ap|apply Ae|apply Af|apply Ac|apply Ab|apply Ad|apply Aq|apply Ar|apply As|apply Au|apply Av|apply Aw)
  |(with_reducible apply Ax;(·first|rfl|decide))
  |(with_reducible first|apply Ai|apply Aj|apply AA|apply AB|apply AD|apply yT|apply And.intro yT yT)
  |(fail_if_success with_reducible apply AZ);(fail_if_success with_reducible apply Az);first|omega|(simp only[go_sem,seval];done)
  |fail)
  first|refine Fd (by simp only[go_sem,seval]<;>eq_refl) (by simp only[go_sem,seval]) (by simp only[go_sem,seval]) ?_ rfl|refine Fe (by simp only[go_sem,seval]<;>eq_refl) (by simp only[go_sem,seval]) (by simp only[go_sem,seval]) ?_ rfl
  simp only[CZ,hb,go_sem,seval]
 ·repeat' (first
  |((with_reducible first|apply Ak|apply AF|apply Ay|apply AO|apply Al|apply An);(·(first|exact Ctx.fn_ok hS|exact Ctx.rd_ok hS|assumption|exact yT));iterate 2 (·(simp only[go_sem,seval]<;>eq_refl)))
  |(with_reducible first|apply Ah|apply Ap|apply Ae|apply Af|apply Ac|apply Ab|apply Ad|apply Aq|apply Ar|apply As|apply Au|apply Av|apply Aw)
  |(with_reducible apply Ax;(·first|rfl|decide))
  |(with_reducible first|apply Ai|apply Aj|apply AA|apply AB|apply AD|apply yT|apply And.intro yT yT)
  |(fail_if_success with_reducible apply AZ);(fail_if_success with_reducible apply Az);first|omega|(simp only[go_sem,seval];done)
  |fail)
  refine Np hS 7 Tryz.func92 qC qD qE rfl (by simp only[go_sem,seval]<;>eq_refl) (by simp only[go_sem,seval]<;>eq_refl) ?_ rfl (by simp only[go_sem,seval]<;>eq_refl) (by simp) fun _=> ?_
  ·exact yT
  unfold dQ dR
  repeat' (first
  |((with_reducible first|apply Ak|apply AF|apply Ay|apply AO|apply Al|apply An);(·(first|exact Ctx.fn_ok hS|exact Ctx.rd_ok hS|assumption|exact yT));iterate 2 (·(simp only[go_sem,seval]<;>eq_refl)))
  |(with_reducible first|apply Ah|apply Ap|apply Ae|apply Af|apply Ac|apply Ab|apply Ad|apply Aq|apply Ar|apply As|apply Au|apply Av|apply Aw)
  |(with_reducible apply Ax;(·first|rfl|decide))
  |(with_reducible first|apply Ai|apply Aj|apply AA|apply AB|apply AD|apply yT|apply And.intro yT yT)
  |(fail_if_success with_reducible apply AZ);(fail_if_success with_reducible apply Az);first|omega|(simp only[go_sem,seval];done)
  |fail)
  refine E4 1 (300,3) 0 1 [.v (.int .u8 0)] (by omega) (by simp only[go_sem,seval]<;>eq_refl) ?_
  have hlen:=Hg 10 (zz n)
  refine Lz (0,5) [.v (.int .u64 (zz n))] (fun x:Nat×List Int×Nat=>([(.c (300,3) 0,.own (1,8) x.2.1.length),(.a (1,8),.sl 1 true (x.2.1.map eB) [.v (.int .u8 0)])],x.2.2))
   (fun x=>x.2.1=((Bi 10 (zz n)).take x.1).map grO∧x.1≤(Bi 10 (zz n)).length) (fun x=>x.1) (0,[],8) (by simp only[go_sem,seval]<;>eq_refl) (Ml (zz n) (0,5) (QE n)) qI ⟨rfl,rfl,rfl⟩ ⟨rfl,rfl,rfl⟩ (fun j=>by simp[hl]) (by simp) (by intro a ha;obtain⟨y,_,rfl⟩:=List.mem_map.1 ha;exact⟨rfl,rfl⟩) ⟨rfl,Nat.zero_le _⟩ rfl ?_ ?_ ?_
  ·exact leF f0
  ·rintro l ⟨k,out,c⟩ ⟨hout,hk⟩ args ha
   simp only at hout hk
   obtain⟨⟨g,last⟩,hy,rfl,hlt⟩:=OY ha
   have hout2:out++[grO (g,last)]=((Bi 10 (zz n)).take (k+1)).map grO:=by
    have:(Bi 10 (zz n))[k]? =some (g,last):=by
     have:(Bi 10 (zz n))[k]? =((Bi 10 (zz n)).drop k)[0]? :=by simp
     rw[this,hy];rfl
    rw[List.take_add_one,this,List.map_append,hout];rfl
   have hol:out.length=k:=by rw[hout];simp;omega
   clear ha hy
   simp only[grA,Dt]
   have hOK:=Ctx.rdG_ok (nt:=33) (l:=l) hS
   cases last with
   |true=>
    repeat' (first
  |((with_reducible first|apply Ak|apply AF|apply Ay|apply AO|apply Al|apply An);(·(first|exact Ctx.fn_ok hS|exact Ctx.rd_ok hS|assumption|exact yT));iterate 2 (·(simp only[go_sem,seval]<;>eq_refl)))
  |(with_reducible first|apply Ah|apply Ap|apply Ae|apply Af|apply Ac|apply Ab|apply Ad|apply Aq|apply Ar|apply As|apply Au|apply Av|apply Aw)
  |(with_reducible apply Ax;(·first|rfl|decide))
  |(with_reducible first|apply Ai|apply Aj|apply AA|apply AB|apply AD|apply yT|apply And.intro yT yT)
  |(fail_if_success with_reducible apply AZ);(fail_if_success with_reducible apply Az);first|omega|(simp only[go_sem,seval];done)
  |fail)
    refine Fc (by simp only[go_sem,seval]<;>eq_refl) ?_
    repeat' (first
  |((with_reducible first|apply Ak|apply AF|apply Ay|apply AO|apply Al|apply An);(·(first|exact Ctx.fn_ok hS|exact Ctx.rd_ok hS|assumption|exact yT));iterate 2 (·(simp only[go_sem,seval]<;>eq_refl)))
  |(with_reducible first|apply Ah|apply Ap|apply Ae|apply Af|apply Ac|apply Ab|apply Ad|apply Aq|apply Ar|apply As|apply Au|apply Av|apply Aw)
  |(with_reducible apply Ax;(·first|rfl|decide))
  |(with_reducible first|apply Ai|apply Aj|apply AA|apply AB|apply AD|apply yT|apply And.intro yT yT)
  |(fail_if_success with_reducible apply AZ);(fail_if_success with_reducible apply Az);first|omega|(simp only[go_sem,seval];done)
  |fail)
    refine L0 (k+1,out++[g],c+50) ⟨by rw[←hout2];rfl,hlt⟩ rfl ?_
    refine Le.of ?_ ?_ (by first|exact Nat.le_refl _|(simp;omega)|simp)<;>first|(simp only[go_sem,seval,eB];done)|(simp only[go_sem,seval,eB,List.map_append,List.map_cons,List.map_nil,List.map_set,List.map_take,List.map_drop];done)|(simp[eB,List.map_append,List.map_set];done)
   |false=>
    repeat' (first
  |((with_reducible first|apply Ak|apply AF|apply Ay|apply AO|apply Al|apply An);(·(first|exact Ctx.fn_ok hS|exact Ctx.rd_ok hS|assumption|exact yT));iterate 2 (·(simp only[go_sem,seval]<;>eq_refl)))
  |(with_reducible first|apply Ah|apply Ap|apply Ae|apply Af|apply Ac|apply Ab|apply Ad|apply Aq|apply Ar|apply As|apply Au|apply Av|apply Aw)
  |(with_reducible apply Ax;(·first|rfl|decide))
  |(with_reducible first|apply Ai|apply Aj|apply AA|apply AB|apply AD|apply yT|apply And.intro yT yT)
  |(fail_if_success with_reducible apply AZ);(fail_if_success with_reducible apply Az);first|omega|(simp only[go_sem,seval];done)
  |fail)
    refine D9 (by simp only[go_sem,seval]<;>eq_refl) ?_
    repeat' (first
  |((with_reducible first|apply Ak|apply AF|apply Ay|apply AO|apply Al|apply An);(·(first|exact Ctx.fn_ok hS|exact Ctx.rd_ok hS|assumption|exact yT));iterate 2 (·(simp only[go_sem,seval]<;>eq_refl)))
  |(with_reducible first|apply Ah|apply Ap|apply Ae|apply Af|apply Ac|apply Ab|apply Ad|apply Aq|apply Ar|apply As|apply Au|apply Av|apply Aw)
  |(with_reducible apply Ax;(·first|rfl|decide))
  |(with_reducible first|apply Ai|apply Aj|apply AA|apply AB|apply AD|apply yT|apply And.intro yT yT)
  |(fail_if_success with_reducible apply AZ);(fail_if_success with_reducible apply Az);first|omega|(simp only[go_sem,seval];done)
  |fail)
    refine L0 (k+1,out++[Be .or .u8 g 128],c+50) ⟨by rw[←hout2];rfl,hlt⟩ rfl ?_
    refine Le.of ?_ ?_ (by first|exact Nat.le_refl _|(simp;omega)|simp)<;>first|(simp only[go_sem,seval,eB];done)|(simp only[go_sem,seval,eB,List.map_append,List.map_cons,List.map_nil,List.map_set,List.map_take,List.map_drop];done)|(simp[eB,List.map_append,List.map_set];done)
  ·rintro⟨k,out,c⟩ ⟨hout,hk⟩ hk2
   simp only at hout hk
   repeat' (first
  |((with_reducible first|apply Ak|apply AF|apply Ay|apply AO|apply Al|apply An);(·(first|exact Ctx.fn_ok hS|exact Ctx.rd_ok hS|assumption|exact yT));iterate 2 (·(simp only[go_sem,seval,Mm,KP]<;>eq_refl)))
  |(with_reducible first|apply Ah|apply Ap|apply Ae|apply Af|apply Ac|apply Ab|apply Ad|apply Aq|apply Ar|apply As|apply Au|apply Av|apply Aw)
  |(with_reducible apply Ax;(·first|rfl|decide))
  |(with_reducible first|apply Ai|apply Aj|apply AA|apply AB|apply AD|apply yT|apply And.intro yT yT)
  |(fail_if_success with_reducible apply AZ);(fail_if_success with_reducible apply Az);first|omega|(simp only[go_sem,seval,Mm,KP];done)
  |fail)
   first|refine Fd (by simp only[go_sem,seval]<;>eq_refl) (by simp only[go_sem,seval]) (by simp only[go_sem,seval]) ?_ rfl|refine Fe (by simp only[go_sem,seval]<;>eq_refl) (by simp only[go_sem,seval]) (by simp only[go_sem,seval]) ?_ rfl
   have:out=Ir n:=by rw[hout,show k=_ from hk2,Ir,List.length_map,List.take_length]
   simp only[CZ,hb,this,go_sem,seval]
end Go.Proofs.YtdabfcbelkjmgaaGreatDoor.Am
namespace Go.Proofs.YtdabfcbelkjmgaaGreatDoor.Am
open Go
attribute [local irreducible] awp Ed Df Dr Ee Bz B8 Dg DM itK
set_option maxRecDepth 100000
set_option maxHeartbeats 8000000
set_option linter.unusedSimpArgs false
set_option linter.unusedVariables false
def H2:Bt
 |[.v (.int .i64 n)]=>some (True,.tup [.v (.string (sB (CZ n))),.i (bif decide (n< -4611686018427387903)||decide (4611686018427387903<n) then 10 else 0)])
 |_=>none
theorem NI:FOK Tryz.prog 78 H2:=⟨pV,by
 intro args vc r h hv
 unfold H2 at h
 split at h
 ·cases h
  exact Mn _
 ·simp at h⟩
def S42:List (Nat×Bt):=[(78,H2)]
theorem Mo:TabOK Tryz.prog (CC S42):=EC NI BW
def eI (x:Int):List AV:=[.i x]
theorem eI_row (ns:List Int) (d:List AV) (j:Nat) (h:j<ns.length):C1 (ns.map eI) d j=[.i (ns.getD j 0)]:=by
 unfold C1
 simp[List.getD_eq_getElem?_getD,h,eI]
def Bb (ns:List Int):List UInt8:=(ns.map CZ).flatten
theorem NJ:okF Tryz.prog 79:=⟨Tryz.f79,Tryz.func79,by kernel_rfl,by kernel_rfl⟩
theorem Mp:okF Tryz.prog 57:=⟨Tryz.f57,Tryz.func57,by kernel_rfl,by kernel_rfl⟩
theorem O1 (ns:List Int) (j:Nat):(Bb (ns.take j)).length≤(Bb ns).length:=by
 have:Bb ns=Bb (ns.take j)++Bb (ns.drop j):=by
  unfold Bb
  rw[←List.flatten_append,←List.map_append,List.take_append_drop]
 rw[this,List.length_append]
 omega
theorem Mq {ns:List Int} {j:Nat} (h:j<ns.length):Bb (ns.take (j+1))=Bb (ns.take j)++CZ (ns.getD j 0):=by
 unfold Bb
 have:ns[j]? =some (ns.getD j 0):=by simp[List.getD_eq_getElem?_getD,h]
 rw[List.take_add_one,this]
 simp
theorem IW (ns:List Int) (f:Bool) (d:List AV) (l:List UInt8) (hl:(l++Bb ns).length≤140737488355328) (hn:ns.length≤1000000):Hx Tryz.prog 56 [.sl 1 f (ns.map eI) d] l (some (l++Bb ns)) (.tup []):=by
 refine MS Mo _ Tryz.func56 pJ pK (by decide) (by simp) fun hb N X b=> ?_
 have hS:=Mo
 have hOK:=Ctx.bd_ok (nt:=25) (hb:=hb) (N:=N) (X:=X) (hnt:=by decide) hS
 unfold cU cV
 repeat' (first
  |((with_reducible first|apply Ak|apply AF|apply Ay|apply AO|apply Al|apply An);(·(first|exact Ctx.fn_ok hS|exact Ctx.rd_ok hS|assumption|exact yT));iterate 2 (·(simp only[go_sem,seval,MM]<;>eq_refl)))
  |(with_reducible first|apply Ah|apply Ap|apply Ae|apply Af|apply Ac|apply Ab|apply Ad|apply Aq|apply Ar|apply As|apply Au|apply Av|apply Aw)
  |(with_reducible apply Ax;(·first|rfl|decide))
  |(with_reducible first|apply Ai|apply Aj|apply AA|apply AB|apply AD|apply yT|apply And.intro yT yT)
  |(fail_if_success with_reducible apply AZ);(fail_if_success with_reducible apply Az);first|omega|(simp only[go_sem,seval,MM];done)
  |fail)
 refine Ez (fun x:Nat×Nat=>⟨[(10,.i x.1),(9,.i ns.length),(8,.sl 1 f (ns.map eI) d),(0,.v (.pointer (some ⟨b,0,none⟩))),(bk,gB b (l++Bb (ns.take x.1)))],[],x.2⟩)
  (fun x=>x.1≤ns.length) (fun x=>ns.length-x.1) (0,50) ?_ ?_ ?_
 ·exact Nat.zero_le _
 ·refine Le.of ?_ ?_ (by simp)<;>(simp only[go_sem,seval,Bb];try simp)
 ·rintro⟨j,c⟩ hj
  simp only at hj
  repeat' (first
  |((with_reducible first|apply Ak|apply AF|apply Ay|apply AO|apply Al|apply An);(·(first|exact Ctx.fn_ok hS|exact Ctx.rd_ok hS|assumption|exact yT));iterate 2 (·(simp only[go_sem,seval]<;>eq_refl)))
  |(with_reducible first|apply Ah|apply Ap|apply Ae|apply Af|apply Ac|apply Ab|apply Ad|apply Aq|apply Ar|apply As|apply Au|apply Av|apply Aw)
  |(with_reducible apply Ax;(·first|rfl|decide))
  |(with_reducible first|apply Ai|apply Aj|apply AA|apply AB|apply AD|apply yT|apply And.intro yT yT)
  |(fail_if_success with_reducible apply AZ);(fail_if_success with_reducible apply Az);first|omega|(simp only[go_sem,seval];done)
  |fail)
  refine JD ((j:Int)<ns.length) (by simp only[go_sem,seval]<;>eq_refl) (by first|simp only[Bool.decide_or,Bool.decide_and,decide_not]|simp) (fun hj1=> ?_) (fun hj1=> ?_)
  ·have hj':j<ns.length:=by omega
   have hrow:=eI_row ns d j hj'
   have hsu:=Mq hj'
   have hle:=O1 ns (j+1)
   rw[hsu,List.length_append] at hle
   have hl2:(l++Bb (ns.take j)).length+(CZ (ns.getD j 0)).length≤140737488355328:=by
    rw[List.length_append] at hl⊢
    omega
   repeat' (first
  |((with_reducible first|apply Ak|apply AF|apply Ay|apply AO|apply Al|apply An);(·(first|exact Ctx.fn_ok hS|exact Ctx.rd_ok hS|assumption|exact yT));iterate 2 (·(simp only[go_sem,seval,Am.S42,Am.H2,hrow]<;>eq_refl)))
  |(with_reducible first|apply Ah|apply Ap|apply Ae|apply Af|apply Ac|apply Ab|apply Ad|apply Aq|apply Ar|apply As|apply Au|apply Av|apply Aw)
  |(with_reducible apply Ax;(·first|rfl|decide))
  |(with_reducible first|apply Ai|apply Aj|apply AA|apply AB|apply AD|apply yT|apply And.intro yT yT)
  |(fail_if_success with_reducible apply AZ);(fail_if_success with_reducible apply Az);first|omega|(simp only[go_sem,seval,Am.S42,Am.H2,hrow];done)
  |fail)
   refine ER hS 4 rfl NJ (by simp only[go_sem,seval]<;>eq_refl) yT (by simp only[go_sem,seval]<;>eq_refl) (by simp only[go_sem,seval]<;>eq_refl) (by simp only[go_sem,seval]<;>eq_refl) (by simp only[go_sem,seval,Ch]<;>eq_refl) rfl rfl (Kd hl2) (by simp only[go_sem,seval]<;>eq_refl) yT ?_
   repeat' (first
  |((with_reducible first|apply Ak|apply AF|apply Ay|apply AO|apply Al|apply An);(·(first|exact Ctx.fn_ok hS|exact Ctx.rd_ok hS|assumption|exact yT));iterate 2 (·(simp only[go_sem,seval]<;>eq_refl)))
  |(with_reducible first|apply Ah|apply Ap|apply Ae|apply Af|apply Ac|apply Ab|apply Ad|apply Aq|apply Ar|apply As|apply Au|apply Av|apply Aw)
  |(with_reducible apply Ax;(·first|rfl|decide))
  |(with_reducible first|apply Ai|apply Aj|apply AA|apply AB|apply AD|apply yT|apply And.intro yT yT)
  |(fail_if_success with_reducible apply AZ);(fail_if_success with_reducible apply Az);first|omega|(simp only[go_sem,seval];done)
  |fail)
   refine Fb (j+1,c+50) (by show j+1≤_;omega) (by show ns.length-(j+1)<ns.length-j;omega) (Le.of ?_ ?_ ?_)
   ·simp only[go_sem,seval,hsu,List.append_assoc]<;>simp
   ·simp only[go_sem,seval]
   ·simp
  ·repeat' (first
  |((with_reducible first|apply Ak|apply AF|apply Ay|apply AO|apply Al|apply An);(·(first|exact Ctx.fn_ok hS|exact Ctx.rd_ok hS|assumption|exact yT));iterate 2 (·(simp only[go_sem,seval]<;>eq_refl)))
  |(with_reducible first|apply Ah|apply Ap|apply Ae|apply Af|apply Ac|apply Ab|apply Ad|apply Aq|apply Ar|apply As|apply Au|apply Av|apply Aw)
  |(with_reducible apply Ax;(·first|rfl|decide))
  |(with_reducible first|apply Ai|apply Aj|apply AA|apply AB|apply AD|apply yT|apply And.intro yT yT)
  |(fail_if_success with_reducible apply AZ);(fail_if_success with_reducible apply Az);first|omega|(simp only[go_sem,seval];done)
  |fail)
   have:j=ns.length:=by omega
   subst this
   rw[List.take_length]
   refine Pe (by simp only[go_sem,seval]<;>eq_refl) (by simp only[go_sem,seval]<;>eq_refl) yT (by simp only[go_sem,seval]<;>eq_refl) (by simp only[go_sem,seval]<;>eq_refl) rfl
end Go.Proofs.YtdabfcbelkjmgaaGreatDoor.Am
namespace Go.Proofs.YtdabfcbelkjmgaaGreatDoor.Am
open Go
attribute [local irreducible] awp Ed Df Dr Ee Bz B8 Dg DM itK
set_option maxRecDepth 100000
set_option maxHeartbeats 8000000
set_option linter.unusedSimpArgs false
set_option linter.unusedVariables false
theorem Mr:BT 87:=⟨by kernel_rfl,by decide⟩
def S21 (N:Nat):List (Nat×Bt):=[(11,s11 N)]
theorem Ms (N:Nat):TabOK Tryz.prog (CC (S21 N)):=EC (UH N) BW
def I7 (a b c n p q:Int):List UInt8:=Bb [a,b,c,p,q,n]
def ptS (l:List (Int×Int)):List UInt8:=(l.map fun p=>Bb [p.1,p.2]).flatten
def E6 (a b c:Int) (l:List (Int×Int)) (p q:Int):List UInt8:=I7 a b c l.length p q++ptS l
theorem NK (n:Int):(CZ n).length≤10:=by
 unfold CZ
 cases h:(decide (n< -4611686018427387903)||decide (4611686018427387903<n)) with
 |true=>simp
 |false=>simp only[cond_false,toB,Ir,List.length_map];exact Hg 10 _
theorem FR:∀(ns:List Int),(Bb ns).length≤10*ns.length
 |[]=>by simp[Bb]
 |n::ns=>by
  have h1:=NK n
  have h2:=FR ns
  simp only[Bb,List.map_cons,List.flatten_cons,List.length_append,List.length_cons] at h2⊢
  omega
theorem Is:∀(l:List (Int×Int)),(ptS l).length≤20*l.length
 |[]=>by simp[ptS]
 |p::l=>by
  have h1:=FR [p.1,p.2]
  have h2:=Is l
  simp only[ptS,List.map_cons,List.flatten_cons,List.length_append,List.length_cons,List.length_nil] at h1 h2⊢
  omega
theorem NL {l:List (Int×Int)} {j:Nat} (h:j<l.length):ptS (l.take (j+1))=ptS (l.take j)++Bb [(l.getD j (0,0)).1,(l.getD j (0,0)).2]:=by
 unfold ptS
 have:l[j]? =some (l.getD j (0,0)):=by simp[List.getD_eq_getElem?_getD,h]
 rw[List.take_add_one,this]
 simp
theorem O2 {n:Int} (h1: -4611686018427387903≤n) (h2:n≤4611686018427387903):CZ n≠[]:=by
 have e:(decide (n< -4611686018427387903)||decide (4611686018427387903<n))=false:=by simp;omega
 unfold CZ
 rw[e,cond_false]
 unfold toB Ir
 intro h
 have h3:=List.map_eq_nil_iff.1 (List.map_eq_nil_iff.1 h)
 by_cases hz:zz n<128
 ·rw[GM hz] at h3;cases h3
 ·rw[GN hz] at h3;cases h3
theorem Mt (N:Nat) (a b c:Int) (l:List (Int×Int)) (p q:Int) (v:Bool) (hv:Sh N a b c l p q=some v) (hl:l.length≤1000000):
  PCall Tryz.prog 27 [.agg [.i a,.i b,.i c,.sl 2 false (l.map R9) [.i 0,.i 0],.i p,.i q]] (.tup [.v (.string (sB (bif v then E6 a b c l p q else[]))),.i (bif v then 0 else 80)]):=by
 refine MQ (Ms N) _ Tryz.func27 oX oY (by decide) (by simp) fun hb M=> ?_
 have hS:=Ms N
 have hOK:=Ctx.bd_ok (nt:=41) (hb:=hb) (N:=M) (X:=fun _=>False) (hnt:=by decide) hS
 unfold cM cN
 have hlen:=Is l
 have hhl:=FR [a,b,c,p,q,(l.length:Int)]
 repeat' (first
  |((with_reducible first|apply Ak|apply AF|apply Ay|apply AO|apply Al|apply An);(·(first|exact Ctx.fn_ok hS|exact Ctx.rd_ok hS|assumption|exact yT));iterate 2 (·(simp only[go_sem,seval,Am.S21,Am.s11,Am.Sf,hv,Option.isSome_some]<;>eq_refl)))
  |(with_reducible first|apply Ah|apply Ap|apply Ae|apply Af|apply Ac|apply Ab|apply Ad|apply Aq|apply Ar|apply As|apply Au|apply Av|apply Aw)
  |(with_reducible apply Ax;(·first|rfl|decide))
  |(with_reducible first|apply Ai|apply Aj|apply AA|apply AB|apply AD|apply yT|apply And.intro yT yT)
  |(fail_if_success with_reducible apply AZ);(fail_if_success with_reducible apply Az);first|omega|(simp only[go_sem,seval,Am.S21,Am.s11,Am.Sf,hv,Option.isSome_some];done)
  |fail)
 cases v with
 |false=>
  refine D9 (by simp only[go_sem,seval]<;>eq_refl) ?_
  repeat' (first
  |((with_reducible first|apply Ak|apply AF|apply Ay|apply AO|apply Al|apply An);(·(first|exact Ctx.fn_ok hS|exact Ctx.rd_ok hS|assumption|exact yT));iterate 2 (·(simp only[go_sem,seval]<;>eq_refl)))
  |(with_reducible first|apply Ah|apply Ap|apply Ae|apply Af|apply Ac|apply Ab|apply Ad|apply Aq|apply Ar|apply As|apply Au|apply Av|apply Aw)
  |(with_reducible apply Ax;(·first|rfl|decide))
  |(with_reducible first|apply Ai|apply Aj|apply AA|apply AB|apply AD|apply yT|apply And.intro yT yT)
  |(fail_if_success with_reducible apply AZ);(fail_if_success with_reducible apply Az);first|omega|(simp only[go_sem,seval];done)
  |fail)
  first|refine Fd (by simp only[go_sem,seval]<;>eq_refl) (by simp only[go_sem,seval]) (by simp only[go_sem,seval]) ?_ rfl|refine Fe (by simp only[go_sem,seval]<;>eq_refl) (by simp only[go_sem,seval]) (by simp only[go_sem,seval]) ?_ rfl
  simp only[go_sem,seval]
 |true=>
  refine Fc (by simp only[go_sem,seval]<;>eq_refl) ?_
  repeat' (first
  |((with_reducible first|apply Ak|apply AF|apply Ay|apply AO|apply Al|apply An);(·(first|exact Ctx.fn_ok hS|exact Ctx.rd_ok hS|assumption|exact yT));iterate 2 (·(simp only[go_sem,seval]<;>eq_refl)))
  |(with_reducible first|apply Ah|apply Ap|apply Ae|apply Af|apply Ac|apply Ab|apply Ad|apply Aq|apply Ar|apply As|apply Au|apply Av|apply Aw)
  |(with_reducible apply Ax;(·first|rfl|decide))
  |(with_reducible first|apply Ai|apply Aj|apply AA|apply AB|apply AD|apply yT|apply And.intro yT yT)
  |(fail_if_success with_reducible apply AZ);(fail_if_success with_reducible apply Az);first|omega|(simp only[go_sem,seval];done)
  |fail)
  refine MN hS 0 rfl Mr (by simp only[go_sem,seval]<;>eq_refl) yT fun B=>⟨_,_,_,(by simp only[go_sem,seval]<;>eq_refl),yT, ?_⟩
  repeat' (first
  |((with_reducible first|apply Ak|apply AF|apply Ay|apply AO|apply Al|apply An);(·(first|exact Ctx.fn_ok hS|exact Ctx.rd_ok hS|assumption|exact yT));iterate 2 (·(simp only[go_sem,seval]<;>eq_refl)))
  |(with_reducible first|apply Ah|apply Ap|apply Ae|apply Af|apply Ac|apply Ab|apply Ad|apply Aq|apply Ar|apply As|apply Au|apply Av|apply Aw)
  |(with_reducible apply Ax;(·first|rfl|decide))
  |(with_reducible first|apply Ai|apply Aj|apply AA|apply AB|apply AD|apply yT|apply And.intro yT yT)
  |(fail_if_success with_reducible apply AZ);(fail_if_success with_reducible apply Az);first|omega|(simp only[go_sem,seval];done)
  |fail)
  have hh1:([]++Bb [a,b,c,p,q,(l.length:Int)]).length≤140737488355328:=by
   simp only[List.nil_append,List.length_cons,List.length_nil] at hhl⊢
   omega
  refine ER hS 14 (ax:=[.sl 1 false ([a,b,c,p,q,(l.length:Int)].map eI) [.i 0]]) rfl cW (by simp only[go_sem,seval]<;>eq_refl) yT (by simp only[go_sem,seval]<;>eq_refl) (by simp only[go_sem,seval]<;>eq_refl) (by simp only[go_sem,seval,Am.eI]<;>eq_refl) ?_ rfl rfl (IW _ _ _ [] hh1 (by simp)) (by simp only[go_sem,seval]<;>eq_refl) yT ?_
  ·simp only[go_sem,seval]
  repeat' (first
  |((with_reducible first|apply Ak|apply AF|apply Ay|apply AO|apply Al|apply An);(·(first|exact Ctx.fn_ok hS|exact Ctx.rd_ok hS|assumption|exact yT));iterate 2 (·(simp only[go_sem,seval]<;>eq_refl)))
  |(with_reducible first|apply Ah|apply Ap|apply Ae|apply Af|apply Ac|apply Ab|apply Ad|apply Aq|apply Ar|apply As|apply Au|apply Av|apply Aw)
  |(with_reducible apply Ax;(·first|rfl|decide))
  |(with_reducible first|apply Ai|apply Aj|apply AA|apply AB|apply AD|apply yT|apply And.intro yT yT)
  |(fail_if_success with_reducible apply AZ);(fail_if_success with_reducible apply Az);first|omega|(simp only[go_sem,seval];done)
  |fail)
  refine Ez (fun x:Nat×Nat=>⟨[(28,.i x.1),(27,.i l.length),(26,.sl 2 false (l.map R9) [.i 0,.i 0]),(4,.v (.pointer (some ⟨B,0,none⟩))),(3,.i 0),(bk,gB B (Bb [a,b,c,p,q,(l.length:Int)]++ptS (l.take x.1)))],[],x.2⟩)
   (fun x=>x.1≤l.length) (fun x=>l.length-x.1) (0,50) ?_ ?_ ?_
  ·exact Nat.zero_le _
  ·refine Le.of ?_ ?_ (by simp)<;>(simp only[go_sem,seval,ptS];try simp)
  ·rintro⟨j,cc⟩ hj
   simp only at hj
   repeat' (first
  |((with_reducible first|apply Ak|apply AF|apply Ay|apply AO|apply Al|apply An);(·(first|exact Ctx.fn_ok hS|exact Ctx.rd_ok hS|assumption|exact yT));iterate 2 (·(simp only[go_sem,seval]<;>eq_refl)))
  |(with_reducible first|apply Ah|apply Ap|apply Ae|apply Af|apply Ac|apply Ab|apply Ad|apply Aq|apply Ar|apply As|apply Au|apply Av|apply Aw)
  |(with_reducible apply Ax;(·first|rfl|decide))
  |(with_reducible first|apply Ai|apply Aj|apply AA|apply AB|apply AD|apply yT|apply And.intro yT yT)
  |(fail_if_success with_reducible apply AZ);(fail_if_success with_reducible apply Az);first|omega|(simp only[go_sem,seval];done)
  |fail)
   refine JD ((j:Int)<l.length) (by simp only[go_sem,seval]<;>eq_refl) (by first|simp only[Bool.decide_or,Bool.decide_and,decide_not]|simp) (fun hj1=> ?_) (fun hj1=> ?_)
   ·have hj':j<l.length:=by omega
    have hrow:=Sg l j
    have hsu:=NL hj'
    have hl1:=Is (l.take j)
    have hl0:(l.take j).length≤l.length:=by rw[List.length_take];omega
    have hl3:=FR [(l.getD j (0,0)).1,(l.getD j (0,0)).2]
    have hl2:((Bb [a,b,c,p,q,(l.length:Int)]++ptS (l.take j))++Bb [(l.getD j (0,0)).1,(l.getD j (0,0)).2]).length≤140737488355328:=by
     simp only[List.length_append,List.length_cons,List.length_nil] at hhl hl3⊢
     omega
    repeat' (first
  |((with_reducible first|apply Ak|apply AF|apply Ay|apply AO|apply Al|apply An);(·(first|exact Ctx.fn_ok hS|exact Ctx.rd_ok hS|assumption|exact yT));iterate 2 (·(simp only[go_sem,seval,hrow,Am.R9]<;>eq_refl)))
  |(with_reducible first|apply Ah|apply Ap|apply Ae|apply Af|apply Ac|apply Ab|apply Ad|apply Aq|apply Ar|apply As|apply Au|apply Av|apply Aw)
  |(with_reducible apply Ax;(·first|rfl|decide))
  |(with_reducible first|apply Ai|apply Aj|apply AA|apply AB|apply AD|apply yT|apply And.intro yT yT)
  |(fail_if_success with_reducible apply AZ);(fail_if_success with_reducible apply Az);first|omega|(simp only[go_sem,seval,hrow,Am.R9];done)
  |fail)
    refine ER hS 5 (ax:=[.sl 1 false ([(l.getD j (0,0)).1,(l.getD j (0,0)).2].map eI) [.i 0]]) rfl cW (by simp only[go_sem,seval]<;>eq_refl) yT (by simp only[go_sem,seval]<;>eq_refl) (by simp only[go_sem,seval]<;>eq_refl) (by simp only[go_sem,seval,Am.eI]<;>eq_refl) ?_ rfl rfl (IW _ _ _ _ hl2 (by simp)) (by simp only[go_sem,seval]<;>eq_refl) yT ?_
    ·simp only[go_sem,seval]
    repeat' (first
  |((with_reducible first|apply Ak|apply AF|apply Ay|apply AO|apply Al|apply An);(·(first|exact Ctx.fn_ok hS|exact Ctx.rd_ok hS|assumption|exact yT));iterate 2 (·(simp only[go_sem,seval]<;>eq_refl)))
  |(with_reducible first|apply Ah|apply Ap|apply Ae|apply Af|apply Ac|apply Ab|apply Ad|apply Aq|apply Ar|apply As|apply Au|apply Av|apply Aw)
  |(with_reducible apply Ax;(·first|rfl|decide))
  |(with_reducible first|apply Ai|apply Aj|apply AA|apply AB|apply AD|apply yT|apply And.intro yT yT)
  |(fail_if_success with_reducible apply AZ);(fail_if_success with_reducible apply Az);first|omega|(simp only[go_sem,seval];done)
  |fail)
    refine Fb (j+1,cc+50) (by show j+1≤_;omega) (by show l.length-(j+1)<l.length-j;omega) (Le.of ?_ ?_ ?_)
    ·simp only[go_sem,seval,hsu,List.append_assoc]<;>simp
    ·simp only[go_sem,seval]
    ·simp
   ·repeat' (first
  |((with_reducible first|apply Ak|apply AF|apply Ay|apply AO|apply Al|apply An);(·(first|exact Ctx.fn_ok hS|exact Ctx.rd_ok hS|assumption|exact yT));iterate 2 (·(simp only[go_sem,seval]<;>eq_refl)))
  |(with_reducible first|apply Ah|apply Ap|apply Ae|apply Af|apply Ac|apply Ab|apply Ad|apply Aq|apply Ar|apply As|apply Au|apply Av|apply Aw)
  |(with_reducible apply Ax;(·first|rfl|decide))
  |(with_reducible first|apply Ai|apply Aj|apply AA|apply AB|apply AD|apply yT|apply And.intro yT yT)
  |(fail_if_success with_reducible apply AZ);(fail_if_success with_reducible apply Az);first|omega|(simp only[go_sem,seval];done)
  |fail)
    have hjl:j=l.length:=by omega
    subst hjl
    rw[List.take_length]
    have hne:Bb [a,b,c,p,q,(l.length:Int)]++ptS l≠[]:=by
     have h1:=O2 (n:=(l.length:Int)) (by omega) (by omega)
     intro h
     have h2:=List.append_eq_nil_iff.1 h
     simp only[Bb,List.map_cons,List.flatten_cons,List.append_eq_nil_iff] at h2
     exact h1 h2.1.2.2.2.2.2.1
    refine ER hS 1 (ax:=[]) rfl Mp (by simp only[go_sem,seval]<;>eq_refl) yT (by simp only[go_sem,seval]<;>eq_refl) (by simp only[go_sem,seval]<;>eq_refl) (by simp only[go_sem,seval]<;>eq_refl) yT rfl rfl (Jg hne) (by simp only[go_sem,seval]<;>eq_refl) yT ?_
    repeat' (first
  |((with_reducible first|apply Ak|apply AF|apply Ay|apply AO|apply Al|apply An);(·(first|exact Ctx.fn_ok hS|exact Ctx.rd_ok hS|assumption|exact yT));iterate 2 (·(simp only[go_sem,seval]<;>eq_refl)))
  |(with_reducible first|apply Ah|apply Ap|apply Ae|apply Af|apply Ac|apply Ab|apply Ad|apply Aq|apply Ar|apply As|apply Au|apply Av|apply Aw)
  |(with_reducible apply Ax;(·first|rfl|decide))
  |(with_reducible first|apply Ai|apply Aj|apply AA|apply AB|apply AD|apply yT|apply And.intro yT yT)
  |(fail_if_success with_reducible apply AZ);(fail_if_success with_reducible apply Az);first|omega|(simp only[go_sem,seval];done)
  |fail)
    first|refine Fd (by simp only[go_sem,seval]<;>eq_refl) (by simp only[go_sem,seval]) (by simp only[go_sem,seval]) ?_ rfl|refine Fe (by simp only[go_sem,seval]<;>eq_refl) (by simp only[go_sem,seval]) (by simp only[go_sem,seval]) ?_ rfl
    simp only[E6,I7,go_sem,seval]
end Go.Proofs.YtdabfcbelkjmgaaGreatDoor.Am
