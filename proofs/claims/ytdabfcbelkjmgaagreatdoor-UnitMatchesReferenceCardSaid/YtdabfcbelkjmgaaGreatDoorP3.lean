import Derived.Test.YtdabfcbelkjmgaaGreatDoorD4
import Derived.Test.YtdabfcbelkjmgaaGreatDoorA10
import Derived.Test.YtdabfcbelkjmgaaGreatDoorG1
import Derived.Shelf.Small.Bits
import Derived.Test.YtdabfcbelkjmgaaGreatDoorA13
namespace Go.Proofs.YtdabfcbelkjmgaaGreatDoor.Am
open Go
attribute [local irreducible] awp Ed Df Dr Ee Bz B8 Dg DM itK
set_option maxRecDepth 100000
set_option maxHeartbeats 8000000
set_option linter.unusedSimpArgs false
set_option linter.unusedVariables false
def AS (l:List Pt):List (Pt×Pt):=(List.range l.length).map fun i=>(pa l i,pa l ((i+1)%l.length))
def edA (e:Pt×Pt):List AV:=[.agg [.i e.1.1,.i e.1.2],.agg [.i e.2.1,.i e.2.2]]
theorem Lt {l:List Pt} {i:Nat} (h:i<l.length):(AS l)[i]? =some (pa l i,pa l ((i+1)%l.length)):=by
 unfold AS;rw[List.getElem?_map,List.getElem?_range h];rfl
theorem Dc (l:List Pt):(AS l).length=l.length:=by unfold AS;simp
theorem Rj (l:List Pt) (f:Bool) (hlen:l.length≤1000000000):ItC Tryz.prog 85 [] [.ro [.sl 2 f (l.map R9) [.i 0,.i 0]] 0] ((AS l).map edA):=by
 refine N9 (BW (P:=Tryz.prog)) _ Tryz.func85 kN kP (by simp[gs]) (by simp) fun y Γ hOK hTS hY hYD=> ?_
 have hS:=BW (P:=Tryz.prog)
 unfold ZT
 repeat' (first
  |((with_reducible first|apply Ak|apply AF|apply Ay|apply AO|apply Al|apply An);(·(first|exact Ctx.fn_ok hS|exact Ctx.rd_ok hS|assumption|exact yT));iterate 2 (·(simp only[go_sem,seval,hTS]<;>eq_refl)))
  |(with_reducible first|apply Ah|apply Ap|apply Ae|apply Af|apply Ac|apply Ab|apply Ad|apply Aq|apply Ar|apply As|apply Au|apply Av|apply Aw)
  |(with_reducible apply Ax;(·first|rfl|decide))
  |(with_reducible first|apply Ai|apply Aj|apply AA|apply AB|apply AD|apply yT|apply And.intro yT yT)
  |(fail_if_success with_reducible apply AZ);(fail_if_success with_reducible apply Az);first|omega|(simp only[go_sem,seval,hTS];done)
  |fail)
 refine Ez (fun x:Nat×Nat=>⟨[(7,.i x.1),(6,.i l.length),(5,.sl 2 f (l.map R9) [.i 0,.i 0]),(1,.ro [.sl 2 f (l.map R9) [.i 0,.i 0]] 0),(gs,AY x.1),(0,.clo (.yield y) [] [])],[],x.2⟩)
  (fun x=>x.1≤l.length) (fun x=>l.length-x.1) (0,50) ?_ ?_ ?_
 ·simp
 ·refine Le.of ?_ ?_ (by simp)<;>(simp only[go_sem,seval];try simp)
 ·rintro⟨i,c⟩ hi
  simp only at hi
  repeat' (first
  |((with_reducible first|apply Ak|apply AF|apply Ay|apply AO|apply Al|apply An);(·(first|exact Ctx.fn_ok hS|exact Ctx.rd_ok hS|assumption|exact yT));iterate 2 (·(simp only[go_sem,seval,hTS]<;>eq_refl)))
  |(with_reducible first|apply Ah|apply Ap|apply Ae|apply Af|apply Ac|apply Ab|apply Ad|apply Aq|apply Ar|apply As|apply Au|apply Av|apply Aw)
  |(with_reducible apply Ax;(·first|rfl|decide))
  |(with_reducible first|apply Ai|apply Aj|apply AA|apply AB|apply AD|apply yT|apply And.intro yT yT)
  |(fail_if_success with_reducible apply AZ);(fail_if_success with_reducible apply Az);first|omega|(simp only[go_sem,seval,hTS];done)
  |fail)
  refine JD ((i:Int)<l.length) (by simp only[go_sem,seval]<;>eq_refl) (by first|simp only[Bool.decide_or,Bool.decide_and,decide_not]|simp) (fun hi1=> ?_) (fun hi1=> ?_)
  ·have hi':i<l.length:=by omega
   have hm:(i+1)%l.length<l.length:=Nat.mod_lt _ (by omega)
   have hrow:C1 (l.map R9) [.i 0,.i 0] i=[.i (pa l i).1,.i (pa l i).2]:=Sg l i
   have hrow2:C1 (l.map R9) [.i 0,.i 0] ((i+1)%l.length)=[.i (pa l ((i+1)%l.length)).1,.i (pa l ((i+1)%l.length)).2]:=Sg l _
   have hmod:((i:Int)+1).tmod (l.length:Int)=(((i+1)%l.length:Nat):Int):=by
    rw[Int.tmod_eq_emod_of_nonneg (by omega)];rfl
   have hton:((((i+1)%l.length:Nat)):Int).toNat=(i+1)%l.length:=Int.toNat_natCast _
   repeat' (first
  |((with_reducible first|apply Ak|apply AF|apply Ay|apply AO|apply Al|apply An);(·(first|exact Ctx.fn_ok hS|exact Ctx.rd_ok hS|assumption|exact yT));iterate 2 (·(simp only[go_sem,seval,hrow,hTS]<;>eq_refl)))
  |(with_reducible first|apply Ah|apply Ap|apply Ae|apply Af|apply Ac|apply Ab|apply Ad|apply Aq|apply Ar|apply As|apply Au|apply Av|apply Aw)
  |(with_reducible apply Ax;(·first|rfl|decide))
  |(with_reducible first|apply Ai|apply Aj|apply AA|apply AB|apply AD|apply yT|apply And.intro yT yT)
  |(fail_if_success with_reducible apply AZ);(fail_if_success with_reducible apply Az);first|omega|(simp only[go_sem,seval,hrow,hTS];done)
  |fail)
   refine hYD 10 (args:=edA (pa l i,pa l ((i+1)%l.length))) rfl (by simp only[go_sem,seval,hTS]<;>eq_refl) (by simp only[go_sem,seval,hTS,hrow,hrow2,hmod,hton]<;>eq_refl) (by decide) ?_ (by simp only[go_sem,seval]<;>eq_refl) (by simp only[go_sem,seval]<;>eq_refl) (by simp only[go_sem,seval]<;>eq_refl) (by simp only[go_sem,seval,Am.edA]<;>eq_refl) ?_ (by simp only[go_sem,seval,hTS]<;>eq_refl) ?_ ?_ (by simp only[go_sem,seval,hTS]<;>eq_refl) ?_ ?_
   ·exact⟨⟨by omega,by omega⟩,by omega,by omega,by omega⟩
   ·rw[List.getElem?_map,Lt hi'];rfl
   ·exact yT
   ·repeat' (first
  |((with_reducible first|apply Ak|apply AF|apply Ay|apply AO|apply Al|apply An);(·(first|exact Ctx.fn_ok hS|exact Ctx.rd_ok hS|assumption|exact yT));iterate 2 (·(simp only[go_sem,seval,hTS]<;>eq_refl)))
  |(with_reducible first|apply Ah|apply Ap|apply Ae|apply Af|apply Ac|apply Ab|apply Ad|apply Aq|apply Ar|apply As|apply Au|apply Av|apply Aw)
  |(with_reducible apply Ax;(·first|rfl|decide))
  |(with_reducible first|apply Ai|apply Aj|apply AA|apply AB|apply AD|apply yT|apply And.intro yT yT)
  |(fail_if_success with_reducible apply AZ);(fail_if_success with_reducible apply Az);first|omega|(simp only[go_sem,seval,hTS];done)
  |fail)
    refine Fc (by simp only[go_sem,seval]<;>eq_refl) ?_
    repeat' (first
  |((with_reducible first|apply Ak|apply AF|apply Ay|apply AO|apply Al|apply An);(·(first|exact Ctx.fn_ok hS|exact Ctx.rd_ok hS|assumption|exact yT));iterate 2 (·(simp only[go_sem,seval,hTS]<;>eq_refl)))
  |(with_reducible first|apply Ah|apply Ap|apply Ae|apply Af|apply Ac|apply Ab|apply Ad|apply Aq|apply Ar|apply As|apply Au|apply Av|apply Aw)
  |(with_reducible apply Ax;(·first|rfl|decide))
  |(with_reducible first|apply Ai|apply Aj|apply AA|apply AB|apply AD|apply yT|apply And.intro yT yT)
  |(fail_if_success with_reducible apply AZ);(fail_if_success with_reducible apply Az);first|omega|(simp only[go_sem,seval,hTS];done)
  |fail)
    refine Fb (i+1,c+50) (by show i+1≤_;omega) (by show l.length-(i+1)<l.length-i;omega) (Le.of ?_ ?_ ?_)
    ·simp only[go_sem,seval]<;>simp
    ·simp only[go_sem,seval]
    ·simp
   ·exact yT
   ·repeat' (first
  |((with_reducible first|apply Ak|apply AF|apply Ay|apply AO|apply Al|apply An);(·(first|exact Ctx.fn_ok hS|exact Ctx.rd_ok hS|assumption|exact yT));iterate 2 (·(simp only[go_sem,seval,hTS]<;>eq_refl)))
  |(with_reducible first|apply Ah|apply Ap|apply Ae|apply Af|apply Ac|apply Ab|apply Ad|apply Aq|apply Ar|apply As|apply Au|apply Av|apply Aw)
  |(with_reducible apply Ax;(·first|rfl|decide))
  |(with_reducible first|apply Ai|apply Aj|apply AA|apply AB|apply AD|apply yT|apply And.intro yT yT)
  |(fail_if_success with_reducible apply AZ);(fail_if_success with_reducible apply Az);first|omega|(simp only[go_sem,seval,hTS];done)
  |fail)
    refine D9 (by simp only[go_sem,seval]<;>eq_refl) ?_
    repeat' (first
  |((with_reducible first|apply Ak|apply AF|apply Ay|apply AO|apply Al|apply An);(·(first|exact Ctx.fn_ok hS|exact Ctx.rd_ok hS|assumption|exact yT));iterate 2 (·(simp only[go_sem,seval,hTS]<;>eq_refl)))
  |(with_reducible first|apply Ah|apply Ap|apply Ae|apply Af|apply Ac|apply Ab|apply Ad|apply Aq|apply Ar|apply As|apply Au|apply Av|apply Aw)
  |(with_reducible apply Ax;(·first|rfl|decide))
  |(with_reducible first|apply Ai|apply Aj|apply AA|apply AB|apply AD|apply yT|apply And.intro yT yT)
  |(fail_if_success with_reducible apply AZ);(fail_if_success with_reducible apply Az);first|omega|(simp only[go_sem,seval,hTS];done)
  |fail)
    refine JE ?_
    simp only[go_sem,seval]
  ·repeat' (first
  |((with_reducible first|apply Ak|apply AF|apply Ay|apply AO|apply Al|apply An);(·(first|exact Ctx.fn_ok hS|exact Ctx.rd_ok hS|assumption|exact yT));iterate 2 (·(simp only[go_sem,seval,hTS]<;>eq_refl)))
  |(with_reducible first|apply Ah|apply Ap|apply Ae|apply Af|apply Ac|apply Ab|apply Ad|apply Aq|apply Ar|apply As|apply Au|apply Av|apply Aw)
  |(with_reducible apply Ax;(·first|rfl|decide))
  |(with_reducible first|apply Ai|apply Aj|apply AA|apply AB|apply AD|apply yT|apply And.intro yT yT)
  |(fail_if_success with_reducible apply AZ);(fail_if_success with_reducible apply Az);first|omega|(simp only[go_sem,seval,hTS];done)
  |fail)
   refine Qn ?_
   have:i=l.length:=by omega
   simp only[go_sem,seval,this,List.length_map,Dc]
def Mk:Bt
 |[.sl z f rows d]=>some (True,.clo (.func 85) [] [.ro [.sl z f rows d] 0])
 |_=>none
theorem QU:FOK Tryz.prog 71 Mk:=⟨jQ,by
 intro args vc r h hv
 unfold Mk at h
 split at h
 ·cases h
  refine Jw (BW (P:=Tryz.prog)) _ Tryz.func71 jO jP (by simp) fun _=> ?_
  have hS:=BW (P:=Tryz.prog)
  unfold Zx Zy
  repeat' (first
  |((with_reducible first|apply Ak|apply AF|apply Ay|apply AO|apply Al|apply An);(·(first|exact Ctx.fn_ok hS|exact Ctx.rd_ok hS|assumption|exact yT));iterate 2 (·(simp only[go_sem,seval]<;>eq_refl)))
  |(with_reducible first|apply Ah|apply Ap|apply Ae|apply Af|apply Ac|apply Ab|apply Ad|apply Aq|apply Ar|apply As|apply Au|apply Av|apply Aw)
  |(with_reducible apply Ax;(·first|rfl|decide))
  |(with_reducible first|apply Ai|apply Aj|apply AA|apply AB|apply AD|apply yT|apply And.intro yT yT)
  |(fail_if_success with_reducible apply AZ);(fail_if_success with_reducible apply Az);first|omega|(simp only[go_sem,seval];done)
  |fail)
  first|refine Fd (by simp only[go_sem,seval]<;>eq_refl) (by simp only[go_sem,seval]) (by simp only[go_sem,seval]) ?_ rfl|refine Fe (by simp only[go_sem,seval]<;>eq_refl) (by simp only[go_sem,seval]) (by simp only[go_sem,seval]) ?_ rfl
  simp only[go_sem,seval]
 ·simp at h⟩
theorem OY {α:Type} {xs:List α} {g:α→List AV} {k:Nat} {args:List AV} (h:(xs.map g)[k]? =some args):∃y,xs.drop k=y::xs.drop (k+1)∧args=g y∧k<xs.length:=by
 rw[List.getElem?_map] at h
 cases hk:xs[k]? with
 |none=>rw[hk] at h;cases h
 |some y=>
  rw[hk] at h
  obtain⟨h1,h2⟩:=List.getElem?_eq_some_iff.1 hk
  exact⟨y,by rw[List.drop_eq_getElem_cons h1,h2],(yJ h).symm,h1⟩
theorem Rk {α:Type} {xs:List α} {g:α→List AV}:xs.drop (xs.map g).length=[]:=by rw[List.length_map];exact List.drop_length
end Go.Proofs.YtdabfcbelkjmgaaGreatDoor.Am
namespace Go.Proofs.YtdabfcbelkjmgaaGreatDoor.Am
open Go
attribute [local irreducible] awp Ed Df Dr Ee Bz B8 Dg DM itK
set_option maxRecDepth 100000
set_option maxHeartbeats 8000000
set_option linter.unusedSimpArgs false
set_option linter.unusedVariables false
end Go.Proofs.YtdabfcbelkjmgaaGreatDoor.Am
namespace Go.Proofs.YtdabfcbelkjmgaaGreatDoor.Am
open Go
set_option linter.unusedVariables false
def H1:Shelf.Ren where
 f:=fun|125=>96|128=>109|129=>110|n=>n
 t:=fun|46=>143|3=>3|51=>159|53=>131|4=>4|5=>5|9=>9|n=>n
 g:=id
theorem OZ:Lays.n125 Tryz.prog H1:=
 {mixed:=Eq.refl true,f125:=Eq.trans Tryz.func96 (congrArg some (Eq.refl (Body.n125 H1))),f128:=Eq.trans Tryz.func109 (congrArg some (Eq.refl (Body.n128 H1))),f129:=Eq.trans Tryz.func110 (congrArg some (Eq.refl (Body.n129 H1))),
  t3:=Tryz.underlying3,a3:=Tryz.isAgg3,z3:=Tryz.sizeOf3,v3:=Tryz.zeroValue3,t4:=Tryz.underlying4,a4:=Tryz.isAgg4,z4:=Tryz.sizeOf4,v4:=Tryz.zeroValue4,t5:=Tryz.underlying5,a5:=Tryz.isAgg5,z5:=Tryz.sizeOf5,v5:=Tryz.zeroValue5,
  t9:=Tryz.underlying9,a9:=Tryz.isAgg9,z9:=Tryz.sizeOf9,v9:=Tryz.zeroValue9,t46:=Tryz.underlying143,a46:=Tryz.isAgg143,z46:=Tryz.sizeOf143,v46:=Tryz.zeroValue143,
  t51:=Tryz.underlying159,a51:=Tryz.isAgg159,z51:=Tryz.sizeOf159,v51:=Tryz.zeroValue159,t53:=Tryz.underlying131,a53:=Tryz.isAgg131,z53:=Tryz.sizeOf131,v53:=Tryz.zeroValue131}
def NX:Bt
 |[.v (.int .u64 n)]=>some (0≤n∧n≤1000000,.i (Lib.bitLen n.toNat))
 |_=>none
theorem Rl:FOK Tryz.prog 96 NX:=⟨⟨Tryz.f96,Tryz.func96,by kernel_rfl,by kernel_rfl⟩,by
 intro args vc r h hv
 unfold NX at h
 split at h
 ·cases h
  intro σ vs hG hM hp hr
  simp only[RepL,Rep] at hr
  obtain⟨y,ys,rfl,rfl,rfl⟩:=hr
  refine(Any.bits_Len OZ _ σ.w hv.1 (by omega)).mono ?_
  rintro e w' ⟨rfl,rfl⟩
  exact⟨_,rfl,fun b o h=>h,SameO.refl _,rfl,rfl⟩
 ·simp at h⟩
theorem NY {σ σ':Cf} {b:Nat} (hw:σ'.w.heap[b]? =σ.w.heap[b]?):∀(l:List Pt) (o:Nat),RepRows σ 2 b o (l.map R9)→RepRows σ' 2 b o (l.map R9)
 |[],o,h=>by simp[RepRows]
 |p::l,o,h=>by
  simp only[List.map_cons,RepRows,R9,RepCells,Rep,List.length_cons,List.length_nil] at h⊢
  obtain⟨_,⟨⟨x,h1,h2,h3⟩,⟨y,h4,h5,h6⟩,_⟩,h7⟩:=h
  refine⟨trivial,⟨⟨x, ?_,h2,h3⟩,⟨y, ?_,h5,h6⟩,trivial⟩,NY hw l (o+2) h7⟩
  ·rw[cell_of_heap hw];exact h1
  ·rw[cell_of_heap hw];exact h4
theorem Rm (l:List Pt) (f:Bool) (d:List AV):TrL []∧TrL [.ro [.sl 2 f (l.map R9) d] 0]:=by
 refine⟨TrL.nil,fun σ σ' hf hw vs h=> ?_⟩
 simp only[RepL,Rep,RepCells] at h⊢
 obtain⟨y,ys,rfl,⟨b,o,h1,h2,h3,⟨x,h4,h5,base,cap,h6,h7,h8,h9,h10⟩,_⟩,rfl⟩:=h
 have hb:=hf b h2 (EB h4)
 refine⟨y,[],rfl,⟨b,o,h1,hb,h3,⟨x,by rw[cell_of_heap (hw b h2)];exact h4,h5,base,cap,h6,h7,h8,h9, ?_⟩,trivial⟩,rfl⟩
 rcases h10 with h10|⟨b',o',rfl,k1,k2⟩
 ·exact .inl h10
 ·cases l with
  |nil=>exact .inl rfl
  |cons p l=>
   have k3:=k2
   simp only[List.map_cons,RepRows,R9,RepCells] at k3
   obtain⟨_,⟨⟨z,k4,_⟩,_⟩,_⟩:=k3
   exact .inr ⟨b',o',rfl,hf b' k1 (EB k4),NY (hw b' k1) _ _ k2⟩
end Go.Proofs.YtdabfcbelkjmgaaGreatDoor.Am
