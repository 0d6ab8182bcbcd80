import Derived.Test.YtdabfcbelkjmgaaGreatDoorA17
import Derived.Test.YtdabfcbelkjmgaaGreatDoorE3
import Derived.Test.YtdabfcbelkjmgaaGreatDoorP7
namespace Go.Proofs.YtdabfcbelkjmgaaGreatDoor.Am
open Go
attribute [local irreducible] awp Ed Df Dr Ee Bz B8 Dg DM itK
set_option maxRecDepth 100000
set_option maxHeartbeats 8000000
set_option linter.unusedSimpArgs false
set_option linter.unusedVariables false
def S45 (N:Nat):List (Nat×Bt):=[(81,s81 N)]
theorem H3 (N:Nat):TabOK Tryz.prog (CC (S45 N)):=EC (fK N) BW
theorem NM (N:Nat) (m:Nm) (s:List UInt8) (p n q:Int) (h:Tr N s p=some (n,q,0)):I2 Tryz.prog 60 m [.box m 0] [.v (.string (sB s)),.i p] (.i n) [(1,.i q)]:=by
 refine MJ (H3 N) _ Tryz.func60 dD dE (by simp) fun hb=> ?_
 have hS:=H3 N
 unfold Yi dC
 repeat' (first
  |((with_reducible first|apply Ak|apply AF|apply Ay|apply AO|apply Al|apply An);(·(first|exact Ctx.fn_ok hS|exact Ctx.rd_ok hS|assumption|exact yT));iterate 2 (·(simp only[go_sem,seval,Am.S45,Am.s81,h,Option.isSome_some]<;>eq_refl)))
  |(with_reducible first|apply Ah|apply Ap|apply Ae|apply Af|apply Ac|apply Ab|apply Ad|apply Aq|apply Ar|apply As|apply Au|apply Av|apply Aw)
  |(with_reducible apply Ax;(·first|rfl|decide))
  |(with_reducible first|apply Ai|apply Aj|apply AA|apply AB|apply AD|apply yT|apply And.intro yT yT)
  |(fail_if_success with_reducible apply AZ);(fail_if_success with_reducible apply Az);first|omega|(simp only[go_sem,seval,Am.S45,Am.s81,h,Option.isSome_some];done)
  |fail)
 refine Fc (by simp only[go_sem,seval]<;>eq_refl) ?_
 repeat' (first
  |((with_reducible first|apply Ak|apply AF|apply Ay|apply AO|apply Al|apply An);(·(first|exact Ctx.fn_ok hS|exact Ctx.rd_ok hS|assumption|exact yT));iterate 2 (·(simp only[go_sem,seval]<;>eq_refl)))
  |(with_reducible first|apply Ah|apply Ap|apply Ae|apply Af|apply Ac|apply Ab|apply Ad|apply Aq|apply Ar|apply As|apply Au|apply Av|apply Aw)
  |(with_reducible apply Ax;(·first|rfl|decide))
  |(with_reducible first|apply Ai|apply Aj|apply AA|apply AB|apply AD|apply yT|apply And.intro yT yT)
  |(fail_if_success with_reducible apply AZ);(fail_if_success with_reducible apply Az);first|omega|(simp only[go_sem,seval];done)
  |fail)
 exact Pn (by simp only[go_sem,seval]<;>eq_refl) yT ⟨by simp only[go_sem,seval],fun j c h=>h⟩
def fV:Value:= .iface 93 (.agg #[])
theorem NN (N:Nat) (m:Nm) (s:List UInt8) (p n q e:Int) (h:Tr N s p=some (n,q,e)) (he:¬e=0):Hu Tryz.prog 60 m [.box m 0] [.v (.string (sB s)),.i p] fV:=by
 refine LF (H3 N) _ Tryz.func60 dD dE (by simp) fun hb=> ?_
 have hS:=H3 N
 unfold Yi
 repeat' (first
  |((with_reducible first|apply Ak|apply AF|apply Ay|apply AO|apply Al|apply An);(·(first|exact Ctx.fn_ok hS|exact Ctx.rd_ok hS|assumption|exact yT));iterate 2 (·(simp only[go_sem,seval,Am.S45,Am.s81,h,Option.isSome_some]<;>eq_refl)))
  |(with_reducible first|apply Ah|apply Ap|apply Ae|apply Af|apply Ac|apply Ab|apply Ad|apply Aq|apply Ar|apply As|apply Au|apply Av|apply Aw)
  |(with_reducible apply Ax;(·first|rfl|decide))
  |(with_reducible first|apply Ai|apply Aj|apply AA|apply AB|apply AD|apply yT|apply And.intro yT yT)
  |(fail_if_success with_reducible apply AZ);(fail_if_success with_reducible apply Az);first|omega|(simp only[go_sem,seval,Am.S45,Am.s81,h,Option.isSome_some];done)
  |fail)
 refine D9 (by simp only[go_sem,seval,he,decide_not]<;>eq_refl) ?_
 refine Gx (Ctx.fn_ok hS) 2 rfl rfl (by simp only[go_sem,seval]<;>eq_refl) (by simp only[go_sem,seval]) (by simp only[go_sem,seval]<;>eq_refl) ?_
 repeat' (with_reducible first|apply CF|apply CG)
 exact Pg fun j c h=>h
def J2 (N:Nat):GB
 |[.box _ 0],[.v (.string s),.v (.int .i64 p)]=>match Tr N (bL s) p with
  |some (n,q,e)=>if e=0 then some (True,.i n,[(1,.i q)]) else none
  |none=>none
 |_,_=>none
theorem O3 (N:Nat):EOK Tryz.prog 60 (J2 N):=⟨dF,by
 intro args cells vc r us n h hv hb
 unfold J2 at h
 split at h
 ·split at h
  ·rename_i m s p _ a b e hr
   split at h
   ·cases h
    rename_i he
    subst he
    simp only[Bo,yE] at hb
    subst hb
    have:=NM N m (bL s) p a b hr
    rw[Fj] at this
    exact this
   ·cases h
  ·cases h
 ·simp at h⟩
def J3 (N:Nat):GC
 |[.box _ 0],[.v (.string s),.v (.int .i64 p)]=>match Tr N (bL s) p with
  |some (_,_,e)=>if e=0 then none else some (True,fV)
  |none=>none
 |_,_=>none
theorem O4 (N:Nat):POK Tryz.prog 60 (J3 N):=⟨dF,by
 intro args cells vc v n h hv hb
 unfold J3 at h
 split at h
 ·split at h
  ·rename_i m s p _ a b e hr
   split at h
   ·cases h
   ·cases h
    rename_i he
    simp only[Bo,yE] at hb
    subst hb
    have:=NN N m (bL s) p a b e hr he
    rw[Fj] at this
    exact this
  ·cases h
 ·simp at h⟩
def S22 (N:Nat):List (Nat×Bt):=[(11,s11 N),(39,s39 N)]
def E22 (N:Nat):List (Nat×GB):=[(60,J2 N)]
def P22 (N:Nat):List (Nat×GC):=[(60,J3 N)]
theorem J4 (N:Nat):TabOK Tryz.prog (E3 (S22 N) (E22 N) (P22 N)):=Ou (EC (UH N) (EC (WJ N) BW)) (by
 intro x hx
 simp only[E22,List.mem_singleton] at hx
 subst hx
 exact O3 N) (by
 intro x hx
 simp only[P22,List.mem_singleton] at hx
 subst hx
 exact O4 N)
def dN (N:Nat) (s:List UInt8) (p:Int):Option (Option (Int×Int)):=(Tr N s p).bind fun(n,q,e)=>some (if e=0 then some (n,q) else none)
def pb {α β:Type}:Option (Option α)→(α→Option (Option β))→Option (Option β)
 |none,_=>none
 |some none,_=>some none
 |some (some a),f=>f a
theorem C0 {N:Nat} {s:List UInt8} {p:Int} {β:Type} {f:Int×Int→Option (Option β)} {r:Option β} (h:pb (dN N s p) f=some r):∃x q e,Tr N s p=some (x,q,e)∧(¬e=0∧r=none∨e=0∧f (x,q)=some r):=by
 unfold dN at h
 cases hw:Tr N s p with
 |none=>rw[hw] at h;simp[pb] at h
 |some t=>
  obtain⟨x,q,e⟩:=t
  refine⟨x,q,e,rfl, ?_⟩
  rw[hw,Option.bind_some] at h
  simp only at h
  by_cases he:e=0
  ·rw[if_pos he] at h;exact .inr ⟨he,h⟩
  ·rw[if_neg he] at h;exact .inl ⟨he,(yJ h).symm⟩
theorem NZ {α β γ:Type} {x:Option (Option α)} {f:α→Option (Option β)} {g:β→Option (Option γ)}:pb (pb x f) g=pb x fun a=>pb (f a) g:=by
 rcases x with _|_|a<;>rfl
def dP (N:Nat) (s:List UInt8):Nat→Int→List (Int×Int)→Option (Option (List (Int×Int)×Int))
 |0,p,l=>some (some (l,p))
 |k+1,p,l=>pb (dN N s p) fun(x,q)=>pb (dN N s q) fun(y,r)=>dP N s k r (l++[(x,y)])
def J5 (N:Nat) (s:List UInt8):Option (Option (Int×Int×Int×List (Int×Int)×Int×Int)):=
 pb (dN N s 0) fun(a,p1)=>pb (dN N s p1) fun(b,p2)=>pb (dN N s p2) fun(c,p3)=>pb (dN N s p3) fun(f,p4)=>pb (dN N s p4) fun(g,p5)=>pb (dN N s p5) fun(n,p6)=>
 bif decide (3≤n)&&decide (n≤8) then
  pb (dP N s n.toNat p6 []) fun(l,p7)=>
  bif decide (p7<(s.length:Int)) then some none else
  (Sh N a b c l f g).bind fun v=>some (bif v then some (a,b,c,l,f,g) else none)
 else some none
attribute [local go_sem] S22 E22 P22 J2 J3 s39 s11 S4 Sf R9 Option.isSome_some
section
attribute [local go_sem] fV
theorem BQ (N:Nat) {e:Env} {h:Hp} {c:Nat} (e2:lk e 2= .box (0,1) 0) (e3:lk e 3= .box (1,1) 0) (ek:lk e (dk 64)= .gd false (.clo (.func 59) [] [.box (0,1) 0,.box (1,1) 0]))
  (hh:((hl h (.c (0,1) 0)).isSome&&(hl h (.c (0,1) 1)).isSome&&(hl h (.c (0,1) 2)).isSome&&(hl h (.c (0,1) 3)).isSome&&(hl h (.c (0,1) 4)).isSome&&(hl h (.c (0,1) 5)).isSome&&(hl h (.c (1,1) 0)).isSome)=true):
  fdK Tryz.prog (E3 (S22 N) (E22 N) (P22 N)) 64 WG (.tup [.agg [.i 0,.i 0,.i 0,.sl 2 false [] [.i 0,.i 0],.i 0,.i 0],.i 80]) (.p fV) ⟨e,h,c⟩:=by
 have hS:=J4 N
 simp only[Bool.and_eq_true,Option.isSome_iff_exists] at hh
 obtain⟨⟨⟨⟨⟨⟨⟨c0,h0⟩,⟨c1,h1⟩⟩,⟨c2,h2⟩⟩,⟨c3,h3⟩⟩,⟨c4,h4⟩⟩,⟨c5,h5⟩⟩,⟨d0,h6⟩⟩:=hh
 refine⟨_,_,ek,_,_,_,_,_,Tryz.func59,cZ,dA,by simp,dB,fun aa=> ?_⟩
 have ab:=Ctx.fd_ok (nt:=12) (hb:=aa) hS
 have F:=fc h0 (fc h1 (fc h2 (fc h3 (fc h4 (fc h5 (fc h6 f0))))))
 refine go hS F ?_
 refine cf F ?_
 refine go hS F ?_
 refine ct F ?_
 refine go hS F ?_
 refine LA ⟨by simp only[go_sem,seval], ?_⟩
 unfold WG
 exact⟨_,_,by simp only[go_sem,seval,e2,e3]<;>eq_refl,by simp only[go_sem,seval],by simp only[go_sem,seval],by simp only[go_sem,seval],rfl⟩
end
section
set_option maxRecDepth 100000 in
theorem Mu (N:Nat) (s:List UInt8) (r:Option (Int×Int×Int×List (Int×Int)×Int×Int)) (h:J5 N s=some r):
  PCall Tryz.prog 31 [.v (.string (sB s))] (match r with|some (a,b,c,l,f,g)=> .tup [.agg [.i a,.i b,.i c,.sl 2 false (l.map R9) [.i 0,.i 0],.i f,.i g],.i 0]|none=> .tup [.agg [.i 0,.i 0,.i 0,.sl 2 false [] [.i 0,.i 0],.i 0,.i 0],.i 80]):=by
 refine ML (J4 N) _ Tryz.func31 pD pE (by simp) fun hb=> ?_
 have hS:=J4 N
 have hOK:=Ctx.fd_ok (nt:=64) (hb:=hb) hS
 have F:=f0
 unfold cQ
 unfold J5 at h
 refine go hS F ?_
 refine Ob hS 1 rfl rfl (by simp only[go_sem,seval]<;>eq_refl) yT (by simp only[go_sem,seval]<;>eq_refl) (by simp only[go_sem,seval]<;>eq_refl) ?_
 refine go hS F ?_
 refine Li 30 ?_
 replace h:=C0 h
 obtain⟨a,p1,e0,k0,h⟩:=h
 refine go hS F ?_
 refine ct F ?_
 refine go hS F ?_
 rcases h with⟨he,rfl⟩|⟨rfl,h⟩
 ·replace F:=fc k0 (fc he F)
  refine G4 (p:=fV) hOK F 2 ?_
  repeat' (with_reducible first|apply CF|apply CG|apply CQ|apply Cr)
  exact BQ N (by simp only[go_sem,seval]) (by simp only[go_sem,seval]) (by simp only[go_sem,seval]) (by simp only[go_sem,seval,Option.isSome_some])
 replace F:=fc k0 F
 replace h:=C0 h
 obtain⟨b,p2,e1,k1,h⟩:=h
 refine go hS F ?_
 refine ct F ?_
 refine go hS F ?_
 rcases h with⟨he,rfl⟩|⟨rfl,h⟩
 ·replace F:=fc k1 (fc he F)
  refine G4 (p:=fV) hOK F 2 ?_
  repeat' (with_reducible first|apply CF|apply CG|apply CQ|apply Cr)
  exact BQ N (by simp only[go_sem,seval]) (by simp only[go_sem,seval]) (by simp only[go_sem,seval]) (by simp only[go_sem,seval,Option.isSome_some])
 replace F:=fc k1 F
 replace h:=C0 h
 obtain⟨c,p3,e2,k2,h⟩:=h
 refine go hS F ?_
 refine ct F ?_
 refine go hS F ?_
 rcases h with⟨he,rfl⟩|⟨rfl,h⟩
 ·replace F:=fc k2 (fc he F)
  refine G4 (p:=fV) hOK F 2 ?_
  repeat' (with_reducible first|apply CF|apply CG|apply CQ|apply Cr)
  exact BQ N (by simp only[go_sem,seval]) (by simp only[go_sem,seval]) (by simp only[go_sem,seval]) (by simp only[go_sem,seval,Option.isSome_some])
 replace F:=fc k2 F
 replace h:=C0 h
 obtain⟨f,p4,e3,k3,h⟩:=h
 refine go hS F ?_
 refine ct F ?_
 refine go hS F ?_
 rcases h with⟨he,rfl⟩|⟨rfl,h⟩
 ·replace F:=fc k3 (fc he F)
  refine G4 (p:=fV) hOK F 2 ?_
  repeat' (with_reducible first|apply CF|apply CG|apply CQ|apply Cr)
  exact BQ N (by simp only[go_sem,seval]) (by simp only[go_sem,seval]) (by simp only[go_sem,seval]) (by simp only[go_sem,seval,Option.isSome_some])
 replace F:=fc k3 F
 replace h:=C0 h
 obtain⟨g,p5,e4,k4,h⟩:=h
 refine go hS F ?_
 refine ct F ?_
 refine go hS F ?_
 rcases h with⟨he,rfl⟩|⟨rfl,h⟩
 ·replace F:=fc k4 (fc he F)
  refine G4 (p:=fV) hOK F 2 ?_
  repeat' (with_reducible first|apply CF|apply CG|apply CQ|apply Cr)
  exact BQ N (by simp only[go_sem,seval]) (by simp only[go_sem,seval]) (by simp only[go_sem,seval]) (by simp only[go_sem,seval,Option.isSome_some])
 replace F:=fc k4 F
 replace h:=C0 h
 obtain⟨n,p6,e5,k5,h⟩:=h
 refine go hS F ?_
 refine cf F ?_
 refine go hS F ?_
 rcases h with⟨he,rfl⟩|⟨rfl,h⟩
 ·replace F:=fc k5 (fc he F)
  refine G4 (p:=fV) hOK F 1 ?_
  repeat' (with_reducible first|apply CF|apply CG|apply CQ|apply Cr)
  exact BQ N (by simp only[go_sem,seval]) (by simp only[go_sem,seval]) (by simp only[go_sem,seval]) (by simp only[go_sem,seval,Option.isSome_some])
 replace F:=fc k5 F
 refine go hS F ?_
 simp only at h
 cases hc:decide ((3:Int)≤n)&&decide (n≤(8:Int)) with
 |false=>
  rw[hc,cond_false] at h
  obtain rfl:=yJ h
  refine ct (fc hc F) ?_
  refine Gx hOK 2 rfl rfl (by simp only[go_sem,seval]<;>eq_refl) (by simp only[go_sem,seval]) (by simp only[go_sem,seval]<;>eq_refl) ?_
  repeat' (with_reducible first|apply CF|apply CG|apply CQ|apply Cr)
  exact BQ N (by simp only[go_sem,seval]) (by simp only[go_sem,seval]) (by simp only[go_sem,seval]) (by simp only[go_sem,seval,Option.isSome_some])
 |true=>
 rw[hc,cond_true] at h
 have hn:3≤n∧n≤8:=by simpa using hc
 refine cf (fc hc F) ?_
 refine go hS F ?_
 refine Pi (s':=⟨[(35,.i 0),(34,.i n),(4,.box (202,3) 0),(3,.box (1,1) 0),(2,.box (0,1) 0),(2000064,.gd false (.clo (.func 59) [] [.box (0,1) 0,.box (1,1) 0])),(0,.v (.string (sB s)))],
  [(.c (202,3) 1,.i p6),(.c (202,3) 0,.v (.string (sB s))),(.c (1,1) 0,.i 0),(.c (0,1) 0,.i a),(.c (0,1) 1,.i b),(.c (0,1) 2,.i c),(.c (0,1) 3,.sl 0 true [] []),(.c (0,1) 4,.i f),(.c (0,1) 5,.i g)],100⟩) (leF F) ?_
 refine E4 1 (0,1) 3 2 [.i 0,.i 0] (by omega) (by simp only[go_sem,seval]<;>eq_refl) ?_
 have key:∀(x:Nat×Nat×Int×List (Int×Int)×Nat),True:=fun _=>trivial
 refine Ez (fun x:Nat×Nat×Int×List (Int×Int)×Nat=>⟨[(35,.i x.2.1),(34,.i n),(4,.box (202,3) 0),(3,.box (1,1) 0),(2,.box (0,1) 0),(2000064,.gd false (.clo (.func 59) [] [.box (0,1) 0,.box (1,1) 0])),(0,.v (.string (sB s)))],
  [(.c (202,3) 1,.i x.2.2.1),(.c (202,3) 0,.v (.string (sB s))),(.c (1,1) 0,.i 0),(.c (0,1) 0,.i a),(.c (0,1) 1,.i b),(.c (0,1) 2,.i c),(.c (0,1) 3,.own (1,101) x.2.2.2.1.length),(.a (1,101),.sl 2 true (x.2.2.2.1.map R9) [.i 0,.i 0]),(.c (0,1) 4,.i f),(.c (0,1) 5,.i g)],x.2.2.2.2⟩)
  (fun x=>pb (dP N s x.1 x.2.2.1 x.2.2.2.1) (fun(l,p7)=>bif decide (p7<(s.length:Int)) then some none else(Sh N a b c l f g).bind fun v=>some (bif v then some (a,b,c,l,f,g) else none))=some r∧x.2.1+x.1=n.toNat∧x.2.2.2.1.length=x.2.1) (fun x=>x.1) (n.toNat,0,p6,[],101) ⟨h,by simp,rfl⟩ ?_ ?_
 ·exact leF F
 ·rintro⟨k,j,p,ls,cc⟩ ⟨hd,hj,hls⟩
  simp only at hd hj hls
  refine go hS F ?_
  refine cb F (decide ((j:Int)<n)) (fun hc=> ?_) fun hc=> ?_
  ·have hc:=of_decide_eq_true hc
   obtain _|k:=k
   ·omega
   simp only[dP] at hd
   rw[NZ] at hd
   replace hd:=C0 hd
   obtain⟨x,q,ex,m1,hd⟩:=hd
   refine go hS F ?_
   rcases hd with⟨he,rfl⟩|⟨rfl,hd⟩
   ·replace F:=fc m1 (fc he F)
    refine G4 (p:=fV) hOK F 1 ?_
    repeat' (with_reducible first|apply CF|apply CG|apply CQ|apply Cr)
    exact BQ N (by simp only[go_sem,seval]) (by simp only[go_sem,seval]) (by simp only[go_sem,seval]) (by simp only[go_sem,seval,Option.isSome_some])
   simp only at hd
   rw[NZ] at hd
   replace hd:=C0 hd
   obtain⟨y,w,ey,m2,hd⟩:=hd
   rcases hd with⟨he,rfl⟩|⟨rfl,hd⟩
   ·replace F:=fc m1 (fc m2 (fc he F))
    refine go hS F ?_
    refine Q1 (p:=fV) hOK F 4 (.i 0) ?_
    repeat' (with_reducible first|apply CF|apply CG|apply CQ|apply Cr)
    exact BQ N (by simp only[go_sem,seval]) (by simp only[go_sem,seval]) (by simp only[go_sem,seval]) (by simp only[go_sem,seval,Option.isSome_some])
   refine go hS (fc m1 (fc m2 F)) ?_
   refine Fb (k,j+1,w,ls++[(x,y)],cc+100) ⟨hd,by simp only;omega,by simp[hls]⟩ (Nat.lt_succ_self _) (Le.of ?_ ?_ ?_)
   ·simp only[go_sem,seval,F]<;>simp
   ·simp only[go_sem,seval,F,List.map_append,List.map_cons,List.map_nil]
   ·simp
  ·have hc:=of_decide_eq_false hc
   have hk:k=0:=by omega
   subst hk
   simp only[dP,pb] at hd
   cases c9:decide (p<(s.length:Int)) with
   |true=>
    rw[c9,cond_true] at hd
    obtain rfl:=yJ hd
    refine go hS (fc c9 F) ?_
    refine ct (fc c9 F) ?_
    refine Gx hOK 2 rfl rfl (by simp only[go_sem,seval]<;>eq_refl) (by simp only[go_sem,seval]) (by simp only[go_sem,seval]<;>eq_refl) ?_
    repeat' (with_reducible first|apply CF|apply CG|apply CQ|apply Cr)
    exact BQ N (by simp only[go_sem,seval]) (by simp only[go_sem,seval]) (by simp only[go_sem,seval]) (by simp only[go_sem,seval,Option.isSome_some])
   |false=>
   rw[c9,cond_false] at hd
   obtain⟨v,h9,hd⟩:=yB.1 hd
   replace F:=fc c9 (fc h9 F)
   refine go hS F ?_
   cases v with
   |false=>
    obtain rfl:=yJ hd
    refine ct F ?_
    refine Gx hOK 2 rfl rfl (by simp only[go_sem,seval]<;>eq_refl) (by simp only[go_sem,seval]) (by simp only[go_sem,seval]<;>eq_refl) ?_
    repeat' (with_reducible first|apply CF|apply CG|apply CQ|apply Cr)
    exact BQ N (by simp only[go_sem,seval]) (by simp only[go_sem,seval]) (by simp only[go_sem,seval]) (by simp only[go_sem,seval,Option.isSome_some])
   |true=>
   obtain rfl:=yJ hd
   refine cf F ?_
   refine go hS F ?_
   refine .inr ⟨_,_,(by simp only[go_sem,seval]<;>eq_refl), ?_⟩
   refine⟨_,_,_,_,_,Tryz.func59,cZ,dA,by simp,dB,fun aa=> ?_⟩
   have ab:=Ctx.fd_ok (nt:=12) (hb:=aa) hS
   refine go hS F ?_
   refine ct F ?_
   refine go hS F ?_
   unfold WG
   refine LA ⟨by simp only[go_sem,seval],_,_,(by simp only[go_sem,seval]<;>eq_refl),by simp only[go_sem,seval],by simp only[go_sem,seval], ?_,rfl⟩
   simp only[go_sem,seval]
end
end Go.Proofs.YtdabfcbelkjmgaaGreatDoor.Am
namespace Go.Proofs.YtdabfcbelkjmgaaGreatDoor.Am
open Go
attribute [local irreducible] awp Ed Df Dr Ee Bz B8 Dg DM itK
set_option maxRecDepth 100000
set_option maxHeartbeats 8000000
set_option linter.unusedSimpArgs false
set_option linter.unusedVariables false
def CJ (N:Nat) (a b c:Int) (l:List (Int×Int)) (p q:Int):Option (List UInt8×Int):=
 (Sh N a b c l p q).bind fun v=>
 gd (l.length≤1000000)<|
 some (bif v then E6 a b c l p q else[],bif v then 0 else 80)
theorem Hh (N:Nat) (a b c:Int) (l:List (Int×Int)) (p q:Int) (r:List UInt8×Int) (h:CJ N a b c l p q=some r):
  PCall Tryz.prog 27 [.agg [.i a,.i b,.i c,.sl 2 false (l.map R9) [.i 0,.i 0],.i p,.i q]] (.tup [.v (.string (sB r.1)),.i r.2]):=by
 unfold CJ at h
 obtain⟨v,h1,h2⟩:=yB.1 h
 simp only[Ov] at h2
 obtain⟨h3,h2⟩:=h2
 cases h2
 exact Mt N a b c l p q v h1 h3
def s27 (N:Nat):Bt
 |[.agg [.v (.int .i64 a),.v (.int .i64 b),.v (.int .i64 c),.sl yl _ l _,.v (.int .i64 p),.v (.int .i64 q)]]=>some (((yl=2∨l=[])∧l=(l.map R8).map R9)∧(CJ N a b c (l.map R8) p q).isSome=true,.tup [.v (.string (sB ((CJ N a b c (l.map R8) p q).getD ([],0)).1)),.i ((CJ N a b c (l.map R8) p q).getD ([],0)).2])
 |_=>none
theorem R3 (N:Nat):FOK Tryz.prog 27 (s27 N):=⟨oZ,by
 intro args vc r h hv
 unfold s27 at h
 split at h
 ·cases h
  obtain⟨⟨ae,af⟩,hs⟩:=hv
  obtain⟨r,hr⟩:=yX hs
  have hk:=Hh N _ _ _ _ _ _ r hr
  simp only[hr,Option.getD_some]
  refine PCall.arg ?_ hk
  simp only[wkL,wk,and_true,true_and,yF,false_implies,implies_true]
  repeat' (first|exact yT|assumption|apply And.intro)
 ·simp at h⟩
def Bh (N:Nat) (s:List UInt8):Option ((Int×Int×Int×List (Int×Int)×Int×Int)×Int):=(J5 N s).map fun r=>match r with|some x=>(x,0)|none=>((0,0,0,[],0,0),80)
theorem Hi (N:Nat) (s:List UInt8) (r:(Int×Int×Int×List (Int×Int)×Int×Int)×Int) (h:Bh N s=some r):
  PCall Tryz.prog 31 [.v (.string (sB s))] (.tup [.agg [.i r.1.1,.i r.1.2.1,.i r.1.2.2.1,.sl 2 false (r.1.2.2.2.1.map R9) [.i 0,.i 0],.i r.1.2.2.2.2.1,.i r.1.2.2.2.2.2],.i r.2]):=by
 unfold Bh at h
 obtain⟨x,h1,h2⟩:=Option.map_eq_some_iff.1 h
 have:=Mu N s x h1
 subst h2
 rcases x with _|⟨a,b,c,l,f,g⟩<;>exact this
def s31 (N:Nat):Bt
 |[.v (.string s)]=>some ((Bh N (bL s)).isSome=true,.tup [.agg [.i ((Bh N (bL s)).getD ((0,0,0,[],0,0),0)).1.1,.i ((Bh N (bL s)).getD ((0,0,0,[],0,0),0)).1.2.1,.i ((Bh N (bL s)).getD ((0,0,0,[],0,0),0)).1.2.2.1,.sl 2 false (((Bh N (bL s)).getD ((0,0,0,[],0,0),0)).1.2.2.2.1.map R9) [.i 0,.i 0],.i ((Bh N (bL s)).getD ((0,0,0,[],0,0),0)).1.2.2.2.2.1,.i ((Bh N (bL s)).getD ((0,0,0,[],0,0),0)).1.2.2.2.2.2],.i ((Bh N (bL s)).getD ((0,0,0,[],0,0),0)).2])
 |_=>none
theorem R4 (N:Nat):FOK Tryz.prog 31 (s31 N):=⟨pF,by
 intro args vc r h hv
 unfold s31 at h
 split at h
 ·cases h
  obtain⟨r,hr⟩:=yX hv
  have hk:=Hi N _ r hr
  simp only[hr,Option.getD_some]
  rw[Fj] at hk
  exact hk
 ·simp at h⟩
end Go.Proofs.YtdabfcbelkjmgaaGreatDoor.Am
