import Derived.Test.YtciphecegkfaiaaGreatE1
set_option linter.unusedSimpArgs false
set_option linter.unusedVariables false
namespace Go.Proofs.YtciphecegkfaiaaGreat.Am
open Go
section
attribute [local irreducible] As Cn B6 BK CA BJ Bv Cl Cv Dx
set_option maxRecDepth 100000
set_option maxHeartbeats 8000000
def Ho(N:Nat)(aa:Int)(s604:List UInt8):Nat->Int->Int->Option (Sum Unit ((Int×Int×Int)))|0,_,_=>none|n+1,ah,ae=>bif decide (ae<9)then(gd (Ab (aa+ae))<|bif decide ((s604.length:Int)<=aa+ae)then(some (.inl ()))else(gd (Ab (aa+ae))<|gd (0<=aa+ae/\aa+ae<(s604.length:Int))<|gd (Ab (7*ae))<|gd (0<=7*ae)<|bif decide (128<=((s604.getD (aa+ae).toNat 0).toNat:Int))then(gd (Ab (ae+1))<|Ho N aa s604 n (B9 .or .u64 ah (CQ .shl .u64 (IntKind.wrap .u64 (B9 .and .u8 ((s604.getD (aa+ae).toNat 0).toNat:Int) 127)) (7*ae))) (ae+1))else(gd (Ab (-(IntKind.wrap .i64 (B9 .and .u64 (B9 .or .u64 ah (CQ .shl .u64 (IntKind.wrap .u64 (B9 .and .u8 ((s604.getD (aa+ae).toNat 0).toNat:Int) 127)) (7*ae))) 1))))<|bif ((decide (((s604.getD (aa+ae).toNat 0).toNat:Int)=0))&&(decide (0<ae)))||(decide (B9 .xor .i64 (IntKind.wrap .i64 (CQ .shr .u64 (B9 .or .u64 ah (CQ .shl .u64 (IntKind.wrap .u64 (B9 .and .u8 ((s604.getD (aa+ae).toNat 0).toNat:Int) 127)) (7*ae))) 1)) (-(IntKind.wrap .i64 (B9 .and .u64 (B9 .or .u64 ah (CQ .shl .u64 (IntKind.wrap .u64 (B9 .and .u8 ((s604.getD (aa+ae).toNat 0).toNat:Int) 127)) (7*ae))) 1)))<(-4611686018427387903)))then(some (.inl ()))else(gd (Ab (aa+ae))<|gd (Ab ((aa+ae)+1))<|some (.inr (B9 .xor .i64 (IntKind.wrap .i64 (CQ .shr .u64 (B9 .or .u64 ah (CQ .shl .u64 (IntKind.wrap .u64 (B9 .and .u8 ((s604.getD (aa+ae).toNat 0).toNat:Int) 127)) (7*ae))) 1)) (-(IntKind.wrap .i64 (B9 .and .u64 (B9 .or .u64 ah (CQ .shl .u64 (IntKind.wrap .u64 (B9 .and .u8 ((s604.getD (aa+ae).toNat 0).toNat:Int) 127)) (7*ae))) 1))),(aa+ae)+1,0))))))else(some (.inl ()))
def EP(N:Nat)(s604:List UInt8)(aa:Int):Option (Int×Int×Int):=bif (decide (aa<0))||(decide ((s604.length:Int)<aa))then(some (0,0,2))else((Ho N aa s604 N 0 0).bind λaj=>match aj with|.inl ()=>(some (0,0,10))|.inr ak=>(some ak))
@[go_sem] def yU(N:Nat):Spec:=p0<|pT λs604=>pI λaa=>pE<|pF (EP N s604 aa) (0,0,0) λr=>.tup [.i r.1,.i r.2.1,.i r.2.2]
theorem Zo(N:Nat):AZ Tryz.prog 67 (yU N):=by
 refine Ax x67.ok<|LH λs604=>Ad λaa=>Ai<|Ay λr h=>wx x67 (An) λ_ hS F=>?_
 dsimp only[x67,Al];unfold EP at h;refine Ap hS F h (λ_ h=>?_) (λ_ h=>?_)
 ·exact Af hS F h
 ·obtain⟨aj,aq,h⟩:=un h;refine go hS F ?_;refine AM aj (λz:Nat=>⟨[],[],z⟩) (λz=>(.inl ():Sum Unit ((Int×Int×Int)))) (.x 0) ?_ ?_
  ·refine AH (λn (y:Int×Int×Nat)=>Ho N aa s604 n y.1 y.2.1) (λy=>⟨[(0,.v (.string (sB s604))),(1,.i aa),(7,.v (.int .u64 y.1)),(19,.i y.2.1)],[],y.2.2⟩) (0,0,4) aq (Bn F) ?_;rintro n ⟨ah,ae,ai⟩ af;simp only[Ho]at af;refine Ap hS F af (λ_ af=>?_) (λ_ af=>?_)
   ·obtain⟨bg,af⟩:=un af;refine Ap hS F af (λ_ af=>?_) (λ_ af=>?_)
    ·exact A9 hS F (ai+1+1+1) af
    ·obtain⟨be,bb,az,ay,af⟩:=un af;refine Ap hS F af (λ_ af=>?_) (λ_ af=>?_)
     ·obtain⟨aw,af⟩:=un af;exact Bk hS F (n,B9 .or .u64 ah (CQ .shl .u64 (IntKind.wrap .u64 (B9 .and .u8 ((s604.getD (aa+ae).toNat 0).toNat:Int) 127)) (7*ae)),ae+1,ai+1+1+1+1+1+1+1) af
     ·obtain⟨av,af⟩:=un af;refine Ap hS F af (λ_ af=>?_) (λ_ af=>?_)
      ·exact A9 hS F (ai+1+1+1+1+1+1+1+1) af
      ·obtain⟨an,am,af⟩:=un af;obtain rfl:=yJ af;exact Af hS F h
   ·exact A9 hS F (ai+1) af
  ·rintro au rfl;exact Af hS F h
end
section
attribute [local irreducible] As Cn B6 BK CA BJ Bv Cl Cv Dx
set_option maxRecDepth 100000
set_option maxHeartbeats 8000000
attribute [local go_sem] Option.isSome_some vZ P3 By XS
def Ky(z:Int):Int:=IntKind.wrap .u8 (B9 .and .u64 z 127)
def E3:Nat->Int->List (Int×Bool)|0,_=>[]|f+1,z=>if z<128 then[(Ky z,true)]else(Ky z,false)::E3 f (CQ .shr .u64 z 7)
def qL(e:Int×Bool):List AV:=[.v (.int .u8 e.1),.v (.bool e.2)]
theorem mV(z:Int):CQ .shr .u64 z 7=z/128:=by show z.fdiv (2^min (7:Int).toNat 64)=z/128;rw[show(2:Int)^min (7:Int).toNat 64=128 by decide];exact Int.fdiv_eq_ediv_of_nonneg z (by decide)
theorem Ql{f:Nat}{z:Int}(h:z<128):E3 (f+1) z=[(Ky z,true)]:=eX h
theorem Qm{f:Nat}{z:Int}(h:¬z<128):E3 (f+1) z=(Ky z,false)::E3 f (CQ .shr .u64 z 7):=eW h
theorem Ra:∀(f:Nat)(z:Int),(E3 f z).length<=f
 |0,z=>by simp[E3]
 |f+1,z=>by
  have:=Ra f (CQ .shr .u64 z 7);unfold E3;split
  ·simp
  ·simp only[pC];omega
theorem fQ(z0:Int)(m:Nm)(hz0:0<=z0/\z0<128^10):nT Tryz.prog 165 [] [.box m 0] m [.v (.int .u64 z0)] ((E3 10 z0).map qL):=by
 refine qZ (An (P:=Tryz.prog)) _ x165.hf x165.hc x165.hn (by simp[x165,Al,gs]) (mO rfl) λl V hOK hTS hY=>?_
 have hS:=An (P:=Tryz.prog);dsimp only[x165,Al,DE];refine go hS (fc hTS f0) ?_;refine Is (λx:Nat×Int×Nat×Nat=>⟨[(1,.box m 0),(gs,CL x.2.2.1),(0,.clo (.yield l) [] [])],[(.c m 0,.v (.int .u64 x.2.1))],x.2.2.2⟩)
  (λx=>(0<x.1/\0<=x.2.1/\x.2.1<128^x.1)/\((E3 10 z0).drop x.2.2.1=E3 x.1 x.2.1/\x.2.2.1<=(E3 10 z0).length)) (λx=>x.1) (10,z0,0,m.2) ?_ ?_ ?_
 ·exact⟨⟨Nat.zero_lt_succ _,hz0⟩,rfl,t7 _⟩
 ·refine Le.of ?_ ?_ (by simp)<;>(simp only[go_sem,seval];try simp)
 ·rintro⟨f,z,k,c⟩ ⟨⟨hf,hz1,hz2⟩,hk,hkl⟩;simp only at hf hz1 hz2 hk hkl;obtain _|f:=f
  ·exact absurd hf (X0 _)
  have hkl':k<(E3 10 z0).length:=by
   have:=congrArg List.length hk;rw[s9]at this;by_cases hz:z<128
   ·rw[Ql hz,pC]at this;omega
   ·rw[Qm hz,pC]at this;omega
  by_cases hz:z<128
  ·have hk':(E3 10 z0).drop k=[(Ky z,true)]:=by rw[hk,Ql hz]
   have hk1:k+1=(E3 10 z0).length:=by have:=congrArg List.length hk';simp only[s9,pC,CP]at this;omega
   have hxs:((E3 10 z0).map qL)[k]? =some [.v (.int .u8 (Ky z)),.v (.bool true)]:=by
    have:(E3 10 z0)[k]? =((E3 10 z0).drop k)[0]? :=by simp
    rw[qX,this,hk'];rfl
   refine go hS (fc hz (fc hTS f0)) ?_;refine hY 5 (args:=[.v (.int .u8 (Ky z)),.v (.bool true)]) rfl (by simp only[go_sem,seval,hTS,hz]<;>eq_refl) (by simp only[go_sem,seval,hTS,hz]<;>eq_refl) (by decide) (by simp only[go_sem,seval]<;>eq_refl) (by simp only[go_sem,seval]<;>eq_refl) (by simp only[go_sem,seval]<;>eq_refl) (by simp only[go_sem,seval,Am.Ky]<;>eq_refl) hxs (by simp only[go_sem,seval,hTS]<;>eq_refl) ?_ ?_ (by simp only[go_sem,seval,hTS]<;>eq_refl) ?_ ?_
   ·simp only[go_sem,seval]
   ·refine go hS (fc hTS f0) ?_;refine Lg (by simp only[go_sem,seval]<;>eq_refl) ?_;refine go hS (fc hTS f0) ?_;refine Abd ?_;simp only[go_sem,seval,p9];rw[<-hk1];rfl
   ·simp only[go_sem,seval]
   ·refine go hS (fc hTS f0) ?_;refine Lg (by simp only[go_sem,seval]<;>eq_refl) ?_;refine go hS (fc hTS f0) ?_;refine R4 ?_;simp only[go_sem,seval]
  ·have hk':(E3 10 z0).drop k=(Ky z,false)::E3 f (CQ .shr .u64 z 7):=by rw[hk,Qm hz]
   have hxs:((E3 10 z0).map qL)[k]? =some [.v (.int .u8 (Ky z)),.v (.bool false)]:=by
    have:(E3 10 z0)[k]? =((E3 10 z0).drop k)[0]? :=by simp
    rw[qX,this,hk'];rfl
   refine go hS (fc hz (fc hTS f0)) ?_;refine hY 5 (args:=[.v (.int .u8 (Ky z)),.v (.bool false)]) rfl (by simp only[go_sem,seval,hTS,hz]<;>eq_refl) (by simp only[go_sem,seval,hTS,hz]<;>eq_refl) (by decide) (by simp only[go_sem,seval]<;>eq_refl) (by simp only[go_sem,seval]<;>eq_refl) (by simp only[go_sem,seval]<;>eq_refl) (by simp only[go_sem,seval,Am.Ky]<;>eq_refl) hxs (by simp only[go_sem,seval,hTS]<;>eq_refl) ?_ ?_ (by simp only[go_sem,seval,hTS]<;>eq_refl) ?_ ?_
   ·simp only[go_sem,seval]
   ·refine go hS (fc hTS f0) ?_;refine Nr (by simp only[go_sem,seval]<;>eq_refl) ?_;refine go hS (fc hTS f0) ?_;have hf0:0<f:=by
     rcases Nat.eq_zero_or_pos f with rfl|h
     ·exact absurd hz2 (by simp only[s6,Int.pow_one]at hz2⊢;omega)
     ·exact h
    refine H4 (f,CQ .shr .u64 z 7,k+1,c+50) ⟨⟨hf0,?_,?_⟩,?_,by show k+1<=_;omega⟩ (Wm _) (Le.of ?_ ?_ ?_)
    ·show 0<=CQ .shr .u64 z 7;rw[mV];omega
    ·show CQ .shr .u64 z 7<128^f;rw[mV];rw[Int.pow_succ]at hz2;omega
    ·show(E3 10 z0).drop (k+1)=_;have:(E3 10 z0).drop (k+1)=((E3 10 z0).drop k).drop 1:=by simp
     rw[this,hk'];rfl
    ·simp only[go_sem,seval]<;>simp
    ·simp only[go_sem,seval]
    ·simp
   ·simp only[go_sem,seval]
   ·refine go hS (fc hTS f0) ?_;refine Lg (by simp only[go_sem,seval]<;>eq_refl) ?_;refine go hS (fc hTS f0) ?_;refine R4 ?_;simp only[go_sem,seval]
def zz(n:Int):Int:=B9 .xor .u64 (CQ .shl .u64 (IntKind.wrap .u64 n) 1) (IntKind.wrap .u64 (CQ .shr .i64 n 63))
def WC(e:Int×Bool):Int:=if e.2=true then e.1 else B9 .or .u8 e.1 128
def Ti(n:Int):List Int:=(E3 10 (zz n)).map WC
def OS(l:List Int):List UInt8:=l.map λx=>UInt8.ofNat x.toNat
def EV(n:Int):List UInt8:=bif decide (n< -4611686018427387903)||decide (4611686018427387903<n)then[]else OS (Ti n)
def QG(x:Int):List AV:=[.v (.int .u8 x)]
theorem AaB(l:List Int):(l.map QG).all OL=true:=by induction l with|nil=>rfl|cons x l ih=>simp[QG,OL]
attribute [local go_sem] AaB
theorem uY(l:List Int):(l.map QG).map M7=OS l:=by induction l with|nil=>rfl|cons x l ih=>rw[eZ,eZ,ih];rfl
attribute [local go_sem] uY
theorem mW(n:Int):0<=IntKind.wrap .u64 n/\IntKind.wrap .u64 n<128^10:=by
 have h:IntKind.wrap .u64 n=n%2^64:=by simp[IntKind.wrap,IntKind.bits,IntKind.signed]
 rw[h];have:(2:Int)^64=18446744073709551616:=by decide
 rw[this,show(128:Int)^10=1180591620717411303424 by decide];omega
theorem Ab5(n:Int):0<=zz n/\zz n<128^10:=mW _
theorem fR(n:Int):PCall Tryz.prog 94 [.i n] (.tup [.v (.string (sB (EV n))),.i (bif decide (n< -4611686018427387903)||decide (4611686018427387903<n)then 10 else 0)]):=by
 refine N5 (An (P:=Tryz.prog)) _ x94.hf x94.hc x94.hn (mO rfl) λ_=>?_
 have hS:=An (P:=Tryz.prog);dsimp only[x94,Al,DE];refine go hS f0 ?_;refine Aba (b:=decide (n< -4611686018427387903)||decide (4611686018427387903<n)) (by simp only[go_sem,seval]<;>eq_refl) (λhb=>?_) λhb=>?_
 ·refine go hS f0 ?_
  first|refine Mc (by simp only[go_sem,seval]<;>eq_refl) (by simp only[go_sem,seval]) (by simp only[go_sem,seval]) ?_ rfl|refine Md (by simp only[go_sem,seval]<;>eq_refl) (by simp only[go_sem,seval]) (by simp only[go_sem,seval]) ?_ rfl
  simp only[EV,hb,go_sem,seval]
 ·refine go hS f0 ?_;refine DO hS 7 x135.hf x135.hc x135.hn x135.ok rfl (by simp only[go_sem,seval]<;>eq_refl) (by simp only[go_sem,seval]<;>eq_refl) ?_ rfl (by simp only[go_sem,seval]<;>eq_refl) (mO rfl) λ_=>?_
  ·exact yT
  dsimp only[x135,Al,DE];refine go hS f0 ?_;refine Dy 1 (300,3) 0 1 [.v (.int .u8 0)] (by omega) (by simp only[go_sem,seval]<;>eq_refl) ?_;have hlen:=Ra 10 (zz n);refine aF (0,5) [.v (.int .u64 (zz n))] (λx:Nat×List Int×Nat=>([(.c (300,3) 0,.own (1,8) x.2.1.length),(.a (1,8),.sl 1 true (x.2.1.map QG) [.v (.int .u8 0)])],x.2.2))
   (λx=>x.2.1=((E3 10 (zz n)).take x.1).map WC/\x.1<=(E3 10 (zz n)).length) (λx=>x.1) (0,[],8) (by simp only[go_sem,seval]<;>eq_refl) (fQ (zz n) (0,5) (Ab5 n)) x165.ok ⟨rfl,rfl,rfl⟩ ⟨rfl,rfl,rfl⟩ (λj=>by simp[hl]) (by simp) (by intro a ha;obtain⟨y,_,rfl⟩:=tI.1 ha;exact⟨rfl,rfl⟩) ⟨rfl,t7 _⟩ rfl ?_ ?_ ?_
  ·exact Bn f0
  ·rintro l ⟨k,out,c⟩ ⟨hout,hk⟩ args ha;simp only at hout hk;obtain⟨⟨g,last⟩,hy,rfl,hlt⟩:=J6 ha;have hout2:out++[WC (g,last)]=((E3 10 (zz n)).take (k+1)).map WC:=by
    have:(E3 10 (zz n))[k]? =some (g,last):=by
     have:(E3 10 (zz n))[k]? =((E3 10 (zz n)).drop k)[0]? :=by simp
     rw[this,hy];rfl
    rw[List.take_add_one,this,w9,hout];rfl
   have hol:out.length=k:=by rw[hout];simp;omega
   clear ha hy;simp only[qL,GU];have hOK:=Ctx.rdG_ok (nt:=33) (l:=l) hS;cases last with
   |true=>refine go hS f0 ?_;refine Nr (by simp only[go_sem,seval]<;>eq_refl) ?_;refine go hS f0 ?_;refine Vx (k+1,out++[g],c+50) ⟨by rw[<-hout2];rfl,hlt⟩ rfl ?_;refine Le.of ?_ ?_ (by first|exact fA _|(simp;omega)|simp)<;>first|(simp only[go_sem,seval,QG];done)|(simp only[go_sem,seval,QG,w9,eZ,w7,List.map_set,List.map_take,List.map_drop];done)|(simp[QG,w9,List.map_set];done)
   |false=>refine go hS f0 ?_;refine Lg (by simp only[go_sem,seval]<;>eq_refl) ?_;refine go hS f0 ?_;refine Vx (k+1,out++[B9 .or .u8 g 128],c+50) ⟨by rw[<-hout2];rfl,hlt⟩ rfl ?_;refine Le.of ?_ ?_ (by first|exact fA _|(simp;omega)|simp)<;>first|(simp only[go_sem,seval,QG];done)|(simp only[go_sem,seval,QG,w9,eZ,w7,List.map_set,List.map_take,List.map_drop];done)|(simp[QG,w9,List.map_set];done)
  ·rintro⟨k,out,c⟩ ⟨hout,hk⟩ hk2;simp only at hout hk;refine go hS f0 ?_
   first|refine Mc (by simp only[go_sem,seval]<;>eq_refl) (by simp only[go_sem,seval]) (by simp only[go_sem,seval]) ?_ rfl|refine Md (by simp only[go_sem,seval]<;>eq_refl) (by simp only[go_sem,seval]) (by simp only[go_sem,seval]) ?_ rfl
   have:out=Ti n:=by rw[hout,show k=_ from hk2,Ti,p9,Wq]
   simp only[EV,hb,this,go_sem,seval]
end
section
attribute [local irreducible] As Cn B6 BK CA BJ Bv Cl Cv Dx
set_option maxRecDepth 100000
set_option maxHeartbeats 8000000
def Qn:Spec|[.v (.int .i64 n)]=>some (True,.tup [.v (.string (sB (EV n))),.i (bif decide (n< -4611686018427387903)||decide (4611686018427387903<n)then 10 else 0)])|_=>none
attribute [local go_sem] Qn
theorem Rb:AZ Tryz.prog 94 Qn:=⟨x94.ok,by
 intro args vc r h hv;unfold Qn at h;split at h
 ·cases h
  exact fR _
 ·simp at h⟩
def S42:List (Nat×Spec):=[(94,Qn)]
attribute [local go_sem] S42
theorem fS:TabOK Tryz.prog (HA S42):=Ac Rb An
def Ub(x:Int):List AV:=[.i x]
theorem eI_row(ns:List Int)(d:List AV)(j:Nat)(h:j<ns.length):BG (ns.map Ub) d j=[.i (ns.getD j 0)]:=by unfold BG;simp[eT,h,Ub]
def Dc(ns:List Int):List UInt8:=(ns.map EV).flatten
theorem mX:FU Tryz.prog 166:=⟨Tryz.f166,Tryz.func166,by kernel_rfl,by kernel_rfl⟩
theorem fT:FU Tryz.prog 137:=⟨Tryz.f137,Tryz.func137,by kernel_rfl,by kernel_rfl⟩
theorem uZ(ns:List Int)(j:Nat):(Dc (ns.take j)).length<=(Dc ns).length:=by
 have:Dc ns=Dc (ns.take j)++Dc (ns.drop j):=by unfold Dc;rw[<-List.flatten_append,<-w9,KL]
 rw[this,fF];omega
theorem fU{ns:List Int}{j:Nat}(h:j<ns.length):Dc (ns.take (j+1))=Dc (ns.take j)++EV (ns.getD j 0):=by
 unfold Dc;have:ns[j]? =some (ns.getD j 0):=by simp[eT,h]
 rw[List.take_add_one,this];simp
theorem Uc(ns:List Int)(f:Bool)(d:List AV)(l:List UInt8)(hl:(l++Dc ns).length<=140737488355328)(hn:ns.length<=1000000):RC Tryz.prog 136 [.sl 1 f (ns.map Ub) d] l (some (l++Dc ns)) (.tup []):=by
 refine iV fS _ x136.hf x136.hc x136.hn (by decide) (mO rfl) λhb N X b=>?_
 have hS:=fS;have hOK:=Ctx.bd_ok (nt:=25) (hb:=hb) (N:=N) (X:=X) (hnt:=by decide) hS;dsimp only[x136,Al,DE];refine go hS f0 ?_;refine Is (λx:Nat×Nat=>⟨[(10,.i x.1),(9,.i ns.length),(8,.sl 1 f (ns.map Ub) d),(0,.v (.pointer (some ⟨b,0,none⟩))),(bk,gB b (l++Dc (ns.take x.1)))],[],x.2⟩)
  (λx=>x.1<=ns.length) (λx=>ns.length-x.1) (0,50) ?_ ?_ ?_
 ·exact t7 _
 ·refine Le.of ?_ ?_ (by simp)<;>(simp only[go_sem,seval,Dc];try simp)
 ·rintro⟨j,c⟩ hj;simp only at hj
  repeat' (first
  |((with_reducible first|apply FP|apply GN|apply GI|apply HY|apply FQ|apply FR);(·(first|exact Ctx.fn_ok hS|exact Ctx.rd_ok hS|assumption|exact yT));iterate 2 (·(simp only[go_sem,seval]<;>eq_refl)))
  |(with_reducible first|apply FM|apply GD|apply Fm|apply FL|apply EZ|apply El|apply Ez|apply Fe|apply GE|apply GF|apply Gd|apply GG|apply F1)
  |(with_reducible apply GH;(·first|rfl|decide))
  |(with_reducible first|apply FN|apply FO|apply GK|apply GL|apply GM|apply yT|apply And.intro yT yT)
  |(fail_if_success with_reducible apply Jx);(fail_if_success with_reducible apply GJ);first|omega|(simp only[go_sem,seval];done)
  |fail)
  refine Vw ((j:Int)<ns.length) (by simp only[go_sem,seval]<;>eq_refl) (by first|simp only[Bool.decide_or,Bool.decide_and,decide_not]|simp) (λhj1=>?_) (λhj1=>?_)
  ·have hj':j<ns.length:=by omega
   have hrow:=eI_row ns d j hj';have hsu:=fU hj';have hle:=uZ ns (j+1);rw[hsu,fF]at hle;have hl2:(l++Dc (ns.take j)).length+(EV (ns.getD j 0)).length<=140737488355328:=by rw[fF]at hl⊢;omega
   repeat' (first
  |((with_reducible first|apply FP|apply GN|apply GI|apply HY|apply FQ|apply FR);(·(first|exact Ctx.fn_ok hS|exact Ctx.rd_ok hS|assumption|exact yT));iterate 2 (·(simp only[go_sem,seval,hrow]<;>eq_refl)))
  |(with_reducible first|apply FM|apply GD|apply Fm|apply FL|apply EZ|apply El|apply Ez|apply Fe|apply GE|apply GF|apply Gd|apply GG|apply F1)
  |(with_reducible apply GH;(·first|rfl|decide))
  |(with_reducible first|apply FN|apply FO|apply GK|apply GL|apply GM|apply yT|apply And.intro yT yT)
  |(fail_if_success with_reducible apply Jx);(fail_if_success with_reducible apply GJ);first|omega|(simp only[go_sem,seval,hrow];done)
  |fail)
   refine MN hS 4 rfl mX (by simp only[go_sem,seval]<;>eq_refl) yT (by simp only[go_sem,seval]<;>eq_refl) (by simp only[go_sem,seval]<;>eq_refl) (by simp only[go_sem,seval]<;>eq_refl) (by simp only[go_sem,seval,EY]<;>eq_refl) rfl rfl (W3 hl2) (by simp only[go_sem,seval]<;>eq_refl) yT ?_
   repeat' (first
  |((with_reducible first|apply FP|apply GN|apply GI|apply HY|apply FQ|apply FR);(·(first|exact Ctx.fn_ok hS|exact Ctx.rd_ok hS|assumption|exact yT));iterate 2 (·(simp only[go_sem,seval]<;>eq_refl)))
  |(with_reducible first|apply FM|apply GD|apply Fm|apply FL|apply EZ|apply El|apply Ez|apply Fe|apply GE|apply GF|apply Gd|apply GG|apply F1)
  |(with_reducible apply GH;(·first|rfl|decide))
  |(with_reducible first|apply FN|apply FO|apply GK|apply GL|apply GM|apply yT|apply And.intro yT yT)
  |(fail_if_success with_reducible apply Jx);(fail_if_success with_reducible apply GJ);first|omega|(simp only[go_sem,seval];done)
  |fail)
   refine H4 (j+1,c+50) (by show j+1<=_;omega) (by show ns.length-(j+1)<ns.length-j;omega) (Le.of ?_ ?_ ?_)
   ·simp only[go_sem,seval,hsu,qV]<;>simp
   ·simp only[go_sem,seval]
   ·simp
  ·refine go hS f0 ?_;have:j=ns.length:=by omega
   subst this;rw[Wq];refine wA (by simp only[go_sem,seval]<;>eq_refl) (by simp only[go_sem,seval]<;>eq_refl) yT (by simp only[go_sem,seval]<;>eq_refl) (by simp only[go_sem,seval]<;>eq_refl) rfl
end
section
attribute [local irreducible] As Cn B6 BK CA BJ Bv Cl Cv Dx
set_option maxRecDepth 100000
set_option maxHeartbeats 8000000
theorem fW:BT 174:=⟨by kernel_rfl,by decide⟩
def S21(N:Nat):List (Nat×Spec):=[(43,XS N)]
attribute [local go_sem] S21
theorem fX(N:Nat):TabOK Tryz.prog (HA (S21 N)):=Ac (MV N) An
def SA(a b c n p q:Int):List UInt8:=Dc [a,b,c,p,q,n]
def NI(l:List (Int×Int)):List UInt8:=(l.map λp=>Dc [p.1,p.2]).flatten
def IQ(a b c:Int)(l:List (Int×Int))(p q:Int):List UInt8:=SA a b c l.length p q++NI l
theorem Rc(n:Int):(EV n).length<=10:=by
 unfold EV;cases h:(decide (n< -4611686018427387903)||decide (4611686018427387903<n))with
 |true=>simp
 |false=>simp only[tN,OS,Ti,p9];exact Ra 10 _
theorem Mz:∀(ns:List Int),(Dc ns).length<=10*ns.length
 |[]=>by simp[Dc]
 |n::ns=>by have h1:=Rc n;have h2:=Mz ns;simp only[Dc,eZ,CV,fF,pC]at h2⊢;omega
theorem Qo:∀(l:List (Int×Int)),(NI l).length<=20*l.length
 |[]=>by simp[NI]
 |p::l=>by have h1:=Mz [p.1,p.2];have h2:=Qo l;simp only[NI,eZ,CV,fF,pC,CP]at h1 h2⊢;omega
theorem mY{l:List (Int×Int)}{j:Nat}(h:j<l.length):NI (l.take (j+1))=NI (l.take j)++Dc [(l.getD j (0,0)).1,(l.getD j (0,0)).2]:=by
 unfold NI;have:l[j]? =some (l.getD j (0,0)):=by simp[eT,h]
 rw[List.take_add_one,this];simp
theorem YF{n:Int}(h1: -4611686018427387903<=n)(h2:n<=4611686018427387903):EV n≠[]:=by
 have e:(decide (n< -4611686018427387903)||decide (4611686018427387903<n))=false:=by simp;omega
 unfold EV;rw[e,tN];unfold OS Ti;intro h;have h3:=List.map_eq_nil_iff.1 (List.map_eq_nil_iff.1 h);by_cases hz:zz n<128
 ·rw[Ql hz]at h3;cases h3
 ·rw[Qm hz]at h3;cases h3
theorem fY(N:Nat)(a b c:Int)(l:List (Int×Int))(p q:Int)(v:Bool)(hv:BN N a b c l p q=some v)(hl:l.length<=1000000):PCall Tryz.prog 95 [.agg [.i a,.i b,.i c,.sl 2 false (l.map By) [.i 0,.i 0],.i p,.i q]] (.tup [.v (.string (sB (bif v then IQ a b c l p q else[]))),.i (bif v then 0 else 80)]):=by
 refine iT (fX N) _ x95.hf x95.hc x95.hn (by decide) (mO rfl) λhb M=>?_
 have hS:=fX N;have hOK:=Ctx.bd_ok (nt:=41) (hb:=hb) (N:=M) (X:=λ_=>False) (hnt:=by decide) hS;dsimp only[x95,Al,DE];have hlen:=Qo l;have hhl:=Mz [a,b,c,p,q,(l.length:Int)]
 repeat' (first
  |((with_reducible first|apply FP|apply GN|apply GI|apply HY|apply FQ|apply FR);(·(first|exact Ctx.fn_ok hS|exact Ctx.rd_ok hS|assumption|exact yT));iterate 2 (·(simp only[go_sem,seval,hv]<;>eq_refl)))
  |(with_reducible first|apply FM|apply GD|apply Fm|apply FL|apply EZ|apply El|apply Ez|apply Fe|apply GE|apply GF|apply Gd|apply GG|apply F1)
  |(with_reducible apply GH;(·first|rfl|decide))
  |(with_reducible first|apply FN|apply FO|apply GK|apply GL|apply GM|apply yT|apply And.intro yT yT)
  |(fail_if_success with_reducible apply Jx);(fail_if_success with_reducible apply GJ);first|omega|(simp only[go_sem,seval,hv];done)
  |fail)
 cases v with
 |false=>
  refine Lg (by simp only[go_sem,seval,hv,mN]<;>eq_refl) ?_;refine go hS f0 ?_
  first|refine Mc (by simp only[go_sem,seval]<;>eq_refl) (by simp only[go_sem,seval]) (by simp only[go_sem,seval]) ?_ rfl|refine Md (by simp only[go_sem,seval]<;>eq_refl) (by simp only[go_sem,seval]) (by simp only[go_sem,seval]) ?_ rfl
  simp only[go_sem,seval]
 |true=>
  refine Nr (by simp only[go_sem,seval,hv,mN]<;>eq_refl) ?_;refine go hS f0 ?_;refine iR hS 0 rfl fW (by simp only[go_sem,seval]<;>eq_refl) yT λB=>⟨_,_,_,(by simp only[go_sem,seval]<;>eq_refl),yT,?_⟩
  refine go hS f0 ?_;have hh1:([]++Dc [a,b,c,p,q,(l.length:Int)]).length<=140737488355328:=by simp only[nJ,pC,CP]at hhl⊢;omega
  refine MN hS 14 (ax:=[.sl 1 false ([a,b,c,p,q,(l.length:Int)].map Ub) [.i 0]]) rfl x136.ok (by simp only[go_sem,seval]<;>eq_refl) yT (by simp only[go_sem,seval]<;>eq_refl) (by simp only[go_sem,seval]<;>eq_refl) (by simp only[go_sem,seval,Am.Ub]<;>eq_refl) ?_ rfl rfl (Uc _ _ _ [] hh1 (by simp)) (by simp only[go_sem,seval]<;>eq_refl) yT ?_
  ·simp only[go_sem,seval]
  refine go hS f0 ?_;refine Is (λx:Nat×Nat=>⟨[(28,.i x.1),(27,.i l.length),(26,.sl 2 false (l.map By) [.i 0,.i 0]),(4,.v (.pointer (some ⟨B,0,none⟩))),(3,.i 0),(bk,gB B (Dc [a,b,c,p,q,(l.length:Int)]++NI (l.take x.1)))],[],x.2⟩)
   (λx=>x.1<=l.length) (λx=>l.length-x.1) (0,50) ?_ ?_ ?_
  ·exact t7 _
  ·refine Le.of ?_ ?_ (by simp)<;>(simp only[go_sem,seval,NI];try simp)
  ·rintro⟨j,cc⟩ hj;simp only at hj
   repeat' (first
  |((with_reducible first|apply FP|apply GN|apply GI|apply HY|apply FQ|apply FR);(·(first|exact Ctx.fn_ok hS|exact Ctx.rd_ok hS|assumption|exact yT));iterate 2 (·(simp only[go_sem,seval]<;>eq_refl)))
  |(with_reducible first|apply FM|apply GD|apply Fm|apply FL|apply EZ|apply El|apply Ez|apply Fe|apply GE|apply GF|apply Gd|apply GG|apply F1)
  |(with_reducible apply GH;(·first|rfl|decide))
  |(with_reducible first|apply FN|apply FO|apply GK|apply GL|apply GM|apply yT|apply And.intro yT yT)
  |(fail_if_success with_reducible apply Jx);(fail_if_success with_reducible apply GJ);first|omega|(simp only[go_sem,seval];done)
  |fail)
   refine Vw ((j:Int)<l.length) (by simp only[go_sem,seval]<;>eq_refl) (by first|simp only[Bool.decide_or,Bool.decide_and,decide_not]|simp) (λhj1=>?_) (λhj1=>?_)
   ·have hj':j<l.length:=by omega
    have hrow:=P4 l j;have hsu:=mY hj';have hl1:=Qo (l.take j);have hl0:(l.take j).length<=l.length:=by rw[w8];omega
    have hl3:=Mz [(l.getD j (0,0)).1,(l.getD j (0,0)).2];have hl2:((Dc [a,b,c,p,q,(l.length:Int)]++NI (l.take j))++Dc [(l.getD j (0,0)).1,(l.getD j (0,0)).2]).length<=140737488355328:=by simp only[fF,pC,CP]at hhl hl3⊢;omega
    refine go hS (fc hrow f0) ?_;refine MN hS 5 (ax:=[.sl 1 false ([(l.getD j (0,0)).1,(l.getD j (0,0)).2].map Ub) [.i 0]]) rfl x136.ok (by simp only[go_sem,seval]<;>eq_refl) yT (by simp only[go_sem,seval]<;>eq_refl) (by simp only[go_sem,seval]<;>eq_refl) (by simp only[go_sem,seval,Am.Ub]<;>eq_refl) ?_ rfl rfl (Uc _ _ _ _ hl2 (by simp)) (by simp only[go_sem,seval]<;>eq_refl) yT ?_
    ·simp only[go_sem,seval]
    repeat' (first
  |((with_reducible first|apply FP|apply GN|apply GI|apply HY|apply FQ|apply FR);(·(first|exact Ctx.fn_ok hS|exact Ctx.rd_ok hS|assumption|exact yT));iterate 2 (·(simp only[go_sem,seval]<;>eq_refl)))
  |(with_reducible first|apply FM|apply GD|apply Fm|apply FL|apply EZ|apply El|apply Ez|apply Fe|apply GE|apply GF|apply Gd|apply GG|apply F1)
  |(with_reducible apply GH;(·first|rfl|decide))
  |(with_reducible first|apply FN|apply FO|apply GK|apply GL|apply GM|apply yT|apply And.intro yT yT)
  |(fail_if_success with_reducible apply Jx);(fail_if_success with_reducible apply GJ);first|omega|(simp only[go_sem,seval];done)
  |fail)
    refine H4 (j+1,cc+50) (by show j+1<=_;omega) (by show l.length-(j+1)<l.length-j;omega) (Le.of ?_ ?_ ?_)
    ·simp only[go_sem,seval,hsu,qV]<;>simp
    ·simp only[go_sem,seval]
    ·simp
   ·refine go hS f0 ?_;have hjl:j=l.length:=by omega
    subst hjl;rw[Wq];have hne:Dc [a,b,c,p,q,(l.length:Int)]++NI l≠[]:=by have h1:=YF (n:=(l.length:Int)) (by omega) (by omega);intro h;have h2:=List.append_eq_nil_iff.1 h;simp only[Dc,eZ,CV,List.append_eq_nil_iff]at h2;exact h1 h2.1.2.2.2.2.2.1
    refine MN hS 1 (ax:=[]) rfl fT (by simp only[go_sem,seval]<;>eq_refl) yT (by simp only[go_sem,seval]<;>eq_refl) (by simp only[go_sem,seval]<;>eq_refl) (by simp only[go_sem,seval]<;>eq_refl) yT rfl rfl (U0 hne) (by simp only[go_sem,seval]<;>eq_refl) yT ?_;refine go hS f0 ?_
    first|refine Mc (by simp only[go_sem,seval]<;>eq_refl) (by simp only[go_sem,seval]) (by simp only[go_sem,seval]) ?_ rfl|refine Md (by simp only[go_sem,seval]<;>eq_refl) (by simp only[go_sem,seval]) (by simp only[go_sem,seval]) ?_ rfl
    simp only[IQ,SA,go_sem,seval]
end
section
attribute [local irreducible] As Cn B6 BK CA BJ Bv Cl Cv Dx
set_option maxRecDepth 100000
set_option maxHeartbeats 8000000
attribute [local go_sem] Option.isSome_some yU
def S45(N:Nat):List (Nat×Spec):=[(67,yU N)]
attribute [local go_sem] S45
theorem SB(N:Nat):TabOK Tryz.prog (HA (S45 N)):=Ac (Zo N) An
theorem mZ(N:Nat)(m:Nm)(s:List UInt8)(p n q:Int)(h:EP N s p=some (n,q,0)):Ux Tryz.prog 116 m [.box m 0] [.v (.string (sB s)),.i p] (.i n) [(1,.i q)]:=by
 refine iO (SB N) _ x116.hf x116.hc x116.hn (mO rfl) λhb=>?_
 have hS:=SB N;dsimp only[x116,Al,DE];refine go hS (fc h f0) ?_;refine Nr (by simp only[go_sem,seval]<;>eq_refl) ?_;refine go hS f0 ?_;exact R0 (by simp only[go_sem,seval]<;>eq_refl) yT ⟨by simp only[go_sem,seval],λj c h=>h⟩
def fV:Value:=.iface 141 (.agg #[])
theorem nA(N:Nat)(m:Nm)(s:List UInt8)(p n q e:Int)(h:EP N s p=some (n,q,e))(he:¬e=0):Ry Tryz.prog 116 m [.box m 0] [.v (.string (sB s)),.i p] fV:=by
 refine aL (SB N) _ x116.hf x116.hc x116.hn (mO rfl) λhb=>?_
 have hS:=SB N;dsimp only[x116,Al,DE];refine go hS (fc h f0) ?_;refine Lg (by simp only[go_sem,seval,he,decide_not]<;>eq_refl) ?_;refine PT (Ctx.fn_ok hS) 2 rfl rfl (by simp only[go_sem,seval]<;>eq_refl) (by simp only[go_sem,seval]) (by simp only[go_sem,seval]<;>eq_refl) ?_
 repeat' (with_reducible first|apply Iw|apply Ix)
 exact wC λj c h=>h
def WD(N:Nat):PZ
 |[.box _ 0],[.v (.string s),.v (.int .i64 p)]=>match EP N (bL s) p with|some (n,q,e)=>if e=0 then some (True,.i n,[(1,.i q)])else none|none=>none
 |_,_=>none
theorem vA(N:Nat):EOK Tryz.prog 116 (WD N):=⟨x116.ok,by
 intro args cells vc r us n h hv hb;unfold WD at h;split at h
 ·split at h
  ·rename_i m s p _ a b e hr;split at h
   ·cases h
    rename_i he;subst he;simp only[Fs,yE]at hb;subst hb;have:=mZ N m (bL s) p a b hr;rw[MF]at this;exact this
   ·cases h
  ·cases h
 ·simp at h⟩
def WE(N:Nat):P0
 |[.box _ 0],[.v (.string s),.v (.int .i64 p)]=>match EP N (bL s) p with|some (_,_,e)=>if e=0 then none else some (True,fV)|none=>none
 |_,_=>none
theorem vC(N:Nat):POK Tryz.prog 116 (WE N):=⟨x116.ok,by
 intro args cells vc v n h hv hb;unfold WE at h;split at h
 ·split at h
  ·rename_i m s p _ a b e hr;split at h
   ·cases h
   ·cases h
    rename_i he;simp only[Fs,yE]at hb;subst hb;have:=nA N m (bL s) p a b e hr he;rw[MF]at this;exact this
  ·cases h
 ·simp at h⟩
def qM(N:Nat):List (Nat×Spec):=[(43,XS N),(97,oD N)]
def fZ(N:Nat):List (Nat×PZ):=[(116,WD N)]
def gA(N:Nat):List (Nat×P0):=[(116,WE N)]
theorem WF(N:Nat):TabOK Tryz.prog (Mh (qM N) (fZ N) (gA N)):=sM (Ac (MV N) (Ac (oE N) An)) (by
 intro x hx;simp only[fZ,y9]at hx;subst hx;exact vA N) (by
 intro x hx;simp only[gA,y9]at hx;subst hx;exact vC N)
def dN(N:Nat)(s:List UInt8)(p:Int):Option (Option (Int×Int)):=(EP N s p).bind λ(n,q,e)=>some (if e=0 then some (n,q)else none)
def pb{E J:Type}:Option (Option E)->(E->Option (Option J))->Option (Option J)
 |none,_=>none
 |some none,_=>some none
 |some (some a),f=>f a
theorem Jc{N:Nat}{s:List UInt8}{p:Int}{J:Type}{f:Int×Int->Option (Option J)}{r:Option J}(h:pb (dN N s p) f=some r):∃x q e,EP N s p=some (x,q,e)/\(¬e=0/\r=none\/e=0/\f (x,q)=some r):=by
 unfold dN at h;cases hw:EP N s p with
 |none=>rw[hw]at h;simp[pb]at h
 |some t=>
  obtain⟨x,q,e⟩:=t;refine⟨x,q,e,rfl,?_⟩;rw[hw,pA]at h;simp only at h;by_cases he:e=0
  ·rw[eX he]at h;exact .inr ⟨he,h⟩
  ·rw[eW he]at h;exact .inl ⟨he,(yJ h).symm⟩
theorem qN{E J γ:Type}{x:Option (Option E)}{f:E->Option (Option J)}{g:J->Option (Option γ)}:pb (pb x f) g=pb x λa=>pb (f a) g:=by rcases x with _|_|a<;>rfl
def dP(N:Nat)(s:List UInt8):Nat->Int->List (Int×Int)->Option (Option (List (Int×Int)×Int))|0,p,l=>some (some (l,p))|k+1,p,l=>pb (dN N s p) λ(x,q)=>pb (dN N s q) λ(y,r)=>dP N s k r (l++[(x,y)])
def WG(N:Nat)(s:List UInt8):Option (Option (Int×Int×Int×List (Int×Int)×Int×Int)):=pb (dN N s 0) λ(a,p1)=>pb (dN N s p1) λ(b,p2)=>pb (dN N s p2) λ(c,p3)=>pb (dN N s p3) λ(f,p4)=>pb (dN N s p4) λ(g,p5)=>pb (dN N s p5) λ(n,p6)=>bif decide (3<=n)&&decide (n<=8)then pb (dP N s n.toNat p6 []) λ(l,p7)=>bif decide (p7<(s.length:Int))then some none else (BN N a b c l f g).bind λv=>some (bif v then some (a,b,c,l,f,g)else none)else some none
section
attribute [local go_sem] qM fZ gA WD WE fV oD XS Eh P3 By Option.isSome_some
def JE:Option AV->Bool|some c=> !isM c|none=>false
theorem vD{o:Option AV}:JE o=true↔∃c,o=some c/\isM c=false:=by
 cases o with
 |none=>simp[JE]
 |some c=>simp[JE]
theorem Hd(N:Nat){e:Au}{h:Hp}{c:Nat}(e2:lk e 2=.box (0,1) 0)(e3:lk e 3=.box (1,1) 0)(ek:lk e (dk 64)=.gd false (.clo (.func 115) [] [.box (0,1) 0,.box (1,1) 0]))(hh:(JE (hl h (.c (0,1) 0))&&JE (hl h (.c (0,1) 1))&&JE (hl h (.c (0,1) 2))&&JE (hl h (.c (0,1) 3))&&JE (hl h (.c (0,1) 4))&&JE (hl h (.c (0,1) 5))&&JE (hl h (.c (1,1) 0)))=true):fdK Tryz.prog (Mh (qM N) (fZ N) (gA N)) 64 x69.rv (.tup [.agg [.i 0,.i 0,.i 0,.sl 2 false [] [.i 0,.i 0],.i 0,.i 0],.i 80]) (.p fV) ⟨e,h,c⟩:=by
 have hS:=WF N;simp only[lP,vD]at hh;obtain⟨⟨⟨⟨⟨⟨⟨c0,h0,k0⟩,⟨c1,h1,k1⟩⟩,⟨c2,h2,k2⟩⟩,⟨c3,h3,k3⟩⟩,⟨c4,h4,k4⟩⟩,⟨c5,h5,k5⟩⟩,⟨d0,h6,k6⟩⟩:=hh;refine⟨_,_,ek,_,_,_,_,_,Tryz.func115,x115.hc,x115.hn,mO rfl,x115.ok,λaa=>?_⟩;dsimp only[x115,Al,DE];have ae:=Ctx.fd_ok (nt:=12) (hb:=aa) hS;have F:=fc h0 (fc h1 (fc h2 (fc h3 (fc h4 (fc h5 (fc h6 (fc k0 (fc k1 (fc k2 (fc k3 (fc k4 (fc k5 (fc k6 f0)))))))))))));refine go hS F ?_;refine cf F ?_;refine go hS F ?_;refine ct F ?_;refine go hS F ?_;refine aG ⟨by simp only[go_sem,seval],?_⟩;try dsimp only[x69,Al]
 exact⟨_,_,by simp only[go_sem,seval,e2,e3]<;>eq_refl,by simp only[go_sem,seval],by simp only[go_sem,seval],by simp only[go_sem,seval],rfl⟩
end
section
attribute [local go_sem] qM fZ gA WD WE oD XS Eh P3 By Option.isSome_some
set_option maxRecDepth 100000 in
theorem gC(N:Nat)(s:List UInt8)(r:Option (Int×Int×Int×List (Int×Int)×Int×Int))(h:WG N s=some r):PCall Tryz.prog 69 [.v (.string (sB s))] (match r with|some (a,b,c,l,f,g)=>.tup [.agg [.i a,.i b,.i c,.sl 2 false (l.map By) [.i 0,.i 0],.i f,.i g],.i 0]|none=>.tup [.agg [.i 0,.i 0,.i 0,.sl 2 false [] [.i 0,.i 0],.i 0,.i 0],.i 80]):=by
 refine iQ (WF N) _ x69.hf x69.hc x69.hn (mO rfl) λhb=>?_
 have hS:=WF N;have hOK:=Ctx.fd_ok (nt:=64) (hb:=hb) hS;have F:=f0;dsimp only[x69,Al,DE];unfold WG at h;refine go hS F ?_;refine rC hS 1 rfl rfl (by simp only[go_sem,seval]<;>eq_refl) yT (by simp only[go_sem,seval]<;>eq_refl) (by simp only[go_sem,seval]<;>eq_refl) ?_;refine go hS F ?_;refine Fg 30 ?_;replace h:=Jc h;obtain⟨a,p1,e0,k0,h⟩:=h;refine go hS F ?_;refine ct F ?_;refine go hS F ?_;rcases h with⟨he,rfl⟩|⟨rfl,h⟩
 ·replace F:=fc k0 (fc he F);refine QM (p:=fV) hOK F 2 ?_
  repeat' (with_reducible first|apply Iw|apply Ix|apply IX|apply H3)
  exact Hd N (by simp only[go_sem,seval]) (by simp only[go_sem,seval]) (by simp only[go_sem,seval]) (by simp only[go_sem,seval,JE])
 replace F:=fc k0 F;replace h:=Jc h;obtain⟨b,p2,e1,k1,h⟩:=h;refine go hS F ?_;refine ct F ?_;refine go hS F ?_;rcases h with⟨he,rfl⟩|⟨rfl,h⟩
 ·replace F:=fc k1 (fc he F);refine QM (p:=fV) hOK F 2 ?_
  repeat' (with_reducible first|apply Iw|apply Ix|apply IX|apply H3)
  exact Hd N (by simp only[go_sem,seval]) (by simp only[go_sem,seval]) (by simp only[go_sem,seval]) (by simp only[go_sem,seval,JE])
 replace F:=fc k1 F;replace h:=Jc h;obtain⟨c,p3,e2,k2,h⟩:=h;refine go hS F ?_;refine ct F ?_;refine go hS F ?_;rcases h with⟨he,rfl⟩|⟨rfl,h⟩
 ·replace F:=fc k2 (fc he F);refine QM (p:=fV) hOK F 2 ?_
  repeat' (with_reducible first|apply Iw|apply Ix|apply IX|apply H3)
  exact Hd N (by simp only[go_sem,seval]) (by simp only[go_sem,seval]) (by simp only[go_sem,seval]) (by simp only[go_sem,seval,JE])
 replace F:=fc k2 F;replace h:=Jc h;obtain⟨f,p4,e3,k3,h⟩:=h;refine go hS F ?_;refine ct F ?_;refine go hS F ?_;rcases h with⟨he,rfl⟩|⟨rfl,h⟩
 ·replace F:=fc k3 (fc he F);refine QM (p:=fV) hOK F 2 ?_
  repeat' (with_reducible first|apply Iw|apply Ix|apply IX|apply H3)
  exact Hd N (by simp only[go_sem,seval]) (by simp only[go_sem,seval]) (by simp only[go_sem,seval]) (by simp only[go_sem,seval,JE])
 replace F:=fc k3 F;replace h:=Jc h;obtain⟨g,p5,e4,k4,h⟩:=h;refine go hS F ?_;refine ct F ?_;refine go hS F ?_;rcases h with⟨he,rfl⟩|⟨rfl,h⟩
 ·replace F:=fc k4 (fc he F);refine QM (p:=fV) hOK F 2 ?_
  repeat' (with_reducible first|apply Iw|apply Ix|apply IX|apply H3)
  exact Hd N (by simp only[go_sem,seval]) (by simp only[go_sem,seval]) (by simp only[go_sem,seval]) (by simp only[go_sem,seval,JE])
 replace F:=fc k4 F;replace h:=Jc h;obtain⟨n,p6,e5,k5,h⟩:=h;refine go hS F ?_;refine cf F ?_;refine go hS F ?_;rcases h with⟨he,rfl⟩|⟨rfl,h⟩
 ·replace F:=fc k5 (fc he F);refine QM (p:=fV) hOK F 1 ?_
  repeat' (with_reducible first|apply Iw|apply Ix|apply IX|apply H3)
  exact Hd N (by simp only[go_sem,seval]) (by simp only[go_sem,seval]) (by simp only[go_sem,seval]) (by simp only[go_sem,seval,JE])
 replace F:=fc k5 F;refine go hS F ?_;simp only at h;cases hc:decide ((3:Int)<=n)&&decide (n<=(8:Int))with
 |false=>
  rw[hc,tN]at h;obtain rfl:=yJ h;refine ct (fc hc F) ?_;refine PT hOK 2 rfl rfl (by simp only[go_sem,seval]<;>eq_refl) (by simp only[go_sem,seval]) (by simp only[go_sem,seval]<;>eq_refl) ?_
  repeat' (with_reducible first|apply Iw|apply Ix|apply IX|apply H3)
  exact Hd N (by simp only[go_sem,seval]) (by simp only[go_sem,seval]) (by simp only[go_sem,seval]) (by simp only[go_sem,seval,JE])
 |true=>
 rw[hc,Cg]at h;have hn:3<=n/\n<=8:=by simpa using hc
 refine cf (fc hc F) ?_;refine go hS F ?_;refine RU (s':=⟨[(35,.i 0),(34,.i n),(4,.box (202,3) 0),(3,.box (1,1) 0),(2,.box (0,1) 0),(2000064,.gd false (.clo (.func 115) [] [.box (0,1) 0,.box (1,1) 0])),(0,.v (.string (sB s)))],[(.c (202,3) 1,.i p6),(.c (202,3) 0,.v (.string (sB s))),(.c (1,1) 0,.i 0),(.c (0,1) 0,.i a),(.c (0,1) 1,.i b),(.c (0,1) 2,.i c),(.c (0,1) 3,.sl 0 true [] []),(.c (0,1) 4,.i f),(.c (0,1) 5,.i g)],100⟩) (Bn F) ?_;refine Dy 1 (0,1) 3 2 [.i 0,.i 0] (by omega) (by simp only[go_sem,seval]<;>eq_refl) ?_;have key:∀(x:Nat×Nat×Int×List (Int×Int)×Nat),True:=λ_=>trivial
 refine Is (λx:Nat×Nat×Int×List (Int×Int)×Nat=>⟨[(35,.i x.2.1),(34,.i n),(4,.box (202,3) 0),(3,.box (1,1) 0),(2,.box (0,1) 0),(2000064,.gd false (.clo (.func 115) [] [.box (0,1) 0,.box (1,1) 0])),(0,.v (.string (sB s)))],[(.c (202,3) 1,.i x.2.2.1),(.c (202,3) 0,.v (.string (sB s))),(.c (1,1) 0,.i 0),(.c (0,1) 0,.i a),(.c (0,1) 1,.i b),(.c (0,1) 2,.i c),(.c (0,1) 3,.own (1,101) x.2.2.2.1.length),(.a (1,101),.sl 2 true (x.2.2.2.1.map By) [.i 0,.i 0]),(.c (0,1) 4,.i f),(.c (0,1) 5,.i g)],x.2.2.2.2⟩)
  (λx=>pb (dP N s x.1 x.2.2.1 x.2.2.2.1) (λ(l,p7)=>bif decide (p7<(s.length:Int))then some none else(BN N a b c l f g).bind λv=>some (bif v then some (a,b,c,l,f,g)else none))=some r/\x.2.1+x.1=n.toNat/\x.2.2.2.1.length=x.2.1) (λx=>x.1) (n.toNat,0,p6,[],101) ⟨h,by simp,rfl⟩ ?_ ?_
 ·exact Bn F
 ·rintro⟨k,j,p,ls,cc⟩ ⟨hd,hj,hls⟩;simp only at hd hj hls;refine go hS F ?_;refine cb F (decide ((j:Int)<n)) (λhc=>?_) λhc=>?_
  ·have hc:=of_decide_eq_true hc;obtain _|k:=k
   ·omega
   simp only[dP]at hd;rw[qN]at hd;replace hd:=Jc hd;obtain⟨x,q,ex,m1,hd⟩:=hd;refine go hS F ?_;rcases hd with⟨he,rfl⟩|⟨rfl,hd⟩
   ·replace F:=fc m1 (fc he F);refine QM (p:=fV) hOK F 1 ?_
    repeat' (with_reducible first|apply Iw|apply Ix|apply IX|apply H3)
    exact Hd N (by simp only[go_sem,seval]) (by simp only[go_sem,seval]) (by simp only[go_sem,seval]) (by simp only[go_sem,seval,JE])
   simp only at hd;rw[qN]at hd;replace hd:=Jc hd;obtain⟨y,w,ey,m2,hd⟩:=hd;rcases hd with⟨he,rfl⟩|⟨rfl,hd⟩
   ·replace F:=fc m1 (fc m2 (fc he F));refine go hS F ?_;refine AcF (p:=fV) hOK F 4 (.i 0) ?_
    repeat' (with_reducible first|apply Iw|apply Ix|apply IX|apply H3)
    exact Hd N (by simp only[go_sem,seval]) (by simp only[go_sem,seval]) (by simp only[go_sem,seval]) (by simp only[go_sem,seval,JE])
   refine go hS (fc m1 (fc m2 F)) ?_;refine H4 (k,j+1,w,ls++[(x,y)],cc+100) ⟨hd,by simp only;omega,by simp[hls]⟩ (Wm _) (Le.of ?_ ?_ ?_)
   ·simp only[go_sem,seval,F]<;>simp
   ·simp only[go_sem,seval,F,w9,eZ,w7]
   ·simp
  ·have hc:=of_decide_eq_false hc;have hk:k=0:=by omega
   subst hk;simp only[dP,pb]at hd;cases c9:decide (p<(s.length:Int))with
   |true=>
    rw[c9,Cg]at hd;obtain rfl:=yJ hd;refine go hS (fc c9 F) ?_;refine ct (fc c9 F) ?_;refine PT hOK 2 rfl rfl (by simp only[go_sem,seval]<;>eq_refl) (by simp only[go_sem,seval]) (by simp only[go_sem,seval]<;>eq_refl) ?_
    repeat' (with_reducible first|apply Iw|apply Ix|apply IX|apply H3)
    exact Hd N (by simp only[go_sem,seval]) (by simp only[go_sem,seval]) (by simp only[go_sem,seval]) (by simp only[go_sem,seval,JE])
   |false=>
   rw[c9,tN]at hd;obtain⟨v,h9,hd⟩:=yB.1 hd;replace F:=fc c9 (fc h9 F);refine go hS F ?_;cases v with
   |false=>
    obtain rfl:=yJ hd;refine ct F ?_;refine PT hOK 2 rfl rfl (by simp only[go_sem,seval]<;>eq_refl) (by simp only[go_sem,seval]) (by simp only[go_sem,seval]<;>eq_refl) ?_
    repeat' (with_reducible first|apply Iw|apply Ix|apply IX|apply H3)
    exact Hd N (by simp only[go_sem,seval]) (by simp only[go_sem,seval]) (by simp only[go_sem,seval]) (by simp only[go_sem,seval,JE])
   |true=>
   obtain rfl:=yJ hd;refine cf F ?_;refine go hS F ?_;refine .inr ⟨_,_,(by simp only[go_sem,seval]<;>eq_refl),?_⟩;refine⟨_,_,_,_,_,Tryz.func115,x115.hc,x115.hn,mO rfl,x115.ok,λaa=>?_⟩;dsimp only[x115,Al,DE];have ae:=Ctx.fd_ok (nt:=12) (hb:=aa) hS;refine go hS F ?_;refine ct F ?_;refine go hS F ?_;try dsimp only[x69,Al]
   refine aG ⟨by simp only[go_sem,seval],_,_,(by simp only[go_sem,seval]<;>eq_refl),by simp only[go_sem,seval],by simp only[go_sem,seval],?_,rfl⟩;simp only[go_sem,seval]
end
end
attribute [local irreducible] As Cn B6 BK CA BJ Bv Cl Cv Dx
set_option maxRecDepth 100000
set_option maxHeartbeats 8000000
def EO(N:Nat)(a b c:Int)(l:List (Int×Int))(p q:Int):Option (List UInt8×Int):=(BN N a b c l p q).bind λv=>gd (l.length<=1000000)<|some (bif v then IQ a b c l p q else[],bif v then 0 else 80)
theorem Re(N:Nat)(a b c:Int)(l:List (Int×Int))(p q:Int)(r:List UInt8×Int)(h:EO N a b c l p q=some r):PCall Tryz.prog 95 [.agg [.i a,.i b,.i c,.sl 2 false (l.map By) [.i 0,.i 0],.i p,.i q]] (.tup [.v (.string (sB r.1)),.i r.2]):=by
 unfold EO at h;obtain⟨v,h1,h2⟩:=yB.1 h;simp only[Jl]at h2;obtain⟨h3,h2⟩:=h2;cases h2
 exact fY N a b c l p q v h1 h3
def s95(N:Nat):Spec|[.agg [.v (.int .i64 a),.v (.int .i64 b),.v (.int .i64 c),.sl yl _ l _,.v (.int .i64 p),.v (.int .i64 q)]]=>some (((yl=2\/l=[])/\l=(l.map Nf).map By)/\(EO N a b c (l.map Nf) p q).isSome=true,.tup [.v (.string (sB ((EO N a b c (l.map Nf) p q).getD ([],0)).1)),.i ((EO N a b c (l.map Nf) p q).getD ([],0)).2])|_=>none
theorem Ab6(N:Nat):AZ Tryz.prog 95 (s95 N):=⟨x95.ok,by
 intro args vc r h hv;unfold s95 at h;split at h
 ·cases h
  obtain⟨⟨af,ah⟩,hs⟩:=hv;obtain⟨r,hr⟩:=yX hs;have hk:=Re N _ _ _ _ _ _ r hr;simp only[hr,mN];refine PCall.arg ?_ hk;simp only[Ih,wk,and_true,true_and,yF,false_implies,implies_true]
  repeat' (first|exact yT|assumption|apply And.intro)
 ·simp at h⟩
def Da(N:Nat)(s:List UInt8):Option ((Int×Int×Int×List (Int×Int)×Int×Int)×Int):=(WG N s).map λr=>match r with|some x=>(x,0)|none=>((0,0,0,[],0,0),80)
theorem Rf(N:Nat)(s:List UInt8)(r:(Int×Int×Int×List (Int×Int)×Int×Int)×Int)(h:Da N s=some r):PCall Tryz.prog 69 [.v (.string (sB s))] (.tup [.agg [.i r.1.1,.i r.1.2.1,.i r.1.2.2.1,.sl 2 false (r.1.2.2.2.1.map By) [.i 0,.i 0],.i r.1.2.2.2.2.1,.i r.1.2.2.2.2.2],.i r.2]):=by unfold Da at h;obtain⟨x,h1,h2⟩:=L9.1 h;have:=gC N s x h1;subst h2;rcases x with _|⟨a,b,c,l,f,g⟩<;>exact this
def s69(N:Nat):Spec|[.v (.string s)]=>some ((Da N (bL s)).isSome=true,.tup [.agg [.i ((Da N (bL s)).getD ((0,0,0,[],0,0),0)).1.1,.i ((Da N (bL s)).getD ((0,0,0,[],0,0),0)).1.2.1,.i ((Da N (bL s)).getD ((0,0,0,[],0,0),0)).1.2.2.1,.sl 2 false (((Da N (bL s)).getD ((0,0,0,[],0,0),0)).1.2.2.2.1.map By) [.i 0,.i 0],.i ((Da N (bL s)).getD ((0,0,0,[],0,0),0)).1.2.2.2.2.1,.i ((Da N (bL s)).getD ((0,0,0,[],0,0),0)).1.2.2.2.2.2],.i ((Da N (bL s)).getD ((0,0,0,[],0,0),0)).2])|_=>none
theorem Ab7(N:Nat):AZ Tryz.prog 69 (s69 N):=⟨x69.ok,by
 intro args vc r h hv;unfold s69 at h;split at h
 ·cases h
  obtain⟨r,hr⟩:=yX hv;have hk:=Rf N _ r hr;simp only[hr,mN];rw[MF]at hk;exact hk
 ·simp at h⟩
attribute [go_sem] s95 s69
