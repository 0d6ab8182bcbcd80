import Derived.Test.YtjdchfljifacoaaGreatE1
set_option linter.all false
set_option maxRecDepth 100000
set_option maxHeartbeats 8000000
namespace Go.Proofs.YtjdchfljifacoaaGreat.Am
open Go
section
attribute [local irreducible] Ax BO BB Bj BC Bk AY BD BK Cq
attribute [local go_sem] Option.isSome_some gJ MR Cz Yq
def Mt(z:Int):Int:=IntKind.wrap .u8 (E1 .and .u64 z 127)
def Fg:Nat->Int->List (Int×Bool)|0,_=>[]|f+1,z=>if z<128 then[(Mt z,true)]else(Mt z,false)::Fg f (CW .shr .u64 z 7)
def pH(e:Int×Bool):List AV:=[.v (.int .u8 e.1),.v (.bool e.2)]
theorem AaH(z:Int):CW .shr .u64 z 7=z/128:=by show z.fdiv (2^min (7:Int).toNat 64)=z/128;grind
theorem TA{f:Nat}{z:Int}(h:z<128):Fg (f+1) z=[(Mt z,true)]:=dW h
theorem TB{f:Nat}{z:Int}(h:¬z<128):Fg (f+1) z=(Mt z,false)::Fg f (CW .shr .u64 z 7):=dQ h
theorem RO:∀(f:Nat)(z:Int),(Fg f z).length<=f
 |0,z=>by simp[Fg]
 |f+1,z=>by have:=RO f (CW .shr .u64 z 7);grind[Fg]
theorem eW(z0:Int)(m:Nm)(hz0:0<=z0/\z0<128^10):nE Tryz.prog 197 [] [.box m 0] m [.v (.int .u64 z0)] ((Fg 10 z0).map pH):=by
 refine qK (Aj (P:=Tryz.prog)) _ x197.hf x197.hc x197.hn (by simp[x197,Ah,gs]) (oL rfl) λl V hOK hTS hY=>?_
 have hS:=Aj (P:=Tryz.prog);dsimp only[x197,Ah,BW];refine go hS (fc hTS f0) ?_;refine IB (λx:Nat×Int×Nat×Nat=>⟨[(1,.box m 0),(gs,CL x.2.2.1),(0,.clo (.yield l) [] [])],[(.c m 0,.v (.int .u64 x.2.1))],x.2.2.2⟩)
  (λx=>(0<x.1/\0<=x.2.1/\x.2.1<128^x.1)/\((Fg 10 z0).drop x.2.2.1=Fg x.1 x.2.1/\x.2.2.1<=(Fg 10 z0).length)) (λx=>x.1) (10,z0,0,m.2) ?_ ?_ ?_
 ·exact⟨⟨Nat.zero_lt_succ _,hz0⟩,rfl,tD _⟩
 ·refine Le.of ?_ ?_ (by simp)<;>(simp only[go_sem,seval];try simp)
 ·rintro⟨f,z,k,c⟩ ⟨⟨hf,hz1,hz2⟩,hk,hkl⟩;simp only at hf hz1 hz2 hk hkl;obtain _|f:=f
  ·exact absurd hf (Nat.lt_irrefl _)
  have hkl':k<(Fg 10 z0).length:=by
   have:=congrArg List.length hk;rw[sG]at this;by_cases hz:z<128
   ·rw[TA hz,pV]at this;omega
   ·rw[TB hz,pV]at this;omega
  by_cases hz:z<128
  ·have hk':(Fg 10 z0).drop k=[(Mt z,true)]:=by rw[hk,TA hz]
   have hk1:k+1=(Fg 10 z0).length:=by have:=congrArg List.length hk';simp only[sG,pV,yH]at this;omega
   have hxs:((Fg 10 z0).map pH)[k]? =some [.v (.int .u8 (Mt z)),.v (.bool true)]:=by
    have:(Fg 10 z0)[k]? =((Fg 10 z0).drop k)[0]? :=by simp
    rw[rA,this,hk'];rfl
   refine go hS (fc hz (fc hTS f0)) ?_;refine hY 5 (args:=[.v (.int .u8 (Mt z)),.v (.bool true)]) rfl (by simp only[go_sem,seval,hTS,hz]<;>eq_refl) (by simp only[go_sem,seval,hTS,hz]<;>eq_refl) (by decide) (by simp only[go_sem,seval]<;>eq_refl) (by simp only[go_sem,seval]<;>eq_refl) (by simp only[go_sem,seval]<;>eq_refl) (by simp only[go_sem,seval,Am.Mt]<;>eq_refl) hxs (by simp only[go_sem,seval,hTS]<;>eq_refl) ?_ ?_ (by simp only[go_sem,seval,hTS]<;>eq_refl) ?_ ?_
   ·simp only[go_sem,seval]
   ·refine go hS (fc hTS f0) ?_;refine L9 (by simp only[go_sem,seval]<;>eq_refl) ?_;refine go hS (fc hTS f0) ?_;refine AbO ?_;simp only[go_sem,seval,qI];rw[<-hk1];rfl
   ·simp only[go_sem,seval]
   ·refine go hS (fc hTS f0) ?_;refine L9 (by simp only[go_sem,seval]<;>eq_refl) ?_;refine go hS (fc hTS f0) ?_;refine Sw ?_;simp only[go_sem,seval]
  ·have hk':(Fg 10 z0).drop k=(Mt z,false)::Fg f (CW .shr .u64 z 7):=by rw[hk,TB hz]
   have hxs:((Fg 10 z0).map pH)[k]? =some [.v (.int .u8 (Mt z)),.v (.bool false)]:=by
    have:(Fg 10 z0)[k]? =((Fg 10 z0).drop k)[0]? :=by simp
    rw[rA,this,hk'];rfl
   refine go hS (fc hz (fc hTS f0)) ?_;refine hY 5 (args:=[.v (.int .u8 (Mt z)),.v (.bool false)]) rfl (by simp only[go_sem,seval,hTS,hz]<;>eq_refl) (by simp only[go_sem,seval,hTS,hz]<;>eq_refl) (by decide) (by simp only[go_sem,seval]<;>eq_refl) (by simp only[go_sem,seval]<;>eq_refl) (by simp only[go_sem,seval]<;>eq_refl) (by simp only[go_sem,seval,Am.Mt]<;>eq_refl) hxs (by simp only[go_sem,seval,hTS]<;>eq_refl) ?_ ?_ (by simp only[go_sem,seval,hTS]<;>eq_refl) ?_ ?_
   ·simp only[go_sem,seval]
   ·refine go hS (fc hTS f0) ?_;refine Oo (by simp only[go_sem,seval]<;>eq_refl) ?_;refine go hS (fc hTS f0) ?_;have hf0:0<f:=by
     rcases Nat.eq_zero_or_pos f with rfl|h
     ·exact absurd hz2 (by simp only[rB,Int.pow_one]at hz2⊢;omega)
     ·exact h
    refine JL (f,CW .shr .u64 z 7,k+1,c+50) ⟨⟨hf0,?_,?_⟩,?_,by show k+1<=_;omega⟩ (Ki _) (Le.of ?_ ?_ ?_)
    ·show 0<=CW .shr .u64 z 7;rw[AaH];omega
    ·show CW .shr .u64 z 7<128^f;rw[AaH];rw[Int.pow_succ]at hz2;omega
    ·show(Fg 10 z0).drop (k+1)=_;have:(Fg 10 z0).drop (k+1)=((Fg 10 z0).drop k).drop 1:=by simp
     rw[this,hk'];rfl
    ·simp only[go_sem,seval]<;>simp
    ·simp only[go_sem,seval]
    ·simp
   ·simp only[go_sem,seval]
   ·refine go hS (fc hTS f0) ?_;refine L9 (by simp only[go_sem,seval]<;>eq_refl) ?_;refine go hS (fc hTS f0) ?_;refine Sw ?_;simp only[go_sem,seval]
def zz(n:Int):Int:=E1 .xor .u64 (CW .shl .u64 (IntKind.wrap .u64 n) 1) (IntKind.wrap .u64 (CW .shr .i64 n 63))
def pJ(e:Int×Bool):Int:=if e.2=true then e.1 else E1 .or .u8 e.1 128
def W6(n:Int):List Int:=(Fg 10 (zz n)).map pJ
def pM(l:List Int):List UInt8:=l.map λx=>UInt8.ofNat x.toNat
def Lp(n:Int):List UInt8:=bif decide (n< -4611686018427387903)||decide (4611686018427387903<n)then[]else pM (W6 n)
def Rp(x:Int):List AV:=[.v (.int .u8 x)]
theorem eX(l:List Int):(l.map Rp).all PF=true:=by grind[Rp,PF]
attribute [local go_sem] eX
theorem YS(l:List Int):(l.map Rp).map OL=pM l:=by induction l with|nil=>rfl|cons x l ih=>rw[eG,eG,ih];rfl
attribute [local go_sem] YS
theorem kV(n:Int):0<=IntKind.wrap .u64 n/\IntKind.wrap .u64 n<128^10:=by grind[IntKind.wrap,IntKind.bits,IntKind.signed]
theorem AcJ(n:Int):0<=zz n/\zz n<128^10:=kV _
theorem eY(n:Int):PCall Tryz.prog 110 [.i n] (.tup [.v (.string (sB (Lp n))),.i (bif decide (n< -4611686018427387903)||decide (4611686018427387903<n)then 10 else 0)]):=by
 refine O4 (Aj (P:=Tryz.prog)) _ x110.hf x110.hc x110.hn (oL rfl) λ_=>?_
 have hS:=Aj (P:=Tryz.prog);dsimp only[x110,Ah,BW];refine go hS f0 ?_;refine AbL (b:=decide (n< -4611686018427387903)||decide (4611686018427387903<n)) (by simp only[go_sem,seval]<;>eq_refl) (λhb=>?_) λhb=>?_
 ·refine go hS f0 ?_
  first|refine Ma (by simp only[go_sem,seval]<;>eq_refl) (by simp only[go_sem,seval]) (by simp only[go_sem,seval]) ?_ rfl|refine Mb (by simp only[go_sem,seval]<;>eq_refl) (by simp only[go_sem,seval]) (by simp only[go_sem,seval]) ?_ rfl
  simp only[Lp,hb,go_sem,seval]
 ·refine go hS f0 ?_;refine GO hS 7 x175.hf x175.hc x175.hn x175.ok rfl (by simp only[go_sem,seval]<;>eq_refl) (by simp only[go_sem,seval]<;>eq_refl) ?_ rfl (by simp only[go_sem,seval]<;>eq_refl) (oL rfl) λ_=>?_
  ·exact yT
  dsimp only[x175,Ah,BW];refine go hS f0 ?_;refine Fc 1 (300,3) 0 1 [.v (.int .u8 0)] (by omega) (by simp only[go_sem,seval]<;>eq_refl) ?_;have hlen:=RO 10 (zz n);refine aH (0,5) [.v (.int .u64 (zz n))] (λx:Nat×List Int×Nat=>([(.c (300,3) 0,.own (1,8) x.2.1.length),(.a (1,8),.sl 1 true (x.2.1.map Rp) [.v (.int .u8 0)])],x.2.2))
   (λx=>x.2.1=((Fg 10 (zz n)).take x.1).map pJ/\x.1<=(Fg 10 (zz n)).length) (λx=>x.1) (0,[],8) (by simp only[go_sem,seval]<;>eq_refl) (eW (zz n) (0,5) (AcJ n)) x197.ok ⟨rfl,rfl,rfl⟩ ⟨rfl,rfl,rfl⟩ (λj=>by simp[hl]) (by simp) (by intro a ha;obtain⟨y,_,rfl⟩:=List.mem_map.1 ha;exact⟨rfl,rfl⟩) ⟨rfl,tD _⟩ rfl ?_ ?_ ?_
  ·exact Ch f0
  ·rintro l ⟨k,out,c⟩ ⟨hout,hk⟩ args ha;simp only at hout hk;obtain⟨⟨g,last⟩,hy,rfl,hlt⟩:=Tz ha;have hout2:out++[pJ (g,last)]=((Fg 10 (zz n)).take (k+1)).map pJ:=by
    have:(Fg 10 (zz n))[k]? =some (g,last):=by
     have:(Fg 10 (zz n))[k]? =((Fg 10 (zz n)).drop k)[0]? :=by simp
     rw[this,hy];rfl
    rw[List.take_add_one,this,uI,hout];rfl
   have hol:out.length=k:=by rw[hout];simp;omega
   clear ha hy;simp only[pH,Jd];have hOK:=Ctx.rdG_ok (nt:=33) (l:=l) hS;cases last with
   |true=>refine go hS f0 ?_;refine Oo (by simp only[go_sem,seval]<;>eq_refl) ?_;refine go hS f0 ?_;refine V9 (k+1,out++[g],c+50) ⟨by rw[<-hout2];rfl,hlt⟩ rfl ?_;refine Le.of ?_ ?_ (by first|exact fW _|(simp;omega)|simp)<;>first|(simp only[go_sem,seval,Rp];done)|(simp only[go_sem,seval,Rp,uI,eG,tV,List.map_set,List.map_take,List.map_drop];done)|(simp[Rp,uI,List.map_set];done)
   |false=>refine go hS f0 ?_;refine L9 (by simp only[go_sem,seval]<;>eq_refl) ?_;refine go hS f0 ?_;refine V9 (k+1,out++[E1 .or .u8 g 128],c+50) ⟨by rw[<-hout2];rfl,hlt⟩ rfl ?_;refine Le.of ?_ ?_ (by first|exact fW _|(simp;omega)|simp)<;>first|(simp only[go_sem,seval,Rp];done)|(simp only[go_sem,seval,Rp,uI,eG,tV,List.map_set,List.map_take,List.map_drop];done)|(simp[Rp,uI,List.map_set];done)
  ·rintro⟨k,out,c⟩ ⟨hout,hk⟩ hk2;simp only at hout hk;refine go hS f0 ?_
   first|refine Ma (by simp only[go_sem,seval]<;>eq_refl) (by simp only[go_sem,seval]) (by simp only[go_sem,seval]) ?_ rfl|refine Mb (by simp only[go_sem,seval]<;>eq_refl) (by simp only[go_sem,seval]) (by simp only[go_sem,seval]) ?_ rfl
   have:out=W6 n:=by rw[hout,show k=_ from hk2,W6,qI,KJ]
   simp only[Lp,hb,this,go_sem,seval]
end
section
attribute [local irreducible] Ax BO BB Bj BC Bk AY BD BK Cq
def Pq:Spec|[.v (.int .i64 n)]=>some (True,.tup [.v (.string (sB (Lp n))),.i (bif decide (n< -4611686018427387903)||decide (4611686018427387903<n)then 10 else 0)])|_=>none
attribute [local go_sem] Pq
theorem W7:AG Tryz.prog 110 Pq:=⟨x110.ok,by
 intro args vc r h hv;unfold Pq at h;split at h
 ·cases h
  exact eY _
 ·simp at h⟩
def S42:List (Nat×Spec):=[(110,Pq)]
attribute [local go_sem] S42
theorem S0:TabOK Tryz.prog (Gs S42):=Ab W7 Aj
def Rq(x:Int):List AV:=[.i x]
theorem eI_row(ns:List Int)(d:List AV)(j:Nat)(h:j<ns.length):A6 (ns.map Rq) d j=[.i (ns.getD j 0)]:=by grind[A6,Rq]
def E0(ns:List Int):List UInt8:=(ns.map Lp).flatten
theorem W8:Dh Tryz.prog 111:=⟨Tryz.f111,Tryz.func111,by kernel_rfl,by kernel_rfl⟩
theorem Ut:Dh Tryz.prog 112:=⟨Tryz.f112,Tryz.func112,by kernel_rfl,by kernel_rfl⟩
theorem YT(ns:List Int)(j:Nat):(E0 (ns.take j)).length<=(E0 ns).length:=by grind[E0,y9]
theorem Uu{ns:List Int}{j:Nat}(h:j<ns.length):E0 (ns.take (j+1))=E0 (ns.take j)++Lp (ns.getD j 0):=by
 unfold E0;have:ns[j]? =some (ns.getD j 0):=by grind
 rw[List.take_add_one,this];simp
theorem Uv(ns:List Int)(f:Bool)(d:List AV)(l:List UInt8)(hl:(l++E0 ns).length<=140737488355328)(hn:ns.length<=1000000):Sb Tryz.prog 187 [.sl 1 f (ns.map Rq) d] l (some (l++E0 ns)) (.tup []):=by
 refine gP S0 _ x187.hf x187.hc x187.hn (by decide) (oL rfl) λhb N X b=>?_
 have hS:=S0;have hOK:=Ctx.bd_ok (nt:=25) (hb:=hb) (N:=N) (X:=X) (hnt:=by decide) hS;dsimp only[x187,Ah,BW];refine go hS f0 ?_;refine IB (λx:Nat×Nat=>⟨[(10,.i x.1),(9,.i ns.length),(8,.sl 1 f (ns.map Rq) d),(0,.v (.pointer (some ⟨b,0,none⟩))),(bk,gB b (l++E0 (ns.take x.1)))],[],x.2⟩)
  (λx=>x.1<=ns.length) (λx=>ns.length-x.1) (0,50) ?_ ?_ ?_
 ·exact tD _
 ·refine Le.of ?_ ?_ (by simp)<;>(simp only[go_sem,seval,E0];try simp)
 ·rintro⟨j,c⟩ hj;simp only at hj
  repeat' (first
  |((with_reducible first|apply DD|apply EA|apply Eu|apply FL|apply DE|apply DF);(·(first|exact Ctx.fn_ok hS|exact Ctx.rd_ok hS|assumption|exact yT));iterate 2 (·(simp only[go_sem,seval]<;>eq_refl)))
  |(with_reducible first|apply Dz|apply En|apply Di|apply Dj|apply CX|apply Cw|apply CK|apply DW|apply Ec|apply Eo|apply Ep|apply Er|apply Es)
  |(with_reducible apply Et;(·first|rfl|decide))
  |(with_reducible first|apply DB|apply DC|apply Ex|apply Ey|apply Ez|apply yT|apply And.intro yT yT)
  |(fail_if_success with_reducible apply G1);(fail_if_success with_reducible apply Ew);first|omega|(simp only[go_sem,seval];done)
  |fail)
  refine Sv ((j:Int)<ns.length) (by simp only[go_sem,seval]<;>eq_refl) (by first|simp only[Bool.decide_or,Bool.decide_and,decide_not]|simp) (λhj1=>?_) (λhj1=>?_)
  ·have hj':j<ns.length:=by omega
   have hrow:=eI_row ns d j hj';have hsu:=Uu hj';have hle:=YT ns (j+1);rw[hsu,jT]at hle;have hl2:(l++E0 (ns.take j)).length+(Lp (ns.getD j 0)).length<=140737488355328:=by rw[jT]at hl⊢;omega
   repeat' (first
  |((with_reducible first|apply DD|apply EA|apply Eu|apply FL|apply DE|apply DF);(·(first|exact Ctx.fn_ok hS|exact Ctx.rd_ok hS|assumption|exact yT));iterate 2 (·(simp only[go_sem,seval,hrow]<;>eq_refl)))
  |(with_reducible first|apply Dz|apply En|apply Di|apply Dj|apply CX|apply Cw|apply CK|apply DW|apply Ec|apply Eo|apply Ep|apply Er|apply Es)
  |(with_reducible apply Et;(·first|rfl|decide))
  |(with_reducible first|apply DB|apply DC|apply Ex|apply Ey|apply Ez|apply yT|apply And.intro yT yT)
  |(fail_if_success with_reducible apply G1);(fail_if_success with_reducible apply Ew);first|omega|(simp only[go_sem,seval,hrow];done)
  |fail)
   refine KO hS 4 rfl W8 (by simp only[go_sem,seval]<;>eq_refl) yT (by simp only[go_sem,seval]<;>eq_refl) (by simp only[go_sem,seval]<;>eq_refl) (by simp only[go_sem,seval]<;>eq_refl) (by simp only[go_sem,seval,Ej]<;>eq_refl) rfl rfl (Q6 hl2) (by simp only[go_sem,seval]<;>eq_refl) yT ?_
   repeat' (first
  |((with_reducible first|apply DD|apply EA|apply Eu|apply FL|apply DE|apply DF);(·(first|exact Ctx.fn_ok hS|exact Ctx.rd_ok hS|assumption|exact yT));iterate 2 (·(simp only[go_sem,seval]<;>eq_refl)))
  |(with_reducible first|apply Dz|apply En|apply Di|apply Dj|apply CX|apply Cw|apply CK|apply DW|apply Ec|apply Eo|apply Ep|apply Er|apply Es)
  |(with_reducible apply Et;(·first|rfl|decide))
  |(with_reducible first|apply DB|apply DC|apply Ex|apply Ey|apply Ez|apply yT|apply And.intro yT yT)
  |(fail_if_success with_reducible apply G1);(fail_if_success with_reducible apply Ew);first|omega|(simp only[go_sem,seval];done)
  |fail)
   refine JL (j+1,c+50) (by show j+1<=_;omega) (by show ns.length-(j+1)<ns.length-j;omega) (Le.of ?_ ?_ ?_)
   ·simp only[go_sem,seval,hsu,qZ]<;>simp
   ·simp only[go_sem,seval]
   ·simp
  ·refine go hS f0 ?_;have:j=ns.length:=by omega
   subst this;rw[KJ];refine uX (by simp only[go_sem,seval]<;>eq_refl) (by simp only[go_sem,seval]<;>eq_refl) yT (by simp only[go_sem,seval]<;>eq_refl) (by simp only[go_sem,seval]<;>eq_refl) rfl
end
section
attribute [local irreducible] Ax BO BB Bj BC Bk AY BD BK Cq
theorem eZ:BT 207:=⟨by kernel_rfl,by decide⟩
def S21(N:Nat):List (Nat×Spec):=[(91,Yq N)]
attribute [local go_sem] S21
theorem fA(N:Nat):TabOK Tryz.prog (Gs (S21 N)):=Ab (Pj N) Aj
def pN(a b c n p q:Int):List UInt8:=E0 [a,b,c,p,q,n]
def Qq(l:List (Int×Int)):List UInt8:=(l.map λp=>E0 [p.1,p.2]).flatten
def kW(a b c:Int)(l:List (Int×Int))(p q:Int):List UInt8:=pN a b c l.length p q++Qq l
theorem kX(n:Int):(Lp n).length<=10:=by
 unfold Lp;cases h:(decide (n< -4611686018427387903)||decide (4611686018427387903<n))with
 |true=>simp
 |false=>simp_all[pM,W6,RO]
theorem NC:∀(ns:List Int),(E0 ns).length<=10*ns.length
 |[]=>by simp[E0]
 |n::ns=>by have h1:=kX n;have h2:=NC ns;grind[E0]
theorem TC:∀(l:List (Int×Int)),(Qq l).length<=20*l.length
 |[]=>by simp[Qq]
 |p::l=>by have h1:=NC [p.1,p.2];have h2:=TC l;grind[Qq]
theorem kY{l:List (Int×Int)}{j:Nat}(h:j<l.length):Qq (l.take (j+1))=Qq (l.take j)++E0 [(l.getD j (0,0)).1,(l.getD j (0,0)).2]:=by
 unfold Qq;have:l[j]? =some (l.getD j (0,0)):=by grind
 rw[List.take_add_one,this];simp
theorem uC{n:Int}(h1: -4611686018427387903<=n)(h2:n<=4611686018427387903):Lp n≠[]:=by unfold Lp;unfold pM W6;all_goals grind[TA,TB]
theorem fB(N:Nat)(a b c:Int)(l:List (Int×Int))(p q:Int)(v:Bool)(hv:B6 N a b c l p q=some v)(hl:l.length<=1000000):PCall Tryz.prog 137 [.agg [.i a,.i b,.i c,.sl 2 false (l.map Cz) [.i 0,.i 0],.i p,.i q]] (.tup [.v (.string (sB (bif v then kW a b c l p q else[]))),.i (bif v then 0 else 80)]):=by
 refine Vy (fA N) _ x137.hf x137.hc x137.hn (by decide) (oL rfl) λhb M=>?_
 have hS:=fA N;have hOK:=Ctx.bd_ok (nt:=41) (hb:=hb) (N:=M) (X:=λ_=>False) (hnt:=by decide) hS;dsimp only[x137,Ah,BW];have hlen:=TC l;have hhl:=NC [a,b,c,p,q,(l.length:Int)]
 repeat' (first
  |((with_reducible first|apply DD|apply EA|apply Eu|apply FL|apply DE|apply DF);(·(first|exact Ctx.fn_ok hS|exact Ctx.rd_ok hS|assumption|exact yT));iterate 2 (·(simp only[go_sem,seval,hv]<;>eq_refl)))
  |(with_reducible first|apply Dz|apply En|apply Di|apply Dj|apply CX|apply Cw|apply CK|apply DW|apply Ec|apply Eo|apply Ep|apply Er|apply Es)
  |(with_reducible apply Et;(·first|rfl|decide))
  |(with_reducible first|apply DB|apply DC|apply Ex|apply Ey|apply Ez|apply yT|apply And.intro yT yT)
  |(fail_if_success with_reducible apply G1);(fail_if_success with_reducible apply Ew);first|omega|(simp only[go_sem,seval,hv];done)
  |fail)
 cases v with
 |false=>
  refine L9 (by simp only[go_sem,seval,hv,oK]<;>eq_refl) ?_;refine go hS f0 ?_
  first|refine Ma (by simp only[go_sem,seval]<;>eq_refl) (by simp only[go_sem,seval]) (by simp only[go_sem,seval]) ?_ rfl|refine Mb (by simp only[go_sem,seval]<;>eq_refl) (by simp only[go_sem,seval]) (by simp only[go_sem,seval]) ?_ rfl
  simp only[go_sem,seval]
 |true=>
  refine Oo (by simp only[go_sem,seval,hv,oK]<;>eq_refl) ?_;refine go hS f0 ?_;refine Vx hS 0 rfl eZ (by simp only[go_sem,seval]<;>eq_refl) yT λB=>⟨_,_,_,(by simp only[go_sem,seval]<;>eq_refl),yT,?_⟩
  refine go hS f0 ?_;have hh1:([]++E0 [a,b,c,p,q,(l.length:Int)]).length<=140737488355328:=by simp only[pA,pV,yH]at hhl⊢;omega
  refine KO hS 14 (ax:=[.sl 1 false ([a,b,c,p,q,(l.length:Int)].map Rq) [.i 0]]) rfl x187.ok (by simp only[go_sem,seval]<;>eq_refl) yT (by simp only[go_sem,seval]<;>eq_refl) (by simp only[go_sem,seval]<;>eq_refl) (by simp only[go_sem,seval,Am.Rq]<;>eq_refl) ?_ rfl rfl (Uv _ _ _ [] hh1 (by simp)) (by simp only[go_sem,seval]<;>eq_refl) yT ?_
  ·simp only[go_sem,seval]
  refine go hS f0 ?_;refine IB (λx:Nat×Nat=>⟨[(28,.i x.1),(27,.i l.length),(26,.sl 2 false (l.map Cz) [.i 0,.i 0]),(4,.v (.pointer (some ⟨B,0,none⟩))),(3,.i 0),(bk,gB B (E0 [a,b,c,p,q,(l.length:Int)]++Qq (l.take x.1)))],[],x.2⟩)
   (λx=>x.1<=l.length) (λx=>l.length-x.1) (0,50) ?_ ?_ ?_
  ·exact tD _
  ·refine Le.of ?_ ?_ (by simp)<;>(simp only[go_sem,seval,Qq];try simp)
  ·rintro⟨j,cc⟩ hj;simp only at hj
   repeat' (first
  |((with_reducible first|apply DD|apply EA|apply Eu|apply FL|apply DE|apply DF);(·(first|exact Ctx.fn_ok hS|exact Ctx.rd_ok hS|assumption|exact yT));iterate 2 (·(simp only[go_sem,seval]<;>eq_refl)))
  |(with_reducible first|apply Dz|apply En|apply Di|apply Dj|apply CX|apply Cw|apply CK|apply DW|apply Ec|apply Eo|apply Ep|apply Er|apply Es)
  |(with_reducible apply Et;(·first|rfl|decide))
  |(with_reducible first|apply DB|apply DC|apply Ex|apply Ey|apply Ez|apply yT|apply And.intro yT yT)
  |(fail_if_success with_reducible apply G1);(fail_if_success with_reducible apply Ew);first|omega|(simp only[go_sem,seval];done)
  |fail)
   refine Sv ((j:Int)<l.length) (by simp only[go_sem,seval]<;>eq_refl) (by first|simp only[Bool.decide_or,Bool.decide_and,decide_not]|simp) (λhj1=>?_) (λhj1=>?_)
   ·have hj':j<l.length:=by omega
    have hrow:=QO l j;have hsu:=kY hj';have hl1:=TC (l.take j);have hl0:(l.take j).length<=l.length:=by rw[tW];omega
    have hl3:=NC [(l.getD j (0,0)).1,(l.getD j (0,0)).2];have hl2:((E0 [a,b,c,p,q,(l.length:Int)]++Qq (l.take j))++E0 [(l.getD j (0,0)).1,(l.getD j (0,0)).2]).length<=140737488355328:=by simp only[jT,pV,yH]at hhl hl3⊢;omega
    refine go hS (fc hrow f0) ?_;refine KO hS 5 (ax:=[.sl 1 false ([(l.getD j (0,0)).1,(l.getD j (0,0)).2].map Rq) [.i 0]]) rfl x187.ok (by simp only[go_sem,seval]<;>eq_refl) yT (by simp only[go_sem,seval]<;>eq_refl) (by simp only[go_sem,seval]<;>eq_refl) (by simp only[go_sem,seval,Am.Rq]<;>eq_refl) ?_ rfl rfl (Uv _ _ _ _ hl2 (by simp)) (by simp only[go_sem,seval]<;>eq_refl) yT ?_
    ·simp only[go_sem,seval]
    repeat' (first
  |((with_reducible first|apply DD|apply EA|apply Eu|apply FL|apply DE|apply DF);(·(first|exact Ctx.fn_ok hS|exact Ctx.rd_ok hS|assumption|exact yT));iterate 2 (·(simp only[go_sem,seval]<;>eq_refl)))
  |(with_reducible first|apply Dz|apply En|apply Di|apply Dj|apply CX|apply Cw|apply CK|apply DW|apply Ec|apply Eo|apply Ep|apply Er|apply Es)
  |(with_reducible apply Et;(·first|rfl|decide))
  |(with_reducible first|apply DB|apply DC|apply Ex|apply Ey|apply Ez|apply yT|apply And.intro yT yT)
  |(fail_if_success with_reducible apply G1);(fail_if_success with_reducible apply Ew);first|omega|(simp only[go_sem,seval];done)
  |fail)
    refine JL (j+1,cc+50) (by show j+1<=_;omega) (by show l.length-(j+1)<l.length-j;omega) (Le.of ?_ ?_ ?_)
    ·simp only[go_sem,seval,hsu,qZ]<;>simp
    ·simp only[go_sem,seval]
    ·simp
   ·refine go hS f0 ?_;have hjl:j=l.length:=by omega
    subst hjl;rw[KJ];have hne:E0 [a,b,c,p,q,(l.length:Int)]++Qq l≠[]:=by have h1:=uC (n:=(l.length:Int)) (by omega) (by omega);intro h;have h2:=List.append_eq_nil_iff.1 h;simp only[E0,eG,List.flatten_cons,List.append_eq_nil_iff]at h2;exact h1 h2.1.2.2.2.2.2.1
    refine KO hS 1 (ax:=[]) rfl Ut (by simp only[go_sem,seval]<;>eq_refl) yT (by simp only[go_sem,seval]<;>eq_refl) (by simp only[go_sem,seval]<;>eq_refl) (by simp only[go_sem,seval]<;>eq_refl) yT rfl rfl (PO hne) (by simp only[go_sem,seval]<;>eq_refl) yT ?_;refine go hS f0 ?_
    first|refine Ma (by simp only[go_sem,seval]<;>eq_refl) (by simp only[go_sem,seval]) (by simp only[go_sem,seval]) ?_ rfl|refine Mb (by simp only[go_sem,seval]<;>eq_refl) (by simp only[go_sem,seval]) (by simp only[go_sem,seval]) ?_ rfl
    simp only[kW,pN,go_sem,seval]
end
section
attribute [local irreducible] Ax BO BB Bj BC Bk AY BD BK Cq
attribute [local go_sem] Option.isSome_some yN
def S45(N:Nat):List (Nat×Spec):=[(76,yN N)]
attribute [local go_sem] S45
theorem S1(N:Nat):TabOK Tryz.prog (Gs (S45 N)):=Ab (Zx N) Aj
theorem kZ(N:Nat)(m:Nm)(s:List UInt8)(p n q:Int)(h:B3 N s p=some (n,q,0)):US Tryz.prog 116 m [.box m 0] [.v (.string (sB s)),.i p] (.i n) [(1,.i q)]:=by
 refine gE (S1 N) _ x116.hf x116.hc x116.hn (oL rfl) λhb=>?_
 have hS:=S1 N;dsimp only[x116,Ah,BW];refine go hS (fc h f0) ?_;refine Oo (by simp only[go_sem,seval]<;>eq_refl) ?_;refine go hS f0 ?_;exact HU (by simp only[go_sem,seval]<;>eq_refl) yT ⟨by simp only[go_sem,seval],λj c h=>h⟩
def fV:Value:=.iface 169 (.agg #[])
theorem lA(N:Nat)(m:Nm)(s:List UInt8)(p n q e:Int)(h:B3 N s p=some (n,q,e))(he:¬e=0):R9 Tryz.prog 116 m [.box m 0] [.v (.string (sB s)),.i p] fV:=by
 refine aO (S1 N) _ x116.hf x116.hc x116.hn (oL rfl) λhb=>?_
 have hS:=S1 N;dsimp only[x116,Ah,BW];refine go hS (fc h f0) ?_;refine L9 (by simp only[go_sem,seval,he,decide_not]<;>eq_refl) ?_;refine Bf (Ctx.fn_ok hS) 2 rfl rfl (by simp only[go_sem,seval]<;>eq_refl) (by simp only[go_sem,seval]) (by simp only[go_sem,seval]<;>eq_refl) ?_
 repeat' (with_reducible first|apply A8|apply A9)
 exact uZ λj c h=>h
def W9(N:Nat):QK
 |[.box _ 0],[.v (.string s),.v (.int .i64 p)]=>match B3 N (bL s) p with|some (n,q,e)=>if e=0 then some (True,.i n,[(1,.i q)])else none|none=>none
 |_,_=>none
theorem uD(N:Nat):EOK Tryz.prog 116 (W9 N):=⟨x116.ok,by
 intro args cells vc r us n h hv hb;unfold W9 at h;split at h
 ·split at h
  ·rename_i m s p _ a b e hr;split at h
   ·cases h
    rename_i he;subst he;simp only[FK,yE]at hb;subst hb;have:=kZ N m (bL s) p a b hr;rw[NG]at this;exact this
   ·cases h
  ·cases h
 ·simp at h⟩
def Xa(N:Nat):QL
 |[.box _ 0],[.v (.string s),.v (.int .i64 p)]=>match B3 N (bL s) p with|some (_,_,e)=>if e=0 then none else some (True,fV)|none=>none
 |_,_=>none
theorem uE(N:Nat):POK Tryz.prog 116 (Xa N):=⟨x116.ok,by
 intro args cells vc v n h hv hb;unfold Xa at h;split at h
 ·split at h
  ·rename_i m s p _ a b e hr;split at h
   ·cases h
   ·cases h
    rename_i he;simp only[FK,yE]at hb;subst hb;have:=lA N m (bL s) p a b e hr he;rw[NG]at this;exact this
  ·cases h
 ·simp at h⟩
def pP(N:Nat):List (Nat×Spec):=[(91,Yq N),(117,Zv N)]
def fC(N:Nat):List (Nat×QK):=[(116,W9 N)]
def fD(N:Nat):List (Nat×QL):=[(116,Xa N)]
theorem Xb(N:Nat):TabOK Tryz.prog (Lb (pP N) (fC N) (fD N)):=rR (Ab (Pj N) (Ab (cR N) Aj)) (by
 intro x hx;simp only[fC,vF]at hx;subst hx;exact uD N) (by
 intro x hx;simp only[fD,vF]at hx;subst hx;exact uE N)
def dN(N:Nat)(s:List UInt8)(p:Int):Option (Option (Int×Int)):=(B3 N s p).bind λ(n,q,e)=>some (if e=0 then some (n,q)else none)
def pb{E J:Type}:Option (Option E)->(E->Option (Option J))->Option (Option J)
 |none,_=>none
 |some none,_=>some none
 |some (some a),f=>f a
theorem JD{N:Nat}{s:List UInt8}{p:Int}{J:Type}{f:Int×Int->Option (Option J)}{r:Option J}(h:pb (dN N s p) f=some r):∃x q e,B3 N s p=some (x,q,e)/\(¬e=0/\r=none\/e=0/\f (x,q)=some r):=by
 unfold dN at h;cases hw:B3 N s p with
 |none=>rw[hw]at h;simp[pb]at h
 |some t=>
  obtain⟨x,q,e⟩:=t;refine⟨x,q,e,rfl,?_⟩;rw[hw,pK]at h;simp only at h;by_cases he:e=0
  ·rw[dW he]at h;exact .inr ⟨he,h⟩
  ·rw[dQ he]at h;exact .inl ⟨he,(yJ h).symm⟩
theorem pQ{E J γ:Type}{x:Option (Option E)}{f:E->Option (Option J)}{g:J->Option (Option γ)}:pb (pb x f) g=pb x λa=>pb (f a) g:=by rcases x with _|_|a<;>rfl
def dP(N:Nat)(s:List UInt8):Nat->Int->List (Int×Int)->Option (Option (List (Int×Int)×Int))|0,p,l=>some (some (l,p))|k+1,p,l=>pb (dN N s p) λ(x,q)=>pb (dN N s q) λ(y,r)=>dP N s k r (l++[(x,y)])
def lB(N:Nat)(s:List UInt8):Option (Option (Int×Int×Int×List (Int×Int)×Int×Int)):=pb (dN N s 0) λ(a,p1)=>pb (dN N s p1) λ(b,p2)=>pb (dN N s p2) λ(c,p3)=>pb (dN N s p3) λ(f,p4)=>pb (dN N s p4) λ(g,p5)=>pb (dN N s p5) λ(n,p6)=>bif decide (3<=n)&&decide (n<=8)then pb (dP N s n.toNat p6 []) λ(l,p7)=>bif decide (p7<(s.length:Int))then some none else (B6 N a b c l f g).bind λv=>some (bif v then some (a,b,c,l,f,g)else none)else some none
section
attribute [local go_sem] pP fC fD W9 Xa fV Zv Yq Ef MR Cz Option.isSome_some
def FP:Option AV->Bool|some c=> !isM c|none=>false
theorem TD{o:Option AV}:FP o=true↔∃c,o=some c/\isM c=false:=by
 cases o with
 |none=>simp[FP]
 |some c=>simp[FP]
theorem Hw(N:Nat){e:Az}{h:Hp}{c:Nat}(e2:lk e 2=.box (0,1) 0)(e3:lk e 3=.box (1,1) 0)(ek:lk e (dk 64)=.gd false (.clo (.func 115) [] [.box (0,1) 0,.box (1,1) 0]))(hh:(FP (hl h (.c (0,1) 0))&&FP (hl h (.c (0,1) 1))&&FP (hl h (.c (0,1) 2))&&FP (hl h (.c (0,1) 3))&&FP (hl h (.c (0,1) 4))&&FP (hl h (.c (0,1) 5))&&FP (hl h (.c (1,1) 0)))=true):Q5 Tryz.prog (Lb (pP N) (fC N) (fD N)) 64 x79.rv (.tup [.agg [.i 0,.i 0,.i 0,.sl 2 false [] [.i 0,.i 0],.i 0,.i 0],.i 80]) (.p fV) ⟨e,h,c⟩:=by
 have hS:=Xb N;simp only[nK,TD]at hh;obtain⟨⟨⟨⟨⟨⟨⟨c0,h0,k0⟩,⟨c1,h1,k1⟩⟩,⟨c2,h2,k2⟩⟩,⟨c3,h3,k3⟩⟩,⟨c4,h4,k4⟩⟩,⟨c5,h5,k5⟩⟩,⟨d0,h6,k6⟩⟩:=hh;refine⟨_,_,ek,_,_,_,_,_,_,Tryz.func115,x115.hc,x115.hn,oL rfl,x115.ok,rfl,λaa=>?_⟩;dsimp only[x115,Ah,BW];have ab:=Ctx.fd_ok (nt:=12) (hb:=aa) hS;have F:=fc h0 (fc h1 (fc h2 (fc h3 (fc h4 (fc h5 (fc h6 (fc k0 (fc k1 (fc k2 (fc k3 (fc k4 (fc k5 (fc k6 f0)))))))))))));refine go hS F ?_;refine cf F ?_;refine go hS F ?_;refine ct F ?_;refine go hS F ?_;refine Oi ⟨by simp only[go_sem,seval],?_⟩;try dsimp only[x79,Ah]
 exact⟨_,_,by simp only[go_sem,seval,e2,e3]<;>eq_refl,by simp only[go_sem,seval],by simp only[go_sem,seval],.of (by simp only[go_sem,seval]),rfl⟩
end
section
attribute [local go_sem] pP fC fD W9 Xa Zv Yq Ef MR Cz Option.isSome_some
theorem fE(N:Nat)(s:List UInt8)(r:Option (Int×Int×Int×List (Int×Int)×Int×Int))(h:lB N s=some r):PCall Tryz.prog 79 [.v (.string (sB s))] (match r with|some (a,b,c,l,f,g)=>.tup [.agg [.i a,.i b,.i c,.sl 2 false (l.map Cz) [.i 0,.i 0],.i f,.i g],.i 0]|none=>.tup [.agg [.i 0,.i 0,.i 0,.sl 2 false [] [.i 0,.i 0],.i 0,.i 0],.i 80]):=by
 refine Vv (Xb N) _ x79.hf x79.hc x79.hn (oL rfl) λhb=>?_
 have hS:=Xb N;have hOK:=Ctx.fd_ok (nt:=64) (hb:=hb) hS;have F:=f0;dsimp only[x79,Ah,BW];unfold lB at h;refine go hS F ?_;refine JH hS 1 rfl rfl (by simp only[go_sem,seval]<;>eq_refl) yT (by simp only[go_sem,seval]<;>eq_refl) (by simp only[go_sem,seval]<;>eq_refl) ?_;refine go hS F ?_;refine Pi 30 ?_;replace h:=JD h;obtain⟨a,p1,e0,k0,h⟩:=h;refine go hS F ?_;refine ct F ?_;refine go hS F ?_;rcases h with⟨he,rfl⟩|⟨rfl,h⟩
 ·replace F:=fc k0 (fc he F);refine PQ (p:=fV) hOK F 2 ?_
  repeat' (with_reducible first|apply A8|apply A9|apply Bh|apply AR)
  exact Hw N (by simp only[go_sem,seval]) (by simp only[go_sem,seval]) (by simp only[go_sem,seval]) (by simp only[go_sem,seval,FP])
 replace F:=fc k0 F;replace h:=JD h;obtain⟨b,p2,e1,k1,h⟩:=h;refine go hS F ?_;refine ct F ?_;refine go hS F ?_;rcases h with⟨he,rfl⟩|⟨rfl,h⟩
 ·replace F:=fc k1 (fc he F);refine PQ (p:=fV) hOK F 2 ?_
  repeat' (with_reducible first|apply A8|apply A9|apply Bh|apply AR)
  exact Hw N (by simp only[go_sem,seval]) (by simp only[go_sem,seval]) (by simp only[go_sem,seval]) (by simp only[go_sem,seval,FP])
 replace F:=fc k1 F;replace h:=JD h;obtain⟨c,p3,e2,k2,h⟩:=h;refine go hS F ?_;refine ct F ?_;refine go hS F ?_;rcases h with⟨he,rfl⟩|⟨rfl,h⟩
 ·replace F:=fc k2 (fc he F);refine PQ (p:=fV) hOK F 2 ?_
  repeat' (with_reducible first|apply A8|apply A9|apply Bh|apply AR)
  exact Hw N (by simp only[go_sem,seval]) (by simp only[go_sem,seval]) (by simp only[go_sem,seval]) (by simp only[go_sem,seval,FP])
 replace F:=fc k2 F;replace h:=JD h;obtain⟨f,p4,e3,k3,h⟩:=h;refine go hS F ?_;refine ct F ?_;refine go hS F ?_;rcases h with⟨he,rfl⟩|⟨rfl,h⟩
 ·replace F:=fc k3 (fc he F);refine PQ (p:=fV) hOK F 2 ?_
  repeat' (with_reducible first|apply A8|apply A9|apply Bh|apply AR)
  exact Hw N (by simp only[go_sem,seval]) (by simp only[go_sem,seval]) (by simp only[go_sem,seval]) (by simp only[go_sem,seval,FP])
 replace F:=fc k3 F;replace h:=JD h;obtain⟨g,p5,e4,k4,h⟩:=h;refine go hS F ?_;refine ct F ?_;refine go hS F ?_;rcases h with⟨he,rfl⟩|⟨rfl,h⟩
 ·replace F:=fc k4 (fc he F);refine PQ (p:=fV) hOK F 2 ?_
  repeat' (with_reducible first|apply A8|apply A9|apply Bh|apply AR)
  exact Hw N (by simp only[go_sem,seval]) (by simp only[go_sem,seval]) (by simp only[go_sem,seval]) (by simp only[go_sem,seval,FP])
 replace F:=fc k4 F;replace h:=JD h;obtain⟨n,p6,e5,k5,h⟩:=h;refine go hS F ?_;refine cf F ?_;refine go hS F ?_;rcases h with⟨he,rfl⟩|⟨rfl,h⟩
 ·replace F:=fc k5 (fc he F);refine PQ (p:=fV) hOK F 1 ?_
  repeat' (with_reducible first|apply A8|apply A9|apply Bh|apply AR)
  exact Hw N (by simp only[go_sem,seval]) (by simp only[go_sem,seval]) (by simp only[go_sem,seval]) (by simp only[go_sem,seval,FP])
 replace F:=fc k5 F;refine go hS F ?_;simp only at h;cases hc:decide ((3:Int)<=n)&&decide (n<=(8:Int))with
 |false=>
  rw[hc,sH]at h;obtain rfl:=yJ h;refine ct (fc hc F) ?_;refine Bf hOK 2 rfl rfl (by simp only[go_sem,seval]<;>eq_refl) (by simp only[go_sem,seval]) (by simp only[go_sem,seval]<;>eq_refl) ?_
  repeat' (with_reducible first|apply A8|apply A9|apply Bh|apply AR)
  exact Hw N (by simp only[go_sem,seval]) (by simp only[go_sem,seval]) (by simp only[go_sem,seval]) (by simp only[go_sem,seval,FP])
 |true=>
 rw[hc,cond_true]at h;have hn:3<=n/\n<=8:=by simpa using hc
 refine cf (fc hc F) ?_;refine go hS F ?_;refine vQ (s':=⟨[(35,.i 0),(34,.i n),(4,.box (202,3) 0),(3,.box (1,1) 0),(2,.box (0,1) 0),(2000064,.gd false (.clo (.func 115) [] [.box (0,1) 0,.box (1,1) 0])),(0,.v (.string (sB s)))],[(.c (202,3) 1,.i p6),(.c (202,3) 0,.v (.string (sB s))),(.c (1,1) 0,.i 0),(.c (0,1) 0,.i a),(.c (0,1) 1,.i b),(.c (0,1) 2,.i c),(.c (0,1) 3,.sl 0 true [] []),(.c (0,1) 4,.i f),(.c (0,1) 5,.i g)],100⟩) (Ch F) ?_;refine Fc 1 (0,1) 3 2 [.i 0,.i 0] (by omega) (by simp only[go_sem,seval]<;>eq_refl) ?_;have key:∀(x:Nat×Nat×Int×List (Int×Int)×Nat),True:=λ_=>trivial
 refine IB (λx:Nat×Nat×Int×List (Int×Int)×Nat=>⟨[(35,.i x.2.1),(34,.i n),(4,.box (202,3) 0),(3,.box (1,1) 0),(2,.box (0,1) 0),(2000064,.gd false (.clo (.func 115) [] [.box (0,1) 0,.box (1,1) 0])),(0,.v (.string (sB s)))],[(.c (202,3) 1,.i x.2.2.1),(.c (202,3) 0,.v (.string (sB s))),(.c (1,1) 0,.i 0),(.c (0,1) 0,.i a),(.c (0,1) 1,.i b),(.c (0,1) 2,.i c),(.c (0,1) 3,.own (1,101) x.2.2.2.1.length),(.a (1,101),.sl 2 true (x.2.2.2.1.map Cz) [.i 0,.i 0]),(.c (0,1) 4,.i f),(.c (0,1) 5,.i g)],x.2.2.2.2⟩)
  (λx=>pb (dP N s x.1 x.2.2.1 x.2.2.2.1) (λ(l,p7)=>bif decide (p7<(s.length:Int))then some none else(B6 N a b c l f g).bind λv=>some (bif v then some (a,b,c,l,f,g)else none))=some r/\x.2.1+x.1=n.toNat/\x.2.2.2.1.length=x.2.1) (λx=>x.1) (n.toNat,0,p6,[],101) ⟨h,by simp,rfl⟩ ?_ ?_
 ·exact Ch F
 ·rintro⟨k,j,p,ls,cc⟩ ⟨hd,hj,hls⟩;simp only at hd hj hls;refine go hS F ?_;refine cb F (decide ((j:Int)<n)) (λhc=>?_) λhc=>?_
  ·have hc:=of_decide_eq_true hc;obtain _|k:=k
   ·omega
   simp only[dP]at hd;rw[pQ]at hd;replace hd:=JD hd;obtain⟨x,q,ex,m1,hd⟩:=hd;refine go hS F ?_;rcases hd with⟨he,rfl⟩|⟨rfl,hd⟩
   ·replace F:=fc m1 (fc he F);refine PQ (p:=fV) hOK F 1 ?_
    repeat' (with_reducible first|apply A8|apply A9|apply Bh|apply AR)
    exact Hw N (by simp only[go_sem,seval]) (by simp only[go_sem,seval]) (by simp only[go_sem,seval]) (by simp only[go_sem,seval,FP])
   simp only at hd;rw[pQ]at hd;replace hd:=JD hd;obtain⟨y,w,ey,m2,hd⟩:=hd;rcases hd with⟨he,rfl⟩|⟨rfl,hd⟩
   ·replace F:=fc m1 (fc m2 (fc he F));refine go hS F ?_;refine vA (p:=fV) hOK F 4 (.i 0) ?_
    repeat' (with_reducible first|apply A8|apply A9|apply Bh|apply AR)
    exact Hw N (by simp only[go_sem,seval]) (by simp only[go_sem,seval]) (by simp only[go_sem,seval]) (by simp only[go_sem,seval,FP])
   refine go hS (fc m1 (fc m2 F)) ?_;refine JL (k,j+1,w,ls++[(x,y)],cc+100) ⟨hd,by simp only;omega,by simp[hls]⟩ (Ki _) (Le.of ?_ ?_ ?_)
   ·simp only[go_sem,seval,F]<;>simp
   ·simp only[go_sem,seval,F,uI,eG,tV]
   ·simp
  ·have hc:=of_decide_eq_false hc;have hk:k=0:=by omega
   subst hk;simp only[dP,pb]at hd;cases c9:decide (p<(s.length:Int))with
   |true=>
    rw[c9,cond_true]at hd;obtain rfl:=yJ hd;refine go hS (fc c9 F) ?_;refine ct (fc c9 F) ?_;refine Bf hOK 2 rfl rfl (by simp only[go_sem,seval]<;>eq_refl) (by simp only[go_sem,seval]) (by simp only[go_sem,seval]<;>eq_refl) ?_
    repeat' (with_reducible first|apply A8|apply A9|apply Bh|apply AR)
    exact Hw N (by simp only[go_sem,seval]) (by simp only[go_sem,seval]) (by simp only[go_sem,seval]) (by simp only[go_sem,seval,FP])
   |false=>
   rw[c9,sH]at hd;obtain⟨v,h9,hd⟩:=yB.1 hd;replace F:=fc c9 (fc h9 F);refine go hS F ?_;cases v with
   |false=>
    obtain rfl:=yJ hd;refine ct F ?_;refine Bf hOK 2 rfl rfl (by simp only[go_sem,seval]<;>eq_refl) (by simp only[go_sem,seval]) (by simp only[go_sem,seval]<;>eq_refl) ?_
    repeat' (with_reducible first|apply A8|apply A9|apply Bh|apply AR)
    exact Hw N (by simp only[go_sem,seval]) (by simp only[go_sem,seval]) (by simp only[go_sem,seval]) (by simp only[go_sem,seval,FP])
   |true=>
   obtain rfl:=yJ hd;refine cf F ?_;refine go hS F ?_;refine .inr ⟨_,_,(by simp only[go_sem,seval]<;>eq_refl),?_⟩;refine⟨_,_,_,_,_,_,Tryz.func115,x115.hc,x115.hn,oL rfl,x115.ok,rfl,λaa=>?_⟩;dsimp only[x115,Ah,BW];have ab:=Ctx.fd_ok (nt:=12) (hb:=aa) hS;refine go hS F ?_;refine ct F ?_;refine go hS F ?_;try dsimp only[x79,Ah]
   refine Oi ⟨by simp only[go_sem,seval],_,_,(by simp only[go_sem,seval]<;>eq_refl),by simp only[go_sem,seval],by simp only[go_sem,seval],.of ?_,rfl⟩;simp only[go_sem,seval]
end
end
attribute [local irreducible] Ax BO BB Bj BC Bk AY BD BK Cq
def HL(N:Nat)(a b c:Int)(l:List (Int×Int))(p q:Int):Option (List UInt8×Int):=(B6 N a b c l p q).bind λv=>gd (l.length<=1000000)<|some (bif v then kW a b c l p q else[],bif v then 0 else 80)
theorem RP(N:Nat)(a b c:Int)(l:List (Int×Int))(p q:Int)(r:List UInt8×Int)(h:HL N a b c l p q=some r):PCall Tryz.prog 137 [.agg [.i a,.i b,.i c,.sl 2 false (l.map Cz) [.i 0,.i 0],.i p,.i q]] (.tup [.v (.string (sB r.1)),.i r.2]):=by
 unfold HL at h;obtain⟨v,h1,h2⟩:=yB.1 h;simp only[Yn]at h2;obtain⟨h3,h2⟩:=h2;cases h2
 exact fB N a b c l p q v h1 h3
def lC(N:Nat):Spec|[.agg [.v (.int .i64 a),.v (.int .i64 b),.v (.int .i64 c),.sl yl _ l _,.v (.int .i64 p),.v (.int .i64 q)]]=>some (((yl=2\/l=[])/\l=(l.map Jx).map Cz)/\(HL N a b c (l.map Jx) p q).isSome=true,.tup [.v (.string (sB ((HL N a b c (l.map Jx) p q).getD ([],0)).1)),.i ((HL N a b c (l.map Jx) p q).getD ([],0)).2])|_=>none
theorem AaJ(N:Nat):AG Tryz.prog 137 (lC N):=⟨x137.ok,by
 intro args vc r h hv;unfold lC at h;split at h
 ·cases h
  obtain⟨⟨ae,af⟩,hs⟩:=hv;obtain⟨r,hr⟩:=yX hs;have hk:=RP N _ _ _ _ _ _ r hr;simp only[hr,oK];refine PCall.arg ?_ hk;simp only[HS,wk,and_true,true_and,yF,false_implies,implies_true]
  repeat' (first|exact yT|assumption|apply And.intro)
 ·simp at h⟩
def Ed(N:Nat)(s:List UInt8):Option ((Int×Int×Int×List (Int×Int)×Int×Int)×Int):=(lB N s).map λr=>match r with|some x=>(x,0)|none=>((0,0,0,[],0,0),80)
theorem RQ(N:Nat)(s:List UInt8)(r:(Int×Int×Int×List (Int×Int)×Int×Int)×Int)(h:Ed N s=some r):PCall Tryz.prog 79 [.v (.string (sB s))] (.tup [.agg [.i r.1.1,.i r.1.2.1,.i r.1.2.2.1,.sl 2 false (r.1.2.2.2.1.map Cz) [.i 0,.i 0],.i r.1.2.2.2.2.1,.i r.1.2.2.2.2.2],.i r.2]):=by unfold Ed at h;obtain⟨x,h1,h2⟩:=Option.map_eq_some_iff.1 h;have:=fE N s x h1;subst h2;rcases x with _|⟨a,b,c,l,f,g⟩<;>exact this
def S2(N:Nat):Spec|[.v (.string s)]=>some ((Ed N (bL s)).isSome=true,.tup [.agg [.i ((Ed N (bL s)).getD ((0,0,0,[],0,0),0)).1.1,.i ((Ed N (bL s)).getD ((0,0,0,[],0,0),0)).1.2.1,.i ((Ed N (bL s)).getD ((0,0,0,[],0,0),0)).1.2.2.1,.sl 2 false (((Ed N (bL s)).getD ((0,0,0,[],0,0),0)).1.2.2.2.1.map Cz) [.i 0,.i 0],.i ((Ed N (bL s)).getD ((0,0,0,[],0,0),0)).1.2.2.2.2.1,.i ((Ed N (bL s)).getD ((0,0,0,[],0,0),0)).1.2.2.2.2.2],.i ((Ed N (bL s)).getD ((0,0,0,[],0,0),0)).2])|_=>none
theorem AcK(N:Nat):AG Tryz.prog 79 (S2 N):=⟨x79.ok,by
 intro args vc r h hv;unfold S2 at h;split at h
 ·cases h
  obtain⟨r,hr⟩:=yX hv;have hk:=RQ N _ r hr;simp only[hr,oK];rw[NG]at hk;exact hk
 ·simp at h⟩
attribute [go_sem] lC S2
