import Derived.Test.YtjdchfljifacoaaGreatDoorE3
set_option linter.all false
set_option maxRecDepth 100000
set_option maxHeartbeats 8000000
namespace Go.Proofs.YtjdchfljifacoaaGreatDoor.Am
open Go
section
attribute [local irreducible] Aq BD Bv A8 Bq Ba AQ Bw By Ck
attribute [local go_sem] Option.isSome_some bD Mc Ce Wp
def KO(z:Int):Int:=IntKind.wrap .u8 (Ei .and .u64 z 127)
def Er:Nat->Int->List (Int×Bool)|0,_=>[]|f+1,z=>if z<128 then[(KO z,true)]else(KO z,false)::Er f (D5 .shr .u64 z 7)
def jY(e:Int×Bool):List AV:=[.v (.int .u8 e.1),.v (.bool e.2)]
theorem xB(z:Int):D5 .shr .u64 z 7=z/128:=by show z.fdiv (2^min (7:Int).toNat 64)=z/128;grind
theorem RR{f:Nat}{z:Int}(h:z<128):Er (f+1) z=[(KO z,true)]:=t8 h
theorem RS{f:Nat}{z:Int}(h:¬z<128):Er (f+1) z=(KO z,false)::Er f (D5 .shr .u64 z 7):=t7 h
theorem Qc:∀(f:Nat)(z:Int),(Er f z).length<=f
 |0,z=>by simp[Er]
 |f+1,z=>by have:=Qc f (D5 .shr .u64 z 7);grind[Er]
theorem Z3(z0:Int)(m:Nm)(hz0:0<=z0/\z0<128^10):iL Tryz.prog 160 [] [.box m 0] m [.v (.int .u64 z0)] ((Er 10 z0).map jY):=by
 refine kU (Ae (P:=Tryz.prog)) _ x160.hf x160.hc x160.hn (by simp[x160,Ad,gs]) (A01 rfl) λl V hOK hTS hY=>?_
 have hS:=Ae (P:=Tryz.prog);dsimp only[x160,Ad,B3];refine go hS (fc hTS f0) ?_;refine Hf (λx:Nat×Int×Nat×Nat=>⟨[(1,.box m 0),(gs,CD x.2.2.1),(0,.clo (.yield l) [] [])],[(.c m 0,.v (.int .u64 x.2.1))],x.2.2.2⟩)
  (λx=>(0<x.1/\0<=x.2.1/\x.2.1<128^x.1)/\((Er 10 z0).drop x.2.2.1=Er x.1 x.2.1/\x.2.2.1<=(Er 10 z0).length)) (λx=>x.1) (10,z0,0,m.2) ?_ ?_ ?_
 ·exact⟨⟨Nat.zero_lt_succ _,hz0⟩,rfl,A16 _⟩
 ·refine Le.of ?_ ?_ (by simp)<;>(simp only[go_sem,seval];try simp)
 ·rintro⟨f,z,k,c⟩ ⟨⟨hf,hz1,hz2⟩,hk,hkl⟩;simp only at hf hz1 hz2 hk hkl;obtain _|f:=f
  ·exact absurd hf (Nat.lt_irrefl _)
  have hkl':k<(Er 10 z0).length:=by
   have:=congrArg List.length hk;rw[A11]at this;by_cases hz:z<128
   ·rw[RR hz,A03]at this;omega
   ·rw[RS hz,A03]at this;omega
  by_cases hz:z<128
  ·have hk':(Er 10 z0).drop k=[(KO z,true)]:=by rw[hk,RR hz]
   have hk1:k+1=(Er 10 z0).length:=by have:=congrArg List.length hk';simp only[A11,A03,A33]at this;omega
   have hxs:((Er 10 z0).map jY)[k]? =some [.v (.int .u8 (KO z)),.v (.bool true)]:=by
    have:(Er 10 z0)[k]? =((Er 10 z0).drop k)[0]? :=by simp
    rw[A07,this,hk'];rfl
   refine go hS (fc hz (fc hTS f0)) ?_;refine hY 5 (args:=[.v (.int .u8 (KO z)),.v (.bool true)]) rfl (by simp only[go_sem,seval,hTS,hz]<;>eq_refl) (by simp only[go_sem,seval,hTS,hz]<;>eq_refl) (by decide) (by simp only[go_sem,seval]<;>eq_refl) (by simp only[go_sem,seval]<;>eq_refl) (by simp only[go_sem,seval]<;>eq_refl) (by simp only[go_sem,seval,Am.KO]<;>eq_refl) hxs (by simp only[go_sem,seval,hTS]<;>eq_refl) ?_ ?_ (by simp only[go_sem,seval,hTS]<;>eq_refl) ?_ ?_
   ·simp only[go_sem,seval]
   ·refine go hS (fc hTS f0) ?_;refine Kr (by simp only[go_sem,seval]<;>eq_refl) ?_;refine go hS (fc hTS f0) ?_;refine Aah ?_;simp only[go_sem,seval,A04];rw[<-hk1];rfl
   ·simp only[go_sem,seval]
   ·refine go hS (fc hTS f0) ?_;refine Kr (by simp only[go_sem,seval]<;>eq_refl) ?_;refine go hS (fc hTS f0) ?_;refine QQ ?_;simp only[go_sem,seval]
  ·have hk':(Er 10 z0).drop k=(KO z,false)::Er f (D5 .shr .u64 z 7):=by rw[hk,RS hz]
   have hxs:((Er 10 z0).map jY)[k]? =some [.v (.int .u8 (KO z)),.v (.bool false)]:=by
    have:(Er 10 z0)[k]? =((Er 10 z0).drop k)[0]? :=by simp
    rw[A07,this,hk'];rfl
   refine go hS (fc hz (fc hTS f0)) ?_;refine hY 5 (args:=[.v (.int .u8 (KO z)),.v (.bool false)]) rfl (by simp only[go_sem,seval,hTS,hz]<;>eq_refl) (by simp only[go_sem,seval,hTS,hz]<;>eq_refl) (by decide) (by simp only[go_sem,seval]<;>eq_refl) (by simp only[go_sem,seval]<;>eq_refl) (by simp only[go_sem,seval]<;>eq_refl) (by simp only[go_sem,seval,Am.KO]<;>eq_refl) hxs (by simp only[go_sem,seval,hTS]<;>eq_refl) ?_ ?_ (by simp only[go_sem,seval,hTS]<;>eq_refl) ?_ ?_
   ·simp only[go_sem,seval]
   ·refine go hS (fc hTS f0) ?_;refine ME (by simp only[go_sem,seval]<;>eq_refl) ?_;refine go hS (fc hTS f0) ?_;have hf0:0<f:=by
     rcases Nat.eq_zero_or_pos f with rfl|h
     ·exact absurd hz2 (by simp only[A08,Int.pow_one]at hz2⊢;omega)
     ·exact h
    refine Id (f,D5 .shr .u64 z 7,k+1,c+50) ⟨⟨hf0,?_,?_⟩,?_,by show k+1<=_;omega⟩ (A54 _) (Le.of ?_ ?_ ?_)
    ·show 0<=D5 .shr .u64 z 7;rw[xB];omega
    ·show D5 .shr .u64 z 7<128^f;rw[xB];rw[Int.pow_succ]at hz2;omega
    ·show(Er 10 z0).drop (k+1)=_;have:(Er 10 z0).drop (k+1)=((Er 10 z0).drop k).drop 1:=by simp
     rw[this,hk'];rfl
    ·simp only[go_sem,seval]<;>simp
    ·simp only[go_sem,seval]
    ·simp
   ·simp only[go_sem,seval]
   ·refine go hS (fc hTS f0) ?_;refine Kr (by simp only[go_sem,seval]<;>eq_refl) ?_;refine go hS (fc hTS f0) ?_;refine QQ ?_;simp only[go_sem,seval]
def zz(n:Int):Int:=Ei .xor .u64 (D5 .shl .u64 (IntKind.wrap .u64 n) 1) (IntKind.wrap .u64 (D5 .shr .i64 n 63))
def jZ(e:Int×Bool):Int:=if e.2=true then e.1 else Ei .or .u8 e.1 128
def UR(n:Int):List Int:=(Er 10 (zz n)).map jZ
def kC(l:List Int):List UInt8:=l.map λx=>UInt8.ofNat x.toNat
def Jw(n:Int):List UInt8:=bif decide (n< -4611686018427387903)||decide (4611686018427387903<n)then[]else kC (UR n)
def PM(x:Int):List AV:=[.v (.int .u8 x)]
theorem Z4(l:List Int):(l.map PM).all R3=true:=by grind[PM,R3]
attribute [local go_sem] Z4
theorem WN(l:List Int):(l.map PM).map PQ=kC l:=by induction l with|nil=>rfl|cons x l ih=>rw[w5,w5,ih];rfl
attribute [local go_sem] WN
theorem fD(n:Int):0<=IntKind.wrap .u64 n/\IntKind.wrap .u64 n<128^10:=by grind[IntKind.wrap,IntKind.bits,IntKind.signed]
theorem Aa1(n:Int):0<=zz n/\zz n<128^10:=fD _
theorem Z5(n:Int):PCall Tryz.prog 75 [.i n] (.tup [.v (.string (sB (Jw n))),.i (bif decide (n< -4611686018427387903)||decide (4611686018427387903<n)then 10 else 0)]):=by
 refine Nf (Ae (P:=Tryz.prog)) _ x75.hf x75.hc x75.hn (A01 rfl) λ_=>?_
 have hS:=Ae (P:=Tryz.prog);dsimp only[x75,Ad,B3];refine go hS f0 ?_;refine Aae (b:=decide (n< -4611686018427387903)||decide (4611686018427387903<n)) (by simp only[go_sem,seval]<;>eq_refl) (λhb=>?_) λhb=>?_
 ·refine go hS f0 ?_
  first|refine Ks (by simp only[go_sem,seval]<;>eq_refl) (by simp only[go_sem,seval]) (by simp only[go_sem,seval]) ?_ rfl|refine Kt (by simp only[go_sem,seval]<;>eq_refl) (by simp only[go_sem,seval]) (by simp only[go_sem,seval]) ?_ rfl
  simp only[Jw,hb,go_sem,seval]
 ·refine go hS f0 ?_;refine C3 hS 7 x140.hf x140.hc x140.hn x140.ok rfl (by simp only[go_sem,seval]<;>eq_refl) (by simp only[go_sem,seval]<;>eq_refl) ?_ rfl (by simp only[go_sem,seval]<;>eq_refl) (A01 rfl) λ_=>?_
  ·exact yT
  dsimp only[x140,Ad,B3];refine go hS f0 ?_;refine Iv 1 (300,3) 0 1 [.v (.int .u8 0)] (by omega) (by simp only[go_sem,seval]<;>eq_refl) ?_;have hlen:=Qc 10 (zz n);refine X8 (0,5) [.v (.int .u64 (zz n))] (λx:Nat×List Int×Nat=>([(.c (300,3) 0,.own (1,8) x.2.1.length),(.a (1,8),.sl 1 true (x.2.1.map PM) [.v (.int .u8 0)])],x.2.2))
   (λx=>x.2.1=((Er 10 (zz n)).take x.1).map jZ/\x.1<=(Er 10 (zz n)).length) (λx=>x.1) (0,[],8) (by simp only[go_sem,seval]<;>eq_refl) (Z3 (zz n) (0,5) (Aa1 n)) x160.ok ⟨rfl,rfl,rfl⟩ ⟨rfl,rfl,rfl⟩ (λj=>by simp[hl]) (by simp) (by intro a ha;obtain⟨y,_,rfl⟩:=List.mem_map.1 ha;exact⟨rfl,rfl⟩) ⟨rfl,A16 _⟩ rfl ?_ ?_ ?_
  ·exact CB f0
  ·rintro l ⟨k,out,c⟩ ⟨hout,hk⟩ args ha;simp only at hout hk;obtain⟨⟨g,last⟩,hy,rfl,hlt⟩:=JZ ha;have hout2:out++[jZ (g,last)]=((Er 10 (zz n)).take (k+1)).map jZ:=by
    have:(Er 10 (zz n))[k]? =some (g,last):=by
     have:(Er 10 (zz n))[k]? =((Er 10 (zz n)).drop k)[0]? :=by simp
     rw[this,hy];rfl
    rw[List.take_add_one,this,A24,hout];rfl
   have hol:out.length=k:=by rw[hout];simp;omega
   clear ha hy;simp only[jY,Gq];have hOK:=Ctx.rdG_ok (nt:=33) (l:=l) hS;cases last with
   |true=>refine go hS f0 ?_;refine ME (by simp only[go_sem,seval]<;>eq_refl) ?_;refine go hS f0 ?_;refine TW (k+1,out++[g],c+50) ⟨by rw[<-hout2];rfl,hlt⟩ rfl ?_;refine Le.of ?_ ?_ (by first|exact w6 _|(simp;omega)|simp)<;>first|(simp only[go_sem,seval,PM];done)|(simp only[go_sem,seval,PM,A24,w5,A22,List.map_set,List.map_take,List.map_drop];done)|(simp[PM,A24,List.map_set];done)
   |false=>refine go hS f0 ?_;refine Kr (by simp only[go_sem,seval]<;>eq_refl) ?_;refine go hS f0 ?_;refine TW (k+1,out++[Ei .or .u8 g 128],c+50) ⟨by rw[<-hout2];rfl,hlt⟩ rfl ?_;refine Le.of ?_ ?_ (by first|exact w6 _|(simp;omega)|simp)<;>first|(simp only[go_sem,seval,PM];done)|(simp only[go_sem,seval,PM,A24,w5,A22,List.map_set,List.map_take,List.map_drop];done)|(simp[PM,A24,List.map_set];done)
  ·rintro⟨k,out,c⟩ ⟨hout,hk⟩ hk2;simp only at hout hk;refine go hS f0 ?_
   first|refine Ks (by simp only[go_sem,seval]<;>eq_refl) (by simp only[go_sem,seval]) (by simp only[go_sem,seval]) ?_ rfl|refine Kt (by simp only[go_sem,seval]<;>eq_refl) (by simp only[go_sem,seval]) (by simp only[go_sem,seval]) ?_ rfl
   have:out=UR n:=by rw[hout,show k=_ from hk2,UR,A04,A56]
   simp only[Jw,hb,this,go_sem,seval]
end
section
attribute [local irreducible] Aq BD Bv A8 Bq Ba AQ Bw By Ck
def NF:Spec|[.v (.int .i64 n)]=>some (True,.tup [.v (.string (sB (Jw n))),.i (bif decide (n< -4611686018427387903)||decide (4611686018427387903<n)then 10 else 0)])|_=>none
attribute [local go_sem] NF
theorem US:Au Tryz.prog 75 NF:=⟨x75.ok,by
 intro args vc r h hv;unfold NF at h;split at h
 ·cases h
  exact Z5 _
 ·simp at h⟩
def xC:List (Nat×Spec):=[(75,NF)]
attribute [local go_sem] xC
theorem Rl:TabOK Tryz.prog (FO xC):=Aa US Ae
def PN(x:Int):List AV:=[.i x]
theorem eI_row(ns:List Int)(d:List AV)(j:Nat)(h:j<ns.length):DJ (ns.map PN) d j=[.i (ns.getD j 0)]:=by grind[DJ,PN]
def ER(ns:List Int):List UInt8:=(ns.map Jw).flatten
theorem UT:C0 Tryz.prog 76:=⟨Tryz.f76,Tryz.func76,by kernel_rfl,by kernel_rfl⟩
theorem SI:C0 Tryz.prog 77:=⟨Tryz.f77,Tryz.func77,by kernel_rfl,by kernel_rfl⟩
theorem WO(ns:List Int)(j:Nat):(ER (ns.take j)).length<=(ER ns).length:=by grind[ER,A37]
theorem SJ{ns:List Int}{j:Nat}(h:j<ns.length):ER (ns.take (j+1))=ER (ns.take j)++Jw (ns.getD j 0):=by
 unfold ER;have:ns[j]? =some (ns.getD j 0):=by grind
 rw[List.take_add_one,this];simp
theorem SK(ns:List Int)(f:Bool)(d:List AV)(l:List UInt8)(hl:(l++ER ns).length<=140737488355328)(hn:ns.length<=1000000):Qs Tryz.prog 149 [.sl 1 f (ns.map PN) d] l (some (l++ER ns)) (.tup []):=by
 refine bF Rl _ x149.hf x149.hc x149.hn (by decide) (A01 rfl) λhb N X b=>?_
 have hS:=Rl;have hOK:=Ctx.bd_ok (nt:=25) (hb:=hb) (N:=N) (X:=X) (hnt:=by decide) hS;dsimp only[x149,Ad,B3];refine go hS f0 ?_;refine Hf (λx:Nat×Nat=>⟨[(10,.i x.1),(9,.i ns.length),(8,.sl 1 f (ns.map PN) d),(0,.v (.pointer (some ⟨b,0,none⟩))),(bk,gB b (l++ER (ns.take x.1)))],[],x.2⟩)
  (λx=>x.1<=ns.length) (λx=>ns.length-x.1) (0,50) ?_ ?_ ?_
 ·exact A16 _
 ·refine Le.of ?_ ?_ (by simp)<;>(simp only[go_sem,seval,ER];try simp)
 ·rintro⟨j,c⟩ hj;simp only at hj
  repeat' (first
  |((with_reducible first|apply Dc|apply D2|apply DX|apply EN|apply Dd|apply De);(·(first|exact Ctx.fn_ok hS|exact Ctx.rd_ok hS|assumption|exact yT));iterate 2 (·(simp only[go_sem,seval]<;>eq_refl)))
  |(with_reducible first|apply C8|apply DR|apply CT|apply CU|apply CC|apply Cb|apply Co|apply Dr|apply DF|apply DS|apply DT|apply DU|apply DV)
  |(with_reducible apply DW;(·first|rfl|decide))
  |(with_reducible first|apply Da|apply Db|apply DZ|apply D0|apply D1|apply yT|apply And.intro yT yT)
  |(fail_if_success with_reducible apply FP);(fail_if_success with_reducible apply DY);first|omega|(simp only[go_sem,seval];done)
  |fail)
  refine QP ((j:Int)<ns.length) (by simp only[go_sem,seval]<;>eq_refl) (by first|simp only[Bool.decide_or,Bool.decide_and,decide_not]|simp) (λhj1=>?_) (λhj1=>?_)
  ·have hj':j<ns.length:=by omega
   have hrow:=eI_row ns d j hj';have hsu:=SJ hj';have hle:=WO ns (j+1);rw[hsu,w9]at hle;have hl2:(l++ER (ns.take j)).length+(Jw (ns.getD j 0)).length<=140737488355328:=by rw[w9]at hl⊢;omega
   repeat' (first
  |((with_reducible first|apply Dc|apply D2|apply DX|apply EN|apply Dd|apply De);(·(first|exact Ctx.fn_ok hS|exact Ctx.rd_ok hS|assumption|exact yT));iterate 2 (·(simp only[go_sem,seval,hrow]<;>eq_refl)))
  |(with_reducible first|apply C8|apply DR|apply CT|apply CU|apply CC|apply Cb|apply Co|apply Dr|apply DF|apply DS|apply DT|apply DU|apply DV)
  |(with_reducible apply DW;(·first|rfl|decide))
  |(with_reducible first|apply Da|apply Db|apply DZ|apply D0|apply D1|apply yT|apply And.intro yT yT)
  |(fail_if_success with_reducible apply FP);(fail_if_success with_reducible apply DY);first|omega|(simp only[go_sem,seval,hrow];done)
  |fail)
   refine IV hS 4 rfl UT (by simp only[go_sem,seval]<;>eq_refl) yT (by simp only[go_sem,seval]<;>eq_refl) (by simp only[go_sem,seval]<;>eq_refl) (by simp only[go_sem,seval]<;>eq_refl) (by simp only[go_sem,seval,E2]<;>eq_refl) rfl rfl (Pr hl2) (by simp only[go_sem,seval]<;>eq_refl) yT ?_
   repeat' (first
  |((with_reducible first|apply Dc|apply D2|apply DX|apply EN|apply Dd|apply De);(·(first|exact Ctx.fn_ok hS|exact Ctx.rd_ok hS|assumption|exact yT));iterate 2 (·(simp only[go_sem,seval]<;>eq_refl)))
  |(with_reducible first|apply C8|apply DR|apply CT|apply CU|apply CC|apply Cb|apply Co|apply Dr|apply DF|apply DS|apply DT|apply DU|apply DV)
  |(with_reducible apply DW;(·first|rfl|decide))
  |(with_reducible first|apply Da|apply Db|apply DZ|apply D0|apply D1|apply yT|apply And.intro yT yT)
  |(fail_if_success with_reducible apply FP);(fail_if_success with_reducible apply DY);first|omega|(simp only[go_sem,seval];done)
  |fail)
   refine Id (j+1,c+50) (by show j+1<=_;omega) (by show ns.length-(j+1)<ns.length-j;omega) (Le.of ?_ ?_ ?_)
   ·simp only[go_sem,seval,hsu,A06]<;>simp
   ·simp only[go_sem,seval]
   ·simp
  ·refine go hS f0 ?_;have:j=ns.length:=by omega
   subst this;rw[A56];refine pU (by simp only[go_sem,seval]<;>eq_refl) (by simp only[go_sem,seval]<;>eq_refl) yT (by simp only[go_sem,seval]<;>eq_refl) (by simp only[go_sem,seval]<;>eq_refl) rfl
end
section
attribute [local irreducible] Aq BD Bv A8 Bq Ba AQ Bw By Ck
theorem Z6:BT 196:=⟨by kernel_rfl,by decide⟩
def S21(N:Nat):List (Nat×Spec):=[(59,Wp N)]
attribute [local go_sem] S21
theorem Z7(N:Nat):TabOK Tryz.prog (FO (S21 N)):=Aa (Md N) Ae
def kD(a b c n p q:Int):List UInt8:=ER [a,b,c,p,q,n]
def ON(l:List (Int×Int)):List UInt8:=(l.map λp=>ER [p.1,p.2]).flatten
def fE(a b c:Int)(l:List (Int×Int))(p q:Int):List UInt8:=kD a b c l.length p q++ON l
theorem fF(n:Int):(Jw n).length<=10:=by
 unfold Jw;cases h:(decide (n< -4611686018427387903)||decide (4611686018427387903<n))with
 |true=>simp
 |false=>simp_all[kC,UR,Qc]
theorem LS:∀(ns:List Int),(ER ns).length<=10*ns.length
 |[]=>by simp[ER]
 |n::ns=>by have h1:=fF n;have h2:=LS ns;grind[ER]
theorem RT:∀(l:List (Int×Int)),(ON l).length<=20*l.length
 |[]=>by simp[ON]
 |p::l=>by have h1:=LS [p.1,p.2];have h2:=RT l;grind[ON]
theorem fG{l:List (Int×Int)}{j:Nat}(h:j<l.length):ON (l.take (j+1))=ON (l.take j)++ER [(l.getD j (0,0)).1,(l.getD j (0,0)).2]:=by
 unfold ON;have:l[j]? =some (l.getD j (0,0)):=by grind
 rw[List.take_add_one,this];simp
theorem oM{n:Int}(h1: -4611686018427387903<=n)(h2:n<=4611686018427387903):Jw n≠[]:=by unfold Jw;unfold kC UR;all_goals grind[RR,RS]
theorem Z8(N:Nat)(a b c:Int)(l:List (Int×Int))(p q:Int)(v:Bool)(hv:BG N a b c l p q=some v)(hl:l.length<=1000000):PCall Tryz.prog 101 [.agg [.i a,.i b,.i c,.sl 2 false (l.map Ce) [.i 0,.i 0],.i p,.i q]] (.tup [.v (.string (sB (bif v then fE a b c l p q else[]))),.i (bif v then 0 else 80)]):=by
 refine Ts (Z7 N) _ x101.hf x101.hc x101.hn (by decide) (A01 rfl) λhb M=>?_
 have hS:=Z7 N;have hOK:=Ctx.bd_ok (nt:=41) (hb:=hb) (N:=M) (X:=λ_=>False) (hnt:=by decide) hS;dsimp only[x101,Ad,B3];have hlen:=RT l;have hhl:=LS [a,b,c,p,q,(l.length:Int)]
 repeat' (first
  |((with_reducible first|apply Dc|apply D2|apply DX|apply EN|apply Dd|apply De);(·(first|exact Ctx.fn_ok hS|exact Ctx.rd_ok hS|assumption|exact yT));iterate 2 (·(simp only[go_sem,seval,hv]<;>eq_refl)))
  |(with_reducible first|apply C8|apply DR|apply CT|apply CU|apply CC|apply Cb|apply Co|apply Dr|apply DF|apply DS|apply DT|apply DU|apply DV)
  |(with_reducible apply DW;(·first|rfl|decide))
  |(with_reducible first|apply Da|apply Db|apply DZ|apply D0|apply D1|apply yT|apply And.intro yT yT)
  |(fail_if_success with_reducible apply FP);(fail_if_success with_reducible apply DY);first|omega|(simp only[go_sem,seval,hv];done)
  |fail)
 cases v with
 |false=>
  refine Kr (by simp only[go_sem,seval,hv,A00]<;>eq_refl) ?_;refine go hS f0 ?_
  first|refine Ks (by simp only[go_sem,seval]<;>eq_refl) (by simp only[go_sem,seval]) (by simp only[go_sem,seval]) ?_ rfl|refine Kt (by simp only[go_sem,seval]<;>eq_refl) (by simp only[go_sem,seval]) (by simp only[go_sem,seval]) ?_ rfl
  simp only[go_sem,seval]
 |true=>
  refine ME (by simp only[go_sem,seval,hv,A00]<;>eq_refl) ?_;refine go hS f0 ?_;refine Tr hS 0 rfl Z6 (by simp only[go_sem,seval]<;>eq_refl) yT λB=>⟨_,_,_,(by simp only[go_sem,seval]<;>eq_refl),yT,?_⟩
  refine go hS f0 ?_;have hh1:([]++ER [a,b,c,p,q,(l.length:Int)]).length<=140737488355328:=by simp only[A02,A03,A33]at hhl⊢;omega
  refine IV hS 14 (ax:=[.sl 1 false ([a,b,c,p,q,(l.length:Int)].map PN) [.i 0]]) rfl x149.ok (by simp only[go_sem,seval]<;>eq_refl) yT (by simp only[go_sem,seval]<;>eq_refl) (by simp only[go_sem,seval]<;>eq_refl) (by simp only[go_sem,seval,Am.PN]<;>eq_refl) ?_ rfl rfl (SK _ _ _ [] hh1 (by simp)) (by simp only[go_sem,seval]<;>eq_refl) yT ?_
  ·simp only[go_sem,seval]
  refine go hS f0 ?_;refine Hf (λx:Nat×Nat=>⟨[(28,.i x.1),(27,.i l.length),(26,.sl 2 false (l.map Ce) [.i 0,.i 0]),(4,.v (.pointer (some ⟨B,0,none⟩))),(3,.i 0),(bk,gB B (ER [a,b,c,p,q,(l.length:Int)]++ON (l.take x.1)))],[],x.2⟩)
   (λx=>x.1<=l.length) (λx=>l.length-x.1) (0,50) ?_ ?_ ?_
  ·exact A16 _
  ·refine Le.of ?_ ?_ (by simp)<;>(simp only[go_sem,seval,ON];try simp)
  ·rintro⟨j,cc⟩ hj;simp only at hj
   repeat' (first
  |((with_reducible first|apply Dc|apply D2|apply DX|apply EN|apply Dd|apply De);(·(first|exact Ctx.fn_ok hS|exact Ctx.rd_ok hS|assumption|exact yT));iterate 2 (·(simp only[go_sem,seval]<;>eq_refl)))
  |(with_reducible first|apply C8|apply DR|apply CT|apply CU|apply CC|apply Cb|apply Co|apply Dr|apply DF|apply DS|apply DT|apply DU|apply DV)
  |(with_reducible apply DW;(·first|rfl|decide))
  |(with_reducible first|apply Da|apply Db|apply DZ|apply D0|apply D1|apply yT|apply And.intro yT yT)
  |(fail_if_success with_reducible apply FP);(fail_if_success with_reducible apply DY);first|omega|(simp only[go_sem,seval];done)
  |fail)
   refine QP ((j:Int)<l.length) (by simp only[go_sem,seval]<;>eq_refl) (by first|simp only[Bool.decide_or,Bool.decide_and,decide_not]|simp) (λhj1=>?_) (λhj1=>?_)
   ·have hj':j<l.length:=by omega
    have hrow:=Pf l j;have hsu:=fG hj';have hl1:=RT (l.take j);have hl0:(l.take j).length<=l.length:=by rw[A23];omega
    have hl3:=LS [(l.getD j (0,0)).1,(l.getD j (0,0)).2];have hl2:((ER [a,b,c,p,q,(l.length:Int)]++ON (l.take j))++ER [(l.getD j (0,0)).1,(l.getD j (0,0)).2]).length<=140737488355328:=by simp only[w9,A03,A33]at hhl hl3⊢;omega
    refine go hS (fc hrow f0) ?_;refine IV hS 5 (ax:=[.sl 1 false ([(l.getD j (0,0)).1,(l.getD j (0,0)).2].map PN) [.i 0]]) rfl x149.ok (by simp only[go_sem,seval]<;>eq_refl) yT (by simp only[go_sem,seval]<;>eq_refl) (by simp only[go_sem,seval]<;>eq_refl) (by simp only[go_sem,seval,Am.PN]<;>eq_refl) ?_ rfl rfl (SK _ _ _ _ hl2 (by simp)) (by simp only[go_sem,seval]<;>eq_refl) yT ?_
    ·simp only[go_sem,seval]
    repeat' (first
  |((with_reducible first|apply Dc|apply D2|apply DX|apply EN|apply Dd|apply De);(·(first|exact Ctx.fn_ok hS|exact Ctx.rd_ok hS|assumption|exact yT));iterate 2 (·(simp only[go_sem,seval]<;>eq_refl)))
  |(with_reducible first|apply C8|apply DR|apply CT|apply CU|apply CC|apply Cb|apply Co|apply Dr|apply DF|apply DS|apply DT|apply DU|apply DV)
  |(with_reducible apply DW;(·first|rfl|decide))
  |(with_reducible first|apply Da|apply Db|apply DZ|apply D0|apply D1|apply yT|apply And.intro yT yT)
  |(fail_if_success with_reducible apply FP);(fail_if_success with_reducible apply DY);first|omega|(simp only[go_sem,seval];done)
  |fail)
    refine Id (j+1,cc+50) (by show j+1<=_;omega) (by show l.length-(j+1)<l.length-j;omega) (Le.of ?_ ?_ ?_)
    ·simp only[go_sem,seval,hsu,A06]<;>simp
    ·simp only[go_sem,seval]
    ·simp
   ·refine go hS f0 ?_;have hjl:j=l.length:=by omega
    subst hjl;rw[A56];have hne:ER [a,b,c,p,q,(l.length:Int)]++ON l≠[]:=by have h1:=oM (n:=(l.length:Int)) (by omega) (by omega);intro h;have h2:=List.append_eq_nil_iff.1 h;simp only[ER,w5,List.flatten_cons,List.append_eq_nil_iff]at h2;exact h1 h2.1.2.2.2.2.2.1
    refine IV hS 1 (ax:=[]) rfl SI (by simp only[go_sem,seval]<;>eq_refl) yT (by simp only[go_sem,seval]<;>eq_refl) (by simp only[go_sem,seval]<;>eq_refl) (by simp only[go_sem,seval]<;>eq_refl) yT rfl rfl (NZ hne) (by simp only[go_sem,seval]<;>eq_refl) yT ?_;refine go hS f0 ?_
    first|refine Ks (by simp only[go_sem,seval]<;>eq_refl) (by simp only[go_sem,seval]) (by simp only[go_sem,seval]) ?_ rfl|refine Kt (by simp only[go_sem,seval]<;>eq_refl) (by simp only[go_sem,seval]) (by simp only[go_sem,seval]) ?_ rfl
    simp only[fE,kD,go_sem,seval]
end
section
attribute [local irreducible] Aq BD Bv A8 Bq Ba AQ Bw By Ck
attribute [local go_sem] Option.isSome_some uV
def S45(N:Nat):List (Nat×Spec):=[(49,uV N)]
attribute [local go_sem] S45
theorem Rm(N:Nat):TabOK Tryz.prog (FO (S45 N)):=Aa (XE N) Ae
theorem fH(N:Nat)(m:Nm)(s:List UInt8)(p n q:Int)(h:BJ N s p=some (n,q,0)):S0 Tryz.prog 79 m [.box m 0] [.v (.string (sB s)),.i p] (.i n) [(1,.i q)]:=by
 refine bA (Rm N) _ x79.hf x79.hc x79.hn (A01 rfl) λhb=>?_
 have hS:=Rm N;dsimp only[x79,Ad,B3];refine go hS (fc h f0) ?_;refine ME (by simp only[go_sem,seval]<;>eq_refl) ?_;refine go hS f0 ?_;exact Gr (by simp only[go_sem,seval]<;>eq_refl) yT ⟨by simp only[go_sem,seval],λj c h=>h⟩
def fV:Value:=.iface 159 (.agg #[])
theorem fI(N:Nat)(m:Nm)(s:List UInt8)(p n q e:Int)(h:BJ N s p=some (n,q,e))(he:¬e=0):Qq Tryz.prog 79 m [.box m 0] [.v (.string (sB s)),.i p] fV:=by
 refine Yf (Rm N) _ x79.hf x79.hc x79.hn (A01 rfl) λhb=>?_
 have hS:=Rm N;dsimp only[x79,Ad,B3];refine go hS (fc h f0) ?_;refine Kr (by simp only[go_sem,seval,he,decide_not]<;>eq_refl) ?_;refine A1 (Ctx.fn_ok hS) 2 rfl rfl (by simp only[go_sem,seval]<;>eq_refl) (by simp only[go_sem,seval]) (by simp only[go_sem,seval]<;>eq_refl) ?_
 repeat' (with_reducible first|apply AT|apply AU)
 exact pX λj c h=>h
def UU(N:Nat):Pb
 |[.box _ 0],[.v (.string s),.v (.int .i64 p)]=>match BJ N (bL s) p with|some (n,q,e)=>if e=0 then some (True,.i n,[(1,.i q)])else none|none=>none
 |_,_=>none
theorem oN(N:Nat):EOK Tryz.prog 79 (UU N):=⟨x79.ok,by
 intro args cells vc r us n h hv hb;unfold UU at h;split at h
 ·split at h
  ·rename_i m s p _ a b e hr;split at h
   ·cases h
    rename_i he;subst he;simp only[Fh,yE]at hb;subst hb;have:=fH N m (bL s) p a b hr;rw[MS]at this;exact this
   ·cases h
  ·cases h
 ·simp at h⟩
def UW(N:Nat):Pc
 |[.box _ 0],[.v (.string s),.v (.int .i64 p)]=>match BJ N (bL s) p with|some (_,_,e)=>if e=0 then none else some (True,fV)|none=>none
 |_,_=>none
theorem oO(N:Nat):POK Tryz.prog 79 (UW N):=⟨x79.ok,by
 intro args cells vc v n h hv hb;unfold UW at h;split at h
 ·split at h
  ·rename_i m s p _ a b e hr;split at h
   ·cases h
   ·cases h
    rename_i he;simp only[Fh,yE]at hb;subst hb;have:=fI N m (bL s) p a b e hr he;rw[MS]at this;exact this
  ·cases h
 ·simp at h⟩
def kE(N:Nat):List (Nat×Spec):=[(59,Wp N),(80,XC N)]
def Z9(N:Nat):List (Nat×Pb):=[(79,UU N)]
def aC(N:Nat):List (Nat×Pc):=[(79,UW N)]
theorem UX(N:Nat):TabOK Tryz.prog (Jl (kE N) (Z9 N) (aC N)):=lZ (Aa (Md N) (Aa (Uj N) Ae)) (by
 intro x hx;simp only[Z9,A26]at hx;subst hx;exact oN N) (by
 intro x hx;simp only[aC,A26]at hx;subst hx;exact oO N)
def dN(N:Nat)(s:List UInt8)(p:Int):Option (Option (Int×Int)):=(BJ N s p).bind λ(n,q,e)=>some (if e=0 then some (n,q)else none)
def pb{E J:Type}:Option (Option E)->(E->Option (Option J))->Option (Option J)
 |none,_=>none
 |some none,_=>some none
 |some (some a),f=>f a
theorem H4{N:Nat}{s:List UInt8}{p:Int}{J:Type}{f:Int×Int->Option (Option J)}{r:Option J}(h:pb (dN N s p) f=some r):∃x q e,BJ N s p=some (x,q,e)/\(¬e=0/\r=none\/e=0/\f (x,q)=some r):=by
 unfold dN at h;cases hw:BJ N s p with
 |none=>rw[hw]at h;simp[pb]at h
 |some t=>
  obtain⟨x,q,e⟩:=t;refine⟨x,q,e,rfl,?_⟩;rw[hw,Option.bind_some]at h;simp only at h;by_cases he:e=0
  ·rw[t8 he]at h;exact .inr ⟨he,h⟩
  ·rw[t7 he]at h;exact .inl ⟨he,(yJ h).symm⟩
theorem kG{E J γ:Type}{x:Option (Option E)}{f:E->Option (Option J)}{g:J->Option (Option γ)}:pb (pb x f) g=pb x λa=>pb (f a) g:=by rcases x with _|_|a<;>rfl
def dP(N:Nat)(s:List UInt8):Nat->Int->List (Int×Int)->Option (Option (List (Int×Int)×Int))|0,p,l=>some (some (l,p))|k+1,p,l=>pb (dN N s p) λ(x,q)=>pb (dN N s q) λ(y,r)=>dP N s k r (l++[(x,y)])
def fJ(N:Nat)(s:List UInt8):Option (Option (Int×Int×Int×List (Int×Int)×Int×Int)):=pb (dN N s 0) λ(a,p1)=>pb (dN N s p1) λ(b,p2)=>pb (dN N s p2) λ(c,p3)=>pb (dN N s p3) λ(f,p4)=>pb (dN N s p4) λ(g,p5)=>pb (dN N s p5) λ(n,p6)=>bif decide (3<=n)&&decide (n<=8)then pb (dP N s n.toNat p6 []) λ(l,p7)=>bif decide (p7<(s.length:Int))then some none else (BG N a b c l f g).bind λv=>some (bif v then some (a,b,c,l,f,g)else none)else some none
section
attribute [local go_sem] kE Z9 aC UU UW fV XC Wp Dp Mc Ce Option.isSome_some
def ET:Option AV->Bool|some c=> !isM c|none=>false
theorem RU{o:Option AV}:ET o=true↔∃c,o=some c/\isM c=false:=by
 cases o with
 |none=>simp[ET]
 |some c=>simp[ET]
theorem Ga(N:Nat){e:Ar}{h:Hp}{c:Nat}(e2:lk e 2=.box (0,1) 0)(e3:lk e 3=.box (1,1) 0)(ek:lk e (dk 64)=.gd false (.clo (.func 78) [] [.box (0,1) 0,.box (1,1) 0]))(hh:(ET (hl h (.c (0,1) 0))&&ET (hl h (.c (0,1) 1))&&ET (hl h (.c (0,1) 2))&&ET (hl h (.c (0,1) 3))&&ET (hl h (.c (0,1) 4))&&ET (hl h (.c (0,1) 5))&&ET (hl h (.c (1,1) 0)))=true):NY Tryz.prog (Jl (kE N) (Z9 N) (aC N)) 64 x52.rv (.tup [.agg [.i 0,.i 0,.i 0,.sl 2 false [] [.i 0,.i 0],.i 0,.i 0],.i 80]) (.p fV) ⟨e,h,c⟩:=by
 have hS:=UX N;simp only[y8,RU]at hh;obtain⟨⟨⟨⟨⟨⟨⟨c0,h0,k0⟩,⟨c1,h1,k1⟩⟩,⟨c2,h2,k2⟩⟩,⟨c3,h3,k3⟩⟩,⟨c4,h4,k4⟩⟩,⟨c5,h5,k5⟩⟩,⟨d0,h6,k6⟩⟩:=hh;refine⟨_,_,ek,_,_,_,_,_,_,Tryz.func78,x78.hc,x78.hn,A01 rfl,x78.ok,rfl,λaa=>?_⟩;dsimp only[x78,Ad,B3];have ab:=Ctx.fd_ok (nt:=12) (hb:=aa) hS;have F:=fc h0 (fc h1 (fc h2 (fc h3 (fc h4 (fc h5 (fc h6 (fc k0 (fc k1 (fc k2 (fc k3 (fc k4 (fc k5 (fc k6 f0)))))))))))));refine go hS F ?_;refine cf F ?_;refine go hS F ?_;refine ct F ?_;refine go hS F ?_;refine MB ⟨by simp only[go_sem,seval],?_⟩;try dsimp only[x52,Ad]
 exact⟨_,_,by simp only[go_sem,seval,e2,e3]<;>eq_refl,by simp only[go_sem,seval],by simp only[go_sem,seval],.of (by simp only[go_sem,seval]),rfl⟩
end
section
attribute [local go_sem] kE Z9 aC UU UW XC Wp Dp Mc Ce Option.isSome_some
theorem aD(N:Nat)(s:List UInt8)(r:Option (Int×Int×Int×List (Int×Int)×Int×Int))(h:fJ N s=some r):PCall Tryz.prog 52 [.v (.string (sB s))] (match r with|some (a,b,c,l,f,g)=>.tup [.agg [.i a,.i b,.i c,.sl 2 false (l.map Ce) [.i 0,.i 0],.i f,.i g],.i 0]|none=>.tup [.agg [.i 0,.i 0,.i 0,.sl 2 false [] [.i 0,.i 0],.i 0,.i 0],.i 80]):=by
 refine Tp (UX N) _ x52.hf x52.hc x52.hn (A01 rfl) λhb=>?_
 have hS:=UX N;have hOK:=Ctx.fd_ok (nt:=64) (hb:=hb) hS;have F:=f0;dsimp only[x52,Ad,B3];unfold fJ at h;refine go hS F ?_;refine H8 hS 1 rfl rfl (by simp only[go_sem,seval]<;>eq_refl) yT (by simp only[go_sem,seval]<;>eq_refl) (by simp only[go_sem,seval]<;>eq_refl) ?_;refine go hS F ?_;refine Es 30 ?_;replace h:=H4 h;obtain⟨a,p1,e0,k0,h⟩:=h;refine go hS F ?_;refine ct F ?_;refine go hS F ?_;rcases h with⟨he,rfl⟩|⟨rfl,h⟩
 ·replace F:=fc k0 (fc he F);refine N1 (p:=fV) hOK F 2 ?_
  repeat' (with_reducible first|apply AT|apply AU|apply A2|apply AD)
  exact Ga N (by simp only[go_sem,seval]) (by simp only[go_sem,seval]) (by simp only[go_sem,seval]) (by simp only[go_sem,seval,ET])
 replace F:=fc k0 F;replace h:=H4 h;obtain⟨b,p2,e1,k1,h⟩:=h;refine go hS F ?_;refine ct F ?_;refine go hS F ?_;rcases h with⟨he,rfl⟩|⟨rfl,h⟩
 ·replace F:=fc k1 (fc he F);refine N1 (p:=fV) hOK F 2 ?_
  repeat' (with_reducible first|apply AT|apply AU|apply A2|apply AD)
  exact Ga N (by simp only[go_sem,seval]) (by simp only[go_sem,seval]) (by simp only[go_sem,seval]) (by simp only[go_sem,seval,ET])
 replace F:=fc k1 F;replace h:=H4 h;obtain⟨c,p3,e2,k2,h⟩:=h;refine go hS F ?_;refine ct F ?_;refine go hS F ?_;rcases h with⟨he,rfl⟩|⟨rfl,h⟩
 ·replace F:=fc k2 (fc he F);refine N1 (p:=fV) hOK F 2 ?_
  repeat' (with_reducible first|apply AT|apply AU|apply A2|apply AD)
  exact Ga N (by simp only[go_sem,seval]) (by simp only[go_sem,seval]) (by simp only[go_sem,seval]) (by simp only[go_sem,seval,ET])
 replace F:=fc k2 F;replace h:=H4 h;obtain⟨f,p4,e3,k3,h⟩:=h;refine go hS F ?_;refine ct F ?_;refine go hS F ?_;rcases h with⟨he,rfl⟩|⟨rfl,h⟩
 ·replace F:=fc k3 (fc he F);refine N1 (p:=fV) hOK F 2 ?_
  repeat' (with_reducible first|apply AT|apply AU|apply A2|apply AD)
  exact Ga N (by simp only[go_sem,seval]) (by simp only[go_sem,seval]) (by simp only[go_sem,seval]) (by simp only[go_sem,seval,ET])
 replace F:=fc k3 F;replace h:=H4 h;obtain⟨g,p5,e4,k4,h⟩:=h;refine go hS F ?_;refine ct F ?_;refine go hS F ?_;rcases h with⟨he,rfl⟩|⟨rfl,h⟩
 ·replace F:=fc k4 (fc he F);refine N1 (p:=fV) hOK F 2 ?_
  repeat' (with_reducible first|apply AT|apply AU|apply A2|apply AD)
  exact Ga N (by simp only[go_sem,seval]) (by simp only[go_sem,seval]) (by simp only[go_sem,seval]) (by simp only[go_sem,seval,ET])
 replace F:=fc k4 F;replace h:=H4 h;obtain⟨n,p6,e5,k5,h⟩:=h;refine go hS F ?_;refine cf F ?_;refine go hS F ?_;rcases h with⟨he,rfl⟩|⟨rfl,h⟩
 ·replace F:=fc k5 (fc he F);refine N1 (p:=fV) hOK F 1 ?_
  repeat' (with_reducible first|apply AT|apply AU|apply A2|apply AD)
  exact Ga N (by simp only[go_sem,seval]) (by simp only[go_sem,seval]) (by simp only[go_sem,seval]) (by simp only[go_sem,seval,ET])
 replace F:=fc k5 F;refine go hS F ?_;simp only at h;cases hc:decide ((3:Int)<=n)&&decide (n<=(8:Int))with
 |false=>
  rw[hc,A12]at h;obtain rfl:=yJ h;refine ct (fc hc F) ?_;refine A1 hOK 2 rfl rfl (by simp only[go_sem,seval]<;>eq_refl) (by simp only[go_sem,seval]) (by simp only[go_sem,seval]<;>eq_refl) ?_
  repeat' (with_reducible first|apply AT|apply AU|apply A2|apply AD)
  exact Ga N (by simp only[go_sem,seval]) (by simp only[go_sem,seval]) (by simp only[go_sem,seval]) (by simp only[go_sem,seval,ET])
 |true=>
 rw[hc,cond_true]at h;have hn:3<=n/\n<=8:=by simpa using hc
 refine cf (fc hc F) ?_;refine go hS F ?_;refine qY (s':=⟨[(35,.i 0),(34,.i n),(4,.box (202,3) 0),(3,.box (1,1) 0),(2,.box (0,1) 0),(2000064,.gd false (.clo (.func 78) [] [.box (0,1) 0,.box (1,1) 0])),(0,.v (.string (sB s)))],[(.c (202,3) 1,.i p6),(.c (202,3) 0,.v (.string (sB s))),(.c (1,1) 0,.i 0),(.c (0,1) 0,.i a),(.c (0,1) 1,.i b),(.c (0,1) 2,.i c),(.c (0,1) 3,.sl 0 true [] []),(.c (0,1) 4,.i f),(.c (0,1) 5,.i g)],100⟩) (CB F) ?_;refine Iv 1 (0,1) 3 2 [.i 0,.i 0] (by omega) (by simp only[go_sem,seval]<;>eq_refl) ?_;have key:∀(x:Nat×Nat×Int×List (Int×Int)×Nat),True:=λ_=>trivial
 refine Hf (λx:Nat×Nat×Int×List (Int×Int)×Nat=>⟨[(35,.i x.2.1),(34,.i n),(4,.box (202,3) 0),(3,.box (1,1) 0),(2,.box (0,1) 0),(2000064,.gd false (.clo (.func 78) [] [.box (0,1) 0,.box (1,1) 0])),(0,.v (.string (sB s)))],[(.c (202,3) 1,.i x.2.2.1),(.c (202,3) 0,.v (.string (sB s))),(.c (1,1) 0,.i 0),(.c (0,1) 0,.i a),(.c (0,1) 1,.i b),(.c (0,1) 2,.i c),(.c (0,1) 3,.own (1,101) x.2.2.2.1.length),(.a (1,101),.sl 2 true (x.2.2.2.1.map Ce) [.i 0,.i 0]),(.c (0,1) 4,.i f),(.c (0,1) 5,.i g)],x.2.2.2.2⟩)
  (λx=>pb (dP N s x.1 x.2.2.1 x.2.2.2.1) (λ(l,p7)=>bif decide (p7<(s.length:Int))then some none else(BG N a b c l f g).bind λv=>some (bif v then some (a,b,c,l,f,g)else none))=some r/\x.2.1+x.1=n.toNat/\x.2.2.2.1.length=x.2.1) (λx=>x.1) (n.toNat,0,p6,[],101) ⟨h,by simp,rfl⟩ ?_ ?_
 ·exact CB F
 ·rintro⟨k,j,p,ls,cc⟩ ⟨hd,hj,hls⟩;simp only at hd hj hls;refine go hS F ?_;refine cb F (decide ((j:Int)<n)) (λhc=>?_) λhc=>?_
  ·have hc:=of_decide_eq_true hc;obtain _|k:=k
   ·omega
   simp only[dP]at hd;rw[kG]at hd;replace hd:=H4 hd;obtain⟨x,q,ex,m1,hd⟩:=hd;refine go hS F ?_;rcases hd with⟨he,rfl⟩|⟨rfl,hd⟩
   ·replace F:=fc m1 (fc he F);refine N1 (p:=fV) hOK F 1 ?_
    repeat' (with_reducible first|apply AT|apply AU|apply A2|apply AD)
    exact Ga N (by simp only[go_sem,seval]) (by simp only[go_sem,seval]) (by simp only[go_sem,seval]) (by simp only[go_sem,seval,ET])
   simp only at hd;rw[kG]at hd;replace hd:=H4 hd;obtain⟨y,w,ey,m2,hd⟩:=hd;rcases hd with⟨he,rfl⟩|⟨rfl,hd⟩
   ·replace F:=fc m1 (fc m2 (fc he F));refine go hS F ?_;refine pY (p:=fV) hOK F 4 (.i 0) ?_
    repeat' (with_reducible first|apply AT|apply AU|apply A2|apply AD)
    exact Ga N (by simp only[go_sem,seval]) (by simp only[go_sem,seval]) (by simp only[go_sem,seval]) (by simp only[go_sem,seval,ET])
   refine go hS (fc m1 (fc m2 F)) ?_;refine Id (k,j+1,w,ls++[(x,y)],cc+100) ⟨hd,by simp only;omega,by simp[hls]⟩ (A54 _) (Le.of ?_ ?_ ?_)
   ·simp only[go_sem,seval,F]<;>simp
   ·simp only[go_sem,seval,F,A24,w5,A22]
   ·simp
  ·have hc:=of_decide_eq_false hc;have hk:k=0:=by omega
   subst hk;simp only[dP,pb]at hd;cases c9:decide (p<(s.length:Int))with
   |true=>
    rw[c9,cond_true]at hd;obtain rfl:=yJ hd;refine go hS (fc c9 F) ?_;refine ct (fc c9 F) ?_;refine A1 hOK 2 rfl rfl (by simp only[go_sem,seval]<;>eq_refl) (by simp only[go_sem,seval]) (by simp only[go_sem,seval]<;>eq_refl) ?_
    repeat' (with_reducible first|apply AT|apply AU|apply A2|apply AD)
    exact Ga N (by simp only[go_sem,seval]) (by simp only[go_sem,seval]) (by simp only[go_sem,seval]) (by simp only[go_sem,seval,ET])
   |false=>
   rw[c9,A12]at hd;obtain⟨v,h9,hd⟩:=yB.1 hd;replace F:=fc c9 (fc h9 F);refine go hS F ?_;cases v with
   |false=>
    obtain rfl:=yJ hd;refine ct F ?_;refine A1 hOK 2 rfl rfl (by simp only[go_sem,seval]<;>eq_refl) (by simp only[go_sem,seval]) (by simp only[go_sem,seval]<;>eq_refl) ?_
    repeat' (with_reducible first|apply AT|apply AU|apply A2|apply AD)
    exact Ga N (by simp only[go_sem,seval]) (by simp only[go_sem,seval]) (by simp only[go_sem,seval]) (by simp only[go_sem,seval,ET])
   |true=>
   obtain rfl:=yJ hd;refine cf F ?_;refine go hS F ?_;refine .inr ⟨_,_,(by simp only[go_sem,seval]<;>eq_refl),?_⟩;refine⟨_,_,_,_,_,_,Tryz.func78,x78.hc,x78.hn,A01 rfl,x78.ok,rfl,λaa=>?_⟩;dsimp only[x78,Ad,B3];have ab:=Ctx.fd_ok (nt:=12) (hb:=aa) hS;refine go hS F ?_;refine ct F ?_;refine go hS F ?_;try dsimp only[x52,Ad]
   refine MB ⟨by simp only[go_sem,seval],_,_,(by simp only[go_sem,seval]<;>eq_refl),by simp only[go_sem,seval],by simp only[go_sem,seval],.of ?_,rfl⟩;simp only[go_sem,seval]
end
end
attribute [local irreducible] Aq BD Bv A8 Bq Ba AQ Bw By Ck
def Gh(N:Nat)(a b c:Int)(l:List (Int×Int))(p q:Int):Option (List UInt8×Int):=(BG N a b c l p q).bind λv=>gd (l.length<=1000000)<|some (bif v then fE a b c l p q else[],bif v then 0 else 80)
theorem Qd(N:Nat)(a b c:Int)(l:List (Int×Int))(p q:Int)(r:List UInt8×Int)(h:Gh N a b c l p q=some r):PCall Tryz.prog 101 [.agg [.i a,.i b,.i c,.sl 2 false (l.map Ce) [.i 0,.i 0],.i p,.i q]] (.tup [.v (.string (sB r.1)),.i r.2]):=by
 unfold Gh at h;obtain⟨v,h1,h2⟩:=yB.1 h;simp only[Wj]at h2;obtain⟨h3,h2⟩:=h2;cases h2
 exact Z8 N a b c l p q v h1 h3
def fK(N:Nat):Spec|[.agg [.v (.int .i64 a),.v (.int .i64 b),.v (.int .i64 c),.sl yl _ l _,.v (.int .i64 p),.v (.int .i64 q)]]=>some (((yl=2\/l=[])/\l=(l.map HS).map Ce)/\(Gh N a b c (l.map HS) p q).isSome=true,.tup [.v (.string (sB ((Gh N a b c (l.map HS) p q).getD ([],0)).1)),.i ((Gh N a b c (l.map HS) p q).getD ([],0)).2])|_=>none
theorem xD(N:Nat):Au Tryz.prog 101 (fK N):=⟨x101.ok,by
 intro args vc r h hv;unfold fK at h;split at h
 ·cases h
  obtain⟨⟨ae,af⟩,hs⟩:=hv;obtain⟨r,hr⟩:=yX hs;have hk:=Qd N _ _ _ _ _ _ r hr;simp only[hr,A00];refine PCall.arg ?_ hk;simp only[GW,wk,and_true,true_and,yF,false_implies,implies_true]
  repeat' (first|exact yT|assumption|apply And.intro)
 ·simp at h⟩
def DI(N:Nat)(s:List UInt8):Option ((Int×Int×Int×List (Int×Int)×Int×Int)×Int):=(fJ N s).map λr=>match r with|some x=>(x,0)|none=>((0,0,0,[],0,0),80)
theorem Qe(N:Nat)(s:List UInt8)(r:(Int×Int×Int×List (Int×Int)×Int×Int)×Int)(h:DI N s=some r):PCall Tryz.prog 52 [.v (.string (sB s))] (.tup [.agg [.i r.1.1,.i r.1.2.1,.i r.1.2.2.1,.sl 2 false (r.1.2.2.2.1.map Ce) [.i 0,.i 0],.i r.1.2.2.2.2.1,.i r.1.2.2.2.2.2],.i r.2]):=by unfold DI at h;obtain⟨x,h1,h2⟩:=Option.map_eq_some_iff.1 h;have:=aD N s x h1;subst h2;rcases x with _|⟨a,b,c,l,f,g⟩<;>exact this
def UY(N:Nat):Spec|[.v (.string s)]=>some ((DI N (bL s)).isSome=true,.tup [.agg [.i ((DI N (bL s)).getD ((0,0,0,[],0,0),0)).1.1,.i ((DI N (bL s)).getD ((0,0,0,[],0,0),0)).1.2.1,.i ((DI N (bL s)).getD ((0,0,0,[],0,0),0)).1.2.2.1,.sl 2 false (((DI N (bL s)).getD ((0,0,0,[],0,0),0)).1.2.2.2.1.map Ce) [.i 0,.i 0],.i ((DI N (bL s)).getD ((0,0,0,[],0,0),0)).1.2.2.2.2.1,.i ((DI N (bL s)).getD ((0,0,0,[],0,0),0)).1.2.2.2.2.2],.i ((DI N (bL s)).getD ((0,0,0,[],0,0),0)).2])|_=>none
theorem Aa2(N:Nat):Au Tryz.prog 52 (UY N):=⟨x52.ok,by
 intro args vc r h hv;unfold UY at h;split at h
 ·cases h
  obtain⟨r,hr⟩:=yX hv;have hk:=Qe N _ r hr;simp only[hr,A00];rw[MS]at hk;exact hk
 ·simp at h⟩
attribute [go_sem] fK UY
