import Derived.Test.YtjdchfljifacoaaGreatH3
set_option linter.all false
set_option maxRecDepth 1000000
set_option maxHeartbeats 4000000
namespace Go.Proofs.YtjdchfljifacoaaGreat.Am
section
theorem lpk{N:Nat}{c n:Int}(hc:Af c)(hn:0<n):Gz N c n=some (pk c n):=by
 unfold Gz pk;unfold Af at hc;by_cases h:c<0
 ·rw[aA h,cT,dX h,Ae (by unfold Af;omega),Ae (by unfold Af;omega),Ae (by omega)]
 ·rw[aB h,cF,dW h,Ae (by omega)]
theorem JE{N:Nat}{c n:Int}(hc:Af c)(hn:0<n):AN N c n=some (pk c n):=by
 unfold AN pk;unfold Af at hc;by_cases h:c<0
 ·rw[aA h,cT,dX h,Ae (by unfold Af;omega),Ae (by unfold Af;omega),Ae (by omega)]
 ·rw[aB h,cF,dW h,Ae (by omega)]
def JF(m:Mk):Bool:=(((decide (0<=m.1)&&decide (m.1<=99))&&(decide (0<=m.2.1)&&decide (m.2.1<=99)))&&(decide (-2<=m.2.2.1)&&decide (m.2.2.1<=7)))&&(decide (1<=m.2.2.2.1)&&decide (m.2.2.2.1<=5))
theorem S3{m:Mk}:JF m=true↔(0<=m.1/\m.1<=99)/\(0<=m.2.1/\m.2.1<=99)/\(-2<=m.2.2.1/\m.2.2.1<=7)/\(1<=m.2.2.2.1/\m.2.2.2.1<=5):=by unfold JF;simp only[fW,bJ,and_assoc]
theorem Qt(N:Nat)(a b c d:Int)(o:Bool):Ht N a b c d o=some (JF (a,b,c,d,o)):=by unfold Ht Cv BM JF;simp only[bS];rw[BR (λ_=>fL),BR (λ_=>fL),BR (λ_=>fL)];rfl
theorem RT(N:Nat)(a b c d:Int)(o:Bool):FF N a b c d o=some (JF (a,b,c,d,o)):=by unfold FF AH JF;simp only[bS];rw[BR (λ_=>fL),BR (λ_=>fL),BR (λ_=>fL)];rfl
structure MV(f:List Un)(ms:List Mk):Prop where
 len:ms.length<=20
 ok:∀m∈ms,JF m=true
 on:∀m∈ms,∃u∈f,u.1=m.2.1/\m.2.2.1<(u.2.2.2.1.length:Int)
 srt:ms.Pairwise λa b=>a.1<b.1
noncomputable instance(f:List Un)(ms:List Mk):Decidable (MV f ms):=Classical.propDecidable _
def SV(f:List Un)(ms:List Mk):Prop:=FV f/\MV f ms
noncomputable instance(f:List Un)(ms:List Mk):Decidable (SV f ms):=Classical.propDecidable _
def Xg:Mk:=(0,0,0,0,false)
def Bi(ms:List Mk)(k:Nat):Mk:=ms.getD k (0,0,0,0,false)
theorem E7{ms:List Mk}{k:Nat}(h:k<ms.length):A7 ms (k:Int)=some ((Bi ms k).1,(Bi ms k).2.1,(Bi ms k).2.2.1,(Bi ms k).2.2.2.1,(Bi ms k).2.2.2.2):=by rw[Ou (0,0,0,0,false) (by omega) (by omega),sI];rfl
theorem FJ{ms:List Mk}{k:Nat}(h:k<ms.length):Bi ms k=ms[k]:=by unfold Bi;rw[cY,dQ h];rfl
theorem J5{ms:List Mk}{k:Nat}(h:k<ms.length):Bi ms k∈ms:=by rw[FJ h];exact y7 h
theorem Ml{ms:List Mk}{m:Mk}(h:m∈ms):∃k,k<ms.length/\Bi ms k=m:=by obtain⟨k,hk,e⟩:=List.mem_iff_getElem.1 h;exact⟨k,hk,(FJ hk).trans e⟩
theorem I1{ms:List Mk}{R:Mk->Mk->Prop}:ms.Pairwise R↔∀i k,i<k->k<ms.length->R (Bi ms i) (Bi ms k):=by
 rw[List.pairwise_iff_getElem];constructor
 ·intro h i k hik hk;rw[FJ (by omega),FJ hk];exact h i k (by omega) hk hik
 ·intro h i k hi hk hik;have:=h i k hik hk;rw[FJ hi,FJ hk]at this;exact this
theorem uK{ms:List Mk}(h:∀k,0<k->k<ms.length->(Bi ms (k-1)).1<(Bi ms k).1):ms.Pairwise λa b=>a.1<b.1:=by
 rw[I1];intro i k hik hk;induction k with
 |zero=>omega
 |succ k ih=>
  have h1:=h (k+1) (by omega) hk;rw[Nat.add_sub_cancel]at h1;by_cases e:i=k
  ·rw[e];exact h1
  ·have:=ih (by omega) (by omega);omega
def LA(ms:List Mk)(x:Int):Int:=if x<=0 then-1 else(Bi ms (x-1).toNat).1
theorem Q0(ms:List Mk)(k:Nat):LA ms ((k+1:Nat):Int)=(Bi ms k).1:=by unfold LA;rw[dW (by omega),show((k+1:Nat):Int)-1=(k:Nat) by omega,sI]
def Ux(f:List Un)(m:Mk):Bool:=f.any λu=>decide (u.1=m.2.1)&&decide (m.2.2.1<(u.2.2.2.1.length:Int))
theorem Z2{f:List Un}{m:Mk}:Ux f m=true↔∃u∈f,u.1=m.2.1/\m.2.2.1<(u.2.2.2.1.length:Int):=by unfold Ux;simp only[List.any_eq_true,fW,bJ]
def G6(f:List Un)(ms:List Mk)(k:Nat):Bool:=(Ux f (Bi ms k)&&JF (Bi ms k))&&decide (LA ms k<(Bi ms k).1)
theorem Pr{f:List Un}{ms:List Mk}:(∀k,k<ms.length->G6 f ms k=true)/\ms.length<=20↔MV f ms:=by
 constructor
 ·rintro⟨h,hl⟩;refine⟨hl,λm hm=>?_,λm hm=>?_,uK λk h0 hk=>?_⟩
  ·obtain⟨k,hk,rfl⟩:=Ml hm;have:=h k hk;unfold G6 at this;simp only[fW]at this;exact this.1.2
  ·obtain⟨k,hk,rfl⟩:=Ml hm;have:=h k hk;unfold G6 at this;simp only[fW]at this;exact Z2.1 this.1.1
  ·have:=h k hk;unfold G6 at this;simp only[fW,bJ]at this;obtain⟨j,rfl⟩:∃j,k=j+1:=⟨k-1,by omega⟩
   rw[Q0]at this;exact this.2
 ·rintro⟨h1,h2,h3,h4⟩;refine⟨λk hk=>?_,h1⟩;unfold G6;simp only[fW,bJ];refine⟨⟨Z2.2 (h3 _ (J5 hk)),h2 _ (J5 hk)⟩,?_⟩;cases k with
  |zero=>have:=S3.1 (h2 _ (J5 hk));unfold LA;rw[dX (by omega)];omega
  |succ k=>rw[Q0];exact I1.1 h4 k (k+1) (by omega) hk
section
variable{N:Nat}(hN:1001<=N)
include hN
omit hN in
theorem RU(N:Nat){f:List Un}(hl:f.length<=1000)(m:Mk):∀n k (b:Bool),k<=f.length->f.length<n+k->Eg N f m.2.1 m.2.2.1 n b (k:Nat)=some (b||Ux (f.drop k) m)
 |0,k,b,h1,h2=>by omega
 |n+1,k,b,h1,h2=>by
  rw[Eg];by_cases e:k<f.length
  ·rw[Dq e,cT,Fs e,bS];simp only;rw[Ae (by unfold Af;omega),<-ns,RU N hl m n (k+1) _ (by omega) (by omega)];have e2:f.drop k=A2 f k::f.drop (k+1):=by rw[Fb e];exact jW e
   rw[e2,show Ux (A2 f k::f.drop (k+1)) m=((decide ((A2 f k).1=m.2.1)&&decide (m.2.2.1<((A2 f k).2.2.2.1.length:Int)))||Ux (f.drop (k+1)) m)from rfl,Bool.or_assoc]
  ·have e3:k=f.length:=by omega
   subst e3;rw[F2,cF,sW,show Ux [] m=false from rfl,FM]
omit hN in
theorem qA{f:List Un}{ms:List Mk}{k:Nat}(hk:k<ms.length):((!JF (Bi ms k))||(decide (0<(k:Int))&&decide ((Bi ms k).1<=(ms.getD ((k:Int)-1).toNat (0,0,0,0,false)).1)))= !(JF (Bi ms k)&&decide (LA ms k<(Bi ms k).1)):=by
 rw[Bool.not_and];cases h:JF (Bi ms k)with
 |false=>rfl
 |true=>
  rw[z8,Bool.false_or,Bool.false_or,y8];have h:=S3.1 h;simp only[fW,bJ,tL,bK];cases k with
  |zero=>unfold LA;rw[dX (by omega)];omega
  |succ k=>rw[Q0,show((k+1:Nat):Int)-1=(k:Nat) by omega,sI];show _/\(Bi ms (k+1)).1<=(Bi ms k).1↔_;omega
theorem Xi(f:List Un){ms:List Mk}(hl:ms.length<=1000):Bn N f ms=some (decide (SV f ms)):=by
 unfold Bn;rw[SZ hN,bS];by_cases c:FV f/\ms.length<=20
 ·obtain⟨hf,h20⟩:=c;have fl:=hf.len;rw[aA hf,A1 _ (by simp;omega)];have F:=GK (L:=C3 N ms f) (len:=ms.length) (λk=>bif G6 f ms k then none else some false) (λn k hk e=>?_) (λn k r hk e=>?_) (λn=>?_) N (by omega)
  ·rcases F with⟨e,h⟩|⟨j,r,hj,h,_,e⟩
   ·rw[e,bS];simp only;rw[aA];refine⟨hf,Pr.1 ⟨λk hk=>?_,h20⟩⟩;have:=h k hk;cases c:G6 f ms k with
    |true=>rfl
    |false=>rw[c,cF]at this;cases this
   ·rw[e,bS];cases c:G6 f ms j with
    |true=>rw[c,cT]at h;cases h
    |false=>
     rw[c,cF]at h;cases h
     simp only;rw[aB];intro v;have:=(Pr.2 v.2).1 j hj;rw[c]at this;cases this
  ·cases c:G6 f ms k with
   |false=>rw[c,cF]at e;cases e
   |true=>unfold G6 at c;rw[fW,fW]at c;rw[C3,Dq hk,cT,E7 hk,bS];simp only;rw[RT,bS,BR (λh=>by simp only[bJ]at h;unfold Af;omega),BR (λh=>by simp only[bJ]at h;omega),show JF ((Bi ms k).1,(Bi ms k).2.1,(Bi ms k).2.2.1,(Bi ms k).2.2.2.1,(Bi ms k).2.2.2.2)=JF (Bi ms k)from rfl,qA (f:=f) hk,c.1.2,c.2,A1 _ (by rfl),<-iW,RU N (by omega) (Bi ms k) N 0 false (by omega) (by omega),bS,sG,c.1.1,A1 _ (by rfl),Ae (by unfold Af;omega),ns]
  ·cases c:G6 f ms k with
   |true=>rw[c,cT]at e;cases e
   |false=>
    rw[c,cF]at e;cases e
    unfold G6 at c;rw[C3,Dq hk,cT,E7 hk,bS];simp only;rw[RT,bS,BR (λh=>by simp only[bJ]at h;unfold Af;omega),BR (λh=>by simp only[bJ]at h;omega),show JF ((Bi ms k).1,(Bi ms k).2.1,(Bi ms k).2.2.1,(Bi ms k).2.2.2.1,(Bi ms k).2.2.2.2)=JF (Bi ms k)from rfl,qA (f:=f) hk];by_cases c2:(JF (Bi ms k)&&decide (LA ms k<(Bi ms k).1))=true
    ·rw[c2,A1 _ (by rfl),<-iW,RU N (by omega) (Bi ms k) N 0 false (by omega) (by omega),bS,sG,AU];rw[fW]at c2;rw[c2.1,c2.2,DV,DV]at c;rw[c];rfl
    ·rw[tD.2 c2,AU _ (by rfl)]
  ·rw[C3,F2,cF]
 ·rw[AU,aB λv=>c ⟨v.1,v.2.len⟩];rw[qZ];by_cases hf:FV f
  ·exact .inr (by rw[bJ];have:¬ms.length<=20:=λh=>c ⟨hf,h⟩;omega)
  ·exact .inl (by rw[aB hf];rfl)
end
end
open Go Go.RowKit Go.Lib
def zM:List Value:=[.int .i64 0,.int .i64 0,.int .i64 0,.int .i64 0,.bool false]
theorem YB:∃j,Tryz.prog.info? 36=some j/\j.size=5:=v9.1 (show(Tryz.prog.info? 36).map (·.size)=some 5 by kernel_rfl)
theorem XM(b off n c i vb voff m vc:Nat)(cs vs:List Value)(w:World)(hi:i<n)(hm:0<m)(hroom:n+m<=c)(hc63:n+m<=9223372036854775807)(hvb:vb≠b)(hcl:cs.length=n*5)(hvl:vs.length=m*5)(hcs:∀j v,cs[j]? =some v->w.cell? ⟨b,off+j,none⟩=some v)(hsp:∀j,j<(n+m)*5->(w.cell? ⟨b,off+j,none⟩).isSome=true)(hfz:∀j,j<(n+m)*5->w.frozen? ⟨b,off+j,none⟩=false)(hvs:∀j v,vs[j]? =some v->w.cell? ⟨vb,voff+j,none⟩=some v)(h1c:∀v∈cs,v.oneCell'=true)(h1v:∀v∈vs,v.oneCell'=true)(tA tB:TypeId)(kA kB:Nat)(hsa:w.shape? vb=some (tA,kA))(hsb:w.shape? b=some (tB,kB))(hkA:kA≠0)(hfb:∀j,w.frozen? ⟨b,j,none⟩=false):Calls Tryz.prog 168 #[.slice (some ⟨b,off,none⟩) n c,.int .i64 i,.slice (some ⟨vb,voff,none⟩) m vc] w λe w'=>e=.returned (.slice (some ⟨b,off,none⟩) (n+m) c)/\w'=(w.drew.setCells b (off+(i+m)*5) (cs.drop (i*5))).setCells b (off+i*5) vs:=by
 obtain⟨i0,hi0,hzs⟩:=YB;have hz1:¬((m:Int)=0):=by omega
 have hz2:¬((i:Int)=(n:Int)):=by omega
 have hov:∀lb cb,(callFunc 194 #[.slice (some ⟨vb,voff,none⟩) m vc,.slice (some ⟨b,off+(i+m)*5,none⟩) lb cb]).run Tryz.prog w=.ok (.value (.bool false)) w:=λlb cb=>by rw[run_callFunc_extern Tryz.func194 (by kernel_rfl) (by kernel_rfl) (by kernel_rfl) (e:=Extern.SlicesOverlaps.overlaps #[29,29] #[4]) (by kernel_rfl),LG w 29 4 36 Tryz.underlying29 5 Tryz.sizeOf36 ⟨vb,voff,none⟩ ⟨b,off+(i+m)*5,none⟩ m vc lb cb hvb tA tB kA kB hsa hsb hkA (hfb _) (hfb _)];rfl
 have hdl:(cs.drop (i*5)).length=(n-i)*i0.size:=by rw[oL,hcl,hzs,Nat.sub_mul]
 have hdl6:(cs.drop (i*5)).length=(n-i)*5:=by rw[hdl,hzs]
 have mixed:Tryz.prog.follows .mixedOrders=true:=by kernel_rfl
 have hw1:IntKind.i64.wrap ((i:Int)+(m:Int))=(i:Int)+(m:Int):=by rw[IntKind.wrap_i64];omega
 have hb1:(0:Int)<=(i:Int)+(m:Int):=by omega
 have hin:i<=n:=by omega
 have htn:((i:Int)+(m:Int)).toNat=i+m:=by omega
 have hb2:¬(c=i+m):=by omega
 have hb3:(i:Int)<=(n:Int)+(m:Int):=by omega
 have hb4:¬(c=i):=by omega
 have hcp1:∀ty dc sc,(Builtin.copy_ #[29,29] ty #[.slice (some ⟨b,off+(i+m)*5,none⟩) (n+m-(i+m)) dc,.slice (some ⟨b,off+i*5,none⟩) (n+m-i) sc]).run Tryz.prog w.drew=.ok (goInt ((n-i:Nat):Int)) (w.drew.setCells b (off+(i+m)*5) (cs.drop (i*5))):=λty dc sc=>
  H4 w.drew _ _ ty 36 b (off+(i+m)*5) (n+m-(i+m)) dc ⟨b,off+i*5,none⟩ (n+m-i) sc (n-i) (cs.drop (i*5)) Tryz.underlying29 hi0 (by simp only[Nat.min_def];split<;>omega) hdl
   (λj v hj=>by rw[Addr.add_lit,rA];exact hcs (i*5+j) v (by rwa [y0]at hj))
   (λj hj=>by rw[hdl6]at hj;rw[rA];exact hsp _ (by omega)) (λj hj=>by rw[hdl6]at hj;rw[rA];exact hfz _ (by omega)) (λv hv=>h1c v (z9 hv))
 obtain⟨W1,hW1⟩:∃W1,W1=w.drew.setCells b (off+(i+m)*5) (cs.drop (i*5)):=⟨_,rfl⟩
 have hsp1:∀k,k<(n+m)*5->(W1.cell? ⟨b,off+k,none⟩).isSome=true:=λk hk=>by rw[hW1];exact World.isSome_setCells b _ _ w.drew _ (hsp k hk)
 have hcp2:∀(ρ:World),(∀x,ρ.cell? x=W1.cell? x)->(∀x,ρ.frozen? x=W1.frozen? x)->∀ty dc,(Builtin.copy_ #[29,29] ty #[.slice (some ⟨b,off+i*5,none⟩) (n+m-i) dc,.slice (some ⟨vb,voff,none⟩) m vc]).run Tryz.prog ρ=.ok (goInt m) (ρ.setCells b (off+i*5) vs):=λρ hWc hWf ty dc=>
  H4 ρ _ _ ty 36 b (off+i*5) (n+m-i) dc ⟨vb,voff,none⟩ m vc m vs Tryz.underlying29 hi0 (by simp only[Nat.min_def];split<;>omega) (by rw[hvl,hzs])
   (λj v hj=>by rw[Addr.add_lit,hWc,hW1,World.cell?_setCells_out b _ _ _ _ (λh _=>absurd h hvb)];exact hvs j v hj)
   (λj hj=>by rw[hvl]at hj;rw[hWc,rA];exact hsp1 _ (by omega)) (λj hj=>by rw[hvl]at hj;rw[hWf,hW1,World.frozen?_setCells,rA];exact hfz _ (by omega)) h1v
 rw[<-hW1]at hcp1;clear hsp1 hcs hsp hfz hvs h1c h1v hdl hdl6 hcl hvl
 go_enter Tryz.func168,Tryz.ntmps168
 go_wp2_with (simp only[hov])
 go_region_law_o (refine step_copy_runI rfl _ _ 29 29 rfl _ _ (by simp[Act.eval,Act.put]) (by simp[Act.eval,Act.put]) (hcp1 _ _ _) ?_)
 go_wp2_with (at_builtin;refine wpList_copy_runI _ rfl _ _ 29 29 rfl _ _ rfl rfl (hcp2 _ (λ_=>rfl) (λ_=>rfl) _ _) ?_)
 go_ret
 first|exact⟨rfl,rfl⟩|exact⟨rfl,by rw[hW1]⟩
theorem UN(b off n c vb voff m vc:Nat)(vs:List Value)(w:World)(hm:0<m)(hroom:n+m<=c)(hc63:n+m<=9223372036854775807)(hvl:vs.length=m*5)(hsp:∀j,j<m*5->(w.cell? ⟨b,off+n*5+j,none⟩).isSome=true)(hfz:∀j,j<m*5->w.frozen? ⟨b,off+n*5+j,none⟩=false)(hvs:∀j v,vs[j]? =some v->w.cell? ⟨vb,voff+j,none⟩=some v)(h1v:∀v∈vs,v.oneCell'=true):Calls Tryz.prog 168 #[.slice (some ⟨b,off,none⟩) n c,.int .i64 n,.slice (some ⟨vb,voff,none⟩) m vc] w λe w'=>e=.returned (.slice (some ⟨b,off,none⟩) (n+m) c)/\w'=w.setCells b (off+n*5) vs:=by
 obtain⟨i0,hi0,hzs⟩:=YB;have hz1:¬((m:Int)=0):=by omega
 have mixed:Tryz.prog.follows .mixedOrders=true:=by kernel_rfl
 have hrun:∀ty,(Builtin.append_ #[29,29] ty #[.slice (some ⟨b,off,none⟩) n c,.slice (some ⟨vb,voff,none⟩) m vc]).run Tryz.prog w=.ok (.slice (some ⟨b,off,none⟩) (n+m) c) (w.setCells b (off+n*5) vs):=λty=>by have:=run_append_room_cells (P:=Tryz.prog) w 29 ty 36 i0 Tryz.underlying29 hi0 b off n c ⟨vb,voff,none⟩ m vc vs (by rw[hvl,hzs]) (λj u hj=>by rw[Addr.add_lit];exact hvs j u hj) h1v hroom (λj hj=>by rw[hzs];exact hsp j (by omega)) (λj hj=>by rw[hzs];exact hfz j (by omega));rw[hzs]at this;exact this
 clear hsp hfz hvs h1v hvl
 go_enter Tryz.func168,Tryz.ntmps168
 go_wp2_with (at_builtin;refine Lib.wpList_append_run _ rfl _ _ _ _ rfl _ _ rfl rfl _ _ (hrun _) ?_)
 go_ret
 exact⟨rfl,rfl⟩
theorem Tn:∃j,Tryz.prog.info? 36=some j/\j.zero=some (.agg zM.toArray)/\j.size=5/\j.bytes=40:=by
 have h:(Tryz.prog.info? 36).map (λi=>(i.zero,i.size,i.bytes))=some (some (.agg zM.toArray),5,40):=by kernel_rfl
 obtain⟨i,hi,h2⟩:=v9.1 h;simp only[F9]at h2;exact⟨i,hi,h2⟩
theorem UO(b off n c vb voff m vc:Nat)(cs vs:List Value)(w:World)(hm:0<m)(hnc:n<=c)(hroom:c<n+m)(hbig:(n+m)*40<=140737488355328)(hcl:cs.length=n*5)(hvl:vs.length=m*5)(hcs:Lies w b off cs)(hvs:Lies w vb voff vs):Calls Tryz.prog 168 #[.slice (some ⟨b,off,none⟩) n c,.int .i64 n,.slice (some ⟨vb,voff,none⟩) m vc] w λe w'=>∃g us,e=.returned (.slice (some ⟨w.heap.size,0,none⟩) (n+m) g)/\n+m<=g/\w'=w.drew.alloc (.cells (cs++vs++us).toArray 36):=by
 obtain⟨i0,hi0,hz0,hzs,hzb⟩:=Tn;have hz1:¬((m:Int)=0):=by omega
 have mixed:Tryz.prog.follows .mixedOrders=true:=by kernel_rfl
 obtain⟨g,hg⟩:∃g,g=grownCap w (n+m) c 36:=⟨_,rfl⟩
 obtain⟨W1,hW1⟩:∃W1,W1=w.drew.alloc (.cells (cs.toArray++vs.toArray++Builtin.zeroCells (Value.agg zM.toArray).cells (g-(n+m))) 36):=⟨_,rfl⟩
 have hrun:∀ty,(Builtin.append_ #[29,29] ty #[.slice (some ⟨b,off,none⟩) n c,.slice (some ⟨vb,voff,none⟩) m vc]).run Tryz.prog w=.ok (.slice (some ⟨w.heap.size,0,none⟩) (n+m) g) W1:=λty=>by have:=Hh (P:=Tryz.prog) (w:=w) 29 ty 36 i0 _ Tryz.underlying29 hi0 hz0 (.inr ⟨b,off,rfl,hcs⟩) (.inr ⟨vb,voff,rfl,hvs⟩) n m c vc (by rw[hcl,hzs]) (by rw[hvl,hzs]) hroom (by rw[hzb];exact hbig) (by rw[hzb];decide);rw[this,hW1,hg]
 have hge:n+m<=g:=by rw[hg];exact grownCap_ge w _ _ _
 have hW:RowKit.Hid (W1=w.drew.alloc (.cells (cs.toArray++vs.toArray++Builtin.zeroCells (Value.agg zM.toArray).cells (g-(n+m))) 36)):=hW1;clear hcs hvs hvl hcl hW1 hg;refine Calls.mono (R:=λe w'=>e=.returned (.slice (some ⟨w.heap.size,0,none⟩) (n+m) g)/\w'=W1) ?_ ?_
 ·go_enter Tryz.func168,Tryz.ntmps168
  go_wp2_with (at_builtin;refine Lib.wpList_append_run _ rfl _ _ _ _ rfl _ _ rfl rfl _ _ (hrun _) ?_)
  all_goals (go_ret;exact⟨rfl,rfl⟩)
 ·rintro e w' ⟨rfl,rfl⟩;exact⟨g,(Builtin.zeroCells (Value.agg zM.toArray).cells (g-(n+m))).toList,rfl,hge,by rw[hW.out];congr 2;apply Array.ext';simp⟩
theorem jT(sb:Option Addr)(vb voff m vc:Nat)(vs:List Value)(w:World)(hm:0<m)(hbig:m*40<=140737488355328)(hvl:vs.length=m*5)(hvs:Lies w vb voff vs):Calls Tryz.prog 168 #[.slice sb 0 0,.int .i64 0,.slice (some ⟨vb,voff,none⟩) m vc] w λe w'=>∃g us,e=.returned (.slice (some ⟨w.heap.size,0,none⟩) m g)/\m<=g/\w'=w.drew.alloc (.cells (vs++us).toArray 36):=by
 obtain⟨i0,hi0,hz0,hzs,hzb⟩:=Tn;have hz1:¬((m:Int)=0):=by omega
 have mixed:Tryz.prog.follows .mixedOrders=true:=by kernel_rfl
 obtain⟨g,hg⟩:∃g,g=grownCap w (0+m) 0 36:=⟨_,rfl⟩
 obtain⟨W1,hW1⟩:∃W1,W1=w.drew.alloc (.cells (([]:List Value).toArray++vs.toArray++Builtin.zeroCells (Value.agg zM.toArray).cells (g-(0+m))) 36):=⟨_,rfl⟩
 have hrun:∀ty,(Builtin.append_ #[29,29] ty #[.slice sb 0 0,.slice (some ⟨vb,voff,none⟩) m vc]).run Tryz.prog w=.ok (.slice (some ⟨w.heap.size,0,none⟩) m g) W1:=λty=>by have:=Hh (P:=Tryz.prog) (w:=w) 29 ty 36 i0 _ Tryz.underlying29 hi0 hz0 (sb:=sb) (olds:=[]) (.inl rfl) (.inr ⟨vb,voff,rfl,hvs⟩) 0 m 0 vc (by simp) (by rw[hvl,hzs]) (by omega) (by rw[hzb,oH];exact hbig) (by rw[hzb];decide);rw[this,hW1,hg,oH]
 have hge:m<=g:=by rw[hg];exact oJ (by omega) (grownCap_ge w (0+m) 0 _)
 have hW:RowKit.Hid (W1=w.drew.alloc (.cells (([]:List Value).toArray++vs.toArray++Builtin.zeroCells (Value.agg zM.toArray).cells (g-(0+m))) 36)):=hW1;clear hvs hvl hW1 hg;refine Calls.mono (R:=λe w'=>e=.returned (.slice (some ⟨w.heap.size,0,none⟩) m g)/\w'=W1) ?_ ?_
 ·rcases sb with _|a
  ·go_enter Tryz.func168,Tryz.ntmps168
   go_wp2_with (at_builtin;refine Lib.wpList_append_run _ rfl _ _ _ _ rfl _ _ rfl rfl _ _ (hrun _) ?_)
   all_goals (go_ret;exact⟨rfl,rfl⟩)
  ·go_enter Tryz.func168,Tryz.ntmps168
   go_wp2_with (at_builtin;refine Lib.wpList_append_run _ rfl _ _ _ _ rfl _ _ rfl rfl _ _ (hrun _) ?_)
   all_goals (go_ret;exact⟨rfl,rfl⟩)
 ·rintro e w' ⟨rfl,rfl⟩;exact⟨g,(Builtin.zeroCells (Value.agg zM.toArray).cells (g-(0+m))).toList,rfl,hge,by rw[hW.out];congr 2;apply Array.ext';simp⟩
theorem dO(b off n c i vb voff m vc:Nat)(cs vs:List Value)(w:World)(hi:i<n)(hm:0<m)(hnc:n<=c)(hroom:c<n+m)(hbig:(n+m)*40<=140737488355328)(hcl:cs.length=n*5)(hvl:vs.length=m*5)(hcs:Lies w b off cs)(hvs:Lies w vb voff vs)(h1c:∀v∈cs,v.oneCell'=true)(h1v:∀v∈vs,v.oneCell'=true):Calls Tryz.prog 168 #[.slice (some ⟨b,off,none⟩) n c,.int .i64 i,.slice (some ⟨vb,voff,none⟩) m vc] w λe w'=>∃(g:Nat)(us:List Value),e=.returned (.slice (some ⟨w.heap.size,0,none⟩) (n+m) g)/\n+m<=g/\(n+m-i)*5<=us.length/\w'=(((w.alloc (.cells (cs.take (i*5)++us).toArray 36)).drew.setCells w.heap.size (i*5) vs).drew).setCells w.heap.size ((i+m)*5) (cs.drop (i*5)):=by
 have mixed:Tryz.prog.follows .mixedOrders=true:=by kernel_rfl
 obtain⟨i0,hi0,hz0,hzs,hzb⟩:=Tn;have hz1:¬((m:Int)=0):=by omega
 have hz2:¬((i:Int)=(n:Int)):=by omega
 have hz3:(c:Int)<(n:Int)+(m:Int):=by omega
 have hbw:b<w.heap.size:=block_lt_of_cell (hcs 0 _ (dQ (by omega)));have hvw:vb<w.heap.size:=block_lt_of_cell (hvs 0 _ (dQ (by omega)));have hkk:(n:Int)+(m:Int)-(i:Int)=((n+m-i:Nat):Int):=by omega
 have hik:i+(n+m-i)=n+m:=by omega
 have hold:(Builtin.firstCells i0.size i (.slice (some ⟨b,off,none⟩) i c)).run Tryz.prog w.drew=.ok (cs.take (i*5)).toArray w.drew:=by
  rw[hzs];exact run_firstCells_some w.drew 5 i ⟨b,off,none⟩ i c (cs.take (i*5)) (by rw[tH];omega) (λj v hj=>by
   rw[Addr.add_lit];rw[tK]at hj;split at hj
   ·exact hcs j v hj
   ·cases hj)
 obtain⟨G,hG⟩:∃G,G=grownCap w (n+m) c 36:=⟨_,rfl⟩
 obtain⟨us,hus⟩:∃us,us=(Builtin.zeroCells (Value.agg zM.toArray).cells (n+m-i)).toList++(Builtin.zeroCells (Value.agg zM.toArray).cells (G-(n+m))).toList:=⟨_,rfl⟩
 have hul:(n+m-i)*5<=us.length:=by rw[hus,fN,w8];simp[Builtin.zeroCells,Value.cells,zM]
 obtain⟨W1,hW1⟩:∃W1,W1=w.drew.alloc (.cells (cs.take (i*5)++us).toArray 36):=⟨_,rfl⟩
 have hrz:∀ty,(Builtin.append_ #[29,3] ty #[.slice (some ⟨b,off,none⟩) i c,.int .i64 ((n:Int)+(m:Int)-(i:Int))]).run Tryz.prog w=.ok (.slice (some ⟨w.heap.size,0,none⟩) (n+m) G) W1:=λty=>by have h:=Lib.run_append_grow_zeros w 29 3 ty 36 i0 _ .i64 .i64 Tryz.underlying29 Tryz.underlying3 hi0 hz0 (some ⟨b,off,none⟩) i c (cs.take (i*5)) hold (n+m-i) (by omega) (by omega) (by omega) (by omega) (by rw[hzb];omega) (by rw[hzb,hik];exact growslice_fits hroom hbig);rw[hik]at h;rw[hkk,h,hW1,hus,hG];congr 3;simp
 have hRl:(n+m)*5<=(cs.take (i*5)++us).toArray.size:=by rw[List.size_toArray,fN,tH,hcl];omega
 have hN:∀j,j<(n+m)*5->(W1.cell? ⟨w.heap.size,j,none⟩).isSome=true:=λj hj=>by rw[hW1,World.cell?_alloc_at (w:=w.drew) _ _ w.heap.size j rfl,eR (by omega)];rfl
 have hNf:∀j,W1.frozen? ⟨w.heap.size,j,none⟩=false:=λj=>by rw[hW1];exact World.frozen?_alloc_at (w:=w.drew) _ _ w.heap.size j rfl
 have hOb:∀j v,w.cell? ⟨b,j,none⟩=some v->W1.cell? ⟨b,j,none⟩=some v:=λj v h=>by rw[hW1,World.cell?_alloc_past (w:=w.drew) _ b j hbw];exact h
 have hOv:∀j v,w.cell? ⟨vb,j,none⟩=some v->W1.cell? ⟨vb,j,none⟩=some v:=λj v h=>by rw[hW1,World.cell?_alloc_past (w:=w.drew) _ vb j hvw];exact h
 have hcpA:∀(ρ:World),(∀x,ρ.cell? x=W1.cell? x)->(∀x,ρ.frozen? x=W1.frozen? x)->∀ty dc,(Builtin.copy_ #[29,29] ty #[.slice (some ⟨w.heap.size,i*5,none⟩) (n+m-i) dc,.slice (some ⟨vb,voff,none⟩) m vc]).run Tryz.prog ρ=.ok (goInt m) (ρ.setCells w.heap.size (i*5) vs):=λρ hWc hWf ty dc=>
  H4 ρ _ _ ty 36 w.heap.size (i*5) (n+m-i) dc ⟨vb,voff,none⟩ m vc m vs Tryz.underlying29 hi0 (by simp only[Nat.min_def];split<;>omega) (by rw[hvl,hzs])
   (λj v hj=>by rw[Addr.add_lit,hWc];exact hOv _ v (hvs j v hj))
   (λj hj=>by rw[hvl]at hj;rw[hWc];exact hN _ (by omega)) (λj hj=>by rw[hWf];exact hNf _) h1v
 have hGn:n+m<=G:=by rw[hG];exact grownCap_ge w _ _ _
 have hG63:G<=9223372036854775807:=by have:=grownCap_le_maxLen w (n+m) c 36 (by unfold maxLen;omega);rw[<-hG]at this;unfold maxLen at this;omega
 have hGi:¬(G=i):=by omega
 have hGim:¬(G=i+m):=by omega
 have hci:¬(c=i):=by omega
 have hbN:b≠w.heap.size:=by omega
 have hdl:(cs.drop (i*5)).length=(n-i)*5:=by rw[oL,hcl,Nat.sub_mul]
 have hcpB:∀(ρ:World),(∀x,ρ.cell? x=(W1.setCells w.heap.size (i*5) vs).cell? x)->(∀x,ρ.frozen? x=(W1.setCells w.heap.size (i*5) vs).frozen? x)->∀ty dc sc,(Builtin.copy_ #[29,29] ty #[.slice (some ⟨w.heap.size,(i+m)*5,none⟩) (n+m-(i+m)) dc,.slice (some ⟨b,off+i*5,none⟩) (n-i) sc]).run Tryz.prog ρ=.ok (goInt ((n-i:Nat):Int)) (ρ.setCells w.heap.size ((i+m)*5) (cs.drop (i*5))):=λρ hWc hWf ty dc sc=>
  H4 ρ _ _ ty 36 w.heap.size ((i+m)*5) (n+m-(i+m)) dc ⟨b,off+i*5,none⟩ (n-i) sc (n-i) (cs.drop (i*5)) Tryz.underlying29 hi0 (by simp only[Nat.min_def];split<;>omega) (by rw[hdl,hzs])
   (λj v hj=>by rw[Addr.add_lit,hWc,World.cell?_setCells_out _ _ _ _ _ (λh _=>absurd h hbN),rA];exact hOb _ v (hcs (i*5+j) v (by rwa [y0]at hj)))
   (λj hj=>by rw[hdl]at hj;rw[hWc];exact World.isSome_setCells _ _ _ _ _ (hN _ (by omega)))
   (λj hj=>by rw[hWf,World.frozen?_setCells];exact hNf _) (λv hv=>h1c v (z9 hv))
 refine Calls.mono (R:=λe w'=>e=.returned (.slice (some ⟨w.heap.size,0,none⟩) (n+m) G)/\w'=(((w.alloc (.cells (cs.take (i*5)++us).toArray 36)).drew.setCells w.heap.size (i*5) vs).drew).setCells w.heap.size ((i+m)*5) (cs.drop (i*5))) ?_ (λe w' hh=>⟨G,us,hh.1,hGn,hul,hh.2⟩);have hW:RowKit.Hid (W1=w.drew.alloc (.cells (cs.take (i*5)++us).toArray 36)):=hW1;obtain⟨ROW,hROW⟩:∃ROW:Array Value,ROW=(cs.take (i*5)++us).toArray:=⟨_,rfl⟩
 rw[<-hROW]at hW1⊢;subst hW1;have hE1:∀x,((w.alloc (.cells ROW 36)).drew).cell? x=(w.drew.alloc (.cells ROW 36)).cell? x:=λx=>rfl
 have hE2:∀x,((w.alloc (.cells ROW 36)).drew).frozen? x=(w.drew.alloc (.cells ROW 36)).frozen? x:=λx=>rfl
 have hF1:∀x,(((w.alloc (.cells ROW 36)).drew.setCells w.heap.size (i*5) vs).drew).cell? x=((w.drew.alloc (.cells ROW 36)).setCells w.heap.size (i*5) vs).cell? x:=λx=>rfl
 have hF2:∀x,(((w.alloc (.cells ROW 36)).drew.setCells w.heap.size (i*5) vs).drew).frozen? x=((w.drew.alloc (.cells ROW 36)).setCells w.heap.size (i*5) vs).frozen? x:=λx=>rfl
 have hw1:IntKind.i64.wrap ((i:Int)+(m:Int))=(i:Int)+(m:Int):=by rw[IntKind.wrap_i64];omega
 have hb1:(0:Int)<=(i:Int)+(m:Int):=by omega
 have hin:i<=n:=by omega
 have htn:((i:Int)+(m:Int)).toNat=i+m:=by omega
 have hb3:(i:Int)<=(n:Int):=by omega
 clear hkk hik hold hROW hG hRl hus hul hN hNf hOb hOv hdl hcs hvs h1c h1v hcl hvl hW
 go_enter Tryz.func168,Tryz.ntmps168
 go_wp2_with (first
  |(at_builtin;refine Lib.wpList_append_run _ rfl _ _ _ _ rfl _ _ rfl rfl _ _ (hrz _) ?_)
  |(at_builtin;refine wpList_copy_runI _ rfl _ _ 29 29 rfl _ _ rfl rfl (hcpA _ hE1 hE2 _ _) ?_))
 go_region_law_o (refine step_copy_runI rfl _ _ 29 29 rfl (.slice (some ⟨w.heap.size,(i+m)*5,none⟩) (n+m-(i+m)) (G-(i+m))) (.slice (some ⟨b,off+i*5,none⟩) (n-i) (c-i)) (by simp[Act.eval,Act.put]) (by simp[Act.eval,Act.put]) (hcpB _ hF1 hF2 3 (G-(i+m)) (c-i)) ?_)
 go_wp2
 go_ret
 exact⟨rfl,rfl⟩
theorem tC{rows:List (List AV)}{u d:List AV}{i:Nat}(hi:i<=rows.length)(hn:(rows.length+1)*40<=140737488355328)(hr6:∀r∈rows,r.length=5):K4 Tryz.prog 168 5 rows [.i i,.sl 5 false [u] d] (rows.take i++[u]++rows.drop i):=by
 intro U vs vals base b o cap gl hlt hr hv h1 hl hc hor;obtain⟨y1,ys1,rfl,r1,r2⟩:=hr;obtain⟨y2,ys2,rfl,r3,r4⟩:=r2;simp only[RepL]at r4;subst r4;simp only[Rep]at r1;subst r1;obtain⟨vbase,vc,us,rfl,_,_,u1,u2,_,u3,_,u4,_⟩:=LW r3;rcases u4 with u4|⟨vb,voff,rfl,⟨z1,z2,z3⟩,u5⟩
 ·cases u4
 rcases u3 with u3|⟨u3,u6⟩
 ·cases u3
 simp only[vE,Nat.one_mul]at u6;have e1:rows.flatten=(rows.take i).flatten++(rows.drop i).flatten:=by rw[<-List.flatten_append,u9]
 rw[e1]at hv;obtain⟨xs,ys,rfl,v1,v2⟩:=HP hv;have lx:xs.length=i*5:=by rw[Bs v1,LM λr hr=>hr6 r (yI hr),tH];omega
 have ly:ys.length=(rows.length-i)*5:=by rw[Bs v2,LM λr hr=>hr6 r (z9 hr),oL]
 have t1:(xs++ys).take (i*5)=xs:=by rw[<-lx,List.take_left]
 have t2:(xs++ys).drop (i*5)=ys:=by rw[<-lx,List.drop_left]
 have o1:∀v∈xs++ys,v.oneCell'=true:=λv hv=>Ow (h1 v hv)
 have o2:∀v∈us,v.oneCell'=true:=λv hv=>Ow (u2 v hv)
 have hfl:(rows.take i++[u]++rows.drop i).flatten=(rows.take i).flatten++(([u]:List (List AV)).flatten++(rows.drop i).flatten):=by simp
 have hln:(rows.take i++[u]++rows.drop i).length=rows.length+1:=by rw[fN,fN,tH,oL,vE];omega
 have fin:∀(b' o' cap':Nat)(w':World),rows.length+1<=cap'->KeptB b U.w w'->(b'=b\/U.w.heap.size<=b')->b'<w'.heap.size->Lies w' b' o' (xs++(us++ys))->∃(b'' o'' cap'':Nat)(vals':List Value),(Ending.returned (.slice (some ⟨b',o',none⟩) (rows.length+1) cap'):Ending)=.returned (.slice (some ⟨b'',o'',none⟩) (rows.take i++[u]++rows.drop i).length cap'')/\(rows.take i++[u]++rows.drop i).length<=cap''/\KeptB b U.w w'/\(b''=b\/U.w.heap.size<=b'')/\b''<w'.heap.size/\Lies w' b'' o'' vals'/\RepL U (rows.take i++[u]++rows.drop i).flatten vals'/\∀x∈vals',Bw x=true:=λb' o' cap' w' q1 q2 q3 q4 q5=>
  ⟨b',o',cap',xs++(us++ys),by rw[hln],by rw[hln];exact q1,q2,q3,q4,q5,by rw[hfl];exact Ds v1 (Ds u1 v2),λx hx=>by
   rcases fU.1 hx with hx|hx
   ·exact h1 x (by simp[hx])
   ·rcases fU.1 hx with hx|hx
    ·exact u2 x hx
    ·exact h1 x (by simp[hx])⟩
 have nd:U.w.drew.heap.size=U.w.heap.size:=rfl;rcases hor with⟨rfl,hcap,hlies,hM,cs,T,hb,hsz⟩|⟨rfl,hbz⟩
 ·have hbl:b<U.w.heap.size:=hlt b (.inl hM);have hvb:vb≠b:=λe=>z1 (e▸hM)
  have hfb:∀j,U.w.frozen? ⟨b,j,none⟩=false:=λj=>by simp[World.frozen?,hb]
  have hsome:∀j,j<cap*5->(U.w.cell? ⟨b,o+j,none⟩).isSome=true:=λj hj=>by
   have e:U.w.cell? ⟨b,o+j,none⟩=cs[o+j]? :=by simp only[World.cell?,hb];rfl
   rw[e,eR (by omega)];rfl
  by_cases hroom:rows.length+1<=cap
  ·by_cases hin:i<rows.length
   ·have hsh:∃tA kA,U.w.shape? vb=some (tA,kA)/\kA≠0:=by
     have h0:=u5 0 _ (dQ (by omega));unfold World.cell? at h0;simp only[xS]at h0;split at h0
     ·rename_i c t f hc;refine⟨t,c.size,by unfold World.shape?;rw[hc],λe=>?_⟩;simp only[z7,yF,if_false]at h0;have:=(dY.1 h0).1;omega
     ·cases h0
    obtain⟨tA,kA,hsa,hkA⟩:=hsh;have hsb:U.w.shape? b=some (T,cs.size):=by unfold World.shape?;rw[hb]
    refine(XM b o rows.length cap i vb voff 1 vc (xs++ys) us U.w hin (by omega) hroom (by omega) hvb hl (by omega) hlies (λj hj=>hsome j (by omega)) (λj _=>hfb _) u5 o1 o2 tA T kA cs.size hsa hsb hkA hfb).mono ?_;rintro e w' ⟨rfl,rfl⟩;rw[t2];obtain⟨k1,s1⟩:=KeptB.cells b ys (o+(i+1)*5) U.w.drew;obtain⟨k2,s2⟩:=KeptB.cells b us (o+i*5) (U.w.drew.setCells b (o+(i+1)*5) ys);refine fin b o cap _ hroom (((KeptB.drew b U.w).trans k1).trans k2) (.inl rfl) (by rw[s2,s1];exact hbl) ?_;have hlx:Lies U.w.drew b o xs:=hlies.left;refine((hlx.setOut (.inl (by omega))).setOut (.inl (by omega))).app ?_;rw[lx];refine(Lies.setIn λj hj=>?_).app ?_
    ·refine World.isSome_setCells b _ _ U.w.drew _ ?_;rw[rA];exact hsome _ (by omega)
    ·rw[show o+i*5+us.length=o+(i+1)*5 by omega];refine(Lies.setIn λj hj=>?_).setOut (.inr (by omega));rw[rA];exact hsome _ (by omega)
   ·obtain rfl:i=rows.length:=by omega
    have hy:ys=[]:=xW.1 (by omega);subst hy;refine(UN b o rows.length cap vb voff 1 vc us U.w (by omega) hroom (by omega) (by omega) (λj hj=>by rw[rA];exact hsome _ (by omega)) (λj _=>hfb _) u5 o2).mono ?_;rintro e w' ⟨rfl,rfl⟩;obtain⟨k1,s1⟩:=KeptB.cells b us (o+rows.length*5) U.w;refine fin b o cap _ hroom k1 (.inl rfl) (by rw[s1];exact hbl) ?_;refine(hlies.left.setOut (.inl (by omega))).app ?_;rw[lx,nA];refine Lies.setIn λj hj=>?_
    rw[rA];exact hsome _ (by omega)
  ·have hnc:rows.length=cap:=by omega
   by_cases hin:i<rows.length
   ·refine(dO b o rows.length cap i vb voff 1 vc (xs++ys) us U.w hin (by omega) hc (by omega) hn hl (by omega) hlies u5 o1 o2).mono ?_;rintro e w' ⟨g,zs,rfl,hg,hz,rfl⟩;rw[t1,t2];obtain⟨k1,s1⟩:=KeptB.cells U.w.heap.size us (i*5) (U.w.alloc (.cells (xs++zs).toArray 36)).drew;obtain⟨k2,s2⟩:=KeptB.cells U.w.heap.size ys ((i+1)*5) ((U.w.alloc (.cells (xs++zs).toArray 36)).drew.setCells U.w.heap.size (i*5) us).drew;have k0:=KeptB.alloc b U.w (.cells (xs++zs).toArray 36);have sA:(U.w.alloc (.cells (xs++zs).toArray 36)).drew.heap.size=U.w.heap.size+1:=LN _ _;have s1':((U.w.alloc (.cells (xs++zs).toArray 36)).drew.setCells U.w.heap.size (i*5) us).drew.heap.size=U.w.heap.size+1:=s1.trans sA;have s2':=s2.trans s1';have cell:∀j,j<(xs++zs).length->((U.w.alloc (.cells (xs++zs).toArray 36)).drew.cell? ⟨U.w.heap.size,j,none⟩).isSome=true:=λj hj=>by show((U.w.alloc (.cells (xs++zs).toArray 36)).cell? ⟨U.w.heap.size,j,none⟩).isSome=true;rw[World.cell?_alloc_at _ _ _ j rfl,List.getElem?_toArray,dQ hj];rfl
    have lxz:(xs++zs).length=i*5+zs.length:=by rw[fN,lx]
    refine fin U.w.heap.size 0 g _ hg ⟨λx hx hne=>?_,by rw[s2'];omega,⟨k2.io.1.trans (k1.io.1.trans k0.io.1),k2.io.2.trans (k1.io.2.trans k0.io.2)⟩⟩ (.inr (eN _)) (by rw[s2'];omega) ?_
    ·rw[k2.heap x (by rw[s1'];omega) (by omega)];refine(k1.heap x (by rw[sA];omega) (by omega)).trans ?_;exact k0.heap x hx hne
    ·have hx0:Lies (U.w.alloc (.cells (xs++zs).toArray 36)).drew U.w.heap.size 0 xs:=by intro j v hj;show(U.w.alloc (.cells (xs++zs).toArray 36)).cell? ⟨U.w.heap.size,0+j,none⟩=some v;rw[World.cell?_alloc_at _ _ _ (0+j) rfl,oH,List.getElem?_toArray,tY (fO.1 hj).1];exact hj
     have hx1:Lies ((U.w.alloc (.cells (xs++zs).toArray 36)).drew.setCells U.w.heap.size (i*5) us).drew U.w.heap.size 0 xs:=hx0.setOut (.inl (by omega));have hu1:Lies ((U.w.alloc (.cells (xs++zs).toArray 36)).drew.setCells U.w.heap.size (i*5) us).drew U.w.heap.size (i*5) us:=Lies.setIn λj hj=>cell _ (by omega)
     refine(hx1.setOut (.inl (by omega))).app ?_;rw[lx,oH];refine(hu1.setOut (.inl (by omega))).app ?_;rw[show i*5+us.length=(i+1)*5 by omega];refine Lies.setIn λj hj=>?_
     exact World.isSome_setCells _ _ _ _ _ (cell _ (by omega))
   ·obtain rfl:i=rows.length:=by omega
    have hy:ys=[]:=xW.1 (by omega);subst hy;rw[nA]at hlies hl;refine(UO b o rows.length cap vb voff 1 vc xs us U.w (by omega) hc (by omega) hn hl (by omega) hlies u5).mono ?_;rintro e w' ⟨g,zs,rfl,hg,rfl⟩;refine fin U.w.heap.size 0 g _ hg ((KeptB.drew b U.w).trans (KeptB.alloc b U.w.drew _)) (.inr (eN _)) (by rw[LN];exact EJ _) ?_;rw[nA];exact(MS U.w.drew U.w.heap.size rfl (xs++us++zs) _).left
 ·have h0:rows=[]:=xW.1 (by omega);subst h0;have hi0:i=0:=by simpa using hi
  subst hi0;have hx0:xs=[]:=xW.1 (by omega);have hy0:ys=[]:=xW.1 (by rw[ly,t8]);subst hx0;subst hy0;refine(jT base vb voff 1 vc us U.w (by omega) hn (by omega) u5).mono ?_;rintro e w' ⟨g,zs,rfl,hg,rfl⟩;refine fin U.w.heap.size 0 g _ hg ((KeptB.drew b U.w).trans (KeptB.alloc b U.w.drew _)) (.inr (eN _)) (by rw[LN];exact EJ _) ?_;rw[nA,kN];exact(MS U.w.drew U.w.heap.size rfl (us++zs) _).left
