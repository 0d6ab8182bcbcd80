import Derived.Test.YtciphecegkfaiaaGreatNA
import Derived.Test.YtciphecegkfaiaaGreatMF
import Derived.Test.YtciphecegkfaiaaGreatMQ
import Derived.Test.YtciphecegkfaiaaGreatL7
namespace Go.Proofs.YtciphecegkfaiaaGreat.Am
set_option linter.unusedSimpArgs false
set_option linter.unusedVariables false
set_option linter.unusedSectionVars false
theorem Aa9 (f P:Tr3):evL (ngT f) P= -evL f P:=by unfold evL ngT;simp only;grind
theorem Aaf (f:Tr3→Int):∀Ls:List Tr3,∃k,0<k∧∀L∈Ls,-f L≤k
 |[]=>⟨1,by omega,by simp⟩
 |L::Ls=>by
  obtain⟨k,k0,hk⟩:=Aaf f Ls
  refine⟨max k (-f L),by omega,fun M hM=> ?_⟩
  rcases List.mem_cons.1 hM with rfl|hM
  ·omega
  ·have:=hk M hM;omega
theorem AaH {l b A:List Pt} (hl:VP l) (hb:VP b) (hA:VP A) (hs:∀p∈A,p∈l) (h:apart l b):apart A b:=by
 rcases h with⟨j,hj,hsep⟩|⟨j,hj,hsep⟩
 ·refine Classical.byContradiction fun hn=> ?_
  obtain⟨P,hw,hP⟩:=Zf hA hb hn
  have hf:=QY hl hj
  have Ab1:0≤evL (eLn l j) P:=by
   have:=Wp hA (f:=ngT (eLn l j)) (P:=P) (by unfold ngT;simp only;omega) (fun q hq=>by
    rw[Aa9,Id]
    have:=KZ hl hj (hs q hq)
    omega) ⟨hw,fun L hL=>Int.le_of_lt (hP L (List.mem_append_left _ hL))⟩
   rw[Aa9] at this
   omega
  obtain⟨k,k0,hk⟩:=Aaf (fun L=>dv L ((eLn l j).1,(eLn l j).2.1)) (AS b)
  have up:evL (eLn l j) (NS k P 1 ((eLn l j).1,(eLn l j).2.1))≤0:=Wp hb hf (fun q hq=>by rw[Id];exact hsep q hq) ⟨Int.mul_pos k0 hw,fun L hL=>by
   rw[MF]
   have h1:=hP L (List.mem_append_right _ hL)
   have h2: -dv L ((eLn l j).1,(eLn l j).2.1)≤k:=hk L hL
   have h3:k*1≤k*evL L P:=Int.mul_le_mul_of_nonneg_left (by omega) (by omega)
   omega⟩
  rw[MF] at up
  have h3:0≤k*evL (eLn l j) P:=Int.mul_nonneg (by omega) Ab1
  have h4:0<dv (eLn l j) ((eLn l j).1,(eLn l j).2.1):=by
   unfold dv
   simp only
   rcases hf with hf|hf
   ·have h1:0<(eLn l j).1*(eLn l j).1:=by
     rcases Int.lt_or_gt_of_ne hf with g|g
     ·exact Int.mul_pos_of_neg_of_neg g g
     ·exact Int.mul_pos g g
    have h2:0≤(eLn l j).2.1*(eLn l j).2.1:=by
     by_cases g:0≤(eLn l j).2.1
     ·exact Int.mul_nonneg g g
     ·exact Int.le_of_lt (Int.mul_pos_of_neg_of_neg (by omega) (by omega))
    omega
   ·have h1:0<(eLn l j).2.1*(eLn l j).2.1:=by
     rcases Int.lt_or_gt_of_ne hf with g|g
     ·exact Int.mul_pos_of_neg_of_neg g g
     ·exact Int.mul_pos g g
    have h2:0≤(eLn l j).1*(eLn l j).1:=by
     by_cases g:0≤(eLn l j).1
     ·exact Int.mul_nonneg g g
     ·exact Int.le_of_lt (Int.mul_pos_of_neg_of_neg (by omega) (by omega))
    omega
  omega
 ·exact .inr ⟨j,hj,fun p hp=>hsep p (hs p hp)⟩
def isK (s t:Int) (c:Con):Bool:=decide (c.1=s)&&decide (c.2.1=t)
theorem Aag (N:Nat) {cs:List Con} (hc:cs.length≤1000) {l:List Pt} {i k:Nat} (hi:i<l.length) (hk:k<l.length) (hik:((i:Int)+2).tmod (l.length:Int)=(k:Int)) {p q:Int} (hall:∀c∈cs,isK 80 90 c=true→c=(80,90,(pa l i,pa l k),p,q)):∀n j (fo:Int),j≤cs.length→cs.length<n+j→(0≤fo∧fo≤j)→
  wD N cs l i p q n fo (j:Nat)=some (.inl (fo+(((cs.drop j).filter (isK 80 90)).length:Nat)))
 |0,j,fo,h1,h2,_=>by omega
 |n+1,j,fo,h1,h2,h3=>by
  rw[wD]
  by_cases e:j=cs.length
  ·subst e;rw[dge,cF,List.drop_length];simp
  ·have hj:j<cs.length:=by omega
   have ih:=fun fo=>Aag N hc hi hk hik hall n (j+1) fo (by omega) (by omega)
   have ha:=hall _ (List.getElem_mem hj)
   rw[dlt hj,cT,Tq,List.getElem?_eq_getElem hj,bS,List.drop_eq_getElem_cons hj,List.filter_cons]
   generalize cs[j]=c at ha⊢
   obtain⟨c1,c2,⟨⟨c3,c4⟩,c5,c6⟩,c7,c8⟩:=c
   simp only
   by_cases g:isK 80 90 (c1,c2,((c3,c4),c5,c6),c7,c8)=true
   ·have g':(decide (c1=80)&&decide (c2=90))=true:=g
    have he:=ha g
    simp only[Prod.mk.injEq] at he
    obtain⟨e1,e2,⟨e3,e4⟩,e5,e6⟩:=he
    have e3':=congrArg Prod.fst e3
    have e3'':=congrArg Prod.snd e3
    have e4':=congrArg Prod.fst e4
    have e4'':=congrArg Prod.snd e4
    simp only at e3' e3'' e4' e4''
    rw[cT' _ g',Ab (by unfold I64;omega),C5 hi,bS]
    simp only
    rw[hik,C5 hk,bS]
    simp only
    rw[cF' _ (by rw[decide_eq_true e1,decide_eq_true e2,decide_eq_true e3',decide_eq_true e3'',decide_eq_true e4',decide_eq_true e4'',decide_eq_true e5,decide_eq_true e6];rfl),Ab (by unfold I64;omega),←ns,ih _ (by omega),if_pos g,List.length_cons]
    congr 2
    omega
   ·have g':(decide (c1=80)&&decide (c2=90))=false:=by rw[Bool.eq_false_iff];exact g
    rw[cF' _ g',Ab (by unfold I64;omega),←ns,ih _ (by omega),if_neg g]
theorem Aao {α:Type} {l:List α} {P:α→Bool} (hn:l.Nodup) {c:α} (hc:c∈l) (hp:P c=true) (hu:∀d∈l,P d=true→d=c):(l.filter P).length=1:=by
 have h1:(l.filter P).Nodup:=hn.filter P
 have h2:c∈l.filter P:=List.mem_filter.2 ⟨hc,hp⟩
 have h3:∀d∈l.filter P,d=c:=fun d hd=>hu d (List.mem_filter.1 hd).1 (List.mem_filter.1 hd).2
 match hm:l.filter P with
 |[]=>rw[hm] at h2;cases h2
 |[_]=>rfl
 |a::b::t=>
  rw[hm] at h1 h3
  have ea:=h3 a (by simp)
  have eb:=h3 b (by simp)
  rw[ea,eb] at h1
  simp at h1
theorem AbG {n i:Nat} (hi:i<n) (hn:4≤n):¬(i=(i+2)%n∨(i+1)%n=(i+2)%n∨((i+2)%n+1)%n=i):=by
 by_cases a:i+2<n
 ·rw[Nat.mod_eq_of_lt a,Nat.mod_eq_of_lt (show i+1<n by omega)]
  by_cases b:i+2+1<n
  ·rw[Nat.mod_eq_of_lt b];omega
  ·rw[show i+2+1=n by omega,Nat.mod_self];omega
 ·by_cases b:i+2=n
  ·rw[b,Nat.mod_self,Nat.mod_eq_of_lt (show i+1<n by omega),Nat.mod_eq_of_lt (show 0+1<n by omega)];omega
  ·rw[show i+2=n+1 by omega,Nat.add_mod_left,Nat.mod_eq_of_lt (show 1<n by omega),show i+1=n by omega,Nat.mod_self,Nat.mod_eq_of_lt (show 1+1<n by omega)];omega
open Classical in
theorem AaI (x:List (Int×Int×Int×Int×Int×Int)) (which corner:Int) (hx:I6 x) (h1:I64 which) (h2:I64 corner):wF 2000 x which corner=some true:=by
 unfold wF
 have hy:I6 (x.take ((min (x.length:Int) 11).toNat-0)):=fun r hr=>hx r (List.mem_of_mem_take hr)
 have yl:(x.take ((min (x.length:Int) 11).toNat-0)).length≤11:=by rw[List.length_take];omega
 rw[jI,bS,cF' _ (by rfl),Ab (by omega)]
 generalize x.take ((min (x.length:Int) 11).toNat-0)=y at hy yl⊢
 obtain⟨f,hf,fr⟩:=yP (N:=2000) (by omega) hy
 have fv:=fr.fv
 have fl:=fr.len
 have fid:∀u∈f,u.1<36:=fun u hu=>by have:=fr.ids u hu;omega
 rw[hf,bS]
 by_cases h0:f.length=0
 ·rw[cT' _ (decide_eq_true (by omega))]
 obtain⟨w,ew,hw⟩:=xP (show 0<f.length by omega) which
 have mu:=FO hw
 have uv:=fv.val _ mu
 rw[cF' _ (decide_eq_false (by omega)),lpk h1 (by omega),bS,ew,GC hw,bS]
 simp only
 have fr1:=zP fv mu
 have ir:=yH fv mu
 generalize uat f w=u at mu uv fr1 ir⊢
 have hv:=uv.l
 have l3:=hv.l3
 have l8:=hv.l8
 have pc:= @HW corner (u.2.2.2.1.length:Int) (by omega)
 obtain⟨i,ei⟩:∃i:Nat,pk corner (u.2.2.2.1.length:Int)=i:=⟨(pk corner (u.2.2.2.1.length:Int)).toNat,by omega⟩
 rw[ei] at pc
 have hi:i<u.2.2.2.1.length:=by omega
 have tm:((i:Int)+2).tmod (u.2.2.2.1.length:Int)=(((i+2)%u.2.2.2.1.length:Nat):Int):=by
  rw[Int.tmod_eq_emod_of_nonneg (by omega),show(i:Int)+2=((i+2:Nat):Int) by omega,←Int.natCast_emod]
 have hk:(i+2)%u.2.2.2.1.length<u.2.2.2.1.length:=Nat.mod_lt _ (by omega)
 have n1:=AbF hi hk l3
 rw[lpk h2 (by omega),bS,ei,Ab (by unfold I64;omega),Ab (by omega),tm,Abb (by omega) hv hi hk]
 by_cases t3:u.2.2.2.1.length=3
 ·have ec:tP u.2.2.2.1 i ((i+2)%u.2.2.2.1.length)=([],[],70):=if_pos (n1.1 (.inr (.inr (by rw[t3,Nat.mod_add_mod];omega))))
  rw[ec,bS]
  simp only
  rw[cT' _ (decide_eq_true (by omega))]
  rfl
 have nn:=AbG hi (show 4≤u.2.2.2.1.length by omega)
 have hc:¬(stp u.2.2.2.1.length i ((i+2)%u.2.2.2.1.length)<2∨stp u.2.2.2.1.length ((i+2)%u.2.2.2.1.length) i<2):=fun q=>nn (n1.2 q)
 have hne:i≠(i+2)%u.2.2.2.1.length:=fun q=>nn (.inl q)
 have ec:tP u.2.2.2.1 i ((i+2)%u.2.2.2.1.length)=(arc u.2.2.2.1 i (stp u.2.2.2.1.length i ((i+2)%u.2.2.2.1.length)),arc u.2.2.2.1 ((i+2)%u.2.2.2.1.length) (stp u.2.2.2.1.length ((i+2)%u.2.2.2.1.length) i),0):=if_neg hc
 have C:=Abr hv hi hk (by omega) (by omega)
 have su:=(AaR u.2.2.2.1 hi hk hne).1
 have hsum:=yG hi hk hne
 rw[ec,bS]
 simp only
 generalize (i+2)%u.2.2.2.1.length=k at*
 generalize stp u.2.2.2.1.length i k=m at*
 generalize stp u.2.2.2.1.length k i=m' at*
 have va:=sJ hv (i:=i) C.hm (by omega)
 have vb:=sJ hv (i:=k) C.hm' (by omega)
 have hap:=Aau C
 have hseam:=AaT C
 have sub1:∀x∈arc u.2.2.2.1 i m,x∈u.2.2.2.1:=fun x hx=>aY (by omega) hx
 have D7:∀x∈arc u.2.2.2.1 k m',x∈u.2.2.2.1:=fun x hx=>aY (by omega) hx
 rw[HX hk,HX hi] at hseam
 generalize arc u.2.2.2.1 i m=A at*
 generalize arc u.2.2.2.1 k m'=B at*
 have w1:=uv.d
 obtain⟨one,e1⟩:∃one:Un,one=(90,u.2.1,u.2.2.1,A,u.2.2.2.2.1,u.2.2.2.2.2):=⟨_,rfl⟩
 obtain⟨two,e2⟩:∃two:Un,two=(80,u.2.1,u.2.2.1,B,u.2.2.2.2.1,u.2.2.2.2.2):=⟨_,rfl⟩
 have i1:one.1=90:=by rw[e1]
 have i2:two.1=80:=by rw[e2]
 have v1:UV one:=by rw[e1];exact⟨by simp only;omega,uv.b,uv.c,uv.d,va⟩
 have v2:UV two:=by rw[e2];exact⟨by simp only;omega,uv.b,uv.c,uv.d,vb⟩
 have part:∀{A:List Pt} {t:Un},VP A→(∀p∈A,p∈u.2.2.2.1)→t.2.2.2=(A,u.2.2.2.2)→UV t→∀v,ovB u v=false→ovB t v=false:=fun {A t} hA hs et ht v ho=>by
  rw[Bool.eq_false_iff] at ho⊢
  intro q
  obtain⟨⟨q1,q2,q3⟩,q4⟩:=UX.1 q
  have AbT:t.2.2.2.1=A:=by rw[et]
  have ep:t.2.2.2.2.1=u.2.2.2.2.1:=by rw[et]
  have eq':t.2.2.2.2.2=u.2.2.2.2.2:=by rw[et]
  rw[ep,eq'] at q1
  rw[AbT] at q4
  exact ho (UX.2 ⟨⟨q1,uv,q3⟩,fun a=>q4 (AaH uv.l q3.l hA hs a)⟩)
 have lid:∀v∈jC f u.1,v.1<36:=fun v hv=>fid v (List.mem_filter.1 hv).1
 have ll:(jC f u.1).length+1=f.length:=by have:=xA fr1;rw[ir] at this;omega
 have ft1:Fit (jC f u.1) one:=⟨fr1.hf,v1,fr1.hl,fun v hv=>by have:=lid v hv;omega,fun v hv=>part va sub1 (by rw[e1]) v1 v (fr1.ho v hv)⟩
 have l1:=xA ft1
 have ft2:Fit (ML (jC f u.1) one) two:=⟨ft1.fv,v2,by omega,fun v hv=>by
  rcases wH.1 hv with q|q
  ·have:=lid v q;omega
  ·rw[q];omega,fun v hv=>by
  rcases wH.1 hv with q|q
  ·exact part vb D7 (by rw[e2]) v2 v (fr1.ho v q)
  ·rw[q,Bool.eq_false_iff]
   intro r
   refine(UX.1 r).2 ?_
   rw[e1,e2]
   exact hap.symm⟩
 have l2:=xA ft2
 have gv:=ft2.fv
 have vo:wL (ML (ML (jC f u.1) one) two)=wL f:=by
  rw[xM ft2,xM ft1,←ir,xM fr1,ir]
  have:wK one+wK two=wK u:=by
   rw[e1,e2]
   unfold wK
   simp only
   rw[←su,←Int.add_mul]
  omega
 have ht:tcO two one=some (80,90,(pa u.2.2.2.1 i,pa u.2.2.2.1 k),u.2.2.2.2.1,u.2.2.2.2.2):=by
  have h3:tcO one two=some (90,80,(pa u.2.2.2.1 k,pa u.2.2.2.1 i),u.2.2.2.2.1,u.2.2.2.2.2):=by
   have:=AaM (u:=one) (v:=two) (s:=(pa u.2.2.2.1 k,pa u.2.2.2.1 i)) (by rw[e1,e2];exact hseam) (by rw[e1,e2];exact hap) (by rw[e1,e2];simp only;omega)
   rw[this,e1,e2]
   simp only
   rw[Int.max_self,Int.min_self]
  exact wM v1 v2 h3
 have mem:(80,90,(pa u.2.2.2.1 i,pa u.2.2.2.1 k),u.2.2.2.2.1,u.2.2.2.2.2)∈tY (ML (ML (jC f u.1) one) two):=(xI gv).2 (.inr ⟨two,wH.2 (.inr rfl),one,wH.2 (.inl (wH.2 (.inr rfl))),by omega,ht⟩)
 have hall:∀c∈tY (ML (ML (jC f u.1) one) two),isK 80 90 c=true→c=(80,90,(pa u.2.2.2.1 i,pa u.2.2.2.1 k),u.2.2.2.2.1,u.2.2.2.2.2):=fun c hc hq=>by
  unfold isK at hq
  rw[Bool.and_eq_true,decide_eq_true_eq,decide_eq_true_eq] at hq
  exact AaO gv hc mem hq.1 hq.2
 have nd:(tY (ML (ML (jC f u.1) one) two)).Nodup:=(uM gv.srt gv.id0).imp fun {a b} h e=>by subst e;unfold ltK at h;omega
 have L:=Aag 2000 (wN gv) hi hk tm hall 2000 0 0 (by omega) (by have:=wN gv;omega) (by omega)
 rw[Int.natCast_zero,List.drop_zero,Aao nd mem (by rfl) hall] at L
 have a1:=tJ (N:=2000) (by omega) (jC f u.1) one
 have a2:=tJ (N:=2000) (by omega) (ML (jC f u.1) one) two
 rw[if_pos ft1] at a1
 rw[if_pos ft2] at a2
 have hlen:((ML (ML (jC f u.1) one) two).length:Int)=(f.length:Int)+1:=by omega
 rw[e1] at a1 ft2 gv vo L a2 hlen
 rw[e2] at a2 gv vo L hlen
 simp only at a1 a2
 rw[cF' _ (decide_eq_false (by omega)),tT (by omega),if_pos ⟨fv,_,mu,rfl⟩,bS]
 simp only
 rw[a1,bS]
 simp only
 rw[a2,bS]
 simp only
 rw[yK (by omega) gv,yK (by omega) fv,EO (fun _=>Option.isSome_some),EO (fun _=>Option.isSome_some),EO (fun _=>by unfold I64;omega),Option.getD_some,Option.getD_some,vo,cF',vR (by omega),if_pos gv,bS,L,bS]
 ·rfl
 ·rw[hlen,decide_eq_false (show¬wL f≠wL f by simp),decide_eq_false (show¬((f.length:Int)+1≠(f.length:Int)+1) by simp)]
  rfl
end Go.Proofs.YtciphecegkfaiaaGreat.Am
