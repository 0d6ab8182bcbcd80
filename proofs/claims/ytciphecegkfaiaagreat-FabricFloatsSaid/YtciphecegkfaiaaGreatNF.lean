import Derived.Test.YtciphecegkfaiaaGreatNG
import Derived.Test.YtciphecegkfaiaaGreatNR
import Derived.Test.YtciphecegkfaiaaGreatL6
namespace Go.Proofs.YtciphecegkfaiaaGreat.Am
set_option linter.unusedSimpArgs false
set_option linter.unusedVariables false
set_option linter.unusedSectionVars false
theorem xB {f:List Un} (h:FV f) {e:Int×Int}:e∈wU f↔∃u∈f,∃v∈f,u.1<v.1∧(tcO u v).isSome=true∧e=(u.1,v.1):=by
 unfold wU edg
 rw[List.mem_filterMap]
 constructor
 ·rintro⟨c,hc,k⟩
  obtain⟨d,hd,rfl⟩:=List.mem_map.1 hc
  split at k
  ·cases k
  ·rename_i g
   obtain rfl:=yJ k
   rcases(xI h).1 hd with⟨u,hu,q⟩|⟨u,hu,v,hv,hlt,q⟩
   ·exact absurd (uU q).2 g
   ·have kk:=tZ q
    exact⟨u,hu,v,hv,hlt,by rw[q];rfl,Prod.ext kk.1 kk.2⟩
 ·rintro⟨u,hu,v,hv,hlt,q,rfl⟩
  obtain⟨c,hc⟩:=yX q
  have kk:=tZ hc
  have:=h.id0 v hv
  refine⟨SA c,List.mem_map_of_mem ((xI h).2 (.inr ⟨u,hu,v,hv,hlt,hc⟩)), ?_⟩
  have k1:(SA c).1=u.1:=kk.1
  have k2:(SA c).2.1=v.1:=kk.2
  rw[k1,k2,if_neg (by omega)]
theorem Aa0 {f g:List Un} (hf:FV f) (hg:FV g) (hs:∀u∈f,u∈g) {e:Int×Int} (he:e∈wU f):e∈wU g:=by
 obtain⟨u,hu,v,hv,r⟩:=(xB hf).1 he
 exact(xB hg).2 ⟨u,hs u hu,v,hs v hv,r⟩
theorem Abj {f:List Un} (h:FV f) {R:Int→Int} (hR:GR (wB f) (wU f) R) {u v:Un} (hu:u∈f) (hv:v∈f) (ht:(tcO u v).isSome=true):R u.1=R v.1:=by
 by_cases c1:u.1<v.1
 ·exact hR.edge (u.1,v.1) ((xB h).2 ⟨u,hu,v,hv,c1,ht,rfl⟩)
 by_cases c2:v.1<u.1
 ·obtain⟨c,hc⟩:=yX ht
  exact(hR.edge (v.1,u.1) ((xB h).2 ⟨v,hv,u,hu,c2,by rw[wM (h.val u hu) (h.val v hv) hc];rfl,rfl⟩)).symm
 ·rw[show u.1=v.1 by omega]
theorem Aaa {f g:List Un} (hf:FV f) (hg:FV g) (hs:∀u∈f,u∈g) {R R':Int→Int} (hR:GR (wB f) (wU f) R) (hR':GR (wB g) (wU g) R') {x:Int} (hx:x∈wB f) (h:gdn f R (R x)):gdn g R' (R' x):=by
 obtain⟨u,hu,u1,u2⟩:=h
 exact⟨u,hs u hu,u1,hR.mono hR' (fun e he=>Aa0 hf hg hs he) (List.mem_map_of_mem hu) hx u2⟩
theorem yA {N:Nat} {l:List Int} (hl:l.length<N) (hN:N≤100000) (t:Int):Dq N l t=some (decide (t∈l)):=by
 have F:=GB (L:=FG N l t) (len:=l.length) (fun k=>if l.getD k 0=t then some true else none) (fun n k hk e=> ?_) (fun n k r hk e=> ?_) (fun n=> ?_) N (by omega)
 ·unfold Dq
  rcases F with⟨e,h⟩|⟨j,r,hj,h,_,e⟩
  ·rw[e,bS]
   simp only
   rw[decide_eq_false]
   intro hm
   obtain⟨k,hk,q⟩:=List.mem_iff_getElem.1 hm
   have:=h k hk
   rw[List.getD_eq_getElem?_getD,List.getElem?_eq_getElem hk,Option.getD_some,if_pos q] at this
   cases this
  ·rw[e,bS]
   simp only
   rw[List.getD_eq_getElem?_getD,List.getElem?_eq_getElem hj,Option.getD_some] at h
   by_cases c:l[j]=t
   ·rw[if_pos c] at h;cases h
    rw[decide_eq_true (by rw[←c];exact List.getElem_mem hj)]
   ·rw[if_neg c] at h;cases h
 ·rw[List.getD_eq_getElem?_getD,List.getElem?_eq_getElem hk,Option.getD_some] at e
  by_cases c:l[k]=t
  ·rw[if_pos c] at e;cases e
  ·rw[FG,dlt hk,cT,Tq,List.getElem?_eq_getElem hk,bS,cF' _ (decide_eq_false c),Ab (by unfold I64;omega),ns]
 ·rw[List.getD_eq_getElem?_getD,List.getElem?_eq_getElem hk,Option.getD_some] at e
  by_cases c:l[k]=t
  ·rw[if_pos c] at e;cases e
   rw[FG,dlt hk,cT,Tq,List.getElem?_eq_getElem hk,bS,cT' _ (decide_eq_true c)]
  ·rw[if_neg c] at e;cases e
 ·rw[FG,dge,cF]
open Classical in
noncomputable def stB (f:List Un) (x:Int):Bool:=decide (∃u∈f,u.1=x∧(stO u).isSome=true)
theorem Aa1 {g:List Int} (hs:g.Pairwise fun a b=>a<b) {r:Int} (hr:r∈g) (hle:∀x∈g,r≤x):g.getD 0 0=r:=by
 cases g with
 |nil=>cases hr
 |cons y t=>
  rw[List.pairwise_cons] at hs
  show y=r
  have:=hle y List.mem_cons_self
  rcases List.mem_cons.1 hr with e|e
  ·exact e.symm
  ·have:=hs.1 r e;omega
section
variable {N:Nat} (hN:1001≤N) (hN2:N≤100000) {f:List Un} (h:FV f) {R:Int→Int} (hR:GR (wB f) (wU f) R) {g:List Int} {r:Int}
include hN hN2 h hR
theorem AaA (hl:g.length≤100) (hg:∀y∈wB f,R y=r→y∈g) {u:Un} (hu:u∈f) (hr:R u.1=r):∀n i,i≤f.length→f.length<n+i→DH N f u.1 u.2.1 u.2.2.1 u.2.2.2.1 u.2.2.2.2.1 u.2.2.2.2.2 g n (i:Nat)=some (.inl ())
 |0,i,h1,h2=>by omega
 |n+1,i,h1,h2=>by
  have hlen:=h.len
  rw[DH]
  by_cases e:i=f.length
  ·subst e;rw[dge,cF]
  ·have hi:i<f.length:=by omega
   have ih:=AaA hl hg hu hr n (i+1) (by omega) (by omega)
   have hv:=FO hi
   rw[dlt hi,cT,GC hi,bS]
   simp only
   rw[vS hN (h.val u hu) (h.val _ hv),bS,yA (by omega) hN2]
   cases ht:tcO u (uat f i) with
   |none=>
    simp only[kD]
    rw[EO (fun h=>by cases h),cF' _ (by rfl),Ab (by unfold I64;omega),←ns]
    exact ih
   |some c=>
    obtain⟨c1,c2,⟨⟨c3,c4⟩,c5,c6⟩,c7,c8⟩:=c
    have:=Abj h hR hu hv (by rw[ht];rfl)
    simp only
    rw[EO (fun _=>Option.isSome_some),Option.getD_some,decide_eq_true (hg _ (List.mem_map_of_mem hv) (by rw[←this];exact hr)),cF' _ (by rfl),Ab (by unfold I64;omega),←ns]
    exact ih
omit hN hN2 hR in
theorem AaB {u:Un} (hu:u∈f):stB f u.1=(stO u).isSome:=by
 unfold stB
 obtain⟨j,hj,rfl⟩:=MI hu
 rw[Bool.eq_iff_iff,decide_eq_true_eq]
 constructor
 ·rintro⟨v,hv,e,k⟩
  obtain⟨i,hi,rfl⟩:=MI hv
  rw[←h.uniq hi hj e];exact k
 ·exact fun k=>⟨_,hu,rfl,k⟩
theorem AaC (hl:g.length≤100) (hs:g.Pairwise fun a b=>a<b) (hin:∀y∈g,y∈wB f∧R y=r) (hg:∀y∈wB f,R y=r→y∈g):∀n k (many:Int) (gr:Bool),k≤g.length→g.length<n+k→(0≤many∧many+(g.length-k)≤1000000)→
  DI N g f n many gr (k:Nat)=some (.inl (many+((g.length-k:Nat):Int),gr||(g.drop k).any (stB f)))
 |0,k,many,gr,h1,h2,_=>by omega
 |n+1,k,many,gr,h1,h2,h3=>by
  have hlen:=h.len
  rw[DI]
  by_cases e:k=g.length
  ·subst e;rw[dge,cF,List.drop_length,Nat.sub_self];simp
  ·have hk:k<g.length:=by omega
   have ih:=fun gr=>AaC hl hs hin hg n (k+1) (many+1) gr (by omega) (by omega) (by omega)
   obtain⟨m1,m2⟩:=hin _ (List.getElem_mem hk)
   obtain⟨u,hu,eu⟩:=List.mem_map.1 m1
   obtain⟨j,hj,rfl⟩:=MI hu
   have hasc:0<k→g.getD (k-1) 0<g[k]:=fun h0=>by
    rw[List.getD_eq_getElem?_getD,List.getElem?_eq_getElem (by omega)]
    exact List.pairwise_iff_getElem.1 hs (k-1) k (by omega) hk (by omega)
   have em:(max ((k:Int)-1) 0).toNat=k-1:=by omega
   have ec:many+1+((g.length-(k+1):Nat):Int)=many+((g.length-k:Nat):Int):=by omega
   have AbQ:=AaA hN hN2 h hR hl hg hu (by rw[eu];exact m2) N 0 (by omega) (by omega)
   rw[Int.natCast_zero] at AbQ
   rw[dlt hk,cT,Tq,List.getElem?_eq_getElem hk,bS,em,List.drop_eq_getElem_cons hk,List.any_cons]
   rw[ec] at ih
   generalize g[k]=x at m1 m2 eu hasc⊢
   subst eu
   have hf:Q2 f (uat f j).1=(uat f j,true):=by unfold Q2;rw[if_pos h,TF h hj]
   rw[tH hN,hf,bS]
   simp only
   rw[vL (by omega) (h.val _ hu),bS,AbQ,AaB h hu]
   have cond:((!true)||((decide (0<(k:Int)))&&(decide ((uat f j).1≤g.getD (k-1) 0))))=false:=by
    rw[Bool.not_true,Bool.false_or,Bool.and_eq_false_iff,decide_eq_false_iff_not,decide_eq_false_iff_not]
    by_cases k0:0<k
    ·have:=hasc k0;exact .inr (by omega)
    ·exact .inl (by omega)
   cases hs:stO (uat f j) with
   |none=>
    simp only[kD]
    rw[Ab (by unfold I64;omega),EO (fun _=>by unfold I64;omega),EO (fun h=>by rw[decide_eq_true_eq] at h;omega),cF' _ cond,bS]
    simp only
    rw[Ab (by unfold I64;omega),←ns,ih,Bool.or_false]
    rfl
   |some c=>
    obtain⟨c1,c2,⟨⟨c3,c4⟩,c5,c6⟩,c7,c8⟩:=c
    simp only
    rw[Ab (by unfold I64;omega),EO (fun _=>by unfold I64;omega),EO (fun h=>by rw[decide_eq_true_eq] at h;omega),cF' _ cond,bS]
    simp only
    rw[Ab (by unfold I64;omega),←ns,ih]
    rw[Option.isSome_some,Bool.true_or,Bool.or_true,Bool.true_or]
omit hN h hR in
theorem AaD {fl:List Int} (hl:fl.length<N) (hg:g.length≤100) (b:Bool) (hb:∀y∈g,decide (y∈fl)= !b):∀n k,k≤g.length→g.length<n+k→DJ N g fl b n (k:Nat)=some (.inl ())
 |0,k,h1,h2=>by omega
 |n+1,k,h1,h2=>by
  rw[DJ]
  by_cases e:k=g.length
  ·subst e;rw[dge,cF]
  ·have hk:k<g.length:=by omega
   rw[dlt hk,cT,Tq,List.getElem?_eq_getElem hk,bS,yA hl hN2,bS,hb _ (List.getElem_mem hk),cF' _ (by cases b<;>rfl),Ab (by unfold I64;omega),←ns]
   exact AaD hl hg b hb n (k+1) (by omega) (by omega)
end
theorem Aab (a:Int):∀{q:List Int},q.Nodup→(q.map fun r=>if a=r then(1:Nat) else 0).sum=if a∈q then 1 else 0
 |[],_=>by simp
 |r::q,h=>by
  rw[List.nodup_cons] at h
  rw[List.map_cons,List.sum_cons,Aab a h.2]
  by_cases e:a=r
  ·rw[if_pos e,if_neg (by rw[e];exact h.1),if_pos (by rw[e];exact List.mem_cons_self)]
  ·rw[if_neg e,Nat.zero_add]
   by_cases k:a∈q
   ·rw[if_pos k,if_pos (List.mem_cons_of_mem _ k)]
   ·rw[if_neg k,if_neg fun q=>k ((List.mem_cons.1 q).resolve_left e)]
theorem zG {α:Type} (f g:α→Nat):∀q:List α,(q.map fun r=>f r+g r).sum=(q.map f).sum+(q.map g).sum
 |[]=>rfl
 |r::q=>by rw[List.map_cons,List.sum_cons,zG f g q,List.map_cons,List.sum_cons,List.map_cons,List.sum_cons];omega
theorem Aac {R:Int→Int} {q:List Int} (hq:q.Nodup):∀{p:List Int},(∀x∈p,R x∈q)→(q.map fun r=>(p.filter fun x=>decide (R x=r)).length).sum=p.length
 |[],_=>by
  rw[show(q.map fun r=>(([]:List Int).filter fun x=>decide (R x=r)).length)=q.map fun _=>0 from rfl]
  have z:∀q:List Int,(q.map fun _=>(0:Nat)).sum=0:=fun q=>by
   induction q with
   |nil=>rfl
   |cons a q ih=>rw[List.map_cons,List.sum_cons,ih]
  exact z q
 |x::p,h=>by
  have ih:=Aac hq fun y hy=>h y (List.mem_cons_of_mem _ hy)
  have e:(fun r=>((x::p).filter fun x=>decide (R x=r)).length)=fun r=>(if R x=r then 1 else 0)+(p.filter fun x=>decide (R x=r)).length:=funext fun r=>by
   rw[List.filter_cons]
   by_cases c:R x=r
   ·rw[if_pos (decide_eq_true c),if_pos c,List.length_cons,Nat.add_comm]
   ·rw[if_neg (by rw[decide_eq_true_eq];exact c),if_neg c,Nat.zero_add]
  rw[e,zG,ih,Aab _ hq,if_pos (h x List.mem_cons_self),List.length_cons,Nat.add_comm]
structure Grp (f:List Un) (R:Int→Int) (r:Int) (g:List Int):Prop where
 srt:g.Pairwise fun a b=>a<b
 iff:∀y,y∈g↔y∈wB f∧R y=r
 self:r∈g
 hd:g.getD 0 0=r
theorem FV.ids_srt {f:List Un} (h:FV f):(wB f).Pairwise fun a b=>a<b:=by unfold wB;rw[List.pairwise_map];exact h.srt
theorem AaE {f:List Un} (h:FV f) {R:Int→Int} {P:List (Int×Int)} (hR:GR (wB f) P R) {i:Nat} (hi:i<(Ab0 R (wB f)).length):∃r,((wB f).filter fun x=>decide (R x=x))[i]? =some r∧Grp f R r (Ab0 R (wB f))[i]:=by
 unfold Ab0 at hi⊢
 rw[List.length_map] at hi
 rw[List.getElem_map]
 have hm:=List.mem_filter.1 (List.getElem_mem hi)
 rw[decide_eq_true_eq] at hm
 refine⟨_,List.getElem?_eq_getElem hi, ?_⟩
 generalize ((wB f).filter fun x=>decide (R x=x))[i]=r at hm⊢
 have hiff:∀y,y∈(wB f).filter (fun x=>decide (R x=r))↔y∈wB f∧R y=r:=fun y=>by rw[List.mem_filter,decide_eq_true_eq]
 have hsrt:=h.ids_srt.filter fun x=>decide (R x=r)
 have hself:=(hiff r).2 hm
 exact⟨hsrt,hiff,hself,Aa1 hsrt hself fun x hx=>by have:=(hiff x).1 hx;rw[←this.2];exact hR.le x this.1⟩
section
variable {N:Nat} (hN:1001≤N) (hN2:N≤100000) {f:List Un} (h:FV f) {R:Int→Int} (hR:GR (wB f) (wU f) R)
include hN hN2 h hR
open Classical in
theorem AaF:∀n i (many:Int),i≤(Ab0 R (wB f)).length→(Ab0 R (wB f)).length<n+i→(0≤many∧many≤100*i)→
  DK N (Ab0 R (wB f)) f ((wB f).filter fun x=>decide (¬gdn f R (R x))) n many (i:Nat)=some (.inl (many+(((((Ab0 R (wB f)).drop i).map List.length).sum:Nat):Int)))
 |0,i,many,h1,h2,_=>by omega
 |n+1,i,many,h1,h2,h3=>by
  have hlen:=h.len
  have il:(wB f).length=f.length:=by unfold wB;rw[List.length_map]
  have jl:(Ab0 R (wB f)).length≤(wB f).length:=by unfold Ab0;rw[List.length_map];exact List.length_filter_le _ _
  have fl:=List.length_filter_le (fun x=>decide (¬gdn f R (R x))) (wB f)
  rw[DK]
  by_cases e:i=(Ab0 R (wB f)).length
  ·subst e;rw[dge,cF,List.drop_length];simp
  ·have hi:i<(Ab0 R (wB f)).length:=by omega
   have ih:=fun many=>AaF n (i+1) many (by omega) (by omega)
   obtain⟨r,hr,G⟩:=AaE h hR hi
   have gl0:∀l∈Ab0 R (wB f),l.length≤100:=fun l hl=>by
    unfold Ab0 at hl
    obtain⟨r,_,rfl⟩:=List.mem_map.1 hl
    have:=List.length_filter_le (fun x=>decide (R x=r)) (wB f)
    omega
   have gl:=gl0 _ (List.getElem_mem hi)
   have em:(max ((i:Int)-1) 0)=((i-1:Nat):Int):=by omega
   have hp:i-1<(Ab0 R (wB f)).length:=by omega
   obtain⟨r',hr',G'⟩:=AaE h hR hp
   have asc:0<i→r'<r:=fun h0=>by
    obtain⟨a1,a2⟩:=List.getElem?_eq_some_iff.1 hr
    obtain⟨b1,b2⟩:=List.getElem?_eq_some_iff.1 hr'
    rw[←a2,←b2]
    exact List.pairwise_iff_getElem.1 (h.ids_srt.filter fun x=>decide (R x=x)) (i-1) i b1 a1 (by omega)
   have pos:∀{g:List Int} {r:Int},Grp f R r g→0<g.length:=fun {g r} G=>by
    have:=G.self
    cases g with
    |nil=>cases this
    |cons a t=>rw[List.length_cons];omega
   rw[dlt hi,cT,Tq,List.getElem?_eq_getElem hi,bS,em,Tq,List.getElem?_eq_getElem hp,List.drop_eq_getElem_cons hi,List.map_cons,List.sum_cons]
   generalize (Ab0 R (wB f))[i]=g at G gl⊢
   generalize (Ab0 R (wB f))[i-1]=g' at G'⊢
   have pg:=pos G
   have pg':=pos G'
   have AbP:=AaC hN hN2 h hR gl G.srt (fun y hy=>(G.iff y).1 hy) (fun y h1 h2=>(G.iff y).2 ⟨h1,h2⟩) N 0 many false (by omega) (by omega) (by omega)
   rw[Int.natCast_zero,List.drop_zero,Bool.false_or,Nat.sub_zero] at AbP
   have hany:g.any (stB f)=decide (gdn f R r):=by
    rw[Bool.eq_iff_iff,List.any_eq_true,decide_eq_true_eq]
    constructor
    ·rintro⟨x,hx,hb⟩
     unfold stB at hb
     rw[decide_eq_true_eq] at hb
     obtain⟨u,hu,rfl,k⟩:=hb
     exact⟨u,hu,k,((G.iff _).1 hx).2⟩
    ·rintro⟨u,hu,k,e⟩
     refine⟨u.1,(G.iff _).2 ⟨List.mem_map_of_mem hu,e⟩, ?_⟩
     rw[AaB h hu,k]
   have AbR:=AaD (N:=N) hN2 (g:=g) (fl:=(wB f).filter fun x=>decide (¬gdn f R (R x))) (by omega) gl (decide (gdn f R r)) (fun y hy=>by
    obtain⟨k1,k2⟩:=(G.iff y).1 hy
    rw[Bool.eq_iff_iff,decide_eq_true_eq,List.mem_filter,decide_eq_true_eq,Bool.not_eq_true',decide_eq_false_iff_not,k2]
    exact⟨fun q=>q.2,fun q=>⟨k1,q⟩⟩) N 0 (by omega) (by omega)
   rw[Int.natCast_zero] at AbR
   rw[AbP,bS]
   simp only
   rw[EO (fun _=>by omega),EO (fun _=>by unfold I64;omega),bS,EO (fun _=>by omega),cF',hany,AbR,bS]
   ·simp only
    rw[Ab (by unfold I64;omega),←ns,ih _ (by omega)]
    congr 2
    omega
   ·rw[G.hd,G'.hd,Bool.or_eq_false_iff,Bool.and_eq_false_iff,decide_eq_false_iff_not,decide_eq_false_iff_not,decide_eq_false_iff_not]
    refine⟨by omega, ?_⟩
    by_cases k0:0<i
    ·have:=asc k0;exact .inr (by omega)
    ·exact .inl (by omega)
end
theorem Aad {N:Nat} (hN2:N≤100000) {now fl:List Int} (hn:now.length<1000) (hf:fl.length<N) {id a b c d e k:Int} {u:Un} (hb:CD N id a b c d e k=some u) (hh:∀x∈now,x∈fl∨x=u.1):∀n i,i≤now.length→now.length<n+i→DA N now fl id a b c d e k n (i:Nat)=some (.inl ())
 |0,i,h1,h2=>by omega
 |n+1,i,h1,h2=>by
  rw[DA]
  by_cases q:i=now.length
  ·subst q;rw[dge,cF]
  ·have hi:i<now.length:=by omega
   have:=hh _ (List.getElem_mem hi)
   rw[dlt hi,cT,Tq,List.getElem?_eq_getElem hi,bS,yA hf hN2,bS,hb,EO (fun _=>Option.isSome_some),Option.getD_some,cF',Ab (by unfold I64;omega),←ns]
   ·exact Aad hN2 hn hf hb hh n (i+1) (by omega) (by omega)
   ·rw[Bool.and_eq_false_iff,Bool.not_eq_false',decide_eq_true_eq,decide_eq_false_iff_not]
    rcases this with g|g
    ·exact .inl g
    ·exact .inr (by rw[g];simp)
theorem Aae {N:Nat} (hN2:N≤100000) {fl th:List Int} (hn:fl.length<1000) (hf:th.length<N) {o:Int} (hh:∀x∈fl,x≠o→x∈th):∀n i,i≤fl.length→fl.length<n+i→DB N fl o th n (i:Nat)=some (.inl ())
 |0,i,h1,h2=>by omega
 |n+1,i,h1,h2=>by
  rw[DB]
  by_cases q:i=fl.length
  ·subst q;rw[dge,cF]
  ·have hi:i<fl.length:=by omega
   have:=hh _ (List.getElem_mem hi)
   rw[dlt hi,cT,Tq,List.getElem?_eq_getElem hi,bS,yA hf hN2,EO (fun _=>Option.isSome_some),Option.getD_some,cF',Ab (by unfold I64;omega),←ns]
   ·exact Aae hN2 hn hf hh n (i+1) (by omega) (by omega)
   ·rw[Bool.and_eq_false_iff,Bool.not_eq_false',decide_eq_true_eq,decide_eq_false_iff_not]
    by_cases g:fl[i]=o
    ·exact .inl (by simp[g])
    ·exact .inr (this g)
open Classical in
theorem Aan (x:List (Int×Int×Int×Int×Int×Int)) (id a b c d e k which:Int) (hx:I6 x) (hid:I64 id) (ha:I64 a) (hb:I64 b) (hc:I64 c) (hd:I64 d) (he:I64 e) (hk:I64 k) (hw:I64 which):Hf 2000 x id a b c d e k which=some true:=by
 unfold Hf
 obtain⟨f,hf,fv⟩:=WD (N:=2000) (by omega) hx
 obtain⟨u,hu,uv⟩:=YD (N:=2000) hid ha hb hc hd he hk
 obtain⟨R,hR,hF,hJ⟩:=wY (N:=2000) (by omega) fv
 have hlen:=fv.len
 have il:(wB f).length=f.length:=by unfold wB;rw[List.length_map]
 have jl:(Ab0 R (wB f)).length≤(wB f).length:=by unfold Ab0;rw[List.length_map];exact List.length_filter_le _ _
 have fl:=List.length_filter_le (fun x=>decide (¬gdn f R (R x))) (wB f)
 have AbL:=AaF (N:=2000) (by omega) (by omega) fv hR 2000 0 0 (by omega) (by omega) (by omega)
 have gs:((Ab0 R (wB f)).map List.length).sum=f.length:=by
  unfold Ab0
  rw[List.map_map,←il]
  exact Aac (fv.nd.filter _) fun x hx=>List.mem_filter.2 ⟨hR.mem x hx,decide_eq_true (hR.idem x hx)⟩
 rw[Int.natCast_zero,List.drop_zero,Int.zero_add,gs] at AbL
 rw[jI,bS,cF' _ (by rfl),hf,bS,hJ,bS,hF,bS,AbL,bS]
 simp only
 rw[cF' _ (decide_eq_false (by simp)),hu,bS]
 have hadd:=tJ (N:=2000) (by omega) f u
 have key:((bif decide ((if Fit f u then(ML f u,(0:Int)) else([],120)).2=0) then
   (CE CA 2000 (if Fit f u then(ML f u,(0:Int)) else([],120)).1).bind fun r540=>
   (DA 2000 r540 ((wB f).filter fun x=>decide (¬gdn f R (R x))) id a b c d e k 2000 0).bind fun o557=>match o557 with
    | .inl ()=>some (.inl ())
    | .inr r556=>some (.inr r556)
  else some (.inl ())):Option (Sum Unit Bool))=some (.inl ()):=by
  by_cases ft:Fit f u
  ·rw[if_pos ft,cT' _ (by rfl)]
   have gv:=ft.fv
   obtain⟨R',hR',hF',hJ'⟩:=wY (N:=2000) (by omega) gv
   have gl:(wB (ML f u)).length≤12:=by unfold wB;rw[List.length_map];exact gv.len
   have fl':=List.length_filter_le (fun x=>decide (¬gdn (ML f u) R' (R' x))) (wB (ML f u))
   have L12:=Aad (N:=2000) (by omega) (now:=(wB (ML f u)).filter fun x=>decide (¬gdn (ML f u) R' (R' x))) (fl:=(wB f).filter fun x=>decide (¬gdn f R (R x))) (by omega) (by omega) hu (fun x hx=>by
    rw[List.mem_filter,decide_eq_true_eq] at hx
    obtain⟨v,hv,rfl⟩:=List.mem_map.1 hx.1
    rcases wH.1 hv with g|g
    ·refine .inl (List.mem_filter.2 ⟨List.mem_map_of_mem g,decide_eq_true fun q=> ?_⟩)
     exact hx.2 (Aaa fv gv (fun w hw=>wH.2 (.inl hw)) hR hR' (List.mem_map_of_mem g) q)
    ·exact .inr (by rw[g])) 2000 0 (by omega) (by omega)
   rw[Int.natCast_zero] at L12
   simp only
   rw[hF',bS,L12,bS]
  ·rw[if_neg ft,cF' _ (by rfl)]
 obtain⟨u1,u2,u3,u4,u5,u6⟩:=u
 simp only at hadd⊢
 rw[hadd,bS]
 refine(congrArg (fun o=>Option.bind o _) key).trans ?_
 rw[bS]
 simp only
 by_cases h0:f.length=0
 ·rw[cT' _ (decide_eq_true (by omega))]
 rw[cF' _ (decide_eq_false (by omega))]
 obtain⟨i,ei,hi⟩:=xP (show 0<f.length by omega) which
 rw[lpk hw (by omega),bS,ei,GC hi,bS]
 simp only
 have hs:(jC f (uat f i).1).Sublist f:=List.filter_sublist
 have lv:=fv.sub hs
 obtain⟨R',hR',hF',hJ'⟩:=wY (N:=2000) (by omega) lv
 have ll:(wB (jC f (uat f i).1)).length≤12:=by unfold wB;rw[List.length_map];exact lv.len
 have fl':=List.length_filter_le (fun x=>decide (¬gdn (jC f (uat f i).1) R' (R' x))) (wB (jC f (uat f i).1))
 have L13:=Aae (N:=2000) (by omega) (fl:=(wB f).filter fun x=>decide (¬gdn f R (R x))) (th:=(wB (jC f (uat f i).1)).filter fun x=>decide (¬gdn (jC f (uat f i).1) R' (R' x))) (o:=(uat f i).1) (by omega) (by omega) (fun x hx hne=>by
  rw[List.mem_filter,decide_eq_true_eq] at hx
  obtain⟨v,hv,rfl⟩:=List.mem_map.1 hx.1
  have hm:v∈jC f (uat f i).1:=List.mem_filter.2 ⟨hv,decide_eq_true hne⟩
  exact List.mem_filter.2 ⟨List.mem_map_of_mem hm,decide_eq_true fun q=>hx.2 (Aaa lv fv (fun w hw=>hs.subset hw) hR' hR (List.mem_map_of_mem hm) q)⟩) 2000 0 (by omega) (by omega)
 rw[Int.natCast_zero] at L13
 rw[tT (by omega),if_pos ⟨fv,_,FO hi,rfl⟩,bS]
 simp only
 rw[hF',bS,L13,bS]
 rfl
end Go.Proofs.YtciphecegkfaiaaGreat.Am
