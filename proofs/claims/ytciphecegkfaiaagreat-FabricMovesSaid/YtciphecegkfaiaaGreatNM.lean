import Derived.Test.YtciphecegkfaiaaGreatNE
import Derived.Test.YtciphecegkfaiaaGreatNG
import Derived.Test.YtciphecegkfaiaaGreatNR
import Derived.Test.YtciphecegkfaiaaGreatL4
namespace Go.Proofs.YtciphecegkfaiaaGreat.Am
set_option linter.unusedSimpArgs false
set_option linter.unusedVariables false
set_option linter.unusedSectionVars false
theorem Abm {f:List Un} (h:FV f) {c:Con} (hc:c∈tY f):On c.2.2.1.1∧On c.2.2.1.2:=by
 rcases wJ.1 hc with⟨u,hu,e⟩|⟨i,k,hik,hk,e⟩
 ·have v:=h.val u hu
  obtain⟨i,hi⟩:∃i,gnd u.2.2.2.1 i:=Classical.byContradiction fun hn=>by
   rw[vK fun i hi=>hn ⟨i,hi⟩] at e;cases e
  rw[vJ v hi] at e
  obtain rfl:=yJ e
  exact⟨v.l.on _ (AA hi.1),v.l.on _ (AA (Nat.mod_lt _ (by have:=hi.1;omega)))⟩
 ·have vi:=h.val _ (FO (f:=f) (k:=i) (by omega))
  have vk:=h.val _ (FO hk)
  exact(zK vi vk e).1.ends vi.l
theorem AaJ (N:Nat) {cs:List Con} (hc:cs.length≤1000) (hs:∀c∈cs,On c.2.2.1.1∧On c.2.2.1.2) {a b:Int} (ha:0≤a∧a<25) (hb:0≤b∧b<20):∀n i (l:List Con),i≤cs.length→cs.length<n+i→l.length≤i→
  C4 N cs a b n (i:Nat) l=some (l++((cs.drop i).filter (kp (a-12,max (b-10) 0))).map (mvC (a-12,max (b-10) 0)))
 |0,i,l,h1,h2,_=>by omega
 |n+1,i,l,h1,h2,h3=>by
  rw[C4]
  by_cases e:i=cs.length
  ·subst e;rw[dge,cF,List.drop_length];simp
  ·have hi:i<cs.length:=by omega
   have ih:=fun l k=>AaJ N hc hs ha hb n (i+1) l (by omega) (by omega) k
   have on:=hs _ (List.getElem_mem hi)
   rw[dlt hi,cT,Tq,List.getElem?_eq_getElem hi,bS,List.drop_eq_getElem_cons hi,List.filter_cons]
   generalize cs[i]=c at on⊢
   obtain⟨c1,c2,⟨⟨c3,c4⟩,c5,c6⟩,c7,c8⟩:=c
   unfold On at on
   simp only[Av] at on⊢
   rw[Ab (by unfold I64;omega),Ab (by unfold I64;omega),bS]
   simp only
   rw[Ab (by unfold I64;omega),Ab (by unfold I64;omega),bS]
   simp only
   by_cases q:kp (a-12,max (b-10) 0) (c1,c2,((c3,c4),c5,c6),c7,c8)=true
   ·have q':(decide (max (b-10) 0=0)||decide (c2≠-1))=true:=q
    rw[cT' _ q',Ab (by omega),Ab (by unfold I64;omega),←ns,ih _ (by simp;omega),if_pos q,List.append_assoc]
    rfl
   ·have q':(decide (max (b-10) 0=0)||decide (c2≠-1))=false:=by rw[Bool.eq_false_iff];exact q
    rw[cF' _ q',Ab (by unfold I64;omega),←ns,ih _ (by omega),if_neg q]
theorem Aah (d:Pt):∀l:List Con,edg (((l.filter (kp d)).map (mvC d)).map SA)=edg (l.map SA)
 |[]=>rfl
 |c::l=>by
  have ih:=Aah d l
  unfold edg at ih⊢
  by_cases k:kp d c=true
  ·rw[List.filter_cons,if_pos k,List.map_cons,List.map_cons,List.map_cons,List.filterMap_cons,List.filterMap_cons,ih]
   rfl
  ·rw[List.filter_cons,if_neg k,List.map_cons,List.filterMap_cons,ih]
   have:c.2.1= -1:=by
    unfold kp at k
    rw[Bool.or_eq_true,decide_eq_true_eq,decide_eq_true_eq,not_or] at k
    exact Classical.byContradiction k.2
   have e:(if(SA c).2.1= -1 then none else some ((SA c).1,(SA c).2.1))=none:=if_pos this
   rw[e]
theorem Aa2 {R R':Int→Int} {ids:List Int} (h:∀x∈ids,R x=R' x):Ab0 R ids=Ab0 R' ids:=by
 unfold Ab0
 have e:ids.filter (fun x=>decide (R x=x))=ids.filter fun x=>decide (R' x=x):=List.filter_congr fun x hx=>by rw[h x hx]
 rw[e]
 exact List.map_congr_left fun r _=>List.filter_congr fun x hx=>by rw[h x hx]
theorem Abx {R:Int→Int} {ids:List Int} (h:ids.length≤100):(Ab0 R ids).length<1000∧∀l∈Ab0 R ids,l.length<1000:=by
 unfold Ab0
 rw[List.length_map]
 have:=List.length_filter_le (fun x=>decide (R x=x)) ids
 refine⟨by omega,fun l hl=> ?_⟩
 obtain⟨r,_,rfl⟩:=List.mem_map.1 hl
 have:=List.length_filter_le (fun x=>decide (R x=r)) ids
 omega
open Classical in
theorem AaK (x:List (Int×Int×Int×Int×Int×Int)) (dx dy:Int) (hx:I6 x) (h1:I64 dx) (h2:I64 dy):Hs 2000 x dx dy=some true:=by
 unfold Hs
 obtain⟨f,hf,fv⟩:=WD (N:=2000) (by omega) hx
 have ka:= @HW dx 25 (by omega)
 have kb:= @HW dy 20 (by omega)
 rw[jI,bS,cF' _ (by rfl),hf,bS,lpk h1 (by omega),bS,Ab (by unfold I64;omega),lpk h2 (by omega),bS,Ab (by unfold I64;omega)]
 generalize pk dx 25=a at ka⊢
 generalize pk dy 20=b at kb⊢
 have md:R9 (a-12,max (b-10) 0):=by unfold R9;simp only;omega
 have M:=AbB (N:=2000) (by omega) fv md
 simp only at M
 have hl:=fv.len
 rw[M,bS]
 by_cases ho:∀u∈f,okU (a-12,max (b-10) 0) u
 ·have gv:=Abv fv ho
  have hC:=zZ (d:=(a-12,max (b-10) 0)) (by simp only;omega) fv.val ho
  have L:=AaJ 2000 (wN fv) (fun c hc=>Abm fv hc) ka kb 2000 0 [] (by omega) (by have:=wN fv;omega) (by simp)
  rw[Int.natCast_zero,List.drop_zero,List.nil_append,←hC] at L
  obtain⟨R,hR,hF,hJ⟩:=wY (N:=2000) (by omega) fv
  obtain⟨R',hR',hF',hJ'⟩:=wY (N:=2000) (by omega) gv
  have eids:wB (f.map (mvU (a-12,max (b-10) 0)))=wB f:=by unfold wB;rw[List.map_map];rfl
  have eedg:wU (f.map (mvU (a-12,max (b-10) 0)))=wU f:=by unfold wU;rw[hC,Aah]
  rw[eids,eedg] at hR'
  rw[eids] at hF' hJ'
  have AbU:∀x∈wB f,R' x=R x:=fun x hx=>hR'.same hR (fun e=>Iff.rfl) hx
  rw[Aa2 AbU] at hJ'
  have il:(wB f).length=f.length:=by unfold wB;rw[List.length_map]
  have jl:=Abx (R:=R) (ids:=wB f) (by omega)
  have Ab6:wL (f.map (mvU (a-12,max (b-10) 0)))=wL f:=by
   unfold wL
   rw[List.map_map]
   congr 1
   exact List.map_congr_left fun u hu=>Abi (fv.val u hu)
  have flen:((wB f).filter fun x=>decide (¬gdn f R (R x))).length<2000:=by
   have:=List.length_filter_le (fun x=>decide (¬gdn f R (R x))) (wB f)
   omega
  have cl:=wN gv
  rw[if_pos ho]
  simp only
  rw[cF' _ (by rfl),vR (by omega),if_pos fv,bS,L,bS,vR (by omega),if_pos gv,bS,xS (by omega) _ (by omega),bS,decide_eq_true rfl,hJ',hJ,EO (fun _=>Option.isSome_some),EO (fun _=>Option.isSome_some),Option.getD_some,AaZ (by omega) _ (by omega) (fun l hl=>by have:=jl.2 l hl;omega),decide_eq_true rfl,EO (fun _=>Option.isSome_some),yK (by omega) gv,EO (fun _=>Option.isSome_some),yK (by omega) fv,EO (fun _=>Option.isSome_some),UZ (by omega),decide_eq_true gv,EO (fun _=>Option.isSome_some),Option.getD_some,Option.getD_some,Option.getD_some,Ab6,cF' _ (by rw[decide_eq_false (by simp)];rfl)]
  by_cases z:max (b-10) 0=0
  ·have rE:wG (f.map (mvU (a-12,max (b-10) 0)))=wG f:=by
    unfold wG
    rw[hC,List.filter_eq_self.2 fun c _=>by unfold kp;rw[decide_eq_true (show(a-12,max (b-10) 0).2=0 from z)];rfl,List.filterMap_map]
    congr 2
    funext c
    unfold wI mvC mv2 mv
    simp only[Function.comp,Int.add_lt_add_iff_right]
   have AbX:∀r,gdn (f.map (mvU (a-12,max (b-10) 0))) R' r↔gdn f R r:=fun r=>by
    constructor
    ·rintro⟨u,hu,u1,u2⟩
     obtain⟨v,hv,rfl⟩:=List.mem_map.1 hu
     rw[zF z (fv.val v hv) (ho v hv),Option.isSome_map] at u1
     exact⟨v,hv,u1,by rw[←AbU v.1 (List.mem_map_of_mem hv)];exact u2⟩
    ·rintro⟨v,hv,u1,u2⟩
     exact⟨mvU _ v,List.mem_map_of_mem hv,by rw[zF z (fv.val v hv) (ho v hv),Option.isSome_map];exact u1,by show R' v.1=r;rw[AbU v.1 (List.mem_map_of_mem hv)];exact u2⟩
   have AbV:((wB f).filter fun x=>decide (¬gdn (f.map (mvU (a-12,max (b-10) 0))) R' (R' x)))=(wB f).filter fun x=>decide (¬gdn f R (R x)):=List.filter_congr fun x hx=>by rw[decide_eq_decide,AbX,AbU x hx]
   have rl:(wG f).length≤1000:=by
    have:=List.length_filterMap_le wI (tY f)
    have:=wN fv
    rw[(wP f).length_eq];omega
   rw[cT' _ (decide_eq_true z),wZ (by omega),if_pos gv,bS,wZ (by omega),if_pos fv,bS,rE,xH (by omega) _ (by omega),bS,decide_eq_true rfl,hF',hF,AbV,EO (fun _=>Option.isSome_some),EO (fun _=>Option.isSome_some),Option.getD_some,yZ (by omega) _ flen,EO (fun _=>Option.isSome_some),decide_eq_true rfl]
   rfl
  ·have AbV:((wB f).filter fun x=>decide (¬gdn (f.map (mvU (a-12,max (b-10) 0))) R' (R' x)))=wB f:=List.filter_eq_self.2 fun x hx=>decide_eq_true (by
    rintro⟨u,hu,u1,u2⟩
    obtain⟨v,hv,rfl⟩:=List.mem_map.1 hu
    rw[Aaz (by simp only;omega) (fv.val v hv)] at u1
    cases u1)
   rw[cF' _ (decide_eq_false z),hF',bS,AbV,il,decide_eq_true rfl]
 ·rw[if_neg ho]
  simp only
  rw[cT' _ (by rfl)]
  have:0<f.length:=by
   cases f with
   |nil=>exact absurd (fun u hu=>by cases hu) ho
   |cons u r=>rw[List.length_cons];omega
  rw[decide_eq_true (show(0:Int)<f.length by omega)]
  rfl
end Go.Proofs.YtciphecegkfaiaaGreat.Am
