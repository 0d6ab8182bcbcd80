import Derived.Test.YtciphecegkfaiaaGreatNX
set_option linter.unusedSimpArgs false
set_option linter.unusedVariables false
set_option linter.unusedSectionVars false
namespace Go.Proofs.YtciphecegkfaiaaGreat.Am
theorem fJ{p q:Nat->Bool}:∀{l:List Nat},(∀x∈l,p x=true->q x=true)->(∃x∈l,p x=false/\q x=true)->(l.filter p).length<(l.filter q).length
 |[],_,h=>by obtain⟨x,hx,_⟩:=h;cases hx
 |a::l,hi,h=>by
  have hi':∀x∈l,p x=true->q x=true:=λx hx=>hi x (tO _ hx)
  have le:∀{l:List Nat},(∀x∈l,p x=true->q x=true)->(l.filter p).length<=(l.filter q).length:=λ{l} h=>by rw[<-List.countP_eq_length_filter,<-List.countP_eq_length_filter];exact List.countP_mono_left h
  have ha:=hi a zW;rw[zM,zM];obtain⟨x,hx,x1,x2⟩:=h;rcases lJ.1 hx with rfl|hx
  ·rw[eW (by rw[x1];decide),eX x2,pC];have:=le hi';omega
  ·have ih:=fJ hi' ⟨x,hx,x1,x2⟩;by_cases c:p a=true
   ·rw[eX c,eX (ha c),pC,pC];omega
   ·rw[eW c];split
    ·rw[pC];omega
    ·exact ih
theorem YD:∀{l m:List Int},l.Pairwise (λa b=>a<b)->m.Pairwise (λa b=>a<b)->(∀x,x∈l↔x∈m)->l=m
 |[],[],_,_,_=>rfl
 |[],b::m,_,_,h=>by have:=(h b).2 zW;cases this
 |a::l,[],_,_,h=>by have:=(h a).1 zW;cases this
 |a::l,b::m,h1,h2,h=>by
  rw[yI]at h1 h2;have e:a=b:=by
   have k1:=(h a).1 zW;have k2:=(h b).2 zW;rcases lJ.1 k1 with e|k1
   ·exact e
   ·rcases lJ.1 k2 with e|k2
    ·exact e.symm
    ·have:=h1.1 b k2;have:=h2.1 a k1;omega
  subst e;congr 1;refine YD h1.2 h2.2 λx=>⟨λhx=>?_,λhx=>?_⟩
  ·rcases lJ.1 ((h x).1 (tO _ hx))with rfl|k
   ·have:=h1.1 x hx;omega
   ·exact k
  ·rcases lJ.1 ((h x).2 (tO _ hx))with rfl|k
   ·have:=h2.1 x hx;omega
   ·exact k
theorem fK:∀{xs ys:List Int},xs.Nodup->(∀x∈xs,x∈ys)->xs.length<=ys.length
 |[],_,_,_=>t7 _
 |x::xs,ys,h,hs=>by
  rw[To]at h;have hx:=hs x zW;have:=fK (ys:=ys.erase x) h.2 λy hy=>(List.mem_erase_of_ne (by rintro rfl;exact h.1 hy)).2 (hs y (tO _ hy))
  have l1:=List.length_erase_of_mem hx;have l2:=List.length_pos_of_mem hx;rw[pC];omega
def Jv(s:List Bool)(k:Int):Bool:=s.getD k.toNat false
theorem Q9{s:List Bool}{i:Nat}(hi:i<s.length)(j:Nat):(s.set i true).getD j false=if j=i then true else s.getD j false:=by
 rw[eT,List.getElem?_set,eT];by_cases c:i=j
 ·subst c;rw[eX rfl,eX hi,eX rfl];rfl
 ·rw[eW c,eW (Ss c)]
def IK(s:List Bool):List Int:=((List.range 100).filter λj=>s.getD j false).map λj:Nat=>(j:Int)
theorem Iv{s:List Bool}{k:Int}:k∈IK s↔0<=k/\k<100/\Jv s k=true:=by
 unfold IK Jv;rw[tI];constructor
 ·rintro⟨j,hj,rfl⟩;rw[uQ,Sv]at hj;exact⟨by omega,by omega,by rw[uS];exact hj.2⟩
 ·rintro⟨h1,h2,h3⟩;exact⟨k.toNat,uQ.2 ⟨Sv.2 (by omega),h3⟩,by omega⟩
theorem Sy(s:List Bool):(IK s).Pairwise λa b=>a<b:=by unfold IK;rw[List.pairwise_map];exact(List.pairwise_lt_range.filter _).imp λh=>by omega
structure Mk(f:List Un)(R:Int->Int)(id:Int)(s:List Bool):Prop where
 len:s.length=100
 cls:∀k∈IK s,k∈A4 f/\R k=R id
def ZV(cs:List EX)(s:List Bool):Prop:=∀c∈cs,c.2.1≠-1->(Jv s c.1=true\/Jv s c.2.1=true)->Jv s c.1=true/\Jv s c.2.1=true
def sub(s s':List Bool):Prop:=∀j,s.getD j false=true->s'.getD j false=true
theorem Wz{s s':List Bool}(h:sub s s')(hl:s.length=s'.length)(hb:sub s' s):s=s':=by
 refine List.ext_getElem hl λj h1 h2=>?_
 have k1:=h j;have k2:=hb j;have g:∀(l:List Bool)(hj:j<l.length),l.getD j false=l[j]:=λl hj=>by rw[eT,eV hj,mN]
 rw[g s h1,g s' h2]at k1 k2;cases a:s[j]<;>cases b:s'[j]<;>simp_all
section
variable{N:Nat}(hN:1001<=N){f:List Un}(h:FV f){R:Int->Int}(hR:GR (A4 f) (KS f) R)
include hN h hR
omit hN in
theorem uU{c:EX}(hc:c∈BX f)(hg:c.2.1≠-1):(c.1∈A4 f/\c.2.1∈A4 f)/\R c.1=R c.2.1:=by have ci:=PF h;have hm:Ie c∈(BX f).map Ie:=L1 hc;refine⟨⟨ci.a _ hm,(ci.b _ hm).resolve_left hg⟩,?_⟩;refine hR.edge (c.1,c.2.1) ?_;unfold KS PD;refine List.mem_filterMap.2 ⟨Ie c,hm,?_⟩;have:(Ie c).2.1≠-1:=hg;rw[eW this];rfl
theorem fL{id:Int}:∀n i s,i<=(BX f).length->(BX f).length<n+i->Mk f R id s->∃s',DA N (BX f) n (i:Nat) s=some s'/\Mk f R id s'/\sub s s'/\(s'=s->∀c∈(BX f).drop i,c.2.1≠-1->(Jv s c.1=true\/Jv s c.2.1=true)->Jv s c.1=true/\Jv s c.2.1=true)/\(ZV (BX f) s->s'=s)
 |0,i,s,h1,h2,_=>by omega
 |n+1,i,s,h1,h2,h3=>by
  have cl:=KT h;rw[DA];by_cases e:i=(BX f).length
  ·subst e;rw[CT,cF,w5];exact⟨s,rfl,h3,λj hj=>hj,λ_ c hc=>(by cases hc),λ_=>rfl⟩
  ·have hi:i<(BX f).length:=by omega
   have ih:=λs hs=>fL (id:=id) n (i+1) s (by omega) (by omega) hs
   have hcm:=S7 hi;have sl:=h3.len;rw[Ch hi,cT,C7,eV hi,bS,mL hi];generalize (BX f)[i]=c at hcm⊢;have key:=uU h hR hcm;have ia:0<=c.1/\c.1<=99:=by obtain⟨u,hu,e⟩:=Ov hcm;rw[e];exact(h.val u hu).a
   obtain⟨c1,c2,⟨⟨c3,c4⟩,c5,c6⟩,c7,c8⟩:=c;simp only at key ia⊢;by_cases g:c2= -1
   ·rw[A8 (λq=>by rw[eR]at q;exact absurd g q),A8 (λq=>by rw[eR]at q;exact absurd g q),A8 (λq=>by rw[lP,eR]at q;exact absurd g q.1),A8 (λq=>by rw[lP,eR]at q;exact absurd g q.1),Az _ (by rw[dJ (by simpa using g)];rfl),Aa (by unfold Ab;omega),<-ns];obtain⟨s',e1,e2,e3,e4,e5⟩:=ih s h3;refine⟨s',e1,e2,e3,λq c hc hg=>?_,e5⟩;rcases lJ.1 hc with rfl|hc
    ·exact absurd g hg
    ·exact e4 q c hc hg
   ·obtain⟨⟨m1,m2⟩,m3⟩:=key g;have ib:=h.id99 _ m2;rw[A8 (λ_=>by omega),A8 (λ_=>by omega),A8 (λ_=>by omega),A8 (λ_=>by omega)];by_cases hit:(s.getD c1.toNat false||s.getD c2.toNat false)=true
    ·have s1:∀j,((s.set c1.toNat true).set c2.toNat true).getD j false=if j=c2.toNat then true else if j=c1.toNat then true else s.getD j false:=λj=>by rw[Q9 (by rw[zN];omega),Q9 (by omega)]
     have hb:sub s ((s.set c1.toNat true).set c2.toNat true):=λj hj=>by rw[s1];split;rfl;split;rfl;exact hj
     have clsR:R c1=R id:=by
      rw[tV]at hit;rcases hit with q|q
      ·exact(h3.cls c1 (Iv.2 ⟨ia.1,by omega,q⟩)).2
      ·rw[m3];exact(h3.cls c2 (Iv.2 ⟨ib.1,by omega,q⟩)).2
     have hM:Mk f R id ((s.set c1.toNat true).set c2.toNat true):=⟨by rw[zN,zN,sl],λk hk=>by
      obtain⟨k1,k2,k3⟩:=Iv.1 hk;unfold Jv at k3;rw[s1]at k3;by_cases q2:k.toNat=c2.toNat
      ·rw[show k=c2 by omega];exact⟨m2,by rw[<-m3,clsR]⟩
      ·rw[eW q2]at k3;by_cases q1:k.toNat=c1.toNat
       ·rw[show k=c1 by omega];exact⟨m1,clsR⟩
       ·rw[eW q1]at k3;exact h3.cls k (Iv.2 ⟨k1,k2,k3⟩)⟩
     obtain⟨s',e1,e2,e3,e4,e5⟩:=ih _ hM;have n1:AA s c1=some (s.getD c1.toNat false):=Km false (by omega) (by omega);have n2:AA (s.set c1.toNat true) c2=some ((s.set c1.toNat true).getD c2.toNat false):=Km false (by omega) (by rw[zN];omega);rw[AG _ (by rw[dC g,Xi];exact hit),n1,bS,n2,bS,Aa (by unfold Ab;omega),<-ns];refine⟨s',e1,e2,λj hj=>e3 j (hb j hj),λq=>?_,λhc=>?_⟩
     ·have es:(s.set c1.toNat true).set c2.toNat true=s:=(Wz hb (by rw[zN,zN]) (by rw[<-q];rw[q]at e3;rw[q];exact e3)).symm;rw[es]at e4;intro c hc hg hh;rcases lJ.1 hc with rfl|hc
      ·unfold Jv;simp only;rw[<-es,s1,s1];simp
      ·exact e4 q c hc hg hh
     ·have hh:=hc _ hcm g (by rw[tV]at hit;exact hit);have es:(s.set c1.toNat true).set c2.toNat true=s:=(Wz hb (by rw[zN,zN]) (λj hj=>by
       rw[s1]at hj;by_cases q2:j=c2.toNat
       ·rw[q2];exact hh.2
       ·rw[eW q2]at hj;by_cases q1:j=c1.toNat
        ·rw[q1];exact hh.1
        ·rw[eW q1]at hj;exact hj)).symm
      rw[es]at e5;exact e5 hc
    ·rw[Az _ (by rw[dC g,Xi];exact w6.2 hit),Aa (by unfold Ab;omega),<-ns];obtain⟨s',e1,e2,e3,e4,e5⟩:=ih s h3;refine⟨s',e1,e2,e3,λq c hc hg hh=>?_,e5⟩;rcases lJ.1 hc with rfl|hc
     ·exact absurd (by rw[tV];exact hh) hit
     ·exact e4 q c hc hg hh
theorem ZW{id:Int}{s:List Bool}(hs:Mk f R id s):(IK s).length<=12:=by
 have hl:=h.len;have nd:(IK s).Nodup:=(Sy s).imp λh e=>by omega
 have:(IK s).length<=(A4 f).length:=by
  have hsub:=λk hk=>(hs.cls k hk).1
  exact fK nd hsub
 have il:(A4 f).length=f.length:=by unfold A4;rw[p9]
 omega
theorem fN{id:Int}:∀n m s,m<=12->12<n+m->Mk f R id s->Jv s id=true->(ZV (BX f) s\/m+1<=(IK s).length)->∃s',Ek N (BX f) n (m:Nat) s=some s'/\Mk f R id s'/\Jv s' id=true/\ZV (BX f) s'
 |0,m,s,h1,h2,_,_,_=>by omega
 |n+1,m,s,h1,h2,h3,h4,h5=>by
  have cl:=KT h;rw[Ek];by_cases e:m=12
  ·subst e;rw[Az _ (by decide)];refine⟨s,rfl,h3,h4,h5.resolve_right λq=>?_⟩;have:=ZW hN h hR h3;omega
  ·obtain⟨s',e1,e2,e3,e4,e5⟩:=fL hN h hR N 0 s (by omega) (by omega) h3;rw[mK]at e1;rw[uP]at e4;rw[AG _ (dC (by omega)),e1,bS,Aa (by unfold Ab;omega),<-ns];refine fN n (m+1) s' (by omega) (by omega) e2 (e3 _ h4) ?_;by_cases q:s'=s
   ·left;rw[q];exact e4 q
   ·right;have nc:¬ZV (BX f) s:=λc=>q (e5 c)
    have hm:=h5.resolve_left nc;have:∃x∈List.range 100,s.getD x false=false/\s'.getD x false=true:=Classical.byContradiction λhn=>by
     refine q (Wz e3 (by rw[h3.len,e2.len]) λj hj=>?_).symm;by_cases jl:j<100
     ·cases c:s.getD j false with
      |true=>rfl
      |false=>exact absurd ⟨j,Sv.2 jl,c,hj⟩ hn
     ·rw[eT,List.getElem?_eq_none (by rw[e2.len];omega)]at hj;cases hj
    have lt:=fJ (p:=λj=>s.getD j false) (q:=λj=>s'.getD j false) (l:=List.range 100) (λx _ hx=>e3 x hx) this;unfold IK at hm⊢;rw[p9]at hm⊢;omega
omit hN h hR in
theorem WA(N:Nat){s:List Bool}(hs:s.length=100):∀n k (l:List Int),k<=100->100<n+k->l.length<=k->DB N s n (k:Nat) l=some (l++(((List.range' k (100-k)).filter λj=>s.getD j false).map λj:Nat=>(j:Int)))
 |0,k,l,h1,h2,_=>by omega
 |n+1,k,l,h1,h2,h3=>by
  rw[DB];by_cases e:k=100
  ·subst e;rw[Az _ (dJ (by omega))];simp
  ·have hk:k<s.length:=by omega
   rw[Ch hk,cT,C7,eV hk,bS,show 100-k=(100-(k+1))+1 by omega,L8,zM,eT,eV hk,mN];cases s[k]with
   |true=>rw[cT,Aa (by omega),Aa (by unfold Ab;omega),<-ns,WA N hs n (k+1) _ (by omega) (by omega) (by simp;omega),eX rfl,eZ,qV];rfl
   |false=>rw[cF,Aa (by unfold Ab;omega),<-ns,WA N hs n (k+1) _ (by omega) (by omega) (by omega),eW (by decide)]
theorem fO{id:Int}(hid:id∈A4 f):Fc N (BX f) id=some ((A4 f).filter λx=>decide (R x=R id)):=by
 have i99:=h.id99 id hid;obtain⟨L,hL⟩:∃L,L=List.replicate 100 false:=⟨_,rfl⟩
 have hlen:L.length=100:=by rw[hL,List.length_replicate]
 have hget:∀j,L.getD j false=false:=λj=>by rw[eT,hL,List.getElem?_replicate];split<;>rfl
 have s0:∀j,(L.set id.toNat true).getD j false=if j=id.toNat then true else false:=λj=>by rw[Q9 (by omega),hget]
 have h3:Mk f R id (L.set id.toNat true):=⟨by rw[zN,hlen],λk hk=>by
  obtain⟨k1,k2,k3⟩:=Iv.1 hk;unfold Jv at k3;rw[s0]at k3;by_cases q:k.toNat=id.toNat
  ·rw[show k=id by omega];exact⟨hid,rfl⟩
  ·rw[eW q]at k3;cases k3⟩
 have h4:Jv (L.set id.toNat true) id=true:=by unfold Jv;rw[s0,eX rfl]
 have h5:0+1<=(IK (L.set id.toNat true)).length:=by have:id∈IK (L.set id.toNat true):=Iv.2 ⟨i99.1,by omega,h4⟩;have:=List.length_pos_of_mem this;omega
 obtain⟨s',e1,e2,e3,e4⟩:=fN hN h hR N 0 _ (by omega) (by omega) h3 h4 (.inr h5);have e5:=WA N e2.len N 0 [] (by omega) (by omega) (by simp);rw[mK]at e1 e5;rw[nJ,TU,<-CY]at e5;have n0:AA L id=some (L.getD id.toNat false):=Km false (by omega) (by omega);unfold Fc;rw[<-hL,n0,bS,e1,bS,e5,bS];congr 1;refine YD (Sy s') (h.ids_srt.filter _) λk=>?_
 rw[uQ,eR];constructor
 ·exact λhk=>e2.cls k hk
 ·rintro⟨k1,k2⟩;have k99:=h.id99 k k1;have uni:=hR.univ (λz=>Jv s' z=true) λe he=>by
   unfold KS PD at he;obtain⟨c,hc,q⟩:=List.mem_filterMap.1 he;obtain⟨d,hd,rfl⟩:=tI.1 hc;split at q
   ·cases q
   ·rename_i g;obtain rfl:=yJ q;have:=e4 d hd g;exact⟨λa=>(this (.inl a)).2,λa=>(this (.inr a)).1⟩
  refine Iv.2 ⟨k99.1,by omega,?_⟩;have a:Jv s' k=true↔Jv s' (R k)=true:=uni k k1;have b:Jv s' id=true↔Jv s' (R id)=true:=uni id hid;rw[a,k2,<-b];exact e3
theorem Tg:∀n i (l:List (List Int)),i<=f.length->f.length<n+i->l.length<=i->Do N f (BX f) n (i:Nat) l=some (l++(((A4 f).drop i).filter λx=>decide (R x=x)).map λr=>(A4 f).filter λx=>decide (R x=r))
 |0,i,l,h1,h2,_=>by omega
 |n+1,i,l,h1,h2,h3=>by
  have hl:=h.len;have il:(A4 f).length=f.length:=by unfold A4;rw[p9]
  rw[Do];by_cases e:i=f.length
  ·subst e;rw[CT,cF,List.drop_of_length_le (by omega)];simp
  ·have hi:i<f.length:=by omega
   have hid:(Ao f i).1∈A4 f:=L1 (Bi hi);have ei:(A4 f)[i]'(by omega)=(Ao f i).1:=by unfold A4;rw[List.getElem_map,Cj hi]
   have rm:=hR.mem _ hid;have ri:=hR.idem _ hid;have hd:((A4 f).filter λx=>decide (R x=R (Ao f i).1)).getD 0 0=R (Ao f i).1:=Wl (h.ids_srt.filter _) (uQ.2 ⟨rm,dC ri⟩) λx hx=>by obtain⟨x1,x2⟩:=uQ.1 hx;rw[eR]at x2;have:=hR.le x x1;omega
   have pos:0<((A4 f).filter λx=>decide (R x=R (Ao f i).1)).length:=List.length_pos_of_mem (uQ.2 ⟨rm,dC ri⟩);have n0:AA ((A4 f).filter λx=>decide (R x=R (Ao f i).1)) 0=some (R (Ao f i).1):=by rw[Km 0 (by omega) (by omega)];exact congrArg some hd
   rw[Ch hi,cT,Cq hi,bS];simp only;rw[fO hN h hR hid,bS,n0,bS,mL (by omega),ei,zM];by_cases c:R (Ao f i).1=(Ao f i).1
   ·rw[AG _ (dC c),Aa (by omega),Aa (by unfold Ab;omega),<-ns,Tg n (i+1) _ (by omega) (by omega) (by simp;omega),eX (dC c),eZ,c,qV];rfl
   ·rw[Az _ (dJ c),Aa (by unfold Ab;omega),<-ns,Tg n (i+1) _ (by omega) (by omega) (by omega),eW (by rw[eR];exact c)]
theorem uV:BW N f=some (jS R (A4 f)):=by have hl:=h.len;have L:=Tg hN h hR N 0 [] (by omega) (by omega) (by simp);rw[mK,uP,nJ]at L;unfold BW;rw[Iu hN,bS,dC h,Az _ (by rfl),UN hN,eX h,bS,L,bS];rfl
omit hN h hR in
theorem WB(N:Nat){g:List Int}{cs:List EX}(hg:g.length<=100){k:Nat}(hk:k<cs.length):∀n j (b:Bool),j<=g.length->g.length<n+j->Dp N g k cs n b (j:Nat)=some (b&&(g.drop j).all λy=>decide (cs[k].2.1≠-1)||decide (cs[k].1≠y))
 |0,j,b,h1,h2=>by omega
 |n+1,j,b,h1,h2=>by
  rw[Dp];by_cases e:j=g.length
  ·subst e;rw[CT,cF,w5];simp
  ·have hj:j<g.length:=by omega
   have ec:cs.getD ((k:Nat):Int).toNat (0,0,((0,0),(0,0)),0,0)=cs[k]:=by rw[uS,eT,eV hk];rfl
   have eg:g.getD ((j:Nat):Int).toNat 0=g[j]:=by rw[uS,eT,eV hj];rfl
   rw[Ch hj,cT,A8 (λ_=>by omega),A8 (λ_=>by omega),A8 (λ_=>by omega),Aa (by unfold Ab;omega),<-ns,WB N hg hk n (j+1) _ (by omega) (by omega),mL hj,List.all_cons,ec,eg,Bool.and_assoc]
omit hN h hR in
theorem YE{N:Nat}(hN:1001<=N){g:List Int}{cs:List EX}(hg:g.length<=100)(hc:cs.length<=1000):∀n k (b:Bool),k<=cs.length->cs.length<n+k->DH N cs g n b (k:Nat)=some (b&&(cs.drop k).all λc=>g.all λy=>decide (c.2.1≠-1)||decide (c.1≠y))
 |0,k,b,h1,h2=>by omega
 |n+1,k,b,h1,h2=>by
  rw[DH];by_cases e:k=cs.length
  ·subst e;rw[CT,cF,w5];simp
  ·have hk:k<cs.length:=by omega
   have L:=WB N hg hk N 0 b (by omega) (by omega);rw[mK,uP]at L;rw[Ch hk,cT,L,bS,Aa (by unfold Ab;omega),<-ns,YE hN hg hc n (k+1) _ (by omega) (by omega),mL hk,List.all_cons,Bool.and_assoc]
open Classical in
theorem Th:∀n i (l:List Int),i<=f.length->f.length<n+i->l.length<=i->C2 N f (BX f) n (i:Nat) l=some (l++((A4 f).drop i).filter λx=>decide (¬Ju f R (R x)))
 |0,i,l,h1,h2,_=>by omega
 |n+1,i,l,h1,h2,h3=>by
  have hl:=h.len;have cl:=KT h;have il:(A4 f).length=f.length:=by unfold A4;rw[p9]
  rw[C2];by_cases e:i=f.length
  ·subst e;rw[CT,cF,List.drop_of_length_le (by omega)];simp
  ·have hi:i<f.length:=by omega
   have hid:(Ao f i).1∈A4 f:=L1 (Bi hi);have ei:(A4 f)[i]'(by omega)=(Ao f i).1:=by unfold A4;rw[List.getElem_map,Cj hi]
   have gl:=Oy (λx=>decide (R x=R (Ao f i).1)) (A4 f);have L:=YE hN (g:=(A4 f).filter λx=>decide (R x=R (Ao f i).1)) (cs:=BX f) (by omega) cl N 0 true (by omega) (by omega);rw[mK,uP,Xi]at L;have key:((BX f).all λc=>((A4 f).filter λx=>decide (R x=R (Ao f i).1)).all λy=>decide (c.2.1≠-1)||decide (c.1≠y))=decide (¬Ju f R (R (Ao f i).1)):=by
    rw[Sw,eR,Ft,<-Yu h];constructor
    ·rintro ha ⟨c,hc,c1,c2⟩;obtain⟨d,hd,rfl⟩:=tI.1 hc;have:=ha d hd;rw[Ft]at this;have:=this d.1 (uQ.2 ⟨(PF h).a _ hc,dC c2⟩);rw[tV,eR,eR]at this;rcases this with q|q
     ·exact q c1
     ·exact q rfl
    ·intro hn c hc;rw[Ft];intro y hy;obtain⟨y1,y2⟩:=uQ.1 hy;rw[eR]at y2;rw[tV,eR,eR];by_cases q:c.2.1= -1
     ·refine .inr λe=>hn ⟨Ie c,L1 hc,q,?_⟩
      show R c.1=_;rw[e,y2]
     ·exact .inl q
   rw[Ch hi,cT,Cq hi,bS];simp only;rw[fO hN h hR hid,bS,L,bS,key,mL (by omega),ei,zM];by_cases c:Ju f R (R (Ao f i).1)
   ·rw[Az _ (dJ (by simpa using c)),Aa (by unfold Ab;omega),<-ns,Th n (i+1) _ (by omega) (by omega) (by omega),eW (by rw[eR];simpa using c)]
   ·rw[AG _ (dC c),Aa (by omega),Aa (by unfold Ab;omega),<-ns,Th n (i+1) _ (by omega) (by omega) (by simp;omega),eX (dC c),qV];rfl
open Classical in
theorem fP:CE N f=some ((A4 f).filter λx=>decide (¬Ju f R (R x))):=by have hl:=h.len;have L:=Th hN h hR N 0 [] (by omega) (by omega) (by simp);rw[mK,uP,nJ]at L;unfold CE;rw[Iu hN,bS,dC h,Az _ (by rfl),UN hN,eX h,bS,L,bS]
end
theorem Xk{N:Nat}(hN:1001<=N)(f:List Un):∃(j:List (List Int))(o:List Int),(E4 Dv N f=some j/\BW N f=some j)/\(C3 Dv N f=some o/\CE N f=some o)/\j.length<=12/\(∀l∈j,l.length<=12)/\o.length<=12:=by
 by_cases h:FV f
 ·obtain⟨R,hR,hF,hJ⟩:=Qi hN h;have hl:=h.len;have il:(A4 f).length=f.length:=by unfold A4;rw[p9]
  refine⟨_,_,⟨hJ,uV hN h hR⟩,⟨hF,fP hN h hR⟩,?_,?_,?_⟩
  ·unfold jS;rw[p9];exact s7 (Oy _ _) (by omega)
  ·intro l hl';unfold jS at hl';obtain⟨r,_,rfl⟩:=tI.1 hl';exact s7 (Oy _ _) (by omega)
  ·exact s7 (Oy _ _) (by omega)
 ·refine⟨[],[],⟨?_,?_⟩,⟨?_,?_⟩,by simp,by simp,by simp⟩
  ·unfold E4;rw[Jy hN,bS,dJ h,AG _ (by rfl)]
  ·unfold BW;rw[Iu hN,bS,dJ h,AG _ (by rfl)]
  ·unfold C3;rw[Jy hN,bS,dJ h,AG _ (by rfl)]
  ·unfold CE;rw[Iu hN,bS,dJ h,AG _ (by rfl)]
