import Derived.Test.YtciphecegkfaiaaGreatNV
set_option linter.unusedSimpArgs false
set_option linter.unusedVariables false
set_option linter.unusedSectionVars false
namespace Go.Proofs.YtciphecegkfaiaaGreat.Am
theorem AbZ{N:Nat}{u:Un}(h:UV u){how n at_:Int}(h1:Ab how)(h2:Ab at_):∃v:Un,Fo N u.1 u.2.1 u.2.2.1 u.2.2.2.1 u.2.2.2.2.1 u.2.2.2.2.2 how n at_=some v/\v.2.2.2.1.length<=9:=by
 have l8:=h.l.l8;have l3:=h.l.l3;have hd:Ab (how.tdiv 6):=Kw h1 (by omega) (by omega);obtain⟨r,e,hr⟩:=uG (N:=N) (l:=u.2.2.2.1) (by omega) (by omega) (n:=n) h2 hd;unfold Fo;rw[Aa (by omega),nG h1 (by omega),bS];generalize pk how 6=k;cases decide (k=0)with
 |true=>exact⟨_,rfl,by simp only;omega⟩
 |false=>
 rw[cF];cases decide (k=1)with
 |true=>exact⟨_,rfl,by simp only;omega⟩
 |false=>
 rw[cF];cases decide (k=2)with
 |true=>exact⟨_,rfl,by simp only;omega⟩
 |false=>
 rw[cF];cases decide (k=3)with
 |true=>exact⟨_,rfl,by simp only;omega⟩
 |false=>
 rw[cF];cases decide (k=4)with
 |true=>exact⟨_,rfl,by simp only;omega⟩
 |false=>
 rw[cF,Aa hd,e,bS];exact⟨_,rfl,hr⟩
theorem Ym(N:Nat){f:List Un}(h:FV f):∀n i (l:List Un),i<=f.length->f.length<n+i->l.length<=i->De N f n (i:Nat) l=some (l++f.drop i)
 |0,i,l,h1,h2,_=>by omega
 |n+1,i,l,h1,h2,h3=>by
  have hl:=h.len;rw[De];by_cases e:i=f.length
  ·subst e;rw[CT,cF,w5];simp
  ·have hi:i<f.length:=by omega
   have v8:=(h.val _ (Bi hi)).l.l8;have hcp:Bd N (Ao f i).1 (Ao f i).2.1 (Ao f i).2.2.1 (Ao f i).2.2.2.1 (Ao f i).2.2.2.2.1 (Ao f i).2.2.2.2.2=some ((Ao f i).1,(Ao f i).2.1,(Ao f i).2.2.1,(Ao f i).2.2.2.1,(Ao f i).2.2.2.2.1,(Ao f i).2.2.2.2.2):=I7 N (by omega);rw[Ch hi,cT,Cq hi,bS];simp only;rw[hcp,bS];simp only;rw[Aa (by omega),Aa (by unfold Ab;omega),<-ns,Ym N h n (i+1) _ (by omega) (by omega) (by simp;omega),qV,mL hi,<-Cj hi];rfl
theorem Aar{N:Nat}(hN:1001<=N){f:List Un}(h:FV f){how n at_:Int}(h1:Ab how)(h2:Ab n)(h3:Ab at_):∃g,Gn N f how n at_=some g/\g.length<=13/\∀u∈g,u.2.2.2.1.length<=9:=by
 have hl:=h.len;have sh:∀u∈f,u.2.2.2.1.length<=9:=λu hu=>by have:=(h.val u hu).l.l8;omega
 have L:=Ym N h N 0 [] (by omega) (by omega) (by simp);rw[mK,uP,nJ]at L;unfold Gn;rw[L,bS];by_cases h0:f.length=0
 ·rw[AG _ (dC (by omega))];exact⟨_,rfl,by simp,by simp⟩
 obtain⟨k,ek,hk⟩:=UM (show 0<f.length by omega) at_;have uk:=h.val _ (Bi hk);have v8:=uk.l.l8;rw[Az _ (dJ (by omega)),GV h3 (by omega),bS,ek,GV h1 (by omega),bS];have set_ok:∀{l:List Un}(i:Nat){v:Un},(∀u∈l,u.2.2.2.1.length<=9)->v.2.2.2.1.length<=9->∀u∈l.set i v,u.2.2.2.1.length<=9:=λ{l} i {v} ha hb u hu=>by
  rcases List.mem_or_eq_of_mem_set hu with q|q
  ·exact ha u q
  ·rw[q];exact hb
 by_cases c0:pk how 4=0
 ·obtain⟨v,hv,vl⟩:=AbZ (N:=N) uk (how:=how.tdiv 4) (n:=n) (at_:=at_.tdiv 12) (Kw h1 (by omega) (by omega)) (Kw h3 (by omega) (by omega));have hv':Fo N (Ao f k).1 (Ao f k).2.1 (Ao f k).2.2.1 (Ao f k).2.2.2.1 (Ao f k).2.2.2.2.1 (Ao f k).2.2.2.2.2 (how.tdiv 4) n (at_.tdiv 12)=some (v.1,v.2.1,v.2.2.1,v.2.2.2.1,v.2.2.2.2.1,v.2.2.2.2.2):=hv;rw[AG _ (dC c0),Cq hk,bS];simp only;rw[Aa (Kw h1 (by omega) (by omega)),Aa (Kw h3 (by omega) (by omega)),hv',bS];exact⟨_,rfl,by rw[zN];omega,set_ok _ sh vl⟩
 rw[Az _ (dJ c0)];by_cases c1:pk how 4=1
 ·have hcp:Bd N (Ao f k).1 (Ao f k).2.1 (Ao f k).2.2.1 (Ao f k).2.2.2.1 (Ao f k).2.2.2.2.1 (Ao f k).2.2.2.2.2=some ((Ao f k).1,(Ao f k).2.1,(Ao f k).2.2.1,(Ao f k).2.2.2.1,(Ao f k).2.2.2.2.1,(Ao f k).2.2.2.2.2):=I7 N (by omega);rw[AG _ (dC c1),Cq hk,bS];simp only;rw[hcp,bS];simp only;rw[Aa (by omega)];exact⟨_,rfl,by simp;omega,λu hu=>by
   rcases lO.1 hu with q|q
   ·exact sh u q
   ·rw[y9.1 q];exact sh _ (Bi hk)⟩
 rw[Az _ (dJ c1)];by_cases c2:pk how 4=2
 ·have k1:=@Gu n 9 (by omega);have k2:=@Gu (n.tdiv 9) 9 (by omega);obtain⟨⟨r1,r2⟩,_,e2,e3⟩:=TV (N:=N) (by omega) (Ao f k).2.2.2.1 (pk n 9-4) (pk (n.tdiv 9) 9-4);rw[AG _ (dC c2),Cq hk,bS];simp only;rw[GV h2 (by omega),bS,Aa (by unfold Ab;omega),Aa (Kw h2 (by omega) (by omega)),GV (Kw h2 (by omega) (by omega)) (by omega),bS,Aa (by unfold Ab;omega),e2,bS];exact⟨_,rfl,by rw[zN];omega,set_ok _ sh (by have e4:r1.length<=8:=e3;show r1.length<=9;omega)⟩
 ·have u0:=Bi (f:=f) (k:=0) (by omega);have n0:AA f 0=some ((Ao f 0).1,(Ao f 0).2.1,(Ao f 0).2.2.1,(Ao f 0).2.2.2.1,(Ao f 0).2.2.2.2.1,(Ao f 0).2.2.2.2.2):=Cq (f:=f) (k:=0) (by omega);obtain⟨w,hw⟩:∃w,AA (f.set 0 ((Ao f k).1,(Ao f k).2.1,(Ao f k).2.2.1,(Ao f k).2.2.2.1,(Ao f k).2.2.2.2.1,(Ao f k).2.2.2.2.2)) (k:Int)=some w:=⟨_,Km V6 (by omega) (by rw[zN];omega)⟩
  rw[Az _ (dJ c2),Cq hk,bS];simp only;rw[n0,bS];simp only;rw[hw,bS];exact⟨_,rfl,by rw[zN,zN];omega,set_ok _ (set_ok _ sh (sh _ (Bi hk))) (sh _ u0)⟩
theorem eK(N:Nat)(raw:List Un):∀n i (l:List Un),i<=4->4<n+i->l.length<=i->(∀u∈l,u.2.2.2.1.length<=9)->∃g,BP N raw n (i:Nat) l=some g/\g.length<=4/\∀u∈g,u.2.2.2.1.length<=9
 |0,i,l,h1,h2,_,_=>by omega
 |n+1,i,l,h1,h2,h3,h4=>by
  rw[BP];by_cases c:i<raw.length/\i<4
  ·rw[Ch c.1,Xi,dC (p:=(i:Int)<4) (by omega),cT,Cq c.1,bS];simp only;rw[Aa (by omega),Aa (by omega),Aa (by unfold Ab;omega),<-ns];exact eK N raw n (i+1) _ (by omega) (by omega) (by simp;omega) λu hu=>by
    rcases lO.1 hu with q|q
    ·exact h4 u q
    ·rw[y9.1 q];show(List.take _ _).length<=9;rw[w8];omega
  ·rw[Az _ (by rw[KV,eS,eS];omega)];exact⟨l,rfl,by omega,h4⟩
theorem Wb{N:Nat}(hN:1001<=N)(hN2:N<=100000){s:List UInt8}{k c:Int}{t:List UInt8}(hk:0<=k/\k<s.length)(hs:s.length<=100000):∀n (i:Nat),i<=5->5<n+i->BQ N s k c t n (i:Nat)=some (.inl ())
 |0,i,h1,h2=>by omega
 |n+1,i,h1,h2=>by
  rw[BQ];by_cases e:i=5
  ·subst e;rw[Az _ (dJ (by omega))]
  ·have lens:∀z∈[s,(s.take k.toNat++[UInt8.ofNat c.toNat])++s.drop (k+1).toNat,s.take k.toNat,s++t.take (min (t.length:Int) 100).toNat,t.take (min (t.length:Int) 100).toNat],z.length<=1000000:=by intro z hz;simp only[lJ,List.not_mem_nil,or_false]at hz;rcases hz with rfl|rfl|rfl|rfl|rfl<;>(try simp only[fF,w8,s9,KU])<;>omega
   have zl:[s,(s.take k.toNat++[UInt8.ofNat c.toNat])++s.drop (k+1).toNat,s.take k.toNat,s++t.take (min (t.length:Int) 100).toNat,t.take (min (t.length:Int) 100).toNat].length=5:=rfl;rw[AG _ (dC (by omega))];generalize [s,(s.take k.toNat++[UInt8.ofNat c.toNat])++s.drop (k+1).toNat,s.take k.toNat,s++t.take (min (t.length:Int) 100).toNat,t.take (min (t.length:Int) 100).toNat]=zs at lens zl⊢;have hi:i<zs.length:=by omega
   have zb:=lens _ (S7 hi);rw[C7,eV hi,bS];generalize zs[i]=z at zb;rw[AdF hN (by omega),Aay hN (by omega),bS];have same:∀{g:List Un},FV g->AD N g g=some true:=λ{g} gv=>by rw[qJ hN2 g (by have:=gv.len;omega) (λu hu=>by have:=gv.shp u hu;omega),dC rfl]
   cases hd:Ou z with
   |none=>simp only;rw[bS];simp only;rw[same eF,A8 (λ_=>fD),Az _ (by rfl),Aa (by unfold Ab;omega),<-ns];exact Wb hN hN2 hk hs n (i+1) (by omega) (by omega)
   |some g=>simp only;rw[bS];simp only;rw[same (eH hd).1,A8 (λ_=>fD),Az _ (by rfl),Aa (by unfold Ab;omega),<-ns];exact Wb hN hN2 hk hs n (i+1) (by omega) (by omega)
theorem uO(x:List (Int×Int×Int×Int×Int×Int))(b0 b1 b2:Int)(raw:List Un)(o0 o1 o2:Int)(o3:List Pt)(o4 o5 y0 y1 y2 y3 y4 y5 id dx dy place c:Int)(text:List UInt8)(hx:I6 x)(h0:Ab b0)(h1:Ab b1)(h2:Ab b2)(g0:Ab y0)(g1:Ab y1)(g2:Ab y2)(g3:Ab y3)(g4:Ab y4)(g5:Ab y5)(hid:Ab id)(hdx:Ab dx)(hdy:Ab dy)(hp:Ab place):Du 2000 x b0 b1 b2 raw o0 o1 o2 o3 o4 o5 y0 y1 y2 y3 y4 y5 id dx dy place c text=some true:=by
 unfold Du;obtain⟨f,hf,fv⟩:=Py (N:=2000) (by omega) hx;obtain⟨g,hg,gl,gs⟩:=Aar (N:=2000) (by omega) fv h0 h1 h2;obtain⟨r,hr,rl,rs⟩:=eK 2000 raw 2000 0 [] (by omega) (by omega) (by simp) (by simp);obtain⟨u,hu,uv⟩:=Wa (N:=2000) hid g0 g1 g2 g3 g4 g5;have hu':B7 2000 id y0 y1 y2 y3 y4 y5=some (u.1,u.2.1,u.2.2.1,u.2.2.2.1,u.2.2.2.2.1,u.2.2.2.2.2):=hu;have hl:=fv.len;have u8:=uv.l.l8;have el:=mF fv;have k1:=@Gu id 40 (by omega);have k2:=@Gu dx 17 (by omega);have k3:=@Gu dy 17 (by omega);have k4:=@Gu place (I8 f).length (by omega);have ol:(o3.take ((min (o3.length:Int) 9).toNat-0)).length<=1000:=by rw[w8];omega
 have A:∀(f:List Un),f.length<=1000->∀a b c,Bp 2000 f o0 o1 o2 (o3.take ((min (o3.length:Int) 9).toNat-0)) o4 o5 a b c=some true:=λf hf a b c=>Ww (N:=2000) (by omega) (by omega) hf (u:=(o0,o1,o2,o3.take ((min (o3.length:Int) 9).toNat-0),o4,o5)) ol a b c
 have B:∀(f:List Un),f.length<=1000->∀a b c,Bp 2000 f u.1 u.2.1 u.2.2.1 u.2.2.2.1 u.2.2.2.2.1 u.2.2.2.2.2 a b c=some true:=λf hf a b c=>Ww (N:=2000) (by omega) (by omega) hf (by omega) a b c
 have L:=Wb (N:=2000) (by omega) (by omega) (s:=I8 f) (k:=pk place (I8 f).length) (c:=c) (t:=text) k4 (by omega) 2000 0 (by omega) (by omega);rw[mK]at hr L;have l1:((I8 f).take (pk place (I8 f).length).toNat).length<=20000:=by rw[w8];omega
 have l2:((I8 f).drop (pk place (I8 f).length+1).toNat).length<=20000:=by rw[s9];omega
 have l3:(text.take (min (text.length:Int) 100).toNat).length<=100:=by rw[w8];omega
 rw[Wv,bS,Az _ (by rfl),hf,bS,hg,bS,hr,bS,Aa (by omega),hu',bS];simp only;rw[V9 hid (by omega),bS,V9 hdx (by omega),bS,Aa (by unfold Ab;omega),V9 hdy (by omega),bS,Aa (by unfold Ab;omega),B f (by omega),bS,A f (by omega),A8 (λ_=>fD),B g (by omega),A8 (λ_=>fD),A r (by omega),A8 (λ_=>fD),Az _ (by rfl),fH (by omega),eX fv,bS];simp only;rw[V9 hp (by omega),bS,Aa (by omega),Aa (by omega),Aa (by rw[fF,KU];omega),Aa (by unfold Ab;omega),Aa (by omega),Aa (by rw[fF,fF,KU];omega),Aa (by omega),Aa (by rw[fF];omega),L,bS]
