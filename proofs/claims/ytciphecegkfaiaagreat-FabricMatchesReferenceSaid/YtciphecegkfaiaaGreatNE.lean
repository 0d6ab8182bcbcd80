import Derived.Test.YtciphecegkfaiaaGreatNC
set_option linter.unusedSimpArgs false
set_option linter.unusedVariables false
set_option linter.unusedSectionVars false
namespace Go.Proofs.YtciphecegkfaiaaGreat.Am
theorem Wf{E:Type}[DecidableEq E]{L:Nat->Int->Option (Sum Unit Bool)}{a b:List E}(hl:a.length=b.length)(step:∀n k (ha:k<a.length) (hb:k<b.length),L (n+1) (k:Nat)=if a[k]=b[k]then L n ((k+1:Nat):Int)else some (.inr false))(fin:∀n,L (n+1) (a.length:Nat)=some (.inl ())):∀n k,k<=a.length->a.length<n+k->L n (k:Nat)=some (if a.drop k=b.drop k then .inl ()else .inr false)
 |0,k,h1,h2=>by omega
 |n+1,k,h1,h2=>by
  by_cases e:k=a.length
  ·subst e;rw[fin,w5,hl,w5,eX rfl]
  ·have ha:k<a.length:=by omega
   have hb:k<b.length:=by omega
   rw[step n k ha hb,mL ha,mL hb];by_cases c:a[k]=b[k]
   ·rw[eX c,Wf hl step fin n (k+1) (by omega) (by omega),c];congr 1;by_cases d:a.drop (k+1)=b.drop (k+1)
    ·rw[eX d,eX (by rw[d])]
    ·rw[eW d,eW λq=>d (List.cons.inj q).2]
   ·rw[eW c,eW λq=>c (List.cons.inj q).1]
theorem Qg{E:Type}[DecidableEq E]{L:Nat->Int->Option (Sum Unit Bool)}{a b:List E}{N:Nat}(hN:a.length<N)(step:∀n k (ha:k<a.length) (hb:k<b.length),L (n+1) (k:Nat)=if a[k]=b[k]then L n ((k+1:Nat):Int)else some (.inr false))(fin:∀n,L (n+1) (a.length:Nat)=some (.inl ())):(bif decide ((a.length:Int)≠(b.length:Int))then some false else(L N 0).bind λo=>match o with|.inl ()=>some true|.inr r=>some r)=some (decide (a=b)):=by
 by_cases hl:a.length=b.length
 ·have:=Wf hl step fin N 0 (by omega) (by omega);rw[mK,uP,uP]at this;rw[Az _ (dJ (by omega)),this,bS];by_cases c:a=b
  ·rw[eX c,dC c]
  ·rw[eW c,dJ c]
 ·rw[AG _ (dC (by omega)),dJ λe=>hl (by rw[e])]
section
variable{N:Nat}(hN:N<=100000)
include hN
theorem Wh{a:List Int}(b:List Int)(h:a.length<N):Ds N a b=some (decide (a=b)):=by
 refine Qg (L:=DS N a b) h (λn k ha hb=>?_) λn=>?_
 ·rw[DS,Ch ha,cT,C7,eV ha,bS,C7,eV hb,bS];by_cases c:a[k]=b[k]
  ·rw[Az _ (dJ (by simpa using c)),eX c,Aa (by unfold Ab;omega),ns]
  ·rw[AG _ (dC c),eW c]
 ·rw[DS,CT,cF]
theorem eN{a:List (Int×Int)}(b:List (Int×Int))(h:a.length<N):BA N a b=some (decide (a=b)):=by
 refine Qg (L:=CR N a b) h (λn k ha hb=>?_) λn=>?_
 ·rw[CR,Ch ha,cT,C7,eV ha,bS,C7,eV hb];generalize a[k]=x;generalize b[k]=y;obtain⟨x1,x2⟩:=x;obtain⟨y1,y2⟩:=y;simp only;rw[bS];simp only;by_cases c:(x1,x2)=(y1,y2)
  ·have c':=Prod.mk.inj c;rw[Az _ (by rw[dC c'.1,dC c'.2];rfl),eX c,Aa (by unfold Ab;omega),ns]
  ·rw[AG _ (by rw[zT,KV,eS,eS];by_cases q:x1=y1;exact .inr λr=>c (by rw[q,r]);exact .inl q),eW c]
 ·rw[CR,CT,cF]
theorem mI{a:List EX}(b:List EX)(h:a.length<N):AU N a b=some (decide (a=b)):=by
 refine Qg (L:=Co N a b) h (λn k ha hb=>?_) λn=>?_
 ·rw[Co,Ch ha,cT,C7,eV ha,bS,C7,eV hb];generalize a[k]=x;generalize b[k]=y;obtain⟨x1,x2,⟨⟨x3,x4⟩,x5,x6⟩,x7,x8⟩:=x;obtain⟨y1,y2,⟨⟨y3,y4⟩,y5,y6⟩,y7,y8⟩:=y;simp only;rw[bS];simp only;by_cases c:((x1,x2,((x3,x4),x5,x6),x7,x8):EX)=(y1,y2,((y3,y4),y5,y6),y7,y8)
  ·have c':=c;simp only[Wt]at c';obtain⟨c1,c2,⟨⟨c3,c4⟩,c5,c6⟩,c7,c8⟩:=c';rw[Az _ (by rw[dC c1,dC c2,dC c3,dC c4,dC c5,dC c6,dC c7,dC c8];rfl),eX c,Aa (by unfold Ab;omega),ns]
  ·rw[AG _ (by rw[zT,w6];intro q;simp only[lP,eR]at q;obtain⟨c1,c2,c3,c4,c5,c6,c7,c8⟩:=q;exact c (by rw[c1,c2,c3,c4,c5,c6,c7,c8])),eW c]
 ·rw[Co,CT,cF]
theorem mJ{a:List (List Int)}(b:List (List Int))(h:a.length<N)(h2:∀l∈a,l.length<N):Ce N a b=some (decide (a=b)):=by
 refine Qg (L:=CG N a b) h (λn k ha hb=>?_) λn=>?_
 ·rw[CG,Ch ha,cT,C7,eV ha,bS,C7,eV hb,bS,Wh hN _ (h2 _ (S7 ha)),bS];by_cases c:a[k]=b[k]
  ·rw[dC c,Az _ (by rfl),eX c,Aa (by unfold Ab;omega),ns]
  ·rw[dJ c,AG _ (by rfl),eW c]
 ·rw[CG,CT,cF]
end
def Ox(u:Un):Int:=Hi u.2.2.2.1*(u.2.2.2.2.2-u.2.2.2.2.1)
theorem Wi{u:Un}(h:UV u): -128000000<=Ox u/\Ox u<=128000000:=by have:=PJ (x:=Hi u.2.2.2.1) (y:=u.2.2.2.2.2-u.2.2.2.2.1) (A:=16000000) (B:=8) (VS h.l) (by have:=h.d;omega) (by omega);unfold Ox;omega
noncomputable def Nl(f:List Un):Int:=(f.map Ox).sum
theorem Wj{N:Nat}(hN:1001<=N){f:List Un}(h:FV f):∀n i (o:Int),i<=f.length->f.length<n+i->(-128000000*i<=o/\o<=128000000*i)->Fb N f n o (i:Nat)=some (o+Nl (f.drop i))
 |0,i,o,h1,h2,_=>by omega
 |n+1,i,o,h1,h2,h3=>by
  have hl:=h.len;rw[Fb];by_cases e:i=f.length
  ·subst e;rw[CT,cF,w5];unfold Nl;simp
  ·have hi:i<f.length:=by omega
   have u:=h.val _ (Bi hi);have vb:=Wi u;rw[Ch hi,cT,Cq hi,bS];simp only;rw[WS (by omega) u,bS,show Hi (Ao f i).2.2.2.1*((Ao f i).2.2.2.2.2-(Ao f i).2.2.2.2.1)=Ox (Ao f i)from rfl,Aa (by unfold Ab;omega),Aa (by unfold Ab;omega),<-ns,Wj hN h n (i+1) _ (by omega) (by omega) (by omega),mL hi,<-Cj hi];unfold Nl;rw[eZ,List.sum_cons,Int.add_assoc]
theorem AdG{N:Nat}(hN:1001<=N){f:List Un}(h:FV f):A7 N f=some (Nl f):=by have hl:=h.len;have L:=Wj hN h N 0 0 (by omega) (by omega) (by omega);rw[mK,uP,X3]at L;unfold A7;rw[Jy hN,bS,dC h,Az _ (by rfl),L,bS]
def kp(d:Pt)(c:EX):Bool:=decide (d.2=0)||decide (c.2.1≠-1)
