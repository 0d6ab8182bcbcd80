import Derived.Test.YtciphecegkfaiaaGreatNC
import Derived.Test.YtciphecegkfaiaaGreatMI
import Derived.Test.YtciphecegkfaiaaGreatL3
set_option linter.unusedSimpArgs false
set_option linter.unusedVariables false
set_option linter.unusedSectionVars false
namespace Go.Proofs.YtciphecegkfaiaaGreat.Am
def Hl(c:EX):Option (Int×Int):=if c.2.2.1.1.1<c.2.2.1.2.1 then some (c.1,c.2.1)else if c.2.2.1.2.1<c.2.2.1.1.1 then some (c.2.1,c.1)else none
noncomputable def Hm(f:List Un):List (Int×Int):=OC HI ((BX f).filterMap Hl)
theorem Su(N:Nat){cs:List EX}(hc:cs.length<=1000):∀n i l,i<=cs.length->cs.length<n+i->l.length<=i->Eo N cs n (i:Nat) l=some (l++(cs.drop i).filterMap Hl)
 |0,i,l,h1,h2,_=>by omega
 |n+1,i,l,h1,h2,h3=>by
  rw[Eo];by_cases e:i=cs.length
  ·subst e;rw[CT,cF,w5];simp
  ·have hi:i<cs.length:=by omega
   rw[Ch hi,cT,C7,eV hi,bS,mL hi,List.filterMap_cons];generalize cs[i]=c;obtain⟨c1,c2,⟨⟨c3,c4⟩,c5,c6⟩,c7,c8⟩:=c;simp only[Hl];rw[LP,bS];by_cases k1:c3<c5
   ·rw[eX k1,AG _ (by rfl),eX k1,Aa (by omega),Aa (by unfold Ab;omega),<-ns,Su N hc n (i+1) _ (by omega) (by omega) (by simp;omega),qV];rfl
   ·rw[eW k1,eW k1];by_cases k2:c5<c3
    ·rw[eX k2,Az _ (by rfl),AG _ (by rfl),eX k2,Aa (by omega),Aa (by unfold Ab;omega),<-ns,Su N hc n (i+1) _ (by omega) (by omega) (by simp;omega),qV];rfl
    ·rw[eW k2,Az _ (by rfl),Az _ (by rfl),eW k2,Aa (by unfold Ab;omega),<-ns,Su N hc n (i+1) _ (by omega) (by omega) (by omega)]
theorem OA{f:List Un}(h:FV f):(BX f).length<=1000:=by have hl:=h.len;have pl:=M1 f;have q:f.length*f.length<=12*12:=Nat.mul_le_mul hl hl;have fl:=Lk EW f;have:=Lk (λe:Un×Un=>Ey e.1 e.2) (B1 f);rw[<-(I9 f).length_eq];unfold KR;rw[fF];omega
theorem fE{N:Nat}(hN:1001<=N)(f:List Un):Ck N f=some (if FV f then Hm f else[]):=by
 unfold Ck;rw[Jy hN,bS];by_cases h:FV f
 ·have L:=Su N (OA h) N 0 [] (by omega) (by have:=OA h;omega) (by simp);have len:=Lk Hl (BX f);have cl:=OA h;rw[mK,uP,nJ]at L;rw[dC h,Az _ (by rfl),ZQ hN h,bS,L,bS,Aa (by omega),eX h,Yx];rfl
 ·rw[dJ h,AG _ (by rfl),eW h]
theorem M2(f:List Un):(Hm f).Perm ((BX f).filterMap Hl):=Jb HI _
theorem UM{f:List Un}(h:0<f.length)(c:Int):∃i:Nat,pk c f.length=i/\i<f.length:=by have:=@Gu c f.length (by omega);exact⟨(pk c f.length).toNat,by omega,by omega⟩
