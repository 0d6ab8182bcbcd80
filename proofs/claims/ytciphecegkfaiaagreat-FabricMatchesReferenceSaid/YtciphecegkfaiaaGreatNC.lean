import Derived.Test.YtciphecegkfaiaaGreatN4
import Derived.Test.YtciphecegkfaiaaGreatU3
import Derived.Test.YtciphecegkfaiaaGreatNS
set_option linter.unusedSimpArgs false
set_option linter.unusedVariables false
set_option linter.unusedSectionVars false
noncomputable section
namespace Go.Proofs.YtciphecegkfaiaaGreat.Am
def Mv(u v:Un):EX×Bool:=MD u.1 v.1 u.2.2.2.1 v.2.2.2.1 u.2.2.2.2.1 u.2.2.2.2.2 v.2.2.2.2.1 v.2.2.2.2.2
def Ey(u v:Un):Option EX:=bif (Mv u v).2 then some (Mv u v).1 else none
theorem Ab0{u v:Un}(h:(Mv u v).2=false):Mv u v=(JV,false):=by
 unfold Mv MD at*;split at h
 ·rename_i c;rw[eX c];cases hs:(Fu u.2.2.2.1 v.2.2.2.1).2 with
  |true=>rw[hs,cT]at h;cases h
  |false=>rfl
 ·rename_i c;rw[eW c]
theorem qE{u v:Un}(h:(Mv u v).2=true):(Mv u v).1=(u.1,v.1,(Fu u.2.2.2.1 v.2.2.2.1).1,max u.2.2.2.2.1 v.2.2.2.2.1,min u.2.2.2.2.2 v.2.2.2.2.2)/\(Fu u.2.2.2.1 v.2.2.2.1).2=true/\max u.2.2.2.2.1 v.2.2.2.2.1<min u.2.2.2.2.2 v.2.2.2.2.2:=by
 unfold Mv MD at*;split at h
 ·rename_i c;rw[eX c];cases hs:(Fu u.2.2.2.1 v.2.2.2.1).2 with
  |true=>exact⟨rfl,rfl,c⟩
  |false=>rw[hs,cF]at h;cases h
 ·cases h
theorem Wc{u v:Un}{c:EX}(h:Ey u v=some c):(Mv u v).2=true/\c=(Mv u v).1:=by
 unfold Ey at h;cases hs:(Mv u v).2 with
 |true=>rw[hs,cT]at h;exact⟨rfl,(yJ h).symm⟩
 |false=>rw[hs,cF]at h;cases h
theorem F7{u v:Un}{c:EX}(h:Ey u v=some c):c.1=u.1/\c.2.1=v.1:=by obtain⟨h1,rfl⟩:=Wc h;rw[(qE h1).1];exact⟨rfl,rfl⟩
def PA(l:List Pt)(i:Nat):Prop:=i<l.length/\((pa l i).2=0/\(pa l ((i+1)%l.length)).2=0)
theorem mH{l:List Pt}(h:VP l){i k:Nat}(hi:PA l i)(hk:PA l k):i=k:=by
 have hy:∀p∈l,0<=p.2:=λx hx=>(h.on x hx).2.1
 have l3:=h.l3;have g:=(K8 h hy hi.1 hi.2.1 hi.2.2).2;by_cases e:k=i
 ·exact e.symm
 ·by_cases e1:k=(i+1)%l.length
  ·by_cases e2:(k+1)%l.length=i
   ·exfalso;rw[e1]at e2;by_cases e3:i+1<l.length
    ·rw[tT e3]at e2;by_cases e4:i+1+1<l.length
     ·rw[tT e4]at e2;omega
     ·rw[show i+1+1=l.length by omega,Nat.mod_self]at e2;omega
    ·have hi':=hi.1;rw[show i+1=l.length by omega,Nat.mod_self,tT (by omega)]at e2;omega
   ·have:=g ((k+1)%l.length) (uM _ (by omega)) e2 (by
     intro e3;rw[<-e1]at e3;have hk':=hk.1;by_cases e4:k+1<l.length
     ·rw[tT e4]at e3;omega
     ·rw[show k+1=l.length by omega,Nat.mod_self]at e3;omega)
    have:=hk.2.2;omega
  ·have:=g k hk.1 e e1;have:=hk.2.1;omega
open Classical in
def EW(u:Un):Option EX:=if h:∃i,PA u.2.2.2.1 i then some (u.1,-1,(pa u.2.2.2.1 (Classical.choose h),pa u.2.2.2.1 ((Classical.choose h+1)%u.2.2.2.1.length)),u.2.2.2.2.1,u.2.2.2.2.2)else none
theorem Sq{u:Un}(h:UV u){i:Nat}(hi:PA u.2.2.2.1 i):EW u=some (u.1,-1,(pa u.2.2.2.1 i,pa u.2.2.2.1 ((i+1)%u.2.2.2.1.length)),u.2.2.2.2.1,u.2.2.2.2.2):=by
 have hx:∃i,PA u.2.2.2.1 i:=⟨i,hi⟩
 unfold EW;rw[dif_pos hx,mH h.l (Classical.choose_spec hx) hi]
theorem PB{u:Un}(h:∀i,¬PA u.2.2.2.1 i):EW u=none:=by unfold EW;rw[dif_neg λ⟨i,hi⟩=>h i hi]
theorem J5{u:Un}{c:EX}(h:EW u=some c):c.1=u.1/\c.2.1= -1:=by
 unfold EW at h;split at h
 ·obtain rfl:=yJ h;exact⟨rfl,rfl⟩
 ·cases h
theorem Sr{N:Nat}(hN:100<=N){u:Un}(h:UV u):Ef N u.1 u.2.1 u.2.2.1 u.2.2.2.1 u.2.2.2.2.1 u.2.2.2.2.2=some (match EW u with|some c=>(c,true)|none=>(JV,false)):=by
 rcases SJ hN h with⟨e,hn⟩|⟨i,hi,hc,e⟩
 ·rw[e,PB λi hi=>hn i hi.1 hi.2];rfl
 ·rw[e,Sq h ⟨hi,hc⟩]
theorem ZP{N:Nat}(hN:1001<=N){u v:Un}(h:UV u)(h':UV v):Ff N u.1 u.2.1 u.2.2.1 u.2.2.2.1 u.2.2.2.2.1 u.2.2.2.2.2 v.1 v.2.1 v.2.2.1 v.2.2.2.1 v.2.2.2.2.1 v.2.2.2.2.2=some (match Ey u v with|some c=>(c,true)|none=>(JV,false)):=by
 rw[gX hN h h'];congr 1;show Mv u v=_;unfold Ey;cases hs:(Mv u v).2 with
 |true=>rw[cT];exact Rl rfl hs
 |false=>rw[cF];exact Ab0 hs
def KR(f:List Un):List EX:=f.filterMap EW++(B1 f).filterMap λe=>Ey e.1 e.2
def BX:List Un->List EX|[]=>[]|u::r=>(EW u).toList++(r.filterMap (Ey u)++BX r)
theorem I9:∀f:List Un,(KR f).Perm (BX f)
 |[]=>.refl _
 |u::r=>by
  have ih:=I9 r;unfold KR at ih⊢;have e1:(u::r).filterMap EW=(EW u).toList++r.filterMap EW:=by rw[List.filterMap_cons];cases EW u<;>rfl
  have e2:(B1 (u::r)).filterMap (λe=>Ey e.1 e.2)=r.filterMap (Ey u)++(B1 r).filterMap λe=>Ey e.1 e.2:=by rw[B1,List.filterMap_append,List.filterMap_map];rfl
  rw[e1,e2,BX,qV];refine List.Perm.append_left _ ?_;rw[<-qV];exact((List.perm_append_comm).append_right _).trans (by rw[qV];exact List.Perm.append_left _ ih)
theorem Ov{f:List Un}{c:EX}(h:c∈BX f):∃u∈f,c.1=u.1:=by
 induction f with
 |nil=>cases h
 |cons u r ih=>
  rw[BX]at h;rcases lO.1 h with h|h
  ·cases hs:EW u with
   |none=>rw[hs]at h;cases h
   |some d=>
    rw[hs]at h;have:c=d:=by simpa using h
    rw[this];exact⟨u,zW,(J5 hs).1⟩
  ·rcases lO.1 h with h|h
   ·obtain⟨v,hv,hc⟩:=List.mem_filterMap.1 h;exact⟨u,zW,(F7 hc).1⟩
   ·obtain⟨v,hv,e⟩:=ih h;exact⟨v,tO _ hv,e⟩
def Yn(x y:EX):Prop:=x.1<y.1\/x.1=y.1/\x.2.1<y.2.1
theorem Ow:∀{f:List Un},f.Pairwise (λu v=>u.1<v.1)->(∀u∈f,0<=u.1)->(BX f).Pairwise Yn
 |[],_,_=>List.Pairwise.nil
 |u::r,h,h0=>by
  rw[yI]at h;have ih:=Ow h.2 λv hv=>h0 v (tO _ hv)
  rw[BX,List.pairwise_append,List.pairwise_append];refine⟨?_,⟨?_,ih,λa ha b hb=>?_⟩,λa ha b hb=>?_⟩
  ·cases EW u<;>simp
  ·refine List.Pairwise.filterMap (Ey u) (R:=λu v=>u.1<v.1) ?_ h.2;intro v w hvw c hc d hd;have k1:=F7 hc;have k2:=F7 hd;exact .inr ⟨by omega,by omega⟩
  ·obtain⟨v,hv,hc⟩:=List.mem_filterMap.1 ha;obtain⟨w,hw,e⟩:=Ov hb;have k1:=F7 hc;have:=h.1 w hw;exact .inl (by omega)
  ·cases hs:EW u with
   |none=>rw[hs]at ha;cases ha
   |some d=>
    rw[hs]at ha;have e:a=d:=by simpa using ha
    have k:=J5 hs;rw[e];rcases lO.1 hb with hb|hb
    ·obtain⟨v,hv,hc⟩:=List.mem_filterMap.1 hb;have k1:=F7 hc;have:=h0 v (tO _ hv);exact .inr ⟨by omega,by omega⟩
    ·obtain⟨w,hw,e⟩:=Ov hb;have:=h.1 w hw;exact .inl (by omega)
theorem T4{l:List EX}(h:l.Pairwise Yn):(l.map λc=>(c.1,c.2.1)).Nodup:=by
 rw[List.Nodup,List.pairwise_map];refine h.imp λ{a b} h e=>?_
 unfold Yn at h;simp only[Wt]at e;omega
theorem FV.id0{f:List Un}(h:FV f):∀u∈f,0<=u.1:=λu hu=>(h.val u hu).a.1
theorem eL{f:List Un}(h:FV f):((KR f).map λc=>(c.1,c.2.1)).Nodup/\PI (KR f)=BX f:=by
 have hs:=Ow h.srt h.id0;have hn:((KR f).map λc=>(c.1,c.2.1)).Nodup:=((I9 f).map _).nodup_iff.2 (T4 hs);refine⟨hn,?_⟩;rw[Yw hn];refine List.Perm.eq_of_pairwise (le:=λa b=>OR a b=true) (λa b ha hb h1 h2=>?_) (NH fG Yv _) (hs.imp λ{a b} h=>?_) ((Jb OR _).trans (I9 f))
 ·have ha':=(Jb OR (KR f)).mem_iff.1 ha;have hb':=(I9 f).mem_iff.2 hb;rw[OE]at h1 h2;exact Td hn ha' hb' (by omega) (by omega)
 ·unfold Yn at h;rw[OE];omega
section
variable{N:Nat}(hN:1001<=N)
include hN
theorem Wd{f:List Un}(h:FV f):∀n i (l:List EX),i<=f.length->f.length<n+i->l.length<=i->Dw N f n i l=some (l++(f.drop i).filterMap EW)
 |0,i,l,h1,h2,_=>by omega
 |n+1,i,l,h1,h2,h3=>by
  have hl:=h.len;rw[Dw];by_cases e:i=f.length
  ·subst e;rw[CT,cF,w5];simp
  ·have hi:i<f.length:=by omega
   rw[Ch hi,cT,Cq hi,bS];simp only;rw[Sr (by omega) (h.val _ (Bi hi)),bS,mL hi,List.filterMap_cons,<-Cj hi];cases hs:EW (Ao f i)with
   |none=>simp only[JV];rw[cF,Aa (by unfold Ab;omega),<-ns];exact Wd h n (i+1) l (by omega) (by omega) (by omega)
   |some c=>obtain⟨c1,c2,⟨⟨c3,c4⟩,c5,c6⟩,c7,c8⟩:=c;simp only;rw[cT,Aa (by omega),Aa (by unfold Ab;omega),<-ns,Wd h n (i+1) _ (by omega) (by omega) (by simp;omega),qV];rfl
theorem We:∀(ys:List (Un×Un))(l:List EX),(∀e∈ys,UV e.1/\UV e.2)->l.length+ys.length<=1000->CF N ys l=some (l++ys.filterMap λe=>Ey e.1 e.2)
 |[],l,_,_=>by rw[CF];simp
 |((y29,y30,y31,y32,y33,y34),(y35,y36,y37,y38,y39,y40))::ys,l,h,hl=>by
  have hu:=h _ zW;have ht:=ZP hN hu.1 hu.2;rw[pC]at hl;simp only at ht;rw[CF,ht,bS,List.filterMap_cons];cases hs:Ey (y29,y30,y31,y32,y33,y34) (y35,y36,y37,y38,y39,y40)with
  |none=>simp only[JV];rw[cF];exact We ys l (λe he=>h e (tO _ he)) (by omega)
  |some c=>obtain⟨c1,c2,⟨⟨c3,c4⟩,c5,c6⟩,c7,c8⟩:=c;simp only;rw[cT,Aa (by omega),We ys _ (λe he=>h e (tO _ he)) (by rw[fF,KU];omega),qV];rfl
omit hN in
theorem M1{E:Type}:∀l:List E,(B1 l).length<=l.length*l.length
 |[]=>by simp[B1]
 |u::r=>by have:=M1 r;rw[B1,fF,p9,pC,Nat.add_mul,Nat.mul_add];omega
omit hN in
theorem T5{E:Type}{P:E->Prop}:∀{l:List E},(∀u∈l,P u)->∀e∈B1 l,P e.1/\P e.2
 |[],_,e,he=>by simp[B1]at he
 |u::r,h,e,he=>by
  rw[B1]at he;rcases lO.1 he with he|he
  ·obtain⟨v,hv,rfl⟩:=tI.1 he;exact⟨h u zW,h v (tO _ hv)⟩
  ·exact T5 (λv hv=>h v (tO _ hv)) e he
theorem ZQ{f:List Un}(h:FV f):Di N f=some (BX f):=by
 have hl:=h.len;have pl:=M1 f;have q:f.length*f.length<=12*12:=Nat.mul_le_mul hl hl;have e1:=Wd hN h N 0 [] (by omega) (by omega) (by simp);have fl:=Lk EW f;rw[mK,uP,nJ]at e1;unfold Di;rw[e1,bS,Aa (by omega),We hN (B1 f) _ (T5 h.val) (by omega),bS];have rl:(KR f).length<=1000:=by have:=Lk (λe:Un×Un=>Ey e.1 e.2) (B1 f);unfold KR;rw[fF];omega
 rw[show f.filterMap EW++(B1 f).filterMap (λe=>Ey e.1 e.2)=KR f from rfl,Aa (by omega),Aa (eL h).1,(eL h).2]
theorem T6(f:List Un):Be N f=some (if FV f then BX f else[]):=by
 unfold Be;rw[Jy hN,bS];by_cases h:FV f
 ·rw[dC h,Az _ (by rfl),ZQ hN h,bS,eX h]
 ·rw[dJ h,AG _ (by rfl),eW h]
end
