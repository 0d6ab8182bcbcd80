import Derived.Test.YtciphecegkfaiaaGreatN4
set_option linter.unusedSimpArgs false
set_option linter.unusedVariables false
set_option linter.unusedSectionVars false
namespace Go.Proofs.YtciphecegkfaiaaGreat.Am
noncomputable instance(f g:List Un):Decidable (f=g):=Classical.propDecidable _
theorem mS{N:Nat}{a b c a' b' c':Int}{l l':List Pt}{p q p' q':Int}(hl:l.length<N)(hN:N<=100000):BZ N a b c l p q a' b' c' l' p' q'=some (decide ((a,b,c,l,p,q)=(a',b',c',l',p',q'))):=by
 unfold BZ;by_cases h:a=a'/\b=b'/\c=c'/\p=p'/\q=q'/\l.length=l'.length
 ·obtain⟨rfl,rfl,rfl,rfl,rfl,hlen⟩:=h;rw[Az _ (by simp[hlen])]
  let f:Nat->Option Bool:=λi=>if pa l i=pa l' i then none else some false
  have step:∀n (k:Nat),k<l.length->CN N l l' (n+1) k=(match f k with|some r=>some (.inr r)|none=>CN N l l' n ((k+1:Nat):Int)):=λn k hk=>by
   rw[CN,Ch hk,cT,DI hk,bS];simp only;rw[DI (by omega),bS];simp only;by_cases e:pa l k=pa l' k
   ·rw[Az _ (by simp[e]),show f k=none from eX e,Aa (by unfold Ab;omega),ns]
   ·rw[AG _ (by
     rw[zT,KV];simp only[eS];by_cases h1:(pa l k).1=(pa l' k).1
     ·exact .inr λh2=>e (Rl h1 h2)
     ·exact .inl h1),show f k=some false from eW e]
  have F:=Hh (L:=CN N l l') (len:=l.length) f (λn k hk e=>by rw[step n k hk,e]) (λn k r hk e=>by rw[step n k hk,e]) (λn=>by rw[CN,CT,cF]) N (by omega);rcases F with⟨e,hf⟩|⟨j,r,hj,hf,_,e⟩
  ·rw[e,bS];have:l=l':=List.ext_getElem hlen λi h1 h2=>by
    have:=hf i h1;by_cases hp:pa l i=pa l' i
    ·rw[D2 h1,D2 h2]at hp;exact hp
    ·rw[show f i=some false from eW hp]at this;cases this
   subst this;simp
  ·rw[e,bS];have hne:¬l=l':=λe=>by subst e;rw[show f j=none from eX rfl]at hf;cases hf
   by_cases hp:pa l j=pa l' j
   ·rw[show f j=none from eX hp]at hf;cases hf
   ·rw[show f j=some false from eW hp]at hf;cases hf
    simp[hne]
 ·rw[AG _ (by
   simp only[tV,eR];by_cases h1:a=a'
   ·by_cases h2:b=b'
    ·by_cases h3:c=c'
     ·by_cases h4:p=p'
      ·by_cases h5:q=q'
       ·exact .inr λh6=>h ⟨h1,h2,h3,h4,h5,by omega⟩
       ·exact .inl (.inr h5)
      ·exact .inl (.inl (.inr h4))
     ·exact .inl (.inl (.inl (.inr h3)))
    ·exact .inl (.inl (.inl (.inl (.inr h2))))
   ·exact .inl (.inl (.inl (.inl (.inl h1)))))]
  congr 1;symm;refine dJ λe=>h ?_
  simp only[Wt]at e;obtain⟨rfl,rfl,rfl,rfl,rfl,rfl⟩:=e;simp
theorem ZX{N:Nat}(hN:N<=100000){u:Un}(hu:u.2.2.2.1.length<N)(v:Un):BZ N u.1 u.2.1 u.2.2.1 u.2.2.2.1 u.2.2.2.2.1 u.2.2.2.2.2 v.1 v.2.1 v.2.2.1 v.2.2.2.1 v.2.2.2.2.1 v.2.2.2.2.2=some (decide (u=v)):=mS hu hN
theorem uW{N:Nat}(hN:N<=100000){f g:List Un}(hl:f.length=g.length)(h2:f.length<N)(hf:∀u∈f,u.2.2.2.1.length<N):CO N f g N 0=some (if f=g then .inl ()else .inr false):=by
 have F:=Hh (L:=CO N f g) (len:=f.length) (λk=>if Ao f k=Ao g k then none else some false) (λn k hk e=>?_) (λn k r hk e=>?_) (λn=>?_) N h2
 ·rcases F with⟨e,h⟩|⟨j,r,hj,h,_,e⟩
  ·rw[e,eX];refine List.ext_getElem hl λk h1 h2=>?_
   have:=h k h1;rw[<-Cj h1,<-Cj h2];by_cases c:Ao f k=Ao g k
   ·exact c
   ·rw[eW c]at this;cases this
  ·by_cases c:Ao f j=Ao g j
   ·rw[eX c]at h;cases h
   ·rw[eW c]at h;cases h
    rw[e,eW λq=>c (by rw[q])]
 ·by_cases c:Ao f k=Ao g k
  ·rw[CO,Ch hk,cT,Cq hk,bS];simp only;rw[Cq (by omega),bS];simp only;rw[ZX hN (hf _ (Bi hk)),bS,dC c,Az _ (by rfl),Aa (by unfold Ab;omega),ns]
  ·rw[eW c]at e;cases e
 ·by_cases c:Ao f k=Ao g k
  ·rw[eX c]at e;cases e
  ·rw[eW c]at e;cases e
   rw[CO,Ch hk,cT,Cq hk,bS];simp only;rw[Cq (by omega),bS];simp only;rw[ZX hN (hf _ (Bi hk)),bS,dJ c,AG _ (by rfl)]
 ·rw[CO,CT,cF]
theorem qJ{N:Nat}(hN:N<=100000){f:List Un}(g:List Un)(h2:f.length<N)(hf:∀u∈f,u.2.2.2.1.length<N):AD N f g=some (decide (f=g)):=by
 unfold AD;by_cases c:f.length=g.length
 ·rw[Az _ (by rw[eS];omega),uW hN c h2 hf,bS];by_cases e:f=g
  ·rw[eX e,dC e]
  ·rw[eW e,dJ e]
 ·rw[AG _ (by rw[eR];omega),dJ λe=>c (by rw[e])]
theorem FV.shp{f:List Un}(h:FV f):∀u∈f,u.2.2.2.1.length<1000:=λu hu=>by have:=(h.val u hu).l.l8;omega
