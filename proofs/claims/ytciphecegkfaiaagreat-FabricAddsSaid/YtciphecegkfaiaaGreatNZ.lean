import Derived.Test.YtciphecegkfaiaaGreatN4
namespace Go.Proofs.YtciphecegkfaiaaGreat.Am
set_option linter.unusedSimpArgs false
set_option linter.unusedVariables false
set_option linter.unusedSectionVars false
noncomputable instance (f g:List Un):Decidable (f=g):=Classical.propDecidable _
theorem rJ {N:Nat} {a b c a' b' c':Int} {l l':List Pt} {p q p' q':Int} (hl:l.length<N) (hN:N≤100000):Ep N a b c l p q a' b' c' l' p' q'=some (decide ((a,b,c,l,p,q)=(a',b',c',l',p',q'))):=by
 unfold Ep
 by_cases h:a=a'∧b=b'∧c=c'∧p=p'∧q=q'∧l.length=l'.length
 ·obtain⟨rfl,rfl,rfl,rfl,rfl,hlen⟩:=h
  rw[cF' _ (by simp[hlen])]
  let f:Nat→Option Bool:=fun i=>if pa l i=pa l' i then none else some false
  have step:∀n (k:Nat),k<l.length→Cm N l l' (n+1) k=(match f k with|some r=>some (.inr r)|none=>Cm N l l' n ((k+1:Nat):Int)):=fun n k hk=>by
   rw[Cm,dlt hk,cT,C5 hk,bS]
   simp only
   rw[C5 (by omega),bS]
   simp only
   by_cases e:pa l k=pa l' k
   ·rw[cF' _ (by simp[e]),show f k=none from if_pos e,Ab (by unfold I64;omega),ns]
   ·rw[cT' _ (by
     rw[Bool.not_eq_true',Bool.and_eq_false_iff]
     simp only[decide_eq_false_iff_not]
     by_cases h1:(pa l k).1=(pa l' k).1
     ·exact .inr fun h2=>e (Prod.ext h1 h2)
     ·exact .inl h1),show f k=some false from if_neg e]
  have F:=GB (L:=Cm N l l') (len:=l.length) f (fun n k hk e=>by rw[step n k hk,e]) (fun n k r hk e=>by rw[step n k hk,e]) (fun n=>by rw[Cm,dge,cF]) N (by omega)
  rcases F with⟨e,hf⟩|⟨j,r,hj,hf,_,e⟩
  ·rw[e,bS]
   have:l=l':=List.ext_getElem hlen fun i h1 h2=>by
    have:=hf i h1
    by_cases hp:pa l i=pa l' i
    ·rw[C9 h1,C9 h2] at hp;exact hp
    ·rw[show f i=some false from if_neg hp] at this;cases this
   subst this
   simp
  ·rw[e,bS]
   have hne:¬l=l':=fun e=>by
    subst e
    rw[show f j=none from if_pos rfl] at hf
    cases hf
   by_cases hp:pa l j=pa l' j
   ·rw[show f j=none from if_pos hp] at hf;cases hf
   ·rw[show f j=some false from if_neg hp] at hf
    cases hf
    simp[hne]
 ·rw[cT' _ (by
   simp only[Bool.or_eq_true,decide_eq_true_eq]
   by_cases h1:a=a'
   ·by_cases h2:b=b'
    ·by_cases h3:c=c'
     ·by_cases h4:p=p'
      ·by_cases h5:q=q'
       ·exact .inr fun h6=>h ⟨h1,h2,h3,h4,h5,by omega⟩
       ·exact .inl (.inr h5)
      ·exact .inl (.inl (.inr h4))
     ·exact .inl (.inl (.inl (.inr h3)))
    ·exact .inl (.inl (.inl (.inl (.inr h2))))
   ·exact .inl (.inl (.inl (.inl (.inl h1)))))]
  congr 1
  symm
  refine decide_eq_false fun e=>h ?_
  simp only[Prod.mk.injEq] at e
  obtain⟨rfl,rfl,rfl,rfl,rfl,rfl⟩:=e
  simp
theorem vD {N:Nat} (hN:N≤100000) {u:Un} (hu:u.2.2.2.1.length<N) (v:Un):Ep N u.1 u.2.1 u.2.2.1 u.2.2.2.1 u.2.2.2.2.1 u.2.2.2.2.2 v.1 v.2.1 v.2.2.1 v.2.2.2.1 v.2.2.2.2.1 v.2.2.2.2.2=some (decide (u=v)):=rJ hu hN
theorem vG {N:Nat} (hN:N≤100000) {f g:List Un} (hl:f.length=g.length) (h2:f.length<N) (hf:∀u∈f,u.2.2.2.1.length<N):Fl N f g N 0=some (if f=g then .inl () else .inr false):=by
 have F:=GB (L:=Fl N f g) (len:=f.length) (fun k=>if uat f k=uat g k then none else some false) (fun n k hk e=> ?_) (fun n k r hk e=> ?_) (fun n=> ?_) N h2
 ·rcases F with⟨e,h⟩|⟨j,r,hj,h,_,e⟩
  ·rw[e,if_pos]
   refine List.ext_getElem hl fun k h1 h2=> ?_
   have:=h k h1
   rw[←Fr h1,←Fr h2]
   by_cases c:uat f k=uat g k
   ·exact c
   ·rw[if_neg c] at this;cases this
  ·by_cases c:uat f j=uat g j
   ·rw[if_pos c] at h;cases h
   ·rw[if_neg c] at h;cases h
    rw[e,if_neg fun q=>c (by rw[q])]
 ·by_cases c:uat f k=uat g k
  ·rw[Fl,dlt hk,cT,GC hk,bS]
   simp only
   rw[GC (by omega),bS]
   simp only
   rw[vD hN (hf _ (FO hk)),bS,decide_eq_true c,cF' _ (by rfl),Ab (by unfold I64;omega),ns]
  ·rw[if_neg c] at e;cases e
 ·by_cases c:uat f k=uat g k
  ·rw[if_pos c] at e;cases e
  ·rw[if_neg c] at e;cases e
   rw[Fl,dlt hk,cT,GC hk,bS]
   simp only
   rw[GC (by omega),bS]
   simp only
   rw[vD hN (hf _ (FO hk)),bS,decide_eq_false c,cT' _ (by rfl)]
 ·rw[Fl,dge,cF]
theorem vN {N:Nat} (hN:N≤100000) {f:List Un} (g:List Un) (h2:f.length<N) (hf:∀u∈f,u.2.2.2.1.length<N):AD N f g=some (decide (f=g)):=by
 unfold AD
 by_cases c:f.length=g.length
 ·rw[cF' _ (by rw[decide_eq_false_iff_not];omega),vG hN c h2 hf,bS]
  by_cases e:f=g
  ·rw[if_pos e,decide_eq_true e]
  ·rw[if_neg e,decide_eq_false e]
 ·rw[cT' _ (by rw[decide_eq_true_eq];omega),decide_eq_false fun e=>c (by rw[e])]
theorem FV.shp {f:List Un} (h:FV f):∀u∈f,u.2.2.2.1.length<1000:=fun u hu=>by have:=(h.val u hu).l.l8;omega
end Go.Proofs.YtciphecegkfaiaaGreat.Am
