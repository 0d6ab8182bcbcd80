import Derived.Test.YtjdchfljifacoaaGreatF9
set_option linter.all false
set_option maxRecDepth 100000
set_option maxHeartbeats 8000000
namespace Go.Proofs.YtjdchfljifacoaaGreat.Am
section
def IT(p:List Un)(t:Int):Bool:=p.any λv=>decide (t<v.1)
def KY(p:List Un)(u:Un):List Un:=(p.filter λv=>decide (v.1<=u.1))++((bif IT p u.1 then[u]else[])++p.filter λv=>decide (u.1<v.1))
theorem ZW{p:List Un}{t:Int}(h:IT p t=false):(p.filter λv=>decide (t<v.1))=[]:=by rw[L5];grind[IT]
theorem YR{p:List Un}{u:Un}:(KY p u).length<=2*p.length+1:=by have h1:=List.length_filter_le (λv=>decide (v.1<=u.1)) p;have h2:=List.length_filter_le (λv=>decide (u.1<v.1)) p;unfold KY;cases IT p u.1<;>simp<;>omega
theorem tZ{f:List Un}(h:FV f){i:Nat}(hi:i<f.length):∀v∈f.take i,v.1<(A2 f i).1:=by grind[List.mem_take_iff_getElem,Fb,Lo,h.srt]
theorem KZ{f:List Un}{i:Nat}(hi:i<f.length):f.take (i+1)=f.take i++[A2 f i]:=by rw[List.take_succ_eq_append_getElem hi,Fb hi]
section
variable{N:Nat}(hN:1001<=N)
include hN
omit hN in
theorem Ur{f:List Un}(hf:FV f){u:Un}(hu:u.2.2.2.1.length<=1000):∀n i,i<=f.length->f.length<n+i->ES N f u.1 u.2.1 u.2.2.1 u.2.2.2.1 u.2.2.2.2.1 u.2.2.2.2.2 n (IT (f.take i) u.1) i (KY (f.take i) u)=some (IT f u.1,KY f u)
 |0,i,h1,h2=>by omega
 |n+1,i,h1,h2=>by
  have hl:=hf.len;rw[ES];by_cases e:i=f.length
  ·subst e;rw[F2,cF,KJ]
  ·have hi:i<f.length:=by omega
   have v8:=(hf.val _ (FH hi)).l.l8;have hlen:=YR (p:=f.take i) (u:=u);have ht:(f.take i).length=i:=by rw[tW];omega
   have tl:=tZ hf hi;rw[Dq hi,cT,BR (λ_=>by omega),tK,show f.getD i (0,0,0,[],0,0)=A2 f i from rfl];have key:(bif (!IT (f.take i) u.1)&&decide (u.1<(A2 f i).1)then
     (BY N u.1 u.2.1 u.2.2.1 u.2.2.2.1 u.2.2.2.2.1 u.2.2.2.2.2).bind λ(r106,r107,r108,r109,r110,r111)=>gd (((KY (f.take i) u).length+1)*64<=140737488355328)<|some (true,KY (f.take i) u++[(r106,r107,r108,r109,r110,r111)])
    else some (IT (f.take i) u.1,KY (f.take i) u))=some (IT (f.take (i+1)) u.1,bif (!IT (f.take i) u.1)&&decide (u.1<(A2 f i).1)then KY (f.take i) u++[u]else KY (f.take i) u):=by
    have g:IT (f.take (i+1)) u.1=(IT (f.take i) u.1||decide (u.1<(A2 f i).1)):=by rw[KZ hi];unfold IT;rw[List.any_append,List.any_cons,List.any_nil,Bool.or_false]
    rw[g];cases h3:IT (f.take i) u.1<;>cases h4:decide (u.1<(A2 f i).1)
    ·rfl
    ·rw[Iv,Kh,cT,cT,KX N hu,bS];grind[Ae]
    ·rfl
    ·rfl
   rw[key,bS];simp only;rw[Fs hi,bS];simp only;rw[KX N (by omega),bS];have e2:(bif (!IT (f.take i) u.1)&&decide (u.1<(A2 f i).1)then KY (f.take i) u++[u]else KY (f.take i) u)++[A2 f i]=KY (f.take (i+1)) u:=by
    have g:IT (f.take (i+1)) u.1=(IT (f.take i) u.1||decide (u.1<(A2 f i).1)):=by rw[KZ hi];unfold IT;rw[List.any_append,List.any_cons,List.any_nil,Bool.or_false]
    by_cases c:u.1<(A2 f i).1
    ·rw[aB c,Kh];unfold KY;rw[g,aB c,Bool.or_true,cT,KZ hi,yI,yI,List.filter_cons,dQ (by rw[bK];omega),List.filter_nil,qO,List.filter_cons,dW (by rw[bK];omega),List.filter_nil];cases h3:IT (f.take i) u.1 with
     |false=>rw[Iv,cT,cF,ZW h3,qO,qO,qZ];rfl
     |true=>rw[Jh,cF,cT,qZ,qZ]
    ·have h3:IT (f.take i) u.1=false:=by unfold IT;grind
     unfold KY;rw[g,bJ c,Bool.or_false,h3,cF,KZ hi,yI,yI,List.filter_cons,dW (by rw[bK];omega),List.filter_nil,List.filter_cons,dQ (by rw[bK];omega),List.filter_nil,qO,ZW h3];simp
   rw[Ae (by cases((!IT (f.take i) u.1)&&decide (u.1<(A2 f i).1))<;>simp<;>omega),Ae (by omega)];have e3:∀l:List Un,l++[((A2 f i).1,(A2 f i).2.1,(A2 f i).2.2.1,(A2 f i).2.2.2.1,(A2 f i).2.2.2.2.1,(A2 f i).2.2.2.2.2)]=l++[A2 f i]:=λl=>rfl
   rw[e3,e2,<-ns];exact Ur hf hu n (i+1) (by omega) (by omega)
theorem W3(f:List Un){u:Un}(hu:u.2.2.2.1.length<=1000):DK N f u.1 u.2.1 u.2.2.1 u.2.2.2.1 u.2.2.2.2.1 u.2.2.2.2.2=some (if Fit f u then(Gm f u,0)else([],120)):=by
 unfold DK;rw[SZ hN,bS];by_cases hf:FV f
 ·have hl:=hf.len;have L:=Ur (N:=N) hf hu N 0 (by omega) (by omega);have glen:=YR (p:=f) (u:=u);rw[aB hf,A1 _ (by rfl)];rw[List.take_zero,nL]at L;rw[show IT [] u.1=false from rfl,show KY [] u=[]from rfl]at L;rw[L,bS];simp only;have key:(bif !IT f u.1 then(BY N u.1 u.2.1 u.2.2.1 u.2.2.2.1 u.2.2.2.2.1 u.2.2.2.2.2).bind λ(r148,r149,r150,r151,r152,r153)=>gd (((KY f u).length+1)*64<=140737488355328)<|some (KY f u++[(r148,r149,r150,r151,r152,r153)])else some (KY f u))=some (N1 f u):=by
   cases h:IT f u.1 with
   |false=>rw[Iv,cT,KX N hu,bS];simp;rw[Ae (by omega)];unfold KY N1;rw[h,cF,ZW h,qO,qO]
   |true=>simp_all[KY,N1]
  rw[key,bS,SZ hN,bS];by_cases c:Fit f u
  ·rw[aB ((YQ hf).2 c),A1 _ (by rfl),dW c,Ty c.hi]
  simp_all[YQ]
 ·rw[bJ hf,AU _ (by rfl),dQ λh=>hf h.hf]
end
theorem IL{N:Nat}{c n:Int}(hc:Af c)(hn:0<n):Al N c n=some (pk c n):=by
 unfold Al pk;by_cases h:c<0
 ·rw[aB h,cT,dW h,Ae (by omega),Ae (by omega),Ae (by omega)]
 ·rw[bJ h,cF,dQ h,Ae (by omega)]
def vpT(l:List Pt):Bool:=((decide (3<=l.length)&&decide (l.length<=8))&&l.all λp=>decide (On p))&&(List.range l.length).all λi=>(List.range l.length).all λk=>decide (k=i)||(decide (k=(i+1)%l.length)||decide (0<Ao (pa l i) (pa l ((i+1)%l.length)) (pa l k)))
theorem AaF{l:List Pt}(h:vpT l=true):VP l:=by unfold vpT at h;simp only[nK,bK,List.all_eq_true,List.mem_range]at h;obtain⟨⟨⟨h1,h2⟩,h3⟩,h4⟩:=h;refine⟨h1,h2,h3,λi k hi hk n1 n2=>?_⟩;grind
def shp(t:Nat)(a b c d:Int):List Pt:=match t with|0=>[(a,b),(c,b),(c-1,d),(a+1,d)]|1=>[(a+1,b),(c-1,b),(c,d),(a,d)]|2=>[(a,b),(c,b),(c,d)]|3=>[(a,b),(c,d),(a,d)]|_=>[(a,b),(c,b),(c,d),(a,d)]
theorem uA:∀a,a<9->∀b,b<6->∀c,c<4->∀d,d<2->∀t,t<5->vpT (shp t (4*((a:Nat):Int)) (4*((b:Nat):Int)) (min (4*(a:Int)+4*(1+((c:Nat):Int))) 40) (4*(b:Int)+4*(1+((d:Nat):Int))))=true:=by decide+kernel
theorem AaG{a b c d:Int}(ha:0<=a/\a<9)(hb:0<=b/\b<6)(hc:0<=c/\c<4)(hd:0<=d/\d<2){t:Nat}(ht:t<5):VP (shp t (4*a) (4*b) (min (4*a+4*(1+c)) 40) (4*b+4*(1+d))):=by have:=uA a.toNat (by omega) b.toNat (by omega) c.toNat (by omega) d.toNat (by omega) t ht;rw[CY ha.1,CY hb.1,CY hc.1,CY hd.1]at this;exact AaF this
theorem Pp{n:Int}(h:Af n){d:Int}(h1:1<d)(h2:d<=1000):Af (n.tdiv d):=WD h h1 h2
def oX(N:Nat)(id x:Int)(l:List Pt):Option Un:=(Al N x 4).bind λr401=>bif decide (r401=3)then(gd (Af (x.tdiv 4))<|(Al N (x.tdiv 4) 4).bind λr413=>gd (Af (r413+1))<|gd (Af (x.tdiv 16))<|(Al N (x.tdiv 16) 4).bind λr415=>gd (Af ((r413+1)+r415))<|(Al N id 100).bind λr417=>gd (Af (x.tdiv 64))<|(Al N (x.tdiv 64) 8).bind λr419=>gd (Af (1+r419))<|gd (Af (x.tdiv 512))<|(Al N (x.tdiv 512) 8).bind λr421=>some (r417,1+r419,r421,l,r413,(r413+1)+r415))else((Al N id 100).bind λr423=>gd (Af (x.tdiv 64))<|(Al N (x.tdiv 64) 8).bind λr425=>gd (Af (1+r425))<|gd (Af (x.tdiv 512))<|(Al N (x.tdiv 512) 8).bind λr427=>some (r423,1+r425,r427,l,0,4))
theorem OG{N:Nat}{id x:Int}(hi:Af id)(hx:Af x){l:List Pt}(hl:VP l):∃u,oX N id x l=some u/\UV u/\u.1=pk id 100:=by
 have k2:=@DI (x.tdiv 4) 4 (by omega);have k3:=@DI (x.tdiv 16) 4 (by omega);have k4:=@DI id 100 (by omega);have k5:=@DI (x.tdiv 64) 8 (by omega);have k6:=@DI (x.tdiv 512) 8 (by omega);have d1:=Pp hx (d:=4) (by omega) (by omega);have d2:=Pp hx (d:=16) (by omega) (by omega);have d3:=Pp hx (d:=64) (by omega) (by omega);have d4:=Pp hx (d:=512) (by omega) (by omega);unfold oX;rw[IL hx (by omega),bS];by_cases c:pk x 4=3
 ·rw[aB c,cT,Ae d1,IL d1 (by omega),bS,Ae (by omega),Ae d2,IL d2 (by omega),bS,Ae (by omega),IL hi (by omega),bS,Ae d3,IL d3 (by omega),bS,Ae (by omega),Ae d4,IL d4 (by omega),bS];exact⟨_,rfl,⟨by omega,by grind,by grind,by grind,hl⟩,rfl⟩
 ·rw[bJ c,cF,IL hi (by omega),bS,Ae d3,IL d3 (by omega),bS,Ae (by omega),Ae d4,IL d4 (by omega),bS];exact⟨_,rfl,⟨by omega,by grind,by grind,by grind,hl⟩,rfl⟩
theorem Us{N:Nat}{id a b c d e f:Int}(hi:Af id)(h1:Af a)(h2:Af b)(h3:Af c)(h4:Af d)(h5:Af e)(h6:Af f):∃u:Un,El N id a b c d e f=some u/\UV u/\u.1=pk id 100:=by
 have k1:=@DI a 9 (by omega);have k2:=@DI b 6 (by omega);have k3:=@DI c 4 (by omega);have k4:=@DI d 2 (by omega);have Γ:=λt (ht:t<5)=>AaG k1 k2 k3 k4 ht
 unfold El;rw[IL h1 (by omega),bS,Ae (by unfold Af;omega),IL h2 (by omega),bS,Ae (by unfold Af;omega),IL h3 (by omega),bS,Ae (by unfold Af;omega),Ae (by unfold Af;omega),Ae (by unfold Af;omega),IL h4 (by omega),bS,Ae (by omega),Ae (by omega),Ae (by omega),IL h5 (by omega),bS];by_cases c4:pk e 8=4
 ·rw[aB c4,cT,Ae (by omega),Ae (by omega)];exact OG hi h6 (Γ 0 (by omega))
 rw[bJ c4,cF];by_cases c5:pk e 8=5
 ·rw[aB c5,cT,Ae (by omega),Ae (by omega)];exact OG hi h6 (Γ 1 (by omega))
 rw[bJ c5,cF];by_cases c6:pk e 8=6
 ·rw[aB c6,cT];exact OG hi h6 (Γ 2 (by omega))
 rw[bJ c6,cF];by_cases c7:pk e 8=7
 ·rw[aB c7,cT];exact OG hi h6 (Γ 3 (by omega))
 ·rw[bJ c7,cF];exact OG hi h6 (Γ 4 (by omega))
theorem kP{N:Nat}{id a b c d e f:Int}(hi:Af id)(h1:Af a)(h2:Af b)(h3:Af c)(h4:Af d)(h5:Af e)(h6:Af f):∃u:Un,El N id a b c d e f=some u/\UV u:=by obtain⟨u,k,v,_⟩:=Us hi h1 h2 h3 h4 h5 h6;exact⟨u,k,v⟩
def I6(x:List (Int×Int×Int×Int×Int×Int)):Prop:=∀r∈x,Af r.1/\Af r.2.1/\Af r.2.2.1/\Af r.2.2.2.1/\Af r.2.2.2.2.1/\Af r.2.2.2.2.2
theorem eS:FV []:=⟨by simp,by simp,List.Pairwise.nil,List.Pairwise.nil⟩
theorem kQ{f:List Un}{u v:Un}:v∈Gm f u↔v∈f\/v=u:=by unfold Gm Of Ro;grind
theorem kR{f:List Un}{u:Un}(h:Fit f u):(Gm f u).length=f.length+1:=by
 have e:(Of f u.1++Ro f u.1).length=f.length:=by rw[h.hf.cut]
 grind[Gm]
theorem kS{c n:Int}(h0:0<=c)(h:c<n):pk c n=c:=by unfold pk;rw[dQ (by omega),Int.tmod_eq_of_lt h0 h]
structure Frst(i:Nat)(f:List Un):Prop where
 fv:FV f
 len:f.length<=i
 ids:∀u∈f,u.1<3*i
theorem Frst.up{i:Nat}{f:List Un}(h:Frst i f){j:Nat}(hj:i<=j):Frst j f:=⟨h.fv,by have:=h.len;omega,λu hu=>by have:=h.ids u hu;omega⟩
theorem Qp{N:Nat}(hN:1001<=N){x:List (Int×Int×Int×Int×Int×Int)}(hx:I6 x):∀n i f,i<=12->i<=x.length->12<n+i->Frst i f->∃g,DO N x n (i:Nat) f=some g/\Frst (min x.length 12) g
 |0,i,f,h1,_,h2,_=>by omega
 |n+1,i,f,h1,h3,h2,hf=>by
  rw[DO];by_cases c:i<x.length/\i<12
  ·have hr:=hx _ (List.getElem_mem c.1);have k:=@DI (x[i].2.2.2.2.2) 3 (by omega);rw[Dq c.1,Ld,aB (p:=(i:Int)<12) (by omega),cT,Ae (by unfold Af;omega),M4,dO c.1,bS];generalize x[i]=r at hr k;obtain⟨a,b,c1,d,e,g⟩:=r;simp only at hr k⊢;obtain⟨u,hu,vu,iu⟩:=Us (N:=N) (id:=3*(i:Int)+pk g 3) (by omega) hr.1 hr.2.1 hr.2.2.1 hr.2.2.2.1 hr.2.2.2.2.1 hr.2.2.2.2.2;have iu:u.1<3*((i+1:Nat):Int):=by rw[iu,kS (by omega) (by omega)];omega
   have l8:=vu.l.l8;have ha:=W3 hN f (u:=u) (by omega);obtain⟨u1,u2,u3,u4,u5,u6⟩:=u;rw[IL hr.2.2.2.2.2 (by omega),bS,Ae (by omega),hu,bS];rw[ha,bS];by_cases ft:Fit f (u1,u2,u3,u4,u5,u6)
   ·rw[dW ft];rw[AU _ (by rfl),Ae (by omega),<-ns];refine Qp hN hx n (i+1) _ (by omega) (by omega) (by omega) ⟨ft.fv,by rw[kR ft];have:=hf.len;omega,λv hv=>?_⟩;rcases kQ.1 hv with q|q
    ·exact(hf.up (Nat.le_succ i)).ids v q
    ·rw[q];exact iu
   ·rw[dQ ft];rw[A1 _ (by rfl),Ae (by omega),<-ns];exact Qp hN hx n (i+1) _ (by omega) (by omega) (by omega) (hf.up (Nat.le_succ i))
  grind
theorem eT{N:Nat}(hN:1001<=N){x:List (Int×Int×Int×Int×Int×Int)}(hx:I6 x):∃f,FD N x=some f/\Frst (min x.length 12) f:=by obtain⟨f,h,v⟩:=Qp hN hx N 0 [] (by omega) (by omega) (by omega) ⟨eS,by simp,by simp⟩;unfold FD;rw[nL]at h;rw[h,bS];exact⟨f,rfl,v⟩
theorem eU{N:Nat}(hN:1001<=N){x:List (Int×Int×Int×Int×Int×Int)}(hx:I6 x):∃f,FD N x=some f/\FV f:=by obtain⟨f,h,v⟩:=eT hN hx;exact⟨f,h,v.fv⟩
noncomputable instance(f g:List Un):Decidable (f=g):=Classical.propDecidable _
theorem kT{N:Nat}{a b c a' b' c':Int}{l l':List Pt}{p q p' q':Int}(hl:l.length<N)(hN:N<=100000):C2 N a b c l p q a' b' c' l' p' q'=some (decide ((a,b,c,l,p,q)=(a',b',c',l',p',q'))):=by
 unfold C2;by_cases h:a=a'/\b=b'/\c=c'/\p=p'/\q=q'/\l.length=l'.length
 ·obtain⟨rfl,rfl,rfl,rfl,rfl,hlen⟩:=h;rw[A1 _ (by simp[hlen])]
  let f:Nat->Option Bool:=λi=>if pa l i=pa l' i then none else some false
  have step:∀n (k:Nat),k<l.length->CN N l l' (n+1) k=(match f k with|some r=>some (.inr r)|none=>CN N l l' n ((k+1:Nat):Int)):=λn k hk=>by
   rw[CN,Dq hk,cT,F1 hk,bS];simp only;rw[F1 (by omega),bS];simp only;by_cases e:pa l k=pa l' k
   ·rw[A1 _ (by simp[e]),show f k=none from dW e,Ae (by unfold Af;omega),ns]
   ·rw[AU _ (by
     rw[w6,z8];simp only[cY];by_cases h1:(pa l k).1=(pa l' k).1
     ·exact .inr λh2=>e (Prod.ext h1 h2)
     ·exact .inl h1),show f k=some false from dQ e]
  have F:=GK (L:=CN N l l') (len:=l.length) f (λn k hk e=>by rw[step n k hk,e]) (λn k r hk e=>by rw[step n k hk,e]) (λn=>by rw[CN,F2,cF]) N (by omega);rcases F with⟨e,hf⟩|⟨j,r,hj,hf,_,e⟩
  ·rw[e,bS];have:l=l':=List.ext_getElem hlen λi h1 h2=>by
    have:=hf i h1;by_cases hp:pa l i=pa l' i
    ·rw[De h1,De h2]at hp;exact hp
    ·rw[show f i=some false from dQ hp]at this;cases this
   subst this;simp
  ·rw[e,bS];have hne:¬l=l':=λe=>by subst e;rw[show f j=none from dW rfl]at hf;cases hf
   by_cases hp:pa l j=pa l' j
   ·rw[show f j=none from dW hp]at hf;cases hf
   ·rw[show f j=some false from dQ hp]at hf;cases hf
    simp[hne]
 ·rw[AU _ (by
   simp only[sW,bK];by_cases h1:a=a'
   ·by_cases h2:b=b'
    ·by_cases h3:c=c'
     ·by_cases h4:p=p'
      ·by_cases h5:q=q'
       ·exact .inr λh6=>h ⟨h1,h2,h3,h4,h5,by omega⟩
       ·exact .inl (.inr h5)
      ·exact .inl (.inl (.inr h4))
     ·exact .inl (.inl (.inl (.inr h3)))
    ·exact .inl (.inl (.inl (.inl (.inr h2))))
   ·exact .inl (.inl (.inl (.inl (.inl h1)))))]
  congr 1;symm;refine bJ λe=>h ?_
  simp only[KW]at e;obtain⟨rfl,rfl,rfl,rfl,rfl,rfl⟩:=e;simp
theorem oY{N:Nat}(hN:N<=100000){u:Un}(hu:u.2.2.2.1.length<N)(v:Un):C2 N u.1 u.2.1 u.2.2.1 u.2.2.2.1 u.2.2.2.2.1 u.2.2.2.2.2 v.1 v.2.1 v.2.2.1 v.2.2.2.1 v.2.2.2.2.1 v.2.2.2.2.2=some (decide (u=v)):=kT hu hN
theorem uB{N:Nat}(hN:N<=100000){f g:List Un}(hl:f.length=g.length)(h2:f.length<N)(hf:∀u∈f,u.2.2.2.1.length<N):CO N f g N 0=some (if f=g then .inl ()else .inr false):=by
 have F:=GK (L:=CO N f g) (len:=f.length) (λk=>if A2 f k=A2 g k then none else some false) (λn k hk e=>?_) (λn k r hk e=>?_) (λn=>?_) N h2
 ·rcases F with⟨e,h⟩|⟨j,r,hj,h,_,e⟩
  ·rw[e,dW];refine List.ext_getElem hl λk h1 h2=>?_
   have:=h k h1;rw[<-Fb h1,<-Fb h2];by_cases c:A2 f k=A2 g k
   ·exact c
   ·rw[dQ c]at this;cases this
  ·by_cases c:A2 f j=A2 g j
   ·rw[dW c]at h;cases h
   ·rw[dQ c]at h;cases h
    rw[e,dQ λq=>c (by rw[q])]
 ·by_cases c:A2 f k=A2 g k
  ·rw[CO,Dq hk,cT,Fs hk,bS];simp only;rw[Fs (by omega),bS];simp only;rw[oY hN (hf _ (FH hk)),bS,aB c,A1 _ (by rfl),Ae (by unfold Af;omega),ns]
  ·rw[dQ c]at e;cases e
 ·by_cases c:A2 f k=A2 g k
  ·rw[dW c]at e;cases e
  ·rw[dQ c]at e;cases e
   rw[CO,Dq hk,cT,Fs hk,bS];simp only;rw[Fs (by omega),bS];simp only;rw[oY hN (hf _ (FH hk)),bS,bJ c,AU _ (by rfl)]
 ·rw[CO,F2,cF]
theorem AcI{N:Nat}(hN:N<=100000){f:List Un}(g:List Un)(h2:f.length<N)(hf:∀u∈f,u.2.2.2.1.length<N):Gy N f g=some (decide (f=g)):=by
 unfold Gy;by_cases c:f.length=g.length
 ·rw[A1 _ (by rw[cY];omega),uB hN c h2 hf,bS];by_cases e:f=g
  ·rw[dW e,aB e]
  ·rw[dQ e,bJ e]
 ·rw[AU _ (by rw[bK];omega),bJ λe=>c (by rw[e])]
theorem FV.shp{f:List Un}(h:FV f):∀u∈f,u.2.2.2.1.length<1000:=λu hu=>by have:=(h.val u hu).l.l8;omega
end
open Go
attribute [local irreducible] Ax BO BB Bj BC Bk AY BD BK Cq
def BZ(x:Int×Int×Int×Int×Bool):List AV:=[.i x.1,.i x.2.1,.i x.2.2.1,.i x.2.2.2.1,.b x.2.2.2.2]
def E8:List AV->Int×Int×Int×Int×Bool|[.v (.int _ a1),.v (.int _ a2),.v (.int _ a3),.v (.int _ a4),.v (.bool a5)]=>(a1,a2,a3,a4,a5)|_=>(0,0,0,0,false)
theorem jM(x:Int×Int×Int×Int×Bool):E8 (BZ x)=x:=by rfl
theorem jN(R:List (Int×Int×Int×Int×Bool)):(R.map BZ).map E8=R:=by
 induction R with
 |nil=>rfl
 |cons r R ih=>rw[eG,eG,ih,jM]
theorem jO(R:List (Int×Int×Int×Int×Bool))(i:Nat):A6 (R.map BZ) [.i 0,.i 0,.i 0,.i 0,.b false] i=BZ (R.getD i (0,0,0,0,false)):=by unfold A6;rw[dM,dM,rA];cases R[i]? <;>rfl
def AA:Rw (Int×Int×Int×Int×Bool):=⟨5,BZ,E8,[.i 0,.i 0,.i 0,.i 0,.b false]⟩
def AS(l:List (Int×Int×Int×Int×Bool)):AV:=.sl 5 false (l.map BZ) [.i 0,.i 0,.i 0,.i 0,.b false]
def EH(l:List (Int×Int×Int×Int×Bool)):AV:=.sl 5 true (l.map BZ) [.i 0,.i 0,.i 0,.i 0,.b false]
attribute [go_sem] AA AS EH BZ E8 jN jO
def BM(N:Nat)(cn:Int)(bm:Int)(ay:Int):Option Bool:=some ((decide (bm<=cn))&&(decide (cn<=ay)))
@[go_sem] def s80(N:Nat):Spec:=p0<|(Aoi<|Aoi<|Aoi<|Aof<|Aog false .b) (BM N)
theorem QT(N:Nat):AG Tryz.prog 80 (s80 N):=by refine fk (Aoq x80 (Aj)) ?_;intro cn bm ay r h _ hS F;dsimp only[x80,Ah];unfold BM at h;exact Ai hS F h
def Cv(N:Nat)(gj:Int):Option Bool:=(BM N gj 0 99).bind λgi=>some gi
@[go_sem] def Aeb(N:Nat):Spec:=p0<|(Aoi<|Aof<|Aog false .b) (Cv N)
theorem SH(N:Nat):AG Tryz.prog 126 (Aeb N):=by refine fk (Aoq AlG (Ab (QT N)<|Aj)) ?_;intro gj r h _ hS F;dsimp only[AlG,Ah];unfold Cv at h;obtain⟨gi,jl,h⟩:=un h;exact Ai hS (fc jl F) h
def Ht(N:Nat)(gm:Int)(au:Int)(bl:Int)(co:Int)(jv:Bool):Option Bool:=(BM N gm 0 99).bind λaq=>gd (aq=true->((Cv N au).isSome=true))<|gd ((aq&&((Cv N au).getD false))=true->((BM N bl (-2) 7).isSome=true))<|gd (((aq&&((Cv N au).getD false))&&((BM N bl (-2) 7).getD false))=true->((BM N co 1 5).isSome=true))<|some (((aq&&((Cv N au).getD false))&&((BM N bl (-2) 7).getD false))&&((BM N co 1 5).getD false))
@[go_sem] def Aec(N:Nat):Spec:=p0<|(Aoh<|Aoi<|Aoi<|Aoi<|Aoi<|Aod<|Aof<|Aof<|Aog false .b) (Ht N)
theorem dB(N:Nat):AG Tryz.prog 103 (Aec N):=by refine fk (Aoq Aly (Ab (QT N)<|Ab (SH N)<|Aj)) ?_;intro gm au bl co jv r h _ hS F;dsimp only[Aly,Ah];unfold Ht at h;obtain⟨aq,jk,jn,re,qz,h⟩:=un h;exact Ai hS (fc jk F) h
def Ct(N:Nat)(jo:Int)(fp:Int)(fo:Int)(u2411:List (Int×Int))(fm:Int)(fj:Int):Option Bool:=some (((((decide (fp=0))&&(decide (fo=0)))&&(decide ((u2411.length:Int)=0)))&&(decide (fm=0)))&&(decide (fj=0)))
@[go_sem] def Aed(N:Nat):Spec:=p0<|(Aoh<|Aoi<|Aoi<|Aoi<|Aon Aq<|Aoi<|Aoi<|Aof<|Aof<|Aog false .b) (Ct N)
theorem Qc(N:Nat):AG Tryz.prog 140 (Aed N):=by refine fk (Aoq AlM (Aj)) ?_;intro jo fp fo u2411 fm fj r h _ hS F;dsimp only[AlM,Ah,Aq];unfold Ct at h;exact Ai hS F h
def E5(N:Nat)(cq:Int):Option (List Int):=some [cq]
@[go_sem] def Aee(N:Nat):Spec:=p0<|(Aoi<|Aof<|Aog [] FW) (E5 N)
theorem Qd(N:Nat):AG Tryz.prog 132 (Aee N):=by refine fk (Aoq AkP (Aj)) ?_;intro cq r h _ hS F;dsimp only[AkP,Ah];unfold E5 at h;exact Ai hS F h
def E6(N:Nat)(s2416:List (Int×Int×Int×Int×Bool))(ab:List (Int×Int×Int×(List (Int×Int))×Int×Int)):Nat->Int->Int->Option (Sum Unit Bool)|0,_,_=>none|n+1,av,ah=>bif decide (ah<(s2416.length:Int))then((A7 s2416 ah).bind λ(af,bi,bh,bv,bu)=>(Dk N ab bi).bind λ((ju,jt,js,r2444,jr,jq),ci)=>gd ((!(!ci))=true->((Ht N af bi bh bv bu).isSome=true))<|bif (((!ci)||(!((Ht N af bi bh bv bu).getD false)))||(decide (af<=av)))||(decide ((r2444.length:Int)<=bh))then(some (.inr false))else(gd (Af (ah+1))<|E6 N s2416 ab n af (ah+1)))else(some (.inl ()))
def CV(N:Nat)(ab:List (Int×Int×Int×(List (Int×Int))×Int×Int))(s2416:List (Int×Int×Int×Int×Bool)):Option Bool:=(E6 N s2416 ab N (-1) 0).bind λcj=>match cj with|.inl ()=>(some (decide ((s2416.length:Int)<=20)))|.inr jp=>(some jp)
@[go_sem] def nX(N:Nat):Spec:=p0<|(Aoh<|qD Ak<|qD AA<|Aof<|Aof<|Aog false .b) (CV N)
theorem NY(N:Nat):AG Tryz.prog 59 (nX N):=by
 refine fk (Aoq x59 (Ab (Zz N)<|Ab (dB N)<|Aj)) ?_;intro ab s2416 r h _ hS F;dsimp only[x59,Ah,AA,Ak];unfold CV at h;obtain⟨cj,rh,h⟩:=un h;refine go hS F ?_;refine Bz cj (λz:Nat=>⟨[(1,.box (0,1) 0)],[(.c (0,1) 0,Ap ab),(.c (0,1) 1,AS s2416)],z⟩) (λz=>(.inl ():Sum Unit Bool)) (.x 0) ?_ ?_
 ·refine Bp (λn (y:Int×Int×Nat)=>E6 N s2416 ab n y.1 y.2.1) (λy=>⟨[(1,.box (0,1) 0),(3,.i y.1),(9,AS s2416),(10,.i (s2416.length:Int)),(11,.i y.2.1)],[(.c (0,1) 0,Ap ab),(.c (0,1) 1,AS s2416)],y.2.2⟩) ((-1),0,3) rh (Ch F) ?_;rintro n ⟨av,ah,gr⟩ am;simp only[E6]at am;refine An hS F am (λ_ am=>?_) (λ_ am=>?_)
  ·obtain⟨⟨af,bi,bh,bv,bu⟩,jm,am⟩:=un am;obtain⟨q9,F⟩:=Cb BZ jm F;obtain⟨⟨⟨ju,jt,js,r2444,jr,jq⟩,ci⟩,jj,am⟩:=un am;obtain⟨qz,am⟩:=un am;replace F:=fc jj F;refine An hS F am (λ_ am=>?_) (λ_ am=>?_)
   ·obtain rfl:=yJ am;exact Ai hS F h
   ·obtain⟨rg,am⟩:=un am;exact Cd hS F (n,af,ah+1,gr+1+1+1+1+1+1) am
  ·exact B4 hS F (gr+1) am
 ·rintro rf rfl;exact Ai hS F h
def Dw(N:Nat)(bj:List (Int×Int×Int×(List (Int×Int))×Int×Int))(bw:List (Int×Int×Int×Int×Bool)):Option Bool:=(ER N bj).bind λce=>gd (ce=true->((CV N bj bw).isSome=true))<|some (ce&&((CV N bj bw).getD false))
@[go_sem] def Ws(N:Nat):Spec:=p0<|(Aoh<|qD Ak<|qD AA<|Aof<|Aof<|Aog false .b) (Dw N)
theorem ZG(N:Nat):AG Tryz.prog 19 (Ws N):=by refine fk (Aoq x19 (Ab (SG N)<|Ab (NY N)<|Aj)) ?_;intro bj bw r h _ hS F;dsimp only[x19,Ah,AA,Ak];unfold Dw at h;obtain⟨ce,ji,jn,h⟩:=un h;exact Ai hS (fc ji F) h
def Ks(N:Nat)(qy:Int)(i5:Int)(iz:Int)(iy:Int)(iw:List (Int×Int))(iv:Int)(ir:Int)(iq:Int)(ip:Int)(im:Int)(qx:Int)(qw:Int)(qu:Int)(qt:Int)(qr:Bool):Option Bool:=(B6 N i5 iz iy iw iv ir).bind λgh=>some (((gh&&(decide (iq=0)))&&(decide (ip=0)))&&(decide (im=0)))
@[go_sem] def Aef(N:Nat):Spec:=p0<|(Aoh<|Aoi<|Aoi<|Aoi<|Aoi<|Aon Aq<|Aoi<|Aoi<|Aoi<|Aoi<|Aoi<|Aoi<|Aoi<|Aoi<|Aoi<|Aod<|Aof<|Aof<|Aog false .b) (Ks N)
theorem yZ(N:Nat):AG Tryz.prog 130 (Aef N):=by refine fk (Aoq AkN (Ab (Pj N)<|Aj)) ?_;intro qy i5 iz iy iw iv ir iq ip im qx qw qu qt qr r h _ hS F;dsimp only[AkN,Ah,Aq];unfold Ks at h;obtain⟨gh,jh,h⟩:=un h;exact Ai hS (fc jh F) h
def Kt(N:Nat)(qq:Int)(ij:Int)(qo:Int)(qn:Int)(qm:List (Int×Int))(ql:Int)(qk:Int)(qj:Int)(qh:Int)(qg:Int)(qe:Int)(qd:Int)(qc:Int)(qb:Int)(pz:Bool):Option ((List Int)×(List Int)):=(E5 N ij).bind λgg=>some (gg,[])
@[go_sem] def Aeg(N:Nat):Spec:=p0<|(Aoh<|Aoi<|Aoi<|Aoi<|Aoi<|Aon Aq<|Aoi<|Aoi<|Aoi<|Aoi<|Aoi<|Aoi<|Aoi<|Aoi<|Aoi<|Aod<|Aof<|Aof<|Aog ([],[]) λr=>.tup [FW r.1,FW r.2]) (Kt N)
theorem zC(N:Nat):AG Tryz.prog 131 (Aeg N):=by refine fk (Aoq AkO (Ab (Qd N)<|Aj)) ?_;intro qq ij qo qn qm ql qk qj qh qg qe qd qc qb pz r h _ hS F;dsimp only[AkO,Ah,Aq];unfold Kt at h;obtain⟨gg,jg,h⟩:=un h;exact Ai hS (fc jg F) h
def Ku(N:Nat)(pv:Int)(br:Int)(fh:Int)(fg:Int)(e9:List (Int×Int))(e8:Int)(ez:Int)(ii:Int)(ep:Int)(ej:Int)(pq:Int)(pp:Int)(po:Int)(pm:Int)(pj:Bool):Option Bool:=(Cv N ii).bind λb9=>gd (((b9&&(decide (ep=0)))&&(decide (ej=0)))=true->((Ct N br fh fg e9 e8 ez).isSome=true))<|some ((((b9&&(decide (ep=0)))&&(decide (ej=0)))&&((Ct N br fh fg e9 e8 ez).getD false))&&(decide (br=0)))
@[go_sem] def Aeh(N:Nat):Spec:=p0<|(Aoh<|Aoi<|Aoi<|Aoi<|Aoi<|Aon Aq<|Aoi<|Aoi<|Aoi<|Aoi<|Aoi<|Aoi<|Aoi<|Aoi<|Aoi<|Aod<|Aof<|Aof<|Aog false .b) (Ku N)
theorem zD(N:Nat):AG Tryz.prog 139 (Aeh N):=by refine fk (Aoq AlL (Ab (SH N)<|Ab (Qc N)<|Aj)) ?_;intro pv br fh fg e9 e8 ez ii ep ej pq pp po pm pj r h _ hS F;dsimp only[AlL,Ah,Aq];unfold Ku at h;obtain⟨b9,jf,jn,h⟩:=un h;exact Ai hS (fc jf F) h
def Kv(N:Nat)(pi:Int)(ph:Int)(pg:Int)(pd:Int)(o0:List (Int×Int))(oz:Int)(oy:Int)(ig:Int)(ox:Int)(ow:Int)(ov:Int)(ot:Int)(oj:Int)(oh:Int)(og:Bool):Option ((List Int)×(List Int)):=(E5 N ig).bind λge=>some (ge,[])
@[go_sem] def Aei(N:Nat):Spec:=p0<|(Aoh<|Aoi<|Aoi<|Aoi<|Aoi<|Aon Aq<|Aoi<|Aoi<|Aoi<|Aoi<|Aoi<|Aoi<|Aoi<|Aoi<|Aoi<|Aod<|Aof<|Aof<|Aog ([],[]) λr=>.tup [FW r.1,FW r.2]) (Kv N)
theorem zE(N:Nat):AG Tryz.prog 141 (Aei N):=by refine fk (Aoq AlN (Ab (Qd N)<|Aj)) ?_;intro pi ph pg pd o0 oz oy ig ox ow ov ot oj oh og r h _ hS F;dsimp only[AlN,Ah,Aq];unfold Kv at h;obtain⟨ge,je,h⟩:=un h;exact Ai hS (fc je F) h
def JP(N:Nat)(oe:Int)(aa:Int)(bg:Int)(bf:Int)(be:List (Int×Int))(bb:Int)(ba:Int)(ak:Int)(az:Int)(bq:Int)(od:Int)(oc:Int)(oa:Int)(n9:Int)(n8:Bool):Option Bool:=(Cv N ak).bind λai=>gd (ai=true->((Cv N aa).isSome=true))<|gd (((ai&&((Cv N aa).getD false))&&(decide (ak≠aa)))=true->((Ct N aa bg bf be bb ba).isSome=true))<|gd ((((ai&&((Cv N aa).getD false))&&(decide (ak≠aa)))&&((Ct N aa bg bf be bb ba).getD false))=true->((BM N az 0 7).isSome=true))<|gd (((((ai&&((Cv N aa).getD false))&&(decide (ak≠aa)))&&((Ct N aa bg bf be bb ba).getD false))&&((BM N az 0 7).getD false))=true->((BM N bq 0 7).isSome=true))<|some ((((((ai&&((Cv N aa).getD false))&&(decide (ak≠aa)))&&((Ct N aa bg bf be bb ba).getD false))&&((BM N az 0 7).getD false))&&((BM N bq 0 7).getD false))&&(decide (az≠bq)))
@[go_sem] def Aej(N:Nat):Spec:=p0<|(Aoh<|Aoi<|Aoi<|Aoi<|Aoi<|Aon Aq<|Aoi<|Aoi<|Aoi<|Aoi<|Aoi<|Aoi<|Aoi<|Aoi<|Aoi<|Aod<|Aof<|Aof<|Aog false .b) (JP N)
theorem zF(N:Nat):AG Tryz.prog 150 (Aej N):=by refine fk (Aoq AlP (Ab (SH N)<|Ab (Qc N)<|Ab (QT N)<|Aj)) ?_;intro oe aa bg bf be bb ba ak az bq od oc oa n9 n8 r h _ hS F;dsimp only[AlP,Ah,Aq];unfold JP at h;obtain⟨ai,jd,jn,re,qz,rg,h⟩:=un h;exact Ai hS (fc jd F) h
def JQ(N:Nat)(n7:Int)(ei:Int)(n6:Int)(n5:Int)(nz:List (Int×Int))(ny:Int)(nw:Int)(eh:Int)(nv:Int)(nu:Int)(nr:Int)(nq:Int)(nk:Int)(nj:Int)(nh:Bool):Option ((List Int)×(List Int)):=some ([min eh ei,max eh ei],[])
@[go_sem] def Aek(N:Nat):Spec:=p0<|(Aoh<|Aoi<|Aoi<|Aoi<|Aoi<|Aon Aq<|Aoi<|Aoi<|Aoi<|Aoi<|Aoi<|Aoi<|Aoi<|Aoi<|Aoi<|Aod<|Aof<|Aof<|Aog ([],[]) λr=>.tup [FW r.1,FW r.2]) (JQ N)
theorem zG(N:Nat):AG Tryz.prog 151 (Aek N):=by refine fk (Aoq x151 (Aj)) ?_;intro n7 ei n6 n5 nz ny nw eh nv nu nr nq nk nj nh r h _ hS F;dsimp only[x151,Ah,Aq];unfold JQ at h;exact Ai hS F h
def JR(N:Nat)(ng:Int)(bp:Int)(ee:Int)(d9:Int)(d8:List (Int×Int))(d7:Int)(dz:Int)(ic:Int)(ae:Int)(aj:Int)(nf:Int)(nc:Int)(nb:Int)(mz:Int)(my:Bool):Option Bool:=(Cv N ic).bind λan=>gd (an=true->((BM N ae (-40) 40).isSome=true))<|gd ((an&&((BM N ae (-40) 40).getD false))=true->((BM N aj (-40) 40).isSome=true))<|gd ((((an&&((BM N ae (-40) 40).getD false))&&((BM N aj (-40) 40).getD false))&&((decide (ae≠0))||(decide (aj≠0))))=true->((Ct N bp ee d9 d8 d7 dz).isSome=true))<|some (((((an&&((BM N ae (-40) 40).getD false))&&((BM N aj (-40) 40).getD false))&&((decide (ae≠0))||(decide (aj≠0))))&&((Ct N bp ee d9 d8 d7 dz).getD false))&&(decide (bp=0)))
@[go_sem] def Ael(N:Nat):Spec:=p0<|(Aoh<|Aoi<|Aoi<|Aoi<|Aoi<|Aon Aq<|Aoi<|Aoi<|Aoi<|Aoi<|Aoi<|Aoi<|Aoi<|Aoi<|Aoi<|Aod<|Aof<|Aof<|Aog false .b) (JR N)
theorem zH(N:Nat):AG Tryz.prog 155 (Ael N):=by refine fk (Aoq AkR (Ab (SH N)<|Ab (QT N)<|Ab (Qc N)<|Aj)) ?_;intro ng bp ee d9 d8 d7 dz ic ae aj nf nc nb mz my r h _ hS F;dsimp only[AkR,Ah,Aq];unfold JR at h;obtain⟨an,jc,jn,re,qz,h⟩:=un h;exact Ai hS (fc jc F) h
def JS(N:Nat)(mu:Int)(mt:Int)(mr:Int)(mq:Int)(mo:List (Int×Int))(mn:Int)(mj:Int)(ib:Int)(mh:Int)(mg:Int)(mf:Int)(me:Int)(md:Int)(mc:Int)(mb:Bool):Option ((List Int)×(List Int)):=(E5 N ib).bind λgc=>some (gc,[])
@[go_sem] def Aem(N:Nat):Spec:=p0<|(Aoh<|Aoi<|Aoi<|Aoi<|Aoi<|Aon Aq<|Aoi<|Aoi<|Aoi<|Aoi<|Aoi<|Aoi<|Aoi<|Aoi<|Aoi<|Aod<|Aof<|Aof<|Aog ([],[]) λr=>.tup [FW r.1,FW r.2]) (JS N)
theorem zI(N:Nat):AG Tryz.prog 156 (Aem N):=by refine fk (Aoq AkS (Ab (Qd N)<|Aj)) ?_;intro mu mt mr mq mo mn mj ib mh mg mf me md mc mb r h _ hS F;dsimp only[AkS,Ah,Aq];unfold JS at h;obtain⟨gc,jb,h⟩:=un h;exact Ai hS (fc jb F) h
def HI(N:Nat)(ma:Int)(bo:Int)(dw:Int)(du:Int)(dt:List (Int×Int))(dq:Int)(dm:Int)(g9:Int)(dl:Int)(dh:Int)(l7:Int)(lz:Int)(lr:Int)(lq:Int)(lm:Bool):Option Bool:=(BM N g9 0 99).bind λb7=>gd (((b7&&(decide (dl=0)))&&(decide (dh=0)))=true->((Ct N bo dw du dt dq dm).isSome=true))<|some ((((b7&&(decide (dl=0)))&&(decide (dh=0)))&&((Ct N bo dw du dt dq dm).getD false))&&(decide (bo=0)))
@[go_sem] def Aen(N:Nat):Spec:=p0<|(Aoh<|Aoi<|Aoi<|Aoi<|Aoi<|Aon Aq<|Aoi<|Aoi<|Aoi<|Aoi<|Aoi<|Aoi<|Aoi<|Aoi<|Aoi<|Aod<|Aof<|Aof<|Aog false .b) (HI N)
theorem dC(N:Nat):AG Tryz.prog 160 (Aen N):=by refine fk (Aoq AlS (Ab (QT N)<|Ab (Qc N)<|Aj)) ?_;intro ma bo dw du dt dq dm g9 dl dh l7 lz lr lq lm r h _ hS F;dsimp only[AlS,Ah,Aq];unfold HI at h;obtain⟨b7,ja,jn,h⟩:=un h;exact Ai hS (fc ja F) h
def HJ(N:Nat)(lj:Int)(li:Int)(lh:Int)(lg:Int)(lf:List (Int×Int))(kz:Int)(kv:Int)(g8:Int)(kr:Int)(kq:Int)(km:Int)(kl:Int)(kj:Int)(ki:Int)(kh:Bool):Option ((List Int)×(List Int)):=(E5 N g8).bind λfx=>some ([],fx)
@[go_sem] def Aeo(N:Nat):Spec:=p0<|(Aoh<|Aoi<|Aoi<|Aoi<|Aoi<|Aon Aq<|Aoi<|Aoi<|Aoi<|Aoi<|Aoi<|Aoi<|Aoi<|Aoi<|Aoi<|Aod<|Aof<|Aof<|Aog ([],[]) λr=>.tup [FW r.1,FW r.2]) (HJ N)
theorem dD(N:Nat):AG Tryz.prog 161 (Aeo N):=by refine fk (Aoq AjW (Ab (Qd N)<|Aj)) ?_;intro lj li lh lg lf kz kv g8 kr kq km kl kj ki kh r h _ hS F;dsimp only[AjW,Ah,Aq];unfold HJ at h;obtain⟨fx,i9,h⟩:=un h;exact Ai hS (fc i9 F) h
def Kw(N:Nat)(kg:Int)(bn:Int)(dg:Int)(de:Int)(db:List (Int×Int))(da:Int)(cz:Int)(cy:Int)(cu:Int)(cr:Int)(gz:Int)(gy:Int)(gx:Int)(gw:Int)(gv:Bool):Option Bool:=(Ht N gz gy gx gw gv).bind λbz=>gd ((((bz&&(decide (cy=0)))&&(decide (cu=0)))&&(decide (cr=0)))=true->((Ct N bn dg de db da cz).isSome=true))<|some (((((bz&&(decide (cy=0)))&&(decide (cu=0)))&&(decide (cr=0)))&&((Ct N bn dg de db da cz).getD false))&&(decide (bn=0)))
@[go_sem] def Aep(N:Nat):Spec:=p0<|(Aoh<|Aoi<|Aoi<|Aoi<|Aoi<|Aon Aq<|Aoi<|Aoi<|Aoi<|Aoi<|Aoi<|Aoi<|Aoi<|Aoi<|Aoi<|Aod<|Aof<|Aof<|Aog false .b) (Kw N)
theorem zJ(N:Nat):AG Tryz.prog 163 (Aep N):=by refine fk (Aoq Akd (Ab (dB N)<|Ab (Qc N)<|Aj)) ?_;intro kg bn dg de db da cz cy cu cr gz gy gx gw gv r h _ hS F;dsimp only[Akd,Ah,Aq];unfold Kw at h;obtain⟨bz,i8,jn,h⟩:=un h;exact Ai hS (fc i8 F) h
def Kx(N:Nat)(kf:Int)(ke:Int)(ka:Int)(j9:Int)(j8:List (Int×Int))(j7:Int)(j6:Int)(j5:Int)(j4:Int)(jz:Int)(gu:Int)(gt:Int)(jy:Int)(jx:Int)(jw:Bool):Option ((List Int)×(List Int)):=(E5 N gt).bind λfr=>(E5 N gu).bind λfq=>some (fr,fq)
@[go_sem] def Ajh(N:Nat):Spec:=p0<|(Aoh<|Aoi<|Aoi<|Aoi<|Aoi<|Aon Aq<|Aoi<|Aoi<|Aoi<|Aoi<|Aoi<|Aoi<|Aoi<|Aoi<|Aoi<|Aod<|Aof<|Aof<|Aog ([],[]) λr=>.tup [FW r.1,FW r.2]) (Kx N)
theorem zK(N:Nat):AG Tryz.prog 164 (Ajh N):=by refine fk (Aoq Ake (Ab (Qd N)<|Aj)) ?_;intro kf ke ka j9 j8 j7 j6 j5 j4 jz gu gt jy jx jw r h _ hS F;dsimp only[Ake,Ah,Aq];unfold Kx at h;obtain⟨fr,i7,fq,i6,h⟩:=un h;exact Ai hS (fc i6 (fc i7 F)) h
