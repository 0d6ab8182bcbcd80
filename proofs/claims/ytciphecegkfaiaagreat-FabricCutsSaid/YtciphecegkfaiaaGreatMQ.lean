import Derived.Test.YtciphecegkfaiaaGreatM7
import Derived.Test.YtciphecegkfaiaaGreatD8
namespace Go.Proofs.YtciphecegkfaiaaGreat.Am
set_option linter.unusedSimpArgs false
set_option linter.unusedVariables false
def KY (x y:Int):Int:=if x<y then-1 else if y<x then 1 else 0
def D6 (p q:Pt):Int:=if KY p.1 q.1≠0 then KY p.1 q.1 else KY p.2 q.2
theorem Ja {N:Nat} (hN:100≤N) (p q:Pt):CW N p.1 p.2 q.1 q.2=some (D6 p q):=by
 unfold CW
 rw[JT,bS,JT,bS]
 unfold IR
 obtain⟨n,rfl⟩:∃n,N=n+1+1+1:=⟨N-3,by omega⟩
 have c1:(if p.1<q.1 then-1 else if q.1<p.1 then 1 else 0:Int)=KY p.1 q.1:=rfl
 have c2:(if p.2<q.2 then-1 else if q.2<p.2 then 1 else 0:Int)=KY p.2 q.2:=rfl
 rw[c1,c2]
 unfold D6
 generalize KY p.1 q.1=a
 generalize KY p.2 q.2=b
 rw[EI,cT' _ (by rfl),show nth [a,b] 0=some a from rfl,bS]
 by_cases h:a=0
 ·subst h
  rw[cF' _ (by decide),Ab (by decide),if_neg (by simp),EI,cT' _ (by rfl),show nth [(0:Int),b] (0+1)=some b from rfl,bS]
  by_cases h2:b=0
  ·subst h2
   rw[cF' _ (by decide),Ab (by decide),EI,cF' _ (by decide),bS]
   simp only
   rw[bS]
  ·rw[cT' _ (decide_eq_true h2),bS]
   simp only
   rw[bS]
 ·rw[cT' _ (decide_eq_true h),if_pos h,bS]
  simp only
  rw[bS]
theorem Jx {p q:Pt}:D6 p q<0↔p.1<q.1∨(p.1=q.1∧p.2<q.2):=by
 unfold D6 KY
 repeat' split
 all_goals omega
theorem Lb {p q:Pt}:0<D6 p q↔q.1<p.1∨(q.1=p.1∧q.2<p.2):=by
 unfold D6 KY
 repeat' split
 all_goals omega
theorem tF {p q:Pt}:D6 p q=0↔p=q:=by
 constructor
 ·intro h
  have h1:¬(D6 p q<0):=by omega
  have h2:¬(0<D6 p q):=by omega
  rw[Jx] at h1
  rw[Lb] at h2
  exact Prod.ext (by omega) (by omega)
 ·intro h
  subst h
  have h1:¬(D6 p p<0):=by rw[Jx];omega
  have h2:¬(0<D6 p p):=by rw[Lb];omega
  omega
def Im (u v:Pt):Pt:=if 0<D6 v u then v else u
def In (u v:Pt):Pt:=if D6 v u<0 then v else u
theorem iF {N:Nat} (hN:100≤N) (u v:Pt) (n:Nat):Aw N [(u.1,u.2),(v.1,v.2)] (n+1+1) 1 u.1 u.2=some ((Im u v).1,(Im u v).2):=by
 rw[Aw,cT' _ (by rfl),show nth [(u.1,u.2),(v.1,v.2)] 1=some (v.1,v.2) from rfl,bS]
 simp only
 rw[Ja hN,bS]
 unfold Im
 by_cases h:0<D6 v u
 ·rw[cT' _ (decide_eq_true h),Ab (by decide),if_pos h,Aw,cF' _ (by rfl)]
 ·rw[cF' _ (decide_eq_false h),Ab (by decide),if_neg h,Aw,cF' _ (by rfl)]
theorem O2 {N:Nat} (hN:100≤N) (u v:Pt):AX N [(u.1,u.2),(v.1,v.2)]=some ((Im u v).1,(Im u v).2):=by
 unfold AX
 have h:=fun n=>iF hN u v n
 obtain⟨n,e⟩:∃n,N=n+1+1:=⟨N-2,by omega⟩
 have h':=h n
 rw[←e] at h'
 rw[Ab (by rfl),show nth [(u.1,u.2),(v.1,v.2)] 0=some (u.1,u.2) from rfl,bS]
 simp only
 rw[h',bS]
theorem iG {N:Nat} (hN:100≤N) (u v:Pt) (n:Nat):Ax N [(u.1,u.2),(v.1,v.2)] (n+1+1) 1 u.1 u.2=some ((In u v).1,(In u v).2):=by
 rw[Ax,cT' _ (by rfl),show nth [(u.1,u.2),(v.1,v.2)] 1=some (v.1,v.2) from rfl,bS]
 simp only
 rw[Ja hN,bS]
 unfold In
 by_cases h:D6 v u<0
 ·rw[cT' _ (decide_eq_true h),Ab (by decide),if_pos h,Ax,cF' _ (by rfl)]
 ·rw[cF' _ (decide_eq_false h),Ab (by decide),if_neg h,Ax,cF' _ (by rfl)]
theorem O3 {N:Nat} (hN:100≤N) (u v:Pt):AY N [(u.1,u.2),(v.1,v.2)]=some ((In u v).1,(In u v).2):=by
 unfold AY
 have h:=fun n=>iG hN u v n
 obtain⟨n,e⟩:∃n,N=n+1+1:=⟨N-2,by omega⟩
 have h':=h n
 rw[←e] at h'
 rw[Ab (by rfl),show nth [(u.1,u.2),(v.1,v.2)] 0=some (u.1,u.2) from rfl,bS]
 simp only
 rw[h',bS]
def lo (p q:Pt):Pt:=if D6 q p<0 then q else p
def hi (p q:Pt):Pt:=if D6 q p<0 then p else q
def Ci (p q r s:Pt):Pt×Pt:=(Im (lo p q) (lo r s),In (hi p q) (hi r s))
theorem Wj {N:Nat} (hN:100≤N) (p q r s:Pt):GL N p.1 p.2 q.1 q.2 r.1 r.2 s.1 s.2=some (Ci p q r s):=by
 unfold GL Ci lo hi
 rw[bS,Ja hN,bS,Ja hN]
 by_cases h1:D6 q p<0
 ·rw[cT' _ (decide_eq_true h1),if_pos h1,if_pos h1,bS]
  by_cases h2:D6 s r<0
  ·rw[cT' _ (decide_eq_true h2),if_pos h2,if_pos h2,O2 hN,bS]
   simp only
   rw[O3 hN,bS,Ab (by decide),Ab (by decide),Ab (by decide),Ab (by decide)]
  ·rw[cF' _ (decide_eq_false h2),if_neg h2,if_neg h2,O2 hN,bS]
   simp only
   rw[O3 hN,bS,Ab (by decide),Ab (by decide),Ab (by decide),Ab (by decide)]
 ·rw[cF' _ (decide_eq_false h1),if_neg h1,if_neg h1,bS]
  by_cases h2:D6 s r<0
  ·rw[cT' _ (decide_eq_true h2),if_pos h2,if_pos h2,O2 hN,bS]
   simp only
   rw[O3 hN,bS,Ab (by decide),Ab (by decide),Ab (by decide),Ab (by decide)]
  ·rw[cF' _ (decide_eq_false h2),if_neg h2,if_neg h2,O2 hN,bS]
   simp only
   rw[O3 hN,bS,Ab (by decide),Ab (by decide),Ab (by decide),Ab (by decide)]
def FA (e f:Pt×Pt):Option (Pt×Pt):=
 if trn e.1 e.2 f.1≠0∨trn e.1 e.2 f.2≠0 then none
 else if(Ci e.1 e.2 f.1 f.2).1=(Ci e.1 e.2 f.1 f.2).2∨0<D6 (Ci e.1 e.2 f.1 f.2).1 (Ci e.1 e.2 f.1 f.2).2 then none
 else if 0<D6 e.1 e.2 then some ((Ci e.1 e.2 f.1 f.2).2,(Ci e.1 e.2 f.1 f.2).1) else some (Ci e.1 e.2 f.1 f.2)
theorem Tx {N:Nat} (hN:100≤N) {e:Pt×Pt} (he:Sml e.1∧Sml e.2):∀(es:List (Pt×Pt)),(∀f∈es,Sml f.1∧Sml f.2)→Dx N e.1.1 e.1.2 e.2.1 e.2.2 es=some (match es.findSome? (FA e) with|some s=> .inr (s,true)|none=> .inl ())
 |[],_=>by simp[Dx]
 |f::es,h=>by
  have hf:=h f (by simp)
  have ih:=Tx hN he es fun x hx=>h x (by simp[hx])
  rw[show f=((f.1.1,f.1.2),(f.2.1,f.2.2)) from rfl,Dx,J1 he.1 he.2 hf.1,bS,J1 he.1 he.2 hf.2,Ab (fun _=>Option.isSome_some),Option.getD_some,List.findSome?_cons]
  rw[show((f.1.1,f.1.2),(f.2.1,f.2.2))=f from rfl,ih]
  by_cases h1:trn e.1 e.2 f.1≠0∨trn e.1 e.2 f.2≠0
  ·rw[cT' _ (by simpa using h1),show FA e f=none from if_pos h1]
  ·rw[cF' _ (by rw[Bool.eq_false_iff];simpa using h1),Wj hN,show Ci e.1 e.2 f.1 f.2=(((Ci e.1 e.2 f.1 f.2).1.1,(Ci e.1 e.2 f.1 f.2).1.2),((Ci e.1 e.2 f.1 f.2).2.1,(Ci e.1 e.2 f.1 f.2).2.2)) from rfl,bS]
   simp only
   rw[Ja hN,Ab (fun _=>Option.isSome_some),Option.getD_some,ptE]
   by_cases h2:(Ci e.1 e.2 f.1 f.2).1=(Ci e.1 e.2 f.1 f.2).2∨0<D6 (Ci e.1 e.2 f.1 f.2).1 (Ci e.1 e.2 f.1 f.2).2
   ·rw[cT' _ (by simpa using h2),show FA e f=none by unfold FA;rw[if_neg h1,if_pos h2]]
   ·rw[cF' _ (by rw[Bool.eq_false_iff];simpa using h2),Ja hN,bS]
    by_cases h3:0<D6 e.1 e.2
    ·rw[cT' _ (decide_eq_true h3),show FA e f=some ((Ci e.1 e.2 f.1 f.2).2,(Ci e.1 e.2 f.1 f.2).1) by unfold FA;rw[if_neg h1,if_neg h2,if_pos h3]]
    ·rw[cF' _ (decide_eq_false h3),show FA e f=some (Ci e.1 e.2 f.1 f.2) by unfold FA;rw[if_neg h1,if_neg h2,if_neg h3]]
def IX (a b:List Pt):Option (Pt×Pt):=(Bm a).findSome? fun e=>(Bm b).findSome? (FA e)
theorem Ty {N:Nat} (hN:100≤N) {b:List Pt} (hb:VP b):∀(es:List (Pt×Pt)),(∀f∈es,Sml f.1∧Sml f.2)→Eb N b es=some (match es.findSome? (fun e=>(Bm b).findSome? (FA e)) with|some s=> .inr (s,true)|none=> .inl ())
 |[],_=>by simp[Eb]
 |e::es,h=>by
  have he:=h e (by simp)
  have b8:=hb.l8
  rw[show e=((e.1.1,e.1.2),(e.2.1,e.2.2)) from rfl,Eb,Ab (by omega),Tx hN he _ (GV hb.sml),bS,List.findSome?_cons]
  rw[show((e.1.1,e.1.2),(e.2.1,e.2.2))=e from rfl]
  cases(Bm b).findSome? (FA e) with
  |some s=>rfl
  |none=>exact Ty hN hb es fun x hx=>h x (by simp[hx])
open Classical in
noncomputable def Gj (a b:List Pt):(Pt×Pt)×Bool:=if apart a b then(match IX a b with|some s=>(s,true)|none=>(((0,0),(0,0)),false)) else(((0,0),(0,0)),false)
theorem Tz {N:Nat} (hN:1001≤N) {a b:List Pt} (ha:VP a) (hb:VP b):Fb N a b=some (Gj a b):=by
 unfold Fb Gj
 have a8:=ha.l8
 rw[GP (by omega) ha,GP (by omega) hb,bS,Ab (fun _=>Option.isSome_some),JU hN ha hb,Ab (fun _=>Option.isSome_some),Option.getD_some,Option.getD_some]
 by_cases h:apart a b
 ·rw[J2.2 h,cF' _ (by rfl),Ab (by omega),if_pos h,Ty (by omega) hb _ (GV ha.sml),bS,show(Bm a).findSome? (fun e=>(Bm b).findSome? (FA e))=IX a b from rfl]
  cases IX a b<;>rfl
 ·have e:(Gi a b).2.2=false:=by rw[Bool.eq_false_iff];intro q;exact h (J2.1 q)
  rw[e,cT' _ (by rfl),if_neg h]
def mv (d p:Pt):Pt:=(p.1+d.1,p.2+d.2)
theorem iO {l:List Pt} (hl:0<l.length) {i:Nat} (hi:i<l.length) (p:Pt):E l i p=trn (qa l i) (qa l (i+1)) p:=by
 rw[PN hl,Nat.mod_eq_of_lt hi]
theorem Yr {l:List Pt} (h:VP l) (s t:Nat):0≤trn (qa l s) (qa l (s+1)) (qa l t):=by
 have l3:=h.l3
 have hn:0<l.length:=by omega
 have hs:=iB (n:=l.length) (i:=s%l.length) (k:=t%l.length) hn
 have ha:=iC (Nat.mod_lt s hn) (Nat.mod_lt t hn)
 rw[Nat.mod_add_mod] at ha
 have e:qa l t=qa l (s+stp l.length (s%l.length) (t%l.length)):=by
  show pa l (t%l.length)=pa l ((s+stp l.length (s%l.length) (t%l.length))%l.length)
  rw[ha]
 rw[e]
 generalize stp l.length (s%l.length) (t%l.length)=a at*
 by_cases h0:a=0
 ·subst h0;show 0≤trn (qa l s) (qa l (s+1)) (qa l s);rw[FI];omega
 by_cases h1:a=1
 ·subst h1;rw[Et];omega
 exact Int.le_of_lt (Hh h.cv (by omega) hs)
theorem mU {u w p:Pt} {x:Pt} (h1:trn u w p=0) (h2:trn u x p=0) (h3:trn u w x≠0):p=u:=by
 have e1:(p.1-u.1)*trn u w x=(w.1-u.1)*trn u p x+(x.1-u.1)*trn u w p:=by unfold trn;grind
 have e2:(p.2-u.2)*trn u w x=(w.2-u.2)*trn u p x+(x.2-u.2)*trn u w p:=by unfold trn;grind
 have e3:trn u p x= -trn u x p:=by unfold trn;grind
 rw[h1,e3,h2] at e1 e2
 simp only[Int.neg_zero,Int.mul_zero,Int.add_zero,Int.mul_eq_zero] at e1 e2
 exact Prod.ext (by rcases e1 with h|h;omega;exact absurd h h3) (by rcases e2 with h|h;omega;exact absurd h h3)
def dd (P Q x:Pt):Int:=(Q.1-P.1)*(x.1-P.1)+(Q.2-P.2)*(x.2-P.2)
def BN (p q:Pt):Prop:=p.1<q.1∨(p.1=q.1∧p.2≤q.2)
theorem MD {p q:Pt}:BN p q↔¬0<D6 p q:=by rw[Lb];unfold BN;omega
theorem E7 {p q r:Pt} (h1:BN p q) (h2:BN q r):BN p r:=by unfold BN at*;omega
theorem KI (p q:Pt):BN p q∨BN q p:=by unfold BN;omega
theorem CV {p q:Pt} (h1:BN p q) (h2:BN q p):p=q:=by unfold BN at*;exact Prod.ext (by omega) (by omega)
theorem Gk (p:Pt):BN p p:=by unfold BN;omega
theorem iP {u v p:Pt}:BN (Im u v) p↔BN u p∧BN v p:=by
 unfold Im
 split
 ·rename_i h;rw[Lb] at h
  constructor
  ·intro q;exact⟨by unfold BN at*;omega,q⟩
  ·exact fun q=>q.2
 ·rename_i h;rw[Lb] at h
  constructor
  ·intro q;exact⟨q,by unfold BN at*;omega⟩
  ·exact fun q=>q.1
theorem iQ {u v p:Pt}:BN p (In u v)↔BN p u∧BN p v:=by
 unfold In
 split
 ·rename_i h;rw[Jx] at h
  constructor
  ·intro q;exact⟨by unfold BN at*;omega,q⟩
  ·exact fun q=>q.2
 ·rename_i h;rw[Jx] at h
  constructor
  ·intro q;exact⟨q,by unfold BN at*;omega⟩
  ·exact fun q=>q.1
def btw (P Q x:Pt):Prop:=(BN P x∧BN x Q)∨(BN Q x∧BN x P)
theorem Sa {P Q x:Pt}:btw P Q x↔BN (lo P Q) x∧BN x (Am.hi P Q):=by
 unfold btw lo Am.hi
 split
 ·rename_i h;rw[Jx] at h;unfold BN;omega
 ·rename_i h;rw[Jx] at h;unfold BN;omega
theorem iR {d1 d2 w1 w2:Int} (hd:d1≠0∨d2≠0) (hz:d1*w2=d2*w1):(0<d1∨(d1=0∧0<d2))→(0≤d1*w1+d2*w2↔(0<w1∨(w1=0∧0≤w2))):=by
 intro hp
 rcases hp with hp|⟨hp,hq⟩
 ·have e:d1*(d1*w1+d2*w2)=(d1*d1+d2*d2)*w1:=by grind
  have pos:0<d1*d1+d2*d2:=by have:=Int.mul_pos hp hp;have:=KG d2;omega
  constructor
  ·intro h
   have:=Int.mul_nonneg (Int.le_of_lt hp) h
   have h1:=Eu pos (b:=w1) (by omega)
   rcases Int.lt_or_eq_of_le h1 with q|q
   ·exact .inl q
   ·refine .inr ⟨q.symm, ?_⟩
    rw[←q,Int.mul_zero] at hz
    rcases Int.mul_eq_zero.1 hz with c|c<;>omega
  ·intro h
   have h1:0≤w1:=by omega
   have:=Int.mul_nonneg (Int.le_of_lt pos) h1
   exact Eu hp (by omega)
 ·subst hp
  have hw:w1=0:=by
   rw[Int.zero_mul] at hz
   rcases Int.mul_eq_zero.1 hz.symm with c|c
   ·omega
   ·exact c
  subst hw
  rw[Int.zero_mul,Int.zero_add]
  constructor
  ·intro h;exact .inr ⟨rfl,Eu hq h⟩
  ·rintro(h|⟨_,h⟩)
   ·omega
   ·exact Int.mul_nonneg (Int.le_of_lt hq) h
theorem H8 {P Q x y:Pt} (hne:P≠Q) (hPQ:BN P Q) (hx:trn P Q x=0) (hy:trn P Q y=0):dd P Q x≤dd P Q y↔BN x y:=by
 have hd:Q.1-P.1≠0∨Q.2-P.2≠0:=by
  by_cases h:Q.1-P.1≠0∨Q.2-P.2≠0
  ·exact h
  ·exact absurd (Prod.ext (by omega) (by omega)) hne
 have hz:(Q.1-P.1)*(y.2-x.2)=(Q.2-P.2)*(y.1-x.1):=by unfold trn at hx hy;grind
 have:=iR hd hz (by unfold BN at hPQ;omega)
 have e:(Q.1-P.1)*(y.1-x.1)+(Q.2-P.2)*(y.2-x.2)=dd P Q y-dd P Q x:=by unfold dd;grind
 rw[e] at this
 unfold BN
 constructor
 ·intro h;have:=this.1 (by omega);omega
 ·intro h;have:=this.2 (by omega);omega
theorem iS {P Q x:Pt} (hne:P≠Q) (hx:trn P Q x=0):btw P Q x↔0≤dd P Q x∧dd P Q x≤dd P Q Q:=by
 have d0:dd P Q P=0:=by unfold dd;grind
 rcases KI P Q with h|h
 ·have h1:=H8 hne h (FI P Q) hx
  have h2:=H8 hne h hx (Et P Q)
  rw[d0] at h1
  rw[h1,h2]
  unfold btw
  constructor
  ·rintro(q|⟨q1,q2⟩)
   ·exact q
   ·exact absurd (CV h (E7 q1 q2)) hne
  ·exact .inl
 ·have s1:trn Q P x=0:=by rw[I9];omega
  have h1:=H8 (fun e=>hne e.symm) h (FI Q P) s1
  have h2:=H8 (fun e=>hne e.symm) h s1 (Et Q P)
  have e1:dd Q P Q=0:=by unfold dd;grind
  have e2:dd Q P x=dd P Q Q-dd P Q x:=by unfold dd;grind
  have e3:dd Q P P=dd P Q Q:=by unfold dd;grind
  rw[e1,e2] at h1
  rw[e2,e3] at h2
  constructor
  ·rintro(⟨q1,q2⟩|⟨q1,q2⟩)
   ·exact absurd (CV (E7 q1 q2) h) hne
   ·have:=h1.2 q1;have:=h2.2 q2;omega
  ·intro q;exact .inr ⟨h1.1 (by omega),h2.1 (by omega)⟩
theorem Ld {P Q:Pt} (h:P≠Q):0<dd P Q Q:=by
 have:=I8 h
 have e:dd P Q Q=dst P Q:=by unfold dd dst;grind
 omega
theorem iT (u w P Q x:Pt):(trn u w x-trn u w P)*dd P Q Q-(trn u w Q-trn u w P)*dd P Q x=trn P Q x*(-((w.1-u.1)*(P.1-Q.1)+(w.2-u.2)*(P.2-Q.2))):=by
 unfold trn dd;grind
theorem PQ {u w P Q x:Pt} (hx:trn P Q x=0):trn u w x*dd P Q Q=trn u w P*(dd P Q Q-dd P Q x)+trn u w Q*dd P Q x:=by
 have:=iT u w P Q x
 rw[hx,Int.zero_mul] at this
 grind
theorem IY (P Q u w x:Pt) (hu:trn P Q u=0) (hw:trn P Q w=0):trn u w x*dd P Q Q=trn P Q x*(dd P Q w-dd P Q u):=by
 have:trn u w x*dd P Q Q-trn P Q x*(dd P Q w-dd P Q u)=trn P Q w*(dd P Q u-dd P Q x)+trn P Q u*(dd P Q x-dd P Q w):=by
  unfold trn dd;grind
 rw[hu,hw] at this
 simp only[Int.zero_mul,Int.add_zero] at this
 omega
theorem iU {P Q u w:Pt} (hne:P≠Q) (hu:trn P Q u=0) (hw:trn P Q w=0) (h:dd P Q u=dd P Q w):u=w:=by
 rcases KI P Q with q|q
 ·exact CV ((H8 hne q hu hw).1 (by omega)) ((H8 hne q hw hu).1 (by omega))
 ·have s1:trn Q P u=0:=by rw[I9];omega
  have s2:trn Q P w=0:=by rw[I9];omega
  have e1:dd Q P u=dd P Q Q-dd P Q u:=by unfold dd;grind
  have e2:dd Q P w=dd P Q Q-dd P Q w:=by unfold dd;grind
  exact CV ((H8 (Ne.symm hne) q s1 s2).1 (by omega)) ((H8 (Ne.symm hne) q s2 s1).1 (by omega))
theorem GW {P Q u w x:Pt} (hne:P≠Q) (huw:u≠w) (hu:trn P Q u=0) (hw:trn P Q w=0):trn u w x=0↔trn P Q x=0:=by
 have e:=IY P Q u w x hu hw
 have p:=Ld hne
 have n:dd P Q w-dd P Q u≠0:=fun q=>huw (iU hne hu hw (by omega))
 constructor
 ·intro h
  rw[h,Int.zero_mul] at e
  rcases Int.mul_eq_zero.1 e.symm with c|c
  ·exact c
  ·exact absurd c n
 ·intro h
  rw[h,Int.zero_mul] at e
  rcases Int.mul_eq_zero.1 e with c|c
  ·exact c
  ·omega
theorem Sb {l:List Pt} (h:VP l) {j x:Nat} (hj:j<l.length) (hx:x<l.length) (hz:E l j (pa l x)=0):x=j∨x=(j+1)%l.length:=by
 by_cases h1:x=j
 ·exact .inl h1
 by_cases h2:x=(j+1)%l.length
 ·exact .inr h2
 have:=h.cv j x hj hx h1 h2
 unfold E at hz
 omega
theorem KZ {l:List Pt} (h:VP l) {j:Nat} (hj:j<l.length) {x:Pt} (hx:x∈l):0≤E l j x:=by
 have l3:=h.l3
 obtain⟨t,ht,rfl⟩:=GA hx
 have:=Yr h j t
 rwa [HX ht,PN (by omega),Nat.mod_eq_of_lt hj] at this
theorem Jc {l:List Pt} (h:VP l) {j:Nat} (hj:j<l.length):∃x∈l,0<E l j x:=by
 have l3:=h.l3
 obtain⟨k,hk,n1,n2⟩:∃k,k<l.length∧k≠j∧k≠(j+1)%l.length:=by
  by_cases h0:0≠j∧0≠(j+1)%l.length
  ·exact⟨0,by omega,h0.1,h0.2⟩
  by_cases h1:1≠j∧1≠(j+1)%l.length
  ·exact⟨1,by omega,h1.1,h1.2⟩
  exact⟨2,by omega,by omega,by omega⟩
 exact⟨_,AA hk,h.cv j k hj hk n1 n2⟩
theorem NR {l:List Pt} (h:VP l) {p g:Pt} (hc:clo l p) (hh:∀q∈l,0<lin g p q):False:=by
 have l3:=h.l3
 have hn:0<l.length:=by omega
 have e:∀t,0≤trn p (qa l t) (qa l (t+1)):=fun t=>by
  rw[←FN,PN hn];exact hc _ (Nat.mod_lt _ hn)
 obtain⟨m,hm⟩:∃m,0<trn p (qa l m) (qa l (m+1)):=by
  by_cases h0:0<trn p (qa l 0) (qa l 1)
  ·exact⟨0,h0⟩
  by_cases h1:0<trn p (qa l 1) (qa l 2)
  ·exact⟨1,h1⟩
  refine⟨2, ?_⟩
  have z0:trn p (qa l 0) (qa l 1)=0:=by have:0≤trn p (qa l 0) (qa l 1):=e 0;omega
  have z1:trn p (qa l 1) (qa l 2)=0:=by have:0≤trn p (qa l 1) (qa l 2):=e 1;omega
  have c:=Hh h.cv (s:=0) (a:=2) (by omega) (by omega)
  simp only[Nat.zero_add] at c
  have ep:p=qa l 1:=mU (w:=qa l 0) (x:=qa l 2) (by
   have:trn (qa l 1) (qa l 0) p= -trn p (qa l 0) (qa l 1):=by unfold trn;grind
   omega) (by
   have:trn (qa l 1) (qa l 2) p=trn p (qa l 1) (qa l 2):=by unfold trn;grind
   omega) (by
   have:trn (qa l 1) (qa l 0) (qa l 2)= -trn (qa l 0) (qa l 1) (qa l 2):=by unfold trn;grind
   omega)
  have c2:=Hh h.cv (s:=2) (a:=l.length-1) (by omega) (by omega)
  rw[show 2+(l.length-1)=1+l.length by omega,Hg,←ep,FN] at c2
  exact c2
 have key:∀t,0<trn p (qa l m) (qa l (m+(t+1))):=by
  intro t
  induction t with
  |zero=>exact hm
  |succ t ih=>
   have pl:=UK g p (qa l m) (qa l (m+(t+1))) (qa l (m+(t+1+1)))
   have ha:=hh _ (IW hn m)
   have hb:=hh _ (IW hn (m+(t+1)))
   have hc:=hh _ (IW hn (m+(t+1+1)))
   have hbc:=e (m+(t+1))
   rw[show m+(t+1)+1=m+(t+1+1) by omega] at hbc
   have k1:=Int.mul_nonneg (Int.le_of_lt ha) hbc
   have k2:=Int.mul_pos hc ih
   exact HT hb (by omega)
 have:=key (l.length-1)
 rw[show m+(l.length-1+1)=m+l.length by omega,Hg,Et] at this
 omega
theorem ME {l:List Pt} (h:VP l) {p u w:Pt} (hc:clo l p) (hh:∀q∈l,trn u w q≤0):trn u w p≤0:=by
 rcases Int.lt_or_le 0 (trn u w p) with q|q
 ·exact absurd (NR h hc (g:=(w.2-u.2,u.1-w.1)) fun x hx=>by
   rw[La];have:=hh x hx;omega) id
 ·exact q
theorem F3 {l:List Pt} (h:VP l) {j:Nat} (hj:j<l.length) {p:Pt} (hz:E l j p=0):clo l p↔btw (pa l j) (pa l ((j+1)%l.length)) p:=by
 have l3:=h.l3
 have hn:0<l.length:=by omega
 have hne:=h.ne hj
 have q0:pa l j=qa l j:=(HX hj).symm
 have q1:pa l ((j+1)%l.length)=qa l (j+1):=rfl
 rw[q0,q1] at hne⊢
 have hz':trn (qa l j) (qa l (j+1)) p=0:=by rw[←iO hn hj];exact hz
 rw[iS hne hz']
 have D:=Ld hne
 constructor
 ·intro hc
  have f1:0≤trn (qa l (j+1)) (qa l (j+2)) p:=by
   have:0≤trn (qa l (j+1)) (qa l (j+1+1)) p:=by rw[PN hn];exact hc _ (Nat.mod_lt _ hn)
   exact this
  have f2:0≤trn (qa l (j+(l.length-1))) (qa l (j+(l.length-1)+1)) p:=by rw[PN hn];exact hc _ (Nat.mod_lt _ hn)
  have e2:qa l (j+(l.length-1)+1)=qa l j:=by rw[show j+(l.length-1)+1=j+l.length by omega,Hg]
  rw[e2] at f2
  have i1:=PQ (u:=qa l (j+1)) (w:=qa l (j+2)) hz'
  have i2:=PQ (u:=qa l (j+(l.length-1))) (w:=qa l j) hz'
  rw[FI,Int.zero_mul,Int.add_zero] at i1
  rw[Et,Int.zero_mul,Int.zero_add] at i2
  have c1:0<trn (qa l (j+1)) (qa l (j+2)) (qa l j):=by
   have:=Hh h.cv (s:=j+1) (a:=l.length-1) (by omega) (by omega)
   rwa [show j+1+(l.length-1)=j+l.length by omega,Hg] at this
  have c2:0<trn (qa l (j+(l.length-1))) (qa l j) (qa l (j+1)):=by
   have:=Hh h.cv (s:=j+(l.length-1)) (a:=2) (by omega) (by omega)
   rwa [e2,show j+(l.length-1)+2=j+1+l.length by omega,Hg] at this
  have k1:=Int.mul_nonneg f1 (Int.le_of_lt D)
  have k2:=Int.mul_nonneg f2 (Int.le_of_lt D)
  have m1:=Eu c1 (b:=dd (qa l j) (qa l (j+1)) (qa l (j+1))-dd (qa l j) (qa l (j+1)) p) (by omega)
  have m2:=Eu c2 (b:=dd (qa l j) (qa l (j+1)) p) (by omega)
  omega
 ·rintro⟨m1,m2⟩ i hi
  have i1:=PQ (u:=qa l i) (w:=qa l (i+1)) hz'
  have g1:=Yr h i j
  have g2:=Yr h i (j+1)
  have k1:=Int.mul_nonneg g1 (show 0≤dd (qa l j) (qa l (j+1)) (qa l (j+1))-dd (qa l j) (qa l (j+1)) p by omega)
  have k2:=Int.mul_nonneg g2 m1
  rw[iO hn hi]
  exact Eu D (by rw[Int.mul_comm];omega)
def Bth (a b:List Pt) (p:Pt):Prop:=clo a p∧clo b p
theorem Qo {e f:Pt×Pt} {s:Pt×Pt} (h:FA e f=some s):trn e.1 e.2 f.1=0∧trn e.1 e.2 f.2=0∧(Ci e.1 e.2 f.1 f.2).1≠(Ci e.1 e.2 f.1 f.2).2∧BN (Ci e.1 e.2 f.1 f.2).1 (Ci e.1 e.2 f.1 f.2).2∧s=(if 0<D6 e.1 e.2 then((Ci e.1 e.2 f.1 f.2).2,(Ci e.1 e.2 f.1 f.2).1) else Ci e.1 e.2 f.1 f.2):=by
 unfold FA at h
 split at h
 ·cases h
 ·rename_i h1
  split at h
  ·cases h
  ·rename_i h2
   refine⟨?_, ?_,fun q=>h2 (.inl q),MD.2 fun q=>h2 (.inr q), ?_⟩
   ·by_cases z:trn e.1 e.2 f.1=0
    ·exact z
    ·exact absurd (.inl z) h1
   ·by_cases z:trn e.1 e.2 f.2=0
    ·exact z
    ·exact absurd (.inr z) h1
   ·split at h
    ·rename_i h3;rw[if_pos h3];exact(yJ h).symm
    ·rename_i h3;rw[if_neg h3];exact(yJ h).symm
theorem bF {e f:Pt×Pt} (h1:trn e.1 e.2 f.1=0) (h2:trn e.1 e.2 f.2=0) (h3:(Ci e.1 e.2 f.1 f.2).1≠(Ci e.1 e.2 f.1 f.2).2) (h4:BN (Ci e.1 e.2 f.1 f.2).1 (Ci e.1 e.2 f.1 f.2).2):FA e f=some (if 0<D6 e.1 e.2 then((Ci e.1 e.2 f.1 f.2).2,(Ci e.1 e.2 f.1 f.2).1) else Ci e.1 e.2 f.1 f.2):=by
 unfold FA
 rw[if_neg (by omega),if_neg (by
  rintro(q|q)
  ·exact h3 q
  ·exact MD.1 h4 q)]
 split<;>rfl
theorem Lf {P Q R S p:Pt}:(BN (Ci P Q R S).1 p∧BN p (Ci P Q R S).2)↔btw P Q p∧btw R S p:=by
 unfold Ci
 rw[Sa,Sa,iP,iQ]
 constructor
 ·rintro⟨⟨a,b⟩,c,d⟩;exact⟨⟨a,c⟩,b,d⟩
 ·rintro⟨⟨a,c⟩,b,d⟩;exact⟨⟨a,b⟩,c,d⟩
theorem iV {P Q R S:Pt} (hR:trn P Q R=0) (hS:trn P Q S=0):trn P Q (Ci P Q R S).1=0∧trn P Q (Ci P Q R S).2=0:=by
 have h1:∀u v:Pt,trn P Q u=0→trn P Q v=0→trn P Q (lo u v)=0∧trn P Q (Am.hi u v)=0∧trn P Q (Im u v)=0∧trn P Q (In u v)=0:=fun u v a b=>by
  unfold lo Am.hi Im In
  refine⟨?_, ?_, ?_, ?_⟩<;>split<;>assumption
 have a:=h1 P Q (FI P Q) (Et P Q)
 have b:=h1 R S hR hS
 exact⟨(h1 _ _ a.1 b.1).2.2.1,(h1 _ _ a.2.1 b.2.1).2.2.2⟩
section
variable {a b:List Pt}
structure SeamOK (a b:List Pt) (s:Pt×Pt):Prop where
 ne:s.1≠s.2
 on:∀p,(clo a p∧¬inn a p)∧(clo b p∧¬inn b p)↔trn s.1 s.2 p=0∧btw s.1 s.2 p
 left:∀x∈a,0≤trn s.1 s.2 x
theorem bG (ha:VP a) (hb:VP b) (hap:apart a b) {j t:Nat} (hj:j<a.length) (ht:t<b.length) {s:Pt×Pt} (hc:FA (pa a j,pa a ((j+1)%a.length)) (pa b t,pa b ((t+1)%b.length))=some s):
  SeamOK a b s∧(dd (pa a j) (pa a ((j+1)%a.length)) (pa b ((t+1)%b.length))<dd (pa a j) (pa a ((j+1)%a.length)) (pa b t))∧(trn (pa a j) (pa a ((j+1)%a.length)) s.1=0∧trn (pa a j) (pa a ((j+1)%a.length)) s.2=0)∧Bth a b s.1∧Bth a b s.2:=by
 obtain⟨zR,zS,ne,le,hs⟩:=Qo hc
 simp only at zR zS ne le hs
 have hmj:(j+1)%a.length<a.length:=Nat.mod_lt _ (by omega)
 have hmt:(t+1)%b.length<b.length:=Nat.mod_lt _ (by omega)
 have nPQ:=ha.ne hj
 have nRS:=hb.ne ht
 have L:=fun x=>GW (x:=x) nPQ nRS zR zS
 have D:=Ld nPQ
 obtain⟨zf,zt⟩:=iV zR zS
 have mf:=Lf.1 ⟨Gk _,le⟩
 have mt:=Lf.1 ⟨le,Gk _⟩
 have cf:Bth a b (Ci (pa a j) (pa a ((j+1)%a.length)) (pa b t) (pa b ((t+1)%b.length))).1:=⟨(F3 ha hj zf).2 mf.1,(F3 hb ht ((L _).2 zf)).2 mf.2⟩
 have ct:Bth a b (Ci (pa a j) (pa a ((j+1)%a.length)) (pa b t) (pa b ((t+1)%b.length))).2:=⟨(F3 ha hj zt).2 mt.1,(F3 hb ht ((L _).2 zt)).2 mt.2⟩
 have cm:∀p,(BN (Ci (pa a j) (pa a ((j+1)%a.length)) (pa b t) (pa b ((t+1)%b.length))).1 p∧BN p (Ci (pa a j) (pa a ((j+1)%a.length)) (pa b t) (pa b ((t+1)%b.length))).2)↔btw (pa a j) (pa a ((j+1)%a.length)) p∧btw (pa b t) (pa b ((t+1)%b.length)) p:=fun p=>Lf
 generalize Ci (pa a j) (pa a ((j+1)%a.length)) (pa b t) (pa b ((t+1)%b.length))=c at*
 have uniq:∀{l:List Pt} (h:VP l) {g i:Nat} (hg:g<l.length) (hi:i<l.length),E l g c.1=0→E l g c.2=0→E l i c.1=0→E l i c.2=0→g=i:=by
  intro l h g i hg hi g1 g2 i1 i2
  have l3:=h.l3
  have A:=fun x=>GW (x:=x) (h.ne hi) ne i1 i2
  have B:=fun x=>GW (x:=x) (h.ne hg) ne g1 g2
  have hmi:(i+1)%l.length<l.length:=Nat.mod_lt _ (by omega)
  have p1:=Sb h hg hi ((B _).1 ((A _).2 (FI _ _)))
  have p2:=Sb h hg hmi ((B _).1 ((A _).2 (Et _ _)))
  rcases p1 with p1|p1
  ·exact p1.symm
  ·rcases p2 with p2|p2
   ·exfalso
    rw[p1,Nat.mod_add_mod] at p2
    have:=OY (s:=g) (n:=l.length) (a:=2) (b:=0) (by omega) (by omega) (by omega)
    rw[Nat.add_zero g,Nat.mod_eq_of_lt hg] at this
    exact this p2
   ·exfalso
    rw[p1,Nat.mod_add_mod] at p2
    have:=OY (s:=g) (n:=l.length) (a:=2) (b:=1) (by omega) (by omega) (by omega)
    exact this p2
 have rel:∀x,E b t x*dd (pa a j) (pa a ((j+1)%a.length)) (pa a ((j+1)%a.length))=E a j x*(dd (pa a j) (pa a ((j+1)%a.length)) (pa b ((t+1)%b.length))-dd (pa a j) (pa a ((j+1)%a.length)) (pa b t)):=fun x=>IY _ _ _ _ x zR zS
 have zero0:∀p,clo a p→clo b p→sep a j b→E a j p=0:=fun p h1 h2 h3=>by
  have:=h1 j hj
  have:=ME hb h2 h3
  unfold E at*;omega
 have opp:sep a j b:=by
  rcases hap with⟨g,hg,hsg⟩|⟨g,hg,hsg⟩
  ·have v:∀p,Bth a b p→E a g p=0:=fun p hp=>by
    have:=hp.1 g hg
    have:=ME hb hp.2 hsg
    unfold E at*;omega
   rw[←uniq ha hg hj (v _ cf) (v _ ct) zf zt]
   exact hsg
  ·have v:∀p,Bth a b p→E b g p=0:=fun p hp=>by
    have:=hp.2 g hg
    have:=ME ha hp.1 hsg
    unfold E at*;omega
   have e:=uniq hb hg ht (v _ cf) (v _ ct) ((L _).2 zf) ((L _).2 zt)
   rw[e] at hsg
   obtain⟨x,hx,px⟩:=Jc ha hj
   have r:=rel x
   have:=hsg x hx
   generalize dd (pa a j) (pa a ((j+1)%a.length)) (pa b ((t+1)%b.length))-dd (pa a j) (pa a ((j+1)%a.length)) (pa b t)=k at*
   have k1:=Int.mul_nonneg (show 0≤-E b t x by omega) (Int.le_of_lt D)
   rw[Int.neg_mul] at k1
   have k0:k≤0:=by
    rcases Int.lt_or_le 0 k with q|q
    ·have:=Int.mul_pos px q;omega
    ·exact q
   intro q hq
   have r2:=rel q
   have nn:=KZ hb ht hq
   rcases Int.lt_or_le 0 (E a j q) with z|z
   ·exfalso
    by_cases kz:k=0
    ·obtain⟨y,hy,py⟩:=Jc hb ht
     have r3:=rel y
     rw[kz,Int.mul_zero] at r3
     have:=Int.mul_pos py D
     omega
    ·have m1:=Int.mul_pos z (show 0< -k by omega)
     rw[Int.mul_neg] at m1
     have m2:=Int.mul_nonneg nn (Int.le_of_lt D)
     omega
   ·exact z
 have kneg:dd (pa a j) (pa a ((j+1)%a.length)) (pa b ((t+1)%b.length))-dd (pa a j) (pa a ((j+1)%a.length)) (pa b t)<0:=by
  obtain⟨y,hy,py⟩:=Jc hb ht
  have r:=rel y
  have o:=opp y hy
  have m1:=Int.mul_pos py D
  generalize dd (pa a j) (pa a ((j+1)%a.length)) (pa b ((t+1)%b.length))-dd (pa a j) (pa a ((j+1)%a.length)) (pa b t)=k at*
  rcases Int.lt_or_le k 0 with q|q
  ·exact q
  ·have:=Int.mul_nonneg (show 0≤-E a j y by omega) q
   rw[Int.neg_mul] at this;omega
 have X:∀p,(clo a p∧¬inn a p)∧(clo b p∧¬inn b p)↔E a j p=0∧BN c.1 p∧BN p c.2:=fun p=>by
  constructor
  ·rintro⟨⟨h1,_⟩,h2,_⟩
   have z:=zero0 p h1 h2 opp
   exact⟨z,(cm p).2 ⟨(F3 ha hj z).1 h1,(F3 hb ht ((L p).2 z)).1 h2⟩⟩
  ·rintro⟨z,hm⟩
   have:=(cm p).1 hm
   have z2:E b t p=0:=(L p).2 z
   refine⟨⟨(F3 ha hj z).2 this.1,fun hi=> ?_⟩,(F3 hb ht z2).2 this.2,fun hi=> ?_⟩
   ·have:=hi j hj;omega
   ·have:=hi t ht;omega
 have key:∀u w:Pt,u≠w→trn (pa a j) (pa a ((j+1)%a.length)) u=0→trn (pa a j) (pa a ((j+1)%a.length)) w=0→dd (pa a j) (pa a ((j+1)%a.length)) u≤dd (pa a j) (pa a ((j+1)%a.length)) w→∀x∈a,0≤trn u w x:=fun u w huw zu zw hle x hx=>by
  have r:=IY _ _ u w x zu zw
  have n:=KZ ha hj hx
  have:=Int.mul_nonneg n (show 0≤dd (pa a j) (pa a ((j+1)%a.length)) w-dd (pa a j) (pa a ((j+1)%a.length)) u by omega)
  unfold E at this
  exact Eu D (by rw[Int.mul_comm];omega)
 by_cases hg:0<D6 (pa a j) (pa a ((j+1)%a.length))
 ·rw[if_pos hg] at hs
  subst hs
  have hQP:BN (pa a ((j+1)%a.length)) (pa a j):=by rw[Lb] at hg;unfold BN;omega
  have s1:trn (pa a ((j+1)%a.length)) (pa a j) c.1=0:=by rw[I9];omega
  have s2:trn (pa a ((j+1)%a.length)) (pa a j) c.2=0:=by rw[I9];omega
  have o:=(H8 (Ne.symm nPQ) hQP s1 s2).2 le
  have ee:∀x,dd (pa a ((j+1)%a.length)) (pa a j) x=dd (pa a j) (pa a ((j+1)%a.length)) (pa a ((j+1)%a.length))-dd (pa a j) (pa a ((j+1)%a.length)) x:=fun x=>by unfold dd;grind
  rw[ee,ee] at o
  refine⟨⟨Ne.symm ne,fun p=> ?_,key c.2 c.1 (Ne.symm ne) zt zf (by omega)⟩,by omega,⟨zt,zf⟩,ct,cf⟩
  rw[X p]
  have sl:=GW (x:=p) nPQ (Ne.symm ne) zt zf
  constructor
  ·rintro⟨q1,q2,q3⟩;exact⟨sl.2 q1,.inr ⟨q2,q3⟩⟩
  ·rintro⟨q1,q2|q2⟩
   ·exact absurd (CV le (E7 q2.1 q2.2)) ne
   ·exact⟨sl.1 q1,q2⟩
 ·rw[if_neg hg] at hs
  subst hs
  have hPQ:BN (pa a j) (pa a ((j+1)%a.length)):=MD.2 hg
  have o:=(H8 nPQ hPQ zf zt).2 le
  refine⟨⟨ne,fun p=> ?_,key _ _ ne zf zt o⟩,by omega,⟨zf,zt⟩,cf,ct⟩
  rw[X p]
  have sl:=GW (x:=p) nPQ ne zf zt
  constructor
  ·rintro⟨q1,q2,q3⟩;exact⟨sl.2 q1,.inl ⟨q2,q3⟩⟩
  ·rintro⟨q1,q2|q2⟩
   ·exact⟨sl.1 q1,q2⟩
   ·exact absurd (CV le (E7 q2.1 q2.2)) ne
end
theorem UO {a b:List Pt} {s:Pt×Pt} (h:IX a b=some s):∃j t,j<a.length∧t<b.length∧FA (pa a j,pa a ((j+1)%a.length)) (pa b t,pa b ((t+1)%b.length))=some s:=by
 unfold IX at h
 obtain⟨e,he,h⟩:=List.exists_of_findSome?_eq_some h
 obtain⟨f,hf,h⟩:=List.exists_of_findSome?_eq_some h
 obtain⟨j,hj,rfl⟩:=Gg.1 he
 obtain⟨t,ht,rfl⟩:=Gg.1 hf
 exact⟨j,t,hj,ht,h⟩
theorem UQ {a b:List Pt} (h:IX a b=none) {e f:Pt×Pt} (he:e∈Bm a) (hf:f∈Bm b):FA e f=none:=by
 unfold IX at h
 rw[List.findSome?_eq_none_iff] at h
 have:=h e he
 rw[List.findSome?_eq_none_iff] at this
 exact this f hf
theorem O4 {P:List Pt} (hb:∀p∈P,Sml p) (f:Pt):∀(n:Nat) (o:Pt) (out:List Pt),HGood P f o out→P.length<n+out.length→∃r:List Pt,0<r.length∧(∀p∈r,p∈P)∧((∃o,∀p∈P,p=o)∨∀i,i<r.length→Edge P (pa r i) (pa r ((i+1)%r.length)))
 |0,o,out,h,hn=>by
  have:=Jv out P h.nd h.sub
  omega
 |n+1,o,out,h,hn=>by
  have hl:=h.len
  have ho:o∈out:=by rw[←h.lst];exact AA (by omega)
  rcases R0 (h.sub o ho) (h.ext o ho) with⟨h1,h2⟩|hE
  ·exact⟨out,hl,h.sub,.inl ⟨o,h2⟩⟩
  ·by_cases hf:sel o P=f
   ·refine⟨out,hl,h.sub,.inr fun i hi=> ?_⟩
    by_cases hc:i+1<out.length
    ·rw[Nat.mod_eq_of_lt hc];exact h.edge i hc
    ·have e:i+1=out.length:=by omega
     have e2:i=out.length-1:=by omega
     rw[e,Nat.mod_self,h.hd,e2,h.lst,←hf]
     exact hE
   ·have hno:sel o P∉out:=fun hm=>by
     obtain⟨j,hj,e⟩:=GA hm
     have j0:j≠0:=by rintro rfl;exact hf (by rw[←e,h.hd])
     have hEj:=h.edge (j-1) (by omega)
     rw[show j-1+1=j by omega,e] at hEj
     have:=Edge.pred hE hEj
     rw[←h.lst] at this
     have:=MB h.nd (by omega) (by omega) this
     omega
    refine O4 hb f n (sel o P) (out++[sel o P]) ⟨by simp,by rw[HU hl,h.hd], ?_, ?_, ?_, ?_, ?_⟩ (by simp;omega)
    ·rw[List.length_append,K6 (by simp) (by simp)]
     simp[pa]
    ·rw[List.nodup_append]
     exact⟨h.nd,by simp,fun a ha b hb'=>by simp at hb';rintro rfl;exact hno (hb'▸ha)⟩
    ·intro p hp
     rcases List.mem_append.1 hp with hp|hp
     ·exact h.sub p hp
     ·simp at hp;rw[hp];exact hE.mw
    ·intro p hp
     rcases List.mem_append.1 hp with hp|hp
     ·exact h.ext p hp
     ·simp at hp;rw[hp];exact hE.ext hb
    ·intro i hi
     rw[List.length_append,List.length_singleton] at hi
     by_cases hc:i+1<out.length
     ·rw[HU (by omega),HU hc];exact h.edge i hc
     ·have e2:i=out.length-1:=by omega
      rw[HU (by omega),K6 (by omega) (by simp;omega),e2,h.lst]
      rw[show out.length-1+1-out.length=0 by omega]
      exact hE
theorem Yu {P:List Pt} (hb:∀p∈P,Sml p) (h0:P≠[]):∃r:List Pt,0<r.length∧(∀p∈r,p∈P)∧((∃o,∀p∈P,p=o)∨∀i,i<r.length→Edge P (pa r i) (pa r ((i+1)%r.length))):=by
 obtain⟨p0,P',rfl⟩:∃p0 P',P=p0::P':=by
  cases P with
  |nil=>exact absurd rfl h0
  |cons a b=>exact⟨a,b,rfl⟩
 obtain⟨h1,h2⟩:=R1 (p0::P') p0
 have hm:low p0 (p0::P')∈p0::P':=by
  rcases List.mem_cons.1 h1 with h|h
  ·rw[h];simp
  ·exact h
 have hx:=aS hb hm (fun p hp=>h2 p (by simp[hp]))
 exact O4 hb _ ((p0::P').length) _ [low p0 (p0::P')] (Yk hm hx) (by simp)
theorem Sd {b:List Pt} (h:VP b) {P Q:Pt} (hne:P≠Q) (hs:∀q∈b,trn P Q q≤0) {x y:Nat} (hxy:x<y) (hy:y<b.length) (ex:trn P Q (pa b x)=0) (ey:trn P Q (pa b y)=0):
  ∃t,t<b.length∧trn P Q (pa b t)=0∧trn P Q (pa b ((t+1)%b.length))=0:=by
 have l3:=h.l3
 have hn:0<b.length:=by omega
 by_cases adj:y=x+1
 ·exact⟨x,by omega,ex,by rw[Nat.mod_eq_of_lt (by omega),←adj];exact ey⟩
 by_cases adj2:x=0∧y+1=b.length
 ·exact⟨y,hy,ey,by rw[adj2.2,Nat.mod_self,←adj2.1];exact ex⟩
 exfalso
 have t1:=Jw h.cv x 1 (by omega) (y-x-2) (by omega)
 rw[show x+(1+(y-x-2)+1)=y by omega,HX hy,HX (by omega:x<b.length)] at t1
 obtain⟨w,hw1,hw2⟩:∃w,y-x<w∧w<b.length:=⟨y-x+1,by omega,by omega⟩
 have t2:=Jw h.cv x (y-x) (by omega) (w-(y-x)-1) (by omega)
 rw[show x+(y-x+(w-(y-x)-1)+1)=x+w by omega,show x+(y-x)=y by omega,HX hy,HX (by omega:x<b.length)] at t2
 have r1:=IY P Q (pa b x) (pa b y) (qa b (x+1)) ex ey
 have r2:=IY P Q (pa b x) (pa b y) (qa b (x+w)) ex ey
 have D:=Ld hne
 have k1:=hs _ (IW hn (x+1))
 have k2:=hs _ (IW hn (x+w))
 have e1:trn (pa b x) (pa b y) (qa b (x+1))= -trn (pa b x) (qa b (x+1)) (pa b y):=by unfold trn;grind
 rw[e1] at r1
 generalize dd P Q (pa b y)-dd P Q (pa b x)=s at*
 generalize dd P Q Q=D' at*
 generalize trn (pa b x) (qa b (x+1)) (pa b y)=A at*
 generalize trn (pa b x) (pa b y) (qa b (x+w))=B at*
 generalize trn P Q (qa b (x+1))=f1 at*
 generalize trn P Q (qa b (x+w))=f2 at*
 have m1:=Int.mul_pos t1 D
 have m2:=Int.mul_pos t2 D
 have m3:f1*s<0:=by rw[←r1,Int.neg_mul];omega
 have m4:0<f2*s:=by omega
 rcases Int.lt_or_le 0 s with q|q
 ·have:=Int.mul_nonneg (show 0≤-f2 by omega) (Int.le_of_lt q)
  rw[Int.neg_mul] at this;omega
 ·have:=Int.mul_nonneg (show 0≤-f1 by omega) (show 0≤-s by omega)
  rw[Int.neg_mul_neg] at this;omega
theorem Se {a b:List Pt} (hb:VP b) {P Q:Pt} (hne:P≠Q) (hs:∀q∈b,trn P Q q≤0) (ha:∀q∈a,0≤trn P Q q) {u v:Pt} (hu:u∈b) (hv:v∈b) (huv:u≠v) (zu:trn P Q u=0) (zv:trn P Q v=0):∃t,t<b.length∧sep b t a:=by
 obtain⟨x,hx,rfl⟩:=GA hu
 obtain⟨y,hy,rfl⟩:=GA hv
 have hxy:x≠y:=fun e=>huv (by rw[e])
 obtain⟨t,ht,e1,e2⟩:∃t,t<b.length∧trn P Q (pa b t)=0∧trn P Q (pa b ((t+1)%b.length))=0:=by
  rcases Nat.lt_or_gt_of_ne hxy with q|q
  ·exact Sd hb hne hs q hy zu zv
  ·exact Sd hb hne hs q hx zv zu
 refine⟨t,ht,fun q hq=> ?_⟩
 have D:=Ld hne
 obtain⟨y',hy',py⟩:=Jc hb ht
 have r1:=IY P Q _ _ y' e1 e2
 have r2:=IY P Q _ _ q e1 e2
 have k1:=hs y' hy'
 have k2:=ha q hq
 unfold E at py⊢
 generalize dd P Q (pa b ((t+1)%b.length))-dd P Q (pa b t)=s at*
 have m1:=Int.mul_pos py D
 have sneg:s<0:=by
  rcases Int.lt_or_le s 0 with c|c
  ·exact c
  ·have:=Int.mul_nonneg (show 0≤-trn P Q y' by omega) c
   rw[Int.neg_mul] at this;omega
 have m2:=Int.mul_nonneg k2 (show 0≤-s by omega)
 rw[Int.mul_neg] at m2
 rcases Int.lt_or_le 0 (trn (pa b t) (pa b ((t+1)%b.length)) q) with c|c
 ·have:=Int.mul_pos c D;omega
 ·exact c
def D7 (p q:Pt):Pt:=(p.1-q.1,p.2-q.2)
def Nf (a b:List Pt):List Pt:=b.flatMap fun q=>a.map fun p=>D7 q p
theorem Gm {a b:List Pt} {d:Pt}:d∈Nf a b↔∃q∈b,∃p∈a,d=D7 q p:=by
 unfold Nf
 simp only[List.mem_flatMap,List.mem_map]
 exact⟨fun⟨q,hq,p,hp,e⟩=>⟨q,hq,p,hp,e.symm⟩,fun⟨q,hq,p,hp,e⟩=>⟨q,hq,p,hp,e.symm⟩⟩
def crx (a b:Pt):Int:=a.1*b.2-a.2*b.1
theorem UR {a b:List Pt} (ha:VP a) (hb:VP b) {v w:Pt} (hE:Edge (Nf a b) v w) (h0:crx v w≤0):apart a b:=by
 obtain⟨q1,hq1,p1,hp1,rfl⟩:=Gm.1 hE.mv
 obtain⟨q2,hq2,p2,hp2,rfl⟩:=Gm.1 hE.mw
 have hl:=fun q hq p hp=>hE.left (D7 q p) (Gm.2 ⟨q,hq,p,hp,rfl⟩)
 have ne:=hE.ne
 obtain⟨τ,hτ⟩:∃τ:Pt,τ=D7 (D7 q2 p2) (D7 q1 p1):=⟨_,rfl⟩
 have lin1:∀q p,trn (D7 q1 p1) (D7 q2 p2) (D7 q p)=(crx τ q-crx τ p)-(crx τ q1-crx τ p1):=fun q p=>by
  rw[hτ];unfold trn D7 crx;simp only;grind
 have z2:crx τ q2-crx τ p2=crx τ q1-crx τ p1:=by rw[hτ];unfold D7 crx;simp only;grind
 have z0:crx (D7 q1 p1) (D7 q2 p2)= -(crx τ q1-crx τ p1):=by rw[hτ];unfold D7 crx;simp only;grind
 have hv:0≤crx τ q1-crx τ p1:=by omega
 have all:∀q∈b,∀p∈a,crx τ q1-crx τ p1≤crx τ q-crx τ p:=fun q hq p hp=>by
  have:=hl q hq p hp
  rw[lin1] at this;omega
 have τne:τ≠(0,0):=fun e=>by
  rw[hτ] at e
  have e1:=congrArg Prod.fst e
  have e2:=congrArg Prod.snd e
  unfold D7 at e1 e2
  simp only at e1 e2
  exact ne (by unfold D7;exact Prod.ext (by simp only;omega) (by simp only;omega))
 have b1:∀q∈b,crx τ q1≤crx τ q:=fun q hq=>by have:=all q hq p1 hp1;omega
 have a1:∀p∈a,crx τ p≤crx τ p1:=fun p hp=>by have:=all q1 hq1 p hp;omega
 have eq:crx τ q2=crx τ q1:=by have:=all q2 hq2 p1 hp1;have:=all q1 hq1 p2 hp2;omega
 have ep:crx τ p2=crx τ p1:=by omega
 have sh:∀x y:Pt,trn x (x.1+τ.1,x.2+τ.2) y=crx τ y-crx τ x:=fun x y=>by unfold trn crx;simp only;grind
 have sh2:∀x y:Pt,trn (x.1+τ.1,x.2+τ.2) x y=crx τ x-crx τ y:=fun x y=>by unfold trn crx;simp only;grind
 have shne:∀x:Pt,x≠(x.1+τ.1,x.2+τ.2):=fun x e=>τne (by
  have e1:=congrArg Prod.fst e
  have e2:=congrArg Prod.snd e
  simp only at e1 e2
  exact Prod.ext (by simp only;omega) (by simp only;omega))
 by_cases hq:q1=q2
 ·have hp:p1≠p2:=fun e=>ne (by rw[hq,e])
  left
  refine Se (b:=a) (a:=b) ha (shne p1) (fun p hp=> ?_) (fun q hq=> ?_) hp1 hp2 hp ?_ ?_
  ·rw[sh];have:=a1 p hp;omega
  ·rw[sh];have:=b1 q hq;omega
  ·rw[sh];omega
  ·rw[sh];omega
 ·right
  refine Se (b:=b) (a:=a) hb (Ne.symm (shne q1)) (fun q hq=> ?_) (fun p hp=> ?_) hq1 hq2 hq ?_ ?_
  ·rw[sh2];have:=b1 q hq;omega
  ·rw[sh2];have:=a1 p hp;omega
  ·rw[sh2];omega
  ·rw[sh2];omega
theorem qI {n:Nat} {v:Nat→Pt} (hn:0<n) (per:∀t,v (t+n)=v t) (h:∀t,0<crx (v t) (v (t+1))) (e:Pt) (he:e≠(0,0)):∃t,0≤crx (v t) e∧0≤crx e (v (t+1)):=by
 by_cases hex:∃t,0≤crx (v t) e∧0≤crx e (v (t+1))
 ·exact hex
 exfalso
 have h0:∀t,0<trn (v t) (v (t+1)) (0,0):=fun t=>by
  have:=h t
  have e2:trn (v t) (v (t+1)) (0,0)=crx (v t) (v (t+1)):=by unfold trn crx;simp only;grind
  omega
 have sw:∀x:Pt,crx e x= -crx x e:=fun x=>by unfold crx;grind
 have nx:∀t,0≤crx (v t) e→0<crx (v (t+1)) e:=fun t ht=>by
  rcases Int.lt_or_le 0 (crx (v (t+1)) e) with c|c
  ·exact c
  ·exact absurd ⟨t,ht,by rw[sw];omega⟩ hex
 by_cases hs:∃t,0≤crx (v t) e
 ·obtain⟨m,hm⟩:=hs
  have all:∀k,0<crx (v (m+1+k)) e:=by
   intro k
   induction k with
   |zero=>exact nx m hm
   |succ k ih=>exact nx (m+1+k) (Int.le_of_lt ih)
  refine Nd (v:=fun t=>v (m+1+t)) hn (fun t=>by show v (m+1+(t+n))=v (m+1+t);rw[←Nat.add_assoc];exact per _) (p:=(0,0)) (g:=(e.2,-e.1)) (fun t=>h0 (m+1+t)) (fun q=>he ?_) fun t=> ?_
  ·have e1:=congrArg Prod.fst q
   have e2:=congrArg Prod.snd q
   simp only at e1 e2
   exact Prod.ext (by simp only;omega) (by simp only;omega)
  ·have:=all t
   unfold crx at this
   unfold lin
   simp only
   have e3:e.2*((v (m+1+t)).1-0)+ -e.1*((v (m+1+t)).2-0)=(v (m+1+t)).1*e.2-(v (m+1+t)).2*e.1:=by grind
   omega
 ·refine Nd (v:=v) hn per (p:=(0,0)) (g:=(-e.2,e.1)) h0 (fun q=>he ?_) fun t=> ?_
  ·have e1:=congrArg Prod.fst q
   have e2:=congrArg Prod.snd q
   simp only at e1 e2
   exact Prod.ext (by simp only;omega) (by simp only;omega)
  ·have:¬0≤crx (v t) e:=fun c=>hs ⟨t,c⟩
   unfold crx at this
   unfold lin
   simp only
   have e3: -e.2*((v t).1-0)+e.1*((v t).2-0)= -((v t).1*e.2-(v t).2*e.1):=by grind
   omega
abbrev Tr3:=Int×Int×Int
def evL (L P:Tr3):Int:=L.1*P.1+L.2.1*P.2.1+L.2.2*P.2.2
def dv (L:Tr3) (d:Pt):Int:=L.1*d.1+L.2.1*d.2
def Hi (p q:Pt):Tr3:=(p.2-q.2,q.1-p.1,(q.2-p.2)*p.1-(q.1-p.1)*p.2)
def eLn (l:List Pt) (i:Nat):Tr3:=Hi (pa l i) (pa l ((i+1)%l.length))
def AS (l:List Pt):List Tr3:=(List.range l.length).map (eLn l)
theorem FJ {l:List Pt} {L:Tr3}:L∈AS l↔∃i,i<l.length∧L=eLn l i:=by
 unfold AS
 simp only[List.mem_map,List.mem_range]
 exact⟨fun⟨i,h,e⟩=>⟨i,h,e.symm⟩,fun⟨i,h,e⟩=>⟨i,h,e.symm⟩⟩
theorem Id (l:List Pt) (i:Nat) (p:Pt):evL (eLn l i) (p.1,p.2,1)=E l i p:=by unfold evL eLn Hi E trn;simp only;grind
def NS (r:Int) (P:Tr3) (s:Int) (d:Pt):Tr3:=(r*P.1+s*d.1,r*P.2.1+s*d.2,r*P.2.2)
theorem MF (L P:Tr3) (r s:Int) (d:Pt):evL L (NS r P s d)=r*evL L P+s*dv L d:=by unfold evL NS dv;simp only;grind
def Sf (P Q:Tr3):Tr3:=(P.1+Q.1,P.2.1+Q.2.1,P.2.2+Q.2.2)
theorem Wl (L P Q:Tr3):evL L (Sf P Q)=evL L P+evL L Q:=by unfold evL Sf;simp only;grind
def InK (Ls:List Tr3) (P:Tr3):Prop:=0<P.2.2∧∀L∈Ls,0≤evL L P
theorem Nx (P:Tr3) (d:Pt):∀(Ls:List Tr3),(∃L∈Ls,dv L d<0)→∃L∈Ls,dv L d<0∧∀M∈Ls,dv M d<0→evL L P*(-dv M d)≤evL M P*(-dv L d)
 |[],h=>by obtain⟨L,hL,_⟩:=h;simp at hL
 |A::Ls,h=>by
  by_cases hr:∃L∈Ls,dv L d<0
  ·obtain⟨L,hL,h1,h2⟩:=Nx P d Ls hr
   by_cases hA:dv A d<0
   ·by_cases hc:evL L P*(-dv A d)≤evL A P*(-dv L d)
    ·refine⟨L,by simp[hL],h1,fun M hM hd=> ?_⟩
     rcases List.mem_cons.1 hM with rfl|hM
     ·exact hc
     ·exact h2 M hM hd
    ·refine⟨A,by simp,hA,fun M hM hd=> ?_⟩
     rcases List.mem_cons.1 hM with rfl|hM
     ·exact Int.le_refl _
     ·have k:=h2 M hM hd
      generalize evL L P=x at*
      generalize evL A P=y at*
      generalize evL M P=z at*
      generalize hl: -dv L d=l at*
      generalize ha: -dv A d=a at*
      generalize hm: -dv M d=m at*
      have lp:0<l:=by omega
      have ap:0<a:=by omega
      have mp:0<m:=by omega
      have k1:0≤m*(x*a-y*l):=Int.mul_nonneg (Int.le_of_lt mp) (by omega)
      have k2:0≤a*(z*l-x*m):=Int.mul_nonneg (Int.le_of_lt ap) (by omega)
      have k3:l*(z*a-y*m)=m*(x*a-y*l)+a*(z*l-x*m):=by grind
      have:=Eu lp (b:=z*a-y*m) (by omega)
      omega
   ·refine⟨L,by simp[hL],h1,fun M hM hd=> ?_⟩
    rcases List.mem_cons.1 hM with rfl|hM
    ·exact absurd hd hA
    ·exact h2 M hM hd
  ·obtain⟨L,hL,h1⟩:=h
   rcases List.mem_cons.1 hL with rfl|hL
   ·refine⟨L,by simp,h1,fun M hM hd=> ?_⟩
    rcases List.mem_cons.1 hM with rfl|hM
    ·exact Int.le_refl _
    ·exact absurd ⟨M,hM,hd⟩ hr
   ·exact absurd ⟨L,hL,h1⟩ hr
theorem ray {Ls:List Tr3} {P:Tr3} (hP:InK Ls P) (d:Pt) (hd:∃L∈Ls,dv L d<0):∃r s L,L∈Ls∧0<r∧0≤s∧InK Ls (NS r P s d)∧dv L d<0∧evL L (NS r P s d)=0∧s=evL L P:=by
 obtain⟨L,hL,h1,h2⟩:=Nx P d Ls hd
 have e0:=hP.2 L hL
 refine⟨-dv L d,evL L P,L,hL,by omega,e0,⟨Int.mul_pos (by omega) hP.1,fun M hM=> ?_⟩,h1, ?_,rfl⟩
 ·rw[MF]
  have eM:=hP.2 M hM
  by_cases hd:dv M d<0
  ·have:=h2 M hM hd
   rw[Int.mul_neg] at this
   rw[Int.mul_comm (-dv L d)]
   omega
  ·have k1:=Int.mul_nonneg (show 0≤-dv L d by omega) eM
   have k2:=Int.mul_nonneg e0 (show 0≤dv M d by omega)
   omega
 ·rw[MF,Int.neg_mul,Int.mul_comm];omega
theorem bH {l:List Pt} (h:VP l) {d:Pt} (hd:d≠(0,0)):∃L∈AS l,dv L d<0:=by
 have l3:=h.l3
 have hn:0<l.length:=by omega
 by_cases hex:∃L∈AS l,dv L d<0
 ·exact hex
 exfalso
 have nn:∀t,crx (qa l t) d≤crx (qa l (t+1)) d:=fun t=>by
  have hm:=FJ.2 ⟨t%l.length,Nat.mod_lt _ hn,rfl⟩
  have:¬dv (eLn l (t%l.length)) d<0:=fun q=>hex ⟨_,hm,q⟩
  have e:dv (eLn l (t%l.length)) d=crx (qa l (t+1)) d-crx (qa l t) d:=by
   have q:pa l ((t%l.length+1)%l.length)=qa l (t+1):=by unfold qa;rw[Nat.mod_add_mod]
   unfold eLn
   rw[q,show pa l (t%l.length)=qa l t from rfl]
   unfold dv Hi crx;simp only;grind
  omega
 have up:∀k t,crx (qa l t) d≤crx (qa l (t+k)) d:=by
  intro k
  induction k with
  |zero=>intro t;exact Int.le_refl _
  |succ k ih=>intro t;have:=ih t;have:=nn (t+k);rw[←Nat.add_assoc];omega
 have c1:crx (qa l 0) d=crx (qa l 1) d:=by
  have a1:=nn 0
  have a2:=up (l.length-1) 1
  rw[show 1+(l.length-1)=0+l.length by omega,Hg] at a2
  have a1:crx (qa l 0) d≤crx (qa l 1) d:=a1
  omega
 have c2:crx (qa l 1) d=crx (qa l 2) d:=by
  have a1:crx (qa l 1) d≤crx (qa l 2) d:=nn 1
  have a2:=up (l.length-2) 2
  rw[show 2+(l.length-2)=0+l.length by omega,Hg] at a2
  omega
 have c:=Hh h.cv (s:=0) (a:=2) (by omega) (by omega)
 simp only[Nat.zero_add] at c
 have z1:d.1*trn (qa l 0) (qa l 1) (qa l 2)=0:=by unfold trn;unfold crx at c1 c2;grind
 have z2:d.2*trn (qa l 0) (qa l 1) (qa l 2)=0:=by unfold trn;unfold crx at c1 c2;grind
 rcases Int.mul_eq_zero.1 z1 with q|q
 ·rcases Int.mul_eq_zero.1 z2 with w|w
  ·exact hd (Prod.ext q w)
  ·omega
 ·omega
theorem MG {a b:List Pt} (ha:VP a) (hb:VP b) (hap:¬apart a b) {p q:Pt} (hp:p∈a) (hq:q∈b):∃P k,0<k∧InK (AS a++AS b) P∧(∀i,i<a.length→k*E a i p≤evL (eLn a i) P)∧∀j,j<b.length→k*E b j q≤evL (eLn b j) P:=by
 have a3:=ha.l3
 have b3:=hb.l3
 have good:∀P:Tr3,0<P.2.2→(∀i,i<a.length→0≤evL (eLn a i) P)→(∀j,j<b.length→0≤evL (eLn b j) P)→InK (AS a++AS b) P:=fun P h1 h2 h3=>by
  refine⟨h1,fun L hL=> ?_⟩
  rcases List.mem_append.1 hL with h|h
  ·obtain⟨i,hi,rfl⟩:=FJ.1 h;exact h2 i hi
  ·obtain⟨i,hi,rfl⟩:=FJ.1 h;exact h3 i hi
 by_cases hd:D7 q p=(0,0)
 ·have e:q=p:=by
   unfold D7 at hd
   have e1:=congrArg Prod.fst hd
   have e2:=congrArg Prod.snd hd
   simp only at e1 e2
   exact Prod.ext (by omega) (by omega)
  subst e
  refine⟨(q.1,q.2,1),1,by omega,good _ (by simp only;omega) (fun i hi=> ?_) (fun j hj=> ?_),fun i hi=> ?_,fun j hj=> ?_⟩
  ·rw[Id];exact KZ ha hi hp
  ·rw[Id];exact KZ hb hj hq
  ·rw[Id];omega
  ·rw[Id];omega
 have sm:∀d∈Nf a b,Sml d:=fun d hd=>by
  obtain⟨q,hq,p,hp,rfl⟩:=Gm.1 hd
  have h1:=ha.on p hp
  have h2:=hb.on q hq
  unfold On at h1 h2
  unfold Sml D7
  simp only
  omega
 have m0:D7 q p∈Nf a b:=Gm.2 ⟨q,hq,p,hp,rfl⟩
 obtain⟨r,r0,rs,rE⟩:=Yu sm (fun e=>by rw[e] at m0;simp at m0)
 have rE:∀i,i<r.length→Edge (Nf a b) (pa r i) (pa r ((i+1)%r.length)):=by
  rcases rE with⟨o,ho⟩|h
  ·exfalso
   have e1:=ho _ (Gm.2 ⟨q,hq,pa a 0,AA (by omega),rfl⟩)
   have e2:=ho _ (Gm.2 ⟨q,hq,pa a 1,AA (by omega),rfl⟩)
   have e3:=e1.trans e2.symm
   unfold D7 at e3
   have f1:=congrArg Prod.fst e3
   have f2:=congrArg Prod.snd e3
   simp only at f1 f2
   have:=ha.ne (show 0<a.length by omega)
   rw[Nat.mod_eq_of_lt (by omega)] at this
   have this:pa a 0≠pa a 1:=this
   exact this (Prod.ext (by omega) (by omega))
  ·exact h
 have pos:∀t,0<crx (pa r (t%r.length)) (pa r ((t+1)%r.length)):=fun t=>by
  have hE:=rE (t%r.length) (Nat.mod_lt _ r0)
  rw[Nat.mod_add_mod] at hE
  rcases Int.lt_or_le 0 (crx (pa r (t%r.length)) (pa r ((t+1)%r.length))) with c|c
  ·exact c
  ·exact absurd (UR ha hb hE c) hap
 obtain⟨t,k1,k2⟩:=qI (v:=fun t=>pa r (t%r.length)) r0 (fun t=>by simp only[Nat.add_mod_right]) pos (-(D7 q p).1,-(D7 q p).2) (fun e=>hd (by
  have e1:=congrArg Prod.fst e
  have e2:=congrArg Prod.snd e
  simp only at e1 e2
  exact Prod.ext (by simp only;omega) (by simp only;omega)))
 have k0:=pos t
 obtain⟨q1,hq1,p1,hp1,e1⟩:=Gm.1 (rs _ (AA (Nat.mod_lt t r0)))
 obtain⟨q2,hq2,p2,hp2,e2⟩:=Gm.1 (rs _ (AA (Nat.mod_lt (t+1) r0)))
 rw[e1] at k0 k1
 rw[e2] at k0 k2
 obtain⟨α,hα⟩:∃α,α=crx (D7 q1 p1) (D7 q2 p2):=⟨_,rfl⟩
 obtain⟨β,hβ⟩:∃β,β=crx (-(D7 q p).1,-(D7 q p).2) (D7 q2 p2):=⟨_,rfl⟩
 obtain⟨γ,hγ⟩:∃γ,γ=crx (D7 q1 p1) (-(D7 q p).1,-(D7 q p).2):=⟨_,rfl⟩
 rw[←hα] at k0
 rw[←hβ] at k2
 rw[←hγ] at k1
 have x1:α*(q.1-p.1)+β*(q1.1-p1.1)+γ*(q2.1-p2.1)=0:=by rw[hα,hβ,hγ];unfold crx D7;simp only;grind
 have x2:α*(q.2-p.2)+β*(q1.2-p1.2)+γ*(q2.2-p2.2)=0:=by rw[hα,hβ,hγ];unfold crx D7;simp only;grind
 have ea:∀i,evL (eLn a i) (α*p.1+β*p1.1+γ*p2.1,α*p.2+β*p1.2+γ*p2.2,α+β+γ)=α*E a i p+β*E a i p1+γ*E a i p2:=fun i=>by
  rw[←Id,←Id,←Id];unfold evL;simp only;grind
 have eb:∀j,evL (eLn b j) (α*p.1+β*p1.1+γ*p2.1,α*p.2+β*p1.2+γ*p2.2,α+β+γ)=α*E b j q+β*E b j q1+γ*E b j q2:=fun j=>by
  have f1:α*p.1+β*p1.1+γ*p2.1=α*q.1+β*q1.1+γ*q2.1:=by grind
  have f2:α*p.2+β*p1.2+γ*p2.2=α*q.2+β*q1.2+γ*q2.2:=by grind
  rw[f1,f2,←Id,←Id,←Id];unfold evL;simp only;grind
 have na:∀i,i<a.length→α*E a i p≤evL (eLn a i) (α*p.1+β*p1.1+γ*p2.1,α*p.2+β*p1.2+γ*p2.2,α+β+γ):=fun i hi=>by
  rw[ea]
  have:=Int.mul_nonneg k2 (KZ ha hi hp1)
  have:=Int.mul_nonneg k1 (KZ ha hi hp2)
  omega
 have nb':∀j,j<b.length→α*E b j q≤evL (eLn b j) (α*p.1+β*p1.1+γ*p2.1,α*p.2+β*p1.2+γ*p2.2,α+β+γ):=fun j hj=>by
  rw[eb]
  have:=Int.mul_nonneg k2 (KZ hb hj hq1)
  have:=Int.mul_nonneg k1 (KZ hb hj hq2)
  omega
 refine⟨_,α,k0,good _ (by simp only;omega) (fun i hi=> ?_) (fun j hj=> ?_),na,nb'⟩
 ·have:=na i hi;have:=Int.mul_nonneg (Int.le_of_lt k0) (KZ ha hi hp);omega
 ·have:=nb' j hj;have:=Int.mul_nonneg (Int.le_of_lt k0) (KZ hb hj hq);omega
theorem bI {Ls:List Tr3} {P Q:Tr3} (h1:InK Ls P) (h2:InK Ls Q):InK Ls (Sf P Q):=
 ⟨by have:=h1.1;have:=h2.1;unfold Sf;simp only;omega,fun L hL=>by rw[Wl];have:=h1.2 L hL;have:=h2.2 L hL;omega⟩
theorem Zf {a b:List Pt} (ha:VP a) (hb:VP b) (hap:¬apart a b):∃P:Tr3,0<P.2.2∧∀L∈AS a++AS b,0<evL L P:=by
 have a3:=ha.l3
 have b3:=hb.l3
 have one:∀L∈AS a++AS b,∃P,InK (AS a++AS b) P∧0<evL L P:=fun L hL=>by
  rcases List.mem_append.1 hL with h|h
  ·obtain⟨i,hi,rfl⟩:=FJ.1 h
   obtain⟨x,hx,px⟩:=Jc ha hi
   obtain⟨P,k,kp,hP,h1,_⟩:=MG ha hb hap hx (AA (i:=0) (show 0<b.length by omega))
   have:=h1 i hi
   have:=Int.mul_pos kp px
   exact⟨P,hP,by omega⟩
  ·obtain⟨i,hi,rfl⟩:=FJ.1 h
   obtain⟨x,hx,px⟩:=Jc hb hi
   obtain⟨P,k,kp,hP,_,h1⟩:=MG ha hb hap (AA (i:=0) (show 0<a.length by omega)) hx
   have:=h1 i hi
   have:=Int.mul_pos kp px
   exact⟨P,hP,by omega⟩
 have many:∀Ms:List Tr3,(∀L∈Ms,L∈AS a++AS b)→∃P,InK (AS a++AS b) P∧∀L∈Ms,0<evL L P:=by
  intro Ms
  induction Ms with
  |nil=>
   intro _
   obtain⟨P,_,_,hP,_,_⟩:=MG ha hb hap (AA (i:=0) (show 0<a.length by omega)) (AA (i:=0) (show 0<b.length by omega))
   exact⟨P,hP,by simp⟩
  |cons M Ms ih=>
   intro h
   obtain⟨P,hP,h1⟩:=ih fun L hL=>h L (by simp[hL])
   obtain⟨Q,hQ,h2⟩:=one M (h M (by simp))
   refine⟨Sf P Q,bI hP hQ,fun L hL=> ?_⟩
   rw[Wl]
   rcases List.mem_cons.1 hL with rfl|hL
   ·have:=hP.2 L (h L (by simp));omega
   ·have:=h1 L hL;have:=hQ.2 L (h L (by simp[hL]));omega
 obtain⟨P,hP,h⟩:=many (AS a++AS b) fun L hL=>hL
 exact⟨P,hP.1,h⟩
structure Vtx (Ls:List Tr3) (L M P:Tr3):Prop where
 inK:InK Ls P
 l:L∈Ls
 m:M∈Ls
 zl:evL L P=0
 zm:evL M P=0
 np:L.1*M.2.1-M.1*L.2.1≠0
theorem bJ {a b:List Pt} (ha:VP a) (hb:VP b) (hap:¬apart a b) {f:Tr3} (hf:f.1≠0∨f.2.1≠0):∃L M P,Vtx (AS a++AS b) L M P∧evL f P≠0:=by
 obtain⟨c,cw,cp⟩:=Zf ha hb hap
 have bd:∀d:Pt,d≠(0,0)→∃L∈AS a++AS b,dv L d<0:=fun d hd=>by
  obtain⟨L,hL,h⟩:=bH ha hd
  exact⟨L,List.mem_append_left _ hL,h⟩
 have cK:InK (AS a++AS b) c:=⟨cw,fun L hL=>Int.le_of_lt (cp L hL)⟩
 have W:0<f.1*f.1+f.2.1*f.2.1:=by
  have h1:=KG f.1
  have h2:=KG f.2.1
  rcases hf with h|h
  ·have:f.1*f.1≠0:=fun q=>h (sq0 q);omega
  ·have:f.2.1*f.2.1≠0:=fun q=>h (sq0 q);omega
 have go_:∀g:Tr3,0<g.1*g.1+g.2.1*g.2.1→0≤evL g c→∃L M P,Vtx (AS a++AS b) L M P∧0<evL g P:=fun g Wg g0=>by
  obtain⟨r,s,L,hL,rp,sp,hK,hd,hz,es⟩:=ray cK (g.1,g.2.1) (bd _ (fun e=>by
   have e1:=congrArg Prod.fst e
   have e2:=congrArg Prod.snd e
   simp only at e1 e2
   rw[e1,e2] at Wg;omega))
  have sp':0<s:=by rw[es];exact cp L hL
  have gp:0<evL g (NS r c s (g.1,g.2.1)):=by
   rw[MF]
   have:=Int.mul_nonneg (Int.le_of_lt rp) g0
   have:=Int.mul_pos sp' Wg
   have e:dv g (g.1,g.2.1)=g.1*g.1+g.2.1*g.2.1:=rfl
   rw[e];omega
  generalize NS r c s (g.1,g.2.1)=P at*
  have Lne:¬(L.1=0∧L.2.1=0):=fun q=>by unfold dv at hd;rw[q.1,q.2] at hd;omega
  have fin_:∀τ:Pt,τ≠(0,0)→(∀M:Tr3,dv M τ≠0→L.1*M.2.1-M.1*L.2.1≠0)→dv L τ=0→0≤dv g τ→∃L M P,Vtx (AS a++AS b) L M P∧0<evL g P:=fun τ hτ hM hLτ hg=>by
   obtain⟨r2,s2,M,hMm,r2p,s2p,hK2,hd2,hz2,_⟩:=ray hK τ (bd _ hτ)
   refine⟨L,M,NS r2 P s2 τ,⟨hK2,hL,hMm, ?_,hz2,hM M (by omega)⟩, ?_⟩
   ·rw[MF,hz,hLτ];simp
   ·rw[MF]
    have:=Int.mul_pos r2p gp
    have:=Int.mul_nonneg s2p hg
    omega
  by_cases hg:0≤dv g (L.2.1,-L.1)
  ·refine fin_ (L.2.1,-L.1) (fun e=>Lne ?_) (fun M hM q=>hM ?_) ?_ hg
   ·have e1:=congrArg Prod.fst e
    have e2:=congrArg Prod.snd e
    simp only at e1 e2
    omega
   ·unfold dv;simp only;grind
   ·unfold dv;simp only;grind
  ·refine fin_ (-L.2.1,L.1) (fun e=>Lne ?_) (fun M hM q=>hM ?_) ?_ ?_
   ·have e1:=congrArg Prod.fst e
    have e2:=congrArg Prod.snd e
    simp only at e1 e2
    omega
   ·unfold dv;simp only;grind
   ·unfold dv;simp only;grind
   ·have e:dv g (-L.2.1,L.1)= -dv g (L.2.1,-L.1):=by unfold dv;simp only;grind
    omega
 by_cases h0:0≤evL f c
 ·obtain⟨L,M,P,hv,hp⟩:=go_ f W h0
  exact⟨L,M,P,hv,by omega⟩
 ·have en:∀P,evL (-f.1,-f.2.1,-f.2.2) P= -evL f P:=fun P=>by unfold evL;simp only;grind
  obtain⟨L,M,P,hv,hp⟩:=go_ (-f.1,-f.2.1,-f.2.2) (by simp only;grind) (by rw[en];omega)
  rw[en] at hp
  exact⟨L,M,P,hv,by omega⟩
def crT (L M:Tr3):Tr3:=(L.2.1*M.2.2-M.2.1*L.2.2,L.2.2*M.1-M.2.2*L.1,L.1*M.2.1-M.1*L.2.1)
def ngT (P:Tr3):Tr3:=(-P.1,-P.2.1,-P.2.2)
def nrT (P:Tr3):Tr3:=if P.2.2<0 then ngT P else P
def dtT (P Q R:Tr3):Int:=P.1*(Q.2.1*R.2.2-Q.2.2*R.2.1)-P.2.1*(Q.1*R.2.2-Q.2.2*R.1)+P.2.2*(Q.1*R.2.1-Q.2.1*R.1)
def ga (Ls:List Tr3) (i:Nat):Tr3:=Ls.getD i (0,0,0)
theorem Wm {Ls:List Tr3} {i:Nat} (h:i<Ls.length):ga Ls i=Ls[i]:=by unfold ga;simp[h]
theorem Hj {Ls:List Tr3} {i:Nat} (h:i<Ls.length):ga Ls i∈Ls:=by rw[Wm h];exact List.getElem_mem h
theorem Ng {Ls:List Tr3} {L:Tr3} (h:L∈Ls):∃i,i<Ls.length∧L=ga Ls i:=by
 obtain⟨i,hi,e⟩:=List.getElem_of_mem h
 exact⟨i,hi,by rw[Wm hi,e]⟩
def Cmn (Ls:List Tr3) (P:Tr3):Prop:=∃i k,i<k∧k<Ls.length∧(crT (ga Ls i) (ga Ls k)).2.2≠0∧P=nrT (crT (ga Ls i) (ga Ls k))∧∀L∈Ls,0≤evL L P
theorem Wn {C:Tr3} (h:C.2.2≠0):0<(nrT C).2.2:=by
 unfold nrT
 split
 ·unfold ngT;simp only;omega
 ·omega
theorem bK {C P:Tr3} (h1:C.2.2*P.1=P.2.2*C.1) (h2:C.2.2*P.2.1=P.2.2*C.2.1):(nrT C).2.2*P.1=P.2.2*(nrT C).1∧(nrT C).2.2*P.2.1=P.2.2*(nrT C).2.1:=by
 unfold nrT ngT
 split
 ·simp only;constructor<;>grind
 ·exact⟨h1,h2⟩
theorem Cmn.inK {Ls:List Tr3} {P:Tr3} (h:Cmn Ls P):InK Ls P:=by
 obtain⟨i,k,_,_,hw,rfl,h⟩:=h
 exact⟨Wn hw,h⟩
theorem bM {Ls:List Tr3} {L M P:Tr3} (h:Vtx Ls L M P):∃Q,Cmn Ls Q∧∀f,evL f P≠0→evL f Q≠0:=by
 obtain⟨i,hi,eLn⟩:=Ng h.l
 obtain⟨k,hk,eM⟩:=Ng h.m
 have np:=h.np
 have zl:=h.zl
 have zm:=h.zm
 have pw:=h.inK.1
 have key:∀A B:Tr3,A.1*B.2.1-B.1*A.2.1≠0→evL A P=0→evL B P=0→(crT A B).2.2≠0∧(∀f,P.2.2*evL f (nrT (crT A B))=(nrT (crT A B)).2.2*evL f P):=fun A B hn zA zB=>by
  have w:(crT A B).2.2≠0:=hn
  have p:=bK (C:=crT A B) (P:=P) (by unfold crT;simp only;unfold evL at zA zB;grind) (by unfold crT;simp only;unfold evL at zA zB;grind)
  refine⟨w,fun f=> ?_⟩
  generalize nrT (crT A B)=Q at p
  unfold evL
  grind
 have fin_:∀A B:Tr3,A.1*B.2.1-B.1*A.2.1≠0→evL A P=0→evL B P=0→(crT A B).2.2≠0∧(∀L∈Ls,0≤evL L (nrT (crT A B)))∧∀f,evL f P≠0→evL f (nrT (crT A B))≠0:=fun A B hn zA zB=>by
  obtain⟨w,e⟩:=key A B hn zA zB
  have q:=Wn w
  refine⟨w,fun L hL=> ?_,fun f hf hz=> ?_⟩
  ·have e1:=e L
   have:=Int.mul_nonneg (Int.le_of_lt q) (h.inK.2 L hL)
   exact Eu pw (by omega)
  ·have e1:=e f
   rw[hz,Int.mul_zero] at e1
   rcases Int.mul_eq_zero.1 e1.symm with x|x
   ·omega
   ·exact hf x
 rcases Nat.lt_trichotomy i k with c|c|c
 ·obtain⟨w,h1,h2⟩:=fin_ L M np zl zm
  rw[eLn,eM] at w h1 h2
  exact⟨_,⟨i,k,c,hk,w,rfl,h1⟩,h2⟩
 ·exfalso
  subst c
  rw[←eM] at eLn
  subst eLn
  omega
 ·obtain⟨w,h1,h2⟩:=fin_ M L (by omega) zm zl
  rw[eLn,eM] at w h1 h2
  exact⟨_,⟨k,i,c,hi,w,rfl,h1⟩,h2⟩
theorem Wo {a b:List Pt} (ha:VP a) (hb:VP b) (hap:¬apart a b):∃P Q R,Cmn (AS a++AS b) P∧Cmn (AS a++AS b) Q∧Cmn (AS a++AS b) R∧dtT P Q R≠0:=by
 have one:∀f:Tr3,f.1≠0∨f.2.1≠0→∃Q,Cmn (AS a++AS b) Q∧evL f Q≠0:=fun f hf=>by
  obtain⟨L,M,P,hv,hp⟩:=bJ ha hb hap hf
  obtain⟨Q,hQ,h⟩:=bM hv
  exact⟨Q,hQ,h f hp⟩
 obtain⟨P,hP,_⟩:=one (1,0,0) (.inl (by simp))
 have pw:=hP.inK.1
 obtain⟨Q,hQ,hq⟩:=one (P.2.2,0,-P.1) (.inl (by simp only;omega))
 obtain⟨R,hR,hr⟩:=one (P.2.1*Q.2.2-P.2.2*Q.2.1,P.2.2*Q.1-P.1*Q.2.2,P.1*Q.2.1-P.2.1*Q.1) (.inr (by unfold evL at hq;simp only at hq;simp only;intro q;apply hq;grind))
 refine⟨P,Q,R,hP,hQ,hR,fun q=>hr ?_⟩
 unfold dtT at q
 unfold evL
 simp only
 grind
def lcT (k:Int) (P c:Tr3):Tr3:=(k*P.1+c.1,k*P.2.1+c.2.1,k*P.2.2+c.2.2)
theorem Zg (L:Tr3) (k:Int) (P c:Tr3):evL L (lcT k P c)=k*evL L P+evL L c:=by unfold evL lcT;simp only;grind
theorem Wp {b:List Pt} (hb:VP b) {f P:Tr3} (hf:f.1≠0∨f.2.1≠0) (h:∀q∈b,evL f (q.1,q.2,1)≤0) (hP:InK (AS b) P):evL f P≤0:=by
 rcases Int.lt_or_le 0 (evL f P) with c|c
 case inr=>exact c
 exfalso
 have b3:=hb.l3
 have hn:0<b.length:=by omega
 obtain⟨C,cw,cp⟩:=Zf hb hb (UN hb)
 obtain⟨k,k0,hk⟩:∃k:Int,0≤k∧0<k*evL f P+evL f C:=by
  refine⟨if 0<evL f C then 0 else 1-evL f C, ?_, ?_⟩
  ·split<;>omega
  ·split
   ·omega
   ·have:=Int.mul_le_mul_of_nonneg_left (show 1≤evL f P by omega) (show 0≤1-evL f C by omega)
    omega
 have W:0<(lcT k P C).2.2:=by
  have:=Int.mul_nonneg k0 (Int.le_of_lt hP.1)
  unfold lcT;simp only;omega
 have pe:∀L∈AS b,0<evL L (lcT k P C):=fun L hL=>by
  rw[Zg]
  have:=Int.mul_nonneg k0 (hP.2 L hL)
  have:=cp L (List.mem_append_left _ hL)
  omega
 have fe:0<evL f (lcT k P C):=by rw[Zg];exact hk
 generalize lcT k P C=Q at W pe fe
 refine Nd (n:=b.length) (v:=fun t=>(Q.2.2*(qa b t).1,Q.2.2*(qa b t).2)) hn (fun t=>by simp only[Hg]) (p:=(Q.1,Q.2.1)) (g:=(-f.1,-f.2.1)) (fun t=> ?_) (fun e=> ?_) (fun t=> ?_)
 ·have e:=pe _ (FJ.2 ⟨t%b.length,Nat.mod_lt _ hn,rfl⟩)
  have q:pa b ((t%b.length+1)%b.length)=qa b (t+1):=by unfold qa;rw[Nat.mod_add_mod]
  unfold eLn at e
  rw[q,show pa b (t%b.length)=qa b t from rfl] at e
  have:=Int.mul_pos W e
  have e2:trn (Q.2.2*(qa b t).1,Q.2.2*(qa b t).2) (Q.2.2*(qa b (t+1)).1,Q.2.2*(qa b (t+1)).2) (Q.1,Q.2.1)=Q.2.2*evL (Hi (qa b t) (qa b (t+1))) Q:=by
   unfold trn evL Hi;simp only;grind
  rw[e2];exact this
 ·have e1:=congrArg Prod.fst e
  have e2:=congrArg Prod.snd e
  simp only at e1 e2
  omega
 ·have e:=h (qa b t) (AA (Nat.mod_lt _ hn))
  have:=Int.mul_nonneg (Int.le_of_lt W) (show 0≤-evL f ((qa b t).1,(qa b t).2,1) by omega)
  have e2:lin (-f.1,-f.2.1) (Q.1,Q.2.1) (Q.2.2*(qa b t).1,Q.2.2*(qa b t).2)=Q.2.2*(-evL f ((qa b t).1,(qa b t).2,1))+evL f Q:=by
   unfold lin evL;simp only;grind
  rw[e2];omega
theorem Yv {A B:List Tr3} {P:Tr3} (h:InK (A++B) P):InK A P:=⟨h.1,fun L hL=>h.2 L (List.mem_append_left _ hL)⟩
theorem Wq {A B:List Tr3} {P:Tr3} (h:InK (A++B) P):InK B P:=⟨h.1,fun L hL=>h.2 L (List.mem_append_right _ hL)⟩
theorem QY {l:List Pt} (h:VP l) {i:Nat} (hi:i<l.length):(eLn l i).1≠0∨(eLn l i).2.1≠0:=by
 have:=h.ne hi
 unfold eLn Hi
 simp only
 by_cases q:(pa l i).2-(pa l ((i+1)%l.length)).2=0
 ·right
  intro w
  exact this (Prod.ext (by omega) (by omega))
 ·exact .inl q
theorem TA {f P Q R:Tr3} (hf:f.1≠0∨f.2.1≠0) (h1:evL f P=0) (h2:evL f Q=0) (h3:evL f R=0):dtT P Q R=0:=by
 unfold evL at h1 h2 h3
 have z1:f.1*dtT P Q R=0:=by unfold dtT;grind
 have z2:f.2.1*dtT P Q R=0:=by unfold dtT;grind
 rcases hf with h|h
 ·rcases Int.mul_eq_zero.1 z1 with x|x
  ·exact absurd x h
  ·exact x
 ·rcases Int.mul_eq_zero.1 z2 with x|x
  ·exact absurd x h
  ·exact x
theorem Yw {a b:List Pt} (ha:VP a) (hb:VP b) (hap:apart a b) {P Q R:Tr3} (hP:InK (AS a++AS b) P) (hQ:InK (AS a++AS b) Q) (hR:InK (AS a++AS b) R):dtT P Q R=0:=by
 rcases hap with⟨i,hi,hs⟩|⟨i,hi,hs⟩
 ·have z:∀S,InK (AS a++AS b) S→evL (eLn a i) S=0:=fun S hS=>by
   have h1:=hS.2 (eLn a i) (List.mem_append_left _ (FJ.2 ⟨i,hi,rfl⟩))
   have h2:=Wp hb (QY ha hi) (fun q hq=>by rw[Id];exact hs q hq) (Wq hS)
   omega
  exact TA (QY ha hi) (z _ hP) (z _ hQ) (z _ hR)
 ·have z:∀S,InK (AS a++AS b) S→evL (eLn b i) S=0:=fun S hS=>by
   have h1:=hS.2 (eLn b i) (List.mem_append_right _ (FJ.2 ⟨i,hi,rfl⟩))
   have h2:=Wp ha (QY hb hi) (fun q hq=>by rw[Id];exact hs q hq) (Yv hS)
   omega
  exact TA (QY hb hi) (z _ hP) (z _ hQ) (z _ hR)
end Go.Proofs.YtciphecegkfaiaaGreat.Am
