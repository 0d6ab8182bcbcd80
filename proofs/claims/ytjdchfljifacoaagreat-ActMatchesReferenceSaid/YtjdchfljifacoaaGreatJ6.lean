import Derived.Test.YtjdchfljifacoaaGreatT5
set_option linter.all false
set_option maxRecDepth 100000
set_option maxHeartbeats 8000000
noncomputable section
namespace Go.Proofs.YtjdchfljifacoaaGreat.Am
section
abbrev Ac:=Int×Un×Int×Int×Int×Mk
inductive FA:Ac->Prop
 |build {u:Un} (h:UV u):FA (1,u,0,0,0,Xg)
 |remove {id:Int} (h:0<=id/\id<=99):FA (2,PE,id,0,0,Xg)
 |cut {id i k j:Int} (h:0<=id/\id<=99) (hj:0<=j/\j<=99) (hd:id≠j) (hi:0<=i/\i<=7) (hk:0<=k/\k<=7) (he:i≠k):FA (3,(j,0,0,[],0,0),id,i,k,Xg)
 |move {id x y:Int} (h:0<=id/\id<=99) (hx: -40<=x/\x<=40) (hy: -40<=y/\y<=40) (hd:x≠0\/y≠0):FA (4,PE,id,x,y,Xg)
 |mark {m:Mk} (h:JF m=true):FA (5,PE,0,0,0,m)
 |close {id:Int} (h:0<=id/\id<=99):FA (6,PE,id,0,0,Xg)
 |opn {id:Int} (h:0<=id/\id<=99):FA (7,PE,id,0,0,Xg)
noncomputable instance(a:Ac):Decidable (FA a):=Classical.propDecidable _
section
variable{a b c p q id i k m1 m2 m3 m4:Int}{l:List Pt}{o:Bool}
theorem fa1:FA (1,(a,b,c,l,p,q),id,i,k,(m1,m2,m3,m4,o))↔UV (a,b,c,l,p,q)/\id=0/\i=0/\k=0/\m1=0/\m2=0/\m3=0/\m4=0/\o=false:=by
 constructor
 ·intro h;cases h;grind
 ·rintro⟨h,rfl,rfl,rfl,rfl,rfl,rfl,rfl,rfl⟩;exact .build h
theorem fa2:FA (2,(a,b,c,l,p,q),id,i,k,(m1,m2,m3,m4,o))↔(0<=id/\id<=99)/\a=0/\b=0/\c=0/\l=[]/\p=0/\q=0/\i=0/\k=0/\m1=0/\m2=0/\m3=0/\m4=0/\o=false:=by
 constructor
 ·intro h;cases h;grind
 ·rintro⟨h,rfl,rfl,rfl,rfl,rfl,rfl,rfl,rfl,rfl,rfl,rfl,rfl,rfl⟩;exact .remove h
theorem qB:FA (3,(a,b,c,l,p,q),id,i,k,(m1,m2,m3,m4,o))↔(0<=id/\id<=99)/\(0<=a/\a<=99)/\id≠a/\(0<=i/\i<=7)/\(0<=k/\k<=7)/\i≠k/\b=0/\c=0/\l=[]/\p=0/\q=0/\m1=0/\m2=0/\m3=0/\m4=0/\o=false:=by
 constructor
 ·intro h;cases h;grind
 ·rintro⟨h1,h2,h3,h4,h5,h6,rfl,rfl,rfl,rfl,rfl,rfl,rfl,rfl,rfl,rfl⟩;exact .cut h1 h2 h3 h4 h5 h6
theorem qC:FA (4,(a,b,c,l,p,q),id,i,k,(m1,m2,m3,m4,o))↔(0<=id/\id<=99)/\(-40<=i/\i<=40)/\(-40<=k/\k<=40)/\(i≠0\/k≠0)/\a=0/\b=0/\c=0/\l=[]/\p=0/\q=0/\m1=0/\m2=0/\m3=0/\m4=0/\o=false:=by
 constructor
 ·intro h;cases h;grind
 ·rintro⟨h1,h2,h3,h4,rfl,rfl,rfl,rfl,rfl,rfl,rfl,rfl,rfl,rfl,rfl⟩;exact .move h1 h2 h3 h4
theorem fa5:FA (5,(a,b,c,l,p,q),id,i,k,(m1,m2,m3,m4,o))↔JF (m1,m2,m3,m4,o)=true/\id=0/\i=0/\k=0/\a=0/\b=0/\c=0/\l=[]/\p=0/\q=0:=by
 constructor
 ·intro h;cases h;grind
 ·rintro⟨h,rfl,rfl,rfl,rfl,rfl,rfl,rfl,rfl,rfl⟩;exact .mark h
theorem fa6:FA (6,(a,b,c,l,p,q),id,i,k,(m1,m2,m3,m4,o))↔(0<=id/\id<=99)/\a=0/\b=0/\c=0/\l=[]/\p=0/\q=0/\i=0/\k=0/\m1=0/\m2=0/\m3=0/\m4=0/\o=false:=by
 constructor
 ·intro h;cases h;grind
 ·rintro⟨h,rfl,rfl,rfl,rfl,rfl,rfl,rfl,rfl,rfl,rfl,rfl,rfl,rfl⟩;exact .close h
theorem fa7:FA (7,(a,b,c,l,p,q),id,i,k,(m1,m2,m3,m4,o))↔(0<=id/\id<=99)/\a=0/\b=0/\c=0/\l=[]/\p=0/\q=0/\i=0/\k=0/\m1=0/\m2=0/\m3=0/\m4=0/\o=false:=by
 constructor
 ·intro h;cases h;grind
 ·rintro⟨h,rfl,rfl,rfl,rfl,rfl,rfl,rfl,rfl,rfl,rfl,rfl,rfl,rfl⟩;exact .opn h
theorem fM{n:Int}{u:Un}{m:Mk}(h:¬(1<=n/\n<=7)):¬FA (n,u,id,i,k,m):=by intro f;cases f<;>exact h (by decide)
theorem LU{l:List Pt}:((l.length:Int)=0)↔l=[]:=by rw[<-H8];omega
end
def Qu(a:Ac):List Int×List Int:=if FA a then if a.1=1 then([a.2.1.1],[])else if a.1=3 then([min a.2.2.1 a.2.1.1,max a.2.2.1 a.2.1.1],[])else if a.1=5 then([a.2.2.2.2.2.2.1],[a.2.2.2.2.2.1])else if a.1=6\/a.1=7 then([],[a.2.2.1])else([a.2.2.1],[])else([],[])
section
variable{N:Nat}(hN:1001<=N)
include hN
variable(a b c p q id i k m1 m2 m3 m4:Int)(l:List Pt)(o:Bool)
theorem Z3:Fj N a b c l p q id i k m1 m2 m3 m4 o=some (decide (FA (1,(a,b,c,l,p,q),id,i,k,(m1,m2,m3,m4,o)))):=by unfold Fj Ks;rw[K0 (by omega)];simp;congr 1;rw[IF,bK,fa1];simp only[nK,Is];rw[show(Ji a b c p q=true/\vB l=true)↔UV (a,b,c,l,p,q) by rw[<-nK];exact Is];grind
theorem Z4:Fk N a b c l p q id i k m1 m2 m3 m4 o=some (decide (FA (2,(a,b,c,l,p,q),id,i,k,(m1,m2,m3,m4,o)))):=by unfold Fk Ku Ct;unfold Cv BM;simp only[bS];rw[BR (by grind),bS];congr 1;rw[IF,bK,fa2];simp only[LU,Is];grind
theorem Z5:Fl N a b c l p q id i k m1 m2 m3 m4 o=some (decide (FA (3,(a,b,c,l,p,q),id,i,k,(m1,m2,m3,m4,o)))):=by unfold Fl JP Ct;unfold Cv BM;simp only[bS];rw[BR (by grind),BR (by grind),BR (by grind),BR (by grind),bS];congr 1;rw[IF,bK,qB];simp only[LU,Is];grind
theorem Z6:Fm N a b c l p q id i k m1 m2 m3 m4 o=some (decide (FA (4,(a,b,c,l,p,q),id,i,k,(m1,m2,m3,m4,o)))):=by unfold Fm JR Ct;unfold Cv BM;simp only[bS];rw[BR (by grind),BR (by grind),BR (by grind),bS];congr 1;rw[IF,bK,qC];simp only[LU,Is];grind
theorem Z7:Fo N a b c l p q id i k m1 m2 m3 m4 o=some (decide (FA (5,(a,b,c,l,p,q),id,i,k,(m1,m2,m3,m4,o)))):=by unfold Fo Kw Ct;rw[Qt];simp only[bS];rw[BR (by grind),bS];congr 1;rw[IF,bK,fa5];simp only[LU,Is];grind
theorem Z8:Fp N a b c l p q id i k m1 m2 m3 m4 o=some (decide (FA (6,(a,b,c,l,p,q),id,i,k,(m1,m2,m3,m4,o)))):=by unfold Fp HI Ct;unfold BM;simp only[bS];rw[BR (by grind),bS];congr 1;rw[IF,bK,fa6];simp only[LU,Is];grind
theorem Z9:Fq N a b c l p q id i k m1 m2 m3 m4 o=some (decide (FA (7,(a,b,c,l,p,q),id,i,k,(m1,m2,m3,m4,o)))):=by unfold Fq HI Ct;unfold BM;simp only[bS];rw[BR (by grind),bS];congr 1;rw[IF,bK,fa7];simp only[LU,Is];grind
theorem Xj{n:Int}(h:¬(1<=n/\n<=7)):Fr N n a b c l p q id i k m1 m2 m3 m4 o=some (decide (FA (n,(a,b,c,l,p,q),id,i,k,(m1,m2,m3,m4,o)))):=by unfold Fr;rw[Ae (by simp;omega),Ae (by simp;omega),Ae (by simp;omega),Ae (by simp;omega),Ae (by simp;omega),Ae (by simp;omega),Ae (by simp;omega),bJ (fM h)]
theorem AcU(n:Int):Lq N n a b c l p q id i k m1 m2 m3 m4 o=some (decide (FA (n,(a,b,c,l,p,q),id,i,k,(m1,m2,m3,m4,o)))):=by unfold Lq;grind[Z3,Z4,Z5,Z6,Z7,Z8,Z9,Xj]
theorem Afa(n:Int):BF N n a b c l p q id i k m1 m2 m3 m4 o=some (decide (FA (n,(a,b,c,l,p,q),id,i,k,(m1,m2,m3,m4,o)))):=by unfold BF;rw[AcU hN,bS]
theorem YX(n:Int):Ca N n a b c l p q id i k m1 m2 m3 m4 o=some (decide (FA (n,(a,b,c,l,p,q),id,i,k,(m1,m2,m3,m4,o)))):=by
 unfold Ca Do AH;simp only[bS];by_cases e:n=1
 ·subst e;rw[AU _ (by rfl),OI hN,bS];congr 1;rw[IF,bK,fa1];simp only[nK,bK,beq_iff_eq];rw[show(Ji a b c p q=true/\vB l=true)↔UV (a,b,c,l,p,q) by rw[<-nK];exact Is];grind
 rw[A1 _ (bJ e)];by_cases e:n=2
 ·subst e;rw[AU _ (by rfl)];congr 1;rw[IF,bK,fa2];simp only[nK,bK,beq_iff_eq,LU];grind
 rw[A1 _ (bJ e)];by_cases e:n=3
 ·subst e;rw[AU _ (by rfl),BR (by grind),BR (by grind),BR (by grind),BR (by grind)];congr 1;rw[IF,bK,qB];simp only[nK,bK,beq_iff_eq,LU,oK,ne_eq];grind
 rw[A1 _ (bJ e)];by_cases e:n=4
 ·subst e;rw[AU _ (by rfl),BR (by grind),BR (by grind)];congr 1;rw[IF,bK,qC];simp only[nK,bK,beq_iff_eq,LU,oK,w6,z8,cY];grind
 rw[A1 _ (bJ e)];by_cases e:n=5
 ·subst e;rw[AU _ (by rfl),RT,bS];congr 1;rw[IF,bK,fa5];simp only[nK,bK,beq_iff_eq,LU];grind
 rw[A1 _ (bJ e)];by_cases e:n=6
 ·subst e;rw[AU _ (by rfl),AU _ (by rfl)];congr 1;rw[IF,bK,fa6];simp only[nK,bK,beq_iff_eq,LU];grind
 rw[A1 _ (bJ e)];by_cases e:n=7
 ·subst e;rw[AU _ (by rfl)];congr 1;rw[IF,bK,fa7];simp only[nK,bK,beq_iff_eq,LU];grind
 rw[A1 _ (bJ e),bJ (fM (by omega))]
theorem Agy(n:Int):Kk N n a b c l p q id i k m1 m2 m3 m4 o=some (Qu (n,(a,b,c,l,p,q),id,i,k,(m1,m2,m3,m4,o))):=by
 unfold Kk;split
 ·subst n;unfold JX Kt E5;rw[Z3 hN,bS];unfold Qu;grind
 split
 ·subst n;unfold JY Kv E5;rw[Z4 hN,bS];unfold Qu;grind
 split
 ·subst n;unfold JZ JQ;rw[Z5 hN,bS];unfold Qu;grind
 split
 ·unfold J0 JS E5;rw[Z6 hN,bS];unfold Qu;grind
 split
 ·unfold J1 Kx E5;rw[Z7 hN,bS];unfold Qu;grind
 split
 ·unfold J2 HJ E5;rw[Z8 hN,bS];unfold Qu;grind
 split
 ·unfold J3 HJ E5;rw[Z9 hN,bS];unfold Qu;grind
 unfold J4 Qu;have h:¬FA (n,(a,b,c,l,p,q),id,i,k,(m1,m2,m3,m4,o)):=fM (by omega);rw[Xj hN _ _ _ _ _ _ _ _ _ _ _ _ _ _ (by omega),bS,bJ h,Ae rfl,dQ h]
theorem Agz(n:Int):HC N n a b c l p q id i k m1 m2 m3 m4 o=some (Qu (n,(a,b,c,l,p,q),id,i,k,(m1,m2,m3,m4,o))):=by unfold HC Qu;rw[YX hN,bS];grind
end
end
theorem dX{u v:List Pt}(h:u.length=v.length)(hp:∀i,i<u.length->pa u i=pa v i):u=v:=by
 apply List.ext_getElem h;intro i h1 h2;have:=hp i h1
 rwa [De h1,De h2]at this
theorem RL{l:List Pt}{i k:Nat}(hik:i<=k)(hk:k<l.length):(l.drop i).take (k+1-i)=Dc l i (k-i):=by apply dX;all_goals grind[By,Gi,GL,De]
theorem WH{l:List Pt}{i k:Nat}(hik:k<i)(hi:i<l.length):l.drop i++l.take (k+1)=Dc l i (k+l.length-i):=by
 apply dX
 ·rw[By,jT,tW,sG];omega
 ·intro t ht;rw[jT,tW,sG]at ht;rw[Gi (by omega)];by_cases h:t<l.length-i
  ·rw[I8 (by rw[sG];omega),GL (by omega),De (by rw[sG];omega),De (by omega),List.getElem_drop]
  ·rw[M5 (by rw[sG];omega) (by rw[sG,tW];omega),sG,De (by rw[tW];omega),List.getElem_take];have e:i+t=(t-(l.length-i))+l.length:=by omega
   rw[e,Gh,GL (by omega),De (by omega)]
theorem Uk{N:Nat}(hN:100<=N){u v:List Pt}(h:0<u.length)(hu:u.length<=1000)(hv:v.length<=1000):BX N [u,v]=some (u++v):=by
 unfold BX;have s1:∀n,Bq N [u,v] (n+1+1+1) 0 0=some (0+(u.length:Int)+(v.length)):=λn=>by rw[Bq,AU _ (by rfl),show A7 [u,v] 0=some u from rfl,bS,Ae (by omega),Ae (by grind),Ae (by decide),Bq,AU _ (by rfl),show A7 [u,v] (0+1)=some v from rfl,bS,Ae (by omega),Ae (by grind),Ae (by decide),Bq,A1 _ (by rfl)]
 have s3:∀n,Br N [u,v] (n+1+1+1) 0 []=some ([]++u++v):=λn=>by rw[Br,AU _ (by rfl),show A7 [u,v] 0=some u from rfl,bS,Ae (by simp;omega),Ae (by decide),Br,AU _ (by rfl),show A7 [u,v] (0+1)=some v from rfl,bS,Ae (by simp;omega),Ae (by decide),Br,A1 _ (by rfl)]
 obtain⟨n,e⟩:∃n,N=n+1+1+1:=⟨N-3,by omega⟩
 have h1:=s1 n;have h3:=s3 n;rw[<-e]at h1 h3;rw[h1,bS,Ae (by grind),Ae (by omega),AU _ (by grind),Ae (by decide),Ae (by omega),Ae (by omega),h3,bS,pA]
theorem Lk{n i k:Nat}(hik:i<=k)(hk:k<n):Eb n i k=k-i:=by unfold Eb;rw[Nat.mod_eq_sub_mod (by omega),sI (by omega)];omega
theorem OA{n i k:Nat}(hik:k<i)(hi:i<n):Eb n i k=k+n-i:=by unfold Eb;rw[sI (by omega)]
theorem tI{N:Nat}(hN:100<=N){l:List Pt}(h:VP l){i k:Nat}(hi:i<l.length)(hk:k<l.length):Id N l i k=some (Tq l i k):=by
 unfold Id Tq;have l8:=h.l8;have t1:((k:Int)+1).toNat=k+1:=by omega
 have t2:((i:Int)+1).toNat=i+1:=by omega
 rw[KT hN h,bS,A1 _ (by simp;omega),t1,t2,tK,tK,Nat.sub_zero,Nat.sub_zero];have ne:∀j m,Dc l j m≠[]:=by grind[By]
 rcases Nat.lt_trichotomy i k with q|q|q
 ·rw[AU _ (by grind),A1 _ (by grind),Lk (by omega) hk,OA q hk,RL (by omega) hk];rw[Ae (by omega),Ae ⟨by omega,by omega,by omega⟩,Ae (ne _ _),Ae (by rw[By];omega),Ae ⟨by omega,by omega⟩,Ae (by omega),Ae ⟨by omega,by omega,by omega⟩,Uk hN (by rw[sG];omega) (by rw[sG];omega) (by rw[tW];omega),bS,WH q hk,By,By];grind
 ·subst q;rw[AU _ (by grind),AU _ (by grind),Lk (by omega) hk,RL (by omega) hk];rw[Ae (by omega),Ae ⟨by omega,by omega,by omega⟩,Ae (ne _ _),Ae (by rw[By];omega),Ae (by omega),Ae ⟨by omega,by omega,by omega⟩,Ae (ne _ _),Ae (by rw[By];omega),By,dW (by omega),AU _ (by grind)]
 ·rw[A1 _ (by grind),OA q hi,Lk (by omega) hi,RL (by omega) hi];rw[Ae ⟨by omega,by omega⟩,Ae (by omega),Ae ⟨by omega,by omega,by omega⟩,Uk hN (by rw[sG];omega) (by rw[sG];omega) (by rw[tW];omega),bS,AU _ (by grind),WH q hi,Ae (by omega),Ae ⟨by omega,by omega,by omega⟩,Ae (ne _ _),Ae (by rw[By];omega),By,By];grind
structure CutAt(l:List Pt)(i k m m':Nat):Prop where
 h:VP l
 hm:2<=m
 hm':2<=m'
 hs:m+m'=l.length
 hk:qa l (i+m)=qa l k
 hi:qa l (k+m')=qa l i
 hkt:∀t,qa l (i+(m+t))=qa l (k+t)
section
abbrev F8:=List Un×List Mk
def I2(id:Int)(m:Mk):Bool:=decide (m.2.1≠id)
def TF(id:Int)(b:Bool)(m:Mk):Mk:=if m.1=id then(m.1,m.2.1,m.2.2.1,m.2.2.2.1,b)else m
def Hx(ms:List Mk)(m:Mk):List Mk:=(ms.filter λx=>decide (x.1<m.1))++m::ms.filter λx=>decide (m.1<=x.1)
def Ia(u:Un)(l:List Pt):Un:=(u.1,u.2.1,u.2.2.1,l,u.2.2.2.2.1,u.2.2.2.2.2)
def Ps(u:Un)(j:Int):Un:=(j,u.2.1,u.2.2.1,u.2.2.2.1,u.2.2.2.2.1,u.2.2.2.2.2)
def Ka(l:List Pt)(i k:Int):List Pt×List Pt×Int:=if i<l.length/\k<l.length then Tq l i.toNat k.toNat else([],[],70)
def S5(d:Pt)(u:Un):Un:=(u.1,u.2.1,u.2.2.1,u.2.2.2.1.map (mv d),u.2.2.2.2.1,u.2.2.2.2.2)
def Xk(d:Pt)(u:Un):Prop:=∀p∈u.2.2.2.1,On (mv d p)
noncomputable instance(d:Pt)(u:Un):Decidable (Xk d u):=Classical.propDecidable _
open Classical in
def It(s:F8)(a:Ac):Option F8:=
 if a.1=1 then(if Fit s.1 a.2.1 then some (Gm s.1 a.2.1,s.2)else none)else
 if a.1=2 then(if∃u∈s.1,u.1=a.2.2.1 then some (EZ s.1 a.2.2.1,s.2.filter (I2 a.2.2.1))else none)else
 if a.1=3 then(match s.1.find? (λu=>decide (u.1=a.2.2.1))with
  |none=>none
  |some u=>
   let c:=Ka u.2.2.2.1 a.2.2.2.1 a.2.2.2.2.1
   let v:=Ia u c.1
   let w:=Ps (Ia u c.2.1) a.2.1.1
   if c.2.2=0/\Fit (EZ s.1 a.2.2.1) v/\Fit (Gm (EZ s.1 a.2.2.1) v) w then some (Gm (Gm (EZ s.1 a.2.2.1) v) w,s.2.filter (I2 a.2.2.1))else none)else
 if a.1=4 then(match s.1.find? (λu=>decide (u.1=a.2.2.1))with
  |none=>none
  |some u=>if Xk (a.2.2.2.1,a.2.2.2.2.1) u/\Fit (EZ s.1 a.2.2.1) (S5 (a.2.2.2.1,a.2.2.2.2.1) u)then some (Gm (EZ s.1 a.2.2.1) (S5 (a.2.2.2.1,a.2.2.2.2.1) u),s.2)else none)else
 if a.1=5 then(if∃m∈s.2,m.1=a.2.2.2.2.2.1 then none else some (s.1,Hx s.2 a.2.2.2.2.2))else
 if∃m∈s.2,m.1=a.2.2.1/\m.2.2.2.2≠decide (a.1=7)then some (s.1,s.2.map (TF a.2.2.1 (decide (a.1=7))))else none
open Classical in
theorem Abq(f:List Un)(ms:List Mk)(u:Un)(id i k:Int)(m:Mk):It (f,ms) (1,u,id,i,k,m)=if Fit f u then some (Gm f u,ms)else none:=by exact dW rfl
open Classical in
theorem Abr(f:List Un)(ms:List Mk)(u:Un)(id i k:Int)(m:Mk):It (f,ms) (2,u,id,i,k,m)=if∃u∈f,u.1=id then some (EZ f id,ms.filter (I2 id))else none:=by unfold It;grind
open Classical in
theorem Abs(f:List Un)(ms:List Mk)(w:Un)(id i k:Int)(m:Mk):It (f,ms) (3,w,id,i,k,m)=(match f.find? (λu=>decide (u.1=id))with
  |none=>none
  |some u=>if(Ka u.2.2.2.1 i k).2.2=0/\Fit (EZ f id) (Ia u (Ka u.2.2.2.1 i k).1)/\Fit (Gm (EZ f id) (Ia u (Ka u.2.2.2.1 i k).1)) (Ps (Ia u (Ka u.2.2.2.1 i k).2.1) w.1)then some (Gm (Gm (EZ f id) (Ia u (Ka u.2.2.2.1 i k).1)) (Ps (Ia u (Ka u.2.2.2.1 i k).2.1) w.1),ms.filter (I2 id))else none):=by
 unfold It;grind
open Classical in
theorem Abt(f:List Un)(ms:List Mk)(w:Un)(id i k:Int)(m:Mk):It (f,ms) (4,w,id,i,k,m)=(match f.find? (λu=>decide (u.1=id))with
  |none=>none
  |some u=>if Xk (i,k) u/\Fit (EZ f id) (S5 (i,k) u)then some (Gm (EZ f id) (S5 (i,k) u),ms)else none):=by
 unfold It;grind
open Classical in
theorem Abu(f:List Un)(ms:List Mk)(w:Un)(id i k:Int)(m:Mk):It (f,ms) (5,w,id,i,k,m)=if∃x∈ms,x.1=m.1 then none else some (f,Hx ms m):=by unfold It;grind
open Classical in
theorem Abv(f:List Un)(ms:List Mk)(w:Un)(id i k:Int)(m:Mk):It (f,ms) (6,w,id,i,k,m)=if∃x∈ms,x.1=id/\x.2.2.2.2≠false then some (f,ms.map (TF id false))else none:=by unfold It;simp_all
open Classical in
theorem Abw(f:List Un)(ms:List Mk)(w:Un)(id i k:Int)(m:Mk):It (f,ms) (7,w,id,i,k,m)=if∃x∈ms,x.1=id/\x.2.2.2.2≠true then some (f,ms.map (TF id true))else none:=by unfold It;simp_all
def Ig(s:F8)(a:Ac):Option F8:=if SV s.1 s.2/\FA a then(match It s a with|some t=>if MV t.1 t.2 then some t else none|none=>none)else none
def IM(o:Option F8):F8×Int:=match o with|some t=>(t,0)|none=>(([],[]),170)
theorem LB{s:F8}{a:Ac}(h:SV s.1 s.2)(f:FA a):Ig s a=(match It s a with|some t=>if MV t.1 t.2 then some t else none|none=>none):=dW ⟨h,f⟩
theorem Mm{s:F8}{a:Ac}(f:¬FA a):Ig s a=none:=dQ λh=>f h.2
theorem Uz(N:Nat){l:List Pt}(hl:l.length<=1000){i k:Nat}(hi:i<l.length)(hk:k<l.length):∀(n t:Nat),t<=Eb l.length i k->Eb l.length i k<n+t->ED N k l n (((i+t)%l.length:Nat):Int) (Dc l i t)=some (Dc l i (Eb l.length i k))
 |0,t,h1,h2=>by omega
 |n+1,t,h1,h2=>by
  rw[ED];have hs:=SO (i:=i) (k:=k) (show 0<l.length by omega);have ha:=Nx hi hk;by_cases e:t=Eb l.length i k
  ·subst e;rw[ha,A1 _ (by simp)]
  ·have hne:(i+t)%l.length≠k:=λq=>e (L4 (by omega) hs (by rw[q,ha]))
   have hm:(i+t)%l.length<l.length:=tH _ (by omega);rw[AU _ (by grind),Ae (by omega),Ae (by omega),Nw,F1 (tH _ (by omega)),bS];simp only;rw[Ae (by rw[By];omega)];have e2:[((pa l (((i+t)%l.length+1)%l.length)).1,(pa l (((i+t)%l.length+1)%l.length)).2)]=[qa l (i+t+1)]:=by unfold qa;rw[JV]
   rw[e2,jZ,JV];exact Uz N hl hi hk n (t+1) (by omega) (by omega)
theorem YY{N:Nat}(hN:100<=N){l:List Pt}(hl:l.length<=50){i k:Nat}(hi:i<l.length)(hk:k<l.length):Fx N l i k=some (Dc l i (Eb l.length i k)):=by
 unfold Fx;have hs:=SO (i:=i) (k:=k) (show 0<l.length by omega);have:=Uz N (by omega) hi hk N 0 (by omega) (by omega);rw[Gt,sI hi]at this;have e:Dc l i 0=[((pa l i).1,(pa l i).2)]:=by unfold Dc;simp[GL hi]
 rw[e]at this;rw[F1 hi,bS];simp only;rw[this,bS]
theorem uL{N:Nat}(hN:100<=N){l:List Pt}(h:VP l){i k:Nat}(hi:i<l.length)(hk:k<l.length):EX N l i k=some (Tq l i k):=by unfold EX Tq;have l8:=h.l8;rw[F7 hN,Li.2 h,bS,A1 _ (by simp;omega),YY hN (by omega) hi hk,bS,YY hN (by omega) hk hi,bS,By,By];grind
open Classical in
theorem qE{N:Nat}(hN:100<=N){u:Un}(h:UV u){d:Pt}(hd:Qg d):FR N u.1 u.2.1 u.2.2.1 u.2.2.2.1 u.2.2.2.2.1 u.2.2.2.2.2 d.1 d.2=some (if Xk d u then(S5 d u,0)else(PE,80)):=by
 unfold FR;rw[YJ hN h.l hd,mT hN h];by_cases ho:Xk d u
 ·have ho':∀p∈u.2.2.2.1,On (mv d p):=ho;rw[dW ho,dW ho',bS];rfl
 ·have ho':¬∀p∈u.2.2.2.1,On (mv d p):=ho;rw[dQ ho,dQ ho',bS];rfl
theorem FV.lens{f:List Un}(h:FV f):∀u∈f,u.2.2.2.1.length<=8:=λu hu=>(h.val u hu).l.l8
section
variable{N:Nat}(hN:1001<=N)
include hN
theorem Xl{f:List Un}(h:FV f):∀n k,k<=f.length->f.length<n+k->EC N f n (k:Nat) (f.take k)=some f
 |0,k,h1,h2=>by omega
 |n+1,k,h1,h2=>by
  rw[EC];by_cases e:k<f.length
  ·have hl:=h.len;rw[Dq e,cT,Fs e,bS];simp only;rw[Po (h.val _ (FH e)),bS,Ae (by rw[tW];omega),Ae (by omega),<-ns];have:=Xl h n (k+1) (by omega) (by omega);rw[KZ e]at this;exact this
  grind
theorem LC{f:List Un}(h:FV f):Ge N f=some f:=by have hl:=h.len;have:=Xl hN h N 0 (by omega) (by omega);exact this
theorem XP{f:List Un}(h:FV f){ms:List Mk}(hl:ms.length<=1000):Fh N f ms=some (f,ms):=by have:=LC hN h;unfold Ge at this;unfold Fh;rw[Ae (by omega),this,bS]
omit hN in
theorem YZ{L:Nat->Int->Option (Sum Unit Int)}{ms:List Mk}(p:Mk->Bool)(hl:ms.length<N)(h1:∀n (k:Nat),k<ms.length->p (Bi ms k)=false->L (n+1) k=L n ((k+1:Nat):Int))(h2:∀n (k:Nat),k<ms.length->p (Bi ms k)=true->L (n+1) k=some (.inr (k:Int)))(h3:∀n,L (n+1) ms.length=some (.inl ())):(L N 0=some (.inl ())/\∀m∈ms,p m=false)\/∃k:Nat,k<ms.length/\p (Bi ms k)=true/\(∀i,i<k->p (Bi ms i)=false)/\L N 0=some (.inr (k:Int)):=by
 have F:=GK (L:=L) (λk=>bif p (Bi ms k)then some (k)else none) (by grind) (λn k r hk e=>?_) h3 N hl
 ·rcases F with⟨e,h⟩|⟨j,r,hj,h,h4,e⟩
  ·refine .inl ⟨e,λm hm=>?_⟩;obtain⟨k,hk,rfl⟩:=Ml hm;grind
  grind
 grind
omit hN in
theorem fN{ms:List Mk}(id:Int)(hl:ms.length<N)(h9:N<=100000):(Bt N ms id=some (-1)/\∀m∈ms,m.2.1≠id)\/∃k:Nat,k<ms.length/\(Bi ms k).2.1=id/\(∀i,i<k->(Bi ms i).2.1≠id)/\Bt N ms id=some (k:Int):=by
 unfold Bt;have F:=YZ (L:=Bc N ms id) (λm=>decide (m.2.1=id)) hl (λn k hk e=>by rw[Bc,Dq hk,cT,E7 hk,bS];simp only;rw[CF,bS,e,cF,Ae (by omega),ns]) (by simp_all[Bc,E7,CF]) (by simp_all[Bc]);grind
omit hN in
theorem fO{ms:List Mk}(id:Int)(hl:ms.length<N)(h9:N<=100000):(Bu N ms id=some (-1)/\∀m∈ms,m.1≠id)\/∃k:Nat,k<ms.length/\(Bi ms k).1=id/\(∀i,i<k->(Bi ms i).1≠id)/\Bu N ms id=some (k:Int):=by
 unfold Bu;have F:=YZ (L:=Bd N ms id) (λm=>decide (m.1=id)) hl (λn k hk e=>by rw[Bd,Dq hk,cT,E7 hk,bS];simp only;rw[GW,bS,e,cF,Ae (by omega),ns]) (by simp_all[Bd,E7,GW]) (by simp_all[Bd]);grind
omit hN in
theorem Vi{ms:List Mk}{i:Nat}(hi:i<ms.length):ms.take (i+1)=ms.take i++[Bi ms i]:=by rw[FJ hi,List.take_append_getElem]
omit hN in
theorem mV{ms l:List Mk}{j:Nat}(hj:j<ms.length)(hl:l.length=ms.length)(e:l.drop j=ms.drop j):Bi l j=Bi ms j:=by rw[FJ hj,FJ (by omega)];have h1:=oH (l:=l) (i:=j) (by omega);have h2:=oH hj;exact by grind
omit hN in
theorem Q1{L:Nat->Int->Int->List Mk->Option (Int×List Mk)}{ms:List Mk}{id:Int}(g1:∀n (i j:Nat) (l:List Mk),i<=j->j<l.length->l.length=ms.length->(Bi l j).2.1≠id->L (n+1) i j l=L n ((i+1:Nat):Int) ((j+1:Nat):Int) (l.set i (Bi l j)))(g2:∀n (i j:Nat) (l:List Mk),i<=j->j<l.length->l.length=ms.length->(Bi l j).2.1=id->L (n+1) i j l=L n i ((j+1:Nat):Int) l)(g3:∀n (i:Nat) (l:List Mk),L (n+1) i (l.length:Nat) l=some ((i:Int),l)):∀n (i j:Nat) (l:List Mk),i<=j->j<=ms.length->ms.length<n+j->l.length=ms.length->l.take i=(ms.take j).filter (I2 id)->l.drop j=ms.drop j->∃(i':Nat)(l':List Mk),L n i j l=some ((i':Int),l')/\i'<=l'.length/\l'.length=ms.length/\l'.take i'=ms.filter (I2 id)
 |0,i,j,l,h1,h2,h3,h4,h5,h6=>by omega
 |n+1,i,j,l,h1,h2,h3,h4,h5,h6=>by
  by_cases e:j<ms.length
  ·have hm:=mV e h4 h6;by_cases c:(Bi ms j).2.1=id
   ·rw[g2 n i j l h1 (by omega) h4 (by rw[hm];exact c)];refine Q1 g1 g2 g3 n i (j+1) l (by omega) (by omega) (by omega) h4 ?_ ?_
    ·rw[Vi e,yI,h5];have:[Bi ms j].filter (I2 id)=[]:=by simp[I2,c]
     rw[this,qO]
    ·have:=congrArg (List.drop 1) h6;rw[w7,w7]at this;exact this
   ·rw[g1 n i j l h1 (by omega) h4 (by rw[hm];exact c)];refine Q1 g1 g2 g3 n (i+1) (j+1) (l.set i (Bi l j)) (by omega) (by omega) (by omega) (by rw[vG];exact h4) ?_ ?_
    ·rw[Vi e,yI,<-h5,hm];have:[Bi ms j].filter (I2 id)=[Bi ms j]:=by simp[I2,c]
     rw[this,List.take_succ_eq_append_getElem (by rw[vG];omega),List.getElem_set_self,List.take_set_of_le (fW _)]
    ·have:=congrArg (List.drop 1) h6;rw[w7,w7]at this;rw[List.drop_set_of_lt (by omega)];exact this
  grind
variable(h9:N<=100000)
include h9
variable(a b c p q id i k m1 m2 m3 m4:Int)(l:List Pt)(o:Bool)
omit hN h9 in
theorem NE{f:List Un}{ms:List Mk}(h:MV f ms):ms.length<=20:=h.len
omit hN h9 in
theorem RW(ms:List Mk)(p:Mk->Bool):(ms.filter p).length<=ms.length:=by grind
theorem J6{f:List Un}(hf:FV f){ms:List Mk}(hl:ms.length<=1000):((CV N f ms).bind λr=>bif !r then some ((([]:List Un),([]:List Mk)),(170:Int))else(Ge N f).bind λu=>gd (ms.length*40<=140737488355328)<|some ((u,ms),0))=some (IM (if MV f ms then some (f,ms)else none)):=by
 rw[Uy hN hf hl,bS];by_cases c:MV f ms
 ·rw[aB c,A1 _ (by rfl),dW c,LC hN hf,bS,Ae (by omega)];rfl
 ·rw[bJ c,AU _ (by rfl),dQ c];rfl
theorem AcV{f:List Un}{ms:List Mk}(h:SV f ms):IU N f ms a b c l p q id i k m1 m2 m3 m4 o=some (IM (Ig (f,ms) (1,(a,b,c,l,p,q),id,i,k,(m1,m2,m3,m4,o)))):=by
 have hl:=NE h.2;unfold IU;rw[Z3 hN,bS];by_cases fa:FA (1,(a,b,c,l,p,q),id,i,k,(m1,m2,m3,m4,o))
 ·rw[aB fa,A1 _ (by rfl),LB h fa,LC hN h.1,bS,Ae (by omega)];have:=Vh hN f (a,b,c,l,p,q);rw[this,bS];rw[Abq];by_cases t:Fit f (a,b,c,l,p,q)
  ·rw[dW t,dW t];exact J6 hN h9 t.fv (by omega)
  ·rw[dQ t,dQ t];rfl
 ·rw[bJ fa,AU _ (by rfl),Mm fa];rfl
omit hN h9 in
theorem RX{ms:List Mk}(h:∀m∈ms,m.2.1≠id):ms.filter (I2 id)=ms:=by rw[L2];intro m hm;unfold I2;rw[bK];exact h m hm
omit hN h9 in
theorem fP{ms:List Mk}{k:Nat}(hk:k<ms.length)(h1:(Bi ms k).2.1=id)(h2:∀i,i<k->(Bi ms i).2.1≠id):ms.take k=(ms.take (k+1)).filter (I2 id):=by rw[Vi hk,yI];grind[I2,RX,List.mem_iff_getElem,FJ]
theorem AcW{f:List Un}{ms:List Mk}(h:SV f ms):IV N f ms a b c l p q id i k m1 m2 m3 m4 o=some (IM (Ig (f,ms) (2,(a,b,c,l,p,q),id,i,k,(m1,m2,m3,m4,o)))):=by
 have hl:=NE h.2;have fl:=RW ms (I2 id);unfold IV;rw[Z4 hN,bS];by_cases fa:FA (2,(a,b,c,l,p,q),id,i,k,(m1,m2,m3,m4,o))
 ·rw[aB fa,A1 _ (by rfl),LB h fa,LC hN h.1,bS,Ae (by omega),kN hN f id,bS];rw[Abr];by_cases t:∃u∈f,u.1=id
  ·rw[dW ⟨h.1,t⟩,dW t];simp only;have rv:FV (EZ f id):=h.1.sub List.filter_sublist;rw[A1 _ (by rfl)];rcases fN id (ms:=ms) (N:=N) (by omega) h9 with⟨e,g⟩|⟨k,hk,g1,g2,e⟩
   ·rw[e,bS,AU _ (by rfl),RX id g];exact J6 hN h9 rv (by omega)
   ·rw[e,bS,A1 _ (by rw[cY];omega),Ae (by unfold Af;omega)];obtain⟨i',l',e1,e2,e3,e4⟩:=Q1 (L:=D8 N id) (ms:=ms) (id:=id) (λn i j l h1 h2 h4 h3=>by
      rw[D8,Dq h2,cT,E7 h2,bS];simp only;rw[CF,bS,bJ h3,AU _ (by rfl),E7 (by omega),bS];rw[Ae (by omega),Ae (by omega),ns,ns,tK]) (λn i j l h1 h2 h4 h3=>by
      rw[D8,Dq h2,cT,E7 h2,bS];simp only;rw[CF,bS,aB h3,A1 _ (by rfl),Ae (by omega),ns]) (by simp_all[D8]) N k (k+1) ms (by omega) (by omega) (by omega) rfl (fP id hk g1 g2) rfl
    grind[Ae,J6]
  ·rw[dQ (λw=>t w.2),dQ t];rfl
 ·rw[bJ fa,AU _ (by rfl),Mm fa];rfl
omit hN h9 in
theorem mW{l:List Pt}(h:VP l){i k:Int}(hi:0<=i)(hk:0<=k)(hN:100<=N):Id N l i k=some (Ka l i k):=by
 unfold Ka;by_cases c:i<l.length/\k<l.length
 ·rw[dW c];have:=tI hN h (i:=i.toNat) (k:=k.toNat) (by omega) (by omega);rw[CY hi,CY hk]at this;exact this
 ·rw[dQ c];unfold Id;rw[KT hN h,bS,AU _ (by simp;omega)]
omit hN h9 in
theorem fQ{l:List Pt}(h:VP l){i k:Int}(hi:0<=i)(hk:0<=k)(hN:100<=N):EX N l i k=some (Ka l i k):=by
 unfold Ka;by_cases c:i<l.length/\k<l.length
 ·rw[dW c];have:=uL hN h (i:=i.toNat) (k:=k.toNat) (by omega) (by omega);rw[CY hi,CY hk]at this;exact this
 ·rw[dQ c];unfold EX;rw[F7 hN,Li.2 h,bS,AU _ (by simp;omega)]
omit hN h9 in
theorem OJ{f:List Un}(h:FV f)(t:Int):(f.find? (λu=>decide (u.1=t))=none/\Df f t=(PE,false)/\¬∃u∈f,u.1=t)\/∃u∈f,u.1=t/\f.find? (λu=>decide (u.1=t))=some u/\Df f t=(u,true):=by unfold Df;grind
theorem AcX{f:List Un}{ms:List Mk}(h:SV f ms):IW N f ms a b c l p q id i k m1 m2 m3 m4 o=some (IM (Ig (f,ms) (3,(a,b,c,l,p,q),id,i,k,(m1,m2,m3,m4,o)))):=by
 have hl:=NE h.2;have fl:=RW ms (I2 id);unfold IW;rw[Z5 hN,bS];by_cases fa:FA (3,(a,b,c,l,p,q),id,i,k,(m1,m2,m3,m4,o))
 ·rw[aB fa,A1 _ (by rfl),LB h fa,LC hN h.1,bS,Ae (by omega),S4 hN,bS,Abs];have fb:=qB.1 fa;rcases OJ h.1 id with⟨e,e2,t⟩|⟨u,hu,t,e,e2⟩
  ·rw[e,e2];simp only;rw[A1 _ (by rfl)];rfl
  ·rw[e,e2];simp only;rw[AU _ (by rfl),mW (h.1.val u hu).l fb.2.2.2.1.1 fb.2.2.2.2.1.1 (by omega),bS];generalize Ka u.2.2.2.1 i k=z;obtain⟨z1,z2,z3⟩:=z;simp only;by_cases t3:z3=0
   ·subst t3;rw[A1 _ (by rfl),kN hN f id,bS,dW ⟨h.1,u,hu,t⟩];simp only;have rv:FV (EZ f id):=h.1.sub List.filter_sublist;rw[A1 _ (by rfl)];have a1:=Vh hN (EZ f id) (Ia u z1);have a2:=Vh hN (Gm (EZ f id) (Ia u z1)) (Ps (Ia u z2) a);unfold Ia at a1;unfold Ia Ps at a2⊢;simp only at a1 a2⊢;rcases fN id (ms:=ms) (N:=N) (by omega) h9 with⟨g0,g⟩|⟨k',hk,g1,g2,g0⟩
    ·rw[g0,bS,AU _ (by rfl),RX id g,a1,bS];by_cases t1:Fit (EZ f id) (u.1,u.2.1,u.2.2.1,z1,u.2.2.2.2.1,u.2.2.2.2.2)
     ·rw[dW t1];simp only;rw[A1 _ (by rfl),a2,bS];by_cases t2:Fit (Gm (EZ f id) (u.1,u.2.1,u.2.2.1,z1,u.2.2.2.2.1,u.2.2.2.2.2)) (a,u.2.1,u.2.2.1,z2,u.2.2.2.2.1,u.2.2.2.2.2)
      ·rw[dW t2,dW ⟨trivial,t1,t2⟩];simp only;rw[A1 _ (by rfl)];exact J6 hN h9 t2.fv (by omega)
      ·rw[dQ t2,dQ λw=>t2 w.2.2];simp only;rw[AU _ (by rfl)];rfl
     ·rw[dQ t1,dQ λw=>t1 w.2.1];rfl
    ·rw[g0,bS,A1 _ (by rw[cY];omega),Ae (by omega)];obtain⟨i',l',e1,e2,e3,e4⟩:=Q1 (L:=D9 N id) (ms:=ms) (id:=id) (λn i j l h1 h2 h4 h3=>by
       rw[D9,Dq h2,cT,E7 h2,bS];simp only;rw[CF,bS,bJ h3,AU _ (by rfl),E7 (by omega),bS];rw[Ae (by omega),Ae (by omega),ns,ns,tK]) (λn i j l h1 h2 h4 h3=>by
       rw[D9,Dq h2,cT,E7 h2,bS];simp only;rw[CF,bS,aB h3,A1 _ (by rfl),Ae (by omega),ns]) (λn i l=>by rw[D9,F2,cF]) N k' (k'+1) ms (by omega) (by omega) (by omega) rfl (fP id hk g1 g2) rfl
     rw[<-ns,e1,bS];simp only;rw[Ae (by omega),Ae (by grind),tK,e4,a1,bS];by_cases t1:Fit (EZ f id) (u.1,u.2.1,u.2.2.1,z1,u.2.2.2.2.1,u.2.2.2.2.2)
     ·rw[dW t1];rw[A1 _ (by rfl),a2,bS];by_cases t2:Fit (Gm (EZ f id) (u.1,u.2.1,u.2.2.1,z1,u.2.2.2.2.1,u.2.2.2.2.2)) (a,u.2.1,u.2.2.1,z2,u.2.2.2.2.1,u.2.2.2.2.2)
      ·rw[dW t2,dW ⟨trivial,t1,t2⟩];exact J6 hN h9 t2.fv (by omega)
      ·rw[dQ t2,dQ λw=>t2 w.2.2];rfl
     ·rw[dQ t1,dQ λw=>t1 w.2.1];rfl
   ·rw[bJ t3,AU _ (by rfl),dQ λw=>t3 w.1];rfl
 ·rw[bJ fa,AU _ (by rfl),Mm fa];rfl
theorem AcY{f:List Un}{ms:List Mk}(h:SV f ms):IX N f ms a b c l p q id i k m1 m2 m3 m4 o=some (IM (Ig (f,ms) (4,(a,b,c,l,p,q),id,i,k,(m1,m2,m3,m4,o)))):=by
 have hl:=NE h.2;unfold IX;rw[Z6 hN,bS];by_cases fa:FA (4,(a,b,c,l,p,q),id,i,k,(m1,m2,m3,m4,o))
 ·rw[aB fa,A1 _ (by rfl),LB h fa,LC hN h.1,bS,Ae (by omega),S4 hN,bS,Abt];have fb:=qC.1 fa;rcases OJ h.1 id with⟨e,e2,t⟩|⟨u,hu,t,e,e2⟩
  ·rw[e,e2];rfl
  ·rw[e,e2];simp only;have um:=qE (N:=N) (by omega) (h.1.val u hu) (d:=(i,k)) (by unfold Qg;omega);rw[AU _ (by rfl),um,bS];by_cases t3:Xk (i,k) u
   ·rw[dW t3];rw[A1 _ (by rfl),kN hN f id,bS,dW ⟨h.1,u,hu,t⟩];have a1:=Vh hN (EZ f id) (S5 (i,k) u);rw[A1 _ (by rfl),a1,bS];by_cases t1:Fit (EZ f id) (S5 (i,k) u)
    ·rw[dW t1,dW ⟨t3,t1⟩];exact J6 hN h9 t1.fv (by omega)
    ·rw[dQ t1,dQ λw=>t1 w.2];rfl
   ·rw[dQ t3,dQ λw=>t3 w.1];rfl
 ·rw[bJ fa,AU _ (by rfl),Mm fa];rfl
omit hN h9 in
theorem aA{f:List Un}{ms:List Mk}(h:MV f ms){i k:Nat}(hik:i<=k)(hk:k<ms.length):(Bi ms i).1<=(Bi ms k).1:=by
 by_cases e:i=k
 ·rw[e];omega
 ·have:=I1.1 h.srt i k (by omega) hk;omega
omit hN h9 in
theorem Abx(s:Nat)(h:s<60):IntKind.wrap .i64 (CW .shr .u64 (IntKind.wrap .u64 ((s:Nat):Int)) 1)=((s/2:Nat):Int):=YP s h
omit hN h9 in
theorem Aby(N:Nat)(x:Mk)(t:Int):F0 N x.1 x.2.1 x.2.2.1 x.2.2.2.1 x.2.2.2.2 t=some (if x.1<t then-1 else if t<x.1 then 1 else 0):=by unfold F0;rw[SM,bS]
omit hN h9 in
theorem TG(N:Nat){f:List Un}{ms:List Mk}(h:MV f ms)(t:Int):∀(n i j:Nat),i<=j->j<=ms.length->j<n+i->(∀k,k<i->(Bi ms k).1<t)->(∀k,j<=k->k<ms.length->t<=(Bi ms k).1)->∃r:Nat,AT N ms t n i j=some (r:Int)/\r<=ms.length/\(∀k,k<r->(Bi ms k).1<t)/\∀k,r<=k->k<ms.length->t<=(Bi ms k).1
 |0,i,j,h1,_,h3,_,_=>by omega
 |n+1,i,j,h1,h2,h3,h4,h5=>by
  have hl:=h.len;rw[AT];by_cases e:i=j
  ·grind
  ·have hm:(i+j)/2<ms.length:=by omega
   rw[Dq (by omega),cT,Ae (by omega),<-Int.natCast_add,Abx _ (by omega),E7 hm,bS];simp only;rw[Aby,bS];by_cases c:(Bi ms ((i+j)/2)).1<t
   ·rw[dW c,AU _ (by rfl),Ae (by omega),<-ns];exact TG N h t n _ j (by omega) h2 (by omega) (λk hk=>by have:=aA h (i:=k) (by omega) hm;omega) h5
   ·rw[dQ c,A1 _ (by split<;>rfl)];exact TG N h t n i _ (by omega) (by omega) (by omega) h4 (λk h6 h7=>by have:=aA h h6 h7;omega)
omit hN in
open Classical in
theorem AcZ{f:List Un}{ms:List Mk}(h:MV f ms)(t:Int)(hN:1001<=N):∃r:Nat,r<=ms.length/\ms.take r=(ms.filter λx=>decide (x.1<t))/\ms.drop r=(ms.filter λx=>decide (t<=x.1))/\BE N ms t=some ((r:Int),decide (∃x∈ms,x.1=t)):=by
 have hl:=h.len;obtain⟨r,e,h1,h2,h3⟩:=TG N h t N 0 ms.length (by omega) (by omega) (by omega) (λk hk=>by omega) (λk h1 h2=>by omega);rw[nL]at e;have tk:∀x∈ms.take r,x.1<t:=by grind[List.mem_iff_getElem,FJ]
 have dp:∀x∈ms.drop r,t<=x.1:=λx hx=>by obtain⟨j,hj,rfl⟩:=List.mem_iff_getElem.1 hx;rw[sG]at hj;rw[List.getElem_drop,<-FJ (by omega)];exact h3 (r+j) (by omega) (by omega)
 have sp:=y9 r ms;refine⟨r,h1,?_,?_,?_⟩
 ·rw[<-y9 r ms,yI,y9 r ms,L2.2 λx hx=>aB (tk x hx),L5.2 λx hx=>by rw[bK];have:=dp x hx;omega,qO]
 ·rw[<-y9 r ms,yI,y9 r ms,L5.2 λx hx=>by rw[bK];have:=tk x hx;omega,L2.2 λx hx=>aB (dp x hx),pA]
 ·unfold BE;have cm:=Aby N (Bi ms r) t;unfold Bi at cm;rw[e,bS,BR (λh=>by simp only[bK]at h;omega),tK,cm,BR (λ_=>jS),oK];congr 2;rw[IF,bK,nK,bK,bK];constructor
  ·rintro⟨g1,g2⟩;refine⟨_,J5 (k:=r) (by omega),?_⟩;unfold Bi;split at g2
   ·omega
   ·split at g2<;>omega
  ·rintro⟨x,hx,e⟩;obtain⟨k,hk,rfl⟩:=Ml hx;have g1:r<=k:=by
    by_cases c:r<=k
    ·exact c
    ·have:=h2 k (by omega);omega
   have g2:=h3 r (fW _) (by omega);have g3:=aA h g1 hk;unfold Bi at g2 g3 e;refine⟨by omega,?_⟩;rw[dQ (by omega),dQ (by omega)]
theorem Ac0{f:List Un}{ms:List Mk}(h:SV f ms):IY N f ms a b c l p q id i k m1 m2 m3 m4 o=some (IM (Ig (f,ms) (5,(a,b,c,l,p,q),id,i,k,(m1,m2,m3,m4,o)))):=by
 have hl:=NE h.2;unfold IY;rw[Z7 hN,bS];by_cases fa:FA (5,(a,b,c,l,p,q),id,i,k,(m1,m2,m3,m4,o))
 ·obtain⟨r,r1,r2,r3,r4⟩:=AcZ h9 h.2 m1 (by omega);rw[aB fa,A1 _ (by rfl),LB h fa,LC hN h.1,bS,Ae (by omega),r4,bS,Abu];simp only;by_cases t:∃x∈ms,x.1=m1
  ·rw[aB t,AU _ (by rfl),dW t];rfl
  ·rw[bJ t,A1 _ (by rfl),dQ t,Ae (by omega),Ae (by omega),tK];have il:(ms.take r++[(m1,m2,m3,m4,o)]++ms.drop r).length=ms.length+1:=by grind
   have ie:Hx ms (m1,m2,m3,m4,o)=ms.take r++[(m1,m2,m3,m4,o)]++ms.drop r:=by grind[Hx]
   rw[ie];exact J6 hN h9 h.1 (by omega)
 ·rw[bJ fa,AU _ (by rfl),Mm fa];rfl
omit hN h9 in
theorem TH{f:List Un}{ms:List Mk}(h:MV f ms){k:Nat}(hk:k<ms.length)(b:Bool):ms.set k ((Bi ms k).1,(Bi ms k).2.1,(Bi ms k).2.2.1,(Bi ms k).2.2.2.1,b)=ms.map (TF (Bi ms k).1 b):=by
 refine List.ext_getElem (by rw[vG,qI]) λj h1 h2=>?_
 rw[vG]at h1;rw[List.getElem_map,List.getElem_set];unfold TF;rw[<-FJ h1];by_cases e:k=j
 ·subst e;rw[dW rfl,dW rfl]
 ·rw[dQ e,dQ];by_cases c:k<j
  ·have:=I1.1 h.srt k j c h1;omega
  ·have:=I1.1 h.srt j k (by omega) hk;omega
theorem Ac1{f:List Un}{ms:List Mk}(h:SV f ms):IZ N f ms a b c l p q id i k m1 m2 m3 m4 o=some (IM (Ig (f,ms) (6,(a,b,c,l,p,q),id,i,k,(m1,m2,m3,m4,o)))):=by
 have hl:=NE h.2;unfold IZ;rw[Z8 hN,bS];by_cases fa:FA (6,(a,b,c,l,p,q),id,i,k,(m1,m2,m3,m4,o))
 ·rw[aB fa,A1 _ (by rfl),LB h fa,LC hN h.1,bS,Ae (by omega),Abv];rcases fO id (ms:=ms) (N:=N) (by omega) h9 with⟨e,g⟩|⟨k',hk,g1,g2,e⟩
  ·rw[e,bS,BR (by grind),BR (by grind),show decide (0<=(-1:Int))=false from rfl,Bool.false_and,AU _ (by rfl),dQ]
   ·rfl
   grind
  ·rw[e,bS,Ae (λ_=>by omega),Ae (λ_=>by omega),aB (p:=(0:Int)<=(k')) (by omega),Ld,tK,show(ms.getD k' (0,0,0,0,false))=Bi ms k' from rfl];by_cases t:(Bi ms k').2.2.2.2=false
   ·rw[t,AU _ (by rfl),dQ]
    ·rfl
    ·rintro⟨x,hx,e,e2⟩;obtain⟨j,hj,rfl⟩:=Ml hx;have:j=k':=by
      by_cases c:k'<j
      ·have:=I1.1 h.2.srt k' j c hj;omega
      grind
     grind
   ·rw[A1 _ (by rw[Bool.not_eq_false',bne_iff_ne];exact t),E7 hk,bS,dW ⟨_,J5 hk,g1,t⟩];simp only;rw[TH h.2 hk false,g1];exact J6 hN h9 h.1 (by rw[qI];omega)
 ·rw[bJ fa,AU _ (by rfl),Mm fa];rfl
theorem Ac2{f:List Un}{ms:List Mk}(h:SV f ms):I0 N f ms a b c l p q id i k m1 m2 m3 m4 o=some (IM (Ig (f,ms) (7,(a,b,c,l,p,q),id,i,k,(m1,m2,m3,m4,o)))):=by
 have hl:=NE h.2;unfold I0;rw[Z9 hN,bS];by_cases fa:FA (7,(a,b,c,l,p,q),id,i,k,(m1,m2,m3,m4,o))
 ·rw[aB fa,A1 _ (by rfl),LB h fa,LC hN h.1,bS,Ae (by omega),Abw];rcases fO id (ms:=ms) (by omega) h9 with⟨e,g⟩|⟨k',hk,g1,g2,e⟩
  ·rw[e,bS,BR (by grind),BR (by grind),show decide (0<=(-1))=false from rfl,Bool.false_and,AU _ (by rfl),dQ]
   ·rfl
   grind
  ·rw[e,bS,Ae (λ_=>by omega),Ae (λ_=>by omega),aB (p:=(0:Int)<=(k')) (by omega),Ld,tK,show(ms.getD k' (0,0,0,0,false))=Bi ms k' from rfl];by_cases t:(Bi ms k').2.2.2.2=true
   ·rw[t,AU _ (by rfl),dQ]
    ·rfl
    ·rintro⟨x,hx,e,e2⟩;obtain⟨j,hj,rfl⟩:=Ml hx;have:j=k':=by
      by_cases c:k'<j
      ·have:=I1.1 h.2.srt k' j c hj;omega
      grind
     grind
   ·rw[A1 _ (by rw[Bool.not_eq_false',bne_iff_ne];exact t),E7 hk,bS,dW ⟨_,J5 hk,g1,t⟩];simp only;rw[TH h.2 hk true,g1];exact J6 hN h9 h.1 (by rw[qI];omega)
 ·rw[bJ fa,AU _ (by rfl),Mm fa];rfl
theorem qF{f:List Un}{ms:List Mk}(h:SV f ms)(n:Int):JW N f ms n a b c l p q id i k m1 m2 m3 m4 o=some (IM (Ig (f,ms) (n,(a,b,c,l,p,q),id,i,k,(m1,m2,m3,m4,o)))):=by
 unfold JW;split;·grind[AcV]
 split;·grind[AcW]
 split;·grind[AcX]
 split;·grind[AcY]
 split;·grind[Ac0]
 split;·grind[Ac1]
 split;·grind[Ac2]
 unfold Kz;have hh:¬FA (n,(a,b,c,l,p,q),id,i,k,(m1,m2,m3,m4,o)):=fM (by omega);rw[Xj hN _ _ _ _ _ _ _ _ _ _ _ _ _ _ (by omega),bS,bJ hh,Ae rfl,Mm hh];rfl
theorem AgW{f:List Un}{ms:List Mk}(hl:ms.length<=1000)(n:Int):CZ N f ms n a b c l p q id i k m1 m2 m3 m4 o=some (IM (Ig (f,ms) (n,(a,b,c,l,p,q),id,i,k,(m1,m2,m3,m4,o)))):=by
 unfold CZ;rw[fL hN f hl,bS];by_cases h:SV f ms
 ·rw[aB h,A1 _ (by rfl),qF hN h9 _ _ _ _ _ _ _ _ _ _ _ _ _ _ h,bS]
 ·rw[bJ h,AU _ (by rfl),show Ig (f,ms) (n,(a,b,c,l,p,q),id,i,k,(m1,m2,m3,m4,o))=none from dQ λw=>h w.1];rfl
end
end
open Go
attribute [local irreducible] Ax BO BB Bj BC Bk AY BD BK Cq
def Mh(N:Nat)(bb:Int)(am:Int)(ak:Int)(ba:Int)(aj:List (Int×Int))(ai:Int)(ah:Int)(az:Int)(ay:Int)(av:Int)(au:Int)(af:Int)(aq:Int)(ae:Int)(ab:Bool)(be:Int)(aa:Int):Option (Int×(Int×Int×Int×(List (Int×Int))×Int×Int)×Int×Int×Int×(Int×Int×Int×Int×Bool)):=(AN N be 8).bind λan=>bif decide (an=0)then(some (aa,(am,ak,ba,aj,ai,ah),az,ay,av,(au,af,aq,ae,ab)))else(bif decide (an=1)then(some (bb,(am,ak,ba,aj,ai,ah),aa,ay,av,(au,af,aq,ae,ab)))else(bif decide (an=2)then(some (bb,(am,ak,ba,aj,ai,ah),az,aa,av,(au,af,aq,ae,ab)))else(bif decide (an=3)then(some (bb,(am,ak,ba,aj,ai,ah),az,ay,aa,(au,af,aq,ae,ab)))else(bif decide (an=4)then((Jy N am ak ba aj ai ah 0 aa 0).bind λ(bl,bj,bi,bh,bg,bf)=>some (bb,(bl,bj,bi,bh,bg,bf),az,ay,av,(au,af,aq,ae,ab)))else(bif decide (an=5)then(some (bb,(am,ak,ba,aj,ai,ah),az,ay,av,(au,af,aa,ae,ab)))else(bif decide (an=6)then(some (bb,(am,ak,ba,aj,ai,ah),az,ay,av,(aa,af,aq,ae,ab)))else(some (bb,(am,ak,aa,aj,ai,ah),az,ay,av,(au,af,aq,ae,ab)))))))))
@[go_sem] def s14(N:Nat):Spec:=p0<|(Aoh<|Aoi<|Aoi<|Aoi<|Aoi<|Aon Aq<|Aoi<|Aoi<|Aoi<|Aoi<|Aoi<|Aoi<|Aoi<|Aoi<|Aoi<|Aod<|Aof<|Aoi<|Aoi<|Aof<|Aog (0,(0,0,0,[],0,0),0,0,0,(0,0,0,0,false)) λr=>.agg [.i r.1,.i r.2.1.1,.i r.2.1.2.1,.i r.2.1.2.2.1,BP r.2.1.2.2.2.1,.i r.2.1.2.2.2.2.1,.i r.2.1.2.2.2.2.2,.i r.2.2.1,.i r.2.2.2.1,.i r.2.2.2.2.1,.i r.2.2.2.2.2.1,.i r.2.2.2.2.2.2.1,.i r.2.2.2.2.2.2.2.1,.i r.2.2.2.2.2.2.2.2.1,.b r.2.2.2.2.2.2.2.2.2]) (Mh N)
theorem AgP(N:Nat):AG Tryz.prog 14 (s14 N):=by
 refine fk (Aoq x14 (Ab (U0 N)<|Ab (Ab1 N)<|Aj)) ?_;intro bb am ak ba aj ai ah az ay av au af aq ae ab be aa r h _ hS F;dsimp only[x14,Ah,Aq];unfold Mh at h;obtain⟨an,bn,h⟩:=un h;replace F:=fc bn F;refine An hS F h (λ_ h=>?_) (λ_ h=>?_)
 ·exact Ai hS F h
 ·refine An hS F h (λ_ h=>?_) (λ_ h=>?_)
  ·exact Ai hS F h
  ·refine An hS F h (λ_ h=>?_) (λ_ h=>?_)
   ·exact Ai hS F h
   ·refine An hS F h (λ_ h=>?_) (λ_ h=>?_)
    ·exact Ai hS F h
    ·refine An hS F h (λ_ h=>?_) (λ_ h=>?_)
     ·obtain⟨⟨bl,bj,bi,bh,bg,bf⟩,bm,h⟩:=un h;exact Ai hS (fc bm F) h
     ·refine An hS F h (λ_ h=>?_) (λ_ h=>?_)
      ·exact Ai hS F h
      ·refine An hS F h (λ_ h=>?_) (λ_ h=>?_)
       ·exact Ai hS F h
       ·exact Ai hS F h
