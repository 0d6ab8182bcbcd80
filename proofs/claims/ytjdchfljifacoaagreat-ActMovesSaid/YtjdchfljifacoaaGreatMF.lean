import Derived.Test.YtjdchfljifacoaaGreatTE
set_option linter.all false
set_option maxRecDepth 100000
set_option maxHeartbeats 8000000
namespace Go.Proofs.YtjdchfljifacoaaGreat.Am
section
open Go
attribute [local irreducible] Ax BO BB Bj BC Bk AY BD BK Cq
def Kk(N:Nat)(cr:Int)(cq:Int)(co:Int)(cn:Int)(ck:List (Int×Int))(cj:Int)(ci:Int)(ce:Int)(b9:Int)(b7:Int)(bz:Int)(bw:Int)(bv:Int)(bu:Int)(br:Bool):Option ((List Int)×(List Int)):=if cr=1 then JX N cq co cn ck cj ci ce b9 b7 bz bw bv bu br else if cr=2 then JY N cq co cn ck cj ci ce b9 b7 bz bw bv bu br else if cr=3 then JZ N cq co cn ck cj ci ce b9 b7 bz bw bv bu br else if cr=4 then J0 N cq co cn ck cj ci ce b9 b7 bz bw bv bu br else if cr=5 then J1 N cq co cn ck cj ci ce b9 b7 bz bw bv bu br else if cr=6 then J2 N cq co cn ck cj ci ce b9 b7 bz bw bv bu br else if cr=7 then J3 N cq co cn ck cj ci ce b9 b7 bz bw bv bu br else J4 N cr cq co cn ck cj ci ce b9 b7 bz bw bv bu br
@[go_sem] def Xd(N:Nat):Spec:=p0<|pG<|pI λcr=>pI λcq=>pI λco=>pI λcn=>pS Aq λck=>pI λcj=>pI λci=>pI λce=>pI λb9=>pI λb7=>pI λbz=>pI λbw=>pI λbv=>pI λbu=>pB λbr=>pE<|pE<|pF (Kk N cr cq co cn ck cj ci ce b9 b7 bz bw bv bu br) ([],[]) λr=>.tup [FW r.1,FW r.2]
theorem AcN(N:Nat):AG Tryz.prog 27 (Xd N):=by
 refine Ar x27.ok<|Aw<|Aa λcr=>Aa λcq=>Aa λco=>Aa λcn=>AF λck=>Aa λcj=>Aa λci=>Aa λce=>Aa λb9=>Aa λb7=>Aa λbz=>Aa λbw=>Aa λbv=>Aa λbu=>AX λbr=>Ad<|Ad<|As λr h=>?_
 dsimp only[Aq];unfold Kk at h;split at h
 ·rename_i e;subst e;exact Bv (lX N) (by simp only[go_sem,seval,h]<;>eq_refl) (by simp only[go_sem,seval,h])
 split at h
 ·rename_i e;subst e;exact Bv (lY N) (by simp only[go_sem,seval,h]<;>eq_refl) (by simp only[go_sem,seval,h])
 split at h
 ·rename_i e;subst e;exact Bv (lZ N) (by simp only[go_sem,seval,h]<;>eq_refl) (by simp only[go_sem,seval,h])
 split at h
 ·rename_i e;subst e;exact Bv (mA N) (by simp only[go_sem,seval,h]<;>eq_refl) (by simp only[go_sem,seval,h])
 split at h
 ·rename_i e;subst e;exact Bv (mB N) (by simp only[go_sem,seval,h]<;>eq_refl) (by simp only[go_sem,seval,h])
 split at h
 ·rename_i e;subst e;exact Bv (mC N) (by simp only[go_sem,seval,h]<;>eq_refl) (by simp only[go_sem,seval,h])
 split at h
 ·rename_i e;subst e;exact Bv (mD N) (by simp only[go_sem,seval,h]<;>eq_refl) (by simp only[go_sem,seval,h])
 exact Bv (mF N) (by simp only[go_sem,seval,h]<;>eq_refl) (by simp only[go_sem,seval,h])
def MX(N:Nat)(I9:List (Int×Int×Int×(List (Int×Int))×Int×Int))(Ja:List (Int×Int×Int×Int×Bool))(bq:Int)(bp:Int)(bo:Int)(bn:Int)(bm:List (Int×Int))(bl:Int)(bj:Int)(bi:Int)(bh:Int)(bg:Int)(bf:Int)(be:Int)(bb:Int)(ba:Int)(az:Bool):Option ((List (Int×(Int×Int×Int×(List (Int×Int))×Int×Int)×Int×Int×Int×(Int×Int×Int×Int×Bool)))×Bool):=if bq=1 then Mu N I9 Ja bp bo bn bm bl bj bi bh bg bf be bb ba az else if bq=2 then Mv N I9 Ja bp bo bn bm bl bj bi bh bg bf be bb ba az else if bq=3 then Mw N I9 Ja bp bo bn bm bl bj bi bh bg bf be bb ba az else if bq=4 then Mx N I9 Ja bp bo bn bm bl bj bi bh bg bf be bb ba az else if bq=5 then My N I9 Ja bp bo bn bm bl bj bi bh bg bf be bb ba az else if bq=6 then Mz N I9 Ja bp bo bn bm bl bj bi bh bg bf be bb ba az else if bq=7 then MA N I9 Ja bp bo bn bm bl bj bi bh bg bf be bb ba az else MB N I9 Ja bq bp bo bn bm bl bj bi bh bg bf be bb ba az
@[go_sem] def s24(N:Nat):Spec:=p0<|pG<|pD Ak λI9=>pD AA λJa=>pE<|pG<|pI λbq=>pI λbp=>pI λbo=>pI λbn=>pD Aq λbm=>pI λbl=>pI λbj=>pI λbi=>pI λbh=>pI λbg=>pI λbf=>pI λbe=>pI λbb=>pI λba=>pB λaz=>pE<|pE<|pF (MX N I9 Ja bq bp bo bn bm bl bj bi bh bg bf be bb ba az) ([],false) λr=>.tup [Ay r.1,.b r.2]
theorem AcO(N:Nat):AG Tryz.prog 24 (s24 N):=by
 refine Ar x24.ok<|Aw<|AM λI9=>AM λJa=>Ad<|Aw<|Aa λbq=>Aa λbp=>Aa λbo=>Aa λbn=>AM λbm=>Aa λbl=>Aa λbj=>Aa λbi=>Aa λbh=>Aa λbg=>Aa λbf=>Aa λbe=>Aa λbb=>Aa λba=>AX λaz=>Ad<|Ad<|As λr h=>?_
 dsimp only[Aq,AA,Ak];unfold MX at h;split at h
 ·rename_i e;subst e;exact Bv (mH N) (by simp only[go_sem,seval,h]<;>eq_refl) (by simp only[go_sem,seval,h])
 split at h
 ·rename_i e;subst e;exact Bv (mI N) (by simp only[go_sem,seval,h]<;>eq_refl) (by simp only[go_sem,seval,h])
 split at h
 ·rename_i e;subst e;exact Bv (mJ N) (by simp only[go_sem,seval,h]<;>eq_refl) (by simp only[go_sem,seval,h])
 split at h
 ·rename_i e;subst e;exact Bv (mK N) (by simp only[go_sem,seval,h]<;>eq_refl) (by simp only[go_sem,seval,h])
 split at h
 ·rename_i e;subst e;exact Bv (mL N) (by simp only[go_sem,seval,h]<;>eq_refl) (by simp only[go_sem,seval,h])
 split at h
 ·rename_i e;subst e;exact Bv (mM N) (by simp only[go_sem,seval,h]<;>eq_refl) (by simp only[go_sem,seval,h])
 split at h
 ·rename_i e;subst e;exact Bv (mN N) (by simp only[go_sem,seval,h]<;>eq_refl) (by simp only[go_sem,seval,h])
 exact Bv (mO N) (by simp only[go_sem,seval,h]<;>eq_refl) (by simp only[go_sem,seval,h])
def ND(N:Nat)(ay:Int)(aw:Int)(av:Int)(au:Int)(aq:List (Int×Int))(an:Int)(am:Int)(ak:Int)(aj:Int)(ai:Int)(ah:Int)(af:Int)(ae:Int)(ab:Int)(aa:Bool):Option ((List UInt8)×Int):=if ay=1 then Lr N aw av au aq an am ak aj ai ah af ae ab aa else if ay=2 then Lt N aw av au aq an am ak aj ai ah af ae ab aa else if ay=3 then Lu N aw av au aq an am ak aj ai ah af ae ab aa else if ay=4 then Lv N aw av au aq an am ak aj ai ah af ae ab aa else if ay=5 then Lw N aw av au aq an am ak aj ai ah af ae ab aa else if ay=6 then Lx N aw av au aq an am ak aj ai ah af ae ab aa else if ay=7 then Ly N aw av au aq an am ak aj ai ah af ae ab aa else Lz N ay aw av au aq an am ak aj ai ah af ae ab aa
@[go_sem] def s29(N:Nat):Spec:=p0<|pG<|pI λay=>pI λaw=>pI λav=>pI λau=>pS Aq λaq=>pI λan=>pI λam=>pI λak=>pI λaj=>pI λai=>pI λah=>pI λaf=>pI λae=>pI λab=>pB λaa=>pE<|pE<|pF (ND N ay aw av au aq an am ak aj ai ah af ae ab aa) ([],0) λr=>.tup [.v (.string (sB r.1)),.i r.2]
theorem AcP(N:Nat):AG Tryz.prog 29 (s29 N):=by
 refine Ar x29.ok<|Aw<|Aa λay=>Aa λaw=>Aa λav=>Aa λau=>AF λaq=>Aa λan=>Aa λam=>Aa λak=>Aa λaj=>Aa λai=>Aa λah=>Aa λaf=>Aa λae=>Aa λab=>AX λaa=>Ad<|Ad<|As λr h=>?_
 dsimp only[Aq,BW];unfold ND at h;split at h
 ·rename_i e;subst e;exact Bv (lP N) (by simp only[go_sem,seval,h]<;>eq_refl) (by simp only[go_sem,seval,h])
 split at h
 ·rename_i e;subst e;exact Bv (lQ N) (by simp only[go_sem,seval,h]<;>eq_refl) (by simp only[go_sem,seval,h])
 split at h
 ·rename_i e;subst e;exact Bv (lR N) (by simp only[go_sem,seval,h]<;>eq_refl) (by simp only[go_sem,seval,h])
 split at h
 ·rename_i e;subst e;exact Bv (lS N) (by simp only[go_sem,seval,h]<;>eq_refl) (by simp only[go_sem,seval,h])
 split at h
 ·rename_i e;subst e;exact Bv (lT N) (by simp only[go_sem,seval,h]<;>eq_refl) (by simp only[go_sem,seval,h])
 split at h
 ·rename_i e;subst e;exact Bv (lU N) (by simp only[go_sem,seval,h]<;>eq_refl) (by simp only[go_sem,seval,h])
 split at h
 ·rename_i e;subst e;exact Bv (lV N) (by simp only[go_sem,seval,h]<;>eq_refl) (by simp only[go_sem,seval,h])
 exact Bv (lW N) (by simp only[go_sem,seval,h]<;>eq_refl) (by simp only[go_sem,seval,h])
end
section
abbrev Ac:=Int×Un×Int×Int×Int×Mk
inductive FA:Ac->Prop
 |build {u:Un} (h:UV u):FA (1,u,0,0,0,Xg)
 |remove {id:Int} (h:0<=id/\id<=99):FA (2,PE,id,0,0,Xg)
 |cut {id i k j:Int} (h:0<=id/\id<=99) (hj:0<=j/\j<=99) (hd:id≠j) (hi:0<=i/\i<=7) (hk:0<=k/\k<=7) (he:i≠k):FA (3,(j,0,0,[],0,0),id,i,k,Xg)
 |move {id x y:Int} (h:0<=id/\id<=99) (hx: -40<=x/\x<=40) (hy: -40<=y/\y<=40) (hd:x≠0\/y≠0):FA (4,PE,id,x,y,Xg)
 |mark {m:Mk} (h:JF m=true):FA (5,PE,0,0,0,m)
 |close {id:Int} (h:0<=id/\id<=99):FA (6,PE,id,0,0,Xg)
 |opn {id:Int} (h:0<=id/\id<=99):FA (7,PE,id,0,0,Xg)
noncomputable instance(a:Ac):Decidable (FA a):=Classical.propDecidable _
section
variable{a b c p q id i k m1 m2 m3 m4:Int}{l:List Pt}{o:Bool}
theorem fa1:FA (1,(a,b,c,l,p,q),id,i,k,(m1,m2,m3,m4,o))↔UV (a,b,c,l,p,q)/\id=0/\i=0/\k=0/\m1=0/\m2=0/\m3=0/\m4=0/\o=false:=by
 constructor
 ·intro h;cases h;exact⟨by assumption,rfl,rfl,rfl,rfl,rfl,rfl,rfl,rfl⟩
 ·rintro⟨h,rfl,rfl,rfl,rfl,rfl,rfl,rfl,rfl⟩;exact .build h
theorem fa2:FA (2,(a,b,c,l,p,q),id,i,k,(m1,m2,m3,m4,o))↔(0<=id/\id<=99)/\a=0/\b=0/\c=0/\l=[]/\p=0/\q=0/\i=0/\k=0/\m1=0/\m2=0/\m3=0/\m4=0/\o=false:=by
 constructor
 ·intro h;cases h;exact⟨by assumption,rfl,rfl,rfl,rfl,rfl,rfl,rfl,rfl,rfl,rfl,rfl,rfl,rfl⟩
 ·rintro⟨h,rfl,rfl,rfl,rfl,rfl,rfl,rfl,rfl,rfl,rfl,rfl,rfl,rfl⟩;exact .remove h
theorem qB:FA (3,(a,b,c,l,p,q),id,i,k,(m1,m2,m3,m4,o))↔(0<=id/\id<=99)/\(0<=a/\a<=99)/\id≠a/\(0<=i/\i<=7)/\(0<=k/\k<=7)/\i≠k/\b=0/\c=0/\l=[]/\p=0/\q=0/\m1=0/\m2=0/\m3=0/\m4=0/\o=false:=by
 constructor
 ·intro h;cases h;exact⟨by assumption,by assumption,by assumption,by assumption,by assumption,by assumption,rfl,rfl,rfl,rfl,rfl,rfl,rfl,rfl,rfl,rfl⟩
 ·rintro⟨h1,h2,h3,h4,h5,h6,rfl,rfl,rfl,rfl,rfl,rfl,rfl,rfl,rfl,rfl⟩;exact .cut h1 h2 h3 h4 h5 h6
theorem qC:FA (4,(a,b,c,l,p,q),id,i,k,(m1,m2,m3,m4,o))↔(0<=id/\id<=99)/\(-40<=i/\i<=40)/\(-40<=k/\k<=40)/\(i≠0\/k≠0)/\a=0/\b=0/\c=0/\l=[]/\p=0/\q=0/\m1=0/\m2=0/\m3=0/\m4=0/\o=false:=by
 constructor
 ·intro h;cases h;exact⟨by assumption,by assumption,by assumption,by assumption,rfl,rfl,rfl,rfl,rfl,rfl,rfl,rfl,rfl,rfl,rfl⟩
 ·rintro⟨h1,h2,h3,h4,rfl,rfl,rfl,rfl,rfl,rfl,rfl,rfl,rfl,rfl,rfl⟩;exact .move h1 h2 h3 h4
theorem fa5:FA (5,(a,b,c,l,p,q),id,i,k,(m1,m2,m3,m4,o))↔JF (m1,m2,m3,m4,o)=true/\id=0/\i=0/\k=0/\a=0/\b=0/\c=0/\l=[]/\p=0/\q=0:=by
 constructor
 ·intro h;cases h;exact⟨by assumption,rfl,rfl,rfl,rfl,rfl,rfl,rfl,rfl,rfl⟩
 ·rintro⟨h,rfl,rfl,rfl,rfl,rfl,rfl,rfl,rfl,rfl⟩;exact .mark h
theorem fa6:FA (6,(a,b,c,l,p,q),id,i,k,(m1,m2,m3,m4,o))↔(0<=id/\id<=99)/\a=0/\b=0/\c=0/\l=[]/\p=0/\q=0/\i=0/\k=0/\m1=0/\m2=0/\m3=0/\m4=0/\o=false:=by
 constructor
 ·intro h;cases h;exact⟨by assumption,rfl,rfl,rfl,rfl,rfl,rfl,rfl,rfl,rfl,rfl,rfl,rfl,rfl⟩
 ·rintro⟨h,rfl,rfl,rfl,rfl,rfl,rfl,rfl,rfl,rfl,rfl,rfl,rfl,rfl⟩;exact .close h
theorem fa7:FA (7,(a,b,c,l,p,q),id,i,k,(m1,m2,m3,m4,o))↔(0<=id/\id<=99)/\a=0/\b=0/\c=0/\l=[]/\p=0/\q=0/\i=0/\k=0/\m1=0/\m2=0/\m3=0/\m4=0/\o=false:=by
 constructor
 ·intro h;cases h;exact⟨by assumption,rfl,rfl,rfl,rfl,rfl,rfl,rfl,rfl,rfl,rfl,rfl,rfl,rfl⟩
 ·rintro⟨h,rfl,rfl,rfl,rfl,rfl,rfl,rfl,rfl,rfl,rfl,rfl,rfl,rfl⟩;exact .opn h
theorem fM{n:Int}{u:Un}{m:Mk}(h:¬(1<=n/\n<=7)):¬FA (n,u,id,i,k,m):=by intro f;cases f<;>exact h (by decide)
theorem LU{l:List Pt}:((l.length:Int)=0)↔l=[]:=by rw[<-Fe];omega
end
noncomputable def Qu(a:Ac):List Int×List Int:=if FA a then if a.1=1 then([a.2.1.1],[])else if a.1=3 then([min a.2.2.1 a.2.1.1,max a.2.2.1 a.2.1.1],[])else if a.1=5 then([a.2.2.2.2.2.2.1],[a.2.2.2.2.2.1])else if a.1=6\/a.1=7 then([],[a.2.2.1])else([a.2.2.1],[])else([],[])
section
variable{N:Nat}(hN:1001<=N)
include hN
variable(a b c p q id i k m1 m2 m3 m4:Int)(l:List Pt)(o:Bool)
theorem Z3:Fj N a b c l p q id i k m1 m2 m3 m4 o=some (decide (FA (1,(a,b,c,l,p,q),id,i,k,(m1,m2,m3,m4,o)))):=by unfold Fj Ks;rw[K0 (by omega)];simp only[bS];congr 1;rw[Gv,bK,fa1];simp only[oK,tU,Jz,bK,beq_iff_eq,LU,qO,Is,ne_eq];rw[show(Ji a b c p q=true/\vB l=true)↔UV (a,b,c,l,p,q) by rw[<-oK];exact Is];grind
theorem Z4:Fk N a b c l p q id i k m1 m2 m3 m4 o=some (decide (FA (2,(a,b,c,l,p,q),id,i,k,(m1,m2,m3,m4,o)))):=by unfold Fk Ku Ct;unfold Cv BM;simp only[bS];rw[BR (λ_=>mU),bS];congr 1;rw[Gv,bK,fa2];simp only[oK,tU,Jz,bK,beq_iff_eq,LU,qO,Is,ne_eq];grind
theorem Z5:Fl N a b c l p q id i k m1 m2 m3 m4 o=some (decide (FA (3,(a,b,c,l,p,q),id,i,k,(m1,m2,m3,m4,o)))):=by unfold Fl JP Ct;unfold Cv BM;simp only[bS];rw[BR (λ_=>mU),BR (λ_=>mU),BR (λ_=>mU),BR (λ_=>mU),bS];congr 1;rw[Gv,bK,qB];simp only[oK,tU,Jz,bK,beq_iff_eq,LU,qO,Is,ne_eq];grind
theorem Z6:Fm N a b c l p q id i k m1 m2 m3 m4 o=some (decide (FA (4,(a,b,c,l,p,q),id,i,k,(m1,m2,m3,m4,o)))):=by unfold Fm JR Ct;unfold Cv BM;simp only[bS];rw[BR (λ_=>mU),BR (λ_=>mU),BR (λ_=>mU),bS];congr 1;rw[Gv,bK,qC];simp only[oK,tU,Jz,bK,beq_iff_eq,LU,qO,Is,ne_eq];grind
theorem Z7:Fo N a b c l p q id i k m1 m2 m3 m4 o=some (decide (FA (5,(a,b,c,l,p,q),id,i,k,(m1,m2,m3,m4,o)))):=by unfold Fo Kw Ct;rw[Qt];simp only[bS];rw[BR (λ_=>mU),bS];congr 1;rw[Gv,bK,fa5];simp only[oK,tU,Jz,bK,beq_iff_eq,LU,qO,Is,ne_eq];grind
theorem Z8:Fp N a b c l p q id i k m1 m2 m3 m4 o=some (decide (FA (6,(a,b,c,l,p,q),id,i,k,(m1,m2,m3,m4,o)))):=by unfold Fp HI Ct;unfold BM;simp only[bS];rw[BR (λ_=>mU),bS];congr 1;rw[Gv,bK,fa6];simp only[oK,tU,Jz,bK,beq_iff_eq,LU,qO,Is,ne_eq];grind
theorem Z9:Fq N a b c l p q id i k m1 m2 m3 m4 o=some (decide (FA (7,(a,b,c,l,p,q),id,i,k,(m1,m2,m3,m4,o)))):=by unfold Fq HI Ct;unfold BM;simp only[bS];rw[BR (λ_=>mU),bS];congr 1;rw[Gv,bK,fa7];simp only[oK,tU,Jz,bK,beq_iff_eq,LU,qO,Is,ne_eq];grind
theorem Xj{n:Int}(h:¬(1<=n/\n<=7)):Fr N n a b c l p q id i k m1 m2 m3 m4 o=some (decide (FA (n,(a,b,c,l,p,q),id,i,k,(m1,m2,m3,m4,o)))):=by unfold Fr;rw[Ae (by simp;omega),Ae (by simp;omega),Ae (by simp;omega),Ae (by simp;omega),Ae (by simp;omega),Ae (by simp;omega),Ae (by simp;omega),bJ (fM h)]
theorem AcU(n:Int):Lq N n a b c l p q id i k m1 m2 m3 m4 o=some (decide (FA (n,(a,b,c,l,p,q),id,i,k,(m1,m2,m3,m4,o)))):=by
 unfold Lq;split;·subst n;exact Z3 hN _ _ _ _ _ _ _ _ _ _ _ _ _ _
 split;·subst n;exact Z4 hN _ _ _ _ _ _ _ _ _ _ _ _ _ _
 split;·subst n;exact Z5 hN _ _ _ _ _ _ _ _ _ _ _ _ _ _
 split;·subst n;exact Z6 hN _ _ _ _ _ _ _ _ _ _ _ _ _ _
 split;·subst n;exact Z7 hN _ _ _ _ _ _ _ _ _ _ _ _ _ _
 split;·subst n;exact Z8 hN _ _ _ _ _ _ _ _ _ _ _ _ _ _
 split;·subst n;exact Z9 hN _ _ _ _ _ _ _ _ _ _ _ _ _ _
 exact Xj hN _ _ _ _ _ _ _ _ _ _ _ _ _ _ (by omega)
theorem Afa(n:Int):BF N n a b c l p q id i k m1 m2 m3 m4 o=some (decide (FA (n,(a,b,c,l,p,q),id,i,k,(m1,m2,m3,m4,o)))):=by unfold BF;rw[AcU hN,bS]
theorem YX(n:Int):Ca N n a b c l p q id i k m1 m2 m3 m4 o=some (decide (FA (n,(a,b,c,l,p,q),id,i,k,(m1,m2,m3,m4,o)))):=by
 unfold Ca Do AH;simp only[bS];by_cases e:n=1
 ·subst e;rw[AU _ (by rfl),OI hN,bS];congr 1;rw[Gv,bK,fa1];simp only[oK,bK,beq_iff_eq];rw[show(Ji a b c p q=true/\vB l=true)↔UV (a,b,c,l,p,q) by rw[<-oK];exact Is];grind
 rw[A1 _ (bJ e)];by_cases e:n=2
 ·subst e;rw[AU _ (by rfl)];congr 1;rw[Gv,bK,fa2];simp only[oK,bK,beq_iff_eq,LU];grind
 rw[A1 _ (bJ e)];by_cases e:n=3
 ·subst e;rw[AU _ (by rfl),BR (λ_=>mU),BR (λ_=>mU),BR (λ_=>mU),BR (λ_=>mU)];congr 1;rw[Gv,bK,qB];simp only[oK,bK,beq_iff_eq,LU,qO,ne_eq];grind
 rw[A1 _ (bJ e)];by_cases e:n=4
 ·subst e;rw[AU _ (by rfl),BR (λ_=>mU),BR (λ_=>mU)];congr 1;rw[Gv,bK,qC];simp only[oK,bK,beq_iff_eq,LU,qO,w5,z7,cY];grind
 rw[A1 _ (bJ e)];by_cases e:n=5
 ·subst e;rw[AU _ (by rfl),RT,bS];congr 1;rw[Gv,bK,fa5];simp only[oK,bK,beq_iff_eq,LU];grind
 rw[A1 _ (bJ e)];by_cases e:n=6
 ·subst e;rw[AU _ (by rfl),AU _ (by rfl)];congr 1;rw[Gv,bK,fa6];simp only[oK,bK,beq_iff_eq,LU];grind
 rw[A1 _ (bJ e)];by_cases e:n=7
 ·subst e;rw[AU _ (by rfl)];congr 1;rw[Gv,bK,fa7];simp only[oK,bK,beq_iff_eq,LU];grind
 rw[A1 _ (bJ e),bJ (fM (by omega))]
theorem Agy(n:Int):Kk N n a b c l p q id i k m1 m2 m3 m4 o=some (Qu (n,(a,b,c,l,p,q),id,i,k,(m1,m2,m3,m4,o))):=by
 unfold Kk;split
 ·subst n;unfold JX Kt E5;rw[Z3 hN,bS];unfold Qu;by_cases h:FA (1,(a,b,c,l,p,q),id,i,k,(m1,m2,m3,m4,o))
  ·rw[aB h,A1 _ (by rfl),fU h];rfl
  ·rw[bJ h,AU _ (by rfl),eG h]
 split
 ·subst n;unfold JY Kv E5;rw[Z4 hN,bS];unfold Qu;by_cases h:FA (2,(a,b,c,l,p,q),id,i,k,(m1,m2,m3,m4,o))
  ·rw[aB h,A1 _ (by rfl),fU h];rfl
  ·rw[bJ h,AU _ (by rfl),eG h]
 split
 ·subst n;unfold JZ JQ;rw[Z5 hN,bS];unfold Qu;by_cases h:FA (3,(a,b,c,l,p,q),id,i,k,(m1,m2,m3,m4,o))
  ·rw[aB h,A1 _ (by rfl),fU h];rfl
  ·rw[bJ h,AU _ (by rfl),eG h]
 split
 ·subst n;unfold J0 JS E5;rw[Z6 hN,bS];unfold Qu;by_cases h:FA (4,(a,b,c,l,p,q),id,i,k,(m1,m2,m3,m4,o))
  ·rw[aB h,A1 _ (by rfl),fU h];rfl
  ·rw[bJ h,AU _ (by rfl),eG h]
 split
 ·subst n;unfold J1 Kx E5;rw[Z7 hN,bS];unfold Qu;by_cases h:FA (5,(a,b,c,l,p,q),id,i,k,(m1,m2,m3,m4,o))
  ·rw[aB h,A1 _ (by rfl),fU h];rfl
  ·rw[bJ h,AU _ (by rfl),eG h]
 split
 ·subst n;unfold J2 HJ E5;rw[Z8 hN,bS];unfold Qu;by_cases h:FA (6,(a,b,c,l,p,q),id,i,k,(m1,m2,m3,m4,o))
  ·rw[aB h,A1 _ (by rfl),fU h];rfl
  ·rw[bJ h,AU _ (by rfl),eG h]
 split
 ·subst n;unfold J3 HJ E5;rw[Z9 hN,bS];unfold Qu;by_cases h:FA (7,(a,b,c,l,p,q),id,i,k,(m1,m2,m3,m4,o))
  ·rw[aB h,A1 _ (by rfl),fU h];rfl
  ·rw[bJ h,AU _ (by rfl),eG h]
 unfold J4 Qu;have h:¬FA (n,(a,b,c,l,p,q),id,i,k,(m1,m2,m3,m4,o)):=fM (by omega);rw[Xj hN _ _ _ _ _ _ _ _ _ _ _ _ _ _ (by omega),bS,bJ h,Ae rfl,eG h]
end
end
theorem dX{u v:List Pt}(h:u.length=v.length)(hp:∀i,i<u.length->pa u i=pa v i):u=v:=by
 apply List.ext_getElem h;intro i h1 h2;have:=hp i h1
 rwa [De h1,De h2]at this
theorem RL{l:List Pt}{i k:Nat}(hik:i<=k)(hk:k<l.length):(l.drop i).take (k+1-i)=Dc l i (k-i):=by
 apply dX
 ·rw[By,u9,tD];omega
 ·intro t ht;rw[u9,tD]at ht;rw[Gi (by omega),GL (by omega),De (by rw[u9,tD];omega),De (by omega),List.getElem_take,List.getElem_drop]
theorem WH{l:List Pt}{i k:Nat}(hik:k<i)(hi:i<l.length):l.drop i++l.take (k+1)=Dc l i (k+l.length-i):=by
 apply dX
 ·rw[By,nK,u9,tD];omega
 ·intro t ht;rw[nK,u9,tD]at ht;rw[Gi (by omega)];by_cases h:t<l.length-i
  ·rw[I8 (by rw[tD];omega),GL (by omega),De (by rw[tD];omega),De (by omega),List.getElem_drop]
  ·rw[M5 (by rw[tD];omega) (by rw[tD,u9];omega),tD,De (by rw[u9];omega),List.getElem_take];have e:i+t=(t-(l.length-i))+l.length:=by omega
   rw[e,Gh,GL (by omega),De (by omega)]
theorem Uk{N:Nat}(hN:100<=N){u v:List Pt}(h:0<u.length)(hu:u.length<=1000)(hv:v.length<=1000):BX N [u,v]=some (u++v):=by
 unfold BX;have s1:∀n,Bq N [u,v] (n+1+1+1) 0 0=some (0+(u.length:Int)+(v.length:Int)):=λn=>by rw[Bq,AU _ (by rfl),show A7 [u,v] 0=some u from rfl,bS,Ae (by unfold Af;omega),Ae (bJ (by omega)),Ae (by decide),Bq,AU _ (by rfl),show A7 [u,v] (0+1)=some v from rfl,bS,Ae (by unfold Af;omega),Ae (bJ (by omega)),Ae (by decide),Bq,A1 _ (by rfl)]
 have s3:∀n,Br N [u,v] (n+1+1+1) 0 []=some ([]++u++v):=λn=>by rw[Br,AU _ (by rfl),show A7 [u,v] 0=some u from rfl,bS,Ae (by simp;omega),Ae (by decide),Br,AU _ (by rfl),show A7 [u,v] (0+1)=some v from rfl,bS,Ae (by simp;omega),Ae (by decide),Br,A1 _ (by rfl)]
 obtain⟨n,e⟩:∃n,N=n+1+1+1:=⟨N-3,by omega⟩
 have h1:=s1 n;have h3:=s3 n;rw[<-e]at h1 h3;rw[h1,bS,Ae (bJ (by omega)),Ae (by unfold Af;omega),AU _ (aB (by omega)),Ae (by decide),Ae (by omega),Ae (by omega),h3,bS,rA]
theorem Lk{n i k:Nat}(hik:i<=k)(hk:k<n):Eb n i k=k-i:=by unfold Eb;rw[Nat.mod_eq_sub_mod (by omega),tL (by omega)];omega
theorem OA{n i k:Nat}(hik:k<i)(hi:i<n):Eb n i k=k+n-i:=by unfold Eb;rw[tL (by omega)]
theorem tI{N:Nat}(hN:100<=N){l:List Pt}(h:VP l){i k:Nat}(hi:i<l.length)(hk:k<l.length):Id N l i k=some (Tq l i k):=by
 unfold Id Tq;have l8:=h.l8;have t1:((k:Int)+1).toNat=k+1:=by omega
 have t2:((i:Int)+1).toNat=i+1:=by omega
 rw[KT hN h,bS,A1 _ (by simp;omega),t1,t2,t9,t9,HK,HK];have ne:∀j m,Dc l j m≠[]:=λj m e=>by have:=By l j m;rw[e]at this;simp at this
 rcases Nat.lt_trichotomy i k with q|q|q
 ·rw[AU _ (aB (by omega)),A1 _ (bJ (by omega)),Lk (by omega) hk,OA q hk,RL (by omega) hk];rw[Ae (by unfold Af;omega),Ae ⟨by omega,by omega,by omega⟩,Ae (ne _ _),Ae (by rw[By];omega),Ae ⟨by omega,by omega⟩,Ae (by unfold Af;omega),Ae ⟨by omega,by omega,by omega⟩,Uk hN (by rw[tD];omega) (by rw[tD];omega) (by rw[u9];omega),bS,WH q hk,By,By];by_cases hc:k-i<2\/i+l.length-k<2
  ·rw[fU hc,AU _ (aB (by omega))]
  ·rw[eG hc,A1 _ (bJ (by omega))]
 ·subst q;rw[AU _ (aB (by omega)),AU _ (aB (by omega)),Lk (by omega) hk,RL (by omega) hk];rw[Ae (by unfold Af;omega),Ae ⟨by omega,by omega,by omega⟩,Ae (ne _ _),Ae (by rw[By];omega),Ae (by unfold Af;omega),Ae ⟨by omega,by omega,by omega⟩,Ae (ne _ _),Ae (by rw[By];omega),By,fU (by omega),AU _ (aB (by omega))]
 ·rw[A1 _ (bJ (by omega)),OA q hi,Lk (by omega) hi,RL (by omega) hi];rw[Ae ⟨by omega,by omega⟩,Ae (by unfold Af;omega),Ae ⟨by omega,by omega,by omega⟩,Uk hN (by rw[tD];omega) (by rw[tD];omega) (by rw[u9];omega),bS,AU _ (aB (by omega)),WH q hi,Ae (by unfold Af;omega),Ae ⟨by omega,by omega,by omega⟩,Ae (ne _ _),Ae (by rw[By];omega),By,By];by_cases hc:k+l.length-i<2\/i-k<2
  ·rw[fU hc,AU _ (aB (by omega))]
  ·rw[eG hc,A1 _ (bJ (by omega))]
structure CutAt(l:List Pt)(i k m m':Nat):Prop where
 h:VP l
 hm:2<=m
 hm':2<=m'
 hs:m+m'=l.length
 hk:qa l (i+m)=qa l k
 hi:qa l (k+m')=qa l i
 hkt:∀t,qa l (i+(m+t))=qa l (k+t)
