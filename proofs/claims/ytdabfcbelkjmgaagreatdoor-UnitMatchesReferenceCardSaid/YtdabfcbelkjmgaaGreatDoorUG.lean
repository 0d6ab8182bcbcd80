import Derived.Test.YtdabfcbelkjmgaaGreatDoorM9
import Derived.Test.YtdabfcbelkjmgaaGreatDoorM7
import Derived.Test.YtdabfcbelkjmgaaGreatDoorE1
import Derived.Test.YtdabfcbelkjmgaaGreatDoorE2
namespace Go.Proofs.YtdabfcbelkjmgaaGreatDoor.Am
set_option linter.unusedSimpArgs false
set_option linter.unusedVariables false
structure UP (a b c:Int) (l:List Pt) (p q:Int):Prop where
 a:0≤a∧a≤99
 b:1≤b∧b≤8
 c:0≤c∧c≤7
 d:0≤p∧p<q∧q≤8
 l:VP l
theorem FS (N:Nat) (n lo hi:Int):S4 N n lo hi=some (decide (lo≤n)&&decide (n≤hi)):=rfl
def H4 (a b c p q:Int):Bool:=(((((decide (0≤a)&&decide (a≤99))&&(decide (1≤b)&&decide (b≤8)))&&(decide (0≤c)&&decide (c≤7)))&&decide (0≤p))&&decide (p<q))&&decide (q≤8)
theorem IX {N:Nat} (hN:100≤N) (a b c:Int) (l:List Pt) (p q:Int):Sh N a b c l p q=some (H4 a b c p q&&vB l):=by
 unfold Sh H4
 rw[FS,FS,FS,JN hN,bS,Gf (fun _=>Option.isSome_some),Gf (fun _=>Option.isSome_some),Gf (fun _=>Option.isSome_some)]
 rfl
theorem J6 {a b c:Int} {l:List Pt} {p q:Int}:(H4 a b c p q&&vB l)=true↔UP a b c l p q:=by
 unfold H4
 simp only[Bool.and_eq_true,decide_eq_true_eq,JL]
 constructor
 ·rintro⟨⟨⟨⟨⟨⟨h1,h2⟩,h3⟩,h4⟩,h5⟩,h6⟩,h7⟩
  exact⟨h1,h2,h3,⟨h4,h5,h6⟩,h7⟩
 ·rintro⟨h1,h2,h3,⟨h4,h5,h6⟩,h7⟩
  exact⟨⟨⟨⟨⟨⟨h1,h2⟩,h3⟩,h4⟩,h5⟩,h6⟩,h7⟩
theorem FT {N:Nat} (hN:100≤N) {a b c:Int} {l:List Pt} {p q:Int} (h:UP a b c l p q):Sh N a b c l p q=some true:=by
 rw[IX hN,J6.2 h]
theorem J7 {N:Nat} (hN:100≤N) {a b c:Int} {l:List Pt} {p q:Int} (h:UP a b c l p q):Up N a b c l p q=some (q-p):=by
 have:=h.d
 unfold Up
 rw[FT hN h,bS,cF' _ (by rfl),Aa (by unfold I64;omega)]
def den (c:Int):Int:=(GT 0).getD (c.toNat*5) 0
theorem Mv {c:Int} (h:0≤c∧c≤7):1≤den c∧den c≤10:=by
 unfold den
 have:∀n,n<8→1≤(GT 0).getD (n*5) 0∧(GT 0).getD (n*5) 0≤10:=by decide
 exact this c.toNat (by omega)
theorem H5 (N:Nat) {a b c:Int} {l:List Pt} {p q:Int} (h:0≤c∧c≤7):Ud N a b c l p q=some (den c):=by
 unfold Ud S7
 rw[FS,bS,cF' _ (by simp;omega),Aa (by omega),bS]
 rfl
theorem Gm {x y A B:Int} (hx: -A≤x∧x≤A) (hy:0≤y∧y≤B) (hA:0≤A): -(A*B)≤x*y∧x*y≤A*B:=by
 have h1:0≤(A-x)*y:=Int.mul_nonneg (by omega) hy.1
 have h2:0≤(A+x)*y:=Int.mul_nonneg (by omega) hy.1
 have h3:0≤A*(B-y):=Int.mul_nonneg hA (by omega)
 rw[Int.sub_mul] at h1
 rw[Int.add_mul] at h2
 rw[Int.mul_sub] at h3
 omega
theorem P6 {N:Nat} (hN:100≤N) {a b c:Int} {l:List Pt} {p q:Int} (h:UP a b c l p q):SK N a b c l p q=some (BS l*(q-p)):=by
 have hd:=h.d
 have h1:=Gm (Me h.l) (y:=q-p) (B:=8) (by omega) (by omega)
 unfold SK
 rw[OL hN h.l,bS,J7 hN h,bS,Aa (by unfold I64;omega)]
theorem QW {N:Nat} (hN:100≤N) {a b c:Int} {l:List Pt} {p q:Int} (h:UP a b c l p q):SB N a b c l p q=some ((DW l*(q-p))*den c):=by
 have hd:=h.d
 have h1:=Gm (Qz h.l).1 (y:=q-p) (B:=8) (by omega) (by omega)
 have h3:=Mv h.c
 have h2:=Gm (x:=DW l*(q-p)) (A:=170000000000) (y:=den c) (B:=10) (by omega) (by omega) (by omega)
 unfold SB
 rw[PN hN h.l,bS]
 simp only
 rw[J7 hN h,bS,Aa (by unfold I64;omega),H5 N h.c,bS,Aa (by unfold I64;omega)]
theorem EJ {N:Nat} {c n:Int} (hc:I64 c) (hn:0<n):SI N c n=some (pk c n):=by
 unfold SI pk
 unfold I64 at hc
 by_cases h:c<0
 ·rw[decide_eq_true h,cT,if_pos h,Aa (by unfold I64;omega),Aa (by unfold I64;omega),Aa (by omega)]
 ·rw[decide_eq_false h,cF,if_neg h,Aa (by omega)]
theorem Rn {N:Nat} {c n:Int} (hc:I64 c) (hn:0<n):S8 N c n=some (pk c n):=by
 unfold S8 pk
 unfold I64 at hc
 by_cases h:c<0
 ·rw[decide_eq_true h,cT,if_pos h,Aa (by unfold I64;omega),Aa (by unfold I64;omega),Aa (by omega)]
 ·rw[decide_eq_false h,cF,if_neg h,Aa (by omega)]
theorem N0 {N:Nat} {id:Int} {l:List Pt} {x0 x1 x2 x3:Int} (hl:VP l) (hi:I64 id) (h0:I64 x0) (h1:I64 x1) (h2:I64 x2) (h3:I64 x3):∃a b c p q,SL N id l x0 x1 x2 x3=some (a,b,c,l,p,q)∧UP a b c l p q:=by
 have k0:= @Db id 100 (by omega)
 have k1:= @Db x0 8 (by omega)
 have k2:= @Db x1 8 (by omega)
 have k3:= @Db x2 8 (by omega)
 have k4:= @Db x3 (8-pk x2 8) (by omega)
 have l8:=hl.l8
 refine⟨pk id 100,1+pk x0 8,pk x1 8,pk x2 8,(pk x2 8+1)+pk x3 (8-pk x2 8), ?_,⟨by omega,by omega,by omega,by omega,hl⟩⟩
 unfold SL
 rw[EJ hi (by omega),bS,EJ h0 (by omega),bS,Aa (by unfold I64;omega),EJ h1 (by omega),bS,Aa (by omega),EJ h2 (by omega),bS,Aa (by unfold I64;omega),Aa (by unfold I64;omega),EJ h3 (by omega),bS,Aa (by unfold I64;omega)]
theorem I8 {n:Int} (h:I64 n):I64 (n.tdiv 8):=EF (d:=8) h (by omega) (by omega)
theorem Ro {N:Nat} (hN:1000≤N) (hNb:N≤4000) {x y:List Pt} {how a0 a1 a2 a3 b0 b1 b2 b3:Int} (hx:In2 x) (hy:In2 y) (hh:I64 how) (h0:I64 a0) (h1:I64 a1) (h2:I64 a2) (h3:I64 a3) (g0:I64 b0) (g1:I64 b1) (g2:I64 b2) (g3:I64 b3):
  ∃a b c l p q a' b' c' l' p' q',Sj N x y how a0 a1 a2 a3 b0 b1 b2 b3=some ((a,b,c,l,p,q),(a',b',c',l',p',q'))∧UP a b c l p q∧UP a' b' c' l' p' q':=by
 obtain⟨l,l',e,hl,hl'⟩:=OH hN hNb hx hy hh
 obtain⟨a,b,c,p,q,e1,u1⟩:=N0 (N:=N) hl (I8 h0) h0 h1 h2 h3
 obtain⟨a',b',c',p',q',e2,u2⟩:=N0 (N:=N) hl' (I8 g0) g0 g1 g2 g3
 refine⟨a,b,c,l,p,q,a',b',c',l',p',q', ?_,u1,u2⟩
 unfold Sj
 rw[e,bS]
 simp only
 rw[Aa (I8 h0),e1,bS]
 simp only
 rw[Aa (I8 g0),e2,bS]
theorem uM {l:List Pt} (h:VP l) (hy:∀p∈l,0≤p.2) {i:Nat} (hi:i<l.length) (h0:(pa l i).2=0) (h1:(pa l ((i+1)%l.length)).2=0):
  (pa l i).1<(pa l ((i+1)%l.length)).1∧∀k,k<l.length→k≠i→k≠(i+1)%l.length→0<(pa l k).2:=by
 have key:∀k,k<l.length→k≠i→k≠(i+1)%l.length→0<((pa l ((i+1)%l.length)).1-(pa l i).1)*(pa l k).2:=fun k hk k1 k2=>by
  have:=h.cv i k hi hk k1 k2
  unfold trn at this
  rw[h0,h1] at this
  simpa using this
 have pos:∀k,k<l.length→k≠i→k≠(i+1)%l.length→0<(pa l k).2:=fun k hk k1 k2=>by
  have h2:=key k hk k1 k2
  have h3:=hy _ (AJ hk)
  rcases Int.lt_or_eq_of_le h3 with h4|h4
  ·exact h4
  ·rw[←h4] at h2;simp at h2
 refine⟨?_,pos⟩
 have l3:=h.l3
 obtain⟨k,hk,k1,k2⟩:∃k,k<l.length∧k≠i∧k≠(i+1)%l.length:=by
  by_cases a0:0≠i∧0≠(i+1)%l.length
  ·exact⟨0,by omega,a0⟩
  by_cases a1:1≠i∧1≠(i+1)%l.length
  ·exact⟨1,by omega,a1⟩
  ·exact⟨2,by omega,by omega,by omega⟩
 have h2:=key k hk k1 k2
 have h3:=pos k hk k1 k2
 by_cases h4:(pa l i).1<(pa l ((i+1)%l.length)).1
 ·exact h4
 ·have:0≤((pa l i).1-(pa l ((i+1)%l.length)).1)*(pa l k).2:=Int.mul_nonneg (by omega) (by omega)
  rw[Int.sub_mul] at this h2
  omega
theorem uQ {l:List Pt} (h:VP l) (hy:∀p∈l,0≤p.2) {i k:Nat} (hi:i<l.length) (hk:k<l.length) (hne:k≠i) (h0:(pa l i).2=0) (h1:(pa l k).2=0):k=(i+1)%l.length∨i=(k+1)%l.length:=by
 have l3:=h.l3
 by_cases n1:k=(i+1)%l.length
 ·exact .inl n1
 by_cases n2:i=(k+1)%l.length
 ·exact .inr n2
 exfalso
 have a:=h.cv i k hi hk hne n1
 have b:=h.cv k i hk hi (Ne.symm hne) n2
 have ya:=hy _ (AJ (l:=l) (Nat.mod_lt (i+1) (by omega)))
 have yb:=hy _ (AJ (l:=l) (Nat.mod_lt (k+1) (by omega)))
 unfold trn at a b
 rw[h0,h1] at a b
 simp only[Int.sub_zero,Int.sub_self,Int.mul_zero,Int.zero_sub] at a b
 have a2:(pa l k).1<(pa l i).1:=by
  by_cases c:(pa l k).1<(pa l i).1
  ·exact c
  ·have:=Int.mul_nonneg ya (show 0≤(pa l k).1-(pa l i).1 by omega)
   omega
 have b2:(pa l i).1<(pa l k).1:=by
  by_cases c:(pa l i).1<(pa l k).1
  ·exact c
  ·have:=Int.mul_nonneg yb (show 0≤(pa l i).1-(pa l k).1 by omega)
   omega
 omega
theorem uO {l:List Pt} (h:VP l):l.Nodup:=by
 have l3:=h.l3
 rw[List.Nodup,List.pairwise_iff_getElem]
 intro i k hi hk hlt e
 rw[←Ba hi,←Ba hk] at e
 by_cases c:k=(i+1)%l.length
 ·exact h.ne hi (by rw[e,←c])
 ·have:=h.cv i k hi hk (by omega) c
  rw[←e] at this
  unfold trn at this
  simp at this
theorem uW {xs:List Pt} (h:xs.Nodup) {u v:Pt} (hu:u∈xs) (hv:v∈xs) (hne:u≠v) (ho:∀x∈xs,x=u∨x=v):xs.length=2:=by
 have a:=Ge xs [u,v] h fun p hp=>by rcases ho p hp with e|e<;>simp[e]
 have b:=Ge [u,v] xs (by simp[hne]) fun p hp=>by
  rcases List.mem_cons.1 hp with e|e
  ·rw[e];exact hu
  ·rw[List.mem_singleton.1 e];exact hv
 simp only[List.length_cons,List.length_nil] at a b
 omega
theorem uU {l:List Pt} (h:VP l) (hy:∀p∈l,0≤p.2):((l.filter fun p=>decide (p.2=0)).length=2)↔∃i,i<l.length∧((pa l i).2=0∧(pa l ((i+1)%l.length)).2=0):=by
 have nd:=uO h
 have l3:=h.l3
 constructor
 ·intro h2
  have nf:(l.filter fun p=>decide (p.2=0)).Nodup:=nd.filter _
  match hm:l.filter fun p=>decide (p.2=0) with
  |[]=>rw[hm] at h2;simp at h2
  |[_]=>rw[hm] at h2;simp at h2
  |_::_::_::_=>rw[hm] at h2;simp at h2
  |[u,v]=>
   rw[hm] at nf
   have hu:u∈l.filter fun p=>decide (p.2=0):=by rw[hm];simp
   have hv:v∈l.filter fun p=>decide (p.2=0):=by rw[hm];simp
   rw[List.mem_filter,decide_eq_true_eq] at hu hv
   obtain⟨i,hi,rfl⟩:=EV hu.1
   obtain⟨k,hk,rfl⟩:=EV hv.1
   have hne:k≠i:=fun e=>by subst e;simp at nf
   rcases uQ h hy hi hk hne hu.2 hv.2 with e|e
   ·exact⟨i,hi,hu.2,by rw[←e];exact hv.2⟩
   ·exact⟨k,hk,hv.2,by rw[←e];exact hu.2⟩
 ·rintro⟨i,hi,h0,h1⟩
  have hm:(i+1)%l.length<l.length:=Nat.mod_lt _ (by omega)
  refine uW (nd.filter _) (u:=pa l i) (v:=pa l ((i+1)%l.length)) (List.mem_filter.2 ⟨AJ hi,by simp[h0]⟩) (List.mem_filter.2 ⟨AJ hm,by simp[h1]⟩) (h.ne hi) fun x hx=> ?_
  rw[List.mem_filter,decide_eq_true_eq] at hx
  obtain⟨k,hk,rfl⟩:=EV hx.1
  by_cases k1:k=i
  ·exact .inl (by rw[k1])
  by_cases k2:k=(i+1)%l.length
  ·exact .inr (by rw[k2])
  have:=(uM h hy hi h0 h1).2 k hk k1 k2
  omega
theorem uR {N:Nat} (hN:100≤N) {a b c:Int} {l:List Pt} {p q:Int} (h:UP a b c l p q):
  (SZ N a b c l p q=some ((0,0,((0,0),(0,0)),0,0),false)∧∀i,i<l.length→¬((pa l i).2=0∧(pa l ((i+1)%l.length)).2=0))∨
  ∃i,i<l.length∧((pa l i).2=0∧(pa l ((i+1)%l.length)).2=0)∧SZ N a b c l p q=some ((a,-1,(pa l i,pa l ((i+1)%l.length)),p,q),true):=by
 have l3:=h.l.l3
 have l8:=h.l.l8
 let f:Nat→Option ((Int×Int×(Pt×Pt)×Int×Int)×Bool):=fun i=>if(pa l i).2=0∧(pa l ((i+1)%l.length)).2=0 then some ((a,-1,(pa l i,pa l ((i+1)%l.length)),p,q),true) else none
 have step:∀n (k:Nat),k<l.length→Uy N l a p q (n+1) k=(match f k with|some r=>some (.inr r)|none=>Uy N l a p q n ((k+1:Nat):Int)):=fun n k hk=>by
  rw[Uy,dlt hk,cT,Bu hk,bS]
  simp only
  rw[Aa (by unfold I64;omega),Aa (by omega),FO,Bu (Nat.mod_lt _ (by omega)),bS]
  simp only
  by_cases e:(pa l k).2=0∧(pa l ((k+1)%l.length)).2=0
  ·rw[cT' _ (by simp[e.1,e.2]),show f k=_ from if_pos e]
  ·rw[cF' _ (by rw[Bool.eq_false_iff];simpa using e),show f k=_ from if_neg e,Aa (by unfold I64;omega),ns]
 have F:=FN (L:=Uy N l a p q) (len:=l.length) f (fun n k hk e=>by rw[step n k hk,e]) (fun n k r hk e=>by rw[step n k hk,e]) (fun n=>by rw[Uy,dge,cF]) N (by omega)
 unfold SZ
 rw[FT hN h,bS,cF' _ (by rfl)]
 rcases F with⟨e,hf⟩|⟨j,r,hj,hf,_,e⟩
 ·left
  refine⟨by rw[e,bS],fun i hi hc=> ?_⟩
  have:=hf i hi
  rw[show f i=_ from if_pos hc] at this
  cases this
 ·right
  by_cases hc:(pa l j).2=0∧(pa l ((j+1)%l.length)).2=0
  ·rw[show f j=_ from if_pos hc] at hf
   cases hf
   exact⟨j,hj,hc,by rw[e,bS]⟩
  ·rw[show f j=_ from if_neg hc] at hf
   cases hf
end Go.Proofs.YtdabfcbelkjmgaaGreatDoor.Am
