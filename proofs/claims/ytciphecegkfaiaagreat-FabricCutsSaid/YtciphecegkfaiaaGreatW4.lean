import Derived.Test.YtciphecegkfaiaaGreatM7
import Derived.Test.YtciphecegkfaiaaGreatE1
import Derived.Test.YtciphecegkfaiaaGreatE6
import Derived.Test.YtciphecegkfaiaaGreatMY
namespace Go.Proofs.YtciphecegkfaiaaGreat.Am
set_option linter.unusedSimpArgs false
set_option linter.unusedVariables false
structure UP (a b c:Int) (l:List Pt) (p q:Int):Prop where
 a:0≤a∧a≤99
 b:1≤b∧b≤8
 c:0≤c∧c≤7
 d:0≤p∧p<q∧q≤8
 l:VP l
theorem N6 (N:Nat) (n lo hi:Int):Dn N n lo hi=some (decide (lo≤n)&&decide (n≤hi)):=rfl
def Fs (a b c p q:Int):Bool:=(((((decide (0≤a)&&decide (a≤99))&&(decide (1≤b)&&decide (b≤8)))&&(decide (0≤c)&&decide (c≤7)))&&decide (0≤p))&&decide (p<q))&&decide (q≤8)
theorem Gn {N:Nat} (hN:100≤N) (a b c:Int) (l:List Pt) (p q:Int):BA N a b c l p q=some (Fs a b c p q&&vB l):=by
 unfold BA Fs
 rw[N6,N6,N6,EY hN,bS,EO (fun _=>Option.isSome_some),EO (fun _=>Option.isSome_some),EO (fun _=>Option.isSome_some)]
 rfl
theorem Gp {a b c:Int} {l:List Pt} {p q:Int}:(Fs a b c p q&&vB l)=true↔UP a b c l p q:=by
 unfold Fs
 simp only[Bool.and_eq_true,decide_eq_true_eq,HF]
 constructor
 ·rintro⟨⟨⟨⟨⟨⟨h1,h2⟩,h3⟩,h4⟩,h5⟩,h6⟩,h7⟩
  exact⟨h1,h2,h3,⟨h4,h5,h6⟩,h7⟩
 ·rintro⟨h1,h2,h3,⟨h4,h5,h6⟩,h7⟩
  exact⟨⟨⟨⟨⟨⟨h1,h2⟩,h3⟩,h4⟩,h5⟩,h6⟩,h7⟩
theorem Ko {N:Nat} (hN:100≤N) {a b c:Int} {l:List Pt} {p q:Int} (h:UP a b c l p q):BA N a b c l p q=some true:=by
 rw[Gn hN,Gp.2 h]
theorem SB {N:Nat} (hN:100≤N) {a b c:Int} {l:List Pt} {p q:Int} (h:UP a b c l p q):FU N a b c l p q=some (q-p):=by
 have:=h.d
 unfold FU
 rw[Ko hN h,bS,cF' _ (by rfl),Ab (by unfold I64;omega)]
theorem W4 {x y A B:Int} (hx: -A≤x∧x≤A) (hy:0≤y∧y≤B) (hA:0≤A): -(A*B)≤x*y∧x*y≤A*B:=by
 have h1:0≤(A-x)*y:=Int.mul_nonneg (by omega) hy.1
 have h2:0≤(A+x)*y:=Int.mul_nonneg (by omega) hy.1
 have h3:0≤A*(B-y):=Int.mul_nonneg hA (by omega)
 rw[Int.sub_mul] at h1
 rw[Int.add_mul] at h2
 rw[Int.mul_sub] at h3
 omega
theorem kC {N:Nat} (hN:100≤N) {a b c:Int} {l:List Pt} {p q:Int} (h:UP a b c l p q):CJ N a b c l p q=some (Ht l*(q-p)):=by
 have hd:=h.d
 have h1:=W4 (Wi h.l) (y:=q-p) (B:=8) (by omega) (by omega)
 unfold CJ
 rw[Tw hN h.l,bS,SB hN h,bS,Ab (by unfold I64;omega)]
theorem Ny {l:List Pt} (h:VP l) (hy:∀p∈l,0≤p.2) {i:Nat} (hi:i<l.length) (h0:(pa l i).2=0) (h1:(pa l ((i+1)%l.length)).2=0):
  (pa l i).1<(pa l ((i+1)%l.length)).1∧∀k,k<l.length→k≠i→k≠(i+1)%l.length→0<(pa l k).2:=by
 have key:∀k,k<l.length→k≠i→k≠(i+1)%l.length→0<((pa l ((i+1)%l.length)).1-(pa l i).1)*(pa l k).2:=fun k hk k1 k2=>by
  have:=h.cv i k hi hk k1 k2
  unfold trn at this
  rw[h0,h1] at this
  simpa using this
 have pos:∀k,k<l.length→k≠i→k≠(i+1)%l.length→0<(pa l k).2:=fun k hk k1 k2=>by
  have h2:=key k hk k1 k2
  have h3:=hy _ (AA hk)
  rcases Int.lt_or_eq_of_le h3 with h4|h4
  ·exact h4
  ·rw[←h4] at h2;simp at h2
 refine⟨?_,pos⟩
 have l3:=h.l3
 obtain⟨k,hk,k1,k2⟩:∃k,k<l.length∧k≠i∧k≠(i+1)%l.length:=by
  by_cases a0:0≠i∧0≠(i+1)%l.length
  ·exact⟨0,by omega,a0⟩
  by_cases a1:1≠i∧1≠(i+1)%l.length
  ·exact⟨1,by omega,a1⟩
  ·exact⟨2,by omega,by omega,by omega⟩
 have h2:=key k hk k1 k2
 have h3:=pos k hk k1 k2
 by_cases h4:(pa l i).1<(pa l ((i+1)%l.length)).1
 ·exact h4
 ·have:0≤((pa l i).1-(pa l ((i+1)%l.length)).1)*(pa l k).2:=Int.mul_nonneg (by omega) (by omega)
  rw[Int.sub_mul] at this h2
  omega
theorem U9 {N:Nat} (hN:100≤N) {a b c:Int} {l:List Pt} {p q:Int} (h:UP a b c l p q):
  (Dl N a b c l p q=some ((0,0,((0,0),(0,0)),0,0),false)∧∀i,i<l.length→¬((pa l i).2=0∧(pa l ((i+1)%l.length)).2=0))∨
  ∃i,i<l.length∧((pa l i).2=0∧(pa l ((i+1)%l.length)).2=0)∧Dl N a b c l p q=some ((a,-1,(pa l i,pa l ((i+1)%l.length)),p,q),true):=by
 have l3:=h.l.l3
 have l8:=h.l.l8
 let f:Nat→Option ((Int×Int×(Pt×Pt)×Int×Int)×Bool):=fun i=>if(pa l i).2=0∧(pa l ((i+1)%l.length)).2=0 then some ((a,-1,(pa l i,pa l ((i+1)%l.length)),p,q),true) else none
 have step:∀n (k:Nat),k<l.length→Dh N l a p q (n+1) k=(match f k with|some r=>some (.inr r)|none=>Dh N l a p q n ((k+1:Nat):Int)):=fun n k hk=>by
  rw[Dh,dlt hk,cT,C5 hk,bS]
  simp only
  rw[Ab (by unfold I64;omega),Ab (by omega),Ki,C5 (Nat.mod_lt _ (by omega)),bS]
  simp only
  by_cases e:(pa l k).2=0∧(pa l ((k+1)%l.length)).2=0
  ·rw[cT' _ (by simp[e.1,e.2]),show f k=_ from if_pos e]
  ·rw[cF' _ (by rw[Bool.eq_false_iff];simpa using e),show f k=_ from if_neg e,Ab (by unfold I64;omega),ns]
 have F:=GB (L:=Dh N l a p q) (len:=l.length) f (fun n k hk e=>by rw[step n k hk,e]) (fun n k r hk e=>by rw[step n k hk,e]) (fun n=>by rw[Dh,dge,cF]) N (by omega)
 unfold Dl
 rw[Ko hN h,bS,cF' _ (by rfl)]
 rcases F with⟨e,hf⟩|⟨j,r,hj,hf,_,e⟩
 ·left
  refine⟨by rw[e,bS],fun i hi hc=> ?_⟩
  have:=hf i hi
  rw[show f i=_ from if_pos hc] at this
  cases this
 ·right
  by_cases hc:(pa l j).2=0∧(pa l ((j+1)%l.length)).2=0
  ·rw[show f j=_ from if_pos hc] at hf
   cases hf
   exact⟨j,hj,hc,by rw[e,bS]⟩
  ·rw[show f j=_ from if_neg hc] at hf
   cases hf
end Go.Proofs.YtciphecegkfaiaaGreat.Am
namespace Go.Proofs.YtciphecegkfaiaaGreat.Am
set_option linter.unusedSimpArgs false
set_option linter.unusedVariables false
set_option linter.unusedSectionVars false
section
variable {N:Nat} (hN:1001≤N)
include hN
theorem Hl (a b c:Int) (l:List Pt) (p q:Int):Bs N a b c l p q=some (Fs a b c p q&&vB l):=by
 unfold Bs Fs
 rw[Da (by omega)]
 by_cases h:(0≤a∧a≤99)∧(1≤b∧b≤8)∧0≤c∧c≤7
 ·rw[cF' _ (by simp;omega),EO (fun _=>Option.isSome_some),Option.getD_some]
  rw[decide_eq_true h.1.1,decide_eq_true h.1.2,decide_eq_true h.2.1.1,decide_eq_true h.2.1.2,decide_eq_true h.2.2.1,decide_eq_true h.2.2.2]
  rfl
 ·rw[cT' _ (by simp;omega)]
  congr 1
  symm
  rw[Bool.eq_false_iff]
  intro hc
  simp only[Bool.and_eq_true,decide_eq_true_eq] at hc
  exact h ⟨hc.1.1.1.1.1.1,hc.1.1.1.1.1.2,hc.1.1.1.1.2⟩
noncomputable def N8 (a b c:Int) (l:List Pt) (p q a' b' c':Int) (l':List Pt) (p' q':Int):Bool:=decide (max p p'<min q q')&&(Fs a b c p q&&vB l)&&(Fs a' b' c' p' q'&&vB l')
theorem P0 (a b c:Int) (l:List Pt) (p q a' b' c':Int) (l':List Pt) (p' q':Int):EQ N a b c l p q a' b' c' l' p' q'=some (max p p',min q q',N8 a b c l p q a' b' c' l' p' q')∧DU N a b c l p q a' b' c' l' p' q'=some (N8 a b c l p q a' b' c' l' p' q'):=by
 unfold EQ DU N8
 rw[Gn (by omega),Gn (by omega),Hl hN,Hl hN,EO (fun _=>Option.isSome_some),EO (fun _=>Option.isSome_some),bS,EO (fun _=>Option.isSome_some),Option.getD_some,Option.getD_some]
 refine⟨rfl, ?_⟩
 congr 1
 cases(Fs a b c p q&&vB l)<;>cases(Fs a' b' c' p' q'&&vB l')<;>cases decide (max p p'<min q q')<;>rfl
theorem nK (a b c:Int) (l:List Pt) (p q a' b' c':Int) (l':List Pt) (p' q':Int):∃r,Cz N a b c l p q a' b' c' l' p' q'=some r∧DF N a b c l p q a' b' c' l' p' q'=some r:=by
 obtain⟨h1,h2⟩:=P0 hN a b c l p q a' b' c' l' p' q'
 obtain⟨r,g1,g2⟩:=Qp hN l l'
 unfold Cz DF
 rw[h1,h2,g1,g2,bS,bS]
 simp only
 rw[EO (fun _=>Option.isSome_some)]
 exact⟨_,rfl,rfl⟩
end
end Go.Proofs.YtciphecegkfaiaaGreat.Am
