import Derived.Test.YtciphecegkfaiaaGreatM7
import Derived.Test.YtciphecegkfaiaaGreatE1
import Derived.Test.YtciphecegkfaiaaGreatE6
import Derived.Test.YtciphecegkfaiaaGreatP9
import Derived.Test.YtciphecegkfaiaaGreatMY
namespace Go.Proofs.YtciphecegkfaiaaGreat.Am
set_option linter.unusedSimpArgs false
set_option linter.unusedVariables false
structure UP (a b c:Int) (l:List Pt) (p q:Int):Prop where
 a:0≤a∧a≤99
 b:1≤b∧b≤8
 c:0≤c∧c≤7
 d:0≤p∧p<q∧q≤8
 l:VP l
theorem N6 (N:Nat) (n lo hi:Int):Dn N n lo hi=some (decide (lo≤n)&&decide (n≤hi)):=rfl
def Fs (a b c p q:Int):Bool:=(((((decide (0≤a)&&decide (a≤99))&&(decide (1≤b)&&decide (b≤8)))&&(decide (0≤c)&&decide (c≤7)))&&decide (0≤p))&&decide (p<q))&&decide (q≤8)
theorem Gn {N:Nat} (hN:100≤N) (a b c:Int) (l:List Pt) (p q:Int):BA N a b c l p q=some (Fs a b c p q&&vB l):=by
 unfold BA Fs
 rw[N6,N6,N6,EY hN,bS,EO (fun _=>Option.isSome_some),EO (fun _=>Option.isSome_some),EO (fun _=>Option.isSome_some)]
 rfl
theorem Gp {a b c:Int} {l:List Pt} {p q:Int}:(Fs a b c p q&&vB l)=true↔UP a b c l p q:=by
 unfold Fs
 simp only[Bool.and_eq_true,decide_eq_true_eq,HF]
 constructor
 ·rintro⟨⟨⟨⟨⟨⟨h1,h2⟩,h3⟩,h4⟩,h5⟩,h6⟩,h7⟩
  exact⟨h1,h2,h3,⟨h4,h5,h6⟩,h7⟩
 ·rintro⟨h1,h2,h3,⟨h4,h5,h6⟩,h7⟩
  exact⟨⟨⟨⟨⟨⟨h1,h2⟩,h3⟩,h4⟩,h5⟩,h6⟩,h7⟩
end Go.Proofs.YtciphecegkfaiaaGreat.Am
namespace Go.Proofs.YtciphecegkfaiaaGreat.Am
set_option linter.unusedSimpArgs false
set_option linter.unusedVariables false
open Go
end Go.Proofs.YtciphecegkfaiaaGreat.Am
namespace Go.Proofs.YtciphecegkfaiaaGreat.Am
set_option linter.unusedSimpArgs false
set_option linter.unusedVariables false
def fl:List Pt→List Int
 |[]=>[]
 |p::l=>p.1::p.2::fl l
end Go.Proofs.YtciphecegkfaiaaGreat.Am
namespace Go.Proofs.YtciphecegkfaiaaGreat.Am
set_option linter.unusedSimpArgs false
set_option linter.unusedVariables false
set_option linter.unusedSectionVars false
section
variable {N:Nat} (hN:1001≤N)
include hN
theorem Hl (a b c:Int) (l:List Pt) (p q:Int):Bs N a b c l p q=some (Fs a b c p q&&vB l):=by
 unfold Bs Fs
 rw[Da (by omega)]
 by_cases h:(0≤a∧a≤99)∧(1≤b∧b≤8)∧0≤c∧c≤7
 ·rw[cF' _ (by simp;omega),EO (fun _=>Option.isSome_some),Option.getD_some]
  rw[decide_eq_true h.1.1,decide_eq_true h.1.2,decide_eq_true h.2.1.1,decide_eq_true h.2.1.2,decide_eq_true h.2.2.1,decide_eq_true h.2.2.2]
  rfl
 ·rw[cT' _ (by simp;omega)]
  congr 1
  symm
  rw[Bool.eq_false_iff]
  intro hc
  simp only[Bool.and_eq_true,decide_eq_true_eq] at hc
  exact h ⟨hc.1.1.1.1.1.1,hc.1.1.1.1.1.2,hc.1.1.1.1.2⟩
noncomputable def N8 (a b c:Int) (l:List Pt) (p q a' b' c':Int) (l':List Pt) (p' q':Int):Bool:=decide (max p p'<min q q')&&(Fs a b c p q&&vB l)&&(Fs a' b' c' p' q'&&vB l')
theorem P0 (a b c:Int) (l:List Pt) (p q a' b' c':Int) (l':List Pt) (p' q':Int):EQ N a b c l p q a' b' c' l' p' q'=some (max p p',min q q',N8 a b c l p q a' b' c' l' p' q')∧DU N a b c l p q a' b' c' l' p' q'=some (N8 a b c l p q a' b' c' l' p' q'):=by
 unfold EQ DU N8
 rw[Gn (by omega),Gn (by omega),Hl hN,Hl hN,EO (fun _=>Option.isSome_some),EO (fun _=>Option.isSome_some),bS,EO (fun _=>Option.isSome_some),Option.getD_some,Option.getD_some]
 refine⟨rfl, ?_⟩
 congr 1
 cases(Fs a b c p q&&vB l)<;>cases(Fs a' b' c' p' q'&&vB l')<;>cases decide (max p p'<min q q')<;>rfl
theorem nK (a b c:Int) (l:List Pt) (p q a' b' c':Int) (l':List Pt) (p' q':Int):∃r,Cz N a b c l p q a' b' c' l' p' q'=some r∧DF N a b c l p q a' b' c' l' p' q'=some r:=by
 obtain⟨h1,h2⟩:=P0 hN a b c l p q a' b' c' l' p' q'
 obtain⟨r,g1,g2⟩:=Qp hN l l'
 unfold Cz DF
 rw[h1,h2,g1,g2,bS,bS]
 simp only
 rw[EO (fun _=>Option.isSome_some)]
 exact⟨_,rfl,rfl⟩
end
end Go.Proofs.YtciphecegkfaiaaGreat.Am
