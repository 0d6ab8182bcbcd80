import Derived.Test.YtciphecegkfaiaaGreatW4
set_option linter.unusedSimpArgs false
set_option linter.unusedVariables false
namespace Go.Proofs.YtciphecegkfaiaaGreat.Am
theorem SI{N:Nat}(hN:100<=N){a b c:Int}{l:List Pt}{p q:Int}(h:UP a b c l p q){a' b' c':Int}{l':List Pt}{p' q':Int}(h':UP a' b' c' l' p' q'):FX N a b c l p q a' b' c' l' p' q'=some (max p p',min q q',decide (max p p'<min q q')):=by unfold FX;rw[KX hN h,KX hN h',A8 (λ_=>fD),A8 (λ_=>fD),mN,Wk,Wk]
abbrev EX:=Int×Int×(Pt×Pt)×Int×Int
def JV:EX:=(0,0,((0,0),(0,0)),0,0)
noncomputable def MD(a a':Int)(l l':List Pt)(p q p' q':Int):EX×Bool:=if max p p'<min q q' then(bif (Fu l l').2 then((a,a',(Fu l l').1,max p p',min q q'),true)else(JV,false))else(JV,false)
theorem gX{N:Nat}(hN:1001<=N){a b c:Int}{l:List Pt}{p q:Int}(h:UP a b c l p q){a' b' c':Int}{l':List Pt}{p' q':Int}(h':UP a' b' c' l' p' q'):Ff N a b c l p q a' b' c' l' p' q'=some (MD a a' l l' p q p' q'):=by
 unfold Ff MD;rw[SI (by omega) h h',bS];simp only;by_cases hc:max p p'<min q q'
 ·rw[dC hc,Az _ (by rfl),eX hc,X8 hN h.l h'.l,show Fu l l'=((((Fu l l').1.1.1,(Fu l l').1.1.2),((Fu l l').1.2.1,(Fu l l').1.2.2)),(Fu l l').2)from rfl,bS];simp only;cases(Fu l l').2 with
  |true=>rfl
  |false=>rfl
 ·rw[dJ hc,AG _ (by rfl),eW hc];rfl
