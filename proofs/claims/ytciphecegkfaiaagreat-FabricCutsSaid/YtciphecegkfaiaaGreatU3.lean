import Derived.Test.YtciphecegkfaiaaGreatW4
import Derived.Test.YtciphecegkfaiaaGreatMQ
namespace Go.Proofs.YtciphecegkfaiaaGreat.Am
set_option linter.unusedSimpArgs false
set_option linter.unusedVariables false
theorem Pn {N:Nat} (hN:100≤N) {a b c:Int} {l:List Pt} {p q:Int} (h:UP a b c l p q) {a' b' c':Int} {l':List Pt} {p' q':Int} (h':UP a' b' c' l' p' q'):
  EQ N a b c l p q a' b' c' l' p' q'=some (max p p',min q q',decide (max p p'<min q q')):=by
 unfold EQ
 rw[Ko hN h,Ko hN h',EO (fun _=>Option.isSome_some),EO (fun _=>Option.isSome_some),Option.getD_some,Bool.and_true,Bool.and_true]
abbrev Con:=Int×Int×(Pt×Pt)×Int×Int
def kD:Con:=(0,0,((0,0),(0,0)),0,0)
noncomputable def W5 (a a':Int) (l l':List Pt) (p q p' q':Int):Con×Bool:=
 if max p p'<min q q' then(bif (Gj l l').2 then((a,a',(Gj l l').1,max p p',min q q'),true) else(kD,false)) else(kD,false)
theorem nN {N:Nat} (hN:1001≤N) {a b c:Int} {l:List Pt} {p q:Int} (h:UP a b c l p q) {a' b' c':Int} {l':List Pt} {p' q':Int} (h':UP a' b' c' l' p' q'):
  Eg N a b c l p q a' b' c' l' p' q'=some (W5 a a' l l' p q p' q'):=by
 unfold Eg W5
 rw[Pn (by omega) h h',bS]
 simp only
 by_cases hc:max p p'<min q q'
 ·rw[decide_eq_true hc,cF' _ (by rfl),if_pos hc,Tz hN h.l h'.l,show Gj l l'=((((Gj l l').1.1.1,(Gj l l').1.1.2),((Gj l l').1.2.1,(Gj l l').1.2.2)),(Gj l l').2) from rfl,bS]
  simp only
  cases(Gj l l').2 with
  |true=>rfl
  |false=>rfl
 ·rw[decide_eq_false hc,cT' _ (by rfl),if_neg hc]
  rfl
end Go.Proofs.YtciphecegkfaiaaGreat.Am
