import Derived.Test.YtciphecegkfaiaaGreatW5
import Derived.Test.YtciphecegkfaiaaGreatW4
namespace Go.Proofs.YtciphecegkfaiaaGreat.Am
set_option linter.unusedSimpArgs false
set_option linter.unusedVariables false
theorem kL {N:Nat} (hN:100≤N) {a b c:Int} {l:List Pt} {p q:Int} (h:UP a b c l p q):DS N a b c l p q=some (Ip a b c l p q,0):=by
 have:=h.l.l8
 unfold DS
 rw[Ko hN h,bS,Ab (by omega)]
 rfl
theorem rZ {N:Nat} (hN:100≤N) {s:List UInt8} (hs:s.length≤1000000000):CK N s=some (match L7 s with|some x=>(x,0)|none=>((0,0,0,[],0,0),80)):=by
 unfold CK
 rw[dB hN hs]
 rfl
theorem sC {a b c:Int} {l:List Pt} {p q:Int} (h:UP a b c l p q):0<(Ip a b c l p q).length∧(Ip a b c l p q).length≤1000:=by
 have l8:=h.l.l8
 have h1:=Nk l
 have h2:=Km [a,b,c,p,q,(l.length:Int)]
 have h3:=TN (n:=a) (by have:=h.a;omega) (by have:=h.a;omega)
 have h4:0<(EZ a).length:=List.length_pos_iff.2 h3
 have h5:(EZ a).length≤(CC [a,b,c,p,q,(l.length:Int)]).length:=by simp[CC]
 unfold Ip Pe
 rw[List.length_append]
 simp only[List.length_cons,List.length_nil] at h2
 omega
end Go.Proofs.YtciphecegkfaiaaGreat.Am
