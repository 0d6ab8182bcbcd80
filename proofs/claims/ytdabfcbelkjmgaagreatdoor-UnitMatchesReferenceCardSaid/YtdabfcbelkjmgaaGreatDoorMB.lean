import Derived.Test.YtdabfcbelkjmgaaGreatDoorM9
import Derived.Test.YtdabfcbelkjmgaaGreatDoorMG
namespace Go.Proofs.YtdabfcbelkjmgaaGreatDoor.Am
set_option linter.unusedSimpArgs false
set_option linter.unusedVariables false
def mv (d p:Pt):Pt:=(p.1+d.1,p.2+d.2)
theorem EH (d a b c:Pt):trn (mv d a) (mv d b) (mv d c)=trn a b c:=by unfold trn mv;grind
theorem ON (d:Pt) {l:List Pt} (h:Conv l):Conv (l.map (mv d)):=by
 intro i k hi hk n1 n2
 rw[List.length_map] at hi hk n2⊢
 have hm:(i+1)%l.length<l.length:=Nat.mod_lt _ (by omega)
 rw[Ca hi,Ca hk,Ca hm,EH]
 exact h i k hi hk n1 n2
theorem R1 (d:Pt) {l:List Pt} (h:VP l) (ho:∀p∈l,On (mv d p)):VP (l.map (mv d)):=
 ⟨by rw[List.length_map];exact h.l3,by rw[List.length_map];exact h.l8,fun p hp=>by obtain⟨q,hq,rfl⟩:=List.mem_map.1 hp;exact ho q hq,ON d h.cv⟩
theorem IQ (N:Nat) {l:List Pt} (hl:l.length≤1000) (hs:∀p∈l,Sml p) {d:Pt} (hd:Sml d):∀(n i:Nat),i≤l.length→l.length<n+i→Uh N l d.1 d.2 n i ((l.take i).map (mv d)++l.drop i)=some (l.map (mv d))
 |0,i,hi,hn=>by omega
 |n+1,i,hi,hn=>by
  rw[Uh]
  by_cases he:i=l.length
  ·subst he
   rw[dge,cF,List.drop_length,List.take_length,List.append_nil]
  have hi':i<l.length:=by omega
  have hp:=hs _ (AJ hi')
  have hd':=hd
  unfold Sml at hp hd'
  have e1:nth ((l.take i).map (mv d)++l.drop i) (i:Int)=some ((pa l i).1,(pa l i).2):=by rw[GI hi',JR hi']
  rw[dlt hi',cT,e1,bS]
  simp only
  rw[Aa (by unfold I64;omega),Int.toNat_natCast,NB hi',JR hi',bS]
  simp only
  rw[Aa (by unfold I64;omega),Aa (by unfold I64;omega),L9 hi',←ns,show((pa l i).1+d.1,(pa l i).2+d.2)=mv d (pa l i) from rfl,NC hi']
  exact IQ N hl hs hd n (i+1) (by omega) (by omega)
def NE (d:Pt):Prop:=(-40≤d.1∧d.1≤40)∧-40≤d.2∧d.2≤40
open Classical in
theorem OQ {N:Nat} (hN:100≤N) {l:List Pt} (h:VP l) {d:Pt} (hd:NE d):Un N l d.1 d.2=some (if∀p∈l,On (mv d p) then(l.map (mv d),0) else([],70)):=by
 unfold Un
 have l3:=h.l3
 have l8:=h.l8
 unfold NE at hd
 have hc:=IQ N (by omega) h.sml (d:=d) (by unfold Sml;omega) N 0 (by omega) (by omega)
 rw[show((0:Nat):Int)=0 from rfl,List.drop_zero,List.take_zero,List.map_nil,List.nil_append] at hc
 rw[Cx hN h,bS,cF' _ (by simp;omega),Aa (by rintro rfl;simp at l3),Aa (by omega),hc,bS,JM hN (by simp;omega),bS]
 by_cases ho:∀p∈l,On (mv d p)
 ·rw[if_pos ho,cF' _ (decide_eq_false (by
   rintro⟨p,hp,hn⟩
   obtain⟨q,hq,rfl⟩:=List.mem_map.1 hp
   exact hn (ho q hq)))]
 ·rw[if_neg ho,cT' _ (decide_eq_true (by
   by_cases hx:∃p∈l.map (mv d),¬On p
   ·exact hx
   ·exact absurd (fun p hp=>by
     by_cases hq:On (mv d p)
     ·exact hq
     ·exact absurd ⟨_,List.mem_map.2 ⟨p,hp,rfl⟩,hq⟩ hx) ho))]
end Go.Proofs.YtdabfcbelkjmgaaGreatDoor.Am
