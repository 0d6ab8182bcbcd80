import Derived.Test.YtdabfcbelkjmgaaGreatDoorA6
import Derived.LoopNIn
namespace Go.Proofs.YtdabfcbelkjmgaaGreatDoor.Am
set_option linter.unusedSimpArgs false
set_option linter.unusedVariables false
open Go
def gd {α:Type} (p:Prop) [Decidable p] (k:Option α):Option α:=if p then k else none
theorem Ov {α:Type} {p:Prop} [Decidable p] {k:Option α} {r:α}:gd p k=some r↔p∧k=some r:=by
 unfold gd;by_cases h:p<;>simp[h]
theorem Aa {α:Type} {p:Prop} [Decidable p] {k:Option α} (h:p):gd p k=k:=if_pos h
theorem RT {α:Type} {b:Bool} {x y z:α} (hb:b=true) (h:(bif b then x else y)=z):x=z:=by subst hb;exact h
theorem RU {α:Type} {b:Bool} {x y z:α} (hb:b=false) (h:(bif b then x else y)=z):y=z:=by subst hb;exact h
def I64 (n:Int):Prop:= -9223372036854775808≤n∧n≤9223372036854775807
instance (n:Int):Decidable (I64 n):=inferInstanceAs (Decidable (_∧_))
def nth {α:Type} (l:List α) (i:Int):Option α:=if 0≤i then l[i.toNat]? else none
theorem Nr {α:Type} {l:List α} {i:Int} {x:α} (h:nth l i=some x):(0≤i∧i<l.length)∧∀d,l.getD i.toNat d=x:=by
 unfold nth at h
 split at h
 ·rename_i h0
  obtain⟨h1,h2⟩:=List.getElem?_eq_some_iff.1 h
  refine⟨⟨h0,by omega⟩,fun d=> ?_⟩
  rw[List.getD_eq_getElem?_getD,h];rfl
 ·cases h
theorem ixs {α:Type} {l:List α} {i:Int} {x:α} (h:nth l i=some x) (d:α):l.getD i.toNat d=x:=(Nr h).2 d
theorem PG {α:Type} {l:List α} {i:Int} (d:α) (h0:0≤i) (h1:i<l.length):nth l i=some (l.getD i.toNat d):=by
 unfold nth
 rw[if_pos h0,List.getD_eq_getElem?_getD,List.getElem?_eq_getElem (by omega)];rfl
theorem Ow {α:Type} {l:List α} {k:Nat}:nth l (k:Int)=l[k]? :=by
 unfold nth;rw[if_pos (by omega)];rfl
section
variable {Γ:Ctx}
theorem Lh {c:AC} {Q Q':AE→St→Prop} {s:St} (h:awp Γ c Q s) (k:∀e s,Q e s→Q' e s∨∃s',Le s' s∧Q' e s'):awp Γ c Q' s:=by
 intro code hc σ a hA
 refine wpIn_mono (h code hc σ a hA) ?_
 rintro e a' w' ⟨σ',s',e',h1,h2,h3,h4,h5⟩
 rcases k _ _ h5 with h6|⟨s'',hl,hq⟩
 ·exact⟨σ',s',e',h1,h2,h3,h4,h6⟩
 ·obtain⟨σ'',g1,g2,g3⟩:=h3.le hl
  exact⟨σ'',s'',e',g1.trans h1,Γ.tr h2 (Γ.ofE g2),g3,h4,hq⟩
def Ns {X:Type} (e0:AE) (I:X→St) (Pre:X→Prop) (K:AE→St→Prop) (e:AE) (s:St):Prop:=(e=e0∧∃x,Pre x∧Le (I x) s)∨(e≠e0∧K e s)
theorem RW {X:Type} {e0:AE} {I:X→St} {Pre:X→Prop} {K:AE→St→Prop} {s:St} (x:X) (h:Pre x) (hl:Le (I x) s):Ns e0 I Pre K e0 s:= .inl ⟨rfl,x,h,hl⟩
theorem L2 {X:Type} {e0 e:AE} {I:X→St} {Pre:X→Prop} {K:AE→St→Prop} {s:St} (h:e≠e0) (hK:K e s):Ns e0 I Pre K e s:= .inr ⟨h,hK⟩
theorem Rx {X:Type} (I:X→St) (Pre:X→Prop) (e0:AE) {K:AE→St→Prop} {c:AC} {s:St} (h1:awp Γ c (Ns e0 I Pre K) s) (h2:∀x,Pre x→K e0 (I x)):awp Γ c K s:=by
 refine Lh h1 fun e s h=> ?_
 rcases h with⟨rfl,x,hx,hl⟩|⟨_,h⟩
 ·exact .inr ⟨I x,hl,h2 x hx⟩
 ·exact .inl h
theorem PH {B B':Bool} {cc:Opd} {x y:AC} {Q:AE→St→Prop} {e:Env} {h:Hp} {c:Nat} (hb:ung true (opv e cc)= .v (.bool B)) (hB:B=B') (ht:B'=true→awp Γ x Q ⟨e,h,c⟩) (hf:B'=false→awp Γ y Q ⟨e,h,c⟩):awp Γ (.cond cc x y) Q ⟨e,h,c⟩:=by
 subst hB
 exact Ey hb ht hf
end
end Go.Proofs.YtdabfcbelkjmgaaGreatDoor.Am
namespace Go.Proofs.YtdabfcbelkjmgaaGreatDoor.Am
open Go
theorem RG {α β:Type} (f:α→β) (l:List α) (n:Nat):(l.map f).take n=(l.take n).map f:=List.map_take.symm
theorem RH {α β:Type} (f:α→β) (l:List α) (n:Nat):(l.map f).drop n=(l.drop n).map f:=List.map_drop.symm
end Go.Proofs.YtdabfcbelkjmgaaGreatDoor.Am
namespace Go.Proofs.YtdabfcbelkjmgaaGreatDoor.Am
set_option linter.unusedSimpArgs false
set_option linter.unusedVariables false
open Go
def Nt (Γ:Ctx) (b:AC) (Q:AE→St→Prop):Nat→St→Prop
 |0,_=>False
 |m+1,s=>awp Γ b (fun e s'=>match e with| .n=>Nt Γ b Q m s'| .x i=>Q (.x i) s'| .r=>Q .r s'| .p v=>Q (.p v) s') s
def Ih (Γ:Ctx) (b:AC) (Q:AE→St→Prop) (m:Nat):AE→St→Prop:=fun e s'=>match e with| .n=>Nt Γ b Q m s'| .x i=>Q (.x i) s'| .r=>Q .r s'| .p v=>Q (.p v) s'
section
variable {Γ:Ctx}
theorem L3 {b:AC} {Q:AE→St→Prop} {m:Nat} {s:St} (h:awp Γ b (Ih Γ b Q m) s):Ih Γ b Q (m+1) .n s:=h
theorem L4 {b:AC} {Q:AE→St→Prop} {m i:Nat} {s:St} (h:Q (.x i) s):Ih Γ b Q m (.x i) s:=h
theorem L5 {b:AC} {Q:AE→St→Prop} {m:Nat} {s:St} (h:Q .r s):Ih Γ b Q m .r s:=h
theorem Li (m:Nat) {b:AC} {Q:AE→St→Prop} {s:St} (h:awp Γ b (Ih Γ b Q m) s):awp Γ (.loop b) Q s:=by
 intro code hc σ a hA
 cases code with
 |loop c=>
  simp only[cCode] at hc
  cases hx:cCode Γ.P Γ.nt c with
  |none=>simp[hx] at hc
  |some x'=>
   simp[hx] at hc
   subst hc
   refine wpIn_loop_rounds (m+1) ?_
   have key:∀(m:Nat) (s:St) (σ':Cf) (a':Act),Nt Γ x' Q m s→At Γ σ' s a'→Γ.R σ σ'→Code.roundsIn Γ.F 0 Γ.P c (lift Γ σ Q) m a' σ'.w:=by
    intro m
    induction m with
    |zero=>intro s σ' a' h;exact h.elim
    |succ m ih=>
     intro s σ' a' h hA' hR
     rw[roundsIn_succ]
     refine wpIn_mono (h c hx σ' a' hA') ?_
     rintro e a1 w1 ⟨τ,s',e',rfl,h2,h3,h4,h5⟩
     cases e with
     |normal=>
      simp[AE.of] at h4;subst h4
      exact ih s' τ a1 h5 h3 (Γ.tr hR h2)
     |exit j=>simp[AE.of] at h4;subst h4;exact⟨τ,s',_,rfl,Γ.tr hR h2,h3,rfl,h5⟩
     |ret=>simp[AE.of] at h4;subst h4;exact⟨τ,s',_,rfl,Γ.tr hR h2,h3,rfl,h5⟩
     |goto l=>simp[AE.of] at h4
     |panic c=>obtain⟨v,rfl,rfl⟩:=AE.of_panic h4;exact⟨τ,s',_,rfl,Γ.tr hR h2,h3,rfl,h5⟩
     |outgrown=>simp[AE.of] at h4
   exact key (m+1) s σ a h hA (Ctx.rfl Γ σ)
 |region id ops d=>
  simp only[cCode] at hc
  obtain⟨_,_,⟨_,e⟩|⟨_,_,_,_,e⟩⟩:=AW hc<;>cases e
 |seq x y=>simp only[cCode] at hc;split at hc<;>simp at hc
 |cond c x y=>simp only[cCode] at hc;split at hc<;>simp at hc
 |rangeFunc f ps x y=>simp only[cCode] at hc;split at hc<;>simp at hc
 |_=>simp[cCode] at hc
end
def BR (n:Nm):Hp→Hp
 |[]=>[]
 |(.c m j,x)::r=>if m=n then BR n r else(.c m j,x)::BR n r
 |(.a m,x)::r=>(.a m,x)::BR n r
theorem DN {n m:Nm} (hm:m≠n) (j:Nat):∀h:Hp,hl (BR n h) (.c m j)=hl h (.c m j)
 |[]=>rfl
 |(.c k i,x)::r=>by
  simp only[BR]
  split
  ·rename_i e;subst e
   simp only[hl]
   rw[if_neg (by intro e;cases e;exact hm rfl)]
   exact DN hm j r
  ·simp only[hl];rw[DN hm j r]
 |(.a k,x)::r=>by simp only[BR,hl];rw[DN hm j r]
theorem DO {n:Nm} (j:Nat):∀h:Hp,hl (BR n h) (.c n j)=none
 |[]=>rfl
 |(.c k i,x)::r=>by
  simp only[BR]
  split
  ·exact DO j r
  ·rename_i hk
   simp only[hl]
   rw[if_neg (by intro e;cases e;exact hk rfl)]
   exact DO j r
 |(.a k,x)::r=>by simp only[BR,hl];rw[if_neg (by intro e;cases e)];exact DO j r
theorem En {n m:Nm}:∀h:Hp,hl (BR n h) (.a m)=hl h (.a m)
 |[]=>rfl
 |(.c k i,x)::r=>by
  simp only[BR]
  split
  ·simp only[hl];rw[if_neg (by intro e;cases e)];exact En r
  ·simp only[hl];rw[En r]
 |(.a k,x)::r=>by simp only[BR,hl];rw[En r]
theorem JH {h:Hp} {n:Nm}:∀{k o:Nat} {cs:List AV},Cg h n o k=some cs→cs.length=k∧∀j,j<k→∃c,cs[j]? =some c∧hl h (.c n (o+j))=some c
 |0,o,cs,hc=>by simp[Cg] at hc;subst hc;exact⟨rfl,fun j hj=>by omega⟩
 |k+1,o,cs,hc=>by
  simp only[Cg] at hc
  split at hc
  ·rename_i c h0
   cases hr:Cg h n (o+1) k with
   |none=>simp[hr] at hc
   |some ds=>
    simp[hr] at hc
    subst hc
    obtain⟨g1,g2⟩:=JH hr
    refine⟨by simp[g1],fun j hj=> ?_⟩
    cases j with
    |zero=>exact⟨c,rfl,h0⟩
    |succ j=>
     obtain⟨c',e1,e2⟩:=g2 j (by omega)
     exact⟨c',by simpa using e1,by rw[show o+(j+1)=o+1+j by omega];exact e2⟩
  ·simp at hc
def Cf.rebox (σ:Cf) (n m:Nm):Cf:={σ with rb:=fun k=>if k=m then σ.rb n else σ.rb k,al:=fun k=>σ.al k∨k=m,ln:=fun k=>if k=m then none else σ.ln k}
theorem Evo.rebox {σ:Cf} {n m:Nm} (hm:¬σ.al m):Evo σ (σ.rebox n m) where
 box k hk:=by
  have:¬k=m:=by rintro rfl;exact hm hk
  exact⟨.inl hk,by simp[Cf.rebox,this]⟩
 arr k hk l hl:=by
  have:¬k=m:=by rintro rfl;exact hm hk
  simp only[Cf.rebox,if_neg this] at hl⊢
  exact⟨l,hl,Nat.le_refl _,fun _=>trivial⟩
 fro b o h h':=⟨h,h'⟩
 out:=rfl
 sz:=Nat.le_refl _
 io:=SameO.refl _
theorem HInv.rebox {σ:Cf} {hp:Hp} (h:HInv σ hp) {n m:Nm} (hm:¬σ.al m) {k:Nat} (hk:0<k) {cs:List AV} (hc:Cg hp n 0 k=some cs):HInv (σ.rebox n m) (A5 m 0 cs++BR n hp):=by
 obtain⟨g1,g2⟩:=JH hc
 have ev:=Evo.rebox (n:=n) hm
 have hcell:∀(p:Nm) (j:Nat) (c:AV),hl (A5 m 0 cs++BR n hp) (.c p j)=some c→(p=m∧hl hp (.c n j)=some c)∨(p≠m∧p≠n∧hl hp (.c p j)=some c):=by
  intro p j c hh
  rw[Dj,Ep] at hh
  by_cases hp':p=m
  ·subst hp'
   simp only[Nat.zero_le,and_true,if_true,Nat.sub_zero] at hh
   by_cases hj:j<k
   ·obtain⟨c',e1,e2⟩:=g2 j hj
    rw[e1] at hh
    simp at hh
    subst hh
    exact .inl ⟨rfl,by simpa using e2⟩
   ·rw[List.getElem?_eq_none (by omega)] at hh
    simp only[Option.none_or] at hh
    by_cases hpn:p=n
    ·subst hpn;rw[DO] at hh;cases hh
    ·rw[DN hpn] at hh
     exact absurd (h.cel p j c hh).1 hm
  ·rw[if_neg (by intro e;exact hp' e.1)] at hh
   simp only[Option.none_or] at hh
   by_cases hpn:p=n
   ·subst hpn;rw[DO] at hh;cases hh
   ·rw[DN hpn] at hh
    exact .inr ⟨hp',hpn,hh⟩
 have harr:∀p,hl (A5 m 0 cs++BR n hp) (.a p)=hl hp (.a p):=by
  intro p
  rw[Dj,B0,En];rfl
 have hnm:∀sz live rows d,hl hp (.a m)≠some (.sl sz live rows d):=fun sz live rows d e=>hm (h.arr m sz live rows d e).1
 refine⟨fun p=> ?_,fun p j c hh=> ?_,fun p sz live rows d hh=> ?_,fun p q b hp' hq'=> ?_,h.lt,h.ou,h.dis⟩
 ·have:=h.ln p
  unfold lenOf at this⊢
  rw[harr]
  by_cases e:p=m
  ·subst e
   have:(σ.rebox n p).ln p=none:=by simp[Cf.rebox]
   rw[this]
   cases hh:hl hp (.a p) with
   |none=>rfl
   |some y=>
    cases y with
    |sl sz live rows d=>exact absurd hh (hnm _ _ _ _)
    |_=>rfl
  ·simp only[Cf.rebox,if_neg e];exact this
 ·rcases hcell p j c hh with⟨rfl,e⟩|⟨e1,e2,e⟩
  ·obtain⟨q1,q2,cs',T,x,q3,q4,q5,q6⟩:=h.cel n j c e
   exact⟨.inr rfl,by simpa [Cf.rebox] using q2,cs',T,x,by simpa [Cf.rebox] using q3,q4,q5,q6.mono ev⟩
  ·have q:=h.cel p j c e
   exact q.keep ev (by simpa [Cf.rebox] using q.2.1) rfl
 ·rw[harr] at hh
  exact(h.arr p sz live rows d hh).keep ev rfl fun _ _ _ _ _ _ hM=>⟨hM,rfl⟩
 ·have key:∀p b,Owns (σ.rebox n m) (A5 m 0 cs++BR n hp) p b→(p=(false,m)∧Owns σ hp (false,n) b)∨(p≠(false,m)∧p≠(false,n)∧Owns σ hp p b):=by
   rintro⟨f,p⟩ b (⟨h1,h2,j,c,h3⟩|⟨h1,⟨sz,rows,d,h2⟩,o,cap,h3,h4⟩)
   ·simp only at h1 h2 h3
    subst h1
    rcases hcell p j c h3 with⟨rfl,e⟩|⟨e1,e2,e⟩
    ·exact .inl ⟨rfl,.inl ⟨rfl,by simpa [Cf.rebox] using h2,j,c,e⟩⟩
    ·refine .inr ⟨by simp[e1],by simp[e2],.inl ⟨rfl,by simpa [Cf.rebox,e1] using h2,j,c,e⟩⟩
   ·simp only at h1 h2 h3
    subst h1
    rw[harr] at h2
    exact .inr ⟨by simp,by simp,.inr ⟨rfl,⟨sz,rows,d,h2⟩,o,cap,by simpa [Cf.rebox] using h3,h4⟩⟩
  rcases key p b hp' with⟨rfl,a1⟩|⟨a0,a2,a1⟩<;>rcases key q b hq' with⟨rfl,b1⟩|⟨b0,b2,b1⟩
  ·rfl
  ·exact absurd (h.inj _ _ _ a1 b1).symm b2
  ·exact absurd (h.inj _ _ _ a1 b1) a2
  ·exact h.inj _ _ _ a1 b1
theorem QP {Γ:Ctx} (kn t k:Nat) {n:Nm} {cs:List AV} {x:AC} {Q:AE→St→Prop} {e:Env} {h:Hp} {c:Nat} (ht:t<Γ.nt) (hk:0<k) (he:lk e t= .box n 0) (hc:Cg h n 0 k=some cs)
  (hQ:awp Γ x Q ⟨(t,.box (kn,c+1) 0)::e,A5 (kn,c+1) 0 cs++BR n h,c+1⟩):awp Γ x Q ⟨e,h,c⟩:=by
 intro code hcc σ a hA
 have hr:=hA.1.t t
 rw[he] at hr
 simp only[Rep] at hr
 have hn:¬σ.al (kn,c+1):=fun hm=>by have:=hA.2.1 _ hm;simp at this;omega
 have ev:=Evo.rebox (n:=n) hn
 refine wpIn_mono (hQ code hcc (σ.rebox n (kn,c+1)) a ⟨⟨hA.1.h.rebox hn hk hc,fun t'=> ?_,hA.1.sz,(hA.1.df.mono ev).un (.inr (I4 ht))⟩,fun m hm=> ?_,Γ.g hA.2.2 ev fun t' ht'=> ?_⟩) fun e a w k=>k.mono (Γ.ofE ev)
 ·simp only[lk]
  by_cases e:t=t'
  ·subst e
   rw[if_pos rfl]
   simp only[Rep]
   exact⟨.inr rfl,by rw[hr.2];simp[Cf.rebox]⟩
  ·rw[if_neg e];exact(hA.1.t t').mono ev
 ·rcases hm with hm|rfl
  ·have:=hA.2.1 m hm;simp at this⊢;omega
  ·simp
 ·right
  simp only[lk]
  rw[if_neg (by omega)]
theorem Ra {Γ:Ctx} (t:Nat) {n:Nm} {l z:Nat} {live:Bool} {rows:List (List AV)} {d:List AV} {x:AC} {Q:AE→St→Prop} {e:Env} {h:Hp} {c:Nat} (ht:t<Γ.nt) (he:lk e t= .own n l) (hn:hl h (.a n)=some (.sl z live rows d))
  (hl':l=rows.length) (hQ:awp Γ x Q ⟨(t,.sl z false rows d)::e,frz h [n]++h,c⟩):awp Γ x Q ⟨e,h,c⟩:=by
 intro code hcc σ a hA
 obtain⟨τ,ev,hI,hw,hal,hM,_,hown,_⟩:=hA.1.h.frz [n]
 have hr:=hA.1.t t
 rw[he] at hr
 have hv:Rep τ (.sl z false rows d) (a.tmps.getD t undef):=by
  have:=Ib hA.1.h ev hw [n] hown (.own n l) _ (by simp only[rvc,hn];exact hl') rfl (by simp[ons]) hr
  simpa only[res,hn] using this
 rw[←hw]
 refine wpIn_mono (hQ code hcc τ a ⟨⟨hI,fun t'=> ?_,hA.1.sz,(hA.1.df.mono ev).un (.inr (I4 ht))⟩,fun m hm=>hA.2.1 m (hal m hm),Γ.g hA.2.2 ev fun t' ht'=> ?_⟩) fun e a w k=>k.mono (Γ.ofE ev)
 ·simp only[lk]
  by_cases e:t=t'
  ·subst e;rw[if_pos rfl];exact hv
  ·rw[if_neg e];exact(hA.1.t t').mono ev
 ·right
  simp only[lk]
  rw[if_neg (by omega)]
theorem Qr (r:List AV) (rs:List (List AV)) (d:List AV):C1 (r::rs) d 0=r:=rfl
theorem Qs (r:List AV) (rs:List (List AV)) (d:List AV) (n:Nat):C1 (r::rs) d (n+1)=C1 rs d n:=rfl
attribute [go_sem] BR
section
variable {n:Nat} {ops:Array Oper} {B:List Nat} {rec:Nat→Rec} {env0:Env} {hp0:Hp} {ao:Nat→AOp} {bs cnt:Nat} {Γ:Ctx}
theorem Je {L:List Nat}:∀{n:Nat},(∀i,i<n→i∈L)→left L n=0
 |0,_=>rfl
 |n+1,h=>by
  simp only[left]
  rw[Je fun i hi=>h i (by omega),if_pos (h n (by omega))]
theorem N8 (hΓ:Γ.OK) (G:Good Γ.P (fun i e h=>Dw Γ.S (bs+i,cnt+1) e h (ao i)) Γ.nt n ops B rec env0 hp0 ao) (late:∀j o,n≤j→ops[j]? =some o→∀k,k<n→(B.getD j 0).testBit k=true) {R:Nat} {Qx:Exit→Act→World→Prop} {σ0:Cf}
  (hK:∀(listed:Array Bool) (σ:Cf) (a:Act),listed.size=ops.size→(∀i,i<ops.size→(listed.getD i true=true↔i<n)∧(listed.getD i false=true↔i<n))→Evo σ0 σ→Inv σ (Bp rec env0 (Bd n)) (hpL rec hp0 (Bd n)) a Γ.nt Γ.hb→
   (∀m,σ.al m→m.2≤cnt∨∃i,i<n∧m=(bs+i,cnt+1))→wpAnyIn Γ.F 0 Γ.P .any ops Qx R listed a σ.w):∀(fuel:Nat) (L:List Nat) (listed:Array Bool) (σ:Cf) (a:Act),
  Done n B L→listed.size=ops.size→(∀i,i<ops.size→(listed.getD i true=true↔i∈L)∧(listed.getD i false=true↔i∈L))→left L n=fuel→Evo σ0 σ→Inv σ (Bp rec env0 L) (hpL rec hp0 L) a Γ.nt Γ.hb→
  (∀m,σ.al m→m.2≤cnt∨∃i∈L,m=(bs+i,cnt+1))→wpAnyIn Γ.F 0 Γ.P .any ops Qx (fuel+R) listed a σ.w:=by
 intro fuel
 induction fuel with
 |zero=>
  intro L listed σ a hD h1 h2 hf he hI hal
  have hall:=Ga hf
  obtain⟨e1,e2⟩:=G.fin hD hall
  have hiff:∀i,i∈L↔i<n:=fun i=>⟨hD.lt i,hall i⟩
  rw[Nat.zero_add]
  exact hK listed σ a h1 (fun i hi=>by rw[←hiff i];exact h2 i hi) he (hI.congr e1 e2) fun m hm=>(hal m hm).imp id fun⟨i,hi,e⟩=>⟨i,hD.lt i hi,e⟩
 |succ fuel ih=>
  intro L listed σ a hD h1 h2 hf he hI hal
  rw[show fuel+1+R=(fuel+R)+1 by omega]
  have hmiss:∃j,j<n∧j∉L∧∀i,i<j→i∈L:=by
   rcases Lc L n with h|h
   ·rw[Je h] at hf;omega
   ·exact h
  obtain⟨j0,j1,j2,j3⟩:=hmiss
  refine⟨fun hr=> ?_,fun i hi=> ?_⟩
  ·exfalso
   have hj:j0<ops.size:=Nat.lt_of_lt_of_le j1 G.sz
   have ho:ops[j0]? =some ops[j0]:=Array.getElem?_eq_getElem hj
   have:j0∈Region.ready .any ops listed:=(Cy h1 h2 (fun i o ho=>(G.bef i o ho).1) j0).2 ⟨hj,j2,_,ho,fun e he=>j3 e ((G.bef j0 _ ho).1 e he)⟩
   rw[hr] at this
   simp at this
  obtain⟨g1,g2,o,ho,g3⟩:=(Cy h1 h2 (fun i o ho=>(G.bef i o ho).1) i).1 hi
  have ha:=G.all hD ho g3
  have hin:i<n:=by
   rcases Nat.lt_or_ge i n with h|h
   ·exact h
   ·exact absurd (ha j0 (late i o h ho j0 j1)) j2
  obtain⟨vc,hvc,hex,hd,_⟩:=G.run i hin
  rw[←G.same hD hin g2 ha] at hex
  refine DI hΓ.S hΓ.F ho (G.op i o ho) hI ?_ hex hvc fun a' σ' e' hI' hal'=> ?_
  ·intro h
   rcases hal _ h with h|⟨k,hk,e⟩
   ·exact absurd h (Nat.not_succ_le_self cnt)
   ·simp only[Prod.mk.injEq,Nat.add_left_cancel_iff,and_true] at e
    exact g2 (e▸hk)
  ·refine ih (i::L) _ σ' a' (hD.cons hin g2 ha) (by simp[h1]) (fun k hk=> ?_) ?_ (he.trans e') ?_ fun m hm=> ?_
   ·by_cases e:i=k
    ·subst e
     have:i<listed.size:=by omega
     simp[Array.getD,this]
    ·have hk':k<listed.size:=by omega
     have q1:(listed.setIfInBounds i true).getD k true=listed.getD k true:=by simp[Array.getD,hk',Array.getElem_setIfInBounds,e]
     have q2:(listed.setIfInBounds i true).getD k false=listed.getD k false:=by simp[Array.getD,hk',Array.getElem_setIfInBounds,e]
     have q3:k∈i::L↔k∈L:=by
      rw[List.mem_cons]
      exact⟨fun h=>h.resolve_left fun h=>e h.symm,.inr⟩
     rw[q1,q2,q3]
     exact h2 k hk
   ·have:=Gc g2 hin
    omega
   ·simp only[Bp,hpL,hd];exact hI'
   ·rcases hal' m hm with h|rfl
    ·rcases hal m h with h|⟨k,hk,e⟩
     ·exact .inl h
     ·exact .inr ⟨k,List.mem_cons_of_mem _ hk,e⟩
    ·exact .inr ⟨i,by simp,rfl⟩
theorem O9 (bef:∀i o,ops[i]? =some o→(∀e∈A6 o,e<i)∧B.getD i 0=CI B (A6 o)):∀(i:Nat) (o:Oper),ops[i]? =some o→∀k,(B.getD i 0).testBit k=true→k<i:=by
 intro i
 induction i using Nat.strongRecOn with
 |_ i ih=>
  intro o ho k hk
  rw[(bef i o ho).2,CI,EA] at hk
  simp only[Nat.zero_testBit,yF,false_or] at hk
  obtain⟨e,h1,h2⟩:=hk
  have hlt:=(bef i o ho).1 e h1
  rcases h2 with rfl|h2
  ·exact hlt
  ·have:e<ops.size:=by have:=(Array.getElem?_eq_some_iff.1 ho).1;omega
   have:=ih e hlt _ (Array.getElem?_eq_getElem this) k h2
   omega
theorem Lx (bef:∀i o,ops[i]? =some o→(∀e∈A6 o,e<i)∧B.getD i 0=CI B (A6 o)):∀(j:Nat) (o:Oper),ops[j]? =some o→∀i k,(B.getD j 0).testBit i=true→(B.getD i 0).testBit k=true→(B.getD j 0).testBit k=true:=by
 intro j
 induction j using Nat.strongRecOn with
 |_ j ih=>
  intro o ho i k hi hk
  rw[(bef j o ho).2,CI,EA] at hi⊢
  simp only[Nat.zero_testBit,yF,false_or] at hi⊢
  obtain⟨e,h1,h2⟩:=hi
  refine⟨e,h1,.inr ?_⟩
  rcases h2 with rfl|h2
  ·exact hk
  ·have hlt:=(bef j o ho).1 e h1
   have:e<ops.size:=by have:=(Array.getElem?_eq_some_iff.1 ho).1;omega
   exact ih e hlt _ (Array.getElem?_eq_getElem this) i k h2 hk
theorem KW (bef:∀i o,ops[i]? =some o→(∀e∈A6 o,e<i)∧B.getD i 0=CI B (A6 o)) {F:Fence} {P:Program} {Q:Exit→Act→World→Prop} (m:Nat) (late:∀j o,m≤j→ops[j]? =some o→∀k,k<j→(B.getD j 0).testBit k=true):
  ∀(r j:Nat) (listed:Array Bool) (a:Act) (w:World),m≤j→j+r=ops.size→listed.size=ops.size→(∀i,i<ops.size→(listed.getD i true=true↔i<j)∧(listed.getD i false=true↔i<j))→wpOpsIn F 0 P ops Q (List.range' j r) a w→wpAnyIn F 0 P .any ops Q r listed a w:=by
 intro r
 induction r with
 |zero=>
  intro j listed a w hm hj h1 h2 h
  refine⟨?_,by simpa [wpOpsIn] using h⟩
  cases hr:Region.ready .any ops listed with
  |nil=>rfl
  |cons x xs=>
   exfalso
   have hx:x∈Region.ready .any ops listed:=by rw[hr];simp
   obtain⟨g1,g2,_⟩:=(Cy (L:=Bd j) h1 (fun i hi=>by rw[BE];exact h2 i hi) (fun i o ho=>(bef i o ho).1) x).1 hx
   rw[BE] at g2
   omega
 |succ r ih=>
  intro j listed a w hm hj h1 h2 h
  rw[List.range'_succ,wpOpsIn_cons] at h
  have hjs:j<ops.size:=by omega
  have hoj:ops[j]? =some ops[j]:=Array.getElem?_eq_getElem hjs
  refine⟨fun hr=> ?_,fun i hi=> ?_⟩
  ·exfalso
   have:j∈Region.ready .any ops listed:=(Cy (L:=Bd j) h1 (fun i hi=>by rw[BE];exact h2 i hi) (fun i o ho=>(bef i o ho).1) j).2 ⟨hjs,by rw[BE];omega,_,hoj,fun e he=>by rw[BE];exact(bef j _ hoj).1 e he⟩
   rw[hr] at this
   simp at this
  ·obtain⟨g1,g2,o,ho,g3⟩:=(Cy (L:=Bd j) h1 (fun i hi=>by rw[BE];exact h2 i hi) (fun i o ho=>(bef i o ho).1) i).1 hi
   rw[BE] at g2
   have hij:i=j:=by
    rcases Nat.lt_or_ge j i with h|h
    ·exfalso
     have hb:=late i o (by omega) ho j h
     rw[(bef i o ho).2,CI,EA] at hb
     simp only[Nat.zero_testBit,yF,false_or] at hb
     obtain⟨e,q1,q2⟩:=hb
     have q3:=BE.1 (g3 e q1)
     rcases q2 with rfl|q2
     ·omega
     ·have:=O9 bef e _ (Array.getElem?_eq_getElem (show e<ops.size by omega)) j q2
      omega
    ·omega
   subst hij
   refine wpOpIn_mono (fun a w hw=> ?_) h
   refine ih (i+1) _ a w (by omega) (by omega) (by simp[h1]) (fun k hk=> ?_) hw
   by_cases e:i=k
   ·subst e
    have:i<listed.size:=by omega
    simp[Array.getD,this]
   ·have hk':k<listed.size:=by omega
    have q1:(listed.setIfInBounds i true).getD k true=listed.getD k true:=by simp[Array.getD,hk',Array.getElem_setIfInBounds,e]
    have q2:(listed.setIfInBounds i true).getD k false=listed.getD k false:=by simp[Array.getD,hk',Array.getElem_setIfInBounds,e]
    rw[q1,q2,(h2 k hk).1,(h2 k hk).2]
    omega
end
def dep (all:List AOp):Nat→Nat→Nat→Bool
 |0,_,_=>false
 |f+1,k,j=> !C8 (all.getD k default) (all.getD j default)||(List.range j).any fun i=>decide (k<i)&& !C8 (all.getD i default) (all.getD j default)&&dep all f k i
def NP (all:List AOp) (m:Nat):Bool:=(List.range all.length).all fun j=> !decide (m≤j)||(List.range j).all fun k=>dep all 8 k j
theorem Ly {ops:Array Oper} {B:List Nat} {all:List AOp} (bef:∀i o,ops[i]? =some o→(∀e∈A6 o,e<i)∧B.getD i 0=CI B (A6 o)) (hsz:all.length=ops.size)
  (tm:∀k j,k<j→j<all.length→(B.getD j 0).testBit k=true∨C8 (all.getD k default) (all.getD j default)=true):∀(f k j:Nat),k<j→j<all.length→dep all f k j=true→(B.getD j 0).testBit k=true
 |0,k,j,_,_,h=>by simp[dep] at h
 |f+1,k,j,hk,hj,h=>by
  simp only[dep,Bool.or_eq_true,Bool.not_eq_true',List.any_eq_true,List.mem_range,Bool.and_eq_true,decide_eq_true_eq] at h
  rcases h with h|⟨i,hi,⟨h1,h2⟩,h3⟩
  ·rcases tm k j hk hj with g|g
   ·exact g
   ·rw[h] at g;cases g
  ·have h4:=Ly bef hsz tm f k i h1 (by omega) h3
   rcases tm i j hi hj with g|g
   ·exact Lx bef j _ (Array.getElem?_eq_getElem (by omega)) i k g h4
   ·rw[h2] at g;cases g
section
variable {P:Program} {S:Tab} {nt hb:Nat} {J:Int→Cf→Prop} {hnt:nt≤gs} {evo:∀{k:Int} {σ σ':Cf},J k σ→Evo σ σ'→J k σ'} {l:Nat} {xs:List (List AV)}
theorem KX (hS:TabOK P S) (hR:Rng P Fence.wide l hb xs J) (i:Nat) {rid:Nat} {ops:List AOp} {yo:AOp} {Q:AE→St→Prop} {e e1:Env} {h h1:Hp} {c:Nat} {vc:Prop} {x:Opd} {as:List Opd} {k:Nat} {args:List AV} {recs:List Rec}
  (hyo:ops[i]? =some yo) (hk:yo.k= .cv x as) (hex:FC S (c+1) (100*rid) (ops.take i) e h=some (vc,e1,h1,recs)) (hlate:NP ops i=true) (hvc:vc) (hg:Bv e1 yo.g=some true) (hx:ung true (opv e1 x)= .clo (.yield l) [] [])
  (hgh:lk e gs=AY k) (hargs:as.map (fun x=>ung true (opv e1 x))=args) (hxs:xs[k]? =some args)
  (hQ:∀b:Bool,∃(vc2:Prop) (e2:Env) (h2:Hp),AM S (c+1) (100*rid+(i+1)) (ops.drop (i+1)) (AX yo.d (.v (.bool b)) ((gs,AY (if b=true then k+1 else-1))::e1)) h1=some (vc2,e2,h2)∧vc2∧Q .n ⟨e2,h2,c+1⟩):
  awp (Ctx.it P Fence.wide S nt hb J hnt evo) (.drw rid ops []) Q ⟨e,h,c⟩:=by
 intro code hc σ a hA
 have hΓ:(Ctx.it P Fence.wide S nt hb J hnt evo).OK:=⟨hS,.inl rfl⟩
 cases code with
 |region id ops' d=>
  simp only[cCode] at hc
  obtain⟨l0,hx0,⟨_,e0⟩|⟨rfl,hf,un',hu,e0⟩⟩:=AW hc
  ·cases e0
  ·cases e0
   refine wpIn_region_any hf ?_
   obtain⟨B,b1,b2,hun⟩:=FI hu
   obtain⟨c1,c2⟩:=Bm hx0
   obtain⟨t1,t2⟩:=Bj i hx0
   obtain⟨_,t3⟩:=Bj (i+1) hx0
   have hi:i<ops.length:=(List.getElem?_eq_some_iff.1 hyo).1
   have hsz:ops.length=ops'.size:=c1.trans (by simp)
   have hi':i<ops'.size:=by omega
   have ho:ops'[i]? =some ops'[i]:=Array.getElem?_eq_getElem hi'
   obtain⟨yo',g1,g2⟩:=c2 i ops'[i] (by simp)
   rw[hyo] at g1
   cases g1
   obtain⟨cl,y,k1,k2,rfl,rfl,k3,k4⟩:=Jz g2 hk
   have hop:∀i o,ops'[i]? =some o→∃x,ops[i]? =some x∧cOp P nt ops' o=some x:=fun i o ho=>c2 i o (by simpa using ho)
   have hao:∀i x,ops[i]? =some x→ops.getD i default=x:=fun i x h=>by simp[List.getD_eq_getElem?_getD,h]
   have get:∀i,i<ops.length→ops[i]? =some (ops.getD i default):=fun i hi=>by simp[List.getD_eq_getElem?_getD,hi]
   have hbef:∀i o,ops'[i]? =some o→(∀e∈A6 o,e<i)∧B.getD i 0=CI B (A6 o):=fun i o ho=>by
    have:=Ej b1 i o (by simpa using ho)
    simpa using this
   have htm:∀k j,k<j→j<ops.length→(B.getD j 0).testBit k=true∨C8 (ops.getD k default) (ops.getD j default)=true:=fun k j hk hj=>by
    have h1:=FF b2 j _ (get j hj)
    rw[Nat.zero_add] at h1
    have h2:=Ek h1 k (ops.getD k default) (by rw[List.getElem?_take,if_pos hk];exact get k (by omega))
    rwa [Nat.zero_add] at h2
   have late:∀j o,i≤j→ops'[j]? =some o→∀k,k<j→(B.getD j 0).testBit k=true:=fun j o hj ho k hk=>by
    have hjl:j<ops.length:=by have:=(Array.getElem?_eq_some_iff.1 ho).1;omega
    have h0:=List.all_eq_true.1 hlate j (List.mem_range.2 hjl)
    have h1:decide (i≤j)=true:=by simpa using hj
    rw[h1] at h0
    have h2:=List.all_eq_true.1 (by simpa using h0) k (List.mem_range.2 hk)
    exact Ly hbef hsz htm 8 k j hk hjl h2
   rw[Jy] at hex
   have hrl:=DL hex
   have hlt:(ops.take i).length=i:=by simp;omega
   have hsp:=Em (rec:=fun i=>recs.getD i default) (env0:=e) (hp0:=h) (all:=ops.take i) (bs:=100*rid) (ops.take i) 0 recs vc e1 h1 (fun i=>by simp) hex hvc (fun i hi=>by
    have:i<recs.length:=by omega
    simp[List.getD_eq_getElem?_getD,this])
   simp only[Nat.zero_add,hlt] at hsp
   obtain⟨e1',e2',run⟩:=hsp
   have run':∀k,k<i→_:=fun k hk=>run k (ops.getD k default) (by rw[List.getElem?_take,if_pos hk];exact get k (by omega))
   have hws:∀k,k<i→hw (ops.getD k default).k=false→(recs.getD k default).ws=[]:=fun k hk h=>by
    obtain⟨_,_,g,_⟩:=run' k hk
    exact G8 h g
   have hrd:∀k,k<i→ht (ops.getD k default).k=false→(recs.getD k default).rd=[]:=fun k hk h=>by
    obtain⟨_,_,_,_,g⟩:=run' k hk
    rw[g];exact GA h
   have G:Good P (fun i e h=>Dw S (100*rid+i,c+1) e h (ops.getD i default)) nt i ops' B (fun i=>recs.getD i default) e h fun i=>ops.getD i default:=
    {cg:=fun i e e' h h' ht hh=>FB ht hh
     sz:=by omega
     bef:=hbef
     op:=fun i o ho=>by
      obtain⟨x,h1,h2⟩:=hop i o ho
      simp only[hao i x h1];exact h2
     run:=run'
     tmp:=fun k j hk hj=>htm k j hk (by omega)
     mem:=fun k j hk hj=>by
      have h2:=El (B:=B.getD j 0) (j:=j) (o:=ops.getD j default) (l:=ops.take j) (k:=0) k (ops.getD k default) (by rw[List.getElem?_take,if_pos hk];exact get k (by omega))
      rw[Nat.zero_add] at h2
      rcases h2 with h|h|h
      ·exact .inl h
      ·right;right
       simp only[Bool.or_eq_false_iff,Bool.and_eq_false_iff] at h
       have hk':k<i:=by omega
       rcases h.1 with g1|g1
       ·rcases h.2 with g2|g2
        ·exact .inr (.inr ⟨hws k hk' g1,hrd k hk' g2⟩)
        ·exact .inl ⟨hws k hk' g1,hws j hj g2⟩
       ·exact .inr (.inl ⟨hws j hj (Ld g1),hrd j hj g1⟩)
      ·exfalso
       have:=FG (all:=ops) (j:=0) j _ (get j (by omega)) _ (by rw[Nat.zero_add];exact h)
       rw[←hun] at this
       simp at this}
   obtain⟨σd,wd1,wd2,wd3⟩:=hA.drawn (σ.w.drawn+1)
   rw[←wd1]
   rw[show ops'.size=i+(ops'.size-i) by omega]
   refine N8 (cnt:=c) hΓ G (fun j o hj ho k hk=>late j o hj ho k (by omega)) (σ0:=σ) (fun listed σ1 a1 hs1 hl1 ev1 hI1 hal1'=> ?_) i [] _ σd a ⟨by simp,by simp,.nil⟩ (by simp;omega) (fun q hq=> ?_) (FH i) wd2 wd3.1 fun m hm=> .inl (wd3.2.1 m hm)
   ·refine KW hbef i late (ops'.size-i) i listed a1 σ1.w (Nat.le_refl _) (by omega) hs1 hl1 ?_
    rw[←e1',←e2'] at hI1
    have hal1:∀m,σ1.al m→m.2≤c∨(m.2=c+1∧m.1<100*rid+i):=fun m hm=>(hal1' m hm).imp id fun⟨q,hq,eq⟩=>by subst eq;simp;omega
    rw[show ops'.size-i=(ops'.toList.drop (i+1)).length+1 by simp;omega,List.range'_succ]
    rw[wpOpsIn_cons]
    unfold wpOpIn
    simp only[ho]
    have hw:=BH hI1.t k4 hg
    simp only[hw,if_true]
    refine⟨fun f _=>trivial, ?_⟩
    have hno:∀c,ops'[i].op≠.defer c:=fun c hd=>by rw[k1] at hd;cases hd
    rw[Oper.semAt_eq _ a1.eval _ hno]
    have hX:=BC (g:=true) rfl hI1.t y
    rw[hx] at hX
    simp only[Rep,RepL] at hX
    obtain⟨xs0,ys0,hX,rfl,rfl⟩:=hX
    have hV:=Ci (g:=true) rfl hI1.t cl.args.toList
    have hJ:J k σ1:=evo (hA.2.2 k hgh) ev1
    have hV':RepL σ1 args (cl.args.toList.map a1.eval):=by
     rw[←hargs]
     exact hV
    obtain⟨f,tmps,assign,body,y1,y2⟩:=hR.rnd hJ hI1.h hxs hV'
    show Oper.uponIn Fence.wide 0 P ops'[i] a1 _ _ (Sem.run P (execOp a1.eval ops'[i]) σ1.w)
    rw[IH k1 k2 (by simpa using hX) y1]
    rw[Oper.uponIn_round]
    refine⟨fun h=>by simp[Fence.wide] at h,y2.mono ?_⟩
    rintro en w' ⟨b,σ2,rfl,rfl,oth,old,hJ2⟩
    obtain⟨vc2,e2,h2,q1,q2,q3⟩:=hQ b
    have hd:∀k,ops'[i].dst=some k→k<a1.tmps.size:=by
     rw[k3];intro d hd
     rw[hI1.sz];exact B3 g2 d hd
    have hI2:Inv σ2 (AX yo.d (.v (.bool b)) ((gs,AY (if b=true then k+1 else-1))::e1)) h1 (a1.put ops'[i].dst (.bool b)) nt (hb,false):=by
     refine⟨hI1.h.oth oth, ?_,by rw[Act.size_put];exact hI1.sz, ?_⟩
     ·rw[←k3]
      refine TInv.put (r:= .v (.bool b)) (fun t=> ?_) hd (by simp[Rep])
      simp only[lk]
      by_cases ht:gs=t
      ·rw[if_pos ht]
       subst ht
       have:¬gs<a1.tmps.size:=by rw[hI1.sz];exact Nat.not_lt.2 hnt
       simp[Rep,Array.getD,this]
      ·rw[if_neg ht];exact hI1.t.ev oth.ev t
     ·rw[Act.defers_put]
      refine DOK.of rfl (fun d hd=> ?_) (hI1.df.nd rfl) (Nat.le_trans hI1.df.le oth.sz) (hI1.df.gl.ev oth.ev)
      obtain⟨r,r1,r2,r3,r4,r5⟩:=hI1.df.all rfl d hd
      obtain⟨o1,o2⟩:=old r _ r5 r3
      exact⟨r,r1,r2,o1,by rw[oth.M];exact r4,o2⟩
    have hgh2:lk (AX yo.d (.v (.bool b)) ((gs,AY (if b=true then k+1 else-1))::e1)) gs=AY (if b=true then k+1 else-1):=by
     rw[Cu (B3 g2) hnt];simp[lk]
    have hG2:(Ctx.it P Fence.wide S nt hb J hnt evo).G (AX yo.d (.v (.bool b)) ((gs,AY (if b=true then k+1 else-1))::e1)) σ2:=by
     intro k' hk'
     rw[hgh2] at hk'
     have:(if b=true then(k:Int)+1 else-1)=k':=by simpa using hk'
     rw[←this]
     exact hJ2
    have hal2:∀m,σ2.al m→m.2≤c∨(m.2=c+1∧m.1<100*rid+(i+1)):=by
     intro m hm
     rw[oth.al] at hm
     rcases hal1 m hm with h|⟨h3,h4⟩
     ·exact .inl h
     ·right;exact⟨h3,by omega⟩
    have hh:=CS hΓ (ops:=ops') (Q:=Q) (cnt:=c) (100*rid) _ σ2 hG2 (ops'.toList.drop (i+1)) (i+1) (ops.drop (i+1)) σ2 _ _ _ _ _ vc2 (fun _ _=>rfl) (fun j=>by simp) (by simp;omega) t3 q1 q2 (Evo.refl σ2) hI2 hal2 q3
    have hl:lift (Ctx.it P Fence.wide S nt hb J hnt evo) σ2 Q=lift (Ctx.it P Fence.wide S nt hb J hnt evo) σ Q:=rfl
    rw[hl] at hh
    exact hh
   ·have:q<i+(ops'.size-i):=by omega
    simp[Array.getD,this]
 |seq x y=>simp only[cCode] at hc;split at hc<;>simp at hc
 |cond c x y=>simp only[cCode] at hc;split at hc<;>simp at hc
 |rangeFunc f ps x y=>simp only[cCode] at hc;split at hc<;>simp at hc
 |_=>simp[cCode] at hc
end
abbrev KY (Γ:Ctx) (l:Nat) (xs:List (List AV)):Prop:=∀(i:Nat) {rid:Nat} {ops post:List AOp} {d:Option Nat} {g:Option (Nat×Bool)} {Q:AE→St→Prop} {e e1:Env} {h h1:Hp} {c:Nat} {vc:Prop} {x:Opd} {as:List Opd} {k:Nat} {args:List AV} {vt vf:Prop} {et ef:Env} {ht hf:Hp} {recs:List Rec}
  (_:ops[i]? =some ⟨d,g,.cv x as⟩) (_:ops.drop (i+1)=post) (_:FC Γ.S (c+1) (100*rid) (ops.take i) e h=some (vc,e1,h1,recs)) (_:NP ops i=true) (_:vc) (_:Bv e1 g=some true) (_:ung true (opv e1 x)= .clo (.yield l) [] [])
  (_:lk e gs=AY k) (_:as.map (fun x=>ung true (opv e1 x))=args) (_:xs[k]? =some args)
  (_:AM Γ.S (c+1) (100*rid+(i+1)) post (AX d (.v (.bool true)) ((gs,AY (k+1))::e1)) h1=some (vt,et,ht)) (_:vt) (_:Q .n ⟨et,ht,c+1⟩)
  (_:AM Γ.S (c+1) (100*rid+(i+1)) post (AX d (.v (.bool false)) ((gs,AY (-1))::e1)) h1=some (vf,ef,hf)) (_:vf) (_:Q .n ⟨ef,hf,c+1⟩),awp Γ (.drw rid ops []) Q ⟨e,h,c⟩
theorem N9 {P:Program} {S:Tab} (hS:TabOK P S) {f:Nat} {fn:Func} {c:AC} {fst cps:List AV} {xs:List (List AV)} (nt:Nat) (hf:P.funcs[f]? =some fn) (hc:Bl P fn=some (c,[])) (hnt:fn.ntmps=nt) (hgs:nt≤gs)
  (hn:(fst++cps).length<nt)
  (h:∀(l:Nat) (Γ:Ctx),Γ.OK→Γ.S=S→Gd Γ l xs→KY Γ l xs→awp Γ c (itK xs.length) ⟨(gs,AY 0)::A1 0 (fst++AV.clo (.yield l) [] []::cps),[],0⟩):ItC P f fst cps xs:=
 LX hS nt hf hc hnt hgs hn fun l hb J evo hR=>h l _ (Ctx.it_ok hS) (Eq.refl _) (fun i=>FL hS hR i) fun i {rid ops post d g Q e e1 h h1 c vc x as k args vt vf et ef ht hf recs} hyo hpost hex hl hvc hg hx hgh hargs hxs hxT hvT hQT hxF hvF hQF=>by
  subst hpost
  refine KX hS hR i hyo rfl hex hl hvc hg hx hgh hargs hxs fun b=> ?_
  cases b with
  |true=>exact⟨vt,et,ht,hxT,hvT,hQT⟩
  |false=>exact⟨vf,ef,hf,hxF,hvF,hQF⟩
end Go.Proofs.YtdabfcbelkjmgaaGreatDoor.Am
