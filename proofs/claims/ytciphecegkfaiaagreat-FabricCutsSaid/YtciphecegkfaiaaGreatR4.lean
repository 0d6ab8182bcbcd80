import Derived.Test.YtciphecegkfaiaaGreatA25
import Derived.Test.YtciphecegkfaiaaGreatAx5
import Derived.Test.YtciphecegkfaiaaGreatF2
namespace Go.Proofs.YtciphecegkfaiaaGreat.Am
open Go
attribute [local irreducible] awp B5 BR Bx B3 Bw Bn BS B1 itK
set_option maxRecDepth 100000
set_option maxHeartbeats 8000000
set_option linter.unusedSimpArgs false
set_option linter.unusedVariables false
def BV:Nat→List (Int×Int)→Int→Option Int
 |0,_,_=>none
 |n+1,l,a=>bif Gs l a&&decide (¬CN l a 0=a) then BV n l (CN l a 0) else some a
def dI:List AV→Int×Int
 |[.v (.int .i64 a),.v (.int .i64 b)]=>(a,b)
 |_=>(0,0)
theorem jK (l:List (Int×Int)):(l.map (rI eI)).map dI=l:=by
 rw[List.map_map]
 exact(List.map_congr_left fun x _=>rfl).trans (List.map_id l)
def Jm (n:Nat) (f:Nat):List AV→List AV→Option (Prop×AV)
 |[.v (.int .i64 x),.box a 0,.box b 0],[_,.agg [.gd false (.sl 0 true rows [])],.agg [.clo (.func g) [] [.box a' 0,.box b' 0]]]=>
  if f=133 then some ((g=133∧a'=a∧b'=b∧rows=(rows.map dI).map (rI eI))∧(BV n (rows.map dI) x).isSome=true,.i ((BV n (rows.map dI) x).getD 0)) else none
 |_,_=>none
theorem Ph {hp:Hp} {n:Nm} {c:AV} (h:Cr hp n 0 40=[c]):hl hp (.c n 0)=some c∧isM c=false:=by
 have:=Jh 40 0 0 c (by rw[h];rfl)
 simpa using this
theorem jL {hp:Hp} {a:Nm} {rows:List (List AV)} (h:qv hp (.box a 0)= .agg [mpE rows]):∃m,hl hp (.c a 0)=some (.mp m)∧hl hp (.c m 0)=some (mpE rows):=by
 simp only[qv,AV.agg.injEq] at h
 cases hb:Cr hp a 0 40 with
 |nil=>rw[hb] at h;cases h
 |cons c cs=>
  rw[hb] at h
  simp only[List.map_cons,List.cons.injEq,List.map_eq_nil_iff] at h
  obtain⟨h1,rfl⟩:=h
  obtain⟨h2,h3⟩:=Ph hb
  cases c with
  |mp m=>
   refine⟨m,h2, ?_⟩
   unfold qv1 at h1
   split at h1
   ·rename_i m' e
    cases e
    split at h1
    ·rename_i rows' hr
     simp only[AV.gd.injEq,AV.sl.injEq,true_and,and_true] at h1
     rw[←h1];exact RA hr
    ·cases h1
   ·rename_i hne
    exact absurd rfl (hne m)
  |gd b x=>rw[VS] at h3;cases h3
  |_=>simp[qv1] at h1
theorem jM {hp:Hp} {b:Nm} {f:Fn} {xs ys:List AV} (h:qv hp (.box b 0)= .agg [.clo f xs ys]):hl hp (.c b 0)=some (.clo f xs ys):=by
 simp only[qv,AV.agg.injEq] at h
 cases hb:Cr hp b 0 40 with
 |nil=>rw[hb] at h;cases h
 |cons c cs=>
  rw[hb] at h
  simp only[List.map_cons,List.cons.injEq,List.map_eq_nil_iff] at h
  obtain⟨h1,rfl⟩:=h
  obtain⟨h2,h3⟩:=Ph hb
  cases c with
  |mp m=>
   exfalso
   unfold qv1 at h1
   split at h1
   ·split at h1<;>simp at h1
   ·rename_i hne
    exact hne m rfl
  |clo f' xs' ys'=>simp only[qv1] at h1;rw[h2,h1]
  |_=>simp[qv1] at h1
theorem Ss {n:Nat} (h:∀args vs vc r,Jm n 133 args vs=some (vc,r)→vc→Ok Tryz.prog 133 args vs r):TabOK Tryz.prog (KT [] (Jm n)):=by
 refine Tf Aj fun f args vs vc r hq hv=> ?_
 by_cases hf:f=133
 ·subst hf
  exact⟨x133.ok,h args vs vc r hq hv⟩
 ·exfalso
  unfold Jm at hq
  split at hq
  ·rw[if_neg hf] at hq;cases hq
  ·cases hq
section
attribute [local go_sem] Jm jK
theorem WS:∀(n:Nat) (args vs:List AV) (vc:Prop) (r:AV),Jm n 133 args vs=some (vc,r)→vc→Ok Tryz.prog 133 args vs r:=by
 intro n
 induction n with
 |zero=>
  intro args vs vc r h hv
  unfold Jm at h
  split at h
  ·rw[if_pos rfl] at h
   cases h
   exact absurd hv.2 (by simp[BV])
  ·cases h
 |succ n ih=>
  intro args vs vc r h hv
  have hS:=Ss ih
  unfold Jm at h
  split at h
  rotate_left
  ·cases h
  rename_i x a b y rows g a' b'
  rw[if_pos rfl] at h
  cases h
  obtain⟨⟨rfl,rfl,rfl,hr⟩,hs⟩:=hv
  generalize rows.map dI=l at hr hs⊢
  subst hr
  obtain⟨r,hr⟩:=yX hs
  rw[hr,Option.getD_some]
  rw[BV] at hr
  refine XW hS x133 rfl (Nat.le_of_ble_eq_true rfl) fun hb hp cnt hv=> ?_
  simp only[List.map_cons,List.map_nil,List.cons.injEq,and_true] at hv
  obtain⟨_,v1,v2⟩:=hv
  obtain⟨m,h1,h2⟩:=jL v1
  have h3:=jM v2
  have F:=fc h1 (fc h2 (fc h3 f0))
  dsimp only[x133,mkX]
  refine go hS F ?_
  refine cb F (Gs l x&&decide (¬CN l x 0=x)) (fun hB=> ?_) (fun hB=> ?_)
  ·rw[hB,cond_true] at hr
   have v0:qv hp (.v (.int .i64 (CN l x 0)))= .v (.int .i64 (CN l x 0)):=rfl
   have F:=fc v0 (fc v1 (fc v2 (fc hr F)))
   refine go hS F ?_
   exact OJ (by simp only[go_sem,seval,F]<;>eq_refl) (by simp only[go_sem,seval]) ⟨by simp only[go_sem,seval],rfl⟩
  ·rw[hB,cond_false] at hr
   have F:=fc (yJ hr).symm F
   refine go hS F ?_
   exact OJ (by simp only[go_sem,seval,F]<;>eq_refl) (by simp only[go_sem,seval]) ⟨by simp only[go_sem,seval,F],rfl⟩
end
theorem cU (n:Nat):TabOK Tryz.prog (KT [] (Jm n)):=Ss (WS n)
end Go.Proofs.YtciphecegkfaiaaGreat.Am
namespace Go.Proofs.YtciphecegkfaiaaGreat.Am
def mix (r:Int→Int):List (Int×Int)→List Bool→List (Int×Int)
 |[],_=>[]
 |p::l,[]=>p::l
 |p::l,b::fl=>(p.1,bif b then r p.1 else p.2)::mix r l fl
theorem Qw (r:Int→Int):∀l:List (Int×Int),mix r l (l.map fun _=>false)=l
 |[]=>rfl
 |p::l=>by simp only[List.map_cons,mix,cond_false,Qw r l]
theorem PW (r:Int→Int):∀(l:List (Int×Int)) (fl:List Bool),(mix r l fl).length=l.length
 |[],_=>rfl
 |_::_,[]=>rfl
 |p::l,b::fl=>by simp only[mix,List.length_cons,PW r l fl]
theorem Sv (r:Int→Int):∀(l:List (Int×Int)) (fl:List Bool),fl.length=l.length→(∀x∈fl,x=true)→mix r l fl=l.map fun p=>(p.1,r p.1)
 |[],_,_,_=>rfl
 |_::_,[],h,_=>by simp at h
 |p::l,b::fl,h,k=>by
  have hb:=k b (by simp)
  subst hb
  simp only[mix,cond_true,List.map_cons,Sv r l fl (by simpa using h) fun x hx=>k x (by simp[hx])]
theorem TO (r:Int→Int):∀(l:List (Int×Int)) (fl:List Bool) (j:Nat),fl[j]? =some false→(mix r l fl)[j]? =l[j]?
 |[],_,_,_=>rfl
 |_::_,[],_,h=>by simp at h
 |p::l,b::fl,0,h=>by simp at h;subst h;rfl
 |p::l,b::fl,j+1,h=>by simpa [mix] using TO r l fl j (by simpa using h)
theorem Sw (r:Int→Int):∀(l:List (Int×Int)) (fl:List Bool),(mix r l fl).map (·.1)=l.map (·.1)
 |[],_=>rfl
 |_::_,[]=>rfl
 |p::l,b::fl=>by simp only[mix,List.map_cons,Sw r l fl]
theorem Qy:∀(l l':List (Int×Int)),l.map (·.1)=l'.map (·.1)→∀k,Gs l k=Gs l' k
 |[],[],_,_=>rfl
 |p::l,q::l',h,k=>by
  simp only[List.map_cons,List.cons.injEq] at h
  simp only[Gs,h.1,Qy l l' h.2 k]
 |[],_::_,h,_=>by simp at h
 |_::_,[],h,_=>by simp at h
theorem YQ {α:Type}:∀{l:List (Int×α)} {k:Int},Gs l k=true↔k∈l.map (·.1)
 |[],k=>by simp[Gs]
 |p::l,k=>by simp only[Gs,Bool.or_eq_true,decide_eq_true_eq,YQ (l:=l),List.map_cons,List.mem_cons];exact⟨fun h=>h.imp Eq.symm id,fun h=>h.imp Eq.symm id⟩
theorem N3 (r:Int→Int) (k:Int):∀(l:List (Int×Int)) (fl:List Bool),CN (mix r l fl) k 0=CN l k 0∨Gs l k=true∧CN (mix r l fl) k 0=r k
 |[],_=> .inl rfl
 |_::_,[]=> .inl rfl
 |p::l,b::fl=>by
  simp only[mix,CN,Gs]
  by_cases h:p.1=k
  ·subst h
   cases b with
   |true=>exact .inr (by simp)
   |false=>exact .inl (by simp)
  ·simp only[decide_eq_false h,cond_false,Bool.false_or]
   exact N3 r k l fl
theorem Sx (r:Int→Int):∀(l:List (Int×Int)) (fl:List Bool) (j:Nat) (p:Int×Int),(l.map (·.1)).Nodup→fl[j]? =some false→l[j]? =some p→Fu (mix r l fl) p.1 (r p.1)=mix r l (fl.set j true)
 |[],_,_,_,_,_,h=>by simp at h
 |_::_,[],_,_,_,h,_=>by simp at h
 |q::l,b::fl,0,p,_,h,k=>by
  simp at h k;subst h k
  simp[mix,Fu]
 |q::l,b::fl,j+1,p,hn,h,k=>by
  simp only[List.map_cons,List.nodup_cons] at hn
  have hk:l[j]? =some p:=by simpa using k
  have hne:¬q.1=p.1:=fun e=>hn.1 (e▸List.mem_map.2 ⟨p,List.mem_of_getElem? hk,rfl⟩)
  simp only[mix,Fu,decide_eq_false hne,cond_false,List.set_cons_succ]
  rw[Sx r l fl j p hn.2 (by simpa using h) hk]
theorem L2 {α:Type} (k:Int) (x:α):∀{l:List (Int×α)},(l.map (·.1)).Nodup→((Fu l k x).map (·.1)).Nodup∧∀y∈(Fu l k x).map (·.1),y=k∨y∈l.map (·.1)
 |[],_=>by simp[Fu]
 |p::l,h=>by
  simp only[List.map_cons,List.nodup_cons] at h
  by_cases e:p.1=k
  ·simp only[Fu,decide_eq_true e,cond_true,List.map_cons,List.nodup_cons]
   exact⟨h,fun y hy=> .inr hy⟩
  ·obtain⟨h1,h2⟩:=L2 k x h.2
   simp only[Fu,decide_eq_false e,cond_false,List.map_cons,List.nodup_cons]
   refine⟨⟨fun hm=> ?_,h1⟩,fun y hy=> ?_⟩
   ·rcases h2 _ hm with h3|h3
    ·exact e h3
    ·exact h.1 h3
   ·rcases List.mem_cons.1 hy with rfl|hy
    ·exact .inr (by simp)
    ·exact(h2 y hy).imp id fun h=>List.mem_cons_of_mem _ h
theorem Sy:∀{n:Nat} {l:List (Int×Int)} {x y:Int},BV n l x=some y→(Gs l y&&decide (¬CN l y 0=y))=false
 |0,_,_,_,h=>by cases h
 |n+1,l,x,y,h=>by
  rw[BV] at h
  cases hb:(Gs l x&&decide (¬CN l x 0=x)) with
  |true=>rw[hb,cond_true] at h;exact Sy h
  |false=>rw[hb,cond_false] at h;cases h;exact hb
theorem Qz:∀{n m:Nat} {l:List (Int×Int)} {x y:Int},BV n l x=some y→n≤m→BV m l x=some y
 |0,_,_,_,_,h,_=>by cases h
 |n+1,0,_,_,_,_,hm=>by omega
 |n+1,m+1,l,x,y,h,hm=>by
  rw[BV] at h⊢
  cases hb:(Gs l x&&decide (¬CN l x 0=x)) with
  |true=>rw[hb,cond_true] at h;rw[cond_true];exact Qz h (by omega)
  |false=>rw[hb,cond_false] at h;rw[cond_false];exact h
theorem Sz {N:Nat} {l:List (Int×Int)} {fl:List Bool}:∀{n:Nat} {x y:Int},BV n l x=some y→n≤N→BV n (mix (fun k=>(BV N l k).getD 0) l fl) x=some y
 |0,_,_,h,_=>by cases h
 |n+1,x,y,h,hN=>by
  have h0:=Qz h hN
  have hfix:=Sy h
  have hr:∀k,Gs (mix (fun k=>(BV N l k).getD 0) l fl) k=Gs l k:=Qy _ _ (Sw _ l fl)
  have hlast:BV N l y=some y:=by
   cases N with
   |zero=>omega
   |succ N=>rw[BV,hfix,cond_false]
  have hfix2:(Gs (mix (fun k=>(BV N l k).getD 0) l fl) y&&decide (¬CN (mix (fun k=>(BV N l k).getD 0) l fl) y 0=y))=false:=by
   rw[hr]
   rcases N3 (fun k=>(BV N l k).getD 0) y l fl with e|⟨_,e⟩
   ·rw[e];exact hfix
   ·rw[e,hlast];simp
  rw[BV] at h⊢
  rw[hr]
  cases hb:(Gs l x&&decide (¬CN l x 0=x)) with
  |false=>
   rw[hb,cond_false] at h
   cases h
   rw[hr] at hfix2
   rw[hfix2,cond_false]
  |true=>
   rw[hb,cond_true] at h
   simp only[Bool.and_eq_true] at hb
   rcases N3 (fun k=>(BV N l k).getD 0) x l fl with e|⟨_,e⟩
   ·rw[e,hb.1,hb.2]
    simp only[Bool.and_self,cond_true]
    exact Sz h (by omega)
   ·rw[e,h0,Option.getD_some,hb.1]
    by_cases hxy:y=x
    ·subst hxy;simp
    ·simp only[hxy,not_false_eq_true,decide_true,Bool.and_self,cond_true]
     cases n with
     |zero=>cases h
     |succ n=>rw[BV,hfix2,cond_false]
def nF:List Bool→Nat
 |[]=>0
 |b::l=>(bif b then 0 else 1)+nF l
theorem WX:∀{l:List Bool} {j:Nat},l[j]? =some false→nF (l.set j true)<nF l
 |[],_,h=>by simp at h
 |b::l,0,h=>by simp at h;subst h;simp[nF]
 |b::l,j+1,h=>by
  have:=WX (l:=l) (j:=j) (by simpa using h)
  simp only[List.set_cons_succ,nF];omega
end Go.Proofs.YtciphecegkfaiaaGreat.Am
namespace Go.Proofs.YtciphecegkfaiaaGreat.Am
open Go
attribute [local irreducible] awp B5 BR Bx B3 Bw Bn BS B1 itK
set_option maxRecDepth 100000
set_option maxHeartbeats 8000000
set_option linter.unusedSimpArgs false
set_option linter.unusedVariables false
abbrev Ct:=Int×Int×Int×Int×Int×Int×Int×Int
@[reducible,go_sem] def eCt (c:Ct):List AV:=[.v (.int .i64 c.1),.v (.int .i64 c.2.1),.v (.int .i64 c.2.2.1),.v (.int .i64 c.2.2.2.1),.v (.int .i64 c.2.2.2.2.1),.v (.int .i64 c.2.2.2.2.2.1),.v (.int .i64 c.2.2.2.2.2.2.1),.v (.int .i64 c.2.2.2.2.2.2.2)]
@[reducible] def zCt:List AV:=[.v (.int .i64 0),.v (.int .i64 0),.v (.int .i64 0),.v (.int .i64 0),.v (.int .i64 0),.v (.int .i64 0),.v (.int .i64 0),.v (.int .i64 0)]
def Nn (us:List Un):Nat→Int→List (Int×Int)→Option (List (Int×Int))
 |0,_,_=>none
 |n+1,i,l=>bif decide (i<(us.length:Int)) then(
   (nth us i).bind fun(x1,x2,x3,x4,x5,x6)=>
   gd (I64 (i+1))<|
   Nn us n (i+1) (Fu l x1 x1))
  else some l
def L0 (N:Nat) (cs:List Ct):Nat→Int→List (Int×Int)→Option (List (Int×Int))
 |0,_,_=>none
 |n+1,i,l=>bif decide (i<(cs.length:Int)) then(
   (nth cs i).bind fun(x1,x2,x3,x4,x5,x6,x7,x8)=>
   bif !decide (x2= -1) then(
    (BV N l x1).bind fun a=>(BV N l x2).bind fun b=>
    gd (I64 (i+1))<|
    L0 N cs n (i+1) (Fu l (max a b) (min a b)))
   else gd (I64 (i+1))<|L0 N cs n (i+1) l)
  else some l
def U5 (N:Nat) (l:List (Int×Int)):Option (List (Int×Int)):=
 bif l.all fun p=>(BV N l p.1).isSome then some (l.map fun p=>(p.1,(BV N l p.1).getD 0)) else none
def Pi (cs:List Ct) (l:List (Int×Int)):Nat→Int→List (Int×Bool)→Option (List (Int×Bool))
 |0,_,_=>none
 |n+1,i,g=>bif decide (i<(cs.length:Int)) then(
   (nth cs i).bind fun(x1,x2,x3,x4,x5,x6,x7,x8)=>
   bif decide (x2= -1) then gd (I64 (i+1))<|Pi cs l n (i+1) (Fu g (CN l x1 0) true)
   else gd (I64 (i+1))<|Pi cs l n (i+1) g)
  else some g
section
variable (C:Nat→List Un→Option (List Ct))
def L1 (N:Nat) (us:List Un):Option (List (Int×Int)×List (Int×Bool)):=
 (Nn us N 0 []).bind fun l1=>
 (C N us).bind fun cs=>
 (L0 N cs N 0 l1).bind fun l2=>
 (U5 N l2).bind fun l3=>
 (Pi cs l3 N 0 []).bind fun g=>
 some (l3,g)
def Kn (N:Nat):Spec:=p0<|pG<|pD Ak fun us=>pE<|pE<|pF (C N us) [] fun r=> .sl 8 false (r.map eCt) zCt
def Pj (N:Nat):Tab:=KT [(27,s27 N),(86,Kn C N)] (Jm N)
variable {C}
theorem N1 {N:Nat} (hC:FOK Tryz.prog 86 (Kn C N)):TabOK Tryz.prog (Pj C N):=Tf (Aa (G5 N) (Aa hC Aj)) (cU N).q
theorem jN {l:List (Int×Int)} {j:Nat} {k x:AV} (h:(l.map (rI eI))[j]? =some [k,x]):∃p,l[j]? =some p∧k= .v (.int .i64 p.1)∧x= .v (.int .i64 p.2):=by
 rw[List.getElem?_map] at h
 cases hl:l[j]? with
 |none=>rw[hl] at h;cases h
 |some p=>
  rw[hl] at h
  simp only[Option.map_some,rI,yE,List.cons.injEq,and_true] at h
  exact⟨p,rfl,h.1.symm,h.2.symm⟩
theorem WT {us:List Un}:∀{n:Nat} {i:Int} {l l':List (Int×Int)},Nn us n i l=some l'→(l.map (·.1)).Nodup→(l'.map (·.1)).Nodup
 |0,_,_,_,h,_=>by cases h
 |n+1,i,l,l',h,hn=>by
  rw[Nn] at h
  cases hb:decide (i<(us.length:Int)) with
  |true=>
   rw[hb,cond_true] at h
   obtain⟨⟨x1,x2,x3,x4,x5,x6⟩,_,h⟩:=yB.1 h
   obtain⟨_,h⟩:=HR.1 h
   exact WT h (L2 x1 x1 hn).1
  |false=>rw[hb,cond_false] at h;cases h;exact hn
theorem Su {N:Nat} {cs:List Ct}:∀{n:Nat} {i:Int} {l l':List (Int×Int)},L0 N cs n i l=some l'→(l.map (·.1)).Nodup→(l'.map (·.1)).Nodup
 |0,_,_,_,h,_=>by cases h
 |n+1,i,l,l',h,hn=>by
  rw[L0] at h
  cases hb:decide (i<(cs.length:Int)) with
  |true=>
   rw[hb,cond_true] at h
   obtain⟨⟨x1,x2,x3,x4,x5,x6,x7,x8⟩,_,h⟩:=yB.1 h
   cases hc:(!decide (x2= -1)) with
   |true=>
    simp only[hc,cond_true] at h
    obtain⟨a,_,h⟩:=yB.1 h
    obtain⟨b,_,h⟩:=yB.1 h
    obtain⟨_,h⟩:=HR.1 h
    exact Su h (L2 _ _ hn).1
   |false=>
    simp only[hc,cond_false] at h
    obtain⟨_,h⟩:=HR.1 h
    exact Su h hn
  |false=>rw[hb,cond_false] at h;cases h;exact hn
theorem YP {N:Nat} {l l':List (Int×Int)} (h:U5 N l=some l'):(∀p∈l,(BV N l p.1).isSome=true)∧l'=l.map fun p=>(p.1,(BV N l p.1).getD 0):=by
 unfold U5 at h
 cases hb:l.all fun p=>(BV N l p.1).isSome with
 |true=>rw[hb,cond_true] at h;cases h;exact⟨List.all_eq_true.1 hb,rfl⟩
 |false=>rw[hb,cond_false] at h;cases h
attribute [local go_sem] Jm jK Kn qv qv1 Pj
theorem Pk {N hb:Nat} (hC:FOK Tryz.prog 86 (Kn C N)) {us:List Un} {gm:List (Int×Int)} {g:List (Int×Bool)} (h:L1 C N us=some (gm,g)) {K:AV→St→Prop} {w:AV}
  (hK:∀s c,leH [(.c (100,5) 0,mpE (gm.map (rI eI))),(.c (2100,c) 0,mpE (g.map (rI eB))),(.c (0,1) 0,w)] s.hp→K (.tup [.mp (100,5),.mp (2100,c)]) s):
  awp (Ctx.fn Tryz.prog (Pj C N) x92.nt hb) x92.c (Bw x92.rv K)
   ⟨Cj 0 [.agg [.sl 6 false (us.map Ai) [.i 0,.i 0,.i 0,.sl 0 true [] [],.i 0,.i 0]]],[(.c (0,1) 0,w)],3⟩:=by
 have hS:=N1 hC
 have F:=f0
 dsimp only[x92,mkX]
 refine dX (by decide) (by simp only[go_sem,seval]) fun N0=> ?_
 have hOK:=Ctx.mi_ok (P:=Tryz.prog) (nt:=88) (hb:=hb) (N:=N0) (hnt:=by decide) hS
 unfold L1 at h
 obtain⟨l1,hL1,cs,hcs,l2,hL2,l3,hL3,g',hL4,h⟩:=un h
 replace F:=fc hcs F
 refine go hS F ?_
 let Hp1:List (Int×Int)→Hp:=fun l=>[(.c (200,6) 0,.clo (.func 133) [] [.box (101,5) 0,.box (200,6) 0]),(.c (101,5) 0,.mp (100,5)),(.c (100,5) 0,mpE (l.map (rI eI))),(.c (0,4) 0,Af us),(.c (0,1) 0,w)]
 refine Au l1 (fun z:List (Int×Int)×Nat=>⟨[(1,.box (0,4) 0),(4,.box (101,5) 0),(5,.box (200,6) 0)],[(.c (200,6) 0,.clo (.func 133) [] [.box (101,5) 0,.box (200,6) 0]),(.c (101,5) 0,.mp (100,5)),(.c (100,5) 0,mpE (z.1.map (rI eI))),(.c (0,4) 0,Af us),(.c (0,1) 0,w)],z.2⟩) (fun z=>z.1) (.x 0) ?_ ?_
 ·refine Aq (fun n (y:Int×List (Int×Int)×Nat)=>Nn us n y.1 y.2.1) (fun y=>⟨[(1,.box (0,4) 0),(4,.box (101,5) 0),(5,.box (200,6) 0),(20,Af us),(21,.i (us.length:Int)),(22,.i y.1)],[(.c (200,6) 0,.clo (.func 133) [] [.box (101,5) 0,.box (200,6) 0]),(.c (101,5) 0,.mp (100,5)),(.c (100,5) 0,mpE (y.2.1.map (rI eI))),(.c (0,4) 0,Af us),(.c (0,1) 0,w)],y.2.2⟩) (0,[],8) hL1 (leF F) ?_
  rintro n ⟨i,l,c⟩ hB
  simp only[Nn] at hB
  refine gcb hS F hB (fun _ hB=> ?_) (fun _ hB=> ?_)
  ·obtain⟨⟨x1,x2,x3,x4,x5,x6⟩,hn,hB⟩:=un hB
   obtain⟨hb1,F⟩:=rqG Ai hn F
   obtain⟨hv,hB⟩:=un hB
   exact gbk hS F (n,i+1,Fu l x1 x1,c+1+1+1+1) hB
  ·exact gck hS F (l,c+1) hB
 ·rintro⟨l1,c1⟩ rfl
  refine go hS F ?_
  refine Au l2 (fun z:List (Int×Int)×Nat=>⟨[(1,.box (0,4) 0),(4,.box (101,5) 0),(5,.box (200,6) 0),(8,.sl 8 false (cs.map eCt) zCt)],[(.c (200,6) 0,.clo (.func 133) [] [.box (101,5) 0,.box (200,6) 0]),(.c (101,5) 0,.mp (100,5)),(.c (100,5) 0,mpE (z.1.map (rI eI))),(.c (0,1) 0,w)],z.2⟩) (fun z=>z.1) (.x 2) ?_ ?_
  ·refine Aq (fun n (y:Int×List (Int×Int)×Nat)=>L0 N cs n y.1 y.2.1) (fun y=>⟨[(1,.box (0,4) 0),(4,.box (101,5) 0),(5,.box (200,6) 0),(8,.sl 8 false (cs.map eCt) zCt),(34,.sl 8 false (cs.map eCt) zCt),(35,.i (cs.length:Int)),(36,.i y.1)],[(.c (200,6) 0,.clo (.func 133) [] [.box (101,5) 0,.box (200,6) 0]),(.c (101,5) 0,.mp (100,5)),(.c (100,5) 0,mpE (y.2.1.map (rI eI))),(.c (0,1) 0,w)],y.2.2⟩) (0,l1,c1+1+1) hL2 (leF F) ?_
   rintro n ⟨i,l,c⟩ hB
   simp only[L0] at hB
   refine gcb hS F hB (fun _ hB=> ?_) (fun _ hB=> ?_)
   ·obtain⟨⟨x1,x2,x3,x4,x5,x6,x7,x8⟩,hn,hB⟩:=un hB
    obtain⟨hb1,F⟩:=rqG eCt hn F
    refine gcb hS F hB (fun _ hB=> ?_) (fun _ hB=> ?_)
    ·obtain⟨ra,ha,rb,hb2,hv,hB⟩:=un hB
     exact gbk hS (fc ha (fc hb2 F)) (n,i+1,Fu l (max ra rb) (min ra rb),c+1+1+1+1+1+1) hB
    ·obtain⟨hv,hB⟩:=un hB
     exact gbk hS F (n,i+1,l,c+1+1+1+1) hB
   ·exact gck hS F (l,c+1) hB
  ·rintro⟨l2,c2⟩ rfl
   have hnd:(l2.map (·.1)).Nodup:=Su hL2 (WT hL1 (by simp))
   have e0:((l2.map (rI eI)).map fun _=>false)=l2.map fun _=>false:=by rw[List.map_map];rfl
   obtain⟨hsome,rfl⟩:=YP hL3
   refine go hS F ?_
   refine ZV hS 1 (m:=(100,5)) (rows:=l2.map (rI eI)) (Eq.refl _) (by simp only[go_sem,seval]<;>eq_refl) (by trivial) (by simp only[go_sem,seval]) (by simp only[go_sem,seval]) fun b=>⟨_,_,_,by simp only[go_sem,seval]<;>eq_refl,by trivial, ?_⟩
   rw[e0]
   refine go hS F ?_
   refine Au () (fun z:Nat=>⟨[(1,.box (0,4) 0),(4,.box (101,5) 0),(5,.box (200,6) 0),(8,.sl 8 false (cs.map eCt) zCt)],[(.c (200,6) 0,.clo (.func 133) [] [.box (101,5) 0,.box (200,6) 0]),(.c (101,5) 0,.mp (100,5)),(.c (100,5) 0,mpE ((l2.map fun p=>(p.1,(BV N l2 p.1).getD 0)).map (rI eI))),(.c (0,1) 0,w)],z⟩) (fun _=>()) (.x 4) ?_ ?_
   ·refine G4 (fun y:List Bool×Nat×Nat=>⟨[(1,.box (0,4) 0),(4,.box (101,5) 0),(5,.box (200,6) 0),(8,.sl 8 false (cs.map eCt) zCt),(60,.v (.pointer (some ⟨b,0,none⟩))),(ik,gI b (100,5) y.1 y.2.1)],[(.c (200,6) 0,.clo (.func 133) [] [.box (101,5) 0,.box (200,6) 0]),(.c (101,5) 0,.mp (100,5)),(.c (100,5) 0,mpE ((mix (fun k=>(BV N l2 k).getD 0) l2 y.1).map (rI eI))),(.c (0,1) 0,w)],y.2.2⟩) (fun y=>y.1.length=l2.length) (fun y=>nF y.1) (l2.map fun _=>false,0,c2+1) (by simp) (leF (fc (Qw (fun k=>(BV N l2 k).getD 0) l2) F)) ?_
    rintro⟨fl,la,c⟩ hfl
    have hfl:fl.length=l2.length:=hfl
    refine Ay ?_
    refine ZW hS 0 (b:=b) (fl:=fl) (la:=la) (m:=(100,5)) (rows:=(mix (fun k=>(BV N l2 k).getD 0) l2 fl).map (rI eI)) (Eq.refl _) (by simp only[go_sem,seval]<;>eq_refl) (by trivial) (by simp only[go_sem,seval]) (by simp only[go_sem,seval]) (by simp only[go_sem,seval]) (by rw[List.length_map,PW];exact hfl.symm)
     (fun hall=>⟨_,_,_,by simp only[go_sem,seval]<;>eq_refl,by trivial, ?_⟩) (fun j k x hj hk=> ?_)
    ·have F:=fc (Sv (fun k=>(BV N l2 k).getD 0) l2 fl hfl hall) F
     refine gcf hS F ?_
     exact gck hS F (c+1) (rfl:some ()=some ())
    ·obtain⟨p,hp,rfl,rfl⟩:=jN hk
     have hp2:l2[j]? =some p:=(TO _ l2 fl j hj).symm.trans hp
     refine⟨_,_,_,by simp only[go_sem,seval]<;>eq_refl,by trivial, ?_⟩
     refine go hS F ?_
     refine ct F ?_
     refine go hS F ?_
     refine ZX hS 0 (b:=b) (fl:=fl.set j true) (j:=j) (m:=(100,5)) (rows:=(mix (fun k=>(BV N l2 k).getD 0) l2 fl).map (rI eI)) (Eq.refl _) (by simp only[go_sem,seval]<;>eq_refl) (by trivial) (by simp only[go_sem,seval]) (by simp only[go_sem,seval]) (by simp only[go_sem,seval]) (by rw[List.length_map,PW,List.length_set];exact hfl.symm) hk (by rw[List.getElem?_set_self (List.getElem?_eq_some_iff.1 hj).1])
      ⟨_,_,_,by simp only[go_sem,seval]<;>eq_refl,by trivial, ?_⟩
     obtain⟨r,hr⟩:=yX (hsome p (List.mem_of_getElem? hp2))
     have F:=fc (Sz (fl:=fl) hr (Nat.le_refl N)) F
     have hm:=Sx (fun k=>(BV N l2 k).getD 0) l2 fl j p hnd hj hp2
     simp only[hr,Option.getD_some] at hm
     have F:=fc hm F
     refine go hS F ?_
     exact GG (fl.set j true,j,c+1+1+1) (by rw[List.length_set];exact hfl) (WX hj) (leF F)
   ·rintro c3-
    refine go hS F ?_
    refine Au g' (fun z:List (Int×Bool)×Nat=>⟨[(4,.box (101,5) 0),(14,.mp (2100,c3+1))],[(.c (2100,c3+1) 0,mpE (z.1.map (rI eB))),(.c (101,5) 0,.mp (100,5)),(.c (100,5) 0,mpE ((l2.map fun p=>(p.1,(BV N l2 p.1).getD 0)).map (rI eI))),(.c (0,1) 0,w)],z.2⟩) (fun z=>z.1) (.x 6) ?_ ?_
    ·refine Aq (fun n (y:Int×List (Int×Bool)×Nat)=>Pi cs (l2.map fun p=>(p.1,(BV N l2 p.1).getD 0)) n y.1 y.2.1) (fun y=>⟨[(4,.box (101,5) 0),(14,.mp (2100,c3+1)),(71,.sl 8 false (cs.map eCt) zCt),(72,.i (cs.length:Int)),(73,.i y.1)],[(.c (2100,c3+1) 0,mpE (y.2.1.map (rI eB))),(.c (101,5) 0,.mp (100,5)),(.c (100,5) 0,mpE ((l2.map fun p=>(p.1,(BV N l2 p.1).getD 0)).map (rI eI))),(.c (0,1) 0,w)],y.2.2⟩) (0,[],c3+1+1) hL4 (leF F) ?_
     rintro n ⟨i,l,c⟩ hB
     simp only[Pi] at hB
     refine gcb hS F hB (fun _ hB=> ?_) (fun _ hB=> ?_)
     ·obtain⟨⟨x1,x2,x3,x4,x5,x6,x7,x8⟩,hn,hB⟩:=un hB
      obtain⟨hb1,F⟩:=rqG eCt hn F
      refine gcb hS F hB (fun _ hB=> ?_) (fun _ hB=> ?_)
      ·obtain⟨hv,hB⟩:=un hB
       exact gbk hS F (n,i+1,Fu l (CN (l2.map fun p=>(p.1,(BV N l2 p.1).getD 0)) x1 0) true,c+1+1+1+1+1) hB
      ·obtain⟨hv,hB⟩:=un hB
       exact gbk hS F (n,i+1,l,c+1+1+1+1) hB
     ·exact gck hS F (l,c+1) hB
    ·rintro⟨g',c4⟩ rfl
     cases h
     refine go hS F ?_
     refine OJ (xs:=[.mp (100,5),.mp (2100,c3+1)]) (by simp only[go_sem,seval]<;>eq_refl) (by trivial) (hK _ (c3+1) ?_)
     simp only[go_sem,seval]
end
end Go.Proofs.YtciphecegkfaiaaGreat.Am
namespace Go.Proofs.YtciphecegkfaiaaGreat.Am
open Go
attribute [local irreducible] awp B5 BR Bx B3 Bw Bn BS B1 itK
set_option maxRecDepth 100000
set_option maxHeartbeats 8000000
set_option linter.unusedSimpArgs false
set_option linter.unusedVariables false
section
variable (C:Nat→List Un→Option (List Ct))
def HI (us:List Un) (gm:List (Int×Int)) (g:List (Int×Bool)):Nat→Int→List Int→Option (List Int)
 |0,_,_=>none
 |n+1,i,o=>bif decide (i<(us.length:Int)) then(
   (nth us i).bind fun(x1,x2,x3,x4,x5,x6)=>
   bif !CN g (CN gm x1 0) false then
    gd ((o.length+1)*8≤140737488355328)<|
    gd (I64 (i+1))<|HI us gm g n (i+1) (o++[x1])
   else gd (I64 (i+1))<|HI us gm g n (i+1) o)
  else some o
def CE (N:Nat) (us:List Un):Option (List Int):=
 (AT N us).bind fun v=>
 bif !v then some []
 else(L1 C N us).bind fun p=>HI us p.1 p.2 N 0 []
@[reducible,go_sem] def e1i (n:Int):List AV:=[.v (.int .i64 n)]
@[go_sem] def jO (N:Nat):Spec:=p0<|pG<|pD Ak fun us=>pE<|pE<|pF (CE C N us) [] fun r=> .sl 1 false (r.map e1i) [.i 0]
variable {C}
attribute [local go_sem] Kn Pj
theorem jP {N:Nat} (hC:FOK Tryz.prog 86 (Kn C N)):FOK Tryz.prog 34 (jO C N):=by
 refine Al x34.ok<|AW<|CQ fun us=>Ah<|Ah<|An fun r h=>wx x34 (N1 hC) fun _ hS F=> ?_
 dsimp only[x34,mkX,Ak]
 unfold CE at h
 obtain⟨v,hv,h⟩:=un h
 replace F:=fc hv F
 refine gcb hS F h (fun _ h=> ?_) (fun _ h=> ?_)
 ·exact Ad hS F h
 ·obtain⟨⟨gm,g⟩,hg,h⟩:=un h
  refine go hS F ?_
  refine Df hS 1 x92.hf x92.hc x92.hn x92.ok rfl (ev F) (ev F) ?_ rfl (ev F) (Nat.le_of_ble_eq_true rfl) fun hb=>Pk hC hg fun s c hs=> ?_
  ·trivial
  unfold Bn
  refine⟨_,_,_,by simp only[go_sem,seval]<;>eq_refl,by trivial, ?_⟩
  refine AZ (RI (s':=⟨[(3,.mp (100,5)),(4,.mp (2100,c)),(1,.box (0,1) 0)],[(.c (100,5) 0,mpE (gm.map (rI eI))),(.c (2100,c) 0,mpE (g.map (rI eB))),(.c (0,1) 0,Af us)],s.cnt+1⟩) (Le.of (by simp only[go_sem,seval]) hs (Nat.le_refl _)) ?_)
  generalize s.cnt+1=k
  refine go hS F ?_
  refine Cb 1000001 5 1 [.i 0] (show 5<37 by omega) (by omega) (ev F) ?_
  refine Au r (fun z:List Int×Nat=>⟨[(5,.own (1000001,k+1+1+1) z.1.length)],[(.a (1000001,k+1+1+1),.sl 1 true (z.1.map e1i) [.i 0])],z.2⟩) (fun z=>z.1) (.x 0) ?_ ?_
  ·refine Aq (fun n (y:Int×List Int×Nat)=>HI us gm g n y.1 y.2.1) (fun y=>⟨[(3,.mp (100,5)),(4,.mp (2100,c)),(5,.own (1000001,k+1+1+1) y.2.1.length),(17,Af us),(18,.i (us.length:Int)),(19,.i y.1)],[(.a (1000001,k+1+1+1),.sl 1 true (y.2.1.map e1i) [.i 0]),(.c (100,5) 0,mpE (gm.map (rI eI))),(.c (2100,c) 0,mpE (g.map (rI eB)))],y.2.2⟩) (0,[],k+1+1+1) h (leF F) ?_
   rintro n ⟨i,o,c2⟩ hB
   simp only[HI] at hB
   refine gcb hS F hB (fun _ hB=> ?_) (fun _ hB=> ?_)
   ·obtain⟨⟨x1,x2,x3,x4,x5,x6⟩,hn,hB⟩:=un hB
    obtain⟨hb1,F⟩:=rqG Ai hn F
    refine gcb hS F hB (fun _ hB=> ?_) (fun _ hB=> ?_)
    ·obtain⟨hv1,hv2,hB⟩:=un hB
     exact gbk hS F (n,i+1,o++[x1],c2+1+1+1+1+1) hB
    ·obtain⟨hv1,hB⟩:=un hB
     exact gbk hS F (n,i+1,o,c2+1+1+1+1) hB
   ·exact gck hS F (o,c2+1) hB
  ·rintro⟨r,c3⟩ rfl
   exact Ad hS F (rfl:some r=some r)
end
end Go.Proofs.YtciphecegkfaiaaGreat.Am
namespace Go.Proofs.YtciphecegkfaiaaGreat.Am
open Go
attribute [local irreducible] awp B5 BR Bx B3 Bw Bn BS B1 itK
set_option maxRecDepth 100000
set_option maxHeartbeats 8000000
set_option linter.unusedSimpArgs false
set_option linter.unusedVariables false
section
variable (C:Nat→List Un→Option (List Ct))
def HY (us:List Un) (gm:List (Int×Int)):Nat→Int→List (List Int)→List (Int×Int)→Option (List (List Int))
 |0,_,_,_=>none
 |n+1,i,o,ix=>bif decide (i<(us.length:Int)) then(
   (nth us i).bind fun(x1,x2,x3,x4,x5,x6)=>
   bif !Gs ix (CN gm x1 0) then
    gd ((o.length+1)*24≤140737488355328)<|
    gd (I64 (i+1))<|HY us gm n (i+1) (o++[[x1]]) (Fu ix (CN gm x1 0) (o.length:Int))
   else(nth o (CN ix (CN gm x1 0) 0)).bind fun l=>
    gd ((l.length+1)*8≤140737488355328)<|
    gd (I64 (i+1))<|HY us gm n (i+1) (o.set (CN ix (CN gm x1 0) 0).toNat (l++[x1])) ix)
  else some o
def Dv (N:Nat) (us:List Un):Option (List (List Int)):=
 (AT N us).bind fun v=>
 bif !v then some []
 else(L1 C N us).bind fun p=>HY us p.1 N 0 [] []
@[reducible] def eJ (l:List Int):List AV:=[.sl 1 false (l.map e1i) [.i 0]]
@[go_sem] def jQ (N:Nat):Spec:=p0<|pG<|pD Ak fun us=>pE<|pE<|pF (Dv C N us) [] fun r=> .sl 1 false (r.map eJ) [.sl 0 true [] []]
variable {C}
attribute [local go_sem] Kn Pj
@[reducible] def eO (g:Nat×List Int):List AV:=[.own (1413,g.1) g.2.length]
def hG (gs:List (Nat×List Int)):Hp:=gs.map fun g=>(.a (1413,g.1),.sl 1 true (g.2.map e1i) [.i 0])
def iJ (gs:List (Nat×List Int)) (c:Nat):Prop:=(gs.map (·.1)).Nodup∧∀g∈gs,g.1≤c
theorem WU {gs:List (Nat×List Int)} {c:Nat} (hi:iJ gs c) {j:Nat} {g:Nat×List Int} (h:gs[j]? =some g):hl (hG gs) (.a (1413,g.1))=some (.sl 1 true (g.2.map e1i) [.i 0]):=by
 have hn:=hi.1
 clear hi
 induction gs generalizing j with
 |nil=>cases h
 |cons a gs ih=>
  simp only[hG,List.map_cons,hl,Loc.a.injEq,Prod.mk.injEq,true_and]
  simp only[List.map_cons,List.nodup_cons] at hn
  cases j with
  |zero=>simp only[List.getElem?_cons_zero,yE] at h;subst h;rw[if_pos rfl]
  |succ j=>
   rw[List.getElem?_cons_succ] at h
   rw[if_neg (fun e:a.1=g.1=>hn.1 (by rw[e];exact List.mem_map_of_mem (List.mem_of_getElem? h)))]
   exact ih h hn.2
theorem Qv {α:Type} {k:Int} {x d:α}:∀l:List (Int×α),CN (Fu l k x) k d=x
 |[]=>by simp[Fu,CN]
 |p::l=>by
  by_cases h:p.1=k
  ·simp[Fu,CN,h]
  ·simp only[Fu,decide_eq_false h,cond_false,CN];exact Qv l
theorem Pm {h:Hp}:∀{gs:List (Nat×List Int)},(∀g∈gs,hl h (.a (1413,g.1))=some (.sl 1 true (g.2.map e1i) [.i 0]))→leH (hG gs) h
 |[],_=>trivial
 |g::gs,k=>⟨k g (by simp),Pm fun g' hg=>k g' (by simp[hg])⟩
open Classical in
noncomputable def N2 (us:List Un) (gm:List (Int×Int)) (n:Nat) (y:Int×List (Nat×List Int)×List (Int×Int)×Nat):Option (List (List Int)):=
 gd (iJ y.2.1 y.2.2.2) (HY us gm n y.1 (y.2.1.map (·.2)) y.2.2.1)
theorem jR {N:Nat} (hC:FOK Tryz.prog 86 (Kn C N)):FOK Tryz.prog 33 (jQ C N):=by
 refine Al x33.ok<|AW<|CQ fun us=>Ah<|Ah<|An fun r h=>wx x33 (N1 hC) fun _ hS F=> ?_
 dsimp only[x33,mkX,Ak]
 unfold Dv at h
 obtain⟨v,hv,h⟩:=un h
 replace F:=fc hv F
 refine gcb hS F h (fun _ h=> ?_) (fun _ h=> ?_)
 ·exact Ad hS F h
 ·obtain⟨⟨gm,g⟩,hg,h⟩:=un h
  refine go hS F ?_
  refine Df hS 1 x92.hf x92.hc x92.hn x92.ok rfl (ev F) (ev F) ?_ rfl (ev F) (Nat.le_of_ble_eq_true rfl) fun hb=>Pk hC hg fun s c hs=> ?_
  ·trivial
  unfold Bn
  refine⟨_,_,_,by simp only[go_sem,seval]<;>eq_refl,by trivial, ?_⟩
  refine AZ (RI (s':=⟨[(3,.mp (100,5)),(1,.box (0,1) 0)],[(.c (100,5) 0,mpE (gm.map (rI eI))),(.c (2100,c) 0,mpE (g.map (rI eB))),(.c (0,1) 0,Af us)],s.cnt+1⟩) (Le.of (by simp only[go_sem,seval]) hs (Nat.le_refl _)) ?_)
  generalize s.cnt+1=k
  refine go hS F ?_
  refine Cb 5000001 5 1 [.sl 0 true [] []] (show 5<64 by omega) (by omega) (ev F) ?_
  refine go hS F ?_
  refine Au (r,True) (fun z:List (Nat×List Int)×Nat=>⟨[(5,.own (5000001,k+1+1+1+1) z.1.length)],(.a (5000001,k+1+1+1+1),.sl 1 true (z.1.map eO) [.sl 0 true [] []])::hG z.1,z.2⟩) (fun z=>(z.1.map (·.2),iJ z.1 z.2)) (.x 0) ?_ ?_
  ·have h0:N2 us gm N (0,[],[],k+1+1+1+1)=some r:=by
    simp only[N2,HR]
    exact⟨⟨.nil,by simp⟩,h⟩
   refine Aq (N2 us gm) (fun y=>⟨[(3,.mp (100,5)),(5,.own (5000001,k+1+1+1+1) y.2.1.length),(6,.mp (500,k+1+1)),(22,Af us),(23,.i (us.length:Int)),(24,.i y.1)],(.a (5000001,k+1+1+1+1),.sl 1 true (y.2.1.map eO) [.sl 0 true [] []])::(.c (500,k+1+1) 0,mpE (y.2.2.1.map (rI eI)))::(.c (100,5) 0,mpE (gm.map (rI eI)))::hG y.2.1,y.2.2.2⟩) (0,[],[],k+1+1+1+1) h0 (Le.of (by simp only[go_sem,seval]) (by simp only[go_sem,seval,hG]) (Nat.le_refl _)) ?_ (fun x=>by simp[N2,HY,gd])
   rintro n ⟨i,gs,ix,c2⟩ hB
   simp only[N2,HR] at hB
   obtain⟨hi,hB⟩:=hB
   simp only[HY] at hB
   have hget:∀g∈gs,hl (hG gs) (.a (1413,g.1))=some (.sl 1 true (g.2.map e1i) [.i 0]):=fun g hg=>by
    obtain⟨j,hj⟩:=List.getElem?_of_mem hg
    exact WU hi hj
   refine gcb hS F hB (fun _ hB=> ?_) (fun _ hB=> ?_)
   ·obtain⟨⟨x1,x2,x3,x4,x5,x6⟩,hn,hB⟩:=un hB
    obtain⟨hb1,F⟩:=rqG Ai hn F
    refine gcb hS F hB (fun _ hB=> ?_) (fun _ hB=> ?_)
    ·obtain⟨hv1,hv2,hB⟩:=un hB
     simp only[List.length_map] at hv1
     have hm:=Qv (k:=CN gm x1 0) (x:=(gs.length:Int)) (d:=0) ix
     have hr:∀d,BJ (gs.map eO++[[AV.sl 0 true [] []]]) d gs.length=[AV.sl 0 true [] []]:=fun d=>by simp[BJ,List.getD_eq_getElem?_getD,List.getElem?_append_right]
     have hs2:∀y,(gs.map eO++[[AV.sl 0 true [] []]]).set gs.length y=gs.map eO++[y]:=fun y=>by
      rw[List.set_append_right _ _ (by simp)];simp
     refine go hS (fc hm (fc hr (fc hs2 F))) ?_
     have hi2:iJ (gs++[(c2+1+1+1+1+1+1+1+1,[x1])]) (c2+1+1+1+1+1+1+1+1+1):=by
      refine⟨?_,fun g hg=> ?_⟩
      ·rw[List.map_append,List.nodup_append]
       refine⟨hi.1,by simp,fun a ha b hb e=> ?_⟩
       obtain⟨g,hg,rfl⟩:=List.mem_map.1 ha
       have:=hi.2 g hg
       simp only[List.map_cons,List.map_nil,List.mem_singleton] at hb
       omega
      ·rcases List.mem_append.1 hg with hg|hg
       ·have:=hi.2 g hg;omega
       ·simp only[List.mem_singleton] at hg;subst hg;exact Nat.le_succ _
     refine GG (n,i+1,gs++[(c2+1+1+1+1+1+1+1+1,[x1])],Fu ix (CN gm x1 0) (gs.length:Int),c2+1+1+1+1+1+1+1+1+1) ?_ (Nat.lt_succ_self _) (Le.of (by simp only[go_sem,seval,List.length_append]) ⟨by simp only[go_sem,seval,eO,List.length_cons,List.length_nil],by simp only[go_sem,seval],by simp only[go_sem,seval],Pm fun g hg=> ?_⟩ (Nat.le_refl _))
     ·simp only[N2,HR]
      refine⟨hi2, ?_⟩
      rw[List.map_append]
      simpa only[List.length_map,List.map_cons,List.map_nil] using hB
     ·rcases List.mem_append.1 hg with hg|hg
      ·have:=hi.2 g hg
       have e1:¬c2+1+1+1+1+1+1+1+1=g.1:=by omega
       simp only[hl,Loc.a.injEq,Prod.mk.injEq,true_and,e1,if_false,reduceCtorEq,Nat.reduceEqDiff,false_and]
       exact hget g hg
      ·simp only[List.mem_singleton] at hg
       subst hg
       simp only[hl,Loc.a.injEq,Prod.mk.injEq,true_and,if_true,reduceCtorEq,Nat.reduceEqDiff,false_and,if_false]
       rfl
    ·obtain⟨l,hl1,hv1,hv2,hB⟩:=un hB
     obtain⟨w,hn2,rfl⟩:∃w,nth gs (CN ix (CN gm x1 0) 0)=some w∧w.2=l:=by
      simp only[nth] at hl1⊢
      split at hl1
      ·rw[List.getElem?_map] at hl1
       rw[if_pos ‹_›]
       cases hw:gs[(CN ix (CN gm x1 0) 0).toNat]? with
       |none=>rw[hw] at hl1;cases hl1
       |some w=>rw[hw] at hl1;exact⟨w,rfl,yJ hl1⟩
      ·cases hl1
     obtain⟨hb2,F⟩:=rqG eO hn2 F
     have hw:=hget w (List.mem_of_getElem? (by
      simp only[nth] at hn2
      rw[if_pos hb2.1] at hn2;exact hn2))
     refine go hS (fc hw F) ?_
     have hj:gs[(CN ix (CN gm x1 0) 0).toNat]? =some w:=by
      simp only[nth] at hn2
      rw[if_pos hb2.1] at hn2;exact hn2
     generalize (CN ix (CN gm x1 0) 0).toNat=j at hj hB⊢
     have hnm:(gs.set j (w.1,w.2++[x1])).map (·.1)=gs.map (·.1):=by
      rw[List.map_set]
      refine List.ext_getElem? fun m=> ?_
      rw[List.getElem?_set]
      split
      ·rename_i e;subst e;rw[List.getElem?_map,hj];simp[(List.getElem?_eq_some_iff.1 hj).1]
      ·rfl
     have hmem:∀g∈gs.set j (w.1,w.2++[x1]),g=(w.1,w.2++[x1])∨(g∈gs∧¬w.1=g.1):=fun g hg=>by
      obtain⟨m,hm⟩:=List.getElem?_of_mem hg
      rw[List.getElem?_set] at hm
      split at hm
      ·rename_i e;subst e
       rw[if_pos (List.getElem?_eq_some_iff.1 hj).1] at hm
       exact .inl (yJ hm).symm
      ·rename_i e
       refine .inr ⟨List.mem_of_getElem? hm,fun k=>e ?_⟩
       refine(List.getElem?_inj (l:=gs.map (·.1)) (by rw[List.length_map];exact(List.getElem?_eq_some_iff.1 hj).1) hi.1).1 ?_
       simp only[List.getElem?_map,hj,hm,Option.map_some,k]
     have hi2:iJ (gs.set j (w.1,w.2++[x1])) (c2+1+1+1+1+1+1+1):=by
      refine⟨by rw[hnm];exact hi.1,fun g hg=> ?_⟩
      rcases hmem g hg with rfl|⟨hg,_⟩
      ·have:=hi.2 w (List.mem_of_getElem? hj);simp only;omega
      ·have:=hi.2 g hg;omega
     refine GG (n,i+1,gs.set j (w.1,w.2++[x1]),ix,c2+1+1+1+1+1+1+1) ?_ (Nat.lt_succ_self _) (Le.of (by simp only[go_sem,seval,List.length_set]) ⟨by simp only[go_sem,seval,List.map_set,eO,List.length_append,List.length_cons,List.length_nil],by simp only[go_sem,seval],by simp only[go_sem,seval],Pm fun g hg=> ?_⟩ (Nat.le_refl _))
     ·simp only[N2,HR]
      refine⟨hi2, ?_⟩
      rw[List.map_set]
      exact hB
     ·rcases hmem g hg with rfl|⟨hg,e1⟩
      ·simp only[hl,Loc.a.injEq,Prod.mk.injEq,true_and,if_true,reduceCtorEq,Nat.reduceEqDiff,false_and,if_false,List.map_append,List.map_cons,List.map_nil]
      ·simp only[hl,Loc.a.injEq,Prod.mk.injEq,true_and,e1,if_false,reduceCtorEq,Nat.reduceEqDiff,false_and]
       exact hget g hg
   ·refine go hS F ?_
    have hi2:iJ gs (c2+1):=⟨hi.1,fun g hg=>Nat.le_succ_of_le (hi.2 g hg)⟩
    refine VV (gs,c2+1) ?_ (Le.of (by simp only[go_sem,seval]) ⟨by simp only[go_sem,seval],Pm fun g hg=> ?_⟩ (Nat.le_refl _))
    ·simp only[Prod.mk.injEq,eq_iff_iff,iff_true]
     exact⟨yJ hB,hi2⟩
    ·simp only[hl,Loc.a.injEq,Prod.mk.injEq,if_false,reduceCtorEq,Nat.reduceEqDiff,false_and]
     exact hget g hg
  ·rintro⟨gs,c3⟩ he
   simp only[Prod.mk.injEq,eq_iff_iff,iff_true] at he
   obtain⟨rfl,hi⟩:=he
   have hget:∀g∈gs,hl (hG gs) (.a (1413,g.1))=some (.sl 1 true (g.2.map e1i) [.i 0]):=fun g hg=>by
    obtain⟨j,hj⟩:=List.getElem?_of_mem hg
    exact WU hi hj
   have hg2:∀g∈gs,hl ((.a (5000001,k+1+1+1+1),.sl 1 true (gs.map eO) [.sl 0 true [] []])::hG gs) (.a (1413,g.1))=some (.sl 1 true (g.2.map e1i) [.i 0]):=fun g hg=>by
    rw[hl,if_neg (by simp)];exact hget g hg
   with_reducible apply A4
   with_reducible apply AZ
   refine XX (rows':=(gs.map (·.2)).map eJ) 4900001 5 (gs.map fun g=>(1413,g.1)) (show 5<64 by omega) (ev F) (ev F) (List.length_map _).symm ?_ ?_ ?_ ?_ ?_
   ·simp
   ·intro rw hr
    obtain⟨g,hg,rfl⟩:=List.mem_map.1 hr
    refine⟨⟨?_,trivial⟩,rfl,fun m hm=> ?_⟩
    ·simp only[rvc]
     rw[hg2 g hg]
     simp
    ·simp only[B8,ons,List.append_nil,List.mem_singleton] at hm
     subst hm
     exact List.mem_map.2 ⟨g,hg,rfl⟩
   ·rw[List.map_map,List.map_map]
    refine List.map_congr_left fun g hg=> ?_
    simp only[Function.comp,Ef,res,Gq]
    rw[hg2 g hg]
    rfl
   ·intro rw hr
    obtain⟨l,_,rfl⟩:=List.mem_map.1 hr
    simp only[AB,Cg,Bool.and_true]
   ·exact Ad hS F (rfl:some (gs.map (·.2))=some (gs.map (·.2)))
end
end Go.Proofs.YtciphecegkfaiaaGreat.Am
