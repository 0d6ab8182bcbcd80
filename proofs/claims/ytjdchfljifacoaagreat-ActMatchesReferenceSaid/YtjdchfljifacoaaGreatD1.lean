import Derived.Test.YtjdchfljifacoaaGreatA20
set_option linter.all false
set_option maxRecDepth 100000
set_option maxHeartbeats 8000000
noncomputable section
namespace Go.Proofs.YtjdchfljifacoaaGreat.Am
section
open Go
attribute [local irreducible] Ax BO BB Bj BC Bk AY BD BK Cq
theorem X8{E J:Type}(f:E->J)(l:List E)(n:Nat):(l.map f).take n=(l.take n).map f:=List.map_take.symm
theorem X9{E J:Type}(f:E->J)(l:List E)(n:Nat):(l.map f).drop n=(l.drop n).map f:=List.map_drop.symm
structure Rw(E:Type) where
 n:Nat
 e:E->List AV
 d:List AV->E
 z:List AV
abbrev Fv:=List (List AV)->Option (Prop×AV)
def VU(p:Prop):Option (Prop×AV)->Option (Prop×AV)|some (q,x)=>some (p/\q,x)|none=>none
theorem O2{p vc:Prop}{o:Option (Prop×AV)}{r:AV}(h:VU p o=some (vc,r)):∃q,o=some (q,r)/\vc=(p/\q):=by
 cases o with
 |none=>cases h
 |some x=>obtain⟨q,x⟩:=x;simp only[VU,yE,KW]at h;exact⟨q,by rw[h.2],h.1.symm⟩
def p0(K:Fv):Spec:=λargs=>K [args]
def pG(K:Fv):Fv|(.agg cs::r)::st=>K (cs::r::st)|_=>none
def pO(K:Fv):Fv|(.ro cs 0::r)::st=>K (cs::r::st)|_=>none
def pL(f:Nat)(K:Fv):Fv|(.clo (.func g) [] ros::r)::st=>if g=f then K (ros::r::st)else none|_=>none
def pE(K:Fv):Fv|[]::st=>K st|_=>none
def pI(K:Int->Fv):Fv|(.v (.int .i64 n)::r)::st=>K n (r::st)|_=>none
def Aiz(k:IntKind)(K:Int->Fv):Fv|(.v (.int k' n)::r)::st=>VU (k'=k) (K n (r::st))|_=>none
def pB(K:Bool->Fv):Fv|(.v (.bool n)::r)::st=>K n (r::st)|_=>none
def pT(K:List UInt8->Fv):Fv|(.v (.string n)::r)::st=>K (bL n) (r::st)|_=>none
def pS{E:Type}(R:Rw E)(K:List E->Fv):Fv
 |(.sl y _ s _::r)::st=>VU ((y=R.n\/s=[])/\s=(s.map R.d).map R.e) (K (s.map R.d) (r::st))
 |_=>none
def pD{E:Type}(R:Rw E)(K:List E->Fv):Fv
 |(.sl y _ s _::r)::st=>VU ((y=R.n\/s=[])/\Hk s ((s.map R.d).map R.e)) (K (s.map R.d) (r::st))
 |_=>none
def pR{E:Type}(R:Rw E)(K:List E->Fv):Fv
 |(.sl y f s d::r)::st=>VU (((y=R.n/\f=false)/\d=R.z)/\s=(s.map R.d).map R.e) (K (s.map R.d) (r::st))
 |_=>none
def pF{J:Type}(o:Option J)(z:J)(g:J->AV):Fv
 |[]=>some (o.isSome=true,g (o.getD z))
 |_=>none
def AiA(v:AV):Fv|[]=>some (True,v)|_=>none
def Ya:List (List AV)->List (List AV)->Prop|[],[]=>True|x::xs,y::ys=>Ib x y/\Ya xs ys|_,_=>False
theorem wkD_self:∀x:AV,HD x x
 |.sl _ _ _ _=>⟨LH _,.inl rfl,λh=>h⟩
 |.agg a=>wkDL_self a
 |.tup a=>wkDL_self a
 |.v _=>rfl
 |.ro _ _=>rfl
 |.clo _ _ _=>rfl
 |.box _ _=>rfl
 |.own _ _=>rfl
 |.elem _ _ _ _ _=>rfl
 |.gd _ _=>rfl
 |.mp _=>rfl
 |.un=>rfl
where wkDL_self:∀xs:List AV,Ib xs xs
 |[]=>trivial
 |x::xs=>⟨wkD_self x,wkDL_self xs⟩
theorem RB:∀xs:List (List AV),Ya xs xs
 |[]=>trivial
 |x::xs=>⟨wkD_self.wkDL_self x,RB xs⟩
abbrev LF:=List (List AV)->List AV
def O3(C:LF):Prop:=∀a b,Ya a b->Ib (C a) (C b)
def FC(P:Program)(f:Nat)(C:LF)(s:Fv):Prop:=∀st vc r,s st=some (vc,r)->vc->PCall P f (C st) r
def c0:LF|a::_=>a|[]=>[]
def cA(C:LF):LF|cs::r::st=>C ((.agg cs::r)::st)|st=>C st
def cO(C:LF):LF|cs::r::st=>C ((.ro cs 0::r)::st)|st=>C st
def cL(f:Nat)(C:LF):LF|cs::r::st=>C ((.clo (.func f) [] cs::r)::st)|st=>C st
def cE(C:LF):LF:=λst=>C ([]::st)
def cP(x:AV)(C:LF):LF|r::st=>C ((x::r)::st)|[]=>C []
theorem m0:O3 c0:=by
 intro a b h;cases a<;>cases b<;>simp only[Ya,c0,Ib]at h⊢
 exact h.1
theorem mG{C:LF}(h:O3 C):O3 (cA C):=by
 intro a b k;rcases a with _|⟨a,_|⟨a',a2⟩⟩<;>rcases b with _|⟨b,_|⟨b',b2⟩⟩<;>simp only[Ya,and_false]at k
 ·exact h _ _ trivial
 ·exact h _ _ ⟨k.1,trivial⟩
 ·exact h _ _ ⟨⟨k.1,k.2.1⟩,k.2.2⟩
theorem mE{C:LF}(h:O3 C):O3 (cE C):=λa b k=>h _ _ ⟨trivial,k⟩
theorem mP{x:AV}{C:LF}(h:O3 C):O3 (cP x C):=by
 intro a b k;cases a<;>cases b<;>simp only[Ya]at k
 ·exact h _ _ trivial
 ·exact h _ _ ⟨⟨wkD_self x,k.1⟩,k.2⟩
section
variable{P:Program}{f:Nat}{C:LF}
theorem Ar{K:Fv}(o:Dh P f)(h:FC P f c0 K):AG P f (p0 K):=⟨o,λargs vc r hs hv=>h [args] vc r hs hv⟩
theorem Aw{K:Fv}(h:FC P f (cA C) K):FC P f C (pG K):=by
 intro st vc r hs hv;unfold pG at hs;split at hs
 ·exact h _ _ _ hs hv
 ·cases hs
theorem Ii{K:Fv}(h:FC P f (cO C) K):FC P f C (pO K):=by
 intro st vc r hs hv;unfold pO at hs;split at hs
 ·exact h _ _ _ hs hv
 ·cases hs
theorem Kn{g:Nat}{K:Fv}(h:FC P f (cL g C) K):FC P f C (pL g K):=by
 intro st vc r hs hv;unfold pL at hs;split at hs
 ·rename_i g' ros rr st';by_cases e:g'=g
  ·rw[dW e]at hs;subst e;exact h _ _ _ hs hv
  ·rw[dQ e]at hs;cases hs
 ·cases hs
theorem Ad{K:Fv}(h:FC P f (cE C) K):FC P f C (pE K):=by
 intro st vc r hs hv;unfold pE at hs;split at hs
 ·exact h _ _ _ hs hv
 ·cases hs
theorem Aa{K:Int->Fv}(h:∀n,FC P f (cP (.i n) C) (K n)):FC P f C (pI K):=by
 intro st vc r hs hv;unfold pI at hs;split at hs
 ·exact h _ _ _ _ hs hv
 ·cases hs
theorem AgB{k:IntKind}{K:Int->Fv}(h:∀n,FC P f (cP (.v (.int k n)) C) (K n)):FC P f C (Aiz k K):=by
 intro st vc r hs hv;unfold Aiz at hs;split at hs
 ·obtain⟨q,h1,rfl⟩:=O2 hs;obtain rfl:=hv.1;exact h _ _ _ _ h1 hv.2
 ·cases hs
theorem AX{K:Bool->Fv}(h:∀n,FC P f (cP (.b n) C) (K n)):FC P f C (pB K):=by
 intro st vc r hs hv;unfold pB at hs;split at hs
 ·exact h _ _ _ _ hs hv
 ·cases hs
theorem L1{K:List UInt8->Fv}(h:∀n,FC P f (cP (.v (.string (sB n))) C) (K n)):FC P f C (pT K):=by
 intro st vc r hs hv;unfold pT at hs;split at hs
 ·rename_i n rr st';have:=h _ _ _ _ hs hv;simp only[cP,NG]at this;exact this
 ·cases hs
theorem AM{E:Type}{R:Rw E}{K:List E->Fv}(h:∀l,FC P f (cP (.sl R.n false (l.map R.e) R.z) C) (K l))(hC:O3 C:=by repeat' (first|exact m0|apply mG|apply mE|apply mP)):FC P f C (pD R K):=by
 intro st vc r hs hv;unfold pD at hs;split at hs
 ·rename_i y fl s d rr st';obtain⟨q,h1,rfl⟩:=O2 hs;obtain⟨⟨e1,e2⟩,hv⟩:=hv;have:=h _ _ _ _ h1 hv;exact PCall.argD (hC _ ((.sl R.n false ((s.map R.d).map R.e) R.z::rr)::st') ⟨⟨⟨e2,e1,λk=>by cases k⟩,wkD_self.wkDL_self _⟩,RB _⟩) this
 ·cases hs
theorem AF{E:Type}{R:Rw E}{K:List E->Fv}(h:∀l,FC P f (cP (.sl R.n false (l.map R.e) R.z) C) (K l))(hC:O3 C:=by repeat' (first|exact m0|apply mG|apply mE|apply mP)):FC P f C (pS R K):=by
 intro st vc r hs hv;unfold pS at hs;split at hs
 ·rename_i y fl s d rr st';obtain⟨q,h1,rfl⟩:=O2 hs;obtain⟨⟨e1,e2⟩,hv⟩:=hv;have:=h _ _ _ _ h1 hv;exact PCall.argD (hC _ ((.sl R.n false ((s.map R.d).map R.e) R.z::rr)::st') ⟨⟨⟨by rw[<-e2];exact LH _,e1,λk=>by cases k⟩,wkD_self.wkDL_self _⟩,RB _⟩) this
 ·cases hs
theorem QI{E:Type}{R:Rw E}{K:List E->Fv}(h:∀l,FC P f (cP (.sl R.n false (l.map R.e) R.z) C) (K l)):FC P f C (pR R K):=by
 intro st vc r hs hv;unfold pR at hs;split at hs
 ·obtain⟨q,h1,rfl⟩:=O2 hs;obtain⟨⟨⟨⟨rfl,rfl⟩,rfl⟩,e2⟩,hv⟩:=hv;have:=h _ _ _ _ h1 hv;simp only[cP]at this;rw[<-e2]at this;exact this
 ·cases hs
theorem As{J:Type}{o:Option J}{z:J}{g:J->AV}(h:∀r,o=some r->PCall P f (C []) (g r)):FC P f C (pF o z g):=by
 intro st vc r hs hv;unfold pF at hs;split at hs
 ·simp only[yE,KW]at hs;obtain⟨rfl,rfl⟩:=hs;obtain⟨r,hr⟩:=yX hv;have:=h r hr;rw[hr];exact this
 ·cases hs
theorem AgC{v:AV}(h:PCall P f (C []) v):FC P f C (AiA v):=by
 intro st vc r hs hv;unfold AiA at hs;split at hs
 ·simp only[yE,KW]at hs;obtain⟨rfl,rfl⟩:=hs;exact h
 ·cases hs
theorem wx{S:Tab}{args:List AV}{r:AV}(x:FnX P f)(hS:TabOK P S)(h:∀hb,TabOK P S->([]:List Nat).length=0->Ax (Ctx.fn P S x.nt hb) x.c (BC x.rv r) ⟨BQ 0 args,[],0⟩)(hn:args.length<=x.nt:=by exact oL rfl):PCall P f args r:=O4 hS x.nt x.hf x.hc x.hn hn λhb=>h hb hS rfl
end
attribute [go_sem] VU p0 pG pO pL pE pI Aiz pB pT pS pD pR pF AiA c0 cA cO cL cE cP
def pC(m:Int)(K:Fv):Fv|(.v (.int .i64 n)::r)::st=>if n=m then K (r::st)else none|_=>none
theorem Dn{P:Program}{f:Nat}{C:LF}{m:Int}{K:Fv}(h:FC P f (cP (.i m) C) K):FC P f C (pC m K):=by
 intro st vc r hs hv;unfold pC at hs;split at hs
 ·split at hs
  ·rename_i e;subst e;exact h _ _ _ hs hv
  ·cases hs
 ·cases hs
section
variable{δ J:Type}
abbrev q0(K:δ->Fv)(D:δ):Spec:=p0 (K D)
abbrev Aoh(K:δ->Fv)(D:δ):Fv:=pG (K D)
abbrev Aol(K:δ->Fv)(D:δ):Fv:=pO (K D)
abbrev Aok(f:Nat)(K:δ->Fv)(D:δ):Fv:=pL f (K D)
abbrev Aof(K:δ->Fv)(D:δ):Fv:=pE (K D)
abbrev Aoe(m:Int)(K:δ->Fv)(D:δ):Fv:=pC m (K D)
abbrev Aoi(K:δ->Fv)(D:Int->δ):Fv:=pI λn=>K (D n)
abbrev Aoj(k:IntKind)(K:δ->Fv)(D:Int->δ):Fv:=Aiz k λn=>K (D n)
abbrev Aod(K:δ->Fv)(D:Bool->δ):Fv:=pB λn=>K (D n)
abbrev Aoo(K:δ->Fv)(D:List UInt8->δ):Fv:=pT λn=>K (D n)
abbrev Aon{E:Type}(R:Rw E)(K:δ->Fv)(D:List E->δ):Fv:=pS R λn=>K (D n)
abbrev qD{E:Type}(R:Rw E)(K:δ->Fv)(D:List E->δ):Fv:=pD R λn=>K (D n)
abbrev Aom{E:Type}(R:Rw E)(K:δ->Fv)(D:List E->δ):Fv:=pR R λn=>K (D n)
abbrev Aog(z:J)(g:J->AV)(o:Option J):Fv:=pF o z g
end
section
variable{P:Program}{f:Nat}{C:LF}{Q:Prop}
theorem fkG{K:Fv}(h:Q->FC P f (cA C) K)(q:Q):FC P f C (pG K):=Aw (h q)
theorem fkO{K:Fv}(h:Q->FC P f (cO C) K)(q:Q):FC P f C (pO K):=Ii (h q)
theorem fkL{g:Nat}{K:Fv}(h:Q->FC P f (cL g C) K)(q:Q):FC P f C (pL g K):=Kn (h q)
theorem fkC{m:Int}{K:Fv}(h:Q->FC P f (cP (.i m) C) K)(q:Q):FC P f C (pC m K):=Dn (h q)
theorem fkE{K:Fv}(h:Q->FC P f (cE C) K)(q:Q):FC P f C (pE K):=Ad (h q)
theorem fkI{K:Int->Fv}{q:Int->Prop}(h:∀n,q n->FC P f (cP (.i n) C) (K n))(k:∀n,q n):FC P f C (pI K):=Aa λn=>h n (k n)
theorem fkK{i:IntKind}{K:Int->Fv}{q:Int->Prop}(h:∀n,q n->FC P f (cP (.v (.int i n)) C) (K n))(k:∀n,q n):FC P f C (Aiz i K):=AgB λn=>h n (k n)
theorem fkB{K:Bool->Fv}{q:Bool->Prop}(h:∀n,q n->FC P f (cP (.b n) C) (K n))(k:∀n,q n):FC P f C (pB K):=AX λn=>h n (k n)
theorem fkT{K:List UInt8->Fv}{q:List UInt8->Prop}(h:∀n,q n->FC P f (cP (.v (.string (sB n))) C) (K n))(k:∀n,q n):FC P f C (pT K):=L1 λn=>h n (k n)
theorem fkS{E:Type}{R:Rw E}{K:List E->Fv}{q:List E->Prop}(hC:O3 C)(h:∀l,q l->FC P f (cP (.sl R.n false (l.map R.e) R.z) C) (K l))(k:∀n,q n):FC P f C (pS R K):=AF (λn=>h n (k n)) hC
theorem fkD{E:Type}{R:Rw E}{K:List E->Fv}{q:List E->Prop}(hC:O3 C)(h:∀l,q l->FC P f (cP (.sl R.n false (l.map R.e) R.z) C) (K l))(k:∀n,q n):FC P f C (pD R K):=AM (λn=>h n (k n)) hC
theorem fkR{E:Type}{R:Rw E}{K:List E->Fv}{q:List E->Prop}(h:∀l,q l->FC P f (cP (.sl R.n false (l.map R.e) R.z) C) (K l))(k:∀n,q n):FC P f C (pR R K):=QI λn=>h n (k n)
theorem fkF{J:Type}{o:Option J}{z:J}{g:J->AV}{n:Nat}{ρ:List AV->AV->Prop}(w:∀args r,args.length<=n->ρ args r->PCall P f args r)(hn:(C []).length<=n)(h:∀r,o=some r->ρ (C []) (g r)):FC P f C (pF o z g):=As λr e=>w _ _ hn (h r e)
theorem fkV{v:AV}{n:Nat}{ρ:List AV->AV->Prop}(w:∀args r,args.length<=n->ρ args r->PCall P f args r)(hn:(C []).length<=n)(h:ρ (C []) v):FC P f C (AiA v):=AgC (w _ _ hn h)
def Aoc(x:FnX P f)(S:Tab)(args:List AV)(r:AV):Prop:=∀hb,TabOK P S->([]:List Nat).length=0->Ax (Ctx.fn P S x.nt hb) x.c (BC x.rv r) ⟨BQ 0 args,[],0⟩
theorem Aoq{S:Tab}(x:FnX P f)(hS:TabOK P S):Dh P f/\∀args r,args.length<=x.nt->Aoc x S args r->PCall P f args r:=⟨x.ok,λ_ _ hn h=>wx x hS h hn⟩
theorem fk{n:Nat}{K:Fv}{ρ:List AV->AV->Prop}(x:Dh P f/\∀args r,args.length<=n->ρ args r->PCall P f args r)(k:Q)(t:(∀args r,args.length<=n->ρ args r->PCall P f args r)->Q->FC P f c0 K:=by
 intro w
 repeat' (first
  |with_reducible (first|apply fkG|apply fkE|apply fkC|apply fkO|apply fkL)
  |((with_reducible (first|apply fkI|apply fkB|apply fkR|apply fkK|apply fkT));intro _)
  |((with_reducible (first|apply fkS|apply fkD));(·(repeat' (first|exact m0|apply mG|apply mE|apply mP)));intro _)
  |exact fkF w (oL rfl)
  |exact fkV w (oL rfl))):AG P f (p0 K):=
 Ar x.1 (t x.2 k)
end
attribute [go_sem] pC Aoe q0 Aoh Aol Aok Aof Aoi Aoj Aod Aoo Aon qD Aom Aog
theorem Cb{E:Type}(e:E->List AV){R:List E}{i:Int}{x:E}{F:Prop}(h:A7 R i=some x)(f:F):(0<=i/\i<R.length)/\(∀d,A6 (R.map e) d i.toNat=e x)/\(∀d,R.getD i.toNat d=x)/\F:=by
 refine⟨(Ng h).1,λd=>?_,(Ng h).2,f⟩;unfold A7 at h;split at h
 ·unfold A6;rw[dM,rA,h];rfl
 ·cases h
theorem bI{E:Type}(e:E->List AV){R:List E}{i:Int}(h:¬i<R.length)(d:List AV):A6 (R.map e) d i.toNat=d:=by unfold A6;rw[dM,List.getElem?_eq_none (by rw[qI];omega)];rfl
theorem KQ{E:Type}(k:Nat)(e:E->List AV){R:List E}{i:Int}{x:E}{F:Prop}(h:A7 R i=some x)(f:F)(hk:i=(k:Int):=by exact rfl):(0<=i/\i<R.length)/\(∀d,A6 (R.map e) d k=e x)/\(∀d,R.getD k d=x)/\F:=by subst hk;exact Cb e h f
structure TX{X:Type}(x:X):Prop where
@[reducible] def nJ{X:Type}{x:X}(_:TX x):X:=x
attribute [go_sem] nJ
theorem ev{F G:Prop}(f:F)(t:F->G:=by intro f;simp only[go_sem,seval,f]<;>eq_refl):G:=t f
theorem un{P Q:Prop}(h:P)(t:P->Q:=by
 intro h
 (try simp only[Yn,yB]at h)
 exact h):Q:=t h
theorem An{S F G P Q:Prop}{E:Type}{B:Bool}{X Y τ:E}(hS:S)(f:F)(h:(bif B then X else Y)=τ)(ht:B=true->X=τ->P)(hf:B=false->Y=τ->Q)(t:S->F->Hid (B=true->P)->Hid (B=false->Q)->G:=by
 intro hS f k1 k2
 repeat' (first
  |(with_reducible (first|apply DD|apply EA|apply Eu|apply FL|apply DE|apply DF|apply GD|apply GE);(·(first|exact Ctx.fn_ok hS|exact Ctx.rd_ok hS|assumption|exact yT|exact Ctx.rdG_ok hS));iterate 2 (·(simp only[go_sem,seval,f]<;>eq_refl)))
  |with_reducible (first|apply Dz|apply En|apply Di|apply Dj|apply CX|apply Cw|apply CK|apply DW|apply Ec|apply Eo|apply Ep|apply Er|apply Es)
  |(with_reducible apply Et;(·first|rfl|decide))
  |(with_reducible apply A4;(·simp))
  |with_reducible (first|apply HV|apply HW|apply HX|apply DB|apply DC|apply Ex|apply Ey|apply Ez|apply yT|apply And.intro yT yT)
  |(fail_if_success with_reducible apply G1);(fail_if_success with_reducible apply Ew);(try clear k1 k2);first|with_reducible apply And.intro|omega|(simp only[go_sem,seval,f];done)|with_reducible assumption|(refine And.intro ?_ ?_)|(intro hg;simp_all;done)|decide|grind)
 exact cb f _ k1.k k2.k):G:=t hS f ⟨λe=>ht e (Wd e h)⟩ ⟨λe=>hf e (We e h)⟩
theorem Om{S F G P:Prop}(hS:S)(f:F)(h:P)(t:S->F->Hid P->G:=by
 intro hS f k
 repeat' (first
  |(with_reducible (first|apply DD|apply EA|apply Eu|apply FL|apply DE|apply DF|apply GD|apply GE);(·(first|exact Ctx.fn_ok hS|exact Ctx.rd_ok hS|assumption|exact yT|exact Ctx.rdG_ok hS));iterate 2 (·(simp only[go_sem,seval,f]<;>eq_refl)))
  |with_reducible (first|apply Dz|apply En|apply Di|apply Dj|apply CX|apply Cw|apply CK|apply DW|apply Ec|apply Eo|apply Ep|apply Er|apply Es)
  |(with_reducible apply Et;(·first|rfl|decide))
  |(with_reducible apply A4;(·simp))
  |with_reducible (first|apply HV|apply HW|apply HX|apply DB|apply DC|apply Ex|apply Ey|apply Ez|apply yT|apply And.intro yT yT)
  |(fail_if_success with_reducible apply G1);(fail_if_success with_reducible apply Ew);(try clear k);first|with_reducible apply And.intro|omega|(simp only[go_sem,seval,f];done)|with_reducible assumption|(refine And.intro ?_ ?_)|(intro hg;simp_all;done)|decide|grind)
 exact ct f k.k):G:=t hS f ⟨h⟩
theorem KR{S F G P:Prop}(hS:S)(f:F)(h:P)(t:S->F->Hid P->G:=by
 intro hS f k
 repeat' (first
  |(with_reducible (first|apply DD|apply EA|apply Eu|apply FL|apply DE|apply DF|apply GD|apply GE);(·(first|exact Ctx.fn_ok hS|exact Ctx.rd_ok hS|assumption|exact yT|exact Ctx.rdG_ok hS));iterate 2 (·(simp only[go_sem,seval,f]<;>eq_refl)))
  |with_reducible (first|apply Dz|apply En|apply Di|apply Dj|apply CX|apply Cw|apply CK|apply DW|apply Ec|apply Eo|apply Ep|apply Er|apply Es)
  |(with_reducible apply Et;(·first|rfl|decide))
  |(with_reducible apply A4;(·simp))
  |with_reducible (first|apply HV|apply HW|apply HX|apply DB|apply DC|apply Ex|apply Ey|apply Ez|apply yT|apply And.intro yT yT)
  |(fail_if_success with_reducible apply G1);(fail_if_success with_reducible apply Ew);(try clear k);first|with_reducible apply And.intro|omega|(simp only[go_sem,seval,f];done)|with_reducible assumption|(refine And.intro ?_ ?_)|(intro hg;simp_all;done)|decide|grind)
 exact cf f k.k):G:=t hS f ⟨h⟩
theorem Ai{S F G:Prop}{E:Type}{a r:E}(hS:S)(f:F)(h:some a=some r)(t:S->(r=a/\F)->G:=by
 intro hS f
 repeat' (first
  |(with_reducible (first|apply DD|apply EA|apply Eu|apply FL|apply DE|apply DF|apply GD|apply GE);(·(first|exact Ctx.fn_ok hS|exact Ctx.rd_ok hS|assumption|exact yT|exact Ctx.rdG_ok hS));iterate 2 (·(simp only[go_sem,seval,f]<;>eq_refl)))
  |with_reducible (first|apply Dz|apply En|apply Di|apply Dj|apply CX|apply Cw|apply CK|apply DW|apply Ec|apply Eo|apply Ep|apply Er|apply Es)
  |(with_reducible apply Et;(·first|rfl|decide))
  |(with_reducible apply A4;(·simp))
  |with_reducible (first|apply HV|apply HW|apply HX|apply DB|apply DC|apply Ex|apply Ey|apply Ez|apply yT|apply And.intro yT yT)
  |(fail_if_success with_reducible apply G1);(fail_if_success with_reducible apply Ew);first|with_reducible apply And.intro|omega|(simp only[go_sem,seval,f];done)|with_reducible assumption|(refine And.intro ?_ ?_)|(intro hg;simp_all;done)|decide|grind)
 exact fin f):G:=t hS ⟨(yJ h).symm,f⟩
theorem Adv{F G:Prop}(f:F)(h:F->G:=by
 intro f
 first|refine qQ (by simp only[go_sem,seval,f]<;>eq_refl) (by simp only[go_sem,seval,f]) (by simp only[go_sem,seval,f]) ?_ rfl|refine qR (by simp only[go_sem,seval,f]<;>eq_refl) (by simp only[go_sem,seval,f]) (by simp only[go_sem,seval,f]) ?_ rfl
 first|(simp only[go_sem,seval,f];done)|(simp[f,HD,Ib,Hk,HS,wk];done)):G:=h f
theorem E2{S F G:Prop}{E:Type}{a r:E}(hS:S)(f:F)(h:some a=some r)(t:S->(r=a/\F)->G:=by
 intro hS f
 repeat' (first
  |(with_reducible (first|apply DD|apply EA|apply Eu|apply FL|apply DE|apply DF|apply GD|apply GE);(·(first|exact Ctx.fn_ok hS|exact Ctx.rd_ok hS|assumption|exact yT|exact Ctx.rdG_ok hS));iterate 2 (·(simp only[go_sem,seval,f]<;>eq_refl)))
  |with_reducible (first|apply Dz|apply En|apply Di|apply Dj|apply CX|apply Cw|apply CK|apply DW|apply Ec|apply Eo|apply Ep|apply Er|apply Es)
  |(with_reducible apply Et;(·first|rfl|decide))
  |(with_reducible apply A4;(·simp))
  |with_reducible (first|apply HV|apply HW|apply HX|apply DB|apply DC|apply Ex|apply Ey|apply Ez|apply yT|apply And.intro yT yT)
  |(fail_if_success with_reducible apply G1);(fail_if_success with_reducible apply Ew);first|with_reducible apply And.intro|omega|(simp only[go_sem,seval,f];done)|with_reducible assumption|(refine And.intro ?_ ?_)|(intro hg;simp_all;done)|decide|grind)
 exact Adv f):G:=t hS ⟨(yJ h).symm,f⟩
theorem Cd{S F G p:Prop}{X:Type}(hS:S)(f:F)(x:X)(h:p)(t:S->F->TX x->Hid p->G:=by
 intro hS f kx kp
 repeat' (first
  |(with_reducible (first|apply DD|apply EA|apply Eu|apply FL|apply DE|apply DF|apply GD|apply GE);(·(first|exact Ctx.fn_ok hS|exact Ctx.rd_ok hS|assumption|exact yT|exact Ctx.rdG_ok hS));iterate 2 (·(simp only[go_sem,seval,f]<;>eq_refl)))
  |with_reducible (first|apply Dz|apply En|apply Di|apply Dj|apply CX|apply Cw|apply CK|apply DW|apply Ec|apply Eo|apply Ep|apply Er|apply Es)
  |(with_reducible apply Et;(·first|rfl|decide))
  |(with_reducible apply A4;(·simp))
  |with_reducible (first|apply HV|apply HW|apply HX|apply DB|apply DC|apply Ex|apply Ey|apply Ez|apply yT|apply And.intro yT yT)
  |(fail_if_success with_reducible apply G1);(fail_if_success with_reducible apply Ew);(try clear kx kp);first|with_reducible apply And.intro|omega|(simp only[go_sem,seval,f];done)|with_reducible assumption|(refine And.intro ?_ ?_)|(intro hg;simp_all;done)|decide|grind)
 exact JL (nJ kx) kp.k (Ki _) (Ch f)):G:=t hS f ⟨⟩ ⟨h⟩
theorem B4{S F G:Prop}{X E:Type}{a b:E}(hS:S)(f:F)(x:X)(h:some a=some b)(t:S->F->TX x->Hid (a=b)->G:=by
 intro hS f kx kp
 repeat' (first
  |(with_reducible (first|apply DD|apply EA|apply Eu|apply FL|apply DE|apply DF|apply GD|apply GE);(·(first|exact Ctx.fn_ok hS|exact Ctx.rd_ok hS|assumption|exact yT|exact Ctx.rdG_ok hS));iterate 2 (·(simp only[go_sem,seval,f]<;>eq_refl)))
  |with_reducible (first|apply Dz|apply En|apply Di|apply Dj|apply CX|apply Cw|apply CK|apply DW|apply Ec|apply Eo|apply Ep|apply Er|apply Es)
  |(with_reducible apply Et;(·first|rfl|decide))
  |(with_reducible apply A4;(·simp))
  |with_reducible (first|apply HV|apply HW|apply HX|apply DB|apply DC|apply Ex|apply Ey|apply Ez|apply yT|apply And.intro yT yT)
  |(fail_if_success with_reducible apply G1);(fail_if_success with_reducible apply Ew);(try clear kx kp);first|with_reducible apply And.intro|omega|(simp only[go_sem,seval,f];done)|with_reducible assumption|(refine And.intro ?_ ?_)|(intro hg;simp_all;done)|decide|grind)
 exact xC (nJ kx) kp.k (Ch f)):G:=t hS f ⟨⟩ ⟨yJ h⟩
theorem grg{S F G p:Prop}{X:Type}(hS:S)(f:F)(x:X)(h:p)(t:S->F->TX x->Hid p->G:=by
 intro hS f kx kp
 repeat' (first
  |(with_reducible (first|apply DD|apply EA|apply Eu|apply FL|apply DE|apply DF|apply GD|apply GE);(·(first|exact Ctx.fn_ok hS|exact Ctx.rd_ok hS|assumption|exact yT|exact Ctx.rdG_ok hS));iterate 2 (·(simp only[go_sem,seval,f]<;>eq_refl)))
  |with_reducible (first|apply Dz|apply En|apply Di|apply Dj|apply CX|apply Cw|apply CK|apply DW|apply Ec|apply Eo|apply Ep|apply Er|apply Es)
  |(with_reducible apply Et;(·first|rfl|decide))
  |(with_reducible apply A4;(·simp))
  |with_reducible (first|apply HV|apply HW|apply HX|apply DB|apply DC|apply Ex|apply Ey|apply Ez|apply yT|apply And.intro yT yT)
  |(fail_if_success with_reducible apply G1);(fail_if_success with_reducible apply Ew);(try clear kx kp);first|with_reducible apply And.intro|omega|(simp only[go_sem,seval,f];done)|with_reducible assumption|(refine And.intro ?_ ?_)|(intro hg;simp_all;done)|decide|grind)
 exact V9 (nJ kx) ⟨kp.k,by show _+1<=_;omega⟩ rfl (Ch f)):G:=t hS f ⟨⟩ ⟨h⟩
section
variable{V:Ctx}{c:AC}{K:AE->St->Prop}{s:St}
theorem Bz{ω X:Type}(o:ω)(I:X->St)(j:X->ω)(e0:AE)(h1:Ax V c (Zs e0 I (λz=>j z=o) K) s)(h2:∀x,j x=o->K e0 (I x)):Ax V c K s:=rX I _ e0 h1 h2
theorem Bp{ω X:Type}{N:Nat}{o:ω}(D:Nat->X->Option ω)(I:X->St)(x0:X)(hL:D N x0=some o)(hs:Le (I x0) s)(step:∀n x,D (n+1) x=some o->Ax V c (Bj (λy:Nat×X=>I y.2) (λy=>D y.1 y.2=some o) (λy=>y.1) (n+1) K) (I x))(hz:∀x,D 0 x=none:=by exact λ_=>rfl):Ax V (.loop c) K s:=by
 refine IB (λy:Nat×X=>I y.2) (λy=>D y.1 y.2=some o) (λy=>y.1) (N,x0) hL hs ?_;rintro⟨n,x⟩ hx;cases n with
 |zero=>exact absurd hx (by simp only[hz];simp)
 |succ n=>exact step n x hx
end
attribute [go_sem] Sx Sy List.set_cons_succ List.isEmpty_map List.map_append List.map_eq_nil_iff ne_eq List.length_replicate X8 X9 List.length_set Option.isSome_some Option.getD_some
end
section
open Go C
def AD(t:Nat):TyI:=match t with|3|49=>⟨(.i .i64),false,1,8,[z],[]⟩|4=>⟨.b,false,1,1,[(.v (.bool false))],[]⟩|5=>⟨(.i .u8),false,1,1,[(.v (.int .u8 0))],[]⟩|9=>⟨.s,false,1,16,[(.v (.string (sB [])))],[]⟩|20=>⟨.fc,false,1,16,[(.v .nilIface)],[]⟩|22=>⟨(.sl 80),false,1,24,[(.sl 0 true [] [])],[]⟩|23=>⟨(.sl 98),false,1,24,[(.sl 0 true [] [])],[]⟩|25=>⟨(.st [(0,22),(1,23),(2,22)]),true,3,72,[(.sl 0 true [] []),(.sl 0 true [] []),(.sl 0 true [] [])],[]⟩|26=>⟨(.sl 34),false,1,24,[(.sl 0 true [] [])],[]⟩|28=>⟨(.st [(0,26)]),true,1,24,[(.sl 0 true [] [])],[]⟩|29=>⟨(.sl 36),false,1,24,[(.sl 0 true [] [])],[]⟩|31=>⟨(.st [(0,28),(1,29)]),true,2,48,[(.sl 0 true [] []),(.sl 0 true [] [])],[]⟩|32=>⟨(.sl 96),false,1,24,[(.sl 0 true [] [])],[]⟩|34=>⟨(.st [(0,3),(1,3),(2,3),(3,32),(4,3),(5,3)]),true,6,64,[z,z,z,(.sl 0 true [] []),z,z],[]⟩|36=>⟨(.st [(0,3),(1,3),(2,3),(3,3),(4,4)]),true,5,40,[z,z,z,z,(.v (.bool false))],[true,true,true,true,false]⟩|38=>⟨(.st [(0,3),(1,34),(7,3),(8,3),(9,3),(10,36)]),true,15,136,[z,z,z,z,(.sl 0 true [] []),z,z,z,z,z,z,z,z,z,(.v (.bool false))],[]⟩|42=>⟨(.sl 38),false,1,24,[(.sl 0 true [] [])],[]⟩|48=>⟨(.sl 31),false,1,24,[(.sl 0 true [] [])],[]⟩|59=>⟨(.sl 3),false,1,24,[(.sl 0 true [] [])],[]⟩|61|64|104|108|109|110|123|139|176|187=>⟨.fu,false,1,8,[(.v .nilFunc)],[]⟩|67=>⟨(.sl 5),false,1,24,[(.sl 0 true [] [])],[]⟩|68=>⟨(.sl 9),false,1,24,[(.sl 0 true [] [])],[]⟩|80=>⟨(.ar 6 3),true,6,48,[z,z,z,z,z,z],[true,true,true,true,true,true]⟩|96=>⟨(.st [(0,3),(1,3)]),true,2,16,[z,z],[true,true]⟩|98=>⟨(.ar 4 3),true,4,32,[z,z,z,z],[true,true,true,true]⟩|112=>⟨(.st [(0,64),(1,61),(2,108),(3,109),(4,110)]),true,5,40,[(.v .nilFunc),(.v .nilFunc),(.v .nilFunc),(.v .nilFunc),(.v .nilFunc)],[]⟩|115|157|170|173=>⟨.pt,false,1,8,[(.v (.pointer none))],[]⟩|117=>⟨(.st [(0,31)]),true,2,48,[(.sl 0 true [] []),(.sl 0 true [] [])],[]⟩|126|169=>⟨(.st []),true,0,0,[],[]⟩|155=>⟨(.mp 3 112),false,1,8,[(.v (.map none))],[]⟩|159=>⟨(.st [(0,157),(1,67)]),true,2,32,[(.v (.pointer none)),(.sl 0 true [] [])],[]⟩|167|168=>⟨(.i .u64),false,1,8,[(.v (.int .u64 0))],[]⟩|172=>⟨(.st [(0,9),(1,3)]),true,2,24,[(.v (.string (sB []))),z],[]⟩|174=>⟨(.ar 5 173),true,5,40,[(.v (.pointer none)),(.v (.pointer none)),(.v (.pointer none)),(.v (.pointer none)),(.v (.pointer none))],[]⟩|199=>⟨(.sl 203),false,1,24,[(.sl 0 true [] [])],[]⟩|201=>⟨(.sl 205),false,1,24,[(.sl 0 true [] [])],[]⟩|203|205=>⟨(.st [(0,3),(1,3),(2,3)]),true,3,24,[z,z,z],[true,true,true]⟩|207=>⟨(.st [(0,159)]),true,2,32,[(.v (.pointer none)),(.sl 0 true [] [])],[]⟩|222=>⟨(.sl 32),false,1,24,[(.sl 0 true [] [])],[]⟩|_=>⟨.x,false,0,0,[],[]⟩
def x3:=Ah (f:=3) AD Tryz.func3 [[(0,3),(2,3),(0,4),(2,4)],[(0,5),(5,6),(0,7)],[(1,2)],[(0,9),(3,9),(4,9),(5,9)],[(0,9),(3,9),(4,9),(5,9)],[],[],[(4,7),(4,8)],[]]
def x4:=Ah (f:=4) AD Tryz.func4 [[(0,9),(3,9),(4,9),(5,9)],[]]
def x5:=Ah (f:=5) AD Tryz.func5 [[(0,9),(3,9),(4,9),(5,9)],[]]
def x6:=Ah (f:=6) AD Tryz.func6 [[(0,9),(3,9),(4,9),(5,9)]]
def x7:=Ah (f:=7) AD Tryz.func7 [[(0,3),(0,9),(3,9),(4,9)],[(0,3),(0,9),(3,9),(4,9)]]
def x8:=Ah (f:=8) AD Tryz.func8 [[],[]]
def x9:=Ah (f:=9) AD Tryz.func9 []
def x10:=Ah (f:=10) AD Tryz.func10 [[(23,24)]]
def x11:=Ah (f:=11) AD Tryz.func11 []
def x12:=Ah (f:=12) AD Tryz.func12 [[(2,9),(2,12),(4,12),(7,12),(8,12),(9,12),(10,12),(11,12)],[(2,4),(2,6),(2,8),(2,9),(4,11),(2,14),(11,14),(4,15),(2,18),(11,18),(15,18),(4,19),(1,22),(2,22),(4,22),(6,22),(8,22),(9,22),(11,22),(14,22),(15,22),(18,22),(19,22)]]
def x13:=Ah (f:=13) AD Tryz.func13 [[(0,7),(2,7),(4,7),(5,7),(6,7)]]
def x14:=Ah (f:=14) AD Tryz.func14 []
def x15:=Ah (f:=15) AD Tryz.func15 [[(1,7)]]
def x16:=Ah (f:=16) AD Tryz.func16 [[(1,8),(1,9)],[(0,7)]]
def x17:=Ah (f:=17) AD Tryz.func17 []
def x18:=Ah (f:=18) AD Tryz.func18 [[(0,9),(3,9),(4,9),(5,9)]]
def x19:=Ah (f:=19) AD Tryz.func19 []
def x20:=Ah (f:=20) AD Tryz.func20 [[]]
def x21:=Ah (f:=21) AD Tryz.func21 []
def x22:=Ah (f:=22) AD Tryz.func22 []
def x23:=Ah (f:=23) AD Tryz.func23 []
def x24:=Ah (f:=24) AD Tryz.func24 [[(1,3),(1,5),(3,6),(5,6)]]
def x25:=Ah (f:=25) AD Tryz.func25 [[(4,7),(4,8)]]
def x26:=Ah (f:=26) AD Tryz.func26 [[]]
def x27:=Ah (f:=27) AD Tryz.func27 []
def x28:=Ah (f:=28) AD Tryz.func28 [[(3,6),(2,7),(3,7)],[]]
def x29:=Ah (f:=29) AD Tryz.func29 [[(2,5),(3,5),(2,6),(3,6)]]
def x30:=Ah (f:=30) AD Tryz.func30 []
def x31:=Ah (f:=31) AD Tryz.func31 []
def x32:=Ah (f:=32) AD Tryz.func32 []
def x33:=Ah (f:=33) AD Tryz.func33 [[]]
def x34:=Ah (f:=34) AD Tryz.func34 []
def x35:=Ah (f:=35) AD Tryz.func35 []
def x36:=Ah (f:=36) AD Tryz.func36 [[]]
def x37:=Ah (f:=37) AD Tryz.func37 []
def x38:=Ah (f:=38) AD Tryz.func38 []
def x39:=Ah (f:=39) AD Tryz.func39 []
def x40:=Ah (f:=40) AD Tryz.func40 [[]]
def x41:=Ah (f:=41) AD Tryz.func41 []
def x42:=Ah (f:=42) AD Tryz.func42 [[(0,7),(2,7),(4,7),(5,7),(6,7)]]
def x43:=Ah (f:=43) AD Tryz.func43 [[(3,5),(3,8),(6,8),(0,11),(2,11),(3,11),(5,11),(6,11),(8,11),(9,11)],[(1,5)],[(3,5),(3,10),(6,10),(0,15),(2,15),(3,15),(5,15),(6,15),(10,15),(11,15)],[(2,3),(2,5),(2,8),(6,8),(2,12),(6,12),(9,12),(2,16),(6,16),(9,16),(13,16)],[(2,5),(1,8),(2,8),(5,8),(6,8)],[(1,7)]]
def x44:=Ah (f:=44) AD Tryz.func44 []
def x45:=Ah (f:=45) AD Tryz.func45 []
def x46:=Ah (f:=46) AD Tryz.func46 [[]]
def x47:=Ah (f:=47) AD Tryz.func47 [[]]
def x48:=Ah (f:=48) AD Tryz.func48 []
def x49:=Ah (f:=49) AD Tryz.func49 []
def x50:=Ah (f:=50) AD Tryz.func50 [[(0,8),(8,12),(8,13),(0,14),(0,19),(5,19),(7,19),(8,19),(12,19),(13,19),(14,19),(15,19)]]
def x51:=Ah (f:=51) AD Tryz.func51 []
def x52:=Ah (f:=52) AD Tryz.func52 [[],[]]
def x53:=Ah (f:=53) AD Tryz.func53 []
def x54:=Ah (f:=54) AD Tryz.func54 [[(1,3),(2,3),(2,5),(3,5)]]
def x55:=Ah (f:=55) AD Tryz.func55 [[(1,13)],[(1,7),(1,8)],[(1,10),(4,10),(6,10),(8,10),(1,14),(4,14),(6,14),(8,14),(1,16)],[(3,15)]]
def x56:=Ah (f:=56) AD Tryz.func56 []
def x57:=Ah (f:=57) AD Tryz.func57 []
def x58:=Ah (f:=58) AD Tryz.func58 [[]]
def x59:=Ah (f:=59) AD Tryz.func59 []
def x60:=Ah (f:=60) AD Tryz.func60 [[],[]]
def x61:=Ah (f:=61) AD Tryz.func61 []
def x62:=Ah (f:=62) AD Tryz.func62 []
def x63:=Ah (f:=63) AD Tryz.func63 []
def x64:=Ah (f:=64) AD Tryz.func64 [[(0,2),(0,7),(2,7),(3,7)],[(0,4),(7,11)],[(0,2)],[(0,6),(14,19)]]
def x65:=Ah (f:=65) AD Tryz.func65 []
def x66:=Ah (f:=66) AD Tryz.func66 []
def x67:=Ah (f:=67) AD Tryz.func67 []
def x68:=Ah (f:=68) AD Tryz.func68 []
def x69:=Ah (f:=69) AD Tryz.func69 [[]]
def x70:=Ah (f:=70) AD Tryz.func70 []
def x71:=Ah (f:=71) AD Tryz.func71 []
def x72:=Ah (f:=72) AD Tryz.func72 []
def x73:=Ah (f:=73) AD Tryz.func73 []
def x74:=Ah (f:=74) AD Tryz.func74 []
def x75:=Ah (f:=75) AD Tryz.func75 []
def x76:=Ah (f:=76) AD Tryz.func76 []
def x77:=Ah (f:=77) AD Tryz.func77 []
def x78:=Ah (f:=78) AD Tryz.func78 []
def x79:=Ah (f:=79) AD Tryz.func79 [[(1,4),(1,6)]]
def x80:=Ah (f:=80) AD Tryz.func80 []
def x81:=Ah (f:=81) AD Tryz.func81 []
def x82:=Ah (f:=82) AD Tryz.func82 []
def x83:=Ah (f:=83) AD Tryz.func83 [[(1,16),(2,16),(4,16),(5,16),(7,16),(8,16),(10,16),(11,16),(13,16),(14,16)],[(1,12)]]
def x84:=Ah (f:=84) AD Tryz.func84 []
def x85:=Ah (f:=85) AD Tryz.func85 []
def x86:=Ah (f:=86) AD Tryz.func86 []
def x87:=Ah (f:=87) AD Tryz.func87 []
def x88:=Ah (f:=88) AD Tryz.func88 [[],[],[(1,3),(1,8),(5,8)]]
def x89:=Ah (f:=89) AD Tryz.func89 [[(2,9)]]
def x90:=Ah (f:=90) AD Tryz.func90 []
def x91:=Ah (f:=91) AD Tryz.func91 []
def x92:=Ah (f:=92) AD Tryz.func92 [[],[(1,3),(1,4)],[(1,7),(1,8)],[(1,3),(1,4)]]
def x93:=Ah (f:=93) AD Tryz.func93 []
def x94:=Ah (f:=94) AD Tryz.func94 []
def x95:=Ah (f:=95) AD Tryz.func95 [[(3,7)],[(3,6),(3,9),(3,12),(6,12),(9,12),(3,13)]]
def x96:=Ah (f:=96) AD Tryz.func96 [[(1,7),(1,8)]]
def x97:=Ah (f:=97) AD Tryz.func97 []
def x98:=Ah (f:=98) AD Tryz.func98 [[]]
def x99:=Ah (f:=99) AD Tryz.func99 []
def x100:=Ah (f:=100) AD Tryz.func100 []
def x101:=Ah (f:=101) AD Tryz.func101 []
def Alx:=Ah (f:=102) AD Tryz.func102 []
def Aly:=Ah (f:=103) AD Tryz.func103 []
def Alz:=Ah (f:=104) AD Tryz.func104 []
def AlA:=Ah (f:=105) AD Tryz.func105 [[(1,7),(1,8)]]
def AlB:=Ah (f:=106) AD Tryz.func106 []
def AlC:=Ah (f:=107) AD Tryz.func107 []
def x108:=Ah (f:=108) AD Tryz.func108 []
def x109:=Ah (f:=109) AD Tryz.func109 []
def x110:=Ah (f:=110) AD Tryz.func110 []
def Ajr:=Ah (f:=113) AD Tryz.func113 []
def AkI:=Ah (f:=114) AD Tryz.func114 [[(15,19),(16,19),(19,22),(19,23)]]
def x115:=Ah (f:=115) AD Tryz.func115 []
def x116:=Ah (f:=116) AD Tryz.func116 [[]]
def AlD:=Ah (f:=117) AD Tryz.func117 []
def AlE:=Ah (f:=118) AD Tryz.func118 []
def AjK:=Ah (f:=119) AD Tryz.func119 [[]]
def AjV:=Ah (f:=120) AD Tryz.func120 []
def AkJ:=Ah (f:=121) AD Tryz.func121 []
def AkK:=Ah (f:=122) AD Tryz.func122 []
def x123:=Ah (f:=123) AD Tryz.func123 []
def AkL:=Ah (f:=124) AD Tryz.func124 [[]]
def AlF:=Ah (f:=125) AD Tryz.func125 []
def AlG:=Ah (f:=126) AD Tryz.func126 []
def AlH:=Ah (f:=127) AD Tryz.func127 []
def AlI:=Ah (f:=128) AD Tryz.func128 [[(2,70),(4,70),(7,70),(9,70),(13,70),(15,70),(18,70),(20,70),(25,70),(27,70),(30,70),(32,70),(36,70),(38,70),(41,70),(43,70),(48,70),(50,70),(53,70),(55,70),(59,70),(61,70),(64,70),(66,70)],[]]
def AkM:=Ah (f:=129) AD Tryz.func129 []
def AkN:=Ah (f:=130) AD Tryz.func130 []
def AkO:=Ah (f:=131) AD Tryz.func131 []
def AkP:=Ah (f:=132) AD Tryz.func132 []
def x133:=Ah (f:=133) AD Tryz.func133 []
def x134:=Ah (f:=134) AD Tryz.func134 [[(4,10),(5,10),(6,10)]]
def x135:=Ah (f:=135) AD Tryz.func135 []
def AlJ:=Ah (f:=136) AD Tryz.func136 []
def x137:=Ah (f:=137) AD Tryz.func137 []
def AlK:=Ah (f:=138) AD Tryz.func138 []
def AlL:=Ah (f:=139) AD Tryz.func139 []
def AlM:=Ah (f:=140) AD Tryz.func140 []
def AlN:=Ah (f:=141) AD Tryz.func141 []
def x142:=Ah (f:=142) AD Tryz.func142 []
def x143:=Ah (f:=143) AD Tryz.func143 []
def x144:=Ah (f:=144) AD Tryz.func144 []
def x145:=Ah (f:=145) AD Tryz.func145 []
def AlO:=Ah (f:=146) AD Tryz.func146 []
def AjL:=Ah (f:=147) AD Tryz.func147 []
def x148:=Ah (f:=148) AD Tryz.func148 []
def AkQ:=Ah (f:=149) AD Tryz.func149 []
def AlP:=Ah (f:=150) AD Tryz.func150 []
def x151:=Ah (f:=151) AD Tryz.func151 []
def x152:=Ah (f:=152) AD Tryz.func152 []
def AlQ:=Ah (f:=153) AD Tryz.func153 []
def Ak1:=Ah (f:=154) AD Tryz.func154 []
def AkR:=Ah (f:=155) AD Tryz.func155 []
def AkS:=Ah (f:=156) AD Tryz.func156 []
def x157:=Ah (f:=157) AD Tryz.func157 [[(3,5),(3,7),(2,12),(3,12),(5,12),(7,12),(8,12)]]
def x158:=Ah (f:=158) AD Tryz.func158 []
def AlR:=Ah (f:=159) AD Tryz.func159 []
def AlS:=Ah (f:=160) AD Tryz.func160 []
def AjW:=Ah (f:=161) AD Tryz.func161 []
def Akc:=Ah (f:=162) AD Tryz.func162 []
def Akd:=Ah (f:=163) AD Tryz.func163 []
def Ake:=Ah (f:=164) AD Tryz.func164 [[(3,6)]]
def x165:=Ah (f:=165) AD Tryz.func165 [[],[(5,9)]]
def AkT:=Ah (f:=166) AD Tryz.func166 []
def AkU:=Ah (f:=167) AD Tryz.func167 []
def AkV:=Ah (f:=169) AD Tryz.func169 []
def x170:=Ah (f:=170) AD Tryz.func170 []
def x171:=Ah (f:=171) AD Tryz.func171 []
def x172:=Ah (f:=172) AD Tryz.func172 []
def x173:=Ah (f:=173) AD Tryz.func173 []
def x174:=Ah (f:=174) AD Tryz.func174 []
def x175:=Ah (f:=175) AD Tryz.func175 []
def Ak2:=Ah (f:=177) AD Tryz.func177 []
def Ak3:=Ah (f:=178) AD Tryz.func178 []
def Ak4:=Ah (f:=179) AD Tryz.func179 []
def AlT:=Ah (f:=180) AD Tryz.func180 []
def AlU:=Ah (f:=181) AD Tryz.func181 []
def gI:=Ah (f:=182) AD Tryz.func182 []
def Ah3:=Ah (f:=183) AD Tryz.func183 []
def Ai5:=Ah (f:=184) AD Tryz.func184 []
def x185:=Ah (f:=185) AD Tryz.func185 []
def AlV:=Ah (f:=186) AD Tryz.func186 []
def x187:=Ah (f:=187) AD Tryz.func187 []
def AlW:=Ah (f:=188) AD Tryz.func188 []
def AlX:=Ah (f:=190) AD Tryz.func190 []
def Ags:=Ah (f:=191) AD Tryz.func191 []
def x192:=Ah (f:=192) AD Tryz.func192 [[(2,3),(0,6),(2,6)]]
def Akl:=Ah (f:=193) AD Tryz.func193 []
def AlY:=Ah (f:=196) AD Tryz.func196 []
def x197:=Ah (f:=197) AD Tryz.func197 []
def All:=Ah (f:=199) AD Tryz.func199 []
def AlZ:=Ah (f:=200) AD Tryz.func200 []
def Al0:=Ah (f:=201) AD Tryz.func201 []
def x202:=Ah (f:=202) AD Tryz.func202 [[(1,9)]]
def x205:=Ah (f:=205) AD Tryz.func205 []
def x207:=Ah (f:=207) AD Tryz.func207 []
def Al1:=Ah (f:=208) AD Tryz.func208 []
def Al2:=Ah (f:=209) AD Tryz.func209 []
def x210:=Ah (f:=210) AD Tryz.func210 []
def x214:=Ah (f:=214) AD Tryz.func214 [[]]
end
open Go
attribute [local irreducible] Ax BO BB Bj BC Bk AY BD BK Cq
def Cz(x:Int×Int):List AV:=[.i x.1,.i x.2]
def Jx:List AV->Int×Int|[.v (.int _ a1),.v (.int _ a2)]=>(a1,a2)|_=>(0,0)
theorem AbS(x:Int×Int):Jx (Cz x)=x:=by rfl
theorem MR(R:List (Int×Int)):(R.map Cz).map Jx=R:=by
 induction R with
 |nil=>rfl
 |cons r R ih=>rw[eG,eG,ih,AbS]
theorem QO(R:List (Int×Int))(i:Nat):A6 (R.map Cz) [.i 0,.i 0] i=Cz (R.getD i (0,0)):=by unfold A6;rw[dM,dM,rA];cases R[i]? <;>rfl
def Aq:Rw (Int×Int):=⟨2,Cz,Jx,[.i 0,.i 0]⟩
def BP(l:List (Int×Int)):AV:=.sl 2 false (l.map Cz) [.i 0,.i 0]
def LK(l:List (Int×Int)):AV:=.sl 2 true (l.map Cz) [.i 0,.i 0]
attribute [go_sem] Aq BP LK Cz Jx MR QO
def Fw(N:Nat)(a1:Int)(a2:Int)(b3:Int)(b4:Int)(c5:Int)(c6:Int):Option Int:=gd (Af (b3-a1))<|gd (Af (c6-a2))<|gd (Af ((b3-a1)*(c6-a2)))<|gd (Af (b4-a2))<|gd (Af (c5-a1))<|gd (Af ((b4-a2)*(c5-a1)))<|gd (Af (((b3-a1)*(c6-a2))-((b4-a2)*(c5-a1))))<|some (((b3-a1)*(c6-a2))-((b4-a2)*(c5-a1)))
@[go_sem] def I9(N:Nat):Spec:=p0<|(Aoh<|Aoi<|Aoi<|Aof<|Aoh<|Aoi<|Aoi<|Aof<|Aoh<|Aoi<|Aoi<|Aof<|Aof<|Aog 0 .i) (Fw N)
theorem xQ(N:Nat):AG Tryz.prog 179 (I9 N):=by refine fk (Aoq Ak4 (Aj)) ?_;intro a1 a2 b3 b4 c5 c6 r h _ hS F;dsimp only[Ak4,Ah];unfold Fw at h;obtain⟨ah,af,aj,ai,aq,an,am,h⟩:=un h;exact Ai hS F h
def Gg(N:Nat)(p7:Int)(p8:Int):Option Bool:=some ((((decide (0<=p7))&&(decide (p7<=40)))&&(decide (0<=p8)))&&(decide (p8<=40)))
@[go_sem] def AdG(N:Nat):Spec:=p0<|(Aoh<|Aoi<|Aoi<|Aof<|Aof<|Aog false .b) (Gg N)
theorem xR(N:Nat):AG Tryz.prog 178 (AdG N):=by refine fk (Aoq Ak3 (Aj)) ?_;intro p7 p8 r h _ hS F;dsimp only[Ak3,Ah];unfold Gg at h;exact Ai hS F h
def CU(N:Nat)(l9:List (Int×Int))(ab:Int):Option (Int×Int):=gd (Af (ab+1))<|gd ((l9.length:Int)≠0)<|(A7 l9 ((ab+1).tmod (l9.length:Int))).bind λ(x11,x12)=>some (x11,x12)
@[go_sem] def Ja(N:Nat):Spec:=p0<|(Aon Aq<|Aoi<|Aof<|Aog (0,0) λr=>.agg [.i r.1,.i r.2]) (CU N)
theorem cC(N:Nat):AG Tryz.prog 180 (Ja N):=by refine fk (Aoq AlT (Aj)) ?_;intro l9 ab r h _ hS F;dsimp only[AlT,Ah,Aq];unfold CU at h;obtain⟨ah,af,⟨x11,x12⟩,ae,h⟩:=un h;obtain⟨ak,F⟩:=Cb Cz ae F;exact Ai hS F h
def EJ(N:Nat)(c14:Int)(aa:Int):Option Int:=bif decide (c14<0)then(gd (Af (c14+1))<|gd (Af (-(c14+1)))<|gd (aa≠0)<|some ((-(c14+1)).tmod aa))else(gd (aa≠0)<|some (c14.tmod aa))
@[go_sem] def AdH(N:Nat):Spec:=p0<|(Aoi<|Aoi<|Aof<|Aog 0 .i) (EJ N)
theorem xS(N:Nat):AG Tryz.prog 122 (AdH N):=by
 refine fk (Aoq AkK (Aj)) ?_;intro c14 aa r h _ hS F;dsimp only[AkK,Ah];unfold EJ at h;refine An hS F h (λ_ h=>?_) (λ_ h=>?_)
 ·obtain⟨ah,af,aj,h⟩:=un h;exact Ai hS F h
 ·obtain⟨ai,h⟩:=un h;exact Ai hS F h
