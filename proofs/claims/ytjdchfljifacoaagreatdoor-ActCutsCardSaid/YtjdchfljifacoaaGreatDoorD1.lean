import Derived.Test.YtjdchfljifacoaaGreatDoorA20
set_option linter.all false
set_option maxRecDepth 100000
set_option maxHeartbeats 8000000
noncomputable section
namespace Go.Proofs.YtjdchfljifacoaaGreatDoor.Am
section
open Go
attribute [local irreducible] Aq BD Bv A8 Bq Ba AQ Bw By Ck
theorem V1{E J:Type}(f:E->J)(l:List E)(n:Nat):(l.map f).take n=(l.take n).map f:=List.map_take.symm
theorem V2{E J:Type}(f:E->J)(l:List E)(n:Nat):(l.map f).drop n=(l.drop n).map f:=List.map_drop.symm
structure Rw(E:Type) where
 n:Nat
 e:E->List AV
 d:List AV->E
 z:List AV
abbrev BZ:=List (List AV)->Option (Prop×AV)
def TO(p:Prop):Option (Prop×AV)->Option (Prop×AV)|some (q,x)=>some (p/\q,x)|none=>none
theorem Nb{p vc:Prop}{o:Option (Prop×AV)}{r:AV}(h:TO p o=some (vc,r)):∃q,o=some (q,r)/\vc=(p/\q):=by
 cases o with
 |none=>cases h
 |some x=>obtain⟨q,x⟩:=x;simp only[TO,yE,A57]at h;exact⟨q,by rw[h.2],h.1.symm⟩
def p0(K:BZ):Spec:=λargs=>K [args]
def pG(K:BZ):BZ|(.agg cs::r)::st=>K (cs::r::st)|_=>none
def pO(K:BZ):BZ|(.ro cs 0::r)::st=>K (cs::r::st)|_=>none
def pL(f:Nat)(K:BZ):BZ|(.clo (.func g) [] ros::r)::st=>if g=f then K (ros::r::st)else none|_=>none
def pE(K:BZ):BZ|[]::st=>K st|_=>none
def pI(K:Int->BZ):BZ|(.v (.int .i64 n)::r)::st=>K n (r::st)|_=>none
def pK(k:IntKind)(K:Int->BZ):BZ|(.v (.int k' n)::r)::st=>TO (k'=k) (K n (r::st))|_=>none
def pB(K:Bool->BZ):BZ|(.v (.bool n)::r)::st=>K n (r::st)|_=>none
def pT(K:List UInt8->BZ):BZ|(.v (.string n)::r)::st=>K (bL n) (r::st)|_=>none
def pS{E:Type}(R:Rw E)(K:List E->BZ):BZ
 |(.sl y _ s _::r)::st=>TO ((y=R.n\/s=[])/\s=(s.map R.d).map R.e) (K (s.map R.d) (r::st))
 |_=>none
def pD{E:Type}(R:Rw E)(K:List E->BZ):BZ
 |(.sl y _ s _::r)::st=>TO ((y=R.n\/s=[])/\F3 s ((s.map R.d).map R.e)) (K (s.map R.d) (r::st))
 |_=>none
def pR{E:Type}(R:Rw E)(K:List E->BZ):BZ
 |(.sl y f s d::r)::st=>TO (((y=R.n/\f=false)/\d=R.z)/\s=(s.map R.d).map R.e) (K (s.map R.d) (r::st))
 |_=>none
def pF{J:Type}(o:Option J)(z:J)(g:J->AV):BZ
 |[]=>some (o.isSome=true,g (o.getD z))
 |_=>none
def pV(v:AV):BZ|[]=>some (True,v)|_=>none
def V3:List (List AV)->List (List AV)->Prop|[],[]=>True|x::xs,y::ys=>GH x y/\V3 xs ys|_,_=>False
theorem wkD_self:∀x:AV,Gd x x
 |.sl _ _ _ _=>⟨JM _,.inl rfl,λh=>h⟩
 |.agg a=>wkDL_self a
 |.tup a=>wkDL_self a
 |.v _=>rfl
 |.ro _ _=>rfl
 |.clo _ _ _=>rfl
 |.box _ _=>rfl
 |.own _ _=>rfl
 |.elem _ _ _ _ _=>rfl
 |.gd _ _=>rfl
 |.mp _=>rfl
 |.un=>rfl
where wkDL_self:∀xs:List AV,GH xs xs
 |[]=>trivial
 |x::xs=>⟨wkD_self x,wkDL_self xs⟩
theorem P1:∀xs:List (List AV),V3 xs xs
 |[]=>trivial
 |x::xs=>⟨wkD_self.wkDL_self x,P1 xs⟩
abbrev Jf:=List (List AV)->List AV
def Lv(C:Jf):Prop:=∀a b,V3 a b->GH (C a) (C b)
def FC(P:Program)(f:Nat)(C:Jf)(s:BZ):Prop:=∀st vc r,s st=some (vc,r)->vc->PCall P f (C st) r
def c0:Jf|a::_=>a|[]=>[]
def cA(C:Jf):Jf|cs::r::st=>C ((.agg cs::r)::st)|st=>C st
def cO(C:Jf):Jf|cs::r::st=>C ((.ro cs 0::r)::st)|st=>C st
def cL(f:Nat)(C:Jf):Jf|cs::r::st=>C ((.clo (.func f) [] cs::r)::st)|st=>C st
def cE(C:Jf):Jf:=λst=>C ([]::st)
def cP(x:AV)(C:Jf):Jf|r::st=>C ((x::r)::st)|[]=>C []
theorem m0:Lv c0:=by
 intro a b h;cases a<;>cases b<;>simp only[V3,c0,GH]at h⊢
 exact h.1
theorem mG{C:Jf}(h:Lv C):Lv (cA C):=by
 intro a b k;rcases a with _|⟨a,_|⟨a',a2⟩⟩<;>rcases b with _|⟨b,_|⟨b',b2⟩⟩<;>simp only[V3,and_false]at k
 ·exact h _ _ trivial
 ·exact h _ _ ⟨k.1,trivial⟩
 ·exact h _ _ ⟨⟨k.1,k.2.1⟩,k.2.2⟩
theorem mE{C:Jf}(h:Lv C):Lv (cE C):=λa b k=>h _ _ ⟨trivial,k⟩
theorem mP{x:AV}{C:Jf}(h:Lv C):Lv (cP x C):=by
 intro a b k;cases a<;>cases b<;>simp only[V3]at k
 ·exact h _ _ trivial
 ·exact h _ _ ⟨⟨wkD_self x,k.1⟩,k.2⟩
section
variable{P:Program}{f:Nat}{C:Jf}
theorem L6{K:BZ}(o:C0 P f)(h:FC P f c0 K):Au P f (p0 K):=⟨o,λargs vc r hs hv=>h [args] vc r hs hv⟩
theorem L7{K:BZ}(h:FC P f (cA C) K):FC P f C (pG K):=by
 intro st vc r hs hv;unfold pG at hs;split at hs
 ·exact h _ _ _ hs hv
 ·cases hs
theorem zX{K:BZ}(h:FC P f (cO C) K):FC P f C (pO K):=by
 intro st vc r hs hv;unfold pO at hs;split at hs
 ·exact h _ _ _ hs hv
 ·cases hs
theorem zY{g:Nat}{K:BZ}(h:FC P f (cL g C) K):FC P f C (pL g K):=by
 intro st vc r hs hv;unfold pL at hs;split at hs
 ·rename_i g' ros rr st';by_cases e:g'=g
  ·rw[t8 e]at hs;subst e;exact h _ _ _ hs hv
  ·rw[t7 e]at hs;cases hs
 ·cases hs
theorem He{K:BZ}(h:FC P f (cE C) K):FC P f C (pE K):=by
 intro st vc r hs hv;unfold pE at hs;split at hs
 ·exact h _ _ _ hs hv
 ·cases hs
theorem Bd{K:Int->BZ}(h:∀n,FC P f (cP (.i n) C) (K n)):FC P f C (pI K):=by
 intro st vc r hs hv;unfold pI at hs;split at hs
 ·exact h _ _ _ _ hs hv
 ·cases hs
theorem zZ{k:IntKind}{K:Int->BZ}(h:∀n,FC P f (cP (.v (.int k n)) C) (K n)):FC P f C (pK k K):=by
 intro st vc r hs hv;unfold pK at hs;split at hs
 ·obtain⟨q,h1,rfl⟩:=Nb hs;obtain rfl:=hv.1;exact h _ _ _ _ h1 hv.2
 ·cases hs
theorem O8{K:Bool->BZ}(h:∀n,FC P f (cP (.b n) C) (K n)):FC P f C (pB K):=by
 intro st vc r hs hv;unfold pB at hs;split at hs
 ·exact h _ _ _ _ hs hv
 ·cases hs
theorem Aaa{K:List UInt8->BZ}(h:∀n,FC P f (cP (.v (.string (sB n))) C) (K n)):FC P f C (pT K):=by
 intro st vc r hs hv;unfold pT at hs;split at hs
 ·rename_i n rr st';have:=h _ _ _ _ hs hv;simp only[cP,MS]at this;exact this
 ·cases hs
theorem Nc{E:Type}{R:Rw E}{K:List E->BZ}(h:∀l,FC P f (cP (.sl R.n false (l.map R.e) R.z) C) (K l))(hC:Lv C:=by repeat' (first|exact m0|apply mG|apply mE|apply mP)):FC P f C (pD R K):=by
 intro st vc r hs hv;unfold pD at hs;split at hs
 ·rename_i y fl s d rr st';obtain⟨q,h1,rfl⟩:=Nb hs;obtain⟨⟨e1,e2⟩,hv⟩:=hv;have:=h _ _ _ _ h1 hv;exact PCall.argD (hC _ ((.sl R.n false ((s.map R.d).map R.e) R.z::rr)::st') ⟨⟨⟨e2,e1,λk=>by cases k⟩,wkD_self.wkDL_self _⟩,P1 _⟩) this
 ·cases hs
theorem QF{E:Type}{R:Rw E}{K:List E->BZ}(h:∀l,FC P f (cP (.sl R.n false (l.map R.e) R.z) C) (K l))(hC:Lv C:=by repeat' (first|exact m0|apply mG|apply mE|apply mP)):FC P f C (pS R K):=by
 intro st vc r hs hv;unfold pS at hs;split at hs
 ·rename_i y fl s d rr st';obtain⟨q,h1,rfl⟩:=Nb hs;obtain⟨⟨e1,e2⟩,hv⟩:=hv;have:=h _ _ _ _ h1 hv;exact PCall.argD (hC _ ((.sl R.n false ((s.map R.d).map R.e) R.z::rr)::st') ⟨⟨⟨by rw[<-e2];exact JM _,e1,λk=>by cases k⟩,wkD_self.wkDL_self _⟩,P1 _⟩) this
 ·cases hs
theorem Aab{E:Type}{R:Rw E}{K:List E->BZ}(h:∀l,FC P f (cP (.sl R.n false (l.map R.e) R.z) C) (K l)):FC P f C (pR R K):=by
 intro st vc r hs hv;unfold pR at hs;split at hs
 ·obtain⟨q,h1,rfl⟩:=Nb hs;obtain⟨⟨⟨⟨rfl,rfl⟩,rfl⟩,e2⟩,hv⟩:=hv;have:=h _ _ _ _ h1 hv;simp only[cP]at this;rw[<-e2]at this;exact this
 ·cases hs
theorem L8{J:Type}{o:Option J}{z:J}{g:J->AV}(h:∀r,o=some r->PCall P f (C []) (g r)):FC P f C (pF o z g):=by
 intro st vc r hs hv;unfold pF at hs;split at hs
 ·simp only[yE,A57]at hs;obtain⟨rfl,rfl⟩:=hs;obtain⟨r,hr⟩:=yX hv;have:=h r hr;rw[hr];exact this
 ·cases hs
theorem Aac{v:AV}(h:PCall P f (C []) v):FC P f C (pV v):=by
 intro st vc r hs hv;unfold pV at hs;split at hs
 ·simp only[yE,A57]at hs;obtain⟨rfl,rfl⟩:=hs;exact h
 ·cases hs
theorem wx{S:Tab}{args:List AV}{r:AV}(x:FnX P f)(hS:TabOK P S)(h:∀hb,TabOK P S->([]:List Nat).length=0->Aq (Ctx.fn P S x.nt hb) x.c (Bq x.rv r) ⟨BC 0 args,[],0⟩)(hn:args.length<=x.nt:=by exact A01 rfl):PCall P f args r:=Nf hS x.nt x.hf x.hc x.hn hn λhb=>h hb hS rfl
end
attribute [go_sem] TO p0 pG pO pL pE pI pK pB pT pS pD pR pF pV c0 cA cO cL cE cP
def pC(m:Int)(K:BZ):BZ|(.v (.int .i64 n)::r)::st=>if n=m then K (r::st)else none|_=>none
theorem Aad{P:Program}{f:Nat}{C:Jf}{m:Int}{K:BZ}(h:FC P f (cP (.i m) C) K):FC P f C (pC m K):=by
 intro st vc r hs hv;unfold pC at hs;split at hs
 ·split at hs
  ·rename_i e;subst e;exact h _ _ _ hs hv
  ·cases hs
 ·cases hs
section
variable{δ J:Type}
abbrev q0(K:δ->BZ)(D:δ):Spec:=p0 (K D)
abbrev qG(K:δ->BZ)(D:δ):BZ:=pG (K D)
abbrev qO(K:δ->BZ)(D:δ):BZ:=pO (K D)
abbrev qL(f:Nat)(K:δ->BZ)(D:δ):BZ:=pL f (K D)
abbrev qE(K:δ->BZ)(D:δ):BZ:=pE (K D)
abbrev qC(m:Int)(K:δ->BZ)(D:δ):BZ:=pC m (K D)
abbrev qI(K:δ->BZ)(D:Int->δ):BZ:=pI λn=>K (D n)
abbrev qK(k:IntKind)(K:δ->BZ)(D:Int->δ):BZ:=pK k λn=>K (D n)
abbrev qB(K:δ->BZ)(D:Bool->δ):BZ:=pB λn=>K (D n)
abbrev qT(K:δ->BZ)(D:List UInt8->δ):BZ:=pT λn=>K (D n)
abbrev qS{E:Type}(R:Rw E)(K:δ->BZ)(D:List E->δ):BZ:=pS R λn=>K (D n)
abbrev qD{E:Type}(R:Rw E)(K:δ->BZ)(D:List E->δ):BZ:=pD R λn=>K (D n)
abbrev qR{E:Type}(R:Rw E)(K:δ->BZ)(D:List E->δ):BZ:=pR R λn=>K (D n)
abbrev qF(z:J)(g:J->AV)(o:Option J):BZ:=pF o z g
end
section
variable{P:Program}{f:Nat}{C:Jf}{Q:Prop}
theorem fkG{K:BZ}(h:Q->FC P f (cA C) K)(q:Q):FC P f C (pG K):=L7 (h q)
theorem fkO{K:BZ}(h:Q->FC P f (cO C) K)(q:Q):FC P f C (pO K):=zX (h q)
theorem fkL{g:Nat}{K:BZ}(h:Q->FC P f (cL g C) K)(q:Q):FC P f C (pL g K):=zY (h q)
theorem fkC{m:Int}{K:BZ}(h:Q->FC P f (cP (.i m) C) K)(q:Q):FC P f C (pC m K):=Aad (h q)
theorem fkE{K:BZ}(h:Q->FC P f (cE C) K)(q:Q):FC P f C (pE K):=He (h q)
theorem fkI{K:Int->BZ}{q:Int->Prop}(h:∀n,q n->FC P f (cP (.i n) C) (K n))(k:∀n,q n):FC P f C (pI K):=Bd λn=>h n (k n)
theorem fkK{i:IntKind}{K:Int->BZ}{q:Int->Prop}(h:∀n,q n->FC P f (cP (.v (.int i n)) C) (K n))(k:∀n,q n):FC P f C (pK i K):=zZ λn=>h n (k n)
theorem fkB{K:Bool->BZ}{q:Bool->Prop}(h:∀n,q n->FC P f (cP (.b n) C) (K n))(k:∀n,q n):FC P f C (pB K):=O8 λn=>h n (k n)
theorem fkT{K:List UInt8->BZ}{q:List UInt8->Prop}(h:∀n,q n->FC P f (cP (.v (.string (sB n))) C) (K n))(k:∀n,q n):FC P f C (pT K):=Aaa λn=>h n (k n)
theorem fkS{E:Type}{R:Rw E}{K:List E->BZ}{q:List E->Prop}(hC:Lv C)(h:∀l,q l->FC P f (cP (.sl R.n false (l.map R.e) R.z) C) (K l))(k:∀n,q n):FC P f C (pS R K):=QF (λn=>h n (k n)) hC
theorem fkD{E:Type}{R:Rw E}{K:List E->BZ}{q:List E->Prop}(hC:Lv C)(h:∀l,q l->FC P f (cP (.sl R.n false (l.map R.e) R.z) C) (K l))(k:∀n,q n):FC P f C (pD R K):=Nc (λn=>h n (k n)) hC
theorem fkR{E:Type}{R:Rw E}{K:List E->BZ}{q:List E->Prop}(h:∀l,q l->FC P f (cP (.sl R.n false (l.map R.e) R.z) C) (K l))(k:∀n,q n):FC P f C (pR R K):=Aab λn=>h n (k n)
theorem fkF{J:Type}{o:Option J}{z:J}{g:J->AV}{n:Nat}{ρ:List AV->AV->Prop}(w:∀args r,args.length<=n->ρ args r->PCall P f args r)(hn:(C []).length<=n)(h:∀r,o=some r->ρ (C []) (g r)):FC P f C (pF o z g):=L8 λr e=>w _ _ hn (h r e)
theorem fkV{v:AV}{n:Nat}{ρ:List AV->AV->Prop}(w:∀args r,args.length<=n->ρ args r->PCall P f args r)(hn:(C []).length<=n)(h:ρ (C []) v):FC P f C (pV v):=Aac (w _ _ hn h)
def WX(x:FnX P f)(S:Tab)(args:List AV)(r:AV):Prop:=∀hb,TabOK P S->([]:List Nat).length=0->Aq (Ctx.fn P S x.nt hb) x.c (Bq x.rv r) ⟨BC 0 args,[],0⟩
theorem wX{S:Tab}(x:FnX P f)(hS:TabOK P S):C0 P f/\∀args r,args.length<=x.nt->WX x S args r->PCall P f args r:=⟨x.ok,λ_ _ hn h=>wx x hS h hn⟩
theorem fk{n:Nat}{K:BZ}{ρ:List AV->AV->Prop}(x:C0 P f/\∀args r,args.length<=n->ρ args r->PCall P f args r)(k:Q)(t:(∀args r,args.length<=n->ρ args r->PCall P f args r)->Q->FC P f c0 K:=by
 intro w
 repeat' (first
  |with_reducible (first|apply fkG|apply fkE|apply fkC|apply fkO|apply fkL)
  |((with_reducible (first|apply fkI|apply fkB|apply fkR|apply fkK|apply fkT));intro _)
  |((with_reducible (first|apply fkS|apply fkD));(·(repeat' (first|exact m0|apply mG|apply mE|apply mP)));intro _)
  |exact fkF w (A01 rfl)
  |exact fkV w (A01 rfl))):Au P f (p0 K):=
 L6 x.1 (t x.2 k)
end
attribute [go_sem] pC qC q0 qG qO qL qE qI qK qB qT qS qD qR qF
theorem CH{E:Type}(e:E->List AV){R:List E}{i:Int}{x:E}{F:Prop}(h:Bz R i=some x)(f:F):(0<=i/\i<R.length)/\(∀d,DJ (R.map e) d i.toNat=e x)/\(∀d,R.getD i.toNat d=x)/\F:=by
 refine⟨(Nu h).1,λd=>?_,(Nu h).2,f⟩;unfold Bz at h;split at h
 ·unfold DJ;rw[s9,A07,h];rfl
 ·cases h
theorem YC{E:Type}(e:E->List AV){R:List E}{i:Int}(h:¬i<R.length)(d:List AV):DJ (R.map e) d i.toNat=d:=by unfold DJ;rw[s9,List.getElem?_eq_none (by rw[A04];omega)];rfl
theorem V4{E:Type}(k:Nat)(e:E->List AV){R:List E}{i:Int}{x:E}{F:Prop}(h:Bz R i=some x)(f:F)(hk:i=(k:Int):=by exact rfl):(0<=i/\i<R.length)/\(∀d,DJ (R.map e) d k=e x)/\(∀d,R.getD k d=x)/\F:=by subst hk;exact CH e h f
structure TX{X:Type}(x:X):Prop where
@[reducible] def iQ{X:Type}{x:X}(_:TX x):X:=x
attribute [go_sem] iQ
theorem ev{F G:Prop}(f:F)(t:F->G:=by intro f;simp only[go_sem,seval,f]<;>eq_refl):G:=t f
theorem un{P Q:Prop}(h:P)(t:P->Q:=by
 intro h
 (try simp only[Wj,yB]at h)
 exact h):Q:=t h
theorem An{S F G P Q:Prop}{E:Type}{B:Bool}{X Y τ:E}(hS:S)(f:F)(h:(bif B then X else Y)=τ)(ht:B=true->X=τ->P)(hf:B=false->Y=τ->Q)(t:S->F->Hid (B=true->P)->Hid (B=false->Q)->G:=by
 intro hS f k1 k2
 repeat' (first
  |(with_reducible (first|apply Dc|apply D2|apply DX|apply EN|apply Dd|apply De|apply Fs|apply Ft);(·(first|exact Ctx.fn_ok hS|exact Ctx.rd_ok hS|assumption|exact yT|exact Ctx.rdG_ok hS));iterate 2 (·(simp only[go_sem,seval,f]<;>eq_refl)))
  |with_reducible (first|apply C8|apply DR|apply CT|apply CU|apply CC|apply Cb|apply Co|apply Dr|apply DF|apply DS|apply DT|apply DU|apply DV)
  |(with_reducible apply DW;(·first|rfl|decide))
  |(with_reducible apply AO;(·simp))
  |with_reducible (first|apply Gs|apply Gt|apply Gu|apply Da|apply Db|apply DZ|apply D0|apply D1|apply yT|apply And.intro yT yT)
  |(fail_if_success with_reducible apply FP);(fail_if_success with_reducible apply DY);(try clear k1 k2);first|with_reducible apply And.intro|omega|(simp only[go_sem,seval,f];done)|with_reducible assumption|(refine And.intro ?_ ?_)|(intro hg;simp_all;done)|decide|grind)
 exact cb f _ k1.k k2.k):G:=t hS f ⟨λe=>ht e (T1 e h)⟩ ⟨λe=>hf e (T3 e h)⟩
theorem Jg{S F G P:Prop}(hS:S)(f:F)(h:P)(t:S->F->Hid P->G:=by
 intro hS f k
 repeat' (first
  |(with_reducible (first|apply Dc|apply D2|apply DX|apply EN|apply Dd|apply De|apply Fs|apply Ft);(·(first|exact Ctx.fn_ok hS|exact Ctx.rd_ok hS|assumption|exact yT|exact Ctx.rdG_ok hS));iterate 2 (·(simp only[go_sem,seval,f]<;>eq_refl)))
  |with_reducible (first|apply C8|apply DR|apply CT|apply CU|apply CC|apply Cb|apply Co|apply Dr|apply DF|apply DS|apply DT|apply DU|apply DV)
  |(with_reducible apply DW;(·first|rfl|decide))
  |(with_reducible apply AO;(·simp))
  |with_reducible (first|apply Gs|apply Gt|apply Gu|apply Da|apply Db|apply DZ|apply D0|apply D1|apply yT|apply And.intro yT yT)
  |(fail_if_success with_reducible apply FP);(fail_if_success with_reducible apply DY);(try clear k);first|with_reducible apply And.intro|omega|(simp only[go_sem,seval,f];done)|with_reducible assumption|(refine And.intro ?_ ?_)|(intro hg;simp_all;done)|decide|grind)
 exact ct f k.k):G:=t hS f ⟨h⟩
theorem Gn{S F G P:Prop}(hS:S)(f:F)(h:P)(t:S->F->Hid P->G:=by
 intro hS f k
 repeat' (first
  |(with_reducible (first|apply Dc|apply D2|apply DX|apply EN|apply Dd|apply De|apply Fs|apply Ft);(·(first|exact Ctx.fn_ok hS|exact Ctx.rd_ok hS|assumption|exact yT|exact Ctx.rdG_ok hS));iterate 2 (·(simp only[go_sem,seval,f]<;>eq_refl)))
  |with_reducible (first|apply C8|apply DR|apply CT|apply CU|apply CC|apply Cb|apply Co|apply Dr|apply DF|apply DS|apply DT|apply DU|apply DV)
  |(with_reducible apply DW;(·first|rfl|decide))
  |(with_reducible apply AO;(·simp))
  |with_reducible (first|apply Gs|apply Gt|apply Gu|apply Da|apply Db|apply DZ|apply D0|apply D1|apply yT|apply And.intro yT yT)
  |(fail_if_success with_reducible apply FP);(fail_if_success with_reducible apply DY);(try clear k);first|with_reducible apply And.intro|omega|(simp only[go_sem,seval,f];done)|with_reducible assumption|(refine And.intro ?_ ?_)|(intro hg;simp_all;done)|decide|grind)
 exact cf f k.k):G:=t hS f ⟨h⟩
theorem Ah{S F G:Prop}{E:Type}{a r:E}(hS:S)(f:F)(h:some a=some r)(t:S->(r=a/\F)->G:=by
 intro hS f
 repeat' (first
  |(with_reducible (first|apply Dc|apply D2|apply DX|apply EN|apply Dd|apply De|apply Fs|apply Ft);(·(first|exact Ctx.fn_ok hS|exact Ctx.rd_ok hS|assumption|exact yT|exact Ctx.rdG_ok hS));iterate 2 (·(simp only[go_sem,seval,f]<;>eq_refl)))
  |with_reducible (first|apply C8|apply DR|apply CT|apply CU|apply CC|apply Cb|apply Co|apply Dr|apply DF|apply DS|apply DT|apply DU|apply DV)
  |(with_reducible apply DW;(·first|rfl|decide))
  |(with_reducible apply AO;(·simp))
  |with_reducible (first|apply Gs|apply Gt|apply Gu|apply Da|apply Db|apply DZ|apply D0|apply D1|apply yT|apply And.intro yT yT)
  |(fail_if_success with_reducible apply FP);(fail_if_success with_reducible apply DY);first|with_reducible apply And.intro|omega|(simp only[go_sem,seval,f];done)|with_reducible assumption|(refine And.intro ?_ ?_)|(intro hg;simp_all;done)|decide|grind)
 exact fin f):G:=t hS ⟨(yJ h).symm,f⟩
theorem Ab1{F G:Prop}(f:F)(h:F->G:=by
 intro f
 first|refine kZ (by simp only[go_sem,seval,f]<;>eq_refl) (by simp only[go_sem,seval,f]) (by simp only[go_sem,seval,f]) ?_ rfl|refine lA (by simp only[go_sem,seval,f]<;>eq_refl) (by simp only[go_sem,seval,f]) (by simp only[go_sem,seval,f]) ?_ rfl
 first|(simp only[go_sem,seval,f];done)|(simp[f,Gd,GH,F3,GW,wk];done)):G:=h f
theorem GN{S F G:Prop}{E:Type}{a r:E}(hS:S)(f:F)(h:some a=some r)(t:S->(r=a/\F)->G:=by
 intro hS f
 repeat' (first
  |(with_reducible (first|apply Dc|apply D2|apply DX|apply EN|apply Dd|apply De|apply Fs|apply Ft);(·(first|exact Ctx.fn_ok hS|exact Ctx.rd_ok hS|assumption|exact yT|exact Ctx.rdG_ok hS));iterate 2 (·(simp only[go_sem,seval,f]<;>eq_refl)))
  |with_reducible (first|apply C8|apply DR|apply CT|apply CU|apply CC|apply Cb|apply Co|apply Dr|apply DF|apply DS|apply DT|apply DU|apply DV)
  |(with_reducible apply DW;(·first|rfl|decide))
  |(with_reducible apply AO;(·simp))
  |with_reducible (first|apply Gs|apply Gt|apply Gu|apply Da|apply Db|apply DZ|apply D0|apply D1|apply yT|apply And.intro yT yT)
  |(fail_if_success with_reducible apply FP);(fail_if_success with_reducible apply DY);first|with_reducible apply And.intro|omega|(simp only[go_sem,seval,f];done)|with_reducible assumption|(refine And.intro ?_ ?_)|(intro hg;simp_all;done)|decide|grind)
 exact Ab1 f):G:=t hS ⟨(yJ h).symm,f⟩
theorem CS{S F G p:Prop}{X:Type}(hS:S)(f:F)(x:X)(h:p)(t:S->F->TX x->Hid p->G:=by
 intro hS f kx kp
 repeat' (first
  |(with_reducible (first|apply Dc|apply D2|apply DX|apply EN|apply Dd|apply De|apply Fs|apply Ft);(·(first|exact Ctx.fn_ok hS|exact Ctx.rd_ok hS|assumption|exact yT|exact Ctx.rdG_ok hS));iterate 2 (·(simp only[go_sem,seval,f]<;>eq_refl)))
  |with_reducible (first|apply C8|apply DR|apply CT|apply CU|apply CC|apply Cb|apply Co|apply Dr|apply DF|apply DS|apply DT|apply DU|apply DV)
  |(with_reducible apply DW;(·first|rfl|decide))
  |(with_reducible apply AO;(·simp))
  |with_reducible (first|apply Gs|apply Gt|apply Gu|apply Da|apply Db|apply DZ|apply D0|apply D1|apply yT|apply And.intro yT yT)
  |(fail_if_success with_reducible apply FP);(fail_if_success with_reducible apply DY);(try clear kx kp);first|with_reducible apply And.intro|omega|(simp only[go_sem,seval,f];done)|with_reducible assumption|(refine And.intro ?_ ?_)|(intro hg;simp_all;done)|decide|grind)
 exact Id (iQ kx) kp.k (A54 _) (CB f)):G:=t hS f ⟨⟩ ⟨h⟩
theorem Cu{S F G:Prop}{X E:Type}{a b:E}(hS:S)(f:F)(x:X)(h:some a=some b)(t:S->F->TX x->Hid (a=b)->G:=by
 intro hS f kx kp
 repeat' (first
  |(with_reducible (first|apply Dc|apply D2|apply DX|apply EN|apply Dd|apply De|apply Fs|apply Ft);(·(first|exact Ctx.fn_ok hS|exact Ctx.rd_ok hS|assumption|exact yT|exact Ctx.rdG_ok hS));iterate 2 (·(simp only[go_sem,seval,f]<;>eq_refl)))
  |with_reducible (first|apply C8|apply DR|apply CT|apply CU|apply CC|apply Cb|apply Co|apply Dr|apply DF|apply DS|apply DT|apply DU|apply DV)
  |(with_reducible apply DW;(·first|rfl|decide))
  |(with_reducible apply AO;(·simp))
  |with_reducible (first|apply Gs|apply Gt|apply Gu|apply Da|apply Db|apply DZ|apply D0|apply D1|apply yT|apply And.intro yT yT)
  |(fail_if_success with_reducible apply FP);(fail_if_success with_reducible apply DY);(try clear kx kp);first|with_reducible apply And.intro|omega|(simp only[go_sem,seval,f];done)|with_reducible assumption|(refine And.intro ?_ ?_)|(intro hg;simp_all;done)|decide|grind)
 exact sO (iQ kx) kp.k (CB f)):G:=t hS f ⟨⟩ ⟨yJ h⟩
theorem TP{S F G p:Prop}{X:Type}(hS:S)(f:F)(x:X)(h:p)(t:S->F->TX x->Hid p->G:=by
 intro hS f kx kp
 repeat' (first
  |(with_reducible (first|apply Dc|apply D2|apply DX|apply EN|apply Dd|apply De|apply Fs|apply Ft);(·(first|exact Ctx.fn_ok hS|exact Ctx.rd_ok hS|assumption|exact yT|exact Ctx.rdG_ok hS));iterate 2 (·(simp only[go_sem,seval,f]<;>eq_refl)))
  |with_reducible (first|apply C8|apply DR|apply CT|apply CU|apply CC|apply Cb|apply Co|apply Dr|apply DF|apply DS|apply DT|apply DU|apply DV)
  |(with_reducible apply DW;(·first|rfl|decide))
  |(with_reducible apply AO;(·simp))
  |with_reducible (first|apply Gs|apply Gt|apply Gu|apply Da|apply Db|apply DZ|apply D0|apply D1|apply yT|apply And.intro yT yT)
  |(fail_if_success with_reducible apply FP);(fail_if_success with_reducible apply DY);(try clear kx kp);first|with_reducible apply And.intro|omega|(simp only[go_sem,seval,f];done)|with_reducible assumption|(refine And.intro ?_ ?_)|(intro hg;simp_all;done)|decide|grind)
 exact TW (iQ kx) ⟨kp.k,by show _+1<=_;omega⟩ rfl (CB f)):G:=t hS f ⟨⟩ ⟨h⟩
section
variable{V:Ctx}{c:AC}{K:AE->St->Prop}{s:St}
theorem BU{ω X:Type}(o:ω)(I:X->St)(j:X->ω)(e0:AE)(h1:Aq V c (Xu e0 I (λz=>j z=o) K) s)(h2:∀x,j x=o->K e0 (I x)):Aq V c K s:=mJ I _ e0 h1 h2
theorem BO{ω X:Type}{N:Nat}{o:ω}(D:Nat->X->Option ω)(I:X->St)(x0:X)(hL:D N x0=some o)(hs:Le (I x0) s)(step:∀n x,D (n+1) x=some o->Aq V c (A8 (λy:Nat×X=>I y.2) (λy=>D y.1 y.2=some o) (λy=>y.1) (n+1) K) (I x))(hz:∀x,D 0 x=none:=by exact λ_=>rfl):Aq V (.loop c) K s:=by
 refine Hf (λy:Nat×X=>I y.2) (λy=>D y.1 y.2=some o) (λy=>y.1) (N,x0) hL hs ?_;rintro⟨n,x⟩ hx;cases n with
 |zero=>exact absurd hx (by simp only[hz];simp)
 |succ n=>exact step n x hx
end
attribute [go_sem] QR QS List.set_cons_succ List.isEmpty_map List.map_append List.map_eq_nil_iff ne_eq List.length_replicate V1 V2 List.length_set Option.isSome_some Option.getD_some
end
section
open Go C
def Av(t:Nat):TyI:=match t with|3|45|210=>⟨(.i .i64),false,1,8,[z],[]⟩|4=>⟨.b,false,1,1,[(.v (.bool false))],[]⟩|5=>⟨(.i .u8),false,1,1,[(.v (.int .u8 0))],[]⟩|9=>⟨.s,false,1,16,[(.v (.string (sB [])))],[]⟩|20=>⟨.fc,false,1,16,[(.v .nilIface)],[]⟩|22=>⟨(.sl 124),false,1,24,[(.sl 0 true [] [])],[]⟩|23=>⟨(.sl 80),false,1,24,[(.sl 0 true [] [])],[]⟩|25=>⟨(.st [(0,22),(1,23),(2,22)]),true,3,72,[(.sl 0 true [] []),(.sl 0 true [] []),(.sl 0 true [] [])],[]⟩|27=>⟨(.sl 37),false,1,24,[(.sl 0 true [] [])],[]⟩|29=>⟨(.st [(0,27)]),true,1,24,[(.sl 0 true [] [])],[]⟩|30=>⟨(.sl 40),false,1,24,[(.sl 0 true [] [])],[]⟩|32=>⟨(.st [(0,29),(1,30)]),true,2,48,[(.sl 0 true [] []),(.sl 0 true [] [])],[]⟩|35=>⟨(.sl 49),false,1,24,[(.sl 0 true [] [])],[]⟩|37=>⟨(.st [(0,3),(1,3),(2,3),(3,35),(4,3),(5,3)]),true,6,64,[z,z,z,(.sl 0 true [] []),z,z],[]⟩|40=>⟨(.st [(0,3),(1,3),(2,3),(3,3),(4,4)]),true,5,40,[z,z,z,z,(.v (.bool false))],[true,true,true,true,false]⟩|42=>⟨(.st [(0,3),(1,37),(7,3),(8,3),(9,3),(10,40)]),true,15,136,[z,z,z,z,(.sl 0 true [] []),z,z,z,z,z,z,z,z,z,(.v (.bool false))],[]⟩|49=>⟨(.st [(0,3),(1,3)]),true,2,16,[z,z],[true,true]⟩|51=>⟨(.st [(0,49),(2,49)]),true,4,32,[z,z,z,z],[true,true,true,true]⟩|53=>⟨(.st [(0,3),(1,3),(2,51),(6,3),(7,3)]),true,8,64,[z,z,z,z,z,z,z,z],[true,true,true,true,true,true,true,true]⟩|61=>⟨(.sl 42),false,1,24,[(.sl 0 true [] [])],[]⟩|70=>⟨(.sl 3),false,1,24,[(.sl 0 true [] [])],[]⟩|72|78|86|95|96|97|125|129|138|168|185=>⟨.fu,false,1,8,[(.v .nilFunc)],[]⟩|80=>⟨(.ar 4 3),true,4,32,[z,z,z,z],[true,true,true,true]⟩|99=>⟨(.st [(0,78),(1,72),(2,95),(3,96),(4,97)]),true,5,40,[(.v .nilFunc),(.v .nilFunc),(.v .nilFunc),(.v .nilFunc),(.v .nilFunc)],[]⟩|102|148|160|163=>⟨.pt,false,1,8,[(.v (.pointer none))],[]⟩|105=>⟨(.st [(0,32)]),true,2,48,[(.sl 0 true [] []),(.sl 0 true [] [])],[]⟩|108|159=>⟨(.st []),true,0,0,[],[]⟩|124=>⟨(.ar 6 3),true,6,48,[z,z,z,z,z,z],[true,true,true,true,true,true]⟩|130|158|234=>⟨(.i .u64),false,1,8,[(.v (.int .u64 0))],[]⟩|142=>⟨(.st [(0,3),(1,3),(2,3),(3,3),(4,3)]),true,5,40,[z,z,z,z,z],[true,true,true,true,true]⟩|145=>⟨(.mp 3 99),false,1,8,[(.v (.map none))],[]⟩|149=>⟨(.sl 5),false,1,24,[(.sl 0 true [] [])],[]⟩|151=>⟨(.st [(0,148),(1,149)]),true,2,32,[(.v (.pointer none)),(.sl 0 true [] [])],[]⟩|162=>⟨(.st [(0,9),(1,3)]),true,2,24,[(.v (.string (sB []))),z],[]⟩|164=>⟨(.ar 5 163),true,5,40,[(.v (.pointer none)),(.v (.pointer none)),(.v (.pointer none)),(.v (.pointer none)),(.v (.pointer none))],[]⟩|174=>⟨(.ar 8 142),true,40,320,[z,z,z,z,z,z,z,z,z,z,z,z,z,z,z,z,z,z,z,z,z,z,z,z,z,z,z,z,z,z,z,z,z,z,z,z,z,z,z,z],[]⟩|196=>⟨(.st [(0,151)]),true,2,32,[(.v (.pointer none)),(.sl 0 true [] [])],[]⟩|217=>⟨(.i .u32),false,1,4,[(.v (.int .u32 0))],[]⟩|224=>⟨(.sl 35),false,1,24,[(.sl 0 true [] [])],[]⟩|227=>⟨(.sl 231),false,1,24,[(.sl 0 true [] [])],[]⟩|229=>⟨(.sl 233),false,1,24,[(.sl 0 true [] [])],[]⟩|231|233=>⟨(.st [(0,3),(1,3),(2,3)]),true,3,24,[z,z,z],[true,true,true]⟩|_=>⟨.x,false,0,0,[],[]⟩
def x3:=Ad (f:=3) Av Tryz.func3 [[(2,8),(2,11),(6,11),(7,11),(8,11),(9,11),(10,11)],[(1,4),(1,7),(4,9),(7,9),(1,12),(9,12),(1,17),(4,17),(7,17),(9,17),(12,17)],[],[(4,6),(12,13),(12,16),(14,16),(22,23),(22,26),(24,26)]]
def x4:=Ad (f:=4) Av Tryz.func4 [[(23,24)]]
def x5:=Ad (f:=5) Av Tryz.func5 [[(2,9),(2,12),(4,12),(7,12),(8,12),(9,12),(10,12),(11,12)],[(2,4),(2,6),(2,8),(2,9),(4,11),(2,14),(11,14),(4,15),(2,18),(11,18),(15,18),(4,19),(1,22),(2,22),(4,22),(6,22),(8,22),(9,22),(11,22),(14,22),(15,22),(18,22),(19,22)]]
def x6:=Ad (f:=6) Av Tryz.func6 []
def x7:=Ad (f:=7) Av Tryz.func7 []
def x8:=Ad (f:=8) Av Tryz.func8 []
def x9:=Ad (f:=9) Av Tryz.func9 []
def x10:=Ad (f:=10) Av Tryz.func10 []
def YO:=Ad (f:=11) Av Tryz.func11 []
def Sn:=Ad (f:=12) Av Tryz.func12 []
def x13:=Ad (f:=13) Av Tryz.func13 [[(1,3)]]
def x14:=Ad (f:=14) Av Tryz.func14 [[(2,4)]]
def x15:=Ad (f:=15) Av Tryz.func15 []
def x16:=Ad (f:=16) Av Tryz.func16 [[(1,3),(1,5),(3,6),(5,6)]]
def x17:=Ad (f:=17) Av Tryz.func17 [[(2,5),(3,5),(2,6),(3,6)]]
def iT:=Ad (f:=18) Av Tryz.func18 []
def iU:=Ad (f:=19) Av Tryz.func19 []
def x20:=Ad (f:=20) Av Tryz.func20 []
def iV:=Ad (f:=21) Av Tryz.func21 []
def iW:=Ad (f:=22) Av Tryz.func22 [[]]
def T6:=Ad (f:=23) Av Tryz.func23 []
def T7:=Ad (f:=24) Av Tryz.func24 [[]]
def YP:=Ad (f:=25) Av Tryz.func25 []
def So:=Ad (f:=26) Av Tryz.func26 [[]]
def iX:=Ad (f:=27) Av Tryz.func27 []
def Sp:=Ad (f:=28) Av Tryz.func28 [[(0,8),(8,12),(8,13),(0,14),(0,19),(5,19),(7,19),(8,19),(12,19),(13,19),(14,19),(15,19)]]
def Sq:=Ad (f:=29) Av Tryz.func29 []
def Sr:=Ad (f:=30) Av Tryz.func30 [[],[]]
def K2:=Ad (f:=31) Av Tryz.func31 [[]]
def Ss:=Ad (f:=32) Av Tryz.func32 []
def Wn:=Ad (f:=33) Av Tryz.func33 []
def YQ:=Ad (f:=34) Av Tryz.func34 []
def x35:=Ad (f:=35) Av Tryz.func35 []
def x36:=Ad (f:=36) Av Tryz.func36 []
def YR:=Ad (f:=37) Av Tryz.func37 [[]]
def T8:=Ad (f:=38) Av Tryz.func38 []
def YS:=Ad (f:=39) Av Tryz.func39 []
def YT:=Ad (f:=40) Av Tryz.func40 [[(2,3)]]
def YU:=Ad (f:=41) Av Tryz.func41 []
def Wo:=Ad (f:=42) Av Tryz.func42 [[],[],[],[(1,2)]]
def YV:=Ad (f:=43) Av Tryz.func43 []
def x44:=Ad (f:=44) Av Tryz.func44 [[(0,2),(0,7),(2,7),(3,7)],[(0,4),(7,11)],[(0,2)],[(0,6),(14,19)]]
def x45:=Ad (f:=45) Av Tryz.func45 []
def x46:=Ad (f:=46) Av Tryz.func46 []
def x47:=Ad (f:=47) Av Tryz.func47 []
def x48:=Ad (f:=48) Av Tryz.func48 []
def x49:=Ad (f:=49) Av Tryz.func49 []
def x50:=Ad (f:=50) Av Tryz.func50 []
def x51:=Ad (f:=51) Av Tryz.func51 []
def x52:=Ad (f:=52) Av Tryz.func52 [[(1,4),(1,6)]]
def PB:=Ad (f:=53) Av Tryz.func53 []
def YW:=Ad (f:=54) Av Tryz.func54 [[]]
def YX:=Ad (f:=55) Av Tryz.func55 [[]]
def PC:=Ad (f:=56) Av Tryz.func56 [[],[(1,3),(1,4)],[(1,7),(1,8)],[(1,3),(1,4)]]
def PD:=Ad (f:=57) Av Tryz.func57 [[],[],[(1,3),(1,8),(5,8)]]
def PE:=Ad (f:=58) Av Tryz.func58 []
def T9:=Ad (f:=59) Av Tryz.func59 []
def x60:=Ad (f:=60) Av Tryz.func60 []
def x61:=Ad (f:=61) Av Tryz.func61 []
def x62:=Ad (f:=62) Av Tryz.func62 []
def x63:=Ad (f:=63) Av Tryz.func63 []
def x64:=Ad (f:=64) Av Tryz.func64 [[]]
def x65:=Ad (f:=65) Av Tryz.func65 []
def Ua:=Ad (f:=66) Av Tryz.func66 []
def x67:=Ad (f:=67) Av Tryz.func67 [[(2,3),(2,4),(0,5),(1,5),(2,5)],[(6,9),(7,9),(6,10),(7,10),(6,12),(7,12),(6,13),(7,13),(1,14),(2,14),(4,14),(5,14),(6,14),(7,14)]]
def x68:=Ad (f:=68) Av Tryz.func68 [[(4,6),(4,8)]]
def x69:=Ad (f:=69) Av Tryz.func69 []
def YY:=Ad (f:=70) Av Tryz.func70 [[(0,6)]]
def iY:=Ad (f:=71) Av Tryz.func71 []
def x72:=Ad (f:=72) Av Tryz.func72 []
def x73:=Ad (f:=73) Av Tryz.func73 []
def x74:=Ad (f:=74) Av Tryz.func74 []
def x75:=Ad (f:=75) Av Tryz.func75 []
def x78:=Ad (f:=78) Av Tryz.func78 []
def x79:=Ad (f:=79) Av Tryz.func79 [[]]
def YZ:=Ad (f:=80) Av Tryz.func80 []
def Y0:=Ad (f:=81) Av Tryz.func81 [[],[]]
def Su:=Ad (f:=82) Av Tryz.func82 []
def x83:=Ad (f:=83) Av Tryz.func83 []
def Sv:=Ad (f:=84) Av Tryz.func84 []
def Y2:=Ad (f:=85) Av Tryz.func85 []
def Ub:=Ad (f:=86) Av Tryz.func86 []
def Y3:=Ad (f:=87) Av Tryz.func87 []
def x88:=Ad (f:=88) Av Tryz.func88 [[]]
def x89:=Ad (f:=89) Av Tryz.func89 []
def x90:=Ad (f:=90) Av Tryz.func90 [[]]
def x91:=Ad (f:=91) Av Tryz.func91 [[]]
def x92:=Ad (f:=92) Av Tryz.func92 []
def tE:=Ad (f:=93) Av Tryz.func93 []
def x94:=Ad (f:=94) Av Tryz.func94 []
def x95:=Ad (f:=95) Av Tryz.func95 []
def x96:=Ad (f:=96) Av Tryz.func96 []
def x97:=Ad (f:=97) Av Tryz.func97 []
def x98:=Ad (f:=98) Av Tryz.func98 [[(4,10),(5,10),(6,10)]]
def x99:=Ad (f:=99) Av Tryz.func99 []
def tF:=Ad (f:=100) Av Tryz.func100 []
def x101:=Ad (f:=101) Av Tryz.func101 []
def tG:=Ad (f:=102) Av Tryz.func102 []
def Mu:=Ad (f:=103) Av Tryz.func103 []
def Uc:=Ad (f:=104) Av Tryz.func104 []
def Ud:=Ad (f:=105) Av Tryz.func105 []
def x106:=Ad (f:=106) Av Tryz.func106 []
def x107:=Ad (f:=107) Av Tryz.func107 []
def x108:=Ad (f:=108) Av Tryz.func108 []
def x109:=Ad (f:=109) Av Tryz.func109 []
def tH:=Ad (f:=110) Av Tryz.func110 []
def tI:=Ad (f:=111) Av Tryz.func111 []
def x112:=Ad (f:=112) Av Tryz.func112 []
def tJ:=Ad (f:=113) Av Tryz.func113 []
def tK:=Ad (f:=114) Av Tryz.func114 []
def tL:=Ad (f:=115) Av Tryz.func115 []
def x116:=Ad (f:=116) Av Tryz.func116 []
def tM:=Ad (f:=117) Av Tryz.func117 []
def tN:=Ad (f:=118) Av Tryz.func118 []
def JR:=Ad (f:=119) Av Tryz.func119 []
def Oi:=Ad (f:=120) Av Tryz.func120 []
def x121:=Ad (f:=121) Av Tryz.func121 [[(3,5),(3,7),(2,12),(3,12),(5,12),(7,12),(8,12)]]
def Oj:=Ad (f:=122) Av Tryz.func122 []
def x123:=Ad (f:=123) Av Tryz.func123 []
def Ue:=Ad (f:=124) Av Tryz.func124 []
def tO:=Ad (f:=125) Av Tryz.func125 []
def tP:=Ad (f:=126) Av Tryz.func126 []
def tQ:=Ad (f:=127) Av Tryz.func127 []
def tT:=Ad (f:=128) Av Tryz.func128 []
def tU:=Ad (f:=129) Av Tryz.func129 [[(3,6)]]
def x130:=Ad (f:=130) Av Tryz.func130 [[],[(5,9)]]
def tV:=Ad (f:=131) Av Tryz.func131 []
def tW:=Ad (f:=132) Av Tryz.func132 []
def tX:=Ad (f:=134) Av Tryz.func134 []
def x135:=Ad (f:=135) Av Tryz.func135 []
def x136:=Ad (f:=136) Av Tryz.func136 []
def x137:=Ad (f:=137) Av Tryz.func137 []
def x138:=Ad (f:=138) Av Tryz.func138 []
def x139:=Ad (f:=139) Av Tryz.func139 []
def x140:=Ad (f:=140) Av Tryz.func140 []
def tY:=Ad (f:=142) Av Tryz.func142 []
def tZ:=Ad (f:=143) Av Tryz.func143 []
def Xv:=Ad (f:=144) Av Tryz.func144 []
def x145:=Ad (f:=145) Av Tryz.func145 [[]]
def uC:=Ad (f:=147) Av Tryz.func147 []
def uD:=Ad (f:=148) Av Tryz.func148 []
def x149:=Ad (f:=149) Av Tryz.func149 []
def uE:=Ad (f:=150) Av Tryz.func150 []
def uF:=Ad (f:=152) Av Tryz.func152 []
def RB:=Ad (f:=153) Av Tryz.func153 []
def x154:=Ad (f:=154) Av Tryz.func154 [[(2,3),(0,6),(2,6)]]
def uG:=Ad (f:=155) Av Tryz.func155 []
def uH:=Ad (f:=156) Av Tryz.func156 []
def uI:=Ad (f:=159) Av Tryz.func159 []
def x160:=Ad (f:=160) Av Tryz.func160 []
def P5:=Ad (f:=162) Av Tryz.func162 [[(15,19),(16,19),(19,22),(19,23)]]
def P6:=Ad (f:=163) Av Tryz.func163 []
def P7:=Ad (f:=164) Av Tryz.func164 [[(2,70),(4,70),(7,70),(9,70),(13,70),(15,70),(18,70),(20,70),(25,70),(27,70),(30,70),(32,70),(36,70),(38,70),(41,70),(43,70),(48,70),(50,70),(53,70),(55,70),(59,70),(61,70),(64,70),(66,70)],[]]
def x165:=Ad (f:=165) Av Tryz.func165 [[],[]]
def dO:=Ad (f:=166) Av Tryz.func166 [[]]
def dQ:=Ad (f:=167) Av Tryz.func167 [[]]
def dR:=Ad (f:=168) Av Tryz.func168 []
def dS:=Ad (f:=169) Av Tryz.func169 [[]]
def E4:=Ad (f:=172) Av Tryz.func172 [[],[],[],[],[],[],[],[],[]]
def Nv:=Ad (f:=173) Av Tryz.func173 []
def Nw:=Ad (f:=174) Av Tryz.func174 []
def Xw:=Ad (f:=175) Av Tryz.func175 []
def Xx:=Ad (f:=176) Av Tryz.func176 []
def x177:=Ad (f:=177) Av Tryz.func177 [[(1,9)]]
def x180:=Ad (f:=180) Av Tryz.func180 []
def JS:=Ad (f:=181) Av Tryz.func181 []
def RC:=Ad (f:=182) Av Tryz.func182 []
def RD:=Ad (f:=183) Av Tryz.func183 []
def uJ:=Ad (f:=184) Av Tryz.func184 []
def x185:=Ad (f:=185) Av Tryz.func185 []
def uK:=Ad (f:=191) Av Tryz.func191 []
def x192:=Ad (f:=192) Av Tryz.func192 []
end
open Go
attribute [local irreducible] Aq BD Bv A8 Bq Ba AQ Bw By Ck
def Ce(x:Int×Int):List AV:=[.i x.1,.i x.2]
def HS:List AV->Int×Int|[.v (.int _ a1),.v (.int _ a2)]=>(a1,a2)|_=>(0,0)
theorem Aaj(x:Int×Int):HS (Ce x)=x:=by rfl
theorem Mc(R:List (Int×Int)):(R.map Ce).map HS=R:=by
 induction R with
 |nil=>rfl
 |cons r R ih=>rw[w5,w5,ih,Aaj]
theorem Pf(R:List (Int×Int))(i:Nat):DJ (R.map Ce) [.i 0,.i 0] i=Ce (R.getD i (0,0)):=by unfold DJ;rw[s9,s9,A07];cases R[i]? <;>rfl
def Aj:Rw (Int×Int):=⟨2,Ce,HS,[.i 0,.i 0]⟩
def BK(l:List (Int×Int)):AV:=.sl 2 false (l.map Ce) [.i 0,.i 0]
def P8(l:List (Int×Int)):AV:=.sl 2 true (l.map Ce) [.i 0,.i 0]
attribute [go_sem] Aj BK P8 Ce HS Mc Pf
def EH(N:Nat)(a1:Int)(a2:Int)(b3:Int)(b4:Int)(c5:Int)(c6:Int):Option Int:=gd (Ai (b3-a1))<|gd (Ai (c6-a2))<|gd (Ai ((b3-a1)*(c6-a2)))<|gd (Ai (b4-a2))<|gd (Ai (c5-a1))<|gd (Ai ((b4-a2)*(c5-a1)))<|gd (Ai (((b3-a1)*(c6-a2))-((b4-a2)*(c5-a1))))<|some (((b3-a1)*(c6-a2))-((b4-a2)*(c5-a1)))
@[go_sem] def Jm(N:Nat):Spec:=p0<|(qG<|qI<|qI<|qE<|qG<|qI<|qI<|qE<|qG<|qI<|qI<|qE<|qE<|qF 0 .i) (EH N)
theorem uL(N:Nat):Au Tryz.prog 183 (Jm N):=by refine fk (wX RD (Ae)) ?_;intro a1 a2 b3 b4 c5 c6 r h _ hS F;dsimp only[RD,Ad];unfold EH at h;obtain⟨af,ae,an,am,ak,aj,ai,h⟩:=un h;exact Ah hS F h
def E9(N:Nat)(p7:Int)(p8:Int):Option Bool:=some ((((decide (0<=p7))&&(decide (p7<=40)))&&(decide (0<=p8)))&&(decide (p8<=40)))
@[go_sem] def Ab6(N:Nat):Spec:=p0<|(qG<|qI<|qI<|qE<|qE<|qF false .b) (E9 N)
theorem uM(N:Nat):Au Tryz.prog 182 (Ab6 N):=by refine fk (wX RC (Ae)) ?_;intro p7 p8 r h _ hS F;dsimp only[RC,Ad];unfold E9 at h;exact Ah hS F h
def Cy(N:Nat)(l9:List (Int×Int))(aa:Int):Option (Int×Int):=gd (Ai (aa+1))<|gd ((l9.length:Int)≠0)<|(Bz l9 ((aa+1).tmod (l9.length:Int))).bind λ(YO,Sn)=>some (YO,Sn)
@[go_sem] def Jn(N:Nat):Spec:=p0<|(qS Aj<|qI<|qE<|qF (0,0) λr=>.agg [.i r.1,.i r.2]) (Cy N)
theorem Y4(N:Nat):Au Tryz.prog 184 (Jn N):=by refine fk (wX uJ (Ae)) ?_;intro l9 aa r h _ hS F;dsimp only[uJ,Ad,Aj];unfold Cy at h;obtain⟨af,ae,⟨YO,Sn⟩,ab,h⟩:=un h;obtain⟨ah,F⟩:=CH Ce ab F;exact Ah hS F h
