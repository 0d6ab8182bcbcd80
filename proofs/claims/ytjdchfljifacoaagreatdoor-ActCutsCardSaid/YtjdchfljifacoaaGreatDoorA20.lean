import Derived.Test.YtjdchfljifacoaaGreatDoorA16
set_option linter.all false
namespace Go.Proofs.YtjdchfljifacoaaGreatDoor.Am
open Go
section
def Kh(S:Tab)(hp:Hp)(f:Nat)(args:List AV):Option (Prop×Value):=match Fh args with
 |some n=>match S.p f args (CF hp n 0 40)with|some (vc,v)=>some (Hj args=true/\G9 (CF hp n 0 40)=true/\(CF hp n 0 40).isEmpty=false/\IM hp n (CF hp n 0 40).length/\vc,v)|none=>S.y f args (args.map (qv hp))
 |none=>none
theorem Vi{S:Tab}{hp hp':Hp}{f:Nat}{xs:List AV}(h:Ag hp hp' (GX hp xs)):Kh S hp f xs=Kh S hp' f xs:=by
 unfold Kh;cases hb:Fh xs with
 |none=>rfl
 |some n=>
  have h5:=λj=>h (.b n) (P2 hb) _ ⟨j,rfl⟩
  have h6:IM hp n=IM hp' n:=by unfold IM;simp only[h5]
  simp only[HQ h5,h6,Sf h]
section
variable{P:Program}{S:Tab}{U:Cf}{hp:Hp}{vc:Prop}
theorem bG(hS:TabOK P S)(gl:Gl U)(h:HInv U hp)(hal:∃c,∀m,U.al m->m.2<=c){f:Nat}{args:List AV}{vs:List Value}{v:Value}(hx:RepL U args vs)(hex:Kh S hp f args=some (vc,v))(hvc:vc):C0 P f/\Calls P f vs.toArray U.w λe w'=>∃σ',e=.panicked [⟨v,false,false⟩]/\σ'.w=w'/\Evo U σ'/\HInv σ' hp/\∀m,σ'.al m->U.al m:=by
 unfold Kh at hex;split at hex
 ·rename_i n hn;split at hex
  ·rename_i p v' hs;obtain⟨rfl,rfl⟩:=hex;obtain⟨v1,v4,v5,v6,v7⟩:=hvc;obtain⟨k1,k2⟩:=hS.p f _ _ _ _ n hs v7 hn;refine⟨k1,?_⟩;have hc:∀j c,(CF hp n 0 40)[j]? =some c↔hl hp (.c n j)=some c:=λj c=>by
    refine⟨λh=>by simpa using L5 h,λh=>?_⟩;rcases A52 j (CF hp n 0 40).length with h1|h1
    ·have:=L5 (t6 h1);grind
    ·rw[v6 j h1]at h;cases h
   refine(k2 (U.only n) vs (λb j hj=>⟨(gl b j hj).1.only,(gl b j hj).2⟩) (h.only (by grind) v4) (λm hm=>hm.1) (Na v1 hn hx)).mono ?_;rintro en w' ⟨σ',rfl,hw,ev,hcel⟩;obtain⟨e1,e2⟩:=h.back (us:=[]) hc v5 v4 rfl hw ev hcel;exact⟨U.at w',rfl,rfl,e1,e2,λm hm=>hm⟩
  ·obtain⟨k1,k2⟩:=hS.y f _ _ _ _ hex hvc;exact⟨k1,k2 U hp vs gl h hal hx rfl⟩
 ·simp at hex
theorem Tt{F:Fence}(hS:TabOK P S)(hF:Wide F){n nt i:Nat}{hb:HB}{ops:Array Oper}{Q:Exit->Act->World->Prop}{K:Act->World->Prop}{o:Oper}{a:Act}{env:Ar}{d:Option Nat}{f:Nat}{ys:List Opd}{v:Value}(hi:ops[i]? =some o)(hc:JI P nt ops o=some ⟨d,none,.call f ys⟩)(hI:Inv U env hp a nt hb)(hal:∃c,∀m,U.al m->m.2<=c)(hex:Kh S hp f (ys.map λx=>Ay true (Ax env x))=some (vc,v))(hvc:vc)(hQ:∀σ',Evo U σ'->HInv σ' hp->(∀m,σ'.al m->U.al m)->Q (.panic [⟨v,false,false⟩]) a σ'.w):wpOpIn F n P ops Q i K a U.w:=by
 obtain⟨c,ho,hcal,rfl,hd,hg⟩:=TV hc rfl;have hw:=DA hI.t hg rfl;obtain⟨k1,k2⟩:=bG hS hI.df.gl hI.h hal (F2 rfl hI.t c.args.toList) hex hvc;unfold wpOpIn;simp only[hi,hw];refine⟨λf _=>hF.fn f,?_⟩;rw[Oper.semAt_eq F.round a.eval o (by grind)];have hr:(execOp a.eval o).run P U.w=.ok (.enter f (c.args.toList.map a.eval).toArray) U.w:=by
  have hr:=FE k1 (c.args.map a.eval) U.w;rw[<-Array.toList_map,Array.toArray_toList]
  simp_all[execOp,resolve,Act.eval,Deferred.ofValue,invoke]
 rw[hr];refine⟨λh=>by simp[hF.depth]at h,hF.calls (k2.mono ?_)⟩;grind
end
def N0:List AOp->Ar->Ar|[],e=>e|o::l,e=>BQ o.d .un (N0 l e)
theorem Yc:∀(l:List AOp)(e:Ar)(t:Nat),lk (N0 l e) t=.un\/(lk (N0 l e) t=lk e t/\∀o∈l,o.d≠some t)
 |[],e,t=>.inr ⟨rfl,by simp⟩
 |o::l,e,t=>by
  simp only[N0,QM];by_cases h:o.d=some t
  ·rw[t8 h];exact .inl rfl
  ·rcases Yc l e t with h1|⟨h1,h2⟩
   all_goals grind
theorem VS{nt t:Nat}(ht:nt<=t):∀{l:List AOp}{e:Ar},(∀o∈l,∀d,o.d=some d->d<nt)->lk (N0 l e) t=lk e t
 |[],_,_=>rfl
 |o::l,e,h=>by simp only[N0];rw[DL (h o (by simp)) ht];exact VS ht λp hp=>by grind
theorem bH{P:Program}{nt:Nat}{ops':Array Oper}{ops:List AOp}(h:FM P nt ops' ops'.toList=some ops):∀o∈ops,∀d,o.d=some d->d<nt:=by
 obtain⟨c1,c2⟩:=CM h;intro o ho;obtain⟨i,hi⟩:=List.getElem?_of_mem ho;have hlt:i<ops'.toList.length:=by grind
 obtain⟨x,g1,g2⟩:=c2 i _ (t6 hlt);rw[hi]at g1;cases g1
 exact C9 g2
variable{V:Ctx}
theorem bI(hΓ:V.OK)(i:Nat){rid:Nat}{ops:List AOp}{Q:AE->St->Prop}{e e1:Ar}{h h1:Hp}{c:Nat}{vc vp:Prop}{d:Option Nat}{f:Nat}{ys:List Opd}{v:Value}(hyo:ops[i]? =some ⟨d,none,.call f ys⟩)(hex:Bh V.S (c+1) (100*rid) (ops.take i) e h=some (vc,e1,h1))(hvc:vc)(hp:Kh V.S h1 f (ys.map λx=>Ay true (Ax e1 x))=some (vp,v))(hvp:vp)(hQ:Q (.p v) ⟨e1,h1,c+1⟩):Aq V (.reg rid ops) Q ⟨e,h,c⟩:=by
 intro code hc U a hA;cases code with
 |region id ops' d'=>
  obtain⟨l0,hx0,⟨rfl,e0⟩|⟨_,_,_,_,e0⟩⟩:=BM hc
  ·cases e0
   refine wpIn_region ?_;obtain⟨c1,c2⟩:=CM hx0;obtain⟨t1,t2⟩:=Cj i hx0;have hi:i<ops.length:=by grind
   have hsz:ops.length=ops'.size:=by omega
   obtain⟨yo',g1,g2⟩:=c2 i ops'[i] (by simp);rw[hyo]at g1;cases g1
   have hr:List.range ops'.size=List.range' 0 (ops'.toList.take i).length++i::List.range' (i+1) (ops'.size-(i+1)):=by
    have e1:(ops'.toList.take i).length=i:=by simp;omega
    rw[e1,A36,show List.range' 0 ops'.size=List.range' 0 (i+(ops'.size-i)) by grind,<-List.range'_append_1,A08,show ops'.size-i=(ops'.size-(i+1))+1 by omega,A38]
   rw[hr];refine E0 hΓ (100*rid) e _ (ops'.toList.take i) 0 (ops.take i) U e e1 h h1 a vc (λ_ _=>rfl) (λj hj=>?_) t1 hex hvc hA.1 (λm hm=>.inl (hA.2.1 m hm)) λa1 σ1 ev1 hI1 hal1 hfar1=>?_
   ·grind
   refine Tt hΓ.S hΓ.F (by grind) g2 hI1 ⟨c+1,by grind⟩ hp hvp λσ2 ev2 hh2 hal2=>?_
   exact⟨σ2,⟨e1,h1,c+1⟩,_,rfl,V.ofE (ev1.trans ev2),⟨⟨hh2,hI1.t.mono ev2,hI1.sz,hI1.df.mono ev2⟩,by grind,V.g hA.2.2 (ev1.trans ev2) λt ht=>.inr (hfar1 t ht)⟩,rfl,hQ⟩
  ·cases e0
 |seq x y=>simp only[cCode]at hc;split at hc<;>simp at hc
 |cond c x y=>simp only[cCode]at hc;split at hc<;>simp at hc
 |rangeFunc f ps x y=>simp only[cCode]at hc;split at hc<;>simp at hc
 |_=>simp[cCode]at hc
def Ps(S:Tab)(ver pk:Nat)(v:Value)(fk:AV)(k:Nat)(env:Ar)(hp:Hp)(o:AOp):Option (Prop×AV×Hp):=
 if k=pk then(match o.g,o.k with
  |none,.call f ys=>match Kh S hp f (ys.map λx=>Ay true (Ax env x))with|some (vc,v')=>some (vc/\v'=v,fk,[])|none=>none
  |_,_=>none)
 else HL S (k,ver) env hp o
theorem Yd{S:Tab}{ver pk k:Nat}{v:Value}{fk:AV}{env env':Ar}{hp hp':Hp}{o:AOp}(ht:∀t∈Lu o,lk env t=lk env' t)(hh:Ag hp hp' (MF env hp o)):Ps S ver pk v fk k env hp o=Ps S ver pk v fk k env' hp' o:=by
 unfold Ps;by_cases h:k=pk
 ·rw[t8 h,t8 h];obtain⟨d,g,kk⟩:=o;cases g with
  |some p=>rfl
  |none=>
   cases kk with
   |call f ys=>
    have h1:(ys.map λx=>Ay true (Ax env x))=ys.map λx=>Ay true (Ax env' x):=Gp λt h=>ht t (by simp[Lu,Kq,h])
    simp;rw[<-h1,Vi hh]
   |_=>rfl
 ·rw[t7 h,t7 h];exact Ng ht hh
def PV:AK->Bool|.alloc _=>true|.box _ _=>true|k=> !hw k
theorem Rs{n:Nm}{p:Loc×AV}:∀{cs:List AV}{o:Nat},p∈D6 n o cs->NV p.1=(false,n)
 |[],_,h=>by cases h
 |c::cs,o,h=>by
  rcases y6.1 h with rfl|h
  ·rfl
  ·exact Rs h
theorem Ye{S:Tab}{nm:Nm}{env:Ar}{hp:Hp}{o:AOp}{vc:Prop}{r:AV}{ws:Hp}(hk:PV o.k=true)(h:HL S nm env hp o=some (vc,r,ws)):∀p∈ws,NV p.1=(false,nm):=by
 have key:∀(g:Bool)(vc:Prop)(r:AV)(ws:Hp),AF S env hp nm g o.k=some (vc,r,ws)->∀p∈ws,NV p.1=(false,nm):=λg vc r ws h=>by
  cases hh:hw o.k with
  |false=>rw[Wc hh h];simp
  |true=>
   cases ho:o.k with
   |alloc zs=>rw[ho]at h;simp only[AF,yE,A57]at h;obtain⟨_,_,rfl⟩:=h;exact λp hp=>Rs hp
   |box n x=>
    rw[ho]at h;simp only[AF,SZ]at h;split at h
    ·split at h
     ·simp only[yE,A57]at h;obtain⟨_,_,rfl⟩:=h;exact λp hp=>Rs hp
     ·cases h
    ·cases h
   |_=>rw[ho]at hk hh;simp[PV,hh]at hk
 unfold HL at h;grind
theorem iO{l:Loc}:∀{ws:Hp},(∀p∈ws,p.1≠l)->hl ws l=none
 |[],_=>rfl
 |(q1,q2)::qs,h=>by rw[hl,t7 (h (q1,q2) (by simp))];exact iO λp hp=>h p (by simp[hp])
theorem VT{rec:Nat->Rec}{hp:Hp}{l:Loc}:∀(L:List Nat),(∀i∈L,∀p∈(rec i).ws,p.1≠l)->hl (GM rec hp L) l=hl hp l
 |[],_=>rfl
 |i::L,h=>by rw[GM,I8,VT L λj hj=>h j (by simp[hj])];rw[iO (h i (by simp))];rfl
def MC(D:List AOp):List AOp->Bool|[]=>true|o::r=>bif D.all (λm=>Ic m o)then PV o.k&&MC D r else MC (o::D) r
theorem M4{B:List Nat}{n:Nat}{L:List Nat}{ao:Nat->AOp}(hD:Done n B L)(tmp:∀k j,k<j->j<n->(B.getD j 0).testBit k=true\/Ic (ao k) (ao j)=true):∀(l:List AOp)(D:List AOp)(k:Nat),MC D l=true->(∀i o,l[i]? =some o->ao (k+i)=o)->k+l.length=n->(∀m∈D,∃j,j<k/\ao j=m/\j∉L)->∀i,i<l.length->k+i∈L->PV (ao (k+i)).k=true
 |[],_,_,_,_,_,_,i,hi,_=>by simp at hi
 |o::l,D,k,hq,hl,hn,hDD,i,hi,hL=>by
  have hk:ao k=o:=by simpa using hl 0 o rfl
  have hl':∀i p,l[i]? =some p->ao (k+1+i)=p:=λi p h=>by rw[show k+1+i=k+(i+1) by omega];exact hl (i+1) p (by simpa using h)
  simp only[A03]at hn hi;simp only[MC]at hq;cases hall:D.all λm=>Ic m o with
  |true=>
   rw[hall,cond_true,y8]at hq;rcases i with _|i
   ·rw[A43,hk];simpa using hq.1
   ·rw[show k+(i+1)=k+1+i by omega]at hL⊢;exact M4 hD tmp l D (k+1) hq.2 hl' (by omega) (λm hm=>by grind) i (by omega) hL
  |false=>
   rw[hall,A12]at hq;have hkL:k∉L:=λh=>by
    obtain⟨m,hm,hf⟩:∃m∈D,Ic m o=false:=by simpa[List.all_eq_false]using hall
    obtain⟨j,h1,rfl,h2⟩:=hDD m hm;rcases tmp j k h1 (by omega)with h3|h3
    ·exact h2 (hD.cl k h j h3)
    ·rw[hk,hf]at h3;cases h3
   rcases i with _|i
   ·exact absurd hL hkL
   ·rw[show k+(i+1)=k+1+i by omega]at hL⊢;refine M4 hD tmp l (o::D) (k+1) hq hl' (by omega) (λm hm=>?_) i (by omega) hL;grind
theorem Tu{rec:Nat->Rec}{env:Ar}{t:Nat}:∀(L:List Nat),(∀i∈L,(rec i).d≠some t)->lk (EQ rec env L) t=lk env t
 |[],_=>rfl
 |i::L,h=>by simp only[EQ,QM];rw[t7 (h i (by simp))];exact Tu L λj hj=>h j (by simp[hj])
theorem bJ(hΓ:V.OK)(p:Nat)(fk:AV){rid:Nat}{ops:List AOp}{un:List (Nat×Nat)}{Q:AE->St->Prop}{e e':Ar}{h h':Hp}{c:Nat}{vc:Prop}{recs:List Rec}{d:Option Nat}{f:Nat}{ys:List Opd}{v:Value}(hyo:ops[p]? =some ⟨d,none,.call f ys⟩)(hex:IB (Ps V.S (c+1) (100*rid+p) v fk) (100*rid) ops e h=some (vc,e',h',recs))(hun:Ni recs un=true)(hvc:vc)(hq:((ops.take p).all λo=>PV o.k)=true)(hq2:MC (ops.drop p|>.take 1) (ops.drop (p+1))=true)(hQ:Q (.p v) ⟨N0 ops e,h,c+1⟩):Aq V (.drw rid ops un) Q ⟨e,h,c⟩:=by
 intro code hc U a hA;cases code with
 |region id ops' d=>
  simp only[cCode]at hc;obtain⟨l,hx,⟨_,e⟩|⟨rfl,hf,un',hu,e⟩⟩:=BM hc
  ·cases e
  ·cases e
   refine wpIn_region_any hf ?_;obtain⟨B,b1,b2,rfl⟩:=No hu;obtain⟨c1,c2⟩:=CM hx;have hlen:ops.length=ops'.size:=by simpa using c1
   have hrl:=Jj hex;have hop:∀i o,ops'[i]? =some o->∃x,ops[i]? =some x/\JI V.P V.nt ops' o=some x:=λi o ho=>c2 i o (by simpa using ho)
   have hao:∀i x,ops[i]? =some x->ops.getD i default=x:=λi x h=>by simp[s9,h]
   have hsp:=Lb (rec:=λi=>recs.getD i default) (env0:=e) (hp0:=h) (all:=ops) (bs:=100*rid) ops 0 recs vc e' h' (λi=>by simp) hex hvc (λi hi=>by grind);simp only[A08]at hsp;obtain⟨e1,e2,run⟩:=hsp;have get:∀i,i<ops.length->ops[i]? =some (ops.getD i default):=λi hi=>by simp[s9,hi]
   have hp:p<ops.length:=(y5.1 hyo).1;have hpo:=hao p _ hyo;have ne:∀i,i<ops.length->hw (ops.getD i default).k=false->100*rid+i≠100*rid+p:=λi hi hf he=>by
    have:i=p:=by omega
    subst this;rw[hpo]at hf;simp[hw]at hf
   have hws:∀i,i<ops.length->hw (ops.getD i default).k=false->(recs.getD i default).ws=[]:=λi hi hf=>by obtain⟨_,_,g,_⟩:=run i _ (get i hi);unfold Ps at g;rw[t7 (ne i hi hf)]at g;exact P3 hf g
   have hrd:∀i,i<ops.length->ht (ops.getD i default).k=false->(recs.getD i default).rd=[]:=λi hi h=>by obtain⟨_,_,_,_,g⟩:=run i _ (get i hi);rw[g];exact Pa h
   have G:Good V.P (λi e h=>Ps V.S (c+1) (100*rid+p) v fk (100*rid+i) e h (ops.getD i default)) V.nt ops.length ops' B (λi=>recs.getD i default) e h λi=>ops.getD i default:=
    {cg:=λi e e' h h' ht hh=>Yd ht hh
     sz:=Nat.le_of_eq hlen
     bef:=λi o ho=>by have:=K8 b1 i o (by simpa using ho);simpa using this
     op:=λi o ho=>by grind
     run:=λi hi=>run i _ (get i hi)
     tmp:=λk j hk hj=>by
      have h1:=Nk b2 j _ (get j hj);rw[A08]at h1;have h2:=K9 h1 k (ops.getD k default) (by grind)
      rwa [A08]at h2
     mem:=λk j hk hj=>by
      have h2:=La (B:=B.getD j 0) (j:=j) (o:=ops.getD j default) (l:=ops.take j) (k:=0) k (ops.getD k default) (by grind);rw[A08]at h2;rcases h2 with h|h|h
      ·exact .inl h
      ·right;right;simp only[Bool.or_eq_false_iff,Bool.and_eq_false_iff]at h;have hk':k<ops.length:=by omega
       rcases h.1 with g1|g1
       ·grind
       ·exact .inr (.inl ⟨hws j hj (Xo g1),hrd j hj g1⟩)
      ·exact .inr (.inl (Oa hun k j (Nl (all:=ops) (j:=0) j _ (get j hj) _ (by rw[A08];exact h))))}
   have far:=bH hx;obtain⟨σ',w1,w2,w3⟩:=hA.drawn (U.w.drawn+1);rw[<-w1];refine We (bs:=100*rid) (λi=>i=p) G hlen.symm (λhall=>absurd rfl (hall p hp)) hA.2.2 (λi o L σ1 a1 K hin g2 hst hD ha ho ev1 hI hal hK=>?_) ops'.size [] _ σ' a (by simp) ⟨by simp,by simp,.nil⟩ (by simp) (λi hi=>?_) (by rw[Nn,hlen]) w2 w3.1 λm hm=>.inl (w3.2.1 m hm)
   ·obtain⟨vc,hvc,hex,hd,_⟩:=G.run i hin;rw[<-G.same hD hin g2 ha]at hex;simp only[Ps]at hex;by_cases hip:i=p
    ·subst hip;rw[t8 rfl,hpo]at hex;simp only at hex;have hiL:i∉L:=g2;have q1:∀j∈L,PV (ops.getD j default).k=true:=λj hj=>by
      have hjn:=hD.lt j hj;rcases Nat.lt_trichotomy j i with hlt|heq|hgt
      ·have:=List.all_eq_true.1 hq (ops.getD j default) (A14 (i:=j) (by grind));simpa using this
      ·exact absurd hj (heq▸hiL)
      ·have:=M4 hD G.tmp (ops.drop (i+1)) _ (i+1) hq2 (λk o ho=>by grind) (by simp;omega) (λm hm=>?_) (j-(i+1)) (by simp;omega) (by grind)
       ·grind
       ·refine⟨i,A54 i,?_,hiL⟩;obtain⟨k,hk⟩:=List.getElem?_of_mem hm;grind
     have hold:∀l x,hl h l=some x->hl (GM (λi=>recs.getD i default) h L) l=some x:=λl x hl'=>by
      rw[VT L λj hj q hq=>?_]
      ·exact hl'
      ·rintro rfl;obtain⟨_,_,g,_⟩:=G.run j (hD.lt j hj);simp only[Ps]at g;rw[t7 (by grind)]at g;have h1:=Ye (q1 j hj) g q hq;have h2:σ'.al (100*rid+j,c+1):=by
        cases hq1:q.1 with
        |c m k=>rw[hq1]at h1 hl';simp only[NV,A57,true_and]at h1;subst h1;exact(w3.1.h.cel _ _ _ hl').1
        |a m=>rw[hq1]at h1;simp[NV]at h1
       exact absurd (w3.2.1 _ h2) (Nat.not_succ_le_self c)
     split at hex
     ·rename_i vp v' hpan;simp only[yE,A57]at hex;obtain⟨rfl,_,_⟩:=hex;obtain⟨hvp,rfl⟩:=hvc;have hco:=G.op i o ho;rw[hpo]at hco;refine Tt hΓ.S hΓ.F ho hco hI ⟨c+1,λm hm=>by grind⟩ hpan hvp λσ2 ev2 hh2 hal2=>?_
      obtain⟨ev3,hh3⟩:=hh2.sub hold;have ev2:=ev2.trans ev3;rw[show σ2.w=({σ2 with ln:=lenOf h}:Cf).w from rfl];have hfar:∀t,V.nt<=t->lk (N0 ops e) t=lk e t:=λt ht=>VS ht far
      refine⟨{σ2 with ln:=lenOf h},⟨N0 ops e,h,c+1⟩,_,rfl,V.ofE (ev1.trans ev2),⟨⟨hh3,λt=>?_,hI.sz,?_⟩,λm hm=>?_,V.g hA.2.2 (ev1.trans ev2) λt ht=>.inr (hfar t ht)⟩,rfl,hQ⟩
      ·rcases Yc ops e t with h1|⟨h1,h2⟩
       ·rw[h1];simp[Rep]
       ·rw[h1];have h3:=hI.t.mono ev2 t
        rwa [Tu L λj hj=>?_]at h3
        obtain⟨_,_,_,hdj,_⟩:=G.run j (hD.lt j hj);rw[hdj];exact h2 _ (A14 (get j (hD.lt j hj)))
      ·have h3:=hI.df.mono ev2;rw[P4 (t:=dk V.nt) L (λj hj=>G.far j (hD.lt j hj)) (A55 _ _)]at h3;rw[hfar (dk V.nt) (A55 _ _)];exact h3
      grind
     ·cases hex
    ·rw[t7 (by omega)]at hex;refine Jh hΓ.S hΓ.F ho (G.op i o ho) hI ⟨λh=>?_,c+1,λm hm=>by grind⟩ hex hvc (hK hip);grind
   ·simp[Array.getD,hi]
 |seq x y=>simp only[cCode]at hc;split at hc<;>simp at hc
 |cond c x y=>simp only[cCode]at hc;split at hc<;>simp at hc
 |rangeFunc f ps x y=>simp only[cCode]at hc;split at hc<;>simp at hc
 |_=>simp[cCode]at hc
theorem AT{b:AC}{Q:AE->St->Prop}{s:St}{v:Value}(h:Q (.p v) s):BD V b Q (.p v) s:=h
theorem AU{id:Nat}{Q:AE->St->Prop}{s:St}{v:Value}(h:Q (.p v) s):Bv id Q (.p v) s:=h
theorem A2{b:AC}{Q:AE->St->Prop}{m:Nat}{s:St}{v:Value}(h:Q (.p v) s):RA V b Q m (.p v) s:=h
theorem AD{X:Type}{I:X->St}{Pre:X->Prop}{μ:X->Nat}{n:Nat}{Q:AE->St->Prop}{s:St}{v:Value}(h:Q (.p v) s):A8 I Pre μ n Q (.p v) s:=h
def pW(v:Value)(K:St->Prop):AE->St->Prop|.p u,s=>u=v/\K s|_,_=>False
theorem pX{v:Value}{K:St->Prop}{s:St}(h:K s):pW v K (.p v) s:=⟨rfl,h⟩
theorem Yf{P:Program}{S:Tab}(hS:TabOK P S){f:Nat}{fn:Func}{c:AC}{rvs:List RV}{n:Nm}{args cells:List AV}{v:Value}(nt:Nat)(hf:P.funcs[f]? =some fn)(hc:Dj P fn=some (c,rvs))(hnt:fn.ntmps=nt)(hn:args.length<=nt)(h:∀hb,Aq (Ctx.fn P S nt hb) c (pW v λs=>∀j c,hl (D6 n 0 cells) (.c n j)=some c->hl s.hp (.c n j)=some c) ⟨BC 0 args,D6 n 0 cells,n.2⟩):Qq P f n args cells v:=by
 intro U vs hgl hI hal hv;subst hnt;unfold Dj at hc;split at hc
 ·rename_i b hbd;split at hc
  ·rename_i c' r' g1 g2;simp at hc;obtain⟨rfl,rfl⟩:=hc;have hlen:=Bx hv;have hw:=h U.w.heap.size b g1 U {tmps:=vs.toArray++Array.replicate (fn.ntmps-vs.toArray.size) undef,defers:=[]} ?_
   ·refine callsIn_wide.1 (callsIn_of_wp_marks (n:=0) hf hbd trivial (wpIn_mono hw ?_));rintro e a' w' ⟨σ',s',e',rfl,ev,h3,h4,h5⟩;have ev:Evo U σ':=ev;cases e with
    |panic c=>
     obtain⟨v,rfl,rfl⟩:=AE.of_panic h4;obtain⟨rfl,h5⟩:=h5;have:=K7 (dd:=[]) (u:=.panicking [⟨v,false,false⟩]) (F:=Fence.wide) (n:=0) (P:=P) (fn:=fn) (tmps:=a'.tmps) (R:=λe w'=>∃σ',e=.panicked [⟨v,false,false⟩]/\σ'.w=w'/\Evo U σ'/\(∀j c,hl (D6 n 0 cells) (.c n j)=some c->CelF σ' n j c)) (by simp) a'.defers σ' (λb hb=>⟨h3.1.h.ou b hb,λhM=>h3.1.h.dis b hM hb⟩) (DOK.of' h3.1.df) λW ko kO kb=>?_
     ·rwa [A05]at this
     ·have evρ:Evo U W:=⟨λn hn=>by rw[ko.al,ko.rb];exact ev.box n hn,λn hn l' hl'=>by rw[ko.ra];rw[ko.ln]at hl';exact ev.arr n hn l' hl',λb o hb hm=>by obtain⟨q1,q2⟩:=ev.fro b o hb hm;exact⟨kb b o (.inl (u0.1 hb).1) q1,by rw[ko.M];exact q2⟩,kO.trans ev.out,A09 ev.sz ko.sz,ev.io.trans ko.io⟩
      exact⟨W,rfl,rfl,evρ,λj c hj=>(h3.1.h.oth ko).cel n j c (h5 j c hj)⟩
    |normal=>simp[AE.of]at h4;subst h4;exact h5.elim
    |ret=>simp[AE.of]at h4;subst h4;exact h5.elim
    |exit i=>simp[AE.of]at h4;subst h4;exact h5.elim
    |goto l=>simp[AE.of]at h4
    |outgrown=>simp[AE.of]at h4
   ·refine⟨⟨hI,λt=>?_,by show _=fn.ntmps;simp;omega,DOK.nil (w6 _) hgl⟩,λm hm=>by rw[hal m hm];exact w6 _,trivial⟩;rw[F5];split
    ·rename_i ht;simp only[A16,A08,true_and]at ht;have hg:args[t]? =some args[t]:=t6 ht;obtain⟨x,g1,g2⟩:=C1 hv t _ hg;have e1:args.getD (t-0) .un=args[t]:=by simp[ht]
     have hlt':t<vs.length:=by omega
     have e2:(vs.toArray++Array.replicate (fn.ntmps-vs.toArray.size) undef).getD t undef=x:=by rw[t6 hlt']at g1;simp at g1;simp[A32,A30,hlt',g1]
     rw[e1,e2];exact g2
    ·simp[Rep]
  ·simp at hc
 ·simp at hc
attribute [go_sem] Kh Ps IB N0
theorem N1{V:Ctx}{Fa:Prop}(hΓ:V.OK)(fa:Fa)(i:Nat){rid:Nat}{ops:List AOp}{Q:AE->St->Prop}{e e1:Ar}{h h1:Hp}{c:Nat}{vc vp:Prop}{d:Option Nat}{f:Nat}{ys:List Opd}{p:Value}(hQ:Q (.p p) ⟨e1,h1,c+1⟩)(hyo:ops[i]? =some ⟨d,none,.call f ys⟩:=by rfl)(hex:Fa->Bh V.S (c+1) (100*rid) (ops.take i) e h=some (vc,e1,h1):=by intro fa;simp only[go_sem,seval,fa]<;>eq_refl)(hvc:Fa->vc:=by intro fa;simp only[go_sem,seval,fa])(hp:Fa->Kh V.S h1 f (ys.map λx=>Ay true (Ax e1 x))=some (vp,p):=by intro fa;simp only[go_sem,seval,fa]<;>eq_refl)(hvp:Fa->vp:=by intro fa;simp only[go_sem,seval,fa]):Aq V (.reg rid ops) Q ⟨e,h,c⟩:=bI hΓ i hyo (hex fa) (hvc fa) (hp fa) (hvp fa) hQ
theorem pY{V:Ctx}{Fa:Prop}(hΓ:V.OK)(fa:Fa)(i:Nat)(fk:AV){rid:Nat}{ops:List AOp}{un:List (Nat×Nat)}{Q:AE->St->Prop}{e e':Ar}{h h':Hp}{c:Nat}{vc:Prop}{recs:List Rec}{d:Option Nat}{f:Nat}{ys:List Opd}{p:Value}(hQ:Q (.p p) ⟨N0 ops e,h,c+1⟩)(hyo:ops[i]? =some ⟨d,none,.call f ys⟩:=by rfl)(hex:Fa->IB (Ps V.S (c+1) (100*rid+i) p fk) (100*rid) ops e h=some (vc,e',h',recs):=by intro fa;simp only[go_sem,seval,fa]<;>eq_refl)(hun:Ni recs un=true:=by simp only[go_sem,seval])(hvc:Fa->vc:=by intro fa;repeat' (first|omega|(simp only[go_sem,seval,fa];done)|(refine And.intro ?_ ?_)))(hq:((ops.take i).all λo=>PV o.k)=true:=by rfl)(hq2:MC (ops.drop i|>.take 1) (ops.drop (i+1))=true:=by rfl):Aq V (.drw rid ops un) Q ⟨e,h,c⟩:=bJ hΓ i fk hyo (hex fa) hun (hvc fa) hq hq2 hQ
end
def F3:List (List AV)->List (List AV)->Prop|[],[]=>True|r::rs,s::ss=>GW r s/\F3 rs ss|_,_=>False
mutual
theorem kY:∀x:AV,wk x x
 |.sl _ _ _ _=>⟨rfl,.inl rfl,λh=>h⟩
 |.agg a=>M5 a
 |.tup a=>M5 a
 |.v _=>rfl
 |.ro _ _=>rfl
 |.clo _ _ _=>rfl
 |.box _ _=>rfl
 |.own _ _=>rfl
 |.elem _ _ _ _ _=>rfl
 |.gd _ _=>rfl
 |.mp _=>rfl
 |.un=>rfl
theorem M5:∀xs:List AV,GW xs xs
 |[]=>trivial
 |x::xs=>⟨kY x,M5 xs⟩
end
theorem JM:∀rs:List (List AV),F3 rs rs
 |[]=>trivial
 |r::rs=>⟨M5 r,JM rs⟩
theorem VU:∀(xs ys:List AV),GW xs ys->xs.length=ys.length
 |[],[],_=>rfl
 |_::xs,_::ys,h=>by simp only[GW]at h;simp[VU xs ys h.2]
 |[],_::_,h=>by simp[GW]at h
 |_::_,[],h=>by simp[GW]at h
theorem VV:∀(xs ys:List (List AV)),F3 xs ys->xs.length=ys.length
 |[],[],_=>rfl
 |_::xs,_::ys,h=>by simp only[F3]at h;simp[VV xs ys h.2]
 |[],_::_,h=>by simp[F3]at h
 |_::_,[],h=>by simp[F3]at h
theorem Tv:∀(xs ys:List (List AV)),F3 xs ys->(∀r∈xs,AA r=true)->∀r∈ys,AA r=true
 |[],[],_,_=>by simp
 |x::xs,y::ys,h,hp=>by
  simp only[F3]at h;intro r hr;rcases y6.1 hr with rfl|hr
  ·exact Ly x r h.1 (hp x (by simp))
  ·exact Tv xs ys h.2 (λr hr=>hp r (by simp[hr])) r hr
 |[],_::_,h,_=>by simp[F3]at h
 |_::_,[],h,_=>by simp[F3]at h
theorem R9{U:Cf}{b:Nat}:∀(xs ys:List AV)(o:Nat),GW xs ys->RepCells U b o xs->RepCells U b o ys
 |[],[],_,_,h=>h
 |x::xs,y::ys,o,h,hr=>by simp only[GW]at h;simp only[RepCells]at hr⊢;obtain⟨⟨v,h1,h2,h3⟩,h4⟩:=hr;exact⟨⟨v,h1,h2,JP x y v h.1 h3⟩,R9 xs ys (o+1) h.2 h4⟩
 |[],_::_,_,h,_=>by simp[GW]at h
 |_::_,[],_,h,_=>by simp[GW]at h
theorem Tw{U:Cf}{sz b:Nat}:∀(xs ys:List (List AV))(o:Nat),F3 xs ys->RepRows U sz b o xs->RepRows U sz b o ys
 |[],[],_,_,h=>h
 |x::xs,y::ys,o,h,hr=>by simp only[F3]at h;simp only[RepRows]at hr⊢;exact⟨by rw[<-VU x y h.1];exact hr.1,R9 x y o h.1 hr.2.1,Tw xs ys (o+sz) h.2 hr.2.2⟩
 |[],_::_,_,h,_=>by simp[F3]at h
 |_::_,[],_,h,_=>by simp[F3]at h
mutual
def Gd:AV->AV->Prop|.sl z f rows _,.sl z' f' rows' _=>F3 rows rows'/\(z=z'\/rows=[])/\(f'=true->f=true)|.agg a,.agg b=>GH a b|.tup a,.tup b=>GH a b|x,y=>x=y
def GH:List AV->List AV->Prop|[],[]=>True|x::xs,y::ys=>Gd x y/\GH xs ys|_,_=>False
end
mutual
theorem L3{U:Cf}:∀(x y:AV)(v:Value),Gd x y->(BN x=true->BN y=true)/\(Rep U x v->Rep U y v)
 |.sl z f rows d,y,v,h=>by
  cases y with
  |sl z' f' rows' d'=>
   simp only[Gd]at h;obtain⟨h1,h2,h3⟩:=h;refine⟨λ_=>rfl,λhr=>?_⟩;simp only[Rep]at hr⊢;obtain⟨base,cap,e1,e2,e3,e4,e5⟩:=hr;have hl:=VV _ _ h1;refine⟨base,cap,by rw[<-hl];exact e1,by rw[<-hl];exact e2,λe=>by rw[<-hl];exact e3 (h3 e),Tv _ _ h1 e4,?_⟩;rcases e5 with rfl|⟨b,o,g1,g2,g3⟩
   ·exact .inl (A45.1 hl.symm)
   ·rcases h2 with rfl|rfl
    ·exact .inr ⟨b,o,g1,g2,Tw _ _ o h1 g3⟩
    ·exact .inl (A45.1 hl.symm)
  |_=>simp only[Gd]at h;cases h
 |.agg a,y,v,h=>by
  cases y with
  |agg b=>
   simp only[Gd]at h;have k:=λxs=>FL (U:=U) a b xs h
   refine⟨λhp=>by simp only[BN]at hp⊢;exact(k []).1 hp,λhr=>?_⟩;simp only[Rep]at hr⊢;obtain⟨xs,e1,e2,e3⟩:=hr;exact⟨xs,e1,e2,(k xs).2 e3⟩
  |_=>simp only[Gd]at h;cases h
 |.tup a,y,v,h=>by
  cases y with
  |tup b=>
   simp only[Gd]at h;have k:=λxs=>FL (U:=U) a b xs h
   refine⟨λhp=>by simp only[BN]at hp⊢;exact(k []).1 hp,λhr=>?_⟩;simp only[Rep]at hr⊢;obtain⟨xs,e1,e3⟩:=hr;exact⟨xs,e1,(k xs).2 e3⟩
  |_=>simp only[Gd]at h;cases h
 |.v x,y,v,h=>by simp only[Gd]at h;rw[<-h];exact⟨id,id⟩
 |.ro _ _,y,v,h=>by simp only[Gd]at h;rw[<-h];exact⟨id,id⟩
 |.clo _ _ _,y,v,h=>by simp only[Gd]at h;rw[<-h];exact⟨id,id⟩
 |.box _ _,y,v,h=>by simp only[Gd]at h;rw[<-h];exact⟨id,id⟩
 |.own _ _,y,v,h=>by simp only[Gd]at h;rw[<-h];exact⟨id,id⟩
 |.elem _ _ _ _ _,y,v,h=>by simp only[Gd]at h;rw[<-h];exact⟨id,id⟩
 |.gd _ _,y,v,h=>by simp only[Gd]at h;rw[<-h];exact⟨id,id⟩
 |.mp _,y,v,h=>by simp only[Gd]at h;rw[<-h];exact⟨id,id⟩
 |.un,y,v,h=>by simp only[Gd]at h;rw[<-h];exact⟨id,id⟩
theorem FL{U:Cf}:∀(xs ys:List AV)(vs:List Value),GH xs ys->(AA xs=true->AA ys=true)/\(RepL U xs vs->RepL U ys vs)
 |[],[],vs,_=>⟨id,id⟩
 |x::xs,y::ys,vs,h=>by
  simp only[GH]at h;refine⟨λhp=>?_,λhr=>?_⟩
  ·simp only[AA,y8]at hp⊢;exact⟨(L3 (U:=U) x y .nilFunc h.1).1 hp.1,(FL (U:=U) xs ys [] h.2).1 hp.2⟩
  ·simp only[RepL]at hr⊢;obtain⟨u,us,e1,e2,e3⟩:=hr;exact⟨u,us,e1,(L3 x y u h.1).2 e2,(FL xs ys us h.2).2 e3⟩
 |[],_::_,vs,h=>by simp[GH]at h
 |_::_,[],vs,h=>by simp[GH]at h
end
theorem PCall.argD{P:Program}{f:Nat}{args args':List AV}{r:AV}(hw:GH args args')(h:PCall P f args' r):PCall P f args r:=λU vs hg hl hp hr=>h U vs hg hl ((FL (U:=U) _ _ vs hw).1 hp) ((FL _ _ _ hw).2 hr)
theorem Wk.ofD{x y:AV}(h:Gd x y):Wk x y:=λ_ v k=>(L3 x y v h).2 k
theorem kZ{rvs:List RV}{r:AV}{e:Ar}{h:Hp}{c:Nat}{vc:Prop}{xs:List AV}(h1:DK e h rvs=some (vc,xs))(h2:vc)(h3:FI h (one xs))(h4:Gd (res h (one xs)) r)(h5:BN r=true):Bq rvs r .r ⟨e,h,c⟩:=⟨vc,xs,h1,h2,h3,.ofD h4,h5⟩
theorem lA{rvs:List RV}{r:AV}{e:Ar}{h:Hp}{c:Nat}{vc:Prop}{xs:List AV}(h1:DK e h rvs=some (vc,xs))(h2:vc)(h3:FI h (one xs))(h4:Gd (res h (one xs)) r)(h5:BN r=true):Bq rvs r .n ⟨e,h,c⟩:=⟨vc,xs,h1,h2,h3,.ofD h4,h5⟩
attribute [go_sem] F3 JM Gd GH
theorem lB{V:Ctx}(hΓ:V.OK)(i:Nat){rid:Nat}{ops:List AOp}{yo:AOp}{Q:AE->St->Prop}{e e1:Ar}{h h1:Hp}{c:Nat}{vc:Prop}{r:AV}{h2:Hp}(hyo:ops[i]? =some yo)(hex:Bh V.S (c+1) (100*rid) (ops.take i) e h=some (vc,e1,h1))(hvc:vc)(hg:D8 e1 yo.g=some true)(hnd:∀x,yo.k≠.dfr x)(hnb2:yo.k≠.bad)(hst:∀(o:Oper) (a1:Act) (σ1:Cf),yo.k=cK V.P o.op->Inv σ1 e1 h1 a1 V.nt V.hb->¬σ1.al (100*rid+i,c+1)->Step V.P o a1 σ1 (100*rid+i,c+1) h2 r){vc2:Prop}{e2:Ar}{h3:Hp}(hpost:Bh V.S (c+1) (100*rid+(i+1)) (ops.drop (i+1)) (BQ yo.d r e1) h2=some (vc2,e2,h3))(hvc2:vc2)(hQ:Q .n ⟨e2,h3,c+1⟩):Aq V (.reg rid ops) Q ⟨e,h,c⟩:=by
 intro code hc U a hA;cases code with
 |region id ops' d=>
  simp only[cCode]at hc;obtain⟨l0,hx0,⟨rfl,e0⟩|⟨_,_,_,_,e0⟩⟩:=BM hc
  ·cases e0
   refine wpIn_region ?_;obtain⟨c1,c2⟩:=CM hx0;obtain⟨t1,t2⟩:=Cj i hx0;obtain⟨_,t3⟩:=Cj (i+1) hx0;have hi:i<ops.length:=(y5.1 hyo).1;have hsz:ops.length=ops'.size:=c1.trans (by simp);have hi':i<ops'.size:=by omega
   have ho:ops'[i]? =some ops'[i]:=w7 hi';obtain⟨yo',g1,g2⟩:=c2 i ops'[i] (by simp);rw[hyo]at g1;cases g1
   obtain⟨k1,k3,k4⟩:=M2 g2;have hr:List.range ops'.size=List.range' 0 (ops'.toList.take i).length++(i::List.range' (i+1) (ops'.toList.drop (i+1)).length):=by
    have e1:(ops'.toList.take i).length=i:=by simp;omega
    have e2:(ops'.toList.drop (i+1)).length=ops'.size-(i+1):=by simp
    rw[e1,e2,A36,<-A38];have:=List.range'_append_1 (s:=0) (m:=i) (n:=ops'.size-(i+1)+1);rw[A08]at this;rw[this];congr 1;omega
   rw[hr];refine E0 hΓ (cnt:=c) (100*rid) e _ (ops'.toList.take i) 0 (ops.take i) U e e1 h h1 a vc (λ_ _=>rfl) (λj hj=>?_) t1 hex hvc hA.1 (λm hm=>.inl (hA.2.1 m hm)) λa1 σ1 ev1 hI1 hal1 hfar1=>?_
   ·have:j<i:=by simp at hj;omega
    simp[A27,this]
   rw[wpOpsIn_cons];have hw:=DA hI1.t k4 hg;have hno:∀c,ops'[i].op≠.defer c:=λc hd=>by
    rw[hd]at k1;simp only[cK]at k1;split at k1
    ·exact hnd _ k1
    ·exact hnb2 k1
   have hd:∀k,ops'[i].dst=some k->k<a1.tmps.size:=by rw[k3];intro d hd;rw[hI1.sz];exact C9 g2 d hd
   have hnm:¬σ1.al (100*rid+i,c+1):=by
    intro hm;rcases hal1 _ hm with h|h
    ·simp at h;omega
    ·simp at h;omega
   refine HP hΓ.F ho hno hw (hst ops'[i] a1 σ1 k1 hI1 hnm) λv σ2 hn hv=>?_
   have hI2:Inv σ2 (BQ yo.d r e1) h2 (a1.put ops'[i].dst v) V.nt V.hb:=by
    refine⟨hn.inv,?_,by rw[Act.size_put];exact hI1.sz,?_⟩
    ·rw[<-k3];exact(hI1.t.mono hn.evo).put hd hv
    ·rw[Act.defers_put,show lk (BQ yo.d r e1) (dk V.nt)=lk e1 (dk V.nt)from DL (C9 g2) (by unfold dk;omega)];exact hI1.df.mono hn.evo
   have hal2:∀m,σ2.al m->m.2<=c\/(m.2=c+1/\m.1<100*rid+(i+1)):=by
    intro m hm;rcases hn.al m hm with hm|rfl
    ·rcases hal1 m hm with h|⟨h3,h4⟩
     ·exact .inl h
     ·right;simp at h4;omega
    ·right;exact⟨rfl,by simp⟩
   exact FS hΓ (ops:=ops') (Q:=Q) (cnt:=c) (100*rid) e U hA.2.2 (ops'.toList.drop (i+1)) (i+1) (ops.drop (i+1)) σ2 _ _ _ _ _ vc2 (λt ht=>(DL (C9 g2) ht).trans (hfar1 t ht)) (λj=>by simp) (by simp;omega) t3 hpost hvc2 (ev1.trans hn.evo) hI2 hal2 hQ
  ·cases e0
 |seq x y=>simp only[cCode]at hc;split at hc<;>simp at hc
 |cond c x y=>simp only[cCode]at hc;split at hc<;>simp at hc
 |rangeFunc f ps x y=>simp only[cCode]at hc;split at hc<;>simp at hc
 |_=>simp[cCode]at hc
theorem Rt{V:Ctx}(hΓ:V.OK)(i:Nat){rid:Nat}{ops:List AOp}{Q:AE->St->Prop}{e e1:Ar}{h h1:Hp}{c:Nat}{vc:Prop}{dd:Option Nat}{f:Nat}{x0:Opd}{xo:List Opd}{sz len:Nat}{rows rows':List (List AV)}{ax d:List AV}{n:Nm}(hf:C0 V.P f)(hyo:ops[i]? =some ⟨dd,none,.call f (x0::xo)⟩)(hex:Bh V.S (c+1) (100*rid) (ops.take i) e h=some (vc,e1,h1))(hvc:vc)(h0:Ay true (Ax e1 x0)=.own n len)(hn:hl h1 (.a n)=some (.sl sz true rows d))(hlen:len=rows.length)(hax:EP h1 (xo.map λx=>Ay true (Ax e1 x))=ax)(hrv:E2 h1 (xo.map λx=>Ay true (Ax e1 x)))(hnb:F0 (xo.map λx=>Ay true (Ax e1 x))=true)(hni:n∉Dy (xo.map λx=>Ay true (Ax e1 x)))(hr':∀r∈rows',r.length=sz/\AA r=true)(hC:Kg V.P f sz rows ax rows'){vc2:Prop}{e2:Ar}{h3:Hp}(hpost:Bh V.S (c+1) (100*rid+(i+1)) (ops.drop (i+1)) (BQ dd (.sl sz false rows' d) e1) ((.a n,.un)::(frz h1 (Dy (xo.map λx=>Ay true (Ax e1 x)))++h1))=some (vc2,e2,h3))(hvc2:vc2)(hQ:Q .n ⟨e2,h3,c+1⟩):Aq V (.reg rid ops) Q ⟨e,h,c⟩:=by
 refine lB hΓ i hyo hex hvc (Eq.refl _) (λx e=>by cases e) (λe=>by cases e) (λo a1 σ1 hk hI hnm=>?_) hpost hvc2 hQ;obtain⟨cl,ho,hcl,hargs⟩:=VO hk;have hV:=F2 (g:=true) rfl hI.t cl.args.toList;rw[<-hargs]at hV;simp only[w5,RepL]at hV;obtain⟨y,vs,hvs,hy,hV⟩:=hV;have hy:Rep σ1 (Ay true (Ax e1 x0)) y:=hy;rw[h0]at hy;have hc:=TM (nm:=(100*rid+i,c+1)) hI.df.gl hI.h hn hlen hy hV hax hrv hnb hni hr' hC;refine .inr ⟨f,_,?_,hc⟩;have hr:=FE hf (cl.args.map a1.eval) σ1.w;have ha:cl.args.map a1.eval=(y::vs).toArray:=by rw[<-hvs];apply Array.ext';simp
 rw[ha]at hr;simp only[execOp,ho,resolve,hcl,Act.eval,Sem.run_bind,Deferred.ofValue,Sem.run_pure,Result.andThen,invoke]
 first|exact hr|(simp[ha];exact hr)
inductive TyK where
 |i (k:IntKind)|b|s|fc|pt|mp (k e:Nat)|sl (e:Nat)|fu|ar (n e:Nat)|st (fs:List (Nat×Nat))|x
structure TyI where
 k:TyK
 ag:Bool
 sz:Nat
 bt:Nat
 z:List AV
 ks:List Bool
abbrev QE:=Nat->TyI
def qA(pf:Nat->Nat×Nat)(l:List (Nat×Operand)):List (Nat×Nat×Opd):=l.map λp=>((pf p.1).1,(pf p.1).2,Al p.2)
def gPl(T:QE)(t:Nat)(j:Nat):Nat×Nat:=match(T t).k with
 |.st fs=>match fs[j]? with|some (o,u)=>(o,(T u).sz)|none=>(0,0)
 |.ar _ e=>(j*(T e).sz,(T e).sz)
 |_=>(0,0)
def zV(op:BinOp)(x y:Opd):AK:=match op with|.shl=>.pr (.shf .shl) [x,y]|.shr=>.pr (.shf .shr) [x,y]|.and=>.pr (.bits .and) [x,y]|.or=>.pr (.bits .or) [x,y]|.xor=>.pr (.bits .xor) [x,y]|.andNot=>.pr (.bits .andNot) [x,y]|op=>.bin op .int x y
def AbZ(T:QE)(op:BinOp)(t:Nat)(x y:Opd):AK:=match(T t).k with
 |.i _=>zV op x y
 |.b=>.bin op .bool x y
 |.s=>I9 op x y
 |.fc=>Ja op x y
 |.pt=>Jb op x y
 |.fu=>Jc op x y
 |.st _=>.bin op (.cells (T t).ks) x y
 |.ar _ _=>.bin op (.cells (T t).ks) x y
 |.sl _=>match op with|.eql=>.nils false x|_=>.nils true x
 |.mp _ _=>.bad
 |.x=>.bad
def zW(T:QE)(c:Call):AK:=match c.callee with
 |.value (.func f)=>.call f (c.args.toList.map Al)
 |.value x=>.cv (Al x) (c.args.toList.map Al)
 |.builtin .len=>match c.args.toList,c.argTypes.toList with
  |[x],[t]=>match(T t).k with|.s=>.pr .slen [Al x]|_=>.len (Al x)
  |_,_=>.bad
 |.builtin .append=>match c.args.toList,c.argTypes.toList with
  |[s,x],[t,t']=>match(T t).k with|.sl e=>bif Nat.beq t t' then .app (T e).sz (T e).bt (T e).z (Al s) (Al x)else .appn (T e).sz (T e).bt (T e).z (Al s) (Al x)|_=>.bad
  |_,_=>.bad
 |.builtin .cap=>match c.args.toList with|[x]=>.cap (Al x)|_=>.bad
 |.builtin .recover=>.rcv
 |.builtin .clear=>match c.args.toList,c.argTypes.toList with
  |[x],[t]=>match(T t).k with|.sl e=>.clr (T e).sz (T e).z (Al x)|_=>.bad
  |_,_=>.bad
 |.builtin .max=>.mm true (c.args.toList.map Al)
 |.builtin .min=>.mm false (c.args.toList.map Al)
 |_=>.bad
def gK(T:QE)(op:Op):AK:=match op with
 |.move x=>.mv (Al x)
 |.assign x=>.mv (Al x)
 |.pick c a b=>.pick (Al c) (Al a) (Al b)
 |.alloc t=>bif Xd (T t).z then .allocB t else .alloc (T t).z
 |.box t x=>.box (T t).sz (Al x)
 |.build t parts=>.build (T t).z (qA (gPl T t) parts.toList)
 |.buildSlice t len parts=>match(T t).k with|.sl e=>.bsl (T e).sz len (T e).z (parts.toList.map λp=>(p.1,Al p.2))|_=>.bad
 |.load t x=>.ld (T t).sz (T t).ag (Al x)
 |.store t a x=>.st (T t).sz (Al a) (Al x)
 |.fieldAddr s x f=>.fa (gPl T s f).1 (Al x)
 |.field t x f=>match(T t).k with
  |.st fs=>match fs[f]? with|some (o,u)=>.fld o (T u).sz (T u).ag (Al x)|none=>.bad
  |_=>.bad
 |.indexAddr t x ix=>match(T t).k with|.sl e=>.ia (T e).sz (Al x) (Al ix)|.ar n e=>.iaA n (T e).sz (Al x) (Al ix)|_=>.bad
 |.index t x ix=>match(T t).k with|.ar n e=>.idxA n (T e).sz (T e).ag (Al x) (Al ix)|_=>.pr .sidx [Al x,Al ix]
 |.binOp op t x y _=>AbZ T op t (Al x) (Al y)
 |.unOp op _ x=>.un op (Al x)
 |.extract x i=>.ext (Al x) i
 |.call c=>zW T c
 |.makeFunc fn a b=>.mkf fn (a.toList.map Al) (b.toList.map Al)
 |.slice t x lo hi mx=>match(T t).k with|.sl e=>.slc (T e).sz (Al x) (lo.map Al) (hi.map Al) (mx.map Al)|_=>match lo,hi with|none,none=>.pr (.ssl false false) [Al x]|some l,none=>.pr (.ssl true false) [Al x,Al l]|none,some h=>.pr (.ssl false true) [Al x,Al h]|some l,some h=>.pr (.ssl true true) [Al x,Al l,Al h]
 |.nilCheck x=>.nilc (Al x)
 |.convert src dst x=>match(T src).k,(T dst).k with|.i .i64,.i .i64=>.cnv .i64 (Al x)|.i _,.i k=>.pr (.cvw k) [Al x]|.sl _,_=>.b2s (Al x)|_,_=>.bad
 |.panic x=>.pan (Al x)
 |.defer c=>match c.callee with|.value x=>.dfr (Al x)|_=>.bad
 |.makeInterface t x=>match(T t).k with|.st _=>.pr (.mkI t) [Al x]|_=>.bad
 |.typeAssert x _ t _=>.pr (.tas t) [Al x]
 |.makeMap _ _=>.mkm
 |.makeSlice t n c=>match(T t).k with|.sl e=>.mks (T e).sz (T e).bt (T e).z (Al n) (Al c)|_=>.bad
 |.entry x=>.ent (Al x)
 |.lookup t m k ok=>match(T t).k with|.mp _ e=>.mlk (bif (T e).ag then .agg (T e).z else(T e).z.headD .un) ok (Al m) (Al k)|_=>.bad
 |.mapUpdate _ m k x=>.mup (Al m) (Al k) (Al x)
 |.insert _ m k x=>.mup (Al m) (Al k) (Al x)
 |.range _ x=>.rng (Al x)
 |.next x _=>.nxt (Al x)
 |_=>.bad
def gG(ops:Array Oper):Option (Nat×Bool)->Option (Nat×Bool)|none=>none|some (j,want)=>match(ops[j]?).bind (·.dst)with|some d=>some (d,want)|none=>none
def cY(T:QE)(ops:Array Oper):List Oper->List AOp|[]=>[]|o::r=>⟨o.dst,gG ops o.guard,gK T o.op⟩::cY T ops r
abbrev iP:=List (List (Nat×Nat))
def Kj(T:QE):Code->iP->AC×iP
 |.skip,u=>(.nop,u)
 |.label _,u=>(.nop,u)
 |.region id ops false,u=>(.reg id (cY T ops ops.toList),u)
 |.region id ops true,u=>(.drw id (cY T ops ops.toList) (u.headD []),u.tail)
 |.seq a b,u=>match Kj T a u with|(x,u)=>match Kj T b u with|(y,u)=>(.seq x y,u)
 |.cond c a b,u=>match Kj T a u with|(x,u)=>match Kj T b u with|(y,u)=>(.cond (Al c) x y,u)
 |.block id a,u=>match Kj T a u with|(x,u)=>(.block id x,u)
 |.loop a,u=>match Kj T a u with|(x,u)=>(.loop x,u)
 |.scope a,u=>match Kj T a u with|(x,u)=>(.scp x,u)
 |.rangeFunc f ps a b,u=>match Kj T a u with|(x,u)=>match Kj T b u with|(y,u)=>(.rfun (Al f) ps.toList x y,u)
 |.exit id,u=>(.exit id,u)
 |.ret,u=>(.ret,u)
 |_,u=>(.nop,u)
def gRV(T:QE):ResultVar->RV|.tmp t=>.t t|.cell a t=>.c a (T t).sz (T t).ag
def Ab0(T:QE)(fn:Func)(u:iP):AC×List RV:=match fn.body with|some b=>((Kj T b u).1,fn.results.toList.map (gRV T))|none=>(.nop,[])
structure FnX(P:Program)(f:Nat) where
 fn:Func
 c:AC
 rv:List RV
 nt:Nat
 hf:P.funcs[f]? =some fn
 hc:Dj P fn=some (c,rv)
 hn:fn.ntmps=nt
 ok:C0 P f
noncomputable def Ad{P:Program}{f:Nat}{fn:Func}(T:QE)(hf:P.funcs[f]? =some fn)(u:iP)(x:{x:AC×List RV//Ab0 T fn u=x}:=by exact⟨_,by conv=>lhs;cbv⟩)(h:Dj P fn=some x.1:=by kernel_rfl)(n:{n:Nat//fn.ntmps=n}:=by exact⟨_,by conv=>lhs;cbv⟩)(a:fn.body.isNone=false:=by kernel_rfl)(b:(fn.name== "runtime.NumGoroutine")=false:=by kernel_rfl):FnX P f:=⟨fn,x.1.1,x.1.2,n.1,hf,h,n.2,fn,hf,a,b⟩
theorem B3(l:List UInt8):ByteArray.mk (Array.mk l)=sB l:=rfl
