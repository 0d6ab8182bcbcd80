import Derived.Test.YtjdchfljifacoaaGreatA16
set_option linter.all false
namespace Go.Proofs.YtjdchfljifacoaaGreat.Am
open Go
section
def LY(S:Tab)(hp:Hp)(f:Nat)(args:List AV):Option (Prop×Value):=match FK args with
 |some n=>match S.p f args (C0 hp n 0 40)with|some (vc,v)=>some (Ik args=true/\Ix (C0 hp n 0 40)=true/\(C0 hp n 0 40).isEmpty=false/\KD hp n (C0 hp n 0 40).length/\vc,v)|none=>S.y f args (args.map (qv hp))
 |none=>none
theorem Xr{S:Tab}{hp hp':Hp}{f:Nat}{xs:List AV}(h:Ag hp hp' (HE hp xs)):LY S hp f xs=LY S hp' f xs:=by
 unfold LY;cases hb:FK xs with
 |none=>rfl
 |some n=>
  have h5:=λj=>h (.b n) (RD hb) _ ⟨j,rfl⟩
  have h6:KD hp n=KD hp' n:=by unfold KD;simp only[h5]
  simp only[Ju h5,h6,T5 h]
section
variable{P:Program}{S:Tab}{U:Cf}{hp:Hp}{vc:Prop}
theorem gQ(hS:TabOK P S)(gl:Gl U)(h:HInv U hp)(hal:∃c,∀m,U.al m->m.2<=c){f:Nat}{args:List AV}{vs:List Value}{v:Value}(hx:RepL U args vs)(hex:LY S hp f args=some (vc,v))(hvc:vc):Dh P f/\Calls P f vs.toArray U.w λe w'=>∃σ',e=.panicked [⟨v,false,false⟩]/\σ'.w=w'/\Evo U σ'/\HInv σ' hp/\∀m,σ'.al m->U.al m:=by
 unfold LY at hex;split at hex
 ·rename_i n hn;split at hex
  ·rename_i p v' hs;obtain⟨rfl,rfl⟩:=hex;obtain⟨v1,v4,v5,v6,v7⟩:=hvc;obtain⟨k1,k2⟩:=hS.p f _ _ _ _ n hs v7 hn;refine⟨k1,?_⟩;have hc:∀j c,(C0 hp n 0 40)[j]? =some c↔hl hp (.c n j)=some c:=λj c=>by
    refine⟨λh=>by simpa using NR h,λh=>?_⟩;rcases Ke j (C0 hp n 0 40).length with h1|h1
    ·have:=NR (dO h1);grind
    ·rw[v6 j h1]at h;cases h
   refine(k2 (U.only n) vs (λb j hj=>⟨(gl b j hj).1.only,(gl b j hj).2⟩) (h.only (by grind) v4) (λm hm=>hm.1) (OZ v1 hn hx)).mono ?_;rintro en w' ⟨σ',rfl,hw,ev,hcel⟩;obtain⟨e1,e2⟩:=h.back (us:=[]) hc v5 v4 rfl hw ev hcel;exact⟨U.at w',rfl,rfl,e1,e2,λm hm=>hm⟩
  ·obtain⟨k1,k2⟩:=hS.y f _ _ _ _ hex hvc;exact⟨k1,k2 U hp vs gl h hal hx rfl⟩
 ·simp at hex
theorem Vz{F:Fence}(hS:TabOK P S)(hF:Wide F){n nt i:Nat}{hb:HB}{ops:Array Oper}{Q:Exit->Act->World->Prop}{K:Act->World->Prop}{o:Oper}{a:Act}{env:Az}{d:Option Nat}{f:Nat}{ys:List Opd}{v:Value}(hi:ops[i]? =some o)(hc:LE P nt ops o=some ⟨d,none,.call f ys⟩)(hI:Inv U env hp a nt hb)(hal:∃c,∀m,U.al m->m.2<=c)(hex:LY S hp f (ys.map λx=>AJ true (AI env x))=some (vc,v))(hvc:vc)(hQ:∀σ',Evo U σ'->HInv σ' hp->(∀m,σ'.al m->U.al m)->Q (.panic [⟨v,false,false⟩]) a σ'.w):wpOpIn F n P ops Q i K a U.w:=by
 obtain⟨c,ho,hcal,rfl,hd,hg⟩:=V8 hc rfl;have hw:=D6 hI.t hg rfl;obtain⟨k1,k2⟩:=gQ hS hI.df.gl hI.h hal (Gj rfl hI.t c.args.toList) hex hvc;unfold wpOpIn;simp only[hi,hw];refine⟨λf _=>hF.fn f,?_⟩;rw[Oper.semAt_eq F.round a.eval o (by grind)];have hr:(execOp a.eval o).run P U.w=.ok (.enter f (c.args.toList.map a.eval).toArray) U.w:=by
  have hr:=FS k1 (c.args.map a.eval) U.w;rw[<-Array.toList_map,Array.toArray_toList]
  simp_all[execOp,resolve,Act.eval,Deferred.ofValue,invoke]
 rw[hr];refine⟨λh=>by simp[hF.depth]at h,hF.calls (k2.mono ?_)⟩;grind
end
def PP:List AOp->Az->Az|[],e=>e|o::l,e=>BV o.d .un (PP l e)
theorem aL:∀(l:List AOp)(e:Az)(t:Nat),lk (PP l e) t=.un\/(lk (PP l e) t=lk e t/\∀o∈l,o.d≠some t)
 |[],e,t=>.inr ⟨rfl,by simp⟩
 |o::l,e,t=>by
  simp only[PP,Ss];by_cases h:o.d=some t
  ·rw[dW h];exact .inl rfl
  ·rcases aL l e t with h1|⟨h1,h2⟩
   all_goals grind
theorem XX{nt t:Nat}(ht:nt<=t):∀{l:List AOp}{e:Az},(∀o∈l,∀d,o.d=some d->d<nt)->lk (PP l e) t=lk e t
 |[],_,_=>rfl
 |o::l,e,h=>by simp only[PP];rw[Ee (h o (by simp)) ht];exact XX ht λp hp=>by grind
theorem gR{P:Program}{nt:Nat}{ops':Array Oper}{ops:List AOp}(h:GZ P nt ops' ops'.toList=some ops):∀o∈ops,∀d,o.d=some d->d<nt:=by
 obtain⟨c1,c2⟩:=C9 h;intro o ho;obtain⟨i,hi⟩:=List.getElem?_of_mem ho;have hlt:i<ops'.toList.length:=by grind
 obtain⟨x,g1,g2⟩:=c2 i _ (dO hlt);rw[hi]at g1;cases g1
 exact DA g2
variable{V:Ctx}
theorem gS(hΓ:V.OK)(i:Nat){rid:Nat}{ops:List AOp}{Q:AE->St->Prop}{e e1:Az}{h h1:Hp}{c:Nat}{vc vp:Prop}{d:Option Nat}{f:Nat}{ys:List Opd}{v:Value}(hyo:ops[i]? =some ⟨d,none,.call f ys⟩)(hex:Bg V.S (c+1) (100*rid) (ops.take i) e h=some (vc,e1,h1))(hvc:vc)(hp:LY V.S h1 f (ys.map λx=>AJ true (AI e1 x))=some (vp,v))(hvp:vp)(hQ:Q (.p v) ⟨e1,h1,c+1⟩):Ax V (.reg rid ops) Q ⟨e,h,c⟩:=by
 intro code hc U a hA;cases code with
 |region id ops' d'=>
  obtain⟨l0,hx0,⟨rfl,e0⟩|⟨_,_,_,_,e0⟩⟩:=Cc hc
  ·cases e0
   refine wpIn_region ?_;obtain⟨c1,c2⟩:=C9 hx0;obtain⟨t1,t2⟩:=CE i hx0;have hi:i<ops.length:=by grind
   have hsz:ops.length=ops'.size:=by omega
   obtain⟨yo',g1,g2⟩:=c2 i ops'[i] (by simp);rw[hyo]at g1;cases g1
   have hr:List.range ops'.size=List.range' 0 (ops'.toList.take i).length++i::List.range' (i+1) (ops'.size-(i+1)):=by
    have e1:(ops'.toList.take i).length=i:=by simp;omega
    rw[e1,y7,show List.range' 0 ops'.size=List.range' 0 (i+(ops'.size-i)) by grind,<-List.range'_append_1,rB,show ops'.size-i=(ops'.size-(i+1))+1 by omega,z9]
   rw[hr];refine F6 hΓ (100*rid) e _ (ops'.toList.take i) 0 (ops.take i) U e e1 h h1 a vc (λ_ _=>rfl) (λj hj=>?_) t1 hex hvc hA.1 (λm hm=>.inl (hA.2.1 m hm)) λa1 σ1 ev1 hI1 hal1 hfar1=>?_
   ·grind
   refine Vz hΓ.S hΓ.F (by grind) g2 hI1 ⟨c+1,by grind⟩ hp hvp λσ2 ev2 hh2 hal2=>?_
   exact⟨σ2,⟨e1,h1,c+1⟩,_,rfl,V.ofE (ev1.trans ev2),⟨⟨hh2,hI1.t.mono ev2,hI1.sz,hI1.df.mono ev2⟩,by grind,V.g hA.2.2 (ev1.trans ev2) λt ht=>.inr (hfar1 t ht)⟩,rfl,hQ⟩
  ·cases e0
 |seq x y=>simp only[cCode]at hc;split at hc<;>simp at hc
 |cond c x y=>simp only[cCode]at hc;split at hc<;>simp at hc
 |rangeFunc f ps x y=>simp only[cCode]at hc;split at hc<;>simp at hc
 |_=>simp[cCode]at hc
def Q7(S:Tab)(ver pk:Nat)(v:Value)(fk:AV)(k:Nat)(env:Az)(hp:Hp)(o:AOp):Option (Prop×AV×Hp):=
 if k=pk then(match o.g,o.k with
  |none,.call f ys=>match LY S hp f (ys.map λx=>AJ true (AI env x))with|some (vc,v')=>some (vc/\v'=v,fk,[])|none=>none
  |_,_=>none)
 else Jj S (k,ver) env hp o
theorem aM{S:Tab}{ver pk k:Nat}{v:Value}{fk:AV}{env env':Az}{hp hp':Hp}{o:AOp}(ht:∀t∈Na o,lk env t=lk env' t)(hh:Ag hp hp' (NT env hp o)):Q7 S ver pk v fk k env hp o=Q7 S ver pk v fk k env' hp' o:=by
 unfold Q7;by_cases h:k=pk
 ·rw[dW h,dW h];obtain⟨d,g,kk⟩:=o;cases g with
  |some p=>rfl
  |none=>
   cases kk with
   |call f ys=>
    have h1:(ys.map λx=>AJ true (AI env x))=ys.map λx=>AJ true (AI env' x):=HT λt h=>ht t (by simp[Na,L8,h])
    simp;rw[<-h1,Xr hh]
   |_=>rfl
 ·rw[dQ h,dQ h];exact O5 ht hh
def Rv:AK->Bool|.alloc _=>true|.box _ _=>true|k=> !hw k
theorem S8{n:Nm}{p:Loc×AV}:∀{cs:List AV}{o:Nat},p∈DJ n o cs->PL p.1=(false,n)
 |[],_,h=>by cases h
 |c::cs,o,h=>by
  rcases kC.1 h with rfl|h
  ·rfl
  ·exact S8 h
theorem aN{S:Tab}{nm:Nm}{env:Az}{hp:Hp}{o:AOp}{vc:Prop}{r:AV}{ws:Hp}(hk:Rv o.k=true)(h:Jj S nm env hp o=some (vc,r,ws)):∀p∈ws,PL p.1=(false,nm):=by
 have key:∀(g:Bool)(vc:Prop)(r:AV)(ws:Hp),AO S env hp nm g o.k=some (vc,r,ws)->∀p∈ws,PL p.1=(false,nm):=λg vc r ws h=>by
  cases hh:hw o.k with
  |false=>rw[Tf hh h];simp
  |true=>
   cases ho:o.k with
   |alloc zs=>rw[ho]at h;simp only[AO,yE,KW]at h;obtain⟨_,_,rfl⟩:=h;exact λp hp=>S8 hp
   |box n x=>
    rw[ho]at h;simp only[AO,UR]at h;split at h
    ·split at h
     ·simp only[yE,KW]at h;obtain⟨_,_,rfl⟩:=h;exact λp hp=>S8 hp
     ·cases h
    ·cases h
   |_=>rw[ho]at hk hh;simp[Rv,hh]at hk
 unfold Jj at h;grind
theorem nH{l:Loc}:∀{ws:Hp},(∀p∈ws,p.1≠l)->hl ws l=none
 |[],_=>rfl
 |(q1,q2)::qs,h=>by rw[hl,dQ (h (q1,q2) (by simp))];exact nH λp hp=>h p (by simp[hp])
theorem XY{rec:Nat->Rec}{hp:Hp}{l:Loc}:∀(L:List Nat),(∀i∈L,∀p∈(rec i).ws,p.1≠l)->hl (Hq rec hp L) l=hl hp l
 |[],_=>rfl
 |i::L,h=>by rw[Hq,Jk,XY L λj hj=>h j (by simp[hj])];rw[nH (h i (by simp))];rfl
def Ok(D:List AOp):List AOp->Bool|[]=>true|o::r=>bif D.all (λm=>JK m o)then Rv o.k&&Ok D r else Ok (o::D) r
theorem OT{B:List Nat}{n:Nat}{L:List Nat}{ao:Nat->AOp}(hD:Done n B L)(tmp:∀k j,k<j->j<n->(B.getD j 0).testBit k=true\/JK (ao k) (ao j)=true):∀(l:List AOp)(D:List AOp)(k:Nat),Ok D l=true->(∀i o,l[i]? =some o->ao (k+i)=o)->k+l.length=n->(∀m∈D,∃j,j<k/\ao j=m/\j∉L)->∀i,i<l.length->k+i∈L->Rv (ao (k+i)).k=true
 |[],_,_,_,_,_,_,i,hi,_=>by simp at hi
 |o::l,D,k,hq,hl,hn,hDD,i,hi,hL=>by
  have hk:ao k=o:=by simpa using hl 0 o rfl
  have hl':∀i p,l[i]? =some p->ao (k+1+i)=p:=λi p h=>by rw[show k+1+i=k+(i+1) by omega];exact hl (i+1) p (by simpa using h)
  simp only[pV]at hn hi;simp only[Ok]at hq;cases hall:D.all λm=>JK m o with
  |true=>
   rw[hall,cond_true,nK]at hq;rcases i with _|i
   ·rw[Gt,hk];simpa using hq.1
   ·rw[show k+(i+1)=k+1+i by omega]at hL⊢;exact OT hD tmp l D (k+1) hq.2 hl' (by omega) (λm hm=>by grind) i (by omega) hL
  |false=>
   rw[hall,sH]at hq;have hkL:k∉L:=λh=>by
    obtain⟨m,hm,hf⟩:∃m∈D,JK m o=false:=by simpa[List.all_eq_false]using hall
    obtain⟨j,h1,rfl,h2⟩:=hDD m hm;rcases tmp j k h1 (by omega)with h3|h3
    ·exact h2 (hD.cl k h j h3)
    ·rw[hk,hf]at h3;cases h3
   rcases i with _|i
   ·exact absurd hL hkL
   ·rw[show k+(i+1)=k+1+i by omega]at hL⊢;refine OT hD tmp l (o::D) (k+1) hq hl' (by omega) (λm hm=>?_) i (by omega) hL;grind
theorem VA{rec:Nat->Rec}{env:Az}{t:Nat}:∀(L:List Nat),(∀i∈L,(rec i).d≠some t)->lk (FO rec env L) t=lk env t
 |[],_=>rfl
 |i::L,h=>by simp only[FO,Ss];rw[dQ (h i (by simp))];exact VA L λj hj=>h j (by simp[hj])
theorem gT(hΓ:V.OK)(p:Nat)(fk:AV){rid:Nat}{ops:List AOp}{un:List (Nat×Nat)}{Q:AE->St->Prop}{e e':Az}{h h':Hp}{c:Nat}{vc:Prop}{recs:List Rec}{d:Option Nat}{f:Nat}{ys:List Opd}{v:Value}(hyo:ops[p]? =some ⟨d,none,.call f ys⟩)(hex:Ko (Q7 V.S (c+1) (100*rid+p) v fk) (100*rid) ops e h=some (vc,e',h',recs))(hun:O7 recs un=true)(hvc:vc)(hq:((ops.take p).all λo=>Rv o.k)=true)(hq2:Ok (ops.drop p|>.take 1) (ops.drop (p+1))=true)(hQ:Q (.p v) ⟨PP ops e,h,c+1⟩):Ax V (.drw rid ops un) Q ⟨e,h,c⟩:=by
 intro code hc U a hA;cases code with
 |region id ops' d=>
  simp only[cCode]at hc;obtain⟨l,hx,⟨_,e⟩|⟨rfl,hf,un',hu,e⟩⟩:=Cc hc
  ·cases e
  ·cases e
   refine wpIn_region_any hf ?_;obtain⟨B,b1,b2,rfl⟩:=Pc hu;obtain⟨c1,c2⟩:=C9 hx;have hlen:ops.length=ops'.size:=by simpa using c1
   have hrl:=K9 hex;have hop:∀i o,ops'[i]? =some o->∃x,ops[i]? =some x/\LE V.P V.nt ops' o=some x:=λi o ho=>c2 i o (by simpa using ho)
   have hao:∀i x,ops[i]? =some x->ops.getD i default=x:=λi x h=>by simp[dM,h]
   have hsp:=MP (rec:=λi=>recs.getD i default) (env0:=e) (hp0:=h) (all:=ops) (bs:=100*rid) ops 0 recs vc e' h' (λi=>by simp) hex hvc (λi hi=>by grind);simp only[rB]at hsp;obtain⟨e1,e2,run⟩:=hsp;have get:∀i,i<ops.length->ops[i]? =some (ops.getD i default):=λi hi=>by simp[dM,hi]
   have hp:p<ops.length:=(jW.1 hyo).1;have hpo:=hao p _ hyo;have ne:∀i,i<ops.length->hw (ops.getD i default).k=false->100*rid+i≠100*rid+p:=λi hi hf he=>by
    have:i=p:=by omega
    subst this;rw[hpo]at hf;simp[hw]at hf
   have hws:∀i,i<ops.length->hw (ops.getD i default).k=false->(recs.getD i default).ws=[]:=λi hi hf=>by obtain⟨_,_,g,_⟩:=run i _ (get i hi);unfold Q7 at g;rw[dQ (ne i hi hf)]at g;exact RE hf g
   have hrd:∀i,i<ops.length->ht (ops.getD i default).k=false->(recs.getD i default).rd=[]:=λi hi h=>by obtain⟨_,_,_,_,g⟩:=run i _ (get i hi);rw[g];exact QJ h
   have G:Good V.P (λi e h=>Q7 V.S (c+1) (100*rid+p) v fk (100*rid+i) e h (ops.getD i default)) V.nt ops.length ops' B (λi=>recs.getD i default) e h λi=>ops.getD i default:=
    {cg:=λi e e' h h' ht hh=>aM ht hh
     sz:=Nat.le_of_eq hlen
     bef:=λi o ho=>by have:=MM b1 i o (by simpa using ho);simpa using this
     op:=λi o ho=>by grind
     run:=λi hi=>run i _ (get i hi)
     tmp:=λk j hk hj=>by
      have h1:=O9 b2 j _ (get j hj);rw[rB]at h1;have h2:=MN h1 k (ops.getD k default) (by grind)
      rwa [rB]at h2
     mem:=λk j hk hj=>by
      have h2:=MO (B:=B.getD j 0) (j:=j) (o:=ops.getD j default) (l:=ops.take j) (k:=0) k (ops.getD k default) (by grind);rw[rB]at h2;rcases h2 with h|h|h
      ·exact .inl h
      ·right;right;simp only[y8,z8]at h;have hk':k<ops.length:=by omega
       rcases h.1 with g1|g1
       ·grind
       ·exact .inr (.inl ⟨hws j hj (Zo g1),hrd j hj g1⟩)
      ·exact .inr (.inl (P1 hun k j (Pa (all:=ops) (j:=0) j _ (get j hj) _ (by rw[rB];exact h))))}
   have far:=gR hx;obtain⟨σ',w1,w2,w3⟩:=hA.drawn (U.w.drawn+1);rw[<-w1];refine Yi (bs:=100*rid) (λi=>i=p) G hlen.symm (λhall=>absurd rfl (hall p hp)) hA.2.2 (λi o L σ1 a1 K hin g2 hst hD ha ho ev1 hI hal hK=>?_) ops'.size [] _ σ' a (by simp) ⟨by simp,by simp,.nil⟩ (by simp) (λi hi=>?_) (by rw[Pb,hlen]) w2 w3.1 λm hm=>.inl (w3.2.1 m hm)
   ·obtain⟨vc,hvc,hex,hd,_⟩:=G.run i hin;rw[<-G.same hD hin g2 ha]at hex;simp only[Q7]at hex;by_cases hip:i=p
    ·subst hip;rw[dW rfl,hpo]at hex;simp only at hex;have hiL:i∉L:=g2;have q1:∀j∈L,Rv (ops.getD j default).k=true:=λj hj=>by
      have hjn:=hD.lt j hj;rcases Nat.lt_trichotomy j i with hlt|heq|hgt
      ·have:=List.all_eq_true.1 hq (ops.getD j default) (sN (i:=j) (by grind));simpa using this
      ·exact absurd hj (heq▸hiL)
      ·have:=OT hD G.tmp (ops.drop (i+1)) _ (i+1) hq2 (λk o ho=>by grind) (by simp;omega) (λm hm=>?_) (j-(i+1)) (by simp;omega) (by grind)
       ·grind
       ·refine⟨i,Ki i,?_,hiL⟩;obtain⟨k,hk⟩:=List.getElem?_of_mem hm;grind
     have hold:∀l x,hl h l=some x->hl (Hq (λi=>recs.getD i default) h L) l=some x:=λl x hl'=>by
      rw[XY L λj hj q hq=>?_]
      ·exact hl'
      ·rintro rfl;obtain⟨_,_,g,_⟩:=G.run j (hD.lt j hj);simp only[Q7]at g;rw[dQ (by grind)]at g;have h1:=aN (q1 j hj) g q hq;have h2:σ'.al (100*rid+j,c+1):=by
        cases hq1:q.1 with
        |c m k=>rw[hq1]at h1 hl';simp only[PL,KW,true_and]at h1;subst h1;exact(w3.1.h.cel _ _ _ hl').1
        |a m=>rw[hq1]at h1;simp[PL]at h1
       exact absurd (w3.2.1 _ h2) (Nat.not_succ_le_self c)
     split at hex
     ·rename_i vp v' hpan;simp only[yE,KW]at hex;obtain⟨rfl,_,_⟩:=hex;obtain⟨hvp,rfl⟩:=hvc;have hco:=G.op i o ho;rw[hpo]at hco;refine Vz hΓ.S hΓ.F ho hco hI ⟨c+1,λm hm=>by grind⟩ hpan hvp λσ2 ev2 hh2 hal2=>?_
      obtain⟨ev3,hh3⟩:=hh2.sub hold;have ev2:=ev2.trans ev3;rw[show σ2.w=({σ2 with ln:=lenOf h}:Cf).w from rfl];have hfar:∀t,V.nt<=t->lk (PP ops e) t=lk e t:=λt ht=>XX ht far
      refine⟨{σ2 with ln:=lenOf h},⟨PP ops e,h,c+1⟩,_,rfl,V.ofE (ev1.trans ev2),⟨⟨hh3,λt=>?_,hI.sz,?_⟩,λm hm=>?_,V.g hA.2.2 (ev1.trans ev2) λt ht=>.inr (hfar t ht)⟩,rfl,hQ⟩
      ·rcases aL ops e t with h1|⟨h1,h2⟩
       ·rw[h1];simp[Rep]
       ·rw[h1];have h3:=hI.t.mono ev2 t
        rwa [VA L λj hj=>?_]at h3
        obtain⟨_,_,_,hdj,_⟩:=G.run j (hD.lt j hj);rw[hdj];exact h2 _ (sN (get j (hD.lt j hj)))
      ·have h3:=hI.df.mono ev2;rw[RF (t:=dk V.nt) L (λj hj=>G.far j (hD.lt j hj)) (Kj _ _)]at h3;rw[hfar (dk V.nt) (Kj _ _)];exact h3
      grind
     ·cases hex
    ·rw[dQ (by omega)]at hex;refine K7 hΓ.S hΓ.F ho (G.op i o ho) hI ⟨λh=>?_,c+1,λm hm=>by grind⟩ hex hvc (hK hip);grind
   ·simp[Array.getD,hi]
 |seq x y=>simp only[cCode]at hc;split at hc<;>simp at hc
 |cond c x y=>simp only[cCode]at hc;split at hc<;>simp at hc
 |rangeFunc f ps x y=>simp only[cCode]at hc;split at hc<;>simp at hc
 |_=>simp[cCode]at hc
theorem A8{b:AC}{Q:AE->St->Prop}{s:St}{v:Value}(h:Q (.p v) s):BO V b Q (.p v) s:=h
theorem A9{id:Nat}{Q:AE->St->Prop}{s:St}{v:Value}(h:Q (.p v) s):BB id Q (.p v) s:=h
theorem Bh{b:AC}{Q:AE->St->Prop}{m:Nat}{s:St}{v:Value}(h:Q (.p v) s):Ti V b Q m (.p v) s:=h
theorem AR{X:Type}{I:X->St}{Pre:X->Prop}{μ:X->Nat}{n:Nat}{Q:AE->St->Prop}{s:St}{v:Value}(h:Q (.p v) s):Bj I Pre μ n Q (.p v) s:=h
def uY(v:Value)(K:St->Prop):AE->St->Prop|.p u,s=>u=v/\K s|_,_=>False
theorem uZ{v:Value}{K:St->Prop}{s:St}(h:K s):uY v K (.p v) s:=⟨rfl,h⟩
theorem aO{P:Program}{S:Tab}(hS:TabOK P S){f:Nat}{fn:Func}{c:AC}{rvs:List RV}{n:Nm}{args cells:List AV}{v:Value}(nt:Nat)(hf:P.funcs[f]? =some fn)(hc:Du P fn=some (c,rvs))(hnt:fn.ntmps=nt)(hn:args.length<=nt)(h:∀hb,Ax (Ctx.fn P S nt hb) c (uY v λs=>∀j c,hl (DJ n 0 cells) (.c n j)=some c->hl s.hp (.c n j)=some c) ⟨BQ 0 args,DJ n 0 cells,n.2⟩):R9 P f n args cells v:=by
 intro U vs hgl hI hal hv;subst hnt;unfold Du at hc;split at hc
 ·rename_i b hbd;split at hc
  ·rename_i c' r' g1 g2;simp at hc;obtain⟨rfl,rfl⟩:=hc;have hlen:=Bs hv;have hw:=h U.w.heap.size b g1 U {tmps:=vs.toArray++Array.replicate (fn.ntmps-vs.toArray.size) undef,defers:=[]} ?_
   ·refine callsIn_wide.1 (callsIn_of_wp_marks (n:=0) hf hbd trivial (wpIn_mono hw ?_));rintro e a' w' ⟨σ',s',e',rfl,ev,h3,h4,h5⟩;have ev:Evo U σ':=ev;cases e with
    |panic c=>
     obtain⟨v,rfl,rfl⟩:=AE.of_panic h4;obtain⟨rfl,h5⟩:=h5;have:=ML (dd:=[]) (u:=.panicking [⟨v,false,false⟩]) (F:=Fence.wide) (n:=0) (P:=P) (fn:=fn) (tmps:=a'.tmps) (R:=λe w'=>∃σ',e=.panicked [⟨v,false,false⟩]/\σ'.w=w'/\Evo U σ'/\(∀j c,hl (DJ n 0 cells) (.c n j)=some c->CelF σ' n j c)) (by simp) a'.defers σ' (λb hb=>⟨h3.1.h.ou b hb,λhM=>h3.1.h.dis b hM hb⟩) (DOK.of' h3.1.df) λW ko kO kb=>?_
     ·rwa [qO]at this
     ·have evρ:Evo U W:=⟨λn hn=>by rw[ko.al,ko.rb];exact ev.box n hn,λn hn l' hl'=>by rw[ko.ra];rw[ko.ln]at hl';exact ev.arr n hn l' hl',λb o hb hm=>by obtain⟨q1,q2⟩:=ev.fro b o hb hm;exact⟨kb b o (.inl (dY.1 hb).1) q1,by rw[ko.M];exact q2⟩,kO.trans ev.out,rC ev.sz ko.sz,ev.io.trans ko.io⟩
      exact⟨W,rfl,rfl,evρ,λj c hj=>(h3.1.h.oth ko).cel n j c (h5 j c hj)⟩
    |normal=>simp[AE.of]at h4;subst h4;exact h5.elim
    |ret=>simp[AE.of]at h4;subst h4;exact h5.elim
    |exit i=>simp[AE.of]at h4;subst h4;exact h5.elim
    |goto l=>simp[AE.of]at h4
    |outgrown=>simp[AE.of]at h4
   ·refine⟨⟨hI,λt=>?_,by show _=fn.ntmps;simp;omega,DOK.nil (fW _) hgl⟩,λm hm=>by rw[hal m hm];exact fW _,trivial⟩;rw[Hn];split
    ·rename_i ht;simp only[tD,rB,true_and]at ht;have hg:args[t]? =some args[t]:=dO ht;obtain⟨x,g1,g2⟩:=Dr hv t _ hg;have e1:args.getD (t-0) .un=args[t]:=by simp[ht]
     have hlt':t<vs.length:=by omega
     have e2:(vs.toArray++Array.replicate (fn.ntmps-vs.toArray.size) undef).getD t undef=x:=by rw[dO hlt']at g1;simp at g1;simp[xW,w9,hlt',g1]
     rw[e1,e2];exact g2
    ·simp[Rep]
  ·simp at hc
 ·simp at hc
attribute [go_sem] LY Q7 Ko PP
theorem PQ{V:Ctx}{Fa:Prop}(hΓ:V.OK)(fa:Fa)(i:Nat){rid:Nat}{ops:List AOp}{Q:AE->St->Prop}{e e1:Az}{h h1:Hp}{c:Nat}{vc vp:Prop}{d:Option Nat}{f:Nat}{ys:List Opd}{p:Value}(hQ:Q (.p p) ⟨e1,h1,c+1⟩)(hyo:ops[i]? =some ⟨d,none,.call f ys⟩:=by rfl)(hex:Fa->Bg V.S (c+1) (100*rid) (ops.take i) e h=some (vc,e1,h1):=by intro fa;simp only[go_sem,seval,fa]<;>eq_refl)(hvc:Fa->vc:=by intro fa;simp only[go_sem,seval,fa])(hp:Fa->LY V.S h1 f (ys.map λx=>AJ true (AI e1 x))=some (vp,p):=by intro fa;simp only[go_sem,seval,fa]<;>eq_refl)(hvp:Fa->vp:=by intro fa;simp only[go_sem,seval,fa]):Ax V (.reg rid ops) Q ⟨e,h,c⟩:=gS hΓ i hyo (hex fa) (hvc fa) (hp fa) (hvp fa) hQ
theorem vA{V:Ctx}{Fa:Prop}(hΓ:V.OK)(fa:Fa)(i:Nat)(fk:AV){rid:Nat}{ops:List AOp}{un:List (Nat×Nat)}{Q:AE->St->Prop}{e e':Az}{h h':Hp}{c:Nat}{vc:Prop}{recs:List Rec}{d:Option Nat}{f:Nat}{ys:List Opd}{p:Value}(hQ:Q (.p p) ⟨PP ops e,h,c+1⟩)(hyo:ops[i]? =some ⟨d,none,.call f ys⟩:=by rfl)(hex:Fa->Ko (Q7 V.S (c+1) (100*rid+i) p fk) (100*rid) ops e h=some (vc,e',h',recs):=by intro fa;simp only[go_sem,seval,fa]<;>eq_refl)(hun:O7 recs un=true:=by simp only[go_sem,seval])(hvc:Fa->vc:=by intro fa;repeat' (first|omega|(simp only[go_sem,seval,fa];done)|(refine And.intro ?_ ?_)))(hq:((ops.take i).all λo=>Rv o.k)=true:=by rfl)(hq2:Ok (ops.drop i|>.take 1) (ops.drop (i+1))=true:=by rfl):Ax V (.drw rid ops un) Q ⟨e,h,c⟩:=gT hΓ i fk hyo (hex fa) hun (hvc fa) hq hq2 hQ
end
def Hk:List (List AV)->List (List AV)->Prop|[],[]=>True|r::rs,s::ss=>HS r s/\Hk rs ss|_,_=>False
mutual
theorem qP:∀x:AV,wk x x
 |.sl _ _ _ _=>⟨rfl,.inl rfl,λh=>h⟩
 |.agg a=>OU a
 |.tup a=>OU a
 |.v _=>rfl
 |.ro _ _=>rfl
 |.clo _ _ _=>rfl
 |.box _ _=>rfl
 |.own _ _=>rfl
 |.elem _ _ _ _ _=>rfl
 |.gd _ _=>rfl
 |.mp _=>rfl
 |.un=>rfl
theorem OU:∀xs:List AV,HS xs xs
 |[]=>trivial
 |x::xs=>⟨qP x,OU xs⟩
end
theorem LH:∀rs:List (List AV),Hk rs rs
 |[]=>trivial
 |r::rs=>⟨OU r,LH rs⟩
theorem XZ:∀(xs ys:List AV),HS xs ys->xs.length=ys.length
 |[],[],_=>rfl
 |_::xs,_::ys,h=>by simp only[HS]at h;simp[XZ xs ys h.2]
 |[],_::_,h=>by simp[HS]at h
 |_::_,[],h=>by simp[HS]at h
theorem X0:∀(xs ys:List (List AV)),Hk xs ys->xs.length=ys.length
 |[],[],_=>rfl
 |_::xs,_::ys,h=>by simp only[Hk]at h;simp[X0 xs ys h.2]
 |[],_::_,h=>by simp[Hk]at h
 |_::_,[],h=>by simp[Hk]at h
theorem VB:∀(xs ys:List (List AV)),Hk xs ys->(∀r∈xs,AP r=true)->∀r∈ys,AP r=true
 |[],[],_,_=>by simp
 |x::xs,y::ys,h,hp=>by
  simp only[Hk]at h;intro r hr;rcases kC.1 hr with rfl|hr
  ·exact Nf x r h.1 (hp x (by simp))
  ·exact VB xs ys h.2 (λr hr=>hp r (by simp[hr])) r hr
 |[],_::_,h,_=>by simp[Hk]at h
 |_::_,[],h,_=>by simp[Hk]at h
theorem TS{U:Cf}{b:Nat}:∀(xs ys:List AV)(o:Nat),HS xs ys->RepCells U b o xs->RepCells U b o ys
 |[],[],_,_,h=>h
 |x::xs,y::ys,o,h,hr=>by simp only[HS]at h;simp only[RepCells]at hr⊢;obtain⟨⟨v,h1,h2,h3⟩,h4⟩:=hr;exact⟨⟨v,h1,h2,KH x y v h.1 h3⟩,TS xs ys (o+1) h.2 h4⟩
 |[],_::_,_,h,_=>by simp[HS]at h
 |_::_,[],_,h,_=>by simp[HS]at h
theorem VC{U:Cf}{sz b:Nat}:∀(xs ys:List (List AV))(o:Nat),Hk xs ys->RepRows U sz b o xs->RepRows U sz b o ys
 |[],[],_,_,h=>h
 |x::xs,y::ys,o,h,hr=>by simp only[Hk]at h;simp only[RepRows]at hr⊢;exact⟨by rw[<-XZ x y h.1];exact hr.1,TS x y o h.1 hr.2.1,VC xs ys (o+sz) h.2 hr.2.2⟩
 |[],_::_,_,h,_=>by simp[Hk]at h
 |_::_,[],_,h,_=>by simp[Hk]at h
mutual
def HD:AV->AV->Prop|.sl z f rows _,.sl z' f' rows' _=>Hk rows rows'/\(z=z'\/rows=[])/\(f'=true->f=true)|.agg a,.agg b=>Ib a b|.tup a,.tup b=>Ib a b|x,y=>x=y
def Ib:List AV->List AV->Prop|[],[]=>True|x::xs,y::ys=>HD x y/\Ib xs ys|_,_=>False
end
mutual
theorem NP{U:Cf}:∀(x y:AV)(v:Value),HD x y->(B2 x=true->B2 y=true)/\(Rep U x v->Rep U y v)
 |.sl z f rows d,y,v,h=>by
  cases y with
  |sl z' f' rows' d'=>
   simp only[HD]at h;obtain⟨h1,h2,h3⟩:=h;refine⟨λ_=>rfl,λhr=>?_⟩;simp only[Rep]at hr⊢;obtain⟨base,cap,e1,e2,e3,e4,e5⟩:=hr;have hl:=X0 _ _ h1;refine⟨base,cap,by rw[<-hl];exact e1,by rw[<-hl];exact e2,λe=>by rw[<-hl];exact e3 (h3 e),VB _ _ h1 e4,?_⟩;rcases e5 with rfl|⟨b,o,g1,g2,g3⟩
   ·exact .inl (H8.1 hl.symm)
   ·rcases h2 with rfl|rfl
    ·exact .inr ⟨b,o,g1,g2,VC _ _ o h1 g3⟩
    ·exact .inl (H8.1 hl.symm)
  |_=>simp only[HD]at h;cases h
 |.agg a,y,v,h=>by
  cases y with
  |agg b=>
   simp only[HD]at h;have k:=λxs=>GY (U:=U) a b xs h
   refine⟨λhp=>by simp only[B2]at hp⊢;exact(k []).1 hp,λhr=>?_⟩;simp only[Rep]at hr⊢;obtain⟨xs,e1,e2,e3⟩:=hr;exact⟨xs,e1,e2,(k xs).2 e3⟩
  |_=>simp only[HD]at h;cases h
 |.tup a,y,v,h=>by
  cases y with
  |tup b=>
   simp only[HD]at h;have k:=λxs=>GY (U:=U) a b xs h
   refine⟨λhp=>by simp only[B2]at hp⊢;exact(k []).1 hp,λhr=>?_⟩;simp only[Rep]at hr⊢;obtain⟨xs,e1,e3⟩:=hr;exact⟨xs,e1,(k xs).2 e3⟩
  |_=>simp only[HD]at h;cases h
 |.v x,y,v,h=>by simp only[HD]at h;rw[<-h];exact⟨id,id⟩
 |.ro _ _,y,v,h=>by simp only[HD]at h;rw[<-h];exact⟨id,id⟩
 |.clo _ _ _,y,v,h=>by simp only[HD]at h;rw[<-h];exact⟨id,id⟩
 |.box _ _,y,v,h=>by simp only[HD]at h;rw[<-h];exact⟨id,id⟩
 |.own _ _,y,v,h=>by simp only[HD]at h;rw[<-h];exact⟨id,id⟩
 |.elem _ _ _ _ _,y,v,h=>by simp only[HD]at h;rw[<-h];exact⟨id,id⟩
 |.gd _ _,y,v,h=>by simp only[HD]at h;rw[<-h];exact⟨id,id⟩
 |.mp _,y,v,h=>by simp only[HD]at h;rw[<-h];exact⟨id,id⟩
 |.un,y,v,h=>by simp only[HD]at h;rw[<-h];exact⟨id,id⟩
theorem GY{U:Cf}:∀(xs ys:List AV)(vs:List Value),Ib xs ys->(AP xs=true->AP ys=true)/\(RepL U xs vs->RepL U ys vs)
 |[],[],vs,_=>⟨id,id⟩
 |x::xs,y::ys,vs,h=>by
  simp only[Ib]at h;refine⟨λhp=>?_,λhr=>?_⟩
  ·simp only[AP,nK]at hp⊢;exact⟨(NP (U:=U) x y .nilFunc h.1).1 hp.1,(GY (U:=U) xs ys [] h.2).1 hp.2⟩
  ·simp only[RepL]at hr⊢;obtain⟨u,us,e1,e2,e3⟩:=hr;exact⟨u,us,e1,(NP x y u h.1).2 e2,(GY xs ys us h.2).2 e3⟩
 |[],_::_,vs,h=>by simp[Ib]at h
 |_::_,[],vs,h=>by simp[Ib]at h
end
theorem PCall.argD{P:Program}{f:Nat}{args args':List AV}{r:AV}(hw:Ib args args')(h:PCall P f args' r):PCall P f args r:=λU vs hg hl hp hr=>h U vs hg hl ((GY (U:=U) _ _ vs hw).1 hp) ((GY _ _ _ hw).2 hr)
theorem Wk.ofD{x y:AV}(h:HD x y):Wk x y:=λ_ v k=>(NP x y v h).2 k
theorem qQ{rvs:List RV}{r:AV}{e:Az}{h:Hp}{c:Nat}{vc:Prop}{xs:List AV}(h1:DS e h rvs=some (vc,xs))(h2:vc)(h3:Gn h (one xs))(h4:HD (res h (one xs)) r)(h5:B2 r=true):BC rvs r .r ⟨e,h,c⟩:=⟨vc,xs,h1,h2,h3,.ofD h4,h5⟩
theorem qR{rvs:List RV}{r:AV}{e:Az}{h:Hp}{c:Nat}{vc:Prop}{xs:List AV}(h1:DS e h rvs=some (vc,xs))(h2:vc)(h3:Gn h (one xs))(h4:HD (res h (one xs)) r)(h5:B2 r=true):BC rvs r .n ⟨e,h,c⟩:=⟨vc,xs,h1,h2,h3,.ofD h4,h5⟩
attribute [go_sem] Hk LH HD Ib
theorem S9{V:Ctx}(hΓ:V.OK)(i:Nat){rid:Nat}{ops:List AOp}{yo:AOp}{Q:AE->St->Prop}{e e1:Az}{h h1:Hp}{c:Nat}{vc:Prop}{r:AV}{h2:Hp}(hyo:ops[i]? =some yo)(hex:Bg V.S (c+1) (100*rid) (ops.take i) e h=some (vc,e1,h1))(hvc:vc)(hg:Ei e1 yo.g=some true)(hnd:∀x,yo.k≠.dfr x)(hnb2:yo.k≠.bad)(hst:∀(o:Oper) (a1:Act) (σ1:Cf),yo.k=cK V.P o.op->Inv σ1 e1 h1 a1 V.nt V.hb->¬σ1.al (100*rid+i,c+1)->Step V.P o a1 σ1 (100*rid+i,c+1) h2 r){vc2:Prop}{e2:Az}{h3:Hp}(hpost:Bg V.S (c+1) (100*rid+(i+1)) (ops.drop (i+1)) (BV yo.d r e1) h2=some (vc2,e2,h3))(hvc2:vc2)(hQ:Q .n ⟨e2,h3,c+1⟩):Ax V (.reg rid ops) Q ⟨e,h,c⟩:=by
 intro code hc U a hA;cases code with
 |region id ops' d=>
  simp only[cCode]at hc;obtain⟨l0,hx0,⟨rfl,e0⟩|⟨_,_,_,_,e0⟩⟩:=Cc hc
  ·cases e0
   refine wpIn_region ?_;obtain⟨c1,c2⟩:=C9 hx0;obtain⟨t1,t2⟩:=CE i hx0;obtain⟨_,t3⟩:=CE (i+1) hx0;have hi:i<ops.length:=(jW.1 hyo).1;have hsz:ops.length=ops'.size:=c1.trans (by simp);have hi':i<ops'.size:=by omega
   have ho:ops'[i]? =some ops'[i]:=iW hi';obtain⟨yo',g1,g2⟩:=c2 i ops'[i] (by simp);rw[hyo]at g1;cases g1
   obtain⟨k1,k3,k4⟩:=OR g2;have hr:List.range ops'.size=List.range' 0 (ops'.toList.take i).length++(i::List.range' (i+1) (ops'.toList.drop (i+1)).length):=by
    have e1:(ops'.toList.take i).length=i:=by simp;omega
    have e2:(ops'.toList.drop (i+1)).length=ops'.size-(i+1):=by simp
    rw[e1,e2,y7,<-z9];have:=List.range'_append_1 (s:=0) (m:=i) (n:=ops'.size-(i+1)+1);rw[rB]at this;rw[this];congr 1;omega
   rw[hr];refine F6 hΓ (cnt:=c) (100*rid) e _ (ops'.toList.take i) 0 (ops.take i) U e e1 h h1 a vc (λ_ _=>rfl) (λj hj=>?_) t1 hex hvc hA.1 (λm hm=>.inl (hA.2.1 m hm)) λa1 σ1 ev1 hI1 hal1 hfar1=>?_
   ·have:j<i:=by simp at hj;omega
    simp[w5,this]
   rw[wpOpsIn_cons];have hw:=D6 hI1.t k4 hg;have hno:∀c,ops'[i].op≠.defer c:=λc hd=>by
    rw[hd]at k1;simp only[cK]at k1;split at k1
    ·exact hnd _ k1
    ·exact hnb2 k1
   have hd:∀k,ops'[i].dst=some k->k<a1.tmps.size:=by rw[k3];intro d hd;rw[hI1.sz];exact DA g2 d hd
   have hnm:¬σ1.al (100*rid+i,c+1):=by
    intro hm;rcases hal1 _ hm with h|h
    ·simp at h;omega
    ·simp at h;omega
   refine Js hΓ.F ho hno hw (hst ops'[i] a1 σ1 k1 hI1 hnm) λv σ2 hn hv=>?_
   have hI2:Inv σ2 (BV yo.d r e1) h2 (a1.put ops'[i].dst v) V.nt V.hb:=by
    refine⟨hn.inv,?_,by rw[Act.size_put];exact hI1.sz,?_⟩
    ·rw[<-k3];exact(hI1.t.mono hn.evo).put hd hv
    ·rw[Act.defers_put,show lk (BV yo.d r e1) (dk V.nt)=lk e1 (dk V.nt)from Ee (DA g2) (by unfold dk;omega)];exact hI1.df.mono hn.evo
   have hal2:∀m,σ2.al m->m.2<=c\/(m.2=c+1/\m.1<100*rid+(i+1)):=by
    intro m hm;rcases hn.al m hm with hm|rfl
    ·rcases hal1 m hm with h|⟨h3,h4⟩
     ·exact .inl h
     ·right;simp at h4;omega
    ·right;exact⟨rfl,by simp⟩
   exact G7 hΓ (ops:=ops') (Q:=Q) (cnt:=c) (100*rid) e U hA.2.2 (ops'.toList.drop (i+1)) (i+1) (ops.drop (i+1)) σ2 _ _ _ _ _ vc2 (λt ht=>(Ee (DA g2) ht).trans (hfar1 t ht)) (λj=>by simp) (by simp;omega) t3 hpost hvc2 (ev1.trans hn.evo) hI2 hal2 hQ
  ·cases e0
 |seq x y=>simp only[cCode]at hc;split at hc<;>simp at hc
 |cond c x y=>simp only[cCode]at hc;split at hc<;>simp at hc
 |rangeFunc f ps x y=>simp only[cCode]at hc;split at hc<;>simp at hc
 |_=>simp[cCode]at hc
theorem Ta{V:Ctx}(hΓ:V.OK)(i:Nat){rid:Nat}{ops:List AOp}{Q:AE->St->Prop}{e e1:Az}{h h1:Hp}{c:Nat}{vc:Prop}{dd:Option Nat}{f:Nat}{x0:Opd}{xo:List Opd}{sz len:Nat}{rows rows':List (List AV)}{ax d:List AV}{n:Nm}(hf:Dh V.P f)(hyo:ops[i]? =some ⟨dd,none,.call f (x0::xo)⟩)(hex:Bg V.S (c+1) (100*rid) (ops.take i) e h=some (vc,e1,h1))(hvc:vc)(h0:AJ true (AI e1 x0)=.own n len)(hn:hl h1 (.a n)=some (.sl sz true rows d))(hlen:len=rows.length)(hax:D5 h1 (xo.map λx=>AJ true (AI e1 x))=ax)(hrv:Ej h1 (xo.map λx=>AJ true (AI e1 x)))(hnb:Ft (xo.map λx=>AJ true (AI e1 x))=true)(hni:n∉B5 (xo.map λx=>AJ true (AI e1 x)))(hr':∀r∈rows',r.length=sz/\AP r=true)(hC:K4 V.P f sz rows ax rows'){vc2:Prop}{e2:Az}{h3:Hp}(hpost:Bg V.S (c+1) (100*rid+(i+1)) (ops.drop (i+1)) (BV dd (.sl sz false rows' d) e1) ((.a n,.un)::(frz h1 (B5 (xo.map λx=>AJ true (AI e1 x)))++h1))=some (vc2,e2,h3))(hvc2:vc2)(hQ:Q .n ⟨e2,h3,c+1⟩):Ax V (.reg rid ops) Q ⟨e,h,c⟩:=by
 refine S9 hΓ i hyo hex hvc (Eq.refl _) (λx e=>by cases e) (λe=>by cases e) (λo a1 σ1 hk hI hnm=>?_) hpost hvc2 hQ;obtain⟨cl,ho,hcl,hargs⟩:=QF hk;have hV:=Gj (g:=true) rfl hI.t cl.args.toList;rw[<-hargs]at hV;simp only[eG,RepL]at hV;obtain⟨y,vs,hvs,hy,hV⟩:=hV;have hy:Rep σ1 (AJ true (AI e1 x0)) y:=hy;rw[h0]at hy;have hc:=VS (nm:=(100*rid+i,c+1)) hI.df.gl hI.h hn hlen hy hV hax hrv hnb hni hr' hC;refine .inr ⟨f,_,?_,hc⟩;have hr:=FS hf (cl.args.map a1.eval) σ1.w;have ha:cl.args.map a1.eval=(y::vs).toArray:=by rw[<-hvs];apply Array.ext';simp
 rw[ha]at hr;simp only[execOp,ho,resolve,hcl,Act.eval,Sem.run_bind,Deferred.ofValue,Sem.run_pure,Result.andThen,invoke]
 first|exact hr|(simp[ha];exact hr)
inductive TyK where
 |i (k:IntKind)|b|s|fc|pt|mp (k e:Nat)|sl (e:Nat)|fu|ar (n e:Nat)|st (fs:List (Nat×Nat))|x
structure TyI where
 k:TyK
 ag:Bool
 sz:Nat
 bt:Nat
 z:List AV
 ks:List Bool
abbrev Sk:=Nat->TyI
def vD(pf:Nat->Nat×Nat)(l:List (Nat×Operand)):List (Nat×Nat×Opd):=l.map λp=>((pf p.1).1,(pf p.1).2,Av p.2)
def gPl(T:Sk)(t:Nat)(j:Nat):Nat×Nat:=match(T t).k with
 |.st fs=>match fs[j]? with|some (o,u)=>(o,(T u).sz)|none=>(0,0)
 |.ar _ e=>(j*(T e).sz,(T e).sz)
 |_=>(0,0)
def AbJ(op:BinOp)(x y:Opd):AK:=match op with|.shl=>.pr (.shf .shl) [x,y]|.shr=>.pr (.shf .shr) [x,y]|.and=>.pr (.bits .and) [x,y]|.or=>.pr (.bits .or) [x,y]|.xor=>.pr (.bits .xor) [x,y]|.andNot=>.pr (.bits .andNot) [x,y]|op=>.bin op .int x y
def Adt(T:Sk)(op:BinOp)(t:Nat)(x y:Opd):AK:=match(T t).k with
 |.i _=>AbJ op x y
 |.b=>.bin op .bool x y
 |.s=>Jm op x y
 |.fc=>Jn op x y
 |.pt=>Jo op x y
 |.fu=>Jp op x y
 |.st _=>.bin op (.cells (T t).ks) x y
 |.ar _ _=>.bin op (.cells (T t).ks) x y
 |.sl _=>match op with|.eql=>.nils false x|_=>.nils true x
 |.mp _ _=>.bad
 |.x=>.bad
def AbK(T:Sk)(c:Call):AK:=match c.callee with
 |.value (.func f)=>.call f (c.args.toList.map Av)
 |.value x=>.cv (Av x) (c.args.toList.map Av)
 |.builtin .len=>match c.args.toList,c.argTypes.toList with
  |[x],[t]=>match(T t).k with|.s=>.pr .slen [Av x]|_=>.len (Av x)
  |_,_=>.bad
 |.builtin .append=>match c.args.toList,c.argTypes.toList with
  |[s,x],[t,t']=>match(T t).k with|.sl e=>bif Nat.beq t t' then .app (T e).sz (T e).bt (T e).z (Av s) (Av x)else .appn (T e).sz (T e).bt (T e).z (Av s) (Av x)|_=>.bad
  |_,_=>.bad
 |.builtin .cap=>match c.args.toList with|[x]=>.cap (Av x)|_=>.bad
 |.builtin .recover=>.rcv
 |.builtin .clear=>match c.args.toList,c.argTypes.toList with
  |[x],[t]=>match(T t).k with|.sl e=>.clr (T e).sz (T e).z (Av x)|_=>.bad
  |_,_=>.bad
 |.builtin .max=>.mm true (c.args.toList.map Av)
 |.builtin .min=>.mm false (c.args.toList.map Av)
 |_=>.bad
def gK(T:Sk)(op:Op):AK:=match op with
 |.move x=>.mv (Av x)
 |.assign x=>.mv (Av x)
 |.pick c a b=>.pick (Av c) (Av a) (Av b)
 |.alloc t=>bif Zb (T t).z then .allocB t else .alloc (T t).z
 |.box t x=>.box (T t).sz (Av x)
 |.build t parts=>.build (T t).z (vD (gPl T t) parts.toList)
 |.buildSlice t len parts=>match(T t).k with|.sl e=>.bsl (T e).sz len (T e).z (parts.toList.map λp=>(p.1,Av p.2))|_=>.bad
 |.load t x=>.ld (T t).sz (T t).ag (Av x)
 |.store t a x=>.st (T t).sz (Av a) (Av x)
 |.fieldAddr s x f=>.fa (gPl T s f).1 (Av x)
 |.field t x f=>match(T t).k with
  |.st fs=>match fs[f]? with|some (o,u)=>.fld o (T u).sz (T u).ag (Av x)|none=>.bad
  |_=>.bad
 |.indexAddr t x ix=>match(T t).k with|.sl e=>.ia (T e).sz (Av x) (Av ix)|.ar n e=>.iaA n (T e).sz (Av x) (Av ix)|_=>.bad
 |.index t x ix=>match(T t).k with|.ar n e=>.idxA n (T e).sz (T e).ag (Av x) (Av ix)|_=>.pr .sidx [Av x,Av ix]
 |.binOp op t x y _=>Adt T op t (Av x) (Av y)
 |.unOp op _ x=>.un op (Av x)
 |.extract x i=>.ext (Av x) i
 |.call c=>AbK T c
 |.makeFunc fn a b=>.mkf fn (a.toList.map Av) (b.toList.map Av)
 |.slice t x lo hi mx=>match(T t).k with|.sl e=>.slc (T e).sz (Av x) (lo.map Av) (hi.map Av) (mx.map Av)|_=>match lo,hi with|none,none=>.pr (.ssl false false) [Av x]|some l,none=>.pr (.ssl true false) [Av x,Av l]|none,some h=>.pr (.ssl false true) [Av x,Av h]|some l,some h=>.pr (.ssl true true) [Av x,Av l,Av h]
 |.nilCheck x=>.nilc (Av x)
 |.convert src dst x=>match(T src).k,(T dst).k with|.i .i64,.i .i64=>.cnv .i64 (Av x)|.i _,.i k=>.pr (.cvw k) [Av x]|.sl _,_=>.b2s (Av x)|_,_=>.bad
 |.panic x=>.pan (Av x)
 |.defer c=>match c.callee with|.value x=>.dfr (Av x)|_=>.bad
 |.makeInterface t x=>match(T t).k with|.st _=>.pr (.mkI t) [Av x]|_=>.bad
 |.typeAssert x _ t _=>.pr (.tas t) [Av x]
 |.makeMap _ _=>.mkm
 |.makeSlice t n c=>match(T t).k with|.sl e=>.mks (T e).sz (T e).bt (T e).z (Av n) (Av c)|_=>.bad
 |.entry x=>.ent (Av x)
 |.lookup t m k ok=>match(T t).k with|.mp _ e=>.mlk (bif (T e).ag then .agg (T e).z else(T e).z.headD .un) ok (Av m) (Av k)|_=>.bad
 |.mapUpdate _ m k x=>.mup (Av m) (Av k) (Av x)
 |.insert _ m k x=>.mup (Av m) (Av k) (Av x)
 |.range _ x=>.rng (Av x)
 |.next x _=>.nxt (Av x)
 |_=>.bad
def gG(ops:Array Oper):Option (Nat×Bool)->Option (Nat×Bool)|none=>none|some (j,want)=>match(ops[j]?).bind (·.dst)with|some d=>some (d,want)|none=>none
def iV(T:Sk)(ops:Array Oper):List Oper->List AOp|[]=>[]|o::r=>⟨o.dst,gG ops o.guard,gK T o.op⟩::iV T ops r
abbrev nI:=List (List (Nat×Nat))
def L0(T:Sk):Code->nI->AC×nI
 |.skip,u=>(.nop,u)
 |.label _,u=>(.nop,u)
 |.region id ops false,u=>(.reg id (iV T ops ops.toList),u)
 |.region id ops true,u=>(.drw id (iV T ops ops.toList) (u.headD []),u.tail)
 |.seq a b,u=>match L0 T a u with|(x,u)=>match L0 T b u with|(y,u)=>(.seq x y,u)
 |.cond c a b,u=>match L0 T a u with|(x,u)=>match L0 T b u with|(y,u)=>(.cond (Av c) x y,u)
 |.block id a,u=>match L0 T a u with|(x,u)=>(.block id x,u)
 |.loop a,u=>match L0 T a u with|(x,u)=>(.loop x,u)
 |.scope a,u=>match L0 T a u with|(x,u)=>(.scp x,u)
 |.rangeFunc f ps a b,u=>match L0 T a u with|(x,u)=>match L0 T b u with|(y,u)=>(.rfun (Av f) ps.toList x y,u)
 |.exit id,u=>(.exit id,u)
 |.ret,u=>(.ret,u)
 |_,u=>(.nop,u)
def gRV(T:Sk):ResultVar->RV|.tmp t=>.t t|.cell a t=>.c a (T t).sz (T t).ag
def Adu(T:Sk)(fn:Func)(u:nI):AC×List RV:=match fn.body with|some b=>((L0 T b u).1,fn.results.toList.map (gRV T))|none=>(.nop,[])
structure FnX(P:Program)(f:Nat) where
 fn:Func
 c:AC
 rv:List RV
 nt:Nat
 hf:P.funcs[f]? =some fn
 hc:Du P fn=some (c,rv)
 hn:fn.ntmps=nt
 ok:Dh P f
noncomputable def Ah{P:Program}{f:Nat}{fn:Func}(T:Sk)(hf:P.funcs[f]? =some fn)(u:nI)(x:{x:AC×List RV//Adu T fn u=x}:=by exact⟨_,by conv=>lhs;cbv⟩)(h:Du P fn=some x.1:=by kernel_rfl)(n:{n:Nat//fn.ntmps=n}:=by exact⟨_,by conv=>lhs;cbv⟩)(a:fn.body.isNone=false:=by kernel_rfl)(b:(fn.name== "runtime.NumGoroutine")=false:=by kernel_rfl):FnX P f:=⟨fn,x.1.1,x.1.2,n.1,hf,h,n.2,fn,hf,a,b⟩
theorem BW(l:List UInt8):ByteArray.mk (Array.mk l)=sB l:=rfl
