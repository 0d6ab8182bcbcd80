import Derived.Test.YtciphecegkfaiaaGreatA25
import Derived.Test.YtciphecegkfaiaaGreatF2
set_option linter.unusedSimpArgs false
set_option linter.unusedVariables false
namespace Go.Proofs.YtciphecegkfaiaaGreat.Am
section
open Go
attribute [local irreducible] As Cn B6 BK CA BJ Bv Cl Cv Dx
set_option maxRecDepth 100000
set_option maxHeartbeats 8000000
def BC:Nat->List (Int×Int)->Int->Option Int|0,_,_=>none|n+1,l,a=>bif FB l a&&decide (¬Bg l a 0=a)then BC n l (Bg l a 0)else some a
def dI:List AV->Int×Int|[.v (.int .i64 a),.v (.int .i64 b)]=>(a,b)|_=>(0,0)
theorem AaF(l:List (Int×Int)):(l.map (rI eI)).map dI=l:=by rw[LB];exact(Mq λx _=>rfl).trans (List.map_id l)
def K7(n:Nat)(f:Nat):List AV->List AV->Option (Prop×AV)|[.v (.int .i64 x),.box a 0,.box b 0],[_,.agg [.gd false (.sl 0 true rows [])],.agg [.clo (.func g) [] [.box a' 0,.box b' 0]]]=>if f=133 then some ((g=133/\a'=a/\b'=b/\rows=(rows.map dI).map (rI eI))/\(BC n (rows.map dI) x).isSome=true,.i ((BC n (rows.map dI) x).getD 0))else none|_,_=>none
theorem SD{hp:Hp}{n:Nm}{c:AV}(h:CU hp n 0 40=[c]):hl hp (.c n 0)=some c/\isM c=false:=by have:=K1 40 0 0 c (by rw[h];rfl);simpa using this
theorem AaG{hp:Hp}{a:Nm}{rows:List (List AV)}(h:qv hp (.box a 0)=.agg [GX rows]):∃m,hl hp (.c a 0)=some (.mp m)/\hl hp (.c m 0)=some (GX rows):=by
 simp only[qv,AV.agg.injEq]at h;cases hb:CU hp a 0 40 with
 |nil=>rw[hb]at h;cases h
 |cons c cs=>
  rw[hb]at h;simp only[eZ,List.cons.injEq,List.map_eq_nil_iff]at h;obtain⟨h1,rfl⟩:=h;obtain⟨h2,h3⟩:=SD hb;cases c with
  |mp m=>
   refine⟨m,h2,?_⟩;unfold OM at h1;split at h1
   ·rename_i m' e;cases e
    split at h1
    ·rename_i rows' hr;simp only[AV.gd.injEq,AV.sl.injEq,true_and,and_true]at h1;rw[<-h1];exact Vi hr
    ·cases h1
   ·rename_i hne;exact absurd rfl (hne m)
  |gd b x=>rw[bT]at h3;cases h3
  |_=>simp[OM]at h1
theorem AaH{hp:Hp}{b:Nm}{f:Fn}{xs ys:List AV}(h:qv hp (.box b 0)=.agg [.clo f xs ys]):hl hp (.c b 0)=some (.clo f xs ys):=by
 simp only[qv,AV.agg.injEq]at h;cases hb:CU hp b 0 40 with
 |nil=>rw[hb]at h;cases h
 |cons c cs=>
  rw[hb]at h;simp only[eZ,List.cons.injEq,List.map_eq_nil_iff]at h;obtain⟨h1,rfl⟩:=h;obtain⟨h2,h3⟩:=SD hb;cases c with
  |mp m=>
   exfalso;unfold OM at h1;split at h1
   ·split at h1<;>simp at h1
   ·rename_i hne;exact hne m rfl
  |clo f' xs' ys'=>simp only[OM]at h1;rw[h2,h1]
  |_=>simp[OM]at h1
theorem WI{n:Nat}(h:∀args vs vc r,K7 n 133 args vs=some (vc,r)->vc->Rz Tryz.prog 133 args vs r):TabOK Tryz.prog (Nc [] (K7 n)):=by
 refine XF An λf args vs vc r hq hv=>?_
 by_cases hf:f=133
 ·subst hf;exact⟨x133.ok,h args vs vc r hq hv⟩
 ·exfalso;unfold K7 at hq;split at hq
  ·rw[eW hf]at hq;cases hq
  ·cases hq
section
attribute [local go_sem] K7 AaF
theorem gH:∀(n:Nat)(args vs:List AV)(vc:Prop)(r:AV),K7 n 133 args vs=some (vc,r)->vc->Rz Tryz.prog 133 args vs r:=by
 intro n;induction n with
 |zero=>
  intro args vs vc r h hv;unfold K7 at h;split at h
  ·rw[eX rfl]at h;cases h
   exact absurd hv.2 (by simp[BC])
  ·cases h
 |succ n ih=>
  intro args vs vc r h hv;have hS:=WI ih;unfold K7 at h;split at h
  rotate_left
  ·cases h
  rename_i x a b y rows g a' b';rw[eX rfl]at h;cases h
  obtain⟨⟨rfl,rfl,rfl,hr⟩,hs⟩:=hv;generalize rows.map dI=l at hr hs⊢;subst hr;obtain⟨r,hr⟩:=yX hs;rw[hr,mN];rw[BC]at hr;refine kG hS x133 rfl (mO rfl) λhb hp cnt hv=>?_
  simp only[eZ,w7,List.cons.injEq,and_true]at hv;obtain⟨_,v1,v2⟩:=hv;obtain⟨m,h1,h2⟩:=AaG v1;have h3:=AaH v2;have F:=fc h1 (fc h2 (fc h3 f0));dsimp only[x133,Al];refine go hS F ?_;refine cb F (FB l x&&decide (¬Bg l x 0=x)) (λhB=>?_) (λhB=>?_)
  ·rw[hB,Cg]at hr;have v0:qv hp (.v (.int .i64 (Bg l x 0)))=.v (.int .i64 (Bg l x 0)):=rfl;have F:=fc v0 (fc v1 (fc v2 (fc hr F)));refine go hS F ?_;exact R0 (by simp only[go_sem,seval,F]<;>eq_refl) (by simp only[go_sem,seval]) ⟨by simp only[go_sem,seval],rfl⟩
  ·rw[hB,tN]at hr;have F:=fc (yJ hr).symm F;refine go hS F ?_;exact R0 (by simp only[go_sem,seval,F]<;>eq_refl) (by simp only[go_sem,seval]) ⟨by simp only[go_sem,seval,F],rfl⟩
end
theorem vF(n:Nat):TabOK Tryz.prog (Nc [] (K7 n)):=WI (gH n)
end
def IL(r:Int->Int):List (Int×Int)->List Bool->List (Int×Int)|[],_=>[]|p::l,[]=>p::l|p::l,b::fl=>(p.1,bif b then r p.1 else p.2)::IL r l fl
theorem Uf(r:Int->Int):∀l:List (Int×Int),IL r l (l.map λ_=>false)=l
 |[]=>rfl
 |p::l=>by simp only[eZ,IL,tN,Uf r l]
theorem Tl(r:Int->Int):∀(l:List (Int×Int))(fl:List Bool),(IL r l fl).length=l.length
 |[],_=>rfl
 |_::_,[]=>rfl
 |p::l,b::fl=>by simp only[IL,pC,Tl r l fl]
theorem WK(r:Int->Int):∀(l:List (Int×Int))(fl:List Bool),fl.length=l.length->(∀x∈fl,x=true)->IL r l fl=l.map λp=>(p.1,r p.1)
 |[],_,_,_=>rfl
 |_::_,[],h,_=>by simp at h
 |p::l,b::fl,h,k=>by have hb:=k b (by simp);subst hb;simp only[IL,Cg,eZ,WK r l fl (by simpa using h) λx hx=>k x (by simp[hx])]
theorem YH(r:Int->Int):∀(l:List (Int×Int))(fl:List Bool)(j:Nat),fl[j]? =some false->(IL r l fl)[j]? =l[j]?
 |[],_,_,_=>rfl
 |_::_,[],_,h=>by simp at h
 |p::l,b::fl,0,h=>by simp at h;subst h;rfl
 |p::l,b::fl,j+1,h=>by simpa[IL]using YH r l fl j (by simpa using h)
theorem WL(r:Int->Int):∀(l:List (Int×Int))(fl:List Bool),(IL r l fl).map (·.1)=l.map (·.1)
 |[],_=>rfl
 |_::_,[]=>rfl
 |p::l,b::fl=>by simp only[IL,eZ,WL r l fl]
theorem Ug:∀(l l':List (Int×Int)),l.map (·.1)=l'.map (·.1)->∀k,FB l k=FB l' k
 |[],[],_,_=>rfl
 |p::l,q::l',h,k=>by simp only[eZ,List.cons.injEq]at h;simp only[FB,h.1,Ug l l' h.2 k]
 |[],_::_,h,_=>by simp at h
 |_::_,[],h,_=>by simp at h
theorem WM{E:Type}:∀{l:List (Int×E)}{k:Int},FB l k=true↔k∈l.map (·.1)
 |[],k=>by simp[FB]
 |p::l,k=>by simp only[FB,tV,eR,WM (l:=l),eZ,lJ];exact⟨λh=>h.imp Eq.symm id,λh=>h.imp Eq.symm id⟩
theorem Ri(r:Int->Int)(k:Int):∀(l:List (Int×Int))(fl:List Bool),Bg (IL r l fl) k 0=Bg l k 0\/FB l k=true/\Bg (IL r l fl) k 0=r k
 |[],_=>.inl rfl
 |_::_,[]=>.inl rfl
 |p::l,b::fl=>by
  simp only[IL,Bg,FB];by_cases h:p.1=k
  ·subst h;cases b with
   |true=>exact .inr (by simp)
   |false=>exact .inl (by simp)
  ·simp only[dJ h,tN,Bool.false_or];exact Ri r k l fl
theorem WN(r:Int->Int):∀(l:List (Int×Int))(fl:List Bool)(j:Nat)(p:Int×Int),(l.map (·.1)).Nodup->fl[j]? =some false->l[j]? =some p->Dk (IL r l fl) p.1 (r p.1)=IL r l (fl.set j true)
 |[],_,_,_,_,_,h=>by simp at h
 |_::_,[],_,_,_,h,_=>by simp at h
 |q::l,b::fl,0,p,_,h,k=>by simp at h k;subst h k;simp[IL,Dk]
 |q::l,b::fl,j+1,p,hn,h,k=>by
  simp only[eZ,To]at hn;have hk:l[j]? =some p:=by simpa using k
  have hne:¬q.1=p.1:=λe=>hn.1 (e▸tI.2 ⟨p,tU hk,rfl⟩)
  simp only[IL,Dk,dJ hne,tN,List.set_cons_succ];rw[WN r l fl j p hn.2 (by simpa using h) hk]
theorem OG{E:Type}(k:Int)(x:E):∀{l:List (Int×E)},(l.map (·.1)).Nodup->((Dk l k x).map (·.1)).Nodup/\∀y∈(Dk l k x).map (·.1),y=k\/y∈l.map (·.1)
 |[],_=>by simp[Dk]
 |p::l,h=>by
  simp only[eZ,To]at h;by_cases e:p.1=k
  ·simp only[Dk,dC e,Cg,eZ,To];exact⟨h,λy hy=>.inr hy⟩
  ·obtain⟨h1,h2⟩:=OG k x h.2;simp only[Dk,dJ e,tN,eZ,To];refine⟨⟨λhm=>?_,h1⟩,λy hy=>?_⟩
   ·rcases h2 _ hm with h3|h3
    ·exact e h3
    ·exact h.1 h3
   ·rcases lJ.1 hy with rfl|hy
    ·exact .inr (by simp)
    ·exact(h2 y hy).imp id λh=>tO _ h
theorem WO:∀{n:Nat}{l:List (Int×Int)}{x y:Int},BC n l x=some y->(FB l y&&decide (¬Bg l y 0=y))=false
 |0,_,_,_,h=>by cases h
 |n+1,l,x,y,h=>by
  rw[BC]at h;cases hb:(FB l x&&decide (¬Bg l x 0=x))with
  |true=>rw[hb,Cg]at h;exact WO h
  |false=>rw[hb,tN]at h;cases h;exact hb
theorem Uh:∀{n m:Nat}{l:List (Int×Int)}{x y:Int},BC n l x=some y->n<=m->BC m l x=some y
 |0,_,_,_,_,h,_=>by cases h
 |n+1,0,_,_,_,_,hm=>by omega
 |n+1,m+1,l,x,y,h,hm=>by
  rw[BC]at h⊢;cases hb:(FB l x&&decide (¬Bg l x 0=x))with
  |true=>rw[hb,Cg]at h;rw[Cg];exact Uh h (by omega)
  |false=>rw[hb,tN]at h;rw[tN];exact h
theorem WP{N:Nat}{l:List (Int×Int)}{fl:List Bool}:∀{n:Nat}{x y:Int},BC n l x=some y->n<=N->BC n (IL (λk=>(BC N l k).getD 0) l fl) x=some y
 |0,_,_,h,_=>by cases h
 |n+1,x,y,h,hN=>by
  have h0:=Uh h hN;have hfix:=WO h;have hr:∀k,FB (IL (λk=>(BC N l k).getD 0) l fl) k=FB l k:=Ug _ _ (WL _ l fl);have hlast:BC N l y=some y:=by
   cases N with
   |zero=>omega
   |succ N=>rw[BC,hfix,tN]
  have hfix2:(FB (IL (λk=>(BC N l k).getD 0) l fl) y&&decide (¬Bg (IL (λk=>(BC N l k).getD 0) l fl) y 0=y))=false:=by
   rw[hr];rcases Ri (λk=>(BC N l k).getD 0) y l fl with e|⟨_,e⟩
   ·rw[e];exact hfix
   ·rw[e,hlast];simp
  rw[BC]at h⊢;rw[hr];cases hb:(FB l x&&decide (¬Bg l x 0=x))with
  |false=>
   rw[hb,tN]at h;cases h
   rw[hr]at hfix2;rw[hfix2,tN]
  |true=>
   rw[hb,Cg]at h;simp only[lP]at hb;rcases Ri (λk=>(BC N l k).getD 0) x l fl with e|⟨_,e⟩
   ·rw[e,hb.1,hb.2];simp only[Bool.and_self,Cg];exact WP h (by omega)
   ·rw[e,h0,mN,hb.1];by_cases hxy:y=x
    ·subst hxy;simp
    ·simp only[hxy,not_false_eq_true,decide_true,Bool.and_self,Cg];cases n with
     |zero=>cases h
     |succ n=>rw[BC,hfix2,tN]
def nF:List Bool->Nat|[]=>0|b::l=>(bif b then 0 else 1)+nF l
theorem gQ:∀{l:List Bool}{j:Nat},l[j]? =some false->nF (l.set j true)<nF l
 |[],_,h=>by simp at h
 |b::l,0,h=>by simp at h;subst h;simp[nF]
 |b::l,j+1,h=>by have:=gQ (l:=l) (j:=j) (by simpa using h);simp only[List.set_cons_succ,nF];omega
section
open Go
attribute [local irreducible] As Cn B6 BK CA BJ Bv Cl Cv Dx
set_option maxRecDepth 100000
set_option maxHeartbeats 8000000
abbrev Ct:=Int×Int×Int×Int×Int×Int×Int×Int
@[reducible,go_sem] def MA(c:Ct):List AV:=[.v (.int .i64 c.1),.v (.int .i64 c.2.1),.v (.int .i64 c.2.2.1),.v (.int .i64 c.2.2.2.1),.v (.int .i64 c.2.2.2.2.1),.v (.int .i64 c.2.2.2.2.2.1),.v (.int .i64 c.2.2.2.2.2.2.1),.v (.int .i64 c.2.2.2.2.2.2.2)]
@[reducible] def Ue:List AV:=[.v (.int .i64 0),.v (.int .i64 0),.v (.int .i64 0),.v (.int .i64 0),.v (.int .i64 0),.v (.int .i64 0),.v (.int .i64 0),.v (.int .i64 0)]
def M4(us:List Un):Nat->Int->List (Int×Int)->Option (List (Int×Int))|0,_,_=>none|n+1,i,l=>bif decide (i<(us.length:Int))then((AA us i).bind λ(x1,x2,x3,x4,x5,x6)=>gd (Ab (i+1))<|M4 us n (i+1) (Dk l x1 x1))else some l
def LR(N:Nat)(cs:List Ct):Nat->Int->List (Int×Int)->Option (List (Int×Int))|0,_,_=>none|n+1,i,l=>bif decide (i<(cs.length:Int))then((AA cs i).bind λ(x1,x2,x3,x4,x5,x6,x7,x8)=>bif !decide (x2= -1)then((BC N l x1).bind λa=>(BC N l x2).bind λb=>gd (Ab (i+1))<|LR N cs n (i+1) (Dk l (max a b) (min a b)))else gd (Ab (i+1))<|LR N cs n (i+1) l)else some l
def SE(N:Nat)(l:List (Int×Int)):Option (List (Int×Int)):=bif l.all λp=>(BC N l p.1).isSome then some (l.map λp=>(p.1,(BC N l p.1).getD 0))else none
def OF(cs:List Ct)(l:List (Int×Int)):Nat->Int->List (Int×Bool)->Option (List (Int×Bool))|0,_,_=>none|n+1,i,g=>bif decide (i<(cs.length:Int))then((AA cs i).bind λ(x1,x2,x3,x4,x5,x6,x7,x8)=>bif decide (x2= -1)then gd (Ab (i+1))<|OF cs l n (i+1) (Dk g (Bg l x1 0) true)else gd (Ab (i+1))<|OF cs l n (i+1) g)else some g
section
variable(C:Nat->List Un->Option (List Ct))
def KW(N:Nat)(us:List Un):Option (List (Int×Int)×List (Int×Bool)):=(M4 us N 0 []).bind λl1=>(C N us).bind λcs=>(LR N cs N 0 l1).bind λl2=>(SE N l2).bind λl3=>(OF cs l3 N 0 []).bind λg=>some (l3,g)
def MB(N:Nat):Spec:=p0<|pG<|pD Ar λus=>pE<|pE<|pF (C N us) [] λr=>.sl 8 false (r.map MA) Ue
def SF(N:Nat):Tab:=Nc [(27,s27 N),(86,MB C N)] (K7 N)
variable{C}
theorem Rg{N:Nat}(hC:AZ Tryz.prog 86 (MB C N)):TabOK Tryz.prog (SF C N):=XF (Ac (JI N) (Ac hC An)) (vF N).q
theorem AaI{l:List (Int×Int)}{j:Nat}{k x:AV}(h:(l.map (rI eI))[j]? =some [k,x]):∃p,l[j]? =some p/\k=.v (.int .i64 p.1)/\x=.v (.int .i64 p.2):=by
 rw[qX]at h;cases hl:l[j]? with
 |none=>rw[hl]at h;cases h
 |some p=>rw[hl]at h;simp only[t8,rI,yE,List.cons.injEq,and_true]at h;exact⟨p,rfl,h.1.symm,h.2.symm⟩
theorem gJ{us:List Un}:∀{n:Nat}{i:Int}{l l':List (Int×Int)},M4 us n i l=some l'->(l.map (·.1)).Nodup->(l'.map (·.1)).Nodup
 |0,_,_,_,h,_=>by cases h
 |n+1,i,l,l',h,hn=>by
  rw[M4]at h;cases hb:decide (i<(us.length:Int))with
  |true=>rw[hb,Cg]at h;obtain⟨⟨x1,x2,x3,x4,x5,x6⟩,_,h⟩:=yB.1 h;obtain⟨_,h⟩:=Jl.1 h;exact gJ h (OG x1 x1 hn).1
  |false=>rw[hb,tN]at h;cases h;exact hn
theorem WJ{N:Nat}{cs:List Ct}:∀{n:Nat}{i:Int}{l l':List (Int×Int)},LR N cs n i l=some l'->(l.map (·.1)).Nodup->(l'.map (·.1)).Nodup
 |0,_,_,_,h,_=>by cases h
 |n+1,i,l,l',h,hn=>by
  rw[LR]at h;cases hb:decide (i<(cs.length:Int))with
  |true=>
   rw[hb,Cg]at h;obtain⟨⟨x1,x2,x3,x4,x5,x6,x7,x8⟩,_,h⟩:=yB.1 h;cases hc:(!decide (x2= -1))with
   |true=>simp only[hc,Cg]at h;obtain⟨a,_,h⟩:=yB.1 h;obtain⟨b,_,h⟩:=yB.1 h;obtain⟨_,h⟩:=Jl.1 h;exact WJ h (OG _ _ hn).1
   |false=>simp only[hc,tN]at h;obtain⟨_,h⟩:=Jl.1 h;exact WJ h hn
  |false=>rw[hb,tN]at h;cases h;exact hn
theorem nD{N:Nat}{l l':List (Int×Int)}(h:SE N l=some l'):(∀p∈l,(BC N l p.1).isSome=true)/\l'=l.map λp=>(p.1,(BC N l p.1).getD 0):=by
 unfold SE at h;cases hb:l.all λp=>(BC N l p.1).isSome with
 |true=>rw[hb,Cg]at h;cases h;exact⟨Ft.1 hb,rfl⟩
 |false=>rw[hb,tN]at h;cases h
attribute [local go_sem] K7 AaF MB qv OM SF
theorem SG{N hb:Nat}(hC:AZ Tryz.prog 86 (MB C N)){us:List Un}{gm:List (Int×Int)}{g:List (Int×Bool)}(h:KW C N us=some (gm,g)){K:AV->St->Prop}{w:AV}(hK:∀s c,TE [(.c (100,5) 0,GX (gm.map (rI eI))),(.c (2100,c) 0,GX (g.map (rI eB))),(.c (0,1) 0,w)] s.hp->K (.tup [.mp (100,5),.mp (2100,c)]) s):As (Ctx.fn Tryz.prog (SF C N) x92.nt hb) x92.c (BJ x92.rv K)
   ⟨CK 0 [.agg [.sl 6 false (us.map Ak) [.i 0,.i 0,.i 0,.sl 0 true [] [],.i 0,.i 0]]],[(.c (0,1) 0,w)],3⟩:=by
 have hS:=Rg hC;have F:=f0;dsimp only[x92,Al];refine wG (by decide) (by simp only[go_sem,seval]) λN0=>?_
 have hOK:=Ctx.mi_ok (P:=Tryz.prog) (nt:=88) (hb:=hb) (N:=N0) (hnt:=by decide) hS;unfold KW at h;obtain⟨l1,hL1,cs,hcs,l2,hL2,l3,hL3,g',hL4,h⟩:=un h;replace F:=fc hcs F;refine go hS F ?_
 let Hp1:List (Int×Int)->Hp:=λl=>[(.c (200,6) 0,.clo (.func 133) [] [.box (101,5) 0,.box (200,6) 0]),(.c (101,5) 0,.mp (100,5)),(.c (100,5) 0,GX (l.map (rI eI))),(.c (0,4) 0,Aj us),(.c (0,1) 0,w)]
 refine AM l1 (λz:List (Int×Int)×Nat=>⟨[(1,.box (0,4) 0),(4,.box (101,5) 0),(5,.box (200,6) 0)],[(.c (200,6) 0,.clo (.func 133) [] [.box (101,5) 0,.box (200,6) 0]),(.c (101,5) 0,.mp (100,5)),(.c (100,5) 0,GX (z.1.map (rI eI))),(.c (0,4) 0,Aj us),(.c (0,1) 0,w)],z.2⟩) (λz=>z.1) (.x 0) ?_ ?_
 ·refine AH (λn (y:Int×List (Int×Int)×Nat)=>M4 us n y.1 y.2.1) (λy=>⟨[(1,.box (0,4) 0),(4,.box (101,5) 0),(5,.box (200,6) 0),(20,Aj us),(21,.i (us.length:Int)),(22,.i y.1)],[(.c (200,6) 0,.clo (.func 133) [] [.box (101,5) 0,.box (200,6) 0]),(.c (101,5) 0,.mp (100,5)),(.c (100,5) 0,GX (y.2.1.map (rI eI))),(.c (0,4) 0,Aj us),(.c (0,1) 0,w)],y.2.2⟩) (0,[],8) hL1 (Bn F) ?_;rintro n ⟨i,l,c⟩ hB;simp only[M4]at hB;refine Ap hS F hB (λ_ hB=>?_) (λ_ hB=>?_)
  ·obtain⟨⟨x1,x2,x3,x4,x5,x6⟩,hn,hB⟩:=un hB;obtain⟨hb1,F⟩:=Bt Ak hn F;obtain⟨hv,hB⟩:=un hB;exact Bk hS F (n,i+1,Dk l x1 x1,c+1+1+1+1) hB
  ·exact A9 hS F (l,c+1) hB
 ·rintro⟨l1,c1⟩ rfl;refine go hS F ?_;refine AM l2 (λz:List (Int×Int)×Nat=>⟨[(1,.box (0,4) 0),(4,.box (101,5) 0),(5,.box (200,6) 0),(8,.sl 8 false (cs.map MA) Ue)],[(.c (200,6) 0,.clo (.func 133) [] [.box (101,5) 0,.box (200,6) 0]),(.c (101,5) 0,.mp (100,5)),(.c (100,5) 0,GX (z.1.map (rI eI))),(.c (0,1) 0,w)],z.2⟩) (λz=>z.1) (.x 2) ?_ ?_
  ·refine AH (λn (y:Int×List (Int×Int)×Nat)=>LR N cs n y.1 y.2.1) (λy=>⟨[(1,.box (0,4) 0),(4,.box (101,5) 0),(5,.box (200,6) 0),(8,.sl 8 false (cs.map MA) Ue),(34,.sl 8 false (cs.map MA) Ue),(35,.i (cs.length:Int)),(36,.i y.1)],[(.c (200,6) 0,.clo (.func 133) [] [.box (101,5) 0,.box (200,6) 0]),(.c (101,5) 0,.mp (100,5)),(.c (100,5) 0,GX (y.2.1.map (rI eI))),(.c (0,1) 0,w)],y.2.2⟩) (0,l1,c1+1+1) hL2 (Bn F) ?_;rintro n ⟨i,l,c⟩ hB;simp only[LR]at hB;refine Ap hS F hB (λ_ hB=>?_) (λ_ hB=>?_)
   ·obtain⟨⟨x1,x2,x3,x4,x5,x6,x7,x8⟩,hn,hB⟩:=un hB;obtain⟨hb1,F⟩:=Bt MA hn F;refine Ap hS F hB (λ_ hB=>?_) (λ_ hB=>?_)
    ·obtain⟨ra,ha,rb,hb2,hv,hB⟩:=un hB;exact Bk hS (fc ha (fc hb2 F)) (n,i+1,Dk l (max ra rb) (min ra rb),c+1+1+1+1+1+1) hB
    ·obtain⟨hv,hB⟩:=un hB;exact Bk hS F (n,i+1,l,c+1+1+1+1) hB
   ·exact A9 hS F (l,c+1) hB
  ·rintro⟨l2,c2⟩ rfl;have hnd:(l2.map (·.1)).Nodup:=WJ hL2 (gJ hL1 (by simp));have e0:((l2.map (rI eI)).map λ_=>false)=l2.map λ_=>false:=by rw[LB];rfl
   obtain⟨hsome,rfl⟩:=nD hL3;refine go hS F ?_;refine rU hS 1 (m:=(100,5)) (rows:=l2.map (rI eI)) (Eq.refl _) (by simp only[go_sem,seval]<;>eq_refl) (by trivial) (by simp only[go_sem,seval]) (by simp only[go_sem,seval]) λb=>⟨_,_,_,by simp only[go_sem,seval]<;>eq_refl,by trivial,?_⟩
   rw[e0];refine go hS F ?_;refine AM () (λz:Nat=>⟨[(1,.box (0,4) 0),(4,.box (101,5) 0),(5,.box (200,6) 0),(8,.sl 8 false (cs.map MA) Ue)],[(.c (200,6) 0,.clo (.func 133) [] [.box (101,5) 0,.box (200,6) 0]),(.c (101,5) 0,.mp (100,5)),(.c (100,5) 0,GX ((l2.map λp=>(p.1,(BC N l2 p.1).getD 0)).map (rI eI))),(.c (0,1) 0,w)],z⟩) (λ_=>()) (.x 4) ?_ ?_
   ·refine Is (λy:List Bool×Nat×Nat=>⟨[(1,.box (0,4) 0),(4,.box (101,5) 0),(5,.box (200,6) 0),(8,.sl 8 false (cs.map MA) Ue),(60,.v (.pointer (some ⟨b,0,none⟩))),(ik,gI b (100,5) y.1 y.2.1)],[(.c (200,6) 0,.clo (.func 133) [] [.box (101,5) 0,.box (200,6) 0]),(.c (101,5) 0,.mp (100,5)),(.c (100,5) 0,GX ((IL (λk=>(BC N l2 k).getD 0) l2 y.1).map (rI eI))),(.c (0,1) 0,w)],y.2.2⟩) (λy=>y.1.length=l2.length) (λy=>nF y.1) (l2.map λ_=>false,0,c2+1) (by simp) (Bn (fc (Uf (λk=>(BC N l2 k).getD 0) l2) F)) ?_;rintro⟨fl,la,c⟩ hfl;have hfl:fl.length=l2.length:=hfl;refine Ez ?_;refine rV hS 0 (b:=b) (fl:=fl) (la:=la) (m:=(100,5)) (rows:=(IL (λk=>(BC N l2 k).getD 0) l2 fl).map (rI eI)) (Eq.refl _) (by simp only[go_sem,seval]<;>eq_refl) (by trivial) (by simp only[go_sem,seval]) (by simp only[go_sem,seval]) (by simp only[go_sem,seval]) (by rw[p9,Tl];exact hfl.symm)
     (λhall=>⟨_,_,_,by simp only[go_sem,seval]<;>eq_refl,by trivial,?_⟩) (λj k x hj hk=>?_)
    ·have F:=fc (WK (λk=>(BC N l2 k).getD 0) l2 fl hfl hall) F;refine Kg hS F ?_;exact A9 hS F (c+1) (rfl:some ()=some ())
    ·obtain⟨p,hp,rfl,rfl⟩:=AaI hk;have hp2:l2[j]? =some p:=(YH _ l2 fl j hj).symm.trans hp;refine⟨_,_,_,by simp only[go_sem,seval]<;>eq_refl,by trivial,?_⟩;refine go hS F ?_;refine ct F ?_;refine go hS F ?_;refine rW hS 0 (b:=b) (fl:=fl.set j true) (j:=j) (m:=(100,5)) (rows:=(IL (λk=>(BC N l2 k).getD 0) l2 fl).map (rI eI)) (Eq.refl _) (by simp only[go_sem,seval]<;>eq_refl) (by trivial) (by simp only[go_sem,seval]) (by simp only[go_sem,seval]) (by simp only[go_sem,seval]) (by rw[p9,Tl,zN];exact hfl.symm) hk (by rw[List.getElem?_set_self (i5.1 hj).1])
      ⟨_,_,_,by simp only[go_sem,seval]<;>eq_refl,by trivial,?_⟩
     obtain⟨r,hr⟩:=yX (hsome p (tU hp2));have F:=fc (WP (fl:=fl) hr (fA N)) F;have hm:=WN (λk=>(BC N l2 k).getD 0) l2 fl j p hnd hj hp2;simp only[hr,mN]at hm;have F:=fc hm F;refine go hS F ?_;exact H4 (fl.set j true,j,c+1+1+1) (by rw[zN];exact hfl) (gQ hj) (Bn F)
   ·rintro c3-;refine go hS F ?_;refine AM g' (λz:List (Int×Bool)×Nat=>⟨[(4,.box (101,5) 0),(14,.mp (2100,c3+1))],[(.c (2100,c3+1) 0,GX (z.1.map (rI eB))),(.c (101,5) 0,.mp (100,5)),(.c (100,5) 0,GX ((l2.map λp=>(p.1,(BC N l2 p.1).getD 0)).map (rI eI))),(.c (0,1) 0,w)],z.2⟩) (λz=>z.1) (.x 6) ?_ ?_
    ·refine AH (λn (y:Int×List (Int×Bool)×Nat)=>OF cs (l2.map λp=>(p.1,(BC N l2 p.1).getD 0)) n y.1 y.2.1) (λy=>⟨[(4,.box (101,5) 0),(14,.mp (2100,c3+1)),(71,.sl 8 false (cs.map MA) Ue),(72,.i (cs.length:Int)),(73,.i y.1)],[(.c (2100,c3+1) 0,GX (y.2.1.map (rI eB))),(.c (101,5) 0,.mp (100,5)),(.c (100,5) 0,GX ((l2.map λp=>(p.1,(BC N l2 p.1).getD 0)).map (rI eI))),(.c (0,1) 0,w)],y.2.2⟩) (0,[],c3+1+1) hL4 (Bn F) ?_;rintro n ⟨i,l,c⟩ hB;simp only[OF]at hB;refine Ap hS F hB (λ_ hB=>?_) (λ_ hB=>?_)
     ·obtain⟨⟨x1,x2,x3,x4,x5,x6,x7,x8⟩,hn,hB⟩:=un hB;obtain⟨hb1,F⟩:=Bt MA hn F;refine Ap hS F hB (λ_ hB=>?_) (λ_ hB=>?_)
      ·obtain⟨hv,hB⟩:=un hB;exact Bk hS F (n,i+1,Dk l (Bg (l2.map λp=>(p.1,(BC N l2 p.1).getD 0)) x1 0) true,c+1+1+1+1+1) hB
      ·obtain⟨hv,hB⟩:=un hB;exact Bk hS F (n,i+1,l,c+1+1+1+1) hB
     ·exact A9 hS F (l,c+1) hB
    ·rintro⟨g',c4⟩ rfl;cases h
     refine go hS F ?_;refine R0 (xs:=[.mp (100,5),.mp (2100,c3+1)]) (by simp only[go_sem,seval]<;>eq_refl) (by trivial) (hK _ (c3+1) ?_);simp only[go_sem,seval]
end
end
section
open Go
attribute [local irreducible] As Cn B6 BK CA BJ Bv Cl Cv Dx
set_option maxRecDepth 100000
set_option maxHeartbeats 8000000
section
variable(C:Nat->List Un->Option (List Ct))
def He(us:List Un)(gm:List (Int×Int))(g:List (Int×Bool)):Nat->Int->List Int->Option (List Int)|0,_,_=>none|n+1,i,o=>bif decide (i<(us.length:Int))then((AA us i).bind λ(x1,x2,x3,x4,x5,x6)=>bif !Bg g (Bg gm x1 0) false then gd ((o.length+1)*8<=140737488355328)<|gd (Ab (i+1))<|He us gm g n (i+1) (o++[x1])else gd (Ab (i+1))<|He us gm g n (i+1) o)else some o
def C3(N:Nat)(us:List Un):Option (List Int):=(Br N us).bind λv=>bif !v then some []else(KW C N us).bind λp=>He us p.1 p.2 N 0 []
@[reducible,go_sem] def QH(n:Int):List AV:=[.v (.int .i64 n)]
@[go_sem] def AaJ(N:Nat):Spec:=p0<|pG<|pD Ar λus=>pE<|pE<|pF (C3 C N us) [] λr=>.sl 1 false (r.map QH) [.i 0]
variable{C}
attribute [local go_sem] MB SF
theorem AaK{N:Nat}(hC:AZ Tryz.prog 86 (MB C N)):AZ Tryz.prog 34 (AaJ C N):=by
 refine Ax x34.ok<|A2<|Dj λus=>Ai<|Ai<|Ay λr h=>wx x34 (Rg hC) λ_ hS F=>?_
 dsimp only[x34,Al,Ar];unfold C3 at h;obtain⟨v,hv,h⟩:=un h;replace F:=fc hv F;refine Ap hS F h (λ_ h=>?_) (λ_ h=>?_)
 ·exact Af hS F h
 ·obtain⟨⟨gm,g⟩,hg,h⟩:=un h;refine go hS F ?_;refine DO hS 1 x92.hf x92.hc x92.hn x92.ok rfl (ev F) (ev F) ?_ rfl (ev F) (mO rfl) λhb=>SG hC hg λs c hs=>?_
  ·trivial
  unfold Bv;refine⟨_,_,_,by simp only[go_sem,seval]<;>eq_refl,by trivial,?_⟩;refine Fe (RU (s':=⟨[(3,.mp (100,5)),(4,.mp (2100,c)),(1,.box (0,1) 0)],[(.c (100,5) 0,GX (gm.map (rI eI))),(.c (2100,c) 0,GX (g.map (rI eB))),(.c (0,1) 0,Aj us)],s.cnt+1⟩) (Le.of (by simp only[go_sem,seval]) hs (fA _)) ?_);generalize s.cnt+1=k;refine go hS F ?_;refine Df 1000001 5 1 [.i 0] (show 5<37 by omega) (by omega) (ev F) ?_;refine AM r (λz:List Int×Nat=>⟨[(5,.own (1000001,k+1+1+1) z.1.length)],[(.a (1000001,k+1+1+1),.sl 1 true (z.1.map QH) [.i 0])],z.2⟩) (λz=>z.1) (.x 0) ?_ ?_
  ·refine AH (λn (y:Int×List Int×Nat)=>He us gm g n y.1 y.2.1) (λy=>⟨[(3,.mp (100,5)),(4,.mp (2100,c)),(5,.own (1000001,k+1+1+1) y.2.1.length),(17,Aj us),(18,.i (us.length:Int)),(19,.i y.1)],[(.a (1000001,k+1+1+1),.sl 1 true (y.2.1.map QH) [.i 0]),(.c (100,5) 0,GX (gm.map (rI eI))),(.c (2100,c) 0,GX (g.map (rI eB)))],y.2.2⟩) (0,[],k+1+1+1) h (Bn F) ?_;rintro n ⟨i,o,c2⟩ hB;simp only[He]at hB;refine Ap hS F hB (λ_ hB=>?_) (λ_ hB=>?_)
   ·obtain⟨⟨x1,x2,x3,x4,x5,x6⟩,hn,hB⟩:=un hB;obtain⟨hb1,F⟩:=Bt Ak hn F;refine Ap hS F hB (λ_ hB=>?_) (λ_ hB=>?_)
    ·obtain⟨hv1,hv2,hB⟩:=un hB;exact Bk hS F (n,i+1,o++[x1],c2+1+1+1+1+1) hB
    ·obtain⟨hv1,hB⟩:=un hB;exact Bk hS F (n,i+1,o,c2+1+1+1+1) hB
   ·exact A9 hS F (o,c2+1) hB
  ·rintro⟨r,c3⟩ rfl;exact Af hS F (rfl:some r=some r)
end
end
open Go
attribute [local irreducible] As Cn B6 BK CA BJ Bv Cl Cv Dx
set_option maxRecDepth 100000
set_option maxHeartbeats 8000000
section
variable(C:Nat->List Un->Option (List Ct))
def HJ(us:List Un)(gm:List (Int×Int)):Nat->Int->List (List Int)->List (Int×Int)->Option (List (List Int))|0,_,_,_=>none|n+1,i,o,ix=>bif decide (i<(us.length:Int))then((AA us i).bind λ(x1,x2,x3,x4,x5,x6)=>bif !FB ix (Bg gm x1 0)then gd ((o.length+1)*24<=140737488355328)<|gd (Ab (i+1))<|HJ us gm n (i+1) (o++[[x1]]) (Dk ix (Bg gm x1 0) (o.length:Int))else(AA o (Bg ix (Bg gm x1 0) 0)).bind λl=>gd ((l.length+1)*8<=140737488355328)<|gd (Ab (i+1))<|HJ us gm n (i+1) (o.set (Bg ix (Bg gm x1 0) 0).toNat (l++[x1])) ix)else some o
def E4(N:Nat)(us:List Un):Option (List (List Int)):=(Br N us).bind λv=>bif !v then some []else(KW C N us).bind λp=>HJ us p.1 N 0 [] []
@[reducible] def eJ(l:List Int):List AV:=[.sl 1 false (l.map QH) [.i 0]]
@[go_sem] def AaL(N:Nat):Spec:=p0<|pG<|pD Ar λus=>pE<|pE<|pF (E4 C N us) [] λr=>.sl 1 false (r.map eJ) [.sl 0 true [] []]
variable{C}
attribute [local go_sem] MB SF
@[reducible] def eO(g:Nat×List Int):List AV:=[.own (1413,g.1) g.2.length]
def hG(gs:List (Nat×List Int)):Hp:=gs.map λg=>(.a (1413,g.1),.sl 1 true (g.2.map QH) [.i 0])
def iJ(gs:List (Nat×List Int))(c:Nat):Prop:=(gs.map (·.1)).Nodup/\∀g∈gs,g.1<=c
theorem gN{gs:List (Nat×List Int)}{c:Nat}(hi:iJ gs c){j:Nat}{g:Nat×List Int}(h:gs[j]? =some g):hl (hG gs) (.a (1413,g.1))=some (.sl 1 true (g.2.map QH) [.i 0]):=by
 have hn:=hi.1;clear hi;induction gs generalizing j with
 |nil=>cases h
 |cons a gs ih=>
  simp only[hG,eZ,hl,Loc.a.injEq,Wt,true_and];simp only[eZ,To]at hn;cases j with
  |zero=>simp only[List.getElem?_cons_zero,yE]at h;subst h;rw[eX rfl]
  |succ j=>rw[List.getElem?_cons_succ]at h;rw[eW (λe:a.1=g.1=>hn.1 (by rw[e];exact L1 (tU h)))];exact ih h hn.2
theorem Lu{E:Type}{k:Int}{x d:E}:∀l:List (Int×E),Bg (Dk l k x) k d=x
 |[]=>by simp[Dk,Bg]
 |p::l=>by
  by_cases h:p.1=k
  ·simp[Dk,Bg,h]
  ·simp only[Dk,dJ h,tN,Bg];exact Lu l
theorem SH{h:Hp}:∀{gs:List (Nat×List Int)},(∀g∈gs,hl h (.a (1413,g.1))=some (.sl 1 true (g.2.map QH) [.i 0]))->TE (hG gs) h
 |[],_=>trivial
 |g::gs,k=>⟨k g (by simp),SH λg' hg=>k g' (by simp[hg])⟩
open Classical in
noncomputable def Rh(us:List Un)(gm:List (Int×Int))(n:Nat)(y:Int×List (Nat×List Int)×List (Int×Int)×Nat):Option (List (List Int)):=gd (iJ y.2.1 y.2.2.2) (HJ us gm n y.1 (y.2.1.map (·.2)) y.2.2.1)
theorem AaM{N:Nat}(hC:AZ Tryz.prog 86 (MB C N)):AZ Tryz.prog 33 (AaL C N):=by
 refine Ax x33.ok<|A2<|Dj λus=>Ai<|Ai<|Ay λr h=>wx x33 (Rg hC) λ_ hS F=>?_
 dsimp only[x33,Al,Ar];unfold E4 at h;obtain⟨v,hv,h⟩:=un h;replace F:=fc hv F;refine Ap hS F h (λ_ h=>?_) (λ_ h=>?_)
 ·exact Af hS F h
 ·obtain⟨⟨gm,g⟩,hg,h⟩:=un h;refine go hS F ?_;refine DO hS 1 x92.hf x92.hc x92.hn x92.ok rfl (ev F) (ev F) ?_ rfl (ev F) (mO rfl) λhb=>SG hC hg λs c hs=>?_
  ·trivial
  unfold Bv;refine⟨_,_,_,by simp only[go_sem,seval]<;>eq_refl,by trivial,?_⟩;refine Fe (RU (s':=⟨[(3,.mp (100,5)),(1,.box (0,1) 0)],[(.c (100,5) 0,GX (gm.map (rI eI))),(.c (2100,c) 0,GX (g.map (rI eB))),(.c (0,1) 0,Aj us)],s.cnt+1⟩) (Le.of (by simp only[go_sem,seval]) hs (fA _)) ?_);generalize s.cnt+1=k;refine go hS F ?_;refine Df 5000001 5 1 [.sl 0 true [] []] (show 5<64 by omega) (by omega) (ev F) ?_;refine go hS F ?_;refine AM (r,True) (λz:List (Nat×List Int)×Nat=>⟨[(5,.own (5000001,k+1+1+1+1) z.1.length)],(.a (5000001,k+1+1+1+1),.sl 1 true (z.1.map eO) [.sl 0 true [] []])::hG z.1,z.2⟩) (λz=>(z.1.map (·.2),iJ z.1 z.2)) (.x 0) ?_ ?_
  ·have h0:Rh us gm N (0,[],[],k+1+1+1+1)=some r:=by simp only[Rh,Jl];exact⟨⟨.nil,by simp⟩,h⟩
   refine AH (Rh us gm) (λy=>⟨[(3,.mp (100,5)),(5,.own (5000001,k+1+1+1+1) y.2.1.length),(6,.mp (500,k+1+1)),(22,Aj us),(23,.i (us.length:Int)),(24,.i y.1)],(.a (5000001,k+1+1+1+1),.sl 1 true (y.2.1.map eO) [.sl 0 true [] []])::(.c (500,k+1+1) 0,GX (y.2.2.1.map (rI eI)))::(.c (100,5) 0,GX (gm.map (rI eI)))::hG y.2.1,y.2.2.2⟩) (0,[],[],k+1+1+1+1) h0 (Le.of (by simp only[go_sem,seval]) (by simp only[go_sem,seval,hG]) (fA _)) ?_ (λx=>by simp[Rh,HJ,gd]);rintro n ⟨i,gs,ix,c2⟩ hB;simp only[Rh,Jl]at hB;obtain⟨hi,hB⟩:=hB;simp only[HJ]at hB;have hget:∀g∈gs,hl (hG gs) (.a (1413,g.1))=some (.sl 1 true (g.2.map QH) [.i 0]):=λg hg=>by obtain⟨j,hj⟩:=List.getElem?_of_mem hg;exact gN hi hj
   refine Ap hS F hB (λ_ hB=>?_) (λ_ hB=>?_)
   ·obtain⟨⟨x1,x2,x3,x4,x5,x6⟩,hn,hB⟩:=un hB;obtain⟨hb1,F⟩:=Bt Ak hn F;refine Ap hS F hB (λ_ hB=>?_) (λ_ hB=>?_)
    ·obtain⟨hv1,hv2,hB⟩:=un hB;simp only[p9]at hv1;have hm:=Lu (k:=Bg gm x1 0) (x:=(gs.length:Int)) (d:=0) ix;have hr:∀d,BG (gs.map eO++[[AV.sl 0 true [] []]]) d gs.length=[AV.sl 0 true [] []]:=λd=>by simp[BG,eT,Ja]
     have hs2:∀y,(gs.map eO++[[AV.sl 0 true [] []]]).set gs.length y=gs.map eO++[y]:=λy=>by rw[List.set_append_right _ _ (by simp)];simp
     refine go hS (fc hm (fc hr (fc hs2 F))) ?_;have hi2:iJ (gs++[(c2+1+1+1+1+1+1+1+1,[x1])]) (c2+1+1+1+1+1+1+1+1+1):=by
      refine⟨?_,λg hg=>?_⟩
      ·rw[w9,List.nodup_append];refine⟨hi.1,by simp,λa ha b hb e=>?_⟩;obtain⟨g,hg,rfl⟩:=tI.1 ha;have:=hi.2 g hg;simp only[eZ,w7,y9]at hb;omega
      ·rcases lO.1 hg with hg|hg
       ·have:=hi.2 g hg;omega
       ·simp only[y9]at hg;subst hg;exact Nat.le_succ _
     refine H4 (n,i+1,gs++[(c2+1+1+1+1+1+1+1+1,[x1])],Dk ix (Bg gm x1 0) (gs.length:Int),c2+1+1+1+1+1+1+1+1+1) ?_ (Wm _) (Le.of (by simp only[go_sem,seval,fF]) ⟨by simp only[go_sem,seval,eO,pC,CP],by simp only[go_sem,seval],by simp only[go_sem,seval],SH λg hg=>?_⟩ (fA _))
     ·simp only[Rh,Jl];refine⟨hi2,?_⟩;rw[w9];simpa only[p9,eZ,w7]using hB
     ·rcases lO.1 hg with hg|hg
      ·have:=hi.2 g hg;have e1:¬c2+1+1+1+1+1+1+1+1=g.1:=by omega
       simp only[hl,Loc.a.injEq,Wt,true_and,e1,if_false,reduceCtorEq,Nat.reduceEqDiff,false_and];exact hget g hg
      ·simp only[y9]at hg;subst hg;simp only[hl,Loc.a.injEq,Wt,true_and,if_true,reduceCtorEq,Nat.reduceEqDiff,false_and,if_false];rfl
    ·obtain⟨l,hl1,hv1,hv2,hB⟩:=un hB;obtain⟨w,hn2,rfl⟩:∃w,AA gs (Bg ix (Bg gm x1 0) 0)=some w/\w.2=l:=by
      simp only[AA]at hl1⊢;split at hl1
      ·rw[qX]at hl1;rw[eX ‹_›];cases hw:gs[(Bg ix (Bg gm x1 0) 0).toNat]? with
       |none=>rw[hw]at hl1;cases hl1
       |some w=>rw[hw]at hl1;exact⟨w,rfl,yJ hl1⟩
      ·cases hl1
     obtain⟨hb2,F⟩:=Bt eO hn2 F;have hw:=hget w (tU (by simp only[AA]at hn2;rw[eX hb2.1]at hn2;exact hn2));refine go hS (fc hw F) ?_;have hj:gs[(Bg ix (Bg gm x1 0) 0).toNat]? =some w:=by simp only[AA]at hn2;rw[eX hb2.1]at hn2;exact hn2
     generalize (Bg ix (Bg gm x1 0) 0).toNat=j at hj hB⊢;have hnm:(gs.set j (w.1,w.2++[x1])).map (·.1)=gs.map (·.1):=by
      rw[List.map_set];refine List.ext_getElem? λm=>?_
      rw[List.getElem?_set];split
      ·rename_i e;subst e;rw[qX,hj];simp[(i5.1 hj).1]
      ·rfl
     have hmem:∀g∈gs.set j (w.1,w.2++[x1]),g=(w.1,w.2++[x1])\/(g∈gs/\¬w.1=g.1):=λg hg=>by
      obtain⟨m,hm⟩:=List.getElem?_of_mem hg;rw[List.getElem?_set]at hm;split at hm
      ·rename_i e;subst e;rw[eX (i5.1 hj).1]at hm;exact .inl (yJ hm).symm
      ·rename_i e;refine .inr ⟨tU hm,λk=>e ?_⟩;refine(List.getElem?_inj (l:=gs.map (·.1)) (by rw[p9];exact(i5.1 hj).1) hi.1).1 ?_;simp only[qX,hj,hm,t8,k]
     have hi2:iJ (gs.set j (w.1,w.2++[x1])) (c2+1+1+1+1+1+1+1):=by
      refine⟨by rw[hnm];exact hi.1,λg hg=>?_⟩;rcases hmem g hg with rfl|⟨hg,_⟩
      ·have:=hi.2 w (tU hj);simp only;omega
      ·have:=hi.2 g hg;omega
     refine H4 (n,i+1,gs.set j (w.1,w.2++[x1]),ix,c2+1+1+1+1+1+1+1) ?_ (Wm _) (Le.of (by simp only[go_sem,seval,zN]) ⟨by simp only[go_sem,seval,List.map_set,eO,fF,pC,CP],by simp only[go_sem,seval],by simp only[go_sem,seval],SH λg hg=>?_⟩ (fA _))
     ·simp only[Rh,Jl];refine⟨hi2,?_⟩;rw[List.map_set];exact hB
     ·rcases hmem g hg with rfl|⟨hg,e1⟩
      ·simp only[hl,Loc.a.injEq,Wt,true_and,if_true,reduceCtorEq,Nat.reduceEqDiff,false_and,if_false,w9,eZ,w7]
      ·simp only[hl,Loc.a.injEq,Wt,true_and,e1,if_false,reduceCtorEq,Nat.reduceEqDiff,false_and];exact hget g hg
   ·refine go hS F ?_;have hi2:iJ gs (c2+1):=⟨hi.1,λg hg=>Nat.le_succ_of_le (hi.2 g hg)⟩
    refine bW (gs,c2+1) ?_ (Le.of (by simp only[go_sem,seval]) ⟨by simp only[go_sem,seval],SH λg hg=>?_⟩ (fA _))
    ·simp only[Wt,eq_iff_iff,iff_true];exact⟨yJ hB,hi2⟩
    ·simp only[hl,Loc.a.injEq,Wt,if_false,reduceCtorEq,Nat.reduceEqDiff,false_and];exact hget g hg
  ·rintro⟨gs,c3⟩ he;simp only[Wt,eq_iff_iff,iff_true]at he;obtain⟨rfl,hi⟩:=he;have hget:∀g∈gs,hl (hG gs) (.a (1413,g.1))=some (.sl 1 true (g.2.map QH) [.i 0]):=λg hg=>by obtain⟨j,hj⟩:=List.getElem?_of_mem hg;exact gN hi hj
   have hg2:∀g∈gs,hl ((.a (5000001,k+1+1+1+1),.sl 1 true (gs.map eO) [.sl 0 true [] []])::hG gs) (.a (1413,g.1))=some (.sl 1 true (g.2.map QH) [.i 0]):=λg hg=>by rw[hl,eW (by simp)];exact hget g hg
   with_reducible apply F1
   with_reducible apply Fe
   refine kH (rows':=(gs.map (·.2)).map eJ) 4900001 5 (gs.map λg=>(1413,g.1)) (show 5<64 by omega) (ev F) (ev F) (p9 _).symm ?_ ?_ ?_ ?_ ?_
   ·simp
   ·intro rw hr;obtain⟨g,hg,rfl⟩:=tI.1 hr;refine⟨⟨?_,trivial⟩,rfl,λm hm=>?_⟩
    ·simp only[Hj];rw[hg2 g hg];simp
    ·simp only[Cu,FT,qF,y9]at hm;subst hm;exact tI.2 ⟨g,hg,rfl⟩
   ·rw[LB,LB];refine Mq λg hg=>?_
    simp only[Function.comp,Fd,res,HM];rw[hg2 g hg];rfl
   ·intro rw hr;obtain⟨l,_,rfl⟩:=tI.1 hr;simp only[AS,Cw,Wk]
   ·exact Af hS F (rfl:some (gs.map (·.2))=some (gs.map (·.2)))
end
