import Derived.Test.YtjdchfljifacoaaGreatQ2
set_option linter.all false
set_option maxRecDepth 100000
set_option maxHeartbeats 8000000
namespace Go.Proofs.YtjdchfljifacoaaGreat.Am
open Go
section
attribute [local irreducible] Ax BO BB Bj BC Bk AY BD BK Cq
attribute [local go_sem] Xc
def Dd(N:Nat)(f1315:List (Int×Int×Int×(List (Int×Int))×Int×Int)):Nat->Int->Option (Sum Unit Bool)|0,_=>none|n+1,ab=>bif decide (ab<(f1315.length:Int))then((A7 f1315 ab).bind λ(am,cq,co,cn,cj,ci)=>(B6 N am cq co cn cj ci).bind λdg=>gd ((decide (0<ab))=true->(Af (ab-1)))<|gd ((decide (0<ab))=true->(0<=ab-1/\ab-1<(f1315.length:Int)))<|bif (!dg)||((decide (0<ab))&&(decide (am<=(f1315.getD (ab-1).toNat (0,0,0,[],0,0)).1)))then(some (.inr false))else(gd (Af (ab+1))<|Dd N f1315 n (ab+1)))else(some (.inl ()))
def Eh(N:Nat):List ((Int×Int×Int×(List (Int×Int))×Int×Int)×(Int×Int×Int×(List (Int×Int))×Int×Int))->Option (Sum Unit Bool)|[]=>some (.inl ())|((bn,bm,bl,bj,bi,bh),(bg,bf,be,bb,ba,az))::ys=>(Fy N bn bm bl bj bi bh bg bf be bb ba az).bind λde=>bif de then(some (.inr false))else(Eh N ys)
def ER(N:Nat)(f1315:List (Int×Int×Int×(List (Int×Int))×Int×Int)):Option Bool:=bif decide (12<(f1315.length:Int))then(some false)else((Dd N f1315 N 0).bind λan=>match an with|.inl ()=>(gd (f1315.length<=1000000000)<|(Eh N (FI f1315)).bind λai=>match ai with|.inl ()=>(some true)|.inr ep=>(some ep))|.inr ez=>(some ez))
@[go_sem] def s58(N:Nat):Spec:=p0<|(Aoh<|qD Ak<|Aof<|Aof<|Aog false .b) (ER N)
theorem SG(N:Nat):AG Tryz.prog 58 (s58 N):=by
 refine fk (Aoq x58 (Ab (Pj N)<|Ab fG<|Ab (cS N)<|Aj)) ?_;intro f1315 r h _ hS F;dsimp only[x58,Ah,Ak];unfold ER at h;refine An hS F h (λ_ h=>?_) (λ_ h=>?_)
 ·exact Ai hS F h
 ·obtain⟨an,fo,h⟩:=un h;refine go hS F ?_;refine Bz an (λz:Nat=>⟨[(1,.box (0,1) 0),(2,.box (1,1) 0)],[(.c (1,1) 0,.b false),(.c (0,1) 0,Ap f1315)],z⟩) (λz=>(.inl ():Sum Unit Bool)) (.x 0) ?_ ?_
  ·refine Bp (λn (y:Int×Nat)=>Dd N f1315 n y.1) (λy=>⟨[(1,.box (0,1) 0),(2,.box (1,1) 0),(12,Ap f1315),(13,.i (f1315.length:Int)),(14,.i y.1)],[(.c (1,1) 0,.b false),(.c (0,1) 0,Ap f1315)],y.2⟩) (0,3) fo (Ch F) ?_;rintro n ⟨ab,dh⟩ ah;simp only[Dd]at ah;refine An hS F ah (λ_ ah=>?_) (λ_ ah=>?_)
   ·obtain⟨⟨am,cq,co,cn,cj,ci⟩,d8,ah⟩:=un ah;obtain⟨fm,F⟩:=Cb Au d8 F;obtain⟨dg,dw,gg,ge,ah⟩:=un ah;replace F:=fc dw F;refine An hS F ah (λ_ ah=>?_) (λ_ ah=>?_)
    ·obtain rfl:=yJ ah;exact Ai hS F h
    ·obtain⟨fq,ah⟩:=un ah;exact Cd hS F (n,ab+1,dh+1+1+1+1) ah
   ·exact B4 hS F (dh+1) ah
  ·rintro fg rfl;obtain⟨fp,h⟩:=un h;obtain⟨ai,gh,h⟩:=un h;refine go hS F ?_;refine Bz ai (λz:Nat=>⟨[(2,.box (1,1) 0)],[(.c (1,1) 0,.b false)],z⟩) (λz=>(.inl ():Sum Unit Bool)) .n ?_ ?_
   ·refine Ac6 (λy:Nat×Nat=>([(.c (1,1) 0,.b false)],y.2)) (λy=>Eh N ((FI f1315).drop y.1)=some ai/\y.1<=(FI f1315).length) (λy=>y.1) (0,fg+1) (ev F) (lE f1315 false (by assumption)) x123.ok ⟨rfl,rfl⟩ (by simp[x58,Ah]) (by intro a ha;obtain⟨y,_,rfl⟩:=List.mem_map.1 ha;exact⟨rfl,rfl⟩) ⟨gh,tD _⟩ rfl ?_ ?_ ?_
    ·exact Ch F
    ·rintro l ⟨n,ay⟩ ⟨ak,hle⟩ args fr;obtain⟨⟨⟨bn,bm,bl,bj,bi,bh⟩,⟨bg,bf,be,bb,ba,az⟩⟩,e9,rfl,hlt⟩:=Tz fr;simp only[e9,Eh]at ak;clear fr e9;simp only[pU,Jd];obtain⟨de,du,ak⟩:=un ak;replace F:=fc du F;refine An hS F ak (λ_ ak=>?_) (λ_ ak=>?_)
     ·obtain rfl:=yJ ak;exact Ai hS F h
     ·exact grg hS F (n+1,ay+1+1+1) ak
    ·rintro⟨n,ay⟩ ⟨ak,hle⟩ hk;rw[show n=_ from hk,W5]at ak;simp only[Eh]at ak;exact B4 hS F ay ak
   ·rintro gc rfl;exact Ai hS F h
def GP(N:Nat)(cr:Int)(ej:Int)(ei:Int)(eh:List (Int×Int))(ee:Int)(d9:Int)(au:Int):Option Int:=(F3 N cr au).bind λdb=>some db
@[go_sem] def s86(N:Nat):Spec:=p0<|(Aoh<|Aoi<|Aoi<|Aoi<|Aon Aq<|Aoi<|Aoi<|Aof<|Aoi<|Aof<|Aog 0 .i) (GP N)
theorem Aca(N:Nat):AG Tryz.prog 86 (s86 N):=by refine fk (Aoq x86 (Ab (cI N)<|Aj)) ?_;intro cr ej ei eh ee d9 au r h _ hS F;dsimp only[x86,Ah,Aq];unfold GP at h;obtain⟨db,dt,h⟩:=un h;exact Ai hS (fc dt F) h
def AW(N:Nat)(x1370:List (Int×Int×Int×(List (Int×Int))×Int×Int))(aa:Int):Nat->Int->Int->Option Int|0,_,_=>none|n+1,ae,af=>bif decide (ae<af)then(gd (Af (ae+af))<|(A7 x1370 (IntKind.wrap .i64 (CW .shr .u64 (IntKind.wrap .u64 (ae+af)) 1))).bind λ(ce,b9,b7,bz,bw,bv)=>(GP N ce b9 b7 bz bw bv aa).bind λda=>bif decide (da<0)then(gd (Af ((IntKind.wrap .i64 (CW .shr .u64 (IntKind.wrap .u64 (ae+af)) 1))+1))<|AW N x1370 aa n ((IntKind.wrap .i64 (CW .shr .u64 (IntKind.wrap .u64 (ae+af)) 1))+1) af)else(AW N x1370 aa n ae (IntKind.wrap .i64 (CW .shr .u64 (IntKind.wrap .u64 (ae+af)) 1))))else(some ae)
def A5(N:Nat)(x1370:List (Int×Int×Int×(List (Int×Int))×Int×Int))(aa:Int):Option (Int×Bool):=(AW N x1370 aa N 0 (x1370.length:Int)).bind λi1398=>gd ((decide (i1398<(x1370.length:Int)))=true->(0<=i1398/\i1398<(x1370.length:Int)))<|gd ((decide (i1398<(x1370.length:Int)))=true->((GP N ((x1370.getD i1398.toNat (0,0,0,[],0,0)).1) ((x1370.getD i1398.toNat (0,0,0,[],0,0)).2.1) ((x1370.getD i1398.toNat (0,0,0,[],0,0)).2.2.1) ((x1370.getD i1398.toNat (0,0,0,[],0,0)).2.2.2.1) ((x1370.getD i1398.toNat (0,0,0,[],0,0)).2.2.2.2.1) ((x1370.getD i1398.toNat (0,0,0,[],0,0)).2.2.2.2.2) aa).isSome=true))<|some (i1398,(decide (i1398<(x1370.length:Int)))&&(decide ((GP N ((x1370.getD i1398.toNat (0,0,0,[],0,0)).1) ((x1370.getD i1398.toNat (0,0,0,[],0,0)).2.1) ((x1370.getD i1398.toNat (0,0,0,[],0,0)).2.2.1) ((x1370.getD i1398.toNat (0,0,0,[],0,0)).2.2.2.1) ((x1370.getD i1398.toNat (0,0,0,[],0,0)).2.2.2.2.1) ((x1370.getD i1398.toNat (0,0,0,[],0,0)).2.2.2.2.2) aa).getD 0=0)))
@[go_sem] def sJ(N:Nat):Spec:=p0<|(qD Ak<|Aoi<|Aok 86<|Aof<|Aof<|Aog (0,false) λr=>.tup [.i r.1,.b r.2]) (A5 N)
theorem Qa(N:Nat):AG Tryz.prog 85 (sJ N):=by
 refine fk (Aoq x85 (Ab (Aca N)<|Aj)) ?_;intro x1370 aa r h _ hS F;dsimp only[x85,Ah,Ak];unfold A5 at h;obtain⟨e8,fo,h⟩:=un h;refine go hS F ?_;refine Bz e8 (λz:Int×Nat=>⟨[(0,Ap x1370),(1,.i aa),(2,.clo (.func 86) [] []),(8,.i (x1370.length:Int)),(9,.i z.1)],[],z.2⟩) (λz=>(z.1:Int)) (.x 0) ?_ ?_
 ·refine Bp (λn (y:Int×Int×Nat)=>AW N x1370 aa n y.1 y.2.1) (λy=>⟨[(0,Ap x1370),(1,.i aa),(2,.clo (.func 86) [] []),(8,.i (x1370.length:Int)),(9,.i y.1),(10,.i y.2.1)],[],y.2.2⟩) (0,(x1370.length:Int),3) fo (Ch F) ?_;rintro n ⟨ae,af,av⟩ ah;simp only[AW]at ah;refine An hS F ah (λ_ ah=>?_) (λ_ ah=>?_)
  ·obtain⟨gg,⟨ce,b9,b7,bz,bw,bv⟩,d7,ah⟩:=un ah;obtain⟨fj,F⟩:=Cb Au d7 F;obtain⟨da,dq,ah⟩:=un ah;replace F:=fc dq F;refine An hS F ah (λ_ ah=>?_) (λ_ ah=>?_)
   ·obtain⟨ge,ah⟩:=un ah;exact Cd hS F (n,(IntKind.wrap .i64 (CW .shr .u64 (IntKind.wrap .u64 (ae+af)) 1))+1,af,av+1+1+1+1) ah
   ·exact Cd hS F (n,ae,IntKind.wrap .i64 (CW .shr .u64 (IntKind.wrap .u64 (ae+af)) 1),av+1+1+1+1) ah
  ·exact B4 hS F (ae,av+1) ah
 ·rintro⟨i1398,fx⟩ rfl;obtain⟨fq,fp,h⟩:=un h;by_cases hi:i1398<(x1370.length:Int)
  ·have hd:decide (i1398<(x1370.length:Int))=true:=aB hi;obtain⟨c,hc⟩:=yX (fp hd);have hq:=(Cb Au (Ou (0,0,0,[],0,0) (fq hd).1 hi) F).2.1;exact Ai hS (fc hc (fc hd (fc hq F))) h
  ·have hd:decide (i1398<(x1370.length:Int))=false:=bJ hi;exact Ai hS (fc (bI Au hi) (fc hd F)) h
def Dk(N:Nat)(aj:List (Int×Int×Int×(List (Int×Int))×Int×Int))(aq:Int):Option ((Int×Int×Int×(List (Int×Int))×Int×Int)×Bool):=(ER N aj).bind λcz=>bif !cz then(some ((0,0,0,[],0,0),false))else((A5 N aj aq).bind λ(cy,cu)=>bif !cu then(some ((0,0,0,[],0,0),false))else((A7 aj cy).bind λ(bu,br,bq,x1410,bp,bo)=>gd (x1410≠[])<|gd ((x1410.length)*16<=140737488355328)<|some ((bu,br,bq,x1410,bp,bo),true)))
@[go_sem] def s38(N:Nat):Spec:=p0<|(Aoh<|qD Ak<|Aof<|Aoi<|Aof<|Aog ((0,0,0,[],0,0),false) λr=>.tup [.agg [.i r.1.1,.i r.1.2.1,.i r.1.2.2.1,BP r.1.2.2.2.1,.i r.1.2.2.2.2.1,.i r.1.2.2.2.2.2],.b r.2]) (Dk N)
theorem Zz(N:Nat):AG Tryz.prog 38 (s38 N):=by
 refine fk (Aoq x38 (Ab (SG N)<|Ab (Qa N)<|Aj)) ?_;intro aj aq r h _ hS F;dsimp only[x38,Ah,Ak];unfold Dk at h;obtain⟨cz,dm,h⟩:=un h;replace F:=fc dm F;refine An hS F h (λ_ h=>?_) (λ_ h=>?_)
 ·exact Ai hS F h
 ·obtain⟨⟨cy,cu⟩,dl,h⟩:=un h;replace F:=fc dl F;refine An hS F h (λ_ h=>?_) (λ_ h=>?_)
  ·exact Ai hS F h
  ·obtain⟨⟨bu,br,bq,x1410,bp,bo⟩,dz,h⟩:=un h;obtain⟨fh,F⟩:=Cb Au dz F;refine go hS F ?_;refine GO hS 2 x87.hf x87.hc x87.hn x87.ok rfl (ev F) (ev F) ?_ rfl (ev F) (oL rfl) λhb=>?_
   ·exact Bl hS F
   dsimp only[x87,Ah];obtain⟨gj,h⟩:=un h;refine KR hS F ?_;obtain⟨gi,h⟩:=un h;exact Ai hS F h
end
section
def ik:Nat:=1600000
@[reducible] def Aiy(b:Nat)(m:Nm)(fl:List Bool)(la:Nat):AV:=.gd false (.agg [.v (.int .i64 b),.mp m,.sl 0 true (fl.map λx=>[.v (.bool x)]) [],.v (.int .i64 la)])
structure II(U:Cf)(b:Nat)(m:Nm)(fl:List Bool)(la:Nat):Prop where
 o:U.O b/\¬U.M b
 al:U.al m
 it:∃seen:Array Nat,U.w.heap[b]? =some (.mapIter (some (U.rb m)) fl.length seen fl.length)/\(∀i,seen.contains i=fl.getD i false)/\((∃x,x∈fl/\x=true)->∃s2:Array Nat,seen=s2.push la/\la<fl.length)
theorem II.mono{U σ':Cf}{b:Nat}{m:Nm}{fl:List Bool}{la:Nat}(h:II U b m fl la)(e:Evo U σ'):II σ' b m fl la:=by obtain⟨seen,h1,h2,h3⟩:=h.it;obtain⟨g1,g2⟩:=e.fro b _ h1 h.o.2;obtain⟨k1,k2⟩:=e.box m h.al;exact⟨⟨by rw[e.out];exact h.o.1,g2⟩,k1,seen,by rw[k2];exact g1,h2,h3⟩
def Ctx.mi(P:Program)(S:Tab)(nt hb N:Nat)(hnt:nt<=ik):Ctx:={P:=P,F:=Fence.wide,S:=S,nt:=nt,hb:=(hb,false),R:=EvoB N (λ_=>False),G:=λe U=>N<=U.w.heap.size/\∀b m fl la,lk e ik=Aiy b m fl la->N<=b/\II U b m fl la,ofE:=Evo.evoB,tr:=EvoB.trans,g:=λ{U σ' e e'} h ev hl=>⟨rC h.1 ev.sz,λb m fl la hb=>by
  rcases hl ik hnt with h1|h1
  ·rw[h1]at hb;cases hb
  ·exact⟨(h.2 b m fl la (h1.symm.trans hb)).1,(h.2 b m fl la (h1.symm.trans hb)).2.mono ev⟩⟩}
theorem Adw{P:Program}{S:Tab}{nt hb N:Nat}{hnt:nt<=ik}:(Ctx.mi P S nt hb N hnt).S=S:=rfl
attribute [go_sem] Adw ik
section
variable{P:Program}{S:Tab}{nt hb N:Nat}{hnt:nt<=ik}{rid:Nat}{ops:List AOp}{Q:AE->St->Prop}{e e1:Az}{h h1:Hp}{c:Nat}{vc:Prop}{d:Option Nat}{x0:Opd}{m:Nm}{rows:List (List AV)}
end
mutual
theorem Sm{U Z:Cf}:∀(x:AV)(v v':Value),Rep U x v->Rep Z x v'->Rep {Z with al:=U.al} x v'
 |.v _,_,_,_,h=>by simpa[Rep]using h
 |.sl a b c d,_,_,_,h=>Rep.ofPure (U:=Z) (σ':={Z with al:=U.al}) (λb hb=>hb) (λ_ _=>rfl) (.sl a b c d) _ rfl h
 |.ro a b,_,_,_,h=>Rep.ofPure (U:=Z) (σ':={Z with al:=U.al}) (λb hb=>hb) (λ_ _=>rfl) (.ro a b) _ rfl h
 |.agg cs,_,_,k,h=>by obtain⟨ys,k1,k2,k3⟩:=k;obtain⟨xs,h1,h2,h3⟩:=h;exact⟨xs,h1,h2,M3 cs ys xs k3 h3⟩
 |.tup cs,_,_,k,h=>by obtain⟨ys,k1,k3⟩:=k;obtain⟨xs,h1,h3⟩:=h;exact⟨xs,h1,M3 cs ys xs k3 h3⟩
 |.clo f cs bs,_,_,k,h=>by obtain⟨ys,zs,k1,k2,k3⟩:=k;obtain⟨xs,us,h1,h2,h3⟩:=h;exact⟨xs,us,h1,M3 cs ys xs k2 h2,M3 bs zs us k3 h3⟩
 |.box n o,_,_,k,h=>by grind[Rep]
 |.own n l,_,_,k,h=>by grind[Rep]
 |.elem _ _ _ _ _,_,_,k,h=>by grind[Rep]
 |.mp _,_,_,k,h=>by grind[Rep]
 |.gd b x,v,v',k,h=>by exact⟨λhb=>Sm x v v' (k.1 hb) (h.1 hb),h.2⟩
 |.un,_,_,_,_=>by simp[Rep]
theorem M3{U Z:Cf}:∀(xs:List AV)(vs vs':List Value),RepL U xs vs->RepL Z xs vs'->RepL {Z with al:=U.al} xs vs'
 |[],_,_,_,h=>by simpa[RepL]using h
 |x::xs,_,_,k,h=>by obtain⟨y,ys,_,k2,k3⟩:=k;obtain⟨z,zs,h1,h2,h3⟩:=h;exact⟨z,zs,h1,Sm x y z k2 h2,M3 xs ys zs k3 h3⟩
end
theorem Sn{U Z:Cf}{sz b:Nat}:∀{rows:List (List AV)}{o:Nat}{b' o':Nat},RepRows U sz b' o' rows->RepRows Z sz b o rows->RepRows {Z with al:=U.al} sz b o rows
 |[],_,_,_,_,_=>by simp[RepRows]
 |r::rs,o,b',o',k,h=>by simp only[RepRows]at h k⊢;refine⟨h.1,FQ λj c hc=>?_,Sn k.2.2 h.2.2⟩;grind[Hg,Sm]
theorem So{U Z:Cf}:∀{rows:List (List AV)}{es es':List MapEntry},RepEnts U rows es->RepEnts Z rows es'->RepEnts {Z with al:=U.al} rows es'
 |[],_,_,_,h=>h
 |r::rs,_,_,⟨e,es,k1,k2,k3⟩,⟨e',es',h1,h2,h3⟩=>⟨e',es',h1,M3 _ _ _ k2 h2,So k3 h3⟩
theorem HInv.fgt{U Z:Cf}{hp:Hp}(h:HInv U hp)(k:HInv Z hp):HInv {Z with al:=U.al} hp where
 ln:=k.ln
 cel n j c hc:=by
  obtain⟨h1,h2,h3⟩:=h.cel n j c hc;obtain⟨k1,k2,k3⟩:=k.cel n j c hc;refine⟨h1,k2,?_⟩;rcases k3 with⟨cs,T,x,g1,g2,g3,g4⟩|⟨rows,es,g1,g2,g3,g4,g5⟩
  ·refine .inl ⟨cs,T,x,g1,g2,g3,?_⟩;rcases h3 with⟨_,_,y,_,_,_,q4⟩|⟨rows,es,q1,_⟩
   ·exact Sm c y x q4 g4
   ·rw[q1.1]at g4⊢;simp only[Rep]at g4⊢;refine⟨λe=>?_,g4.2⟩;cases e
  ·refine .inr ⟨rows,es,g1,g2,g3,?_,g5⟩;rcases h3 with⟨_,_,y,_,_,q3,q4⟩|⟨rows',es',q1,_,_,q4,_⟩
   ·rw[g1.1]at q4;simp only[Rep]at q4;have:=q4.2 trivial;subst this;simp[undef,Bw]at q3
   ·have:=q1.1.symm.trans g1.1;simp only[AV.gd.injEq,AV.sl.injEq,true_and,and_true]at this;subst this;exact So q4 g4
 arr n sz live rows d hn:=by
  obtain⟨h1,h2,h3,h4⟩:=h.arr n sz live rows d hn;obtain⟨k1,k2,k3,k4⟩:=k.arr n sz live rows d hn;refine⟨h1,k2,k3,?_⟩;rcases k4 with⟨a,g1,g2⟩|⟨b,o,cap,g1,g2,g3,g4,g5,g6⟩
  ·exact .inl ⟨a,g1,g2⟩
  ·refine .inr ⟨b,o,cap,g1,g2,g3,?_,g5,λe=>g6 e⟩;rcases h4 with⟨_,_,rfl⟩|⟨b',o',_,_,_,_,q4,_⟩
   ·simp[RepRows]
   ·exact Sn q4 g4
 inj p q b hp hq:=k.inj p q b hp hq
 lt:=k.lt
 ou:=k.ou
 dis:=k.dis
def N8(l:List (Nat×Spec))(q:Nat->List AV->List AV->Option (Prop×AV)):Tab:=⟨J9 l,false,false,P6,T9,q,Pz,PB,PA⟩
theorem vH(l q):(N8 l q).f=J9 l:=rfl
theorem vI(l q):(N8 l q).w=false:=rfl
theorem vJ(l q):(N8 l q).m=false:=rfl
theorem vK(l q):(N8 l q).e=P6:=rfl
theorem vL(l q):(N8 l q).p=T9:=rfl
theorem vM(l q):(N8 l q).k=Pz:=rfl
theorem vN(l q):(N8 l q).o=PB:=rfl
theorem vO(l q):(N8 l q).y=PA:=rfl
theorem vP(l q):(N8 l q).q=q:=rfl
attribute [go_sem] vO vN vM vH vI vJ vK vL vP
theorem V2{V:Ctx}(t:Nat)(y:AV){x0:AV}{x:AC}{Q:AE->St->Prop}{e:Az}{h:Hp}{c:Nat}(ht:t<V.nt)(he:lk e t=x0)(hw:∀U v,Rep U x0 v->Rep U y v)(hQ:Ax V x Q ⟨(t,y)::e,h,c⟩):Ax V x Q ⟨e,h,c⟩:=by
 intro code hcc U a hA;have hr:=hA.1.t t;rw[he]at hr;have ev:=Evo.refl U;refine hQ code hcc U a ⟨⟨hA.1.h,λt'=>?_,hA.1.sz,(hA.1.df.mono ev).un (.inr (MK ht))⟩,hA.2.1,V.g hA.2.2 ev λt' ht'=>?_⟩
 ·simp only[lk];by_cases e:t=t'
  ·subst e;rw[dW rfl];exact hw _ _ hr
  ·rw[dQ e];exact hA.1.t t'
 ·right;simp only[lk];rw[dQ (by omega)]
theorem Yb{V:Ctx}(t:Nat){z:Nat}{f:Bool}{d:List AV}{x:AC}{Q:AE->St->Prop}{e:Az}{h:Hp}{c:Nat}(ht:t<V.nt)(he:lk e t=.sl z f [] d)(h1:∀k,Ax V x Q ⟨(t,.v (.slice none 0 k))::e,h,c⟩)(h2:∀b k,Ax V x Q ⟨(t,.v (.slice (some b) 0 k))::e,h,c⟩):Ax V x Q ⟨e,h,c⟩:=by
 intro code hcc U a hA;have hr:=hA.1.t t;rw[he]at hr;obtain⟨base,cap,hv,_⟩:=hr;have ev:=Evo.refl U;have key:∀y,(∀v,v=a.tmps.getD t undef->Rep U y v)->Ax V x Q ⟨(t,y)::e,h,c⟩->code.wpIn V.F 0 V.P (lift V U Q) a U.w:=λy hw hQ=>by
  refine hQ code hcc U a ⟨⟨hA.1.h,λt'=>?_,hA.1.sz,(hA.1.df.mono ev).un (.inr (MK ht))⟩,hA.2.1,V.g hA.2.2 ev λt' ht'=>?_⟩
  ·simp only[lk];by_cases e:t=t'
   ·subst e;rw[dW rfl];exact hw _ rfl
   ·rw[dQ e];exact hA.1.t t'
  ·right;simp only[lk];rw[dQ (by omega)]
 cases base with
 |none=>exact key _ (λv e=>by subst e;simp only[Rep];exact hv) (h1 cap)
 |some b=>exact key _ (λv e=>by subst e;simp only[Rep];exact hv) (h2 b cap)
theorem rD{U:Cf}{z:Nat}{d:List AV}{b:Option Addr}{k:Nat}(v:Value)(h:Rep U (.v (.slice b 0 k)) v):Rep U (.sl z false [] d) v:=by simp only[Rep]at h⊢;exact⟨b,k,h,tD _,λh=>Bool.noConfusion h,λr hr=>absurd hr List.not_mem_nil,.inl trivial⟩
theorem iX{V:Ctx}(m:Nm)(j:Nat)(y:AV){x0:AV}{x:AC}{Q:AE->St->Prop}{e:Az}{h:Hp}{c:Nat}(he:hl h (.c m j)=some x0)(hm:isM x0=false)(hw:∀U v,Rep U x0 v->Rep U y v)(hQ:Ax V x Q ⟨e,(.c m j,y)::h,c⟩):Ax V x Q ⟨e,h,c⟩:=by
 intro code hc U a hA;obtain⟨k1,k2,cs,T,v,k3,k4,k5,k6⟩:=(hA.1.h.cel m j _ he).cells hm;have hI:=hA.1.h;have ev:=Evo.refl U;refine hQ code hc U a ⟨⟨⟨λn'=>?_,λn' j' c' hc'=>?_,λn' sz live rows d' hc'=>?_,λp q b hp hq=>?_,hI.lt,hI.ou,hI.dis⟩,hA.1.t,hA.1.sz,hA.1.df⟩,hA.2.1,hA.2.2⟩
 ·have:=hI.ln n';simpa only[lenOf,hl,dQ (show¬Loc.c m j=Loc.a n' by intro e;cases e)]using this
 ·simp only[hl]at hc';by_cases e:Loc.c m j=Loc.c n' j'
  ·rw[dW e]at hc';cases e
   simp at hc';subst hc';exact⟨k1,k2,.inl ⟨cs,T,_,k3,k4,k5,hw _ _ k6⟩⟩
  ·rw[dQ e]at hc';exact hI.cel n' j' c' hc'
 ·simp only[hl,dQ (show¬Loc.c m j=Loc.a n' by intro e;cases e)]at hc';exact hI.arr n' sz live rows d' hc'
 ·have key:∀p b,Owns U ((.c m j,y)::h) p b->Owns U h p b:=by
   rintro p b (⟨g1,g2,j',c',g3⟩|⟨g1,⟨sz,rows,d',g2⟩,o,cap,g3,g4⟩)
   ·simp only[hl]at g3;by_cases e:Loc.c m j=Loc.c p.2 j'
    ·cases e
     exact .inl ⟨g1,g2,j,x0,he⟩
    ·rw[dQ e]at g3;exact .inl ⟨g1,g2,j',c',g3⟩
   ·simp only[hl]at g2;rw[dQ (by intro e;cases e)]at g2;exact .inr ⟨g1,⟨sz,rows,d',g2⟩,o,cap,g3,g4⟩
  exact hI.inj p q b (key p b hp) (key q b hq)
theorem Yc{U:Cf}{z z':Nat}{f:Bool}{d d':List AV}(v:Value)(h:Rep U (.sl z f [] d) v):Rep U (.sl z' false [] d') v:=by simp only[Rep]at h⊢;obtain⟨b,k,h1,h2,_⟩:=h;exact⟨b,k,h1,h2,λh=>Bool.noConfusion h,λr hr=>absurd hr List.not_mem_nil,.inl trivial⟩
theorem Yd{V:Ctx}(m:Nm)(j:Nat)(z':Nat)(d':List AV){z:Nat}{f:Bool}{d:List AV}{x:AC}{Q:AE->St->Prop}{e:Az}{h:Hp}{c:Nat}(he:hl h (.c m j)=some (.sl z f [] d))(hQ:Ax V x Q ⟨e,(.c m j,.sl z' false [] d')::h,c⟩):Ax V x Q ⟨e,h,c⟩:=iX m j _ he rfl (λ_=>Yc) hQ
end
section
attribute [local irreducible] Ax BO BB Bj BC Bk AY BD BK Cq
def BJ(N:Nat)(s1550:List (Int×Int)):Option (List (Int×Int)):=gd (s1550≠[])<|gd ((s1550.length)*16<=140737488355328)<|some s1550
@[go_sem] def s87(N:Nat):Spec:=p0<|(Aon Aq<|Aof<|Aog [] BP) (BJ N)
theorem UZ(N:Nat):AG Tryz.prog 87 (s87 N):=by refine fk (Aoq x87 (Aj)) ?_;intro s1550 r h _ hS F;dsimp only[x87,Ah,Aq];unfold BJ at h;obtain⟨gy,h⟩:=un h;refine KR hS F ?_;obtain⟨gx,h⟩:=un h;exact Ai hS F h
def Iq(N:Nat)(dt:Int)(dq:Int)(dm:Int)(dl:List (Int×Int))(dh:Int)(dg:Int)(de:Int)(db:Int)(da:Int)(cz:List (Int×Int))(cy:Int)(cu:Int):Option Bool:=(Fy N de db da cz cy cu dt dq dm dl dh dg).bind λd9=>some d9
@[go_sem] def Ad6(N:Nat):Spec:=p0<|(Aoh<|Aoi<|Aoi<|Aoi<|Aon Aq<|Aoi<|Aoi<|Aof<|Aol<|Aoi<|Aoi<|Aoi<|Aom Aq<|Aoi<|Aoi<|Aof<|Aof<|Aog false .b) (Iq N)
theorem yV(N:Nat):AG Tryz.prog 201 (Ad6 N):=by refine fk (Aoq Al0 (Ab (cS N)<|Aj)) ?_;intro dt dq dm dl dh dg de db da cz cy cu r h _ hS F;dsimp only[Al0,Ah,Aq];unfold Iq at h;obtain⟨d9,gc,h⟩:=un h;exact Ai hS (fc gc F) h
def Bb(N:Nat)(s1565:List (Int×Int×Int×(List (Int×Int))×Int×Int))(av:Int)(au:Int)(aq:Int)(an:List (Int×Int))(am:Int)(ak:Int):Nat->Int->Option (Sum Unit Int)|0,_=>none|n+1,aj=>bif decide (aj<(s1565.length:Int))then((A7 s1565 aj).bind λ(cr,cq,co,cn,cj,ci)=>(Iq N cr cq co cn cj ci av au aq an am ak).bind λd8=>bif d8 then(some (.inr aj))else(gd (Af (aj+1))<|Bb N s1565 av au aq an am ak n (aj+1)))else(some (.inl ()))
def CS(N:Nat)(s1565:List (Int×Int×Int×(List (Int×Int))×Int×Int))(av:Int)(au:Int)(aq:Int)(an:List (Int×Int))(am:Int)(ak:Int):Option Int:=(Bb N s1565 av au aq an am ak N 0).bind λbv=>match bv with|.inl ()=>(some (-1))|.inr gi=>(some gi)
@[go_sem] def cU(N:Nat):Spec:=p0<|(qD Ak<|Aok 201<|Aol<|Aoi<|Aoi<|Aoi<|Aom Aq<|Aoi<|Aoi<|Aof<|Aof<|Aof<|Aog 0 .i) (CS N)
theorem XE(N:Nat):AG Tryz.prog 209 (cU N):=by
 refine fk (Aoq Al2 (Ab (yV N)<|Aj)) ?_;intro s1565 av au aq an am ak r h _ hS F;dsimp only[Al2,Ah,Aq,Ak];unfold CS at h;obtain⟨bv,ij,h⟩:=un h;refine go hS F ?_;refine Bz bv (λz:Nat=>⟨[],[],z⟩) (λz=>(.inl ():Sum Unit Int)) (.x 0) ?_ ?_
 ·refine Bp (λn (y:Int×Nat)=>Bb N s1565 av au aq an am ak n y.1) (λy=>⟨[(0,Ap s1565),(1,.clo (.func 201) [] [.ro [.i av,.i au,.i aq,BP an,.i am,.i ak] 0]),(7,.i (s1565.length:Int)),(8,.i y.1)],[],y.2⟩) (0,2) ij (Ch F) ?_;rintro n ⟨aj,fg⟩ az;simp only[Bb]at az;refine An hS F az (λ_ az=>?_) (λ_ az=>?_)
  ·obtain⟨⟨cr,cq,co,cn,cj,ci⟩,gh,az⟩:=un az;obtain⟨gv,F⟩:=Cb Au gh F;obtain⟨d8,fx,az⟩:=un az;replace F:=fc fx F;refine An hS F az (λ_ az=>?_) (λ_ az=>?_)
   ·obtain rfl:=yJ az;exact Ai hS F h
   ·obtain⟨gw,az⟩:=un az;exact Cd hS F (n,aj+1,fg+1+1+1+1) az
  ·exact B4 hS F (fg+1) az
 ·rintro g9 rfl;exact Ai hS F h
def BH(N:Nat)(du:List (Int×Int×Int×(List (Int×Int))×Int×Int))(ez:Int)(ep:Int)(ej:Int)(ei:List (Int×Int))(eh:Int)(ee:Int):Option Bool:=(CS N du ez ep ej ei eh ee).bind λd7=>some (decide (0<=d7))
@[go_sem] def cV(N:Nat):Spec:=p0<|(qD Ak<|Aok 201<|Aol<|Aoi<|Aoi<|Aoi<|Aom Aq<|Aoi<|Aoi<|Aof<|Aof<|Aof<|Aog false .b) (BH N)
theorem XF(N:Nat):AG Tryz.prog 200 (cV N):=by refine fk (Aoq AlZ (Ab (XE N)<|Aj)) ?_;intro du ez ep ej ei eh ee r h _ hS F;dsimp only[AlZ,Ah,Aq,Ak];unfold BH at h;obtain⟨d7,fr,h⟩:=un h;exact Ai hS (fc fr F) h
def ZA:Spec|[.sl 0 true [] [],.v (.int .i64 n),.sl 6 _ [u] d]=>some (n=0/\u.length=6,.sl 6 false [u] d)|_=>none
@[go_sem] theorem Ad7(n:Int)(f:Bool)(u d:List AV):ZA [.sl 0 true [] [],.v (.int .i64 n),.sl 6 f [u] d]=some (n=0/\u.length=6,.sl 6 false [u] d):=rfl
theorem sK:AG Tryz.prog 203 ZA:=by
 refine⟨ZY,λargs vc r h hv=>?_⟩;unfold ZA at h;split at h
 ·rename_i n f u d;simp only[yE,KW]at h;obtain⟨rfl,rfl⟩:=h;obtain⟨rfl,hu⟩:=hv;intro U vs gl hlt hp hr;simp only[RepL]at hr;obtain⟨v0,_,rfl,r0,v1,_,rfl,r1,v2,_,rfl,r2,rfl⟩:=hr;simp only[AP,B2,nK,Kh]at hp;simp only[Rep]at r0 r1;obtain⟨base,cap,rfl,_,hc,_⟩:=r0;have hc:=hc trivial;simp only[yH]at hc;subst hc;subst r1;have r2':Rep U (.sl 6 false [u] d) v2:=by simp only[Rep]at r2⊢;obtain⟨b2,c2,h1,h2,h3,h4,h5⟩:=r2;exact⟨b2,c2,h1,h2,λe=>(by cases e),h4,h5⟩
  have pu:AP u=true:=by simp only[Rep]at r2;obtain⟨_,_,_,_,_,h4,_⟩:=r2;exact h4 u (by simp)
  have o:=Akm .u (rows:=[]) (u:=u) (d:=d) (i:=0) (fW _) (by decide) (by simp) U [.int .i64 0,v2] [] base U.w.heap.size 0 0 gl hlt (by simp only[RepL];exact⟨_,_,rfl,by simp only[Rep];rfl,_,_,rfl,r2',rfl⟩) (by simp[RepL]) (by simp) (by simp) (fW _) (.inr ⟨rfl,fW _⟩);refine o.mono ?_;rintro e w' ⟨b',o',cap',vals',rfl,q1,q2,q3,q4,q5,q6,q7⟩;have hk:∀x,x<U.w.heap.size->w'.heap[x]? =U.w.heap[x]? :=λx hx=>q2.heap x hx (by omega)
  refine⟨_,rfl,λx ob hx=>?_,q2.io,?_,?_⟩
  ·rw[hk x (dY.1 hx).1];exact hx
  ·simp[B2]
  ·have hf:∀b,Fz U b->Fz (U.at w') b:=λb hb=>⟨hb.1,hb.2.1,tL hb.2.2 q2.sz⟩
   have q8:=RepL.ofPure (σ':=U.at w') hf (λb hb=>hk b hb.2.2) _ vals' (by simpa using pu) q6;simp only[Rep];refine⟨_,cap',rfl,q1,λe=>(by cases e),λr hr=>?_,.inr ⟨b',o',rfl,⟨λhM=>?_,λhO=>?_,q4⟩,Dl q8 q7 q5 λr hr=>?_⟩⟩
   ·simp only[List.take_nil,List.drop_nil,pA,qO,vF]at hr;rw[hr];exact pu
   ·have:=hlt b' (.inl hM);omega
   ·have:=hlt b' (.inr hO);omega
   ·simp only[List.take_nil,List.drop_nil,pA,qO,vF]at hr;rw[hr];exact hu
 ·cases h
def FX(N:Nat)(f1607:List (Int×Int×Int×(List (Int×Int))×Int×Int)):Nat->Int->(List (Int×Int×Int×(List (Int×Int))×Int×Int))->Option ((List (Int×Int×Int×(List (Int×Int))×Int×Int)))|0,_,_=>none|n+1,x1630,l1631=>bif decide (x1630<(f1607.length:Int))then((A7 l1631 x1630).bind λ(bn,bm,bl,ce,bj,bi)=>(BJ N ce).bind λbp=>gd (Af (x1630+1))<|FX N f1607 n (x1630+1) (l1631.set x1630.toNat (bn,bm,bl,bp,bj,bi)))else(some l1631)
def Fd(N:Nat)(f1607:List (Int×Int×Int×(List (Int×Int))×Int×Int))(aa:Int)(ah:Int)(af:Int)(ai:List (Int×Int))(ae:Int)(ab:Int):Option ((List (Int×Int×Int×(List (Int×Int))×Int×Int))×Int):=(ER N f1607).bind λbr=>gd ((!(!br))=true->((B6 N aa ah af ai ae ab).isSome=true))<|bif ((!br)||(!((B6 N aa ah af ai ae ab).getD false)))||(decide ((f1607.length:Int)=12))then(some ([],120))else((A5 N f1607 aa).bind λ(r1616,bq)=>gd ((!bq)=true->((BH N f1607 aa ah af ai ae ab).isSome=true))<|bif bq||((BH N f1607 aa ah af ai ae ab).getD false)then(some ([],120))else(gd ((f1607.length)*64<=140737488355328)<|(FX N f1607 N 0 f1607).bind λl1645=>(BJ N ai).bind λay=>gd (0<=r1616/\r1616<=(l1645.length:Int))<|gd ((l1645.length+1)*64<=140737488355328)<|some (l1645.take r1616.toNat++[(aa,ah,af,ay,ae,ab)]++l1645.drop r1616.toNat,0)))
@[go_sem] def Ad8(N:Nat):Spec:=p0<|(Aoh<|qD Ak<|Aof<|Aoh<|Aoi<|Aoi<|Aoi<|qD Aq<|Aoi<|Aoi<|Aof<|Aof<|Aog ([],0) λr=>.tup [.agg [Ap r.1],.i r.2]) (Fd N)
theorem Wm(N:Nat):AG Tryz.prog 186 (Ad8 N):=by
 refine fk (Aoq AlV (Ab sK<|Ab (SG N)<|Ab (Pj N)<|Ab (Qa N)<|Ab (XF N)<|Ab (UZ N)<|Aj)) ?_;intro f1607 aa ah af ai ae ab r h _ hS F;dsimp only[AlV,Ah,Aq,Ak];unfold Fd at h;obtain⟨br,fq,gy,h⟩:=un h;replace F:=fc fq F;refine An hS F h (λ_ h=>?_) (λ_ h=>?_)
 ·exact Ai hS F h
 ·obtain⟨⟨r1616,bq⟩,fp,h⟩:=un h;obtain⟨gx,h⟩:=un h;replace F:=fc fp F;refine An hS F h (λ_ h=>?_) (λ_ h=>?_)
  ·exact Ai hS F h
  ·refine go hS F ?_;refine GO hS 1 x202.hf x202.hc x202.hn x202.ok rfl (ev F) (ev F) ?_ rfl (ev F) (oL rfl) λhb=>?_
   ·exact Bl hS F
   dsimp only[x202,Ah];refine go hS F ?_;refine GO hS 2 x210.hf x210.hc x210.hn x210.ok rfl (ev F) (ev F) ?_ rfl (ev F) (oL rfl) λhb=>?_
   ·exact Bl hS F
   dsimp only[x210,Ah];by_cases gw:f1607=[]
   ·subst gw;obtain⟨ig,h⟩:=un h;obtain⟨bu,gm,h⟩:=un h;obtain rfl:bu=[]:=by
     cases N with
     |zero=>cases gm
     |succ n=>rw[FX]at gm;exact(yJ gm).symm
    obtain⟨ay,ba,gr,ib,h⟩:=un h;obtain rfl:r1616=0:=by simp only[yH]at gr;omega
    replace F:=fc ba F;refine Yb 0 (by show(0:Nat)<8;omega) (ev F) (λk=>?_) (λb k=>?_)
    ·refine Om hS F ?_;refine go hS F ?_;refine Pi 30 ?_;refine KR hS F ?_;exact Ai hS F h
    ·refine KR hS F ?_;refine V2 0 (.sl 6 false [] [.i 0,.i 0,.i 0,.sl 0 true [] [],.i 0,.i 0]) (by show(0:Nat)<8;omega) (ev F) (λ_=>rD) ?_;refine go hS F ?_;refine Pi 30 ?_;refine KR hS F ?_;refine go hS F ?_;refine Ta (Ctx.fn_ok hS) 5 ZY rfl (ev F) ?_ (ev F) (ev F) (by simp) (ev F) (ev F) (ev F) (by simp only[go_sem,seval,F]<;>simp) OH (YU (l:=[]) (i:=0) (u:=(aa,ah,af,ay,ae,ab)) (by omega) (by simp) (by simp)) (ev F) ?_ ?_
     ·exact Bl hS F
     ·exact Bl hS F
     exact Ai hS F h
   refine KR hS F ?_;obtain⟨ig,h⟩:=un h;obtain⟨bu,gm,h⟩:=un h;refine go hS F ?_;refine Bz bu (λz:(List (Int×Int×Int×(List (Int×Int))×Int×Int))×Nat=>⟨[(2,.box (1,6) 0),(3,.box (104,11) 0)],[(.c (1,1) 0,.i aa),(.c (1,1) 1,.i ah),(.c (1,1) 2,.i af),(.c (1,1) 3,BP ai),(.c (1,1) 4,.i ae),(.c (1,1) 5,.i ab),(.c (0,1) 0,Ap f1607),(.c (2,1) 0,.sl 0 true [] []),(.c (104,11) 0,.own (300,10) z.1.length),(.a (300,10),B7 z.1),(.c (1,6) 0,.sl 0 true [] [])],z.2⟩) (λz=>(z.1:(List (Int×Int×Int×(List (Int×Int))×Int×Int)))) (.x 0) ?_ ?_
   ·refine Bp (λn (y:Int×(List (Int×Int×Int×(List (Int×Int))×Int×Int))×Nat)=>FX N f1607 n y.1 y.2.1) (λy=>⟨[(2,.box (1,6) 0),(3,.box (104,11) 0),(11,.i (f1607.length:Int)),(12,.i y.1)],[(.c (1,1) 0,.i aa),(.c (1,1) 1,.i ah),(.c (1,1) 2,.i af),(.c (1,1) 3,BP ai),(.c (1,1) 4,.i ae),(.c (1,1) 5,.i ab),(.c (0,1) 0,Ap f1607),(.c (2,1) 0,.sl 0 true [] []),(.c (104,11) 0,.own (300,10) y.2.1.length),(.a (300,10),B7 y.2.1),(.c (1,6) 0,.sl 0 true [] [])],y.2.2⟩) (0,f1607,12) gm (Ch F) ?_;rintro n ⟨x1630,l1631,e9⟩ bz;simp only[FX]at bz;refine An hS F bz (λ_ bz=>?_) (λ_ bz=>?_)
    ·obtain⟨⟨bn,bm,bl,ce,bj,bi⟩,gg,bz⟩:=un bz;obtain⟨gu,F⟩:=Cb Au gg F;obtain⟨bp,fo,ic,bz⟩:=un bz;exact Cd hS (fc fo F) (n,x1630+1,l1631.set x1630.toNat (bn,bm,bl,bp,bj,bi),e9+1+1+1+1) bz
    ·exact B4 hS F (l1631,e9+1) bz
   ·rintro⟨l1645,g8⟩ rfl;obtain⟨ay,ba,gr,ib,h⟩:=un h;replace F:=fc ba F;refine go hS F ?_;refine Ta (Ctx.fn_ok hS) 5 ZY rfl (ev F) ?_ (ev F) (ev F) (by simp) (ev F) (ev F) (ev F) (by simp only[go_sem,seval,F]<;>simp) OH (YU (l:=l1645) (i:=r1616) (u:=(aa,ah,af,ay,ae,ab)) (by omega) (by omega) (by omega)) (ev F) ?_ ?_
    ·exact Bl hS F
    ·exact Bl hS F
    exact Ai hS F h
def FB(N:Nat)(f1649:List (Int×Int×Int×(List (Int×Int))×Int×Int)):Nat->Int->(List (Int×Int×Int×(List (Int×Int))×Int×Int))->Option ((List (Int×Int×Int×(List (Int×Int))×Int×Int)))|0,_,_=>none|n+1,x1667,l1668=>bif decide (x1667<(f1649.length:Int))then((A7 l1668 x1667).bind λ(bh,bg,bf,b9,be,bb)=>(BJ N b9).bind λbo=>gd (Af (x1667+1))<|FB N f1649 n (x1667+1) (l1668.set x1667.toNat (bh,bg,bf,bo,be,bb)))else(some l1668)
def FY(N:Nat)(f1649:List (Int×Int×Int×(List (Int×Int))×Int×Int))(bw:Int):Option ((List (Int×Int×Int×(List (Int×Int))×Int×Int))×Int):=(ER N f1649).bind λdz=>bif !dz then(some ([],120))else((A5 N f1649 bw).bind λ(r1653,dw)=>bif !dw then(some ([],120))else(gd (f1649≠[])<|gd ((f1649.length)*64<=140737488355328)<|(FB N f1649 N 0 f1649).bind λl1682=>gd (Af (r1653+1))<|gd (0<=r1653/\r1653<(l1682.length:Int))<|gd ((l1682.length:Int)<=9223372036854775807)<|some (l1682.take r1653.toNat++l1682.drop (r1653.toNat+1),0)))
@[go_sem] def Ad9(N:Nat):Spec:=p0<|(Aoh<|qD Ak<|Aof<|Aoi<|Aof<|Aog ([],0) λr=>.tup [.agg [Ap r.1],.i r.2]) (FY N)
theorem Wn(N:Nat):AG Tryz.prog 188 (Ad9 N):=by
 refine fk (Aoq AlW (Ab (SG N)<|Ab (Qa N)<|Ab (UZ N)<|Aj)) ?_;intro f1649 bw r h _ hS F;dsimp only[AlW,Ah,Ak];unfold FY at h;obtain⟨dz,fm,h⟩:=un h;replace F:=fc fm F;refine An hS F h (λ_ h=>?_) (λ_ h=>?_)
 ·exact Ai hS F h
 ·obtain⟨⟨r1653,dw⟩,fj,h⟩:=un h;replace F:=fc fj F;refine An hS F h (λ_ h=>?_) (λ_ h=>?_)
  ·exact Ai hS F h
  ·refine go hS F ?_;refine GO hS 1 x202.hf x202.hc x202.hn x202.ok rfl (ev F) (ev F) ?_ rfl (ev F) (oL rfl) λhb=>?_
   ·exact Bl hS F
   dsimp only[x202,Ah];refine go hS F ?_;refine GO hS 2 x210.hf x210.hc x210.hn x210.ok rfl (ev F) (ev F) ?_ rfl (ev F) (oL rfl) λhb=>?_
   ·exact Bl hS F
   dsimp only[x210,Ah];obtain⟨gy,h⟩:=un h;refine KR hS F ?_;obtain⟨gx,h⟩:=un h;obtain⟨gj,ii,h⟩:=un h;refine go hS F ?_;refine Bz gj (λz:(List (Int×Int×Int×(List (Int×Int))×Int×Int))×Nat=>⟨[(2,.box (1,6) 0),(3,.box (104,11) 0)],[(.c (0,1) 0,Ap f1649),(.c (1,1) 0,.sl 0 true [] []),(.c (104,11) 0,.own (300,10) z.1.length),(.a (300,10),B7 z.1),(.c (1,6) 0,.sl 0 true [] [])],z.2⟩) (λz=>(z.1:(List (Int×Int×Int×(List (Int×Int))×Int×Int)))) (.x 0) ?_ ?_
   ·refine Bp (λn (y:Int×(List (Int×Int×Int×(List (Int×Int))×Int×Int))×Nat)=>FB N f1649 n y.1 y.2.1) (λy=>⟨[(2,.box (1,6) 0),(3,.box (104,11) 0),(11,.i (f1649.length:Int)),(12,.i y.1)],[(.c (0,1) 0,Ap f1649),(.c (1,1) 0,.sl 0 true [] []),(.c (104,11) 0,.own (300,10) y.2.1.length),(.a (300,10),B7 y.2.1),(.c (1,6) 0,.sl 0 true [] [])],y.2.2⟩) (0,f1649,12) ii (Ch F) ?_;rintro n ⟨x1667,l1668,e8⟩ b7;simp only[FB]at b7;refine An hS F b7 (λ_ b7=>?_) (λ_ b7=>?_)
    ·obtain⟨⟨bh,bg,bf,b9,be,bb⟩,ge,b7⟩:=un b7;obtain⟨gt,F⟩:=Cb Au ge F;obtain⟨bo,fh,ip,b7⟩:=un b7;exact Cd hS (fc fh F) (n,x1667+1,l1668.set x1667.toNat (bh,bg,bf,bo,be,bb),e8+1+1+1+1) b7
    ·exact B4 hS F (l1668,e8+1) b7
   ·rintro⟨l1682,gz⟩ rfl;obtain⟨im,ic,gr,h⟩:=un h;refine go hS F ?_;refine Ta (Ctx.fn_ok hS) 5 AcL rfl (ev F) ?_ (ev F) (ev F) (by simp) (ev F) (ev F) (ev F) (by simp only[go_sem,seval,F]<;>simp) OH (uF (l:=l1682) (i:=r1653) (by omega) (by omega) (by omega)) (ev F) ?_ ?_
    ·exact Bl hS F
    ·exact Bl hS F
    exact Ai hS F h
end
attribute [local irreducible] Ax BO BB Bj BC Bk AY BD BK Cq
def Cl(N:Nat)(aa:Int)(f1691:List (Int×Int×Int×(List (Int×Int))×Int×Int))(ai:Int)(aq:Int)(an:Int)(am:List (Int×Int))(ak:Int)(aj:Int):Nat->Int->Option (Sum Unit Bool)|0,_=>none|n+1,au=>bif decide (au<aa)then((A7 f1691 au).bind λ(cq,co,cn,cj,ci,ce)=>(EF N ai aq an am ak aj cq co cn cj ci ce).bind λdg=>bif dg then(some (.inr false))else(gd (Af (au+1))<|Cl N aa f1691 ai aq an am ak aj n (au+1)))else(some (.inl ()))
def Cm(N:Nat)(f1691:List (Int×Int×Int×(List (Int×Int))×Int×Int)):Nat->Int->Option (Sum Unit Bool)|0,_=>none|n+1,aa=>bif decide (aa<(f1691.length:Int))then((A7 f1691 aa).bind λ(ai,aq,an,am,ak,aj)=>(BU N ai aq an am ak aj).bind λdh=>gd ((decide (0<aa))=true->(Af (aa-1)))<|gd ((decide (0<aa))=true->(0<=aa-1/\aa-1<(f1691.length:Int)))<|bif (!dh)||((decide (0<aa))&&(decide (ai<=(f1691.getD (aa-1).toNat (0,0,0,[],0,0)).1)))then(some (.inr false))else((Cl N aa f1691 ai aq an am ak aj N 0).bind λbm=>match bm with|.inl ()=>(gd (Af (aa+1))<|Cm N f1691 n (aa+1))|.inr fm=>(some (.inr fm))))else(some (.inl ()))
def C8(N:Nat)(f1691:List (Int×Int×Int×(List (Int×Int))×Int×Int)):Option Bool:=bif decide (12<(f1691.length:Int))then(some false)else((Cm N f1691 N 0).bind λbl=>match bl with|.inl ()=>(some true)|.inr fj=>(some fj))
@[go_sem] def nT(N:Nat):Spec:=p0<|(Aoh<|qD Ak<|Aof<|Aof<|Aog false .b) (C8 N)
theorem ZB(N:Nat):AG Tryz.prog 60 (nT N):=by
 refine fk (Aoq x60 (Ab (QQ N)<|Ab (yP N)<|Aj)) ?_;intro f1691 r h _ hS F;dsimp only[x60,Ah,Ak];unfold C8 at h;refine An hS F h (λ_ h=>?_) (λ_ h=>?_)
 ·exact Ai hS F h
 ·obtain⟨bl,fp,h⟩:=un h;refine go hS F ?_;refine Bz bl (λz:Nat=>⟨[],[],z⟩) (λz=>(.inl ():Sum Unit Bool)) (.x 0) ?_ ?_
  ·refine Bp (λn (y:Int×Nat)=>Cm N f1691 n y.1) (λy=>⟨[(1,.box (0,1) 0),(3,.i y.1)],[(.c (0,1) 0,Ap f1691)],y.2⟩) (0,3) fp (Ch F) ?_;rintro n ⟨aa,dt⟩ ab;simp only[Cm]at ab;refine An hS F ab (λ_ ab=>?_) (λ_ ab=>?_)
   ·obtain⟨⟨ai,aq,an,am,ak,aj⟩,ei,ab⟩:=un ab;obtain⟨ge,F⟩:=Cb Au ei F;obtain⟨dh,d8,gh,gg,ab⟩:=un ab;replace F:=fc d8 F;refine An hS F ab (λ_ ab=>?_) (λ_ ab=>?_)
    ·obtain rfl:=yJ ab;exact Ai hS F h
    ·obtain⟨bm,gr,ab⟩:=un ab;refine go hS F ?_;refine Bz bm (λz:Nat=>⟨[(1,.box (0,1) 0),(3,.i aa)],[(.c (0,1) 0,Ap f1691)],z⟩) (λz=>(.inl ():Sum Unit Bool)) (.x 2) ?_ ?_
     ·refine Bp (λn (y:Int×Nat)=>Cl N aa f1691 ai aq an am ak aj n y.1) (λy=>⟨[(1,.box (0,1) 0),(3,.i aa),(4,.i y.1)],[(.c (0,1) 0,Ap f1691)],y.2⟩) (0,dt+1+1+1) gr (Ch F) ?_;rintro n ⟨au,dq⟩ ay;simp only[Cl]at ay;refine An hS F ay (λ_ ay=>?_) (λ_ ay=>?_)
      ·obtain⟨⟨cq,co,cn,cj,ci,ce⟩,eh,ay⟩:=un ay;obtain⟨gc,F⟩:=Cb Au eh F;obtain⟨dg,d7,ay⟩:=un ay;replace F:=fc d7 F;refine An hS F ay (λ_ ay=>?_) (λ_ ay=>?_)
       ·obtain rfl:=yJ ay;obtain rfl:=yJ ab;exact Ai hS F h
       ·obtain⟨gu,ay⟩:=un ay;exact Cd hS F (n,au+1,dq+1+1+1) ay
      ·exact B4 hS F (dq+1) ay
     ·rintro fq rfl;obtain⟨gt,ab⟩:=un ab;exact Cd hS F (n,aa+1,fq+1) ab
   ·exact B4 hS F (dt+1) ab
  ·rintro gm rfl;exact Ai hS F h
def Da(N:Nat)(f1748:List (Int×Int×Int×(List (Int×Int))×Int×Int))(af:Int):Nat->Int->Option (Sum Unit (((Int×Int×Int×(List (Int×Int))×Int×Int)×Bool)))|0,_=>none|n+1,av=>bif decide (av<(f1748.length:Int))then((A7 f1748 av).bind λ(az,b9,b7,bz,bw,bv)=>gd ((decide (az=af))=true->((C8 N f1748).isSome=true))<|bif (decide (az=af))&&((C8 N f1748).getD false)then((BY N az b9 b7 bz bw bv).bind λ(de,db,da,cz,cy,cu)=>some (.inr ((de,db,da,cz,cy,cu),true)))else(gd (Af (av+1))<|Da N f1748 af n (av+1)))else(some (.inl ()))
def Dm(N:Nat)(f1748:List (Int×Int×Int×(List (Int×Int))×Int×Int))(af:Int):Option ((Int×Int×Int×(List (Int×Int))×Int×Int)×Bool):=(Da N f1748 af N 0).bind λbj=>match bj with|.inl ()=>(some ((0,0,0,[],0,0),false))|.inr fh=>(some fh)
@[go_sem] def s65(N:Nat):Spec:=p0<|(Aoh<|qD Ak<|Aof<|Aoi<|Aof<|Aog ((0,0,0,[],0,0),false) λr=>.tup [.agg [.i r.1.1,.i r.1.2.1,.i r.1.2.2.1,BP r.1.2.2.2.1,.i r.1.2.2.2.2.1,.i r.1.2.2.2.2.2],.b r.2]) (Dm N)
theorem ZC(N:Nat):AG Tryz.prog 65 (s65 N):=by
 refine fk (Aoq x65 (Ab (ZB N)<|Ab (UY N)<|Aj)) ?_;intro f1748 af r h _ hS F;dsimp only[x65,Ah,Ak];unfold Dm at h;obtain⟨bj,fp,h⟩:=un h;refine go hS F ?_;refine Bz bj (λz:Nat=>⟨[(4,.box (1,1) 0)],[(.c (1,1) 0,.i 0),(.c (1,1) 1,.i 0),(.c (1,1) 2,.i 0),(.c (1,1) 3,.sl 0 true [] []),(.c (1,1) 4,.i 0),(.c (1,1) 5,.i 0)],z⟩) (λz=>(.inl ():Sum Unit (((Int×Int×Int×(List (Int×Int))×Int×Int)×Bool)))) (.x 0) ?_ ?_
 ·refine Bp (λn (y:Int×Nat)=>Da N f1748 af n y.1) (λy=>⟨[(1,.i af),(2,.box (0,1) 0),(4,.box (1,1) 0),(6,.i y.1)],[(.c (1,1) 0,.i 0),(.c (1,1) 1,.i 0),(.c (1,1) 2,.i 0),(.c (1,1) 3,.sl 0 true [] []),(.c (1,1) 4,.i 0),(.c (1,1) 5,.i 0),(.c (0,1) 0,Ap f1748)],y.2⟩) (0,2) fp (Ch F) ?_;rintro n ⟨av,dm⟩ ab;simp only[Da]at ab;refine An hS F ab (λ_ ab=>?_) (λ_ ab=>?_)
  ·obtain⟨⟨az,b9,b7,bz,bw,bv⟩,ee,ab⟩:=un ab;obtain⟨fx,F⟩:=Cb Au ee F;obtain⟨gh,ab⟩:=un ab;refine An hS F ab (λ_ ab=>?_) (λ_ ab=>?_)
   ·obtain⟨⟨de,db,da,cz,cy,cu⟩,dz,ab⟩:=un ab;obtain rfl:=yJ ab;exact Ai hS (fc dz F) h
   ·obtain⟨gg,ab⟩:=un ab;exact Cd hS F (n,av+1,dm+1+1+1) ab
  ·exact B4 hS F (dm+1) ab
 ·rintro gj rfl;exact Ai hS F h
def Dg(N:Nat)(f1800:List (Int×Int×Int×(List (Int×Int))×Int×Int))(ae:Int):Nat->Int->(List (Int×Int×Int×(List (Int×Int))×Int×Int))->Option ((List (Int×Int×Int×(List (Int×Int))×Int×Int)))|0,_,_=>none|n+1,ah,l1858=>bif decide (ah<(f1800.length:Int))then((A7 f1800 ah).bind λ(ba,bu,br,bq,bp,bo)=>bif decide (ba≠ae)then((BY N ba bu br bq bp bo).bind λ(bi,bh,bg,bf,be,bb)=>gd ((l1858.length+1)*64<=140737488355328)<|gd (Af (ah+1))<|Dg N f1800 ae n (ah+1) (l1858++[(bi,bh,bg,bf,be,bb)]))else(gd (Af (ah+1))<|Dg N f1800 ae n (ah+1) l1858))else(some l1858)
def FZ(N:Nat)(f1800:List (Int×Int×Int×(List (Int×Int))×Int×Int))(ae:Int):Option ((List (Int×Int×Int×(List (Int×Int))×Int×Int))×Int):=(Dm N f1800 ae).bind λ((fg,e9,e8,ez,ep,ej),cr)=>bif !cr then(some ([],120))else((Dg N f1800 ae N 0 []).bind λdl=>some (dl,0))
@[go_sem] def s105(N:Nat):Spec:=p0<|(Aoh<|qD Ak<|Aof<|Aoi<|Aof<|Aog ([],0) λr=>.tup [.agg [Ap r.1],.i r.2]) (FZ N)
theorem yY(N:Nat):AG Tryz.prog 105 (s105 N):=by
 refine fk (Aoq AlA (Ab (ZC N)<|Ab (UY N)<|Aj)) ?_;intro f1800 ae r h _ hS F;dsimp only[AlA,Ah,Ak];unfold FZ at h;obtain⟨⟨⟨fg,e9,e8,ez,ep,ej⟩,cr⟩,dw,h⟩:=un h;replace F:=fc dw F;refine An hS F h (λ_ h=>?_) (λ_ h=>?_)
 ·exact Ai hS F h
 ·refine go hS F ?_;refine Fc 1000001 (400,4) 0 6 [.i 0,.i 0,.i 0,.sl 0 true [] [],.i 0,.i 0] (by omega) (ev F) ?_;obtain⟨fo,fp,h⟩:=un h;refine go hS F ?_;refine Bz fo (λz:(List (Int×Int×Int×(List (Int×Int))×Int×Int))×Nat=>⟨[(4,.box (1,1) 0),(8,.box (400,4) 0)],[(.c (400,4) 0,.own (1000001,6) z.1.length),(.a (1000001,6),B7 z.1),(.c (1,1) 0,.sl 0 true [] [])],z.2⟩) (λz=>(z.1:(List (Int×Int×Int×(List (Int×Int))×Int×Int)))) (.x 0) ?_ ?_
  ·refine Bp (λn (y:Int×(List (Int×Int×Int×(List (Int×Int))×Int×Int))×Nat)=>Dg N f1800 ae n y.1 y.2.1) (λy=>⟨[(1,.i ae),(2,.box (0,1) 0),(4,.box (1,1) 0),(8,.box (400,4) 0),(9,.i y.1)],[(.c (400,4) 0,.own (1000001,6) y.2.1.length),(.a (1000001,6),B7 y.2.1),(.c (1,1) 0,.sl 0 true [] []),(.c (0,1) 0,Ap f1800)],y.2.2⟩) (0,[],6) fp (Ch F) ?_;rintro n ⟨ah,l1858,bn⟩ ab;simp only[Dg]at ab;refine An hS F ab (λ_ ab=>?_) (λ_ ab=>?_)
   ·obtain⟨⟨ba,bu,br,bq,bp,bo⟩,d9,ab⟩:=un ab;obtain⟨fr,F⟩:=Cb Au d9 F;refine An hS F ab (λ_ ab=>?_) (λ_ ab=>?_)
    ·obtain⟨⟨bi,bh,bg,bf,be,bb⟩,du,ab⟩:=un ab;obtain⟨gh,gg,ab⟩:=un ab;exact Cd hS (fc du F) (n,ah+1,l1858++[(bi,bh,bg,bf,be,bb)],bn+1+1+1+1) ab
    ·obtain⟨gv,ab⟩:=un ab;exact Cd hS F (n,ah+1,l1858,bn+1+1+1) ab
   ·exact B4 hS F (l1858,bn+1) ab
  ·rintro⟨dl,gi⟩ rfl;exact Ai hS F h
