import Derived.Test.YtjdchfljifacoaaGreatK5
set_option linter.all false
set_option maxRecDepth 100000
set_option maxHeartbeats 8000000
namespace Go.Proofs.YtjdchfljifacoaaGreat.Am
section
open Go Go.RowKit Go.Lib
theorem Lies.setIn{w:World}{b o:Nat}{vs:List Value}(h:∀j,j<vs.length->(w.cell? ⟨b,o+j,none⟩).isSome=true):Lies (w.setCells b o vs) b o vs:=λj v hj=>by have hlt:=(nL.1 hj).1;rw[World.cell?_setCells_in b vs o w h j hlt];exact(nL.1 hj).2▸rfl
theorem Lies.setOut{w:World}{b o o':Nat}{xs vs:List Value}(h:Lies w b o xs)(hd:o+xs.length<=o'\/o'+vs.length<=o):Lies (w.setCells b o' vs) b o xs:=λj v hj=>by have hlt:=(nL.1 hj).1;rw[World.cell?_setCells_out b vs o' w _ (λ_ _=>hd.elim (λhd=>.inl (by show o+j<o';omega)) (λhd=>.inr (by show o'+vs.length<=o+j;omega)))];exact h j v hj
theorem KeptB.alloc(b:Nat)(w:World)(ob:Obj):KeptB b w (w.alloc ob):=⟨λx hx _=>by rw[World.alloc,Array.getElem?_push_lt hx,kC hx],by rw[World.alloc,Array.size_push];exact Nat.le_succ _,⟨rfl,rfl⟩⟩
theorem LN(w:World)(ob:Obj):(w.alloc ob).heap.size=w.heap.size+1:=by rw[World.alloc,Array.size_push]
theorem MS(w:World)(N:Nat)(hN:N=w.heap.size)(cs:List Value)(T:TypeId):Lies (w.alloc (.cells cs.toArray T)) N 0 cs:=λj v hj=>by rw[World.cell?_alloc_at _ _ N (0+j) hN,sI,List.getElem?_toArray];exact hj
theorem YA{rows:List (List AV)}{u d:List AV}{i:Nat}(hi:i<=rows.length)(hn:(rows.length+1)*64<=140737488355328)(hr6:∀r∈rows,r.length=6):K4 Tryz.prog 203 6 rows [.i i,.sl 6 false [u] d] (rows.take i++[u]++rows.drop i):=by
 intro U vs vals base b o cap gl hlt hr hv h1 hl hc hor;obtain⟨y1,ys1,rfl,r1,r2⟩:=hr;obtain⟨y2,ys2,rfl,r3,r4⟩:=r2;simp only[RepL]at r4;subst r4;simp only[Rep]at r1;subst r1;obtain⟨vbase,vc,us,rfl,_,_,u1,u2,_,u3,_,u4,_⟩:=LW r3;rcases u4 with u4|⟨vb,voff,rfl,⟨z1,z2,z3⟩,u5⟩
 ·cases u4
 rcases u3 with u3|⟨u3,u6⟩
 ·cases u3
 simp only[y9,Nat.one_mul]at u6;have e1:rows.flatten=(rows.take i).flatten++(rows.drop i).flatten:=by rw[<-List.flatten_append,y8]
 rw[e1]at hv;obtain⟨xs,ys,rfl,v1,v2⟩:=HP hv;have lx:xs.length=i*6:=by rw[Bs v1,LM λr hr=>hr6 r (G3 hr),u9];omega
 have ly:ys.length=(rows.length-i)*6:=by rw[Bs v2,LM λr hr=>hr6 r (H8 hr),tD]
 have t1:(xs++ys).take (i*6)=xs:=by rw[<-lx,List.take_left]
 have t2:(xs++ys).drop (i*6)=ys:=by rw[<-lx,List.drop_left]
 have o1:∀v∈xs++ys,v.oneCell'=true:=λv hv=>Ow (h1 v hv)
 have o2:∀v∈us,v.oneCell'=true:=λv hv=>Ow (u2 v hv)
 have hfl:(rows.take i++[u]++rows.drop i).flatten=(rows.take i).flatten++(([u]:List (List AV)).flatten++(rows.drop i).flatten):=by simp
 have hln:(rows.take i++[u]++rows.drop i).length=rows.length+1:=by rw[nK,nK,u9,tD,y9];omega
 have fin:∀(b' o' cap':Nat)(w':World),rows.length+1<=cap'->KeptB b U.w w'->(b'=b\/U.w.heap.size<=b')->b'<w'.heap.size->Lies w' b' o' (xs++(us++ys))->∃(b'' o'' cap'':Nat)(vals':List Value),(Ending.returned (.slice (some ⟨b',o',none⟩) (rows.length+1) cap'):Ending)=.returned (.slice (some ⟨b'',o'',none⟩) (rows.take i++[u]++rows.drop i).length cap'')/\(rows.take i++[u]++rows.drop i).length<=cap''/\KeptB b U.w w'/\(b''=b\/U.w.heap.size<=b'')/\b''<w'.heap.size/\Lies w' b'' o'' vals'/\RepL U (rows.take i++[u]++rows.drop i).flatten vals'/\∀x∈vals',Bw x=true:=λb' o' cap' w' q1 q2 q3 q4 q5=>
  ⟨b',o',cap',xs++(us++ys),by rw[hln],by rw[hln];exact q1,q2,q3,q4,q5,by rw[hfl];exact Ds v1 (Ds u1 v2),λx hx=>by
   rcases oJ.1 hx with hx|hx
   ·exact h1 x (by simp[hx])
   ·rcases oJ.1 hx with hx|hx
    ·exact u2 x hx
    ·exact h1 x (by simp[hx])⟩
 have nd:U.w.drew.heap.size=U.w.heap.size:=rfl;rcases hor with⟨rfl,hcap,hlies,hM,cs,T,hb,hsz⟩|⟨rfl,hbz⟩
 ·have hbl:b<U.w.heap.size:=hlt b (.inl hM);have hvb:vb≠b:=λe=>z1 (e▸hM)
  have hfb:∀j,U.w.frozen? ⟨b,j,none⟩=false:=λj=>by simp[World.frozen?,hb]
  have hsome:∀j,j<cap*6->(U.w.cell? ⟨b,o+j,none⟩).isSome=true:=λj hj=>by
   have e:U.w.cell? ⟨b,o+j,none⟩=cs[o+j]? :=by simp only[World.cell?,hb];rfl
   rw[e,kC (by omega)];rfl
  by_cases hroom:rows.length+1<=cap
  ·by_cases hin:i<rows.length
   ·have hsh:∃tA kA,U.w.shape? vb=some (tA,kA)/\kA≠0:=by
     have h0:=u5 0 _ (dY (by omega));unfold World.cell? at h0;simp only[F4]at h0;split at h0
     ·rename_i c t f hc;refine⟨t,c.size,by unfold World.shape?;rw[hc],λe=>?_⟩;simp only[GJ,yF,if_false]at h0;have:=(fW.1 h0).1;omega
     ·cases h0
    obtain⟨tA,kA,hsa,hkA⟩:=hsh;have hsb:U.w.shape? b=some (T,cs.size):=by unfold World.shape?;rw[hb]
    refine(XL b o rows.length cap i vb voff 1 vc (xs++ys) us U.w hin (by omega) hroom (by omega) hvb hl (by omega) hlies (λj hj=>hsome j (by omega)) (λj _=>hfb _) u5 o1 o2 tA T kA cs.size hsa hsb hkA hfb).mono ?_;rintro e w' ⟨rfl,rfl⟩;rw[t2];obtain⟨k1,s1⟩:=KeptB.cells b ys (o+(i+1)*6) U.w.drew;obtain⟨k2,s2⟩:=KeptB.cells b us (o+i*6) (U.w.drew.setCells b (o+(i+1)*6) ys);refine fin b o cap _ hroom (((KeptB.drew b U.w).trans k1).trans k2) (.inl rfl) (by rw[s2,s1];exact hbl) ?_;have hlx:Lies U.w.drew b o xs:=hlies.left;refine((hlx.setOut (.inl (by omega))).setOut (.inl (by omega))).app ?_;rw[lx];refine(Lies.setIn λj hj=>?_).app ?_
    ·refine World.isSome_setCells b _ _ U.w.drew _ ?_;rw[tV];exact hsome _ (by omega)
    ·rw[show o+i*6+us.length=o+(i+1)*6 by omega];refine(Lies.setIn λj hj=>?_).setOut (.inr (by omega));rw[tV];exact hsome _ (by omega)
   ·obtain rfl:i=rows.length:=by omega
    have hy:ys=[]:=Fe.1 (by omega);subst hy;refine(UL b o rows.length cap vb voff 1 vc us U.w (by omega) hroom (by omega) (by omega) (λj hj=>by rw[tV];exact hsome _ (by omega)) (λj _=>hfb _) u5 o2).mono ?_;rintro e w' ⟨rfl,rfl⟩;obtain⟨k1,s1⟩:=KeptB.cells b us (o+rows.length*6) U.w;refine fin b o cap _ hroom k1 (.inl rfl) (by rw[s1];exact hbl) ?_;refine(hlies.left.setOut (.inl (by omega))).app ?_;rw[lx,sF];refine Lies.setIn λj hj=>?_
    rw[tV];exact hsome _ (by omega)
  ·have hnc:rows.length=cap:=by omega
   by_cases hin:i<rows.length
   ·refine(dM b o rows.length cap i vb voff 1 vc (xs++ys) us U.w hin (by omega) hc (by omega) hn hl (by omega) hlies u5 o1 o2).mono ?_;rintro e w' ⟨g,zs,rfl,hg,hz,rfl⟩;rw[t1,t2];obtain⟨k1,s1⟩:=KeptB.cells U.w.heap.size us (i*6) (U.w.alloc (.cells (xs++zs).toArray 34)).drew;obtain⟨k2,s2⟩:=KeptB.cells U.w.heap.size ys ((i+1)*6) ((U.w.alloc (.cells (xs++zs).toArray 34)).drew.setCells U.w.heap.size (i*6) us).drew;have k0:=KeptB.alloc b U.w (.cells (xs++zs).toArray 34);have sA:(U.w.alloc (.cells (xs++zs).toArray 34)).drew.heap.size=U.w.heap.size+1:=LN _ _;have s1':((U.w.alloc (.cells (xs++zs).toArray 34)).drew.setCells U.w.heap.size (i*6) us).drew.heap.size=U.w.heap.size+1:=s1.trans sA;have s2':=s2.trans s1';have cell:∀j,j<(xs++zs).length->((U.w.alloc (.cells (xs++zs).toArray 34)).drew.cell? ⟨U.w.heap.size,j,none⟩).isSome=true:=λj hj=>by show((U.w.alloc (.cells (xs++zs).toArray 34)).cell? ⟨U.w.heap.size,j,none⟩).isSome=true;rw[World.cell?_alloc_at _ _ _ j rfl,List.getElem?_toArray,dY hj];rfl
    have lxz:(xs++zs).length=i*6+zs.length:=by rw[nK,lx]
    refine fin U.w.heap.size 0 g _ hg ⟨λx hx hne=>?_,by rw[s2'];omega,⟨k2.io.1.trans (k1.io.1.trans k0.io.1),k2.io.2.trans (k1.io.2.trans k0.io.2)⟩⟩ (.inr (jW _)) (by rw[s2'];omega) ?_
    ·rw[k2.heap x (by rw[s1'];omega) (by omega)];refine(k1.heap x (by rw[sA];omega) (by omega)).trans ?_;exact k0.heap x hx hne
    ·have hx0:Lies (U.w.alloc (.cells (xs++zs).toArray 34)).drew U.w.heap.size 0 xs:=by intro j v hj;show(U.w.alloc (.cells (xs++zs).toArray 34)).cell? ⟨U.w.heap.size,0+j,none⟩=some v;rw[World.cell?_alloc_at _ _ _ (0+j) rfl,sI,List.getElem?_toArray,w9 (nL.1 hj).1];exact hj
     have hx1:Lies ((U.w.alloc (.cells (xs++zs).toArray 34)).drew.setCells U.w.heap.size (i*6) us).drew U.w.heap.size 0 xs:=hx0.setOut (.inl (by omega));have hu1:Lies ((U.w.alloc (.cells (xs++zs).toArray 34)).drew.setCells U.w.heap.size (i*6) us).drew U.w.heap.size (i*6) us:=Lies.setIn λj hj=>cell _ (by omega)
     refine(hx1.setOut (.inl (by omega))).app ?_;rw[lx,sI];refine(hu1.setOut (.inl (by omega))).app ?_;rw[show i*6+us.length=(i+1)*6 by omega];refine Lies.setIn λj hj=>?_
     exact World.isSome_setCells _ _ _ _ _ (cell _ (by omega))
   ·obtain rfl:i=rows.length:=by omega
    have hy:ys=[]:=Fe.1 (by omega);subst hy;rw[sF]at hlies hl;refine(UM b o rows.length cap vb voff 1 vc xs us U.w (by omega) hc (by omega) hn hl (by omega) hlies u5).mono ?_;rintro e w' ⟨g,zs,rfl,hg,rfl⟩;refine fin U.w.heap.size 0 g _ hg ((KeptB.drew b U.w).trans (KeptB.alloc b U.w.drew _)) (.inr (jW _)) (by rw[LN];exact Iw _) ?_;rw[sF];exact(MS U.w.drew U.w.heap.size rfl (xs++us++zs) _).left
 ·have h0:rows=[]:=Fe.1 (by omega);subst h0;have hi0:i=0:=by simpa using hi
  subst hi0;have hx0:xs=[]:=Fe.1 (by omega);have hy0:ys=[]:=Fe.1 (by rw[ly,yH]);subst hx0;subst hy0;refine(jS base vb voff 1 vc us U.w (by omega) hn (by omega) u5).mono ?_;rintro e w' ⟨g,zs,rfl,hg,rfl⟩;refine fin U.w.heap.size 0 g _ hg ((KeptB.drew b U.w).trans (KeptB.alloc b U.w.drew _)) (.inr (jW _)) (by rw[LN];exact Iw _) ?_;rw[sF,rA];exact(MS U.w.drew U.w.heap.size rfl (us++zs) _).left
end
section
open Go
attribute [local irreducible] Ax BO BB Bj BC Bk AY BD BK Cq
theorem ZY:Dh Tryz.prog 203:=⟨_,Tryz.func203,by kernel_rfl,by kernel_rfl⟩
theorem AcL:Dh Tryz.prog 204:=⟨_,Tryz.func204,by kernel_rfl,by kernel_rfl⟩
theorem OH{l:List Un}:∀r∈l.map Au,r.length=6/\AP r=true:=λr hr=>by obtain⟨x,_,rfl⟩:=tH.1 hr;exact⟨rfl,rfl⟩
theorem YU{l:List Un}{i:Int}{u:Un}{d:List AV}(h0:0<=i)(h1:i<=l.length)(h2:(l.length+1)*64<=140737488355328):K4 Tryz.prog 203 6 (l.map Au) [.i i,.sl 6 false [Au u] d] ((l.take i.toNat++[u]++l.drop i.toNat).map Au):=by have h:=YA (rows:=l.map Au) (u:=Au u) (d:=d) (i:=i.toNat) (by rw[rC];omega) (by rw[rC];exact h2) (λr hr=>(OH r hr).1);rw[show((i.toNat:Nat):Int)=i by omega]at h;rw[vE,vE,List.map_take,List.map_drop];exact h
theorem uF{l:List Un}{i:Int}(h0:0<=i)(h1:i<l.length)(h2:(l.length:Int)<=9223372036854775807):K4 Tryz.prog 204 6 (l.map Au) [.i i,.i (i+1)] ((l.take i.toNat++l.drop (i.toNat+1)).map Au):=by have h:=sZ (rows:=l.map Au) (i:=i.toNat) (by rw[rC];omega) (by rw[rC];omega) (λr hr=>(OH r hr).1);rw[show((i.toNat:Nat):Int)=i by omega,show((i.toNat+1:Nat):Int)=i+1 by omega]at h;rw[vE,List.map_take,List.map_drop];exact h
end
section
open Go
attribute [local irreducible] Ax BO BB Bj BC Bk AY BD BK Cq
attribute [local go_sem] Xc
def Dd(N:Nat)(f1315:List (Int×Int×Int×(List (Int×Int))×Int×Int)):Nat->Int->Option (Sum Unit Bool)|0,_=>none|n+1,ae=>bif decide (ae<(f1315.length:Int))then((A7 f1315 ae).bind λ(ay,d9,d8,d7,d6,d5)=>(B6 N ay d9 d8 d7 d6 d5).bind λfg=>gd ((decide (0<ae))=true->(Af (ae-1)))<|gd ((decide (0<ae))=true->(0<=ae-1/\ae-1<(f1315.length:Int)))<|bif (!fg)||((decide (0<ae))&&(decide (ay<=(f1315.getD (ae-1).toNat (0,0,0,[],0,0)).1)))then(some (.inr false))else(gd (Af (ae+1))<|Dd N f1315 n (ae+1)))else(some (.inl ()))
def Eh(N:Nat):List ((Int×Int×Int×(List (Int×Int))×Int×Int)×(Int×Int×Int×(List (Int×Int))×Int×Int))->Option (Sum Unit Bool)|[]=>some (.inl ())|((cn,ck,cj,ci,ce,b9),(b7,bz,bw,bv,bu,br))::ys=>(Fy N cn ck cj ci ce b9 b7 bz bw bv bu br).bind λe9=>bif e9 then(some (.inr false))else(Eh N ys)
def ER(N:Nat)(f1315:List (Int×Int×Int×(List (Int×Int))×Int×Int)):Option Bool:=bif decide (12<(f1315.length:Int))then(some false)else((Dd N f1315 N 0).bind λbo=>match bo with|.inl ()=>(gd (f1315.length<=1000000000)<|(Eh N (FI f1315)).bind λav=>match av with|.inl ()=>(some true)|.inr gw=>(some gw))|.inr gx=>(some gx))
@[go_sem] def s58(N:Nat):Spec:=p0<|pG<|pD Ak λf1315=>pE<|pE<|pF (ER N f1315) false λr=>.b r
theorem SG(N:Nat):AG Tryz.prog 58 (s58 N):=by
 refine Ar x58.ok<|Aw<|AM λf1315=>Ad<|Ad<|As λr h=>wx x58 (Ab (Pj N)<|Ab fG<|Ab (cS N)<|Aj) λ_ hS F=>?_
 dsimp only[x58,Ah,Ak];unfold ER at h;refine An hS F h (λ_ h=>?_) (λ_ h=>?_)
 ·exact Ai hS F h
 ·obtain⟨bo,g8,h⟩:=un h;refine go hS F ?_;refine Bz bo (λz:Nat=>⟨[(1,.box (0,1) 0),(2,.box (1,1) 0)],[(.c (1,1) 0,.b false),(.c (0,1) 0,Ap f1315)],z⟩) (λz=>(.inl ():Sum Unit Bool)) (.x 0) ?_ ?_
  ·refine Bp (λn (y:Int×Nat)=>Dd N f1315 n y.1) (λy=>⟨[(1,.box (0,1) 0),(2,.box (1,1) 0),(12,Ap f1315),(13,.i (f1315.length:Int)),(14,.i y.1)],[(.c (1,1) 0,.b false),(.c (0,1) 0,Ap f1315)],y.2⟩) (0,3) g8 (Ch F) ?_;rintro n ⟨ae,fo⟩ ab;simp only[Dd]at ab;refine An hS F ab (λ_ ab=>?_) (λ_ ab=>?_)
   ·obtain⟨⟨ay,d9,d8,d7,d6,d5⟩,gu,ab⟩:=un ab;obtain⟨ii,F⟩:=Cb Au gu F;obtain⟨fg,gj,iq,ip,ab⟩:=un ab;replace F:=fc gj F;refine An hS F ab (λ_ ab=>?_) (λ_ ab=>?_)
    ·obtain rfl:=yJ ab;exact Ai hS F h
    ·obtain⟨im,ab⟩:=un ab;exact Cd hS F (n,ae+1,fo+1+1+1+1) ab
   ·exact B4 hS F (fo+1) ab
  ·rintro g9 rfl;obtain⟨ij,h⟩:=un h;obtain⟨av,iz,h⟩:=un h;refine go hS F ?_;refine Bz av (λz:Nat=>⟨[(2,.box (1,1) 0)],[(.c (1,1) 0,.b false)],z⟩) (λz=>(.inl ():Sum Unit Bool)) .n ?_ ?_
   ·refine Ac6 (λy:Nat×Nat=>([(.c (1,1) 0,.b false)],y.2)) (λy=>Eh N ((FI f1315).drop y.1)=some av/\y.1<=(FI f1315).length) (λy=>y.1) (0,g9+1) (ev F) (lE f1315 false (by assumption)) x123.ok ⟨rfl,rfl⟩ (by simp[x58,Ah]) (by intro a ha;obtain⟨y,_,rfl⟩:=tH.1 ha;exact⟨rfl,rfl⟩) ⟨iz,tW _⟩ rfl ?_ ?_ ?_
    ·exact Ch F
    ·rintro l ⟨n,bq⟩ ⟨aw,hle⟩ args ir;obtain⟨⟨⟨cn,ck,cj,ci,ce,b9⟩,⟨b7,bz,bw,bv,bu,br⟩⟩,gz,rfl,hlt⟩:=Tz ir;simp only[gz,Eh]at aw;clear ir gz;simp only[pU,Jd];obtain⟨e9,gi,aw⟩:=un aw;replace F:=fc gi F;refine An hS F aw (λ_ aw=>?_) (λ_ aw=>?_)
     ·obtain rfl:=yJ aw;exact Ai hS F h
     ·exact grg hS F (n+1,bq+1+1+1) aw
    ·rintro⟨n,bq⟩ ⟨aw,hle⟩ hk;rw[show n=_ from hk,W5]at aw;simp only[Eh]at aw;exact B4 hS F bq aw
   ·rintro iy rfl;exact Ai hS F h
def GP(N:Nat)(au:Int)(bf:Int)(be:Int)(bb:List (Int×Int))(ba:Int)(az:Int)(aq:Int):Option Int:=(F3 N au aq).bind λe8=>some e8
@[go_sem] def s86(N:Nat):Spec:=p0<|pG<|pI λau=>pI λbf=>pI λbe=>pS Aq λbb=>pI λba=>pI λaz=>pE<|pI λaq=>pE<|pF (GP N au bf be bb ba az aq) 0 λr=>.i r
theorem Aca(N:Nat):AG Tryz.prog 86 (s86 N):=by
 refine Ar x86.ok<|Aw<|Aa λau=>Aa λbf=>Aa λbe=>AF λbb=>Aa λba=>Aa λaz=>Ad<|Aa λaq=>Ad<|As λr h=>wx x86 (Ab (cI N)<|Aj) λ_ hS F=>?_
 dsimp only[x86,Ah,Aq];unfold GP at h;obtain⟨e8,gh,h⟩:=un h;exact Ai hS (fc gh F) h
def AW(N:Nat)(x1370:List (Int×Int×Int×(List (Int×Int))×Int×Int))(aa:Int):Nat->Int->Int->Option Int|0,_,_=>none|n+1,af,aj=>bif decide (af<aj)then(gd (Af (af+aj))<|(A7 x1370 (IntKind.wrap .i64 (CW .shr .u64 (IntKind.wrap .u64 (af+aj)) 1))).bind λ(dz,dw,du,dt,dq,dm)=>(GP N dz dw du dt dq dm aa).bind λez=>bif decide (ez<0)then(gd (Af ((IntKind.wrap .i64 (CW .shr .u64 (IntKind.wrap .u64 (af+aj)) 1))+1))<|AW N x1370 aa n ((IntKind.wrap .i64 (CW .shr .u64 (IntKind.wrap .u64 (af+aj)) 1))+1) aj)else(AW N x1370 aa n af (IntKind.wrap .i64 (CW .shr .u64 (IntKind.wrap .u64 (af+aj)) 1))))else(some af)
def A5(N:Nat)(x1370:List (Int×Int×Int×(List (Int×Int))×Int×Int))(aa:Int):Option (Int×Bool):=(AW N x1370 aa N 0 (x1370.length:Int)).bind λi1398=>gd ((decide (i1398<(x1370.length:Int)))=true->(0<=i1398/\i1398<(x1370.length:Int)))<|gd ((decide (i1398<(x1370.length:Int)))=true->((GP N ((x1370.getD i1398.toNat (0,0,0,[],0,0)).1) ((x1370.getD i1398.toNat (0,0,0,[],0,0)).2.1) ((x1370.getD i1398.toNat (0,0,0,[],0,0)).2.2.1) ((x1370.getD i1398.toNat (0,0,0,[],0,0)).2.2.2.1) ((x1370.getD i1398.toNat (0,0,0,[],0,0)).2.2.2.2.1) ((x1370.getD i1398.toNat (0,0,0,[],0,0)).2.2.2.2.2) aa).isSome=true))<|some (i1398,(decide (i1398<(x1370.length:Int)))&&(decide ((GP N ((x1370.getD i1398.toNat (0,0,0,[],0,0)).1) ((x1370.getD i1398.toNat (0,0,0,[],0,0)).2.1) ((x1370.getD i1398.toNat (0,0,0,[],0,0)).2.2.1) ((x1370.getD i1398.toNat (0,0,0,[],0,0)).2.2.2.1) ((x1370.getD i1398.toNat (0,0,0,[],0,0)).2.2.2.2.1) ((x1370.getD i1398.toNat (0,0,0,[],0,0)).2.2.2.2.2) aa).getD 0=0)))
@[go_sem] def sJ(N:Nat):Spec:=p0<|pD Ak λx1370=>pI λaa=>pL 86<|pE<|pE<|pF (A5 N x1370 aa) (0,false) λr=>.tup [.i r.1,.b r.2]
theorem Qa(N:Nat):AG Tryz.prog 85 (sJ N):=by
 refine Ar x85.ok<|AM λx1370=>Aa λaa=>Kn<|Ad<|Ad<|As λr h=>wx x85 (Ab (Aca N)<|Aj) λ_ hS F=>?_
 dsimp only[x85,Ah,Ak];unfold A5 at h;obtain⟨gy,g8,h⟩:=un h;refine go hS F ?_;refine Bz gy (λz:Int×Nat=>⟨[(0,Ap x1370),(1,.i aa),(2,.clo (.func 86) [] []),(8,.i (x1370.length:Int)),(9,.i z.1)],[],z.2⟩) (λz=>(z.1:Int)) (.x 0) ?_ ?_
 ·refine Bp (λn (y:Int×Int×Nat)=>AW N x1370 aa n y.1 y.2.1) (λy=>⟨[(0,Ap x1370),(1,.i aa),(2,.clo (.func 86) [] []),(8,.i (x1370.length:Int)),(9,.i y.1),(10,.i y.2.1)],[],y.2.2⟩) (0,(x1370.length:Int),3) g8 (Ch F) ?_;rintro n ⟨af,aj,bp⟩ ab;simp only[AW]at ab;refine An hS F ab (λ_ ab=>?_) (λ_ ab=>?_)
  ·obtain⟨iq,⟨dz,dw,du,dt,dq,dm⟩,gt,ab⟩:=un ab;obtain⟨ig,F⟩:=Cb Au gt F;obtain⟨ez,gg,ab⟩:=un ab;replace F:=fc gg F;refine An hS F ab (λ_ ab=>?_) (λ_ ab=>?_)
   ·obtain⟨ip,ab⟩:=un ab;exact Cd hS F (n,(IntKind.wrap .i64 (CW .shr .u64 (IntKind.wrap .u64 (af+aj)) 1))+1,aj,bp+1+1+1+1) ab
   ·exact Cd hS F (n,af,IntKind.wrap .i64 (CW .shr .u64 (IntKind.wrap .u64 (af+aj)) 1),bp+1+1+1+1) ab
  ·exact B4 hS F (af,bp+1) ab
 ·rintro⟨i1398,iw⟩ rfl;obtain⟨im,ij,h⟩:=un h;by_cases hi:i1398<(x1370.length:Int)
  ·have hd:decide (i1398<(x1370.length:Int))=true:=aB hi;obtain⟨c,hc⟩:=yX (ij hd);have hq:=(Cb Au (Ou (0,0,0,[],0,0) (im hd).1 hi) F).2.1;exact Ai hS (fc hc (fc hd (fc hq F))) h
  ·have hd:decide (i1398<(x1370.length:Int))=false:=bJ hi;exact Ai hS (fc (bI Au hi) (fc hd F)) h
def Dk(N:Nat)(am:List (Int×Int×Int×(List (Int×Int))×Int×Int))(an:Int):Option ((Int×Int×Int×(List (Int×Int))×Int×Int)×Bool):=(ER N am).bind λeu=>bif !eu then(some ((0,0,0,[],0,0),false))else((A5 N am an).bind λ(ej,ei)=>bif !ei then(some ((0,0,0,[],0,0),false))else((A7 am ej).bind λ(dl,dh,dg,x1410,de,db)=>gd (x1410≠[])<|gd ((x1410.length)*16<=140737488355328)<|some ((dl,dh,dg,x1410,de,db),true)))
@[go_sem] def s38(N:Nat):Spec:=p0<|pG<|pD Ak λam=>pE<|pI λan=>pE<|pF (Dk N am an) ((0,0,0,[],0,0),false) λr=>.tup [.agg [.i r.1.1,.i r.1.2.1,.i r.1.2.2.1,BP r.1.2.2.2.1,.i r.1.2.2.2.2.1,.i r.1.2.2.2.2.2],.b r.2]
theorem Zz(N:Nat):AG Tryz.prog 38 (s38 N):=by
 refine Ar x38.ok<|Aw<|AM λam=>Ad<|Aa λan=>Ad<|As λr h=>wx x38 (Ab (SG N)<|Ab (Qa N)<|Aj) λ_ hS F=>?_
 dsimp only[x38,Ah,Ak];unfold Dk at h;obtain⟨eu,gc,h⟩:=un h;replace F:=fc gc F;refine An hS F h (λ_ h=>?_) (λ_ h=>?_)
 ·exact Ai hS F h
 ·obtain⟨⟨ej,ei⟩,fr,h⟩:=un h;replace F:=fc fr F;refine An hS F h (λ_ h=>?_) (λ_ h=>?_)
  ·exact Ai hS F h
  ·obtain⟨⟨dl,dh,dg,x1410,de,db⟩,gr,h⟩:=un h;obtain⟨ic,F⟩:=Cb Au gr F;refine go hS F ?_;refine GO hS 2 x87.hf x87.hc x87.hn x87.ok rfl (ev F) (ev F) ?_ rfl (ev F) (qZ rfl) λhb=>?_
   ·exact Bl hS F
   dsimp only[x87,Ah];obtain⟨i5,h⟩:=un h;refine KR hS F ?_;obtain⟨i4,h⟩:=un h;exact Ai hS F h
def IF(N:Nat)(f1414:List (Int×Int×Int×(List (Int×Int))×Int×Int))(ai:Int)(ah:Int):Nat->Int->(List (Int×Int×Int×(List (Int×Int))×Int×Int))->Option (Sum ((List (Int×Int×Int×(List (Int×Int))×Int×Int))) (((List (Int×Int×Int×(List (Int×Int))×Int×Int))×Int)))|0,_,_=>none|n+1,ak,l1455=>bif decide (ak<(f1414.length:Int))then((A7 f1414 ak).bind λ(da,cy,cu,cr,cq,co)=>(FR N da cy cu cr cq co ai ah).bind λ((bm,bl,bj,bi,bh,bg),ee)=>bif decide (ee≠0)then(some (.inr ([],120)))else(gd ((l1455.length+1)*64<=140737488355328)<|gd (Af (ak+1))<|IF N f1414 ai ah n (ak+1) (l1455++[(bm,bl,bj,bi,bh,bg)])))else(some (.inl l1455))
def PD(N:Nat)(f1414:List (Int×Int×Int×(List (Int×Int))×Int×Int))(ai:Int)(ah:Int):Option ((List (Int×Int×Int×(List (Int×Int))×Int×Int))×Int):=(ER N f1414).bind λeh=>bif !eh then(some ([],120))else((IF N f1414 ai ah N 0 []).bind λbn=>match bn with|.inl fh=>(some (fh,0))|.inr gv=>(some gv))
@[go_sem] def s44(N:Nat):Spec:=p0<|pG<|pD Ak λf1414=>pE<|pI λai=>pI λah=>pE<|pF (PD N f1414 ai ah) ([],0) λr=>.tup [.agg [Ap r.1],.i r.2]
theorem AgD(N:Nat):AG Tryz.prog 44 (s44 N):=by
 refine Ar x44.ok<|Aw<|AM λf1414=>Ad<|Aa λai=>Aa λah=>Ad<|As λr h=>wx x44 (Ab (SG N)<|Ab (nQ N)<|Aj) λ_ hS F=>?_
 dsimp only[x44,Ah,Ak];unfold PD at h;obtain⟨eh,fq,h⟩:=un h;replace F:=fc fq F;refine An hS F h (λ_ h=>?_) (λ_ h=>?_)
 ·exact Ai hS F h
 ·refine go hS F ?_;refine Fc 1000001 (300,3) 0 6 [.i 0,.i 0,.i 0,.sl 0 true [] [],.i 0,.i 0] (by omega) (ev F) ?_;obtain⟨bn,g8,h⟩:=un h;refine go hS F ?_;refine Bz bn (λz:(List (Int×Int×Int×(List (Int×Int))×Int×Int))×Nat=>⟨[(6,.box (1,1) 0),(8,.box (300,3) 0)],[(.c (300,3) 0,.own (1000001,5) z.1.length),(.a (1000001,5),B7 z.1),(.c (1,1) 0,.sl 0 true [] [])],z.2⟩) (λz=>(.inl z.1:Sum ((List (Int×Int×Int×(List (Int×Int))×Int×Int))) (((List (Int×Int×Int×(List (Int×Int))×Int×Int))×Int)))) (.x 0) ?_ ?_
  ·refine Bp (λn (y:Int×(List (Int×Int×Int×(List (Int×Int))×Int×Int))×Nat)=>IF N f1414 ai ah n y.1 y.2.1) (λy=>⟨[(1,.i ai),(2,.i ah),(6,.box (1,1) 0),(8,.box (300,3) 0),(18,Ap f1414),(19,.i (f1414.length:Int)),(20,.i y.1)],[(.c (300,3) 0,.own (1000001,5) y.2.1.length),(.a (1000001,5),B7 y.2.1),(.c (1,1) 0,.sl 0 true [] [])],y.2.2⟩) (0,[],5) g8 (Ch F) ?_;rintro n ⟨ak,l1455,fj⟩ ab;simp only[IF]at ab;refine An hS F ab (λ_ ab=>?_) (λ_ ab=>?_)
   ·obtain⟨⟨da,cy,cu,cr,cq,co⟩,gm,ab⟩:=un ab;obtain⟨ib,F⟩:=Cb Au gm F;obtain⟨⟨⟨bm,bl,bj,bi,bh,bg⟩,ee⟩,fp,ab⟩:=un ab;replace F:=fc fp F;refine An hS F ab (λ_ ab=>?_) (λ_ ab=>?_)
    ·obtain rfl:=yJ ab;exact Ai hS F h
    ·obtain⟨iq,ip,ab⟩:=un ab;exact Cd hS F (n,ak+1,l1455++[(bm,bl,bj,bi,bh,bg)],fj+1+1+1+1+1+1) ab
   ·exact B4 hS F (l1455,fj+1) ab
  ·rintro⟨fh,iv⟩ rfl;exact Ai hS F h
end
open Go
def ik:Nat:=1600000
@[reducible] def Aiy(b:Nat)(m:Nm)(fl:List Bool)(la:Nat):AV:=.gd false (.agg [.v (.int .i64 b),.mp m,.sl 0 true (fl.map λx=>[.v (.bool x)]) [],.v (.int .i64 la)])
structure II(U:Cf)(b:Nat)(m:Nm)(fl:List Bool)(la:Nat):Prop where
 o:U.O b/\¬U.M b
 al:U.al m
 it:∃seen:Array Nat,U.w.heap[b]? =some (.mapIter (some (U.rb m)) fl.length seen fl.length)/\(∀i,seen.contains i=fl.getD i false)/\((∃x,x∈fl/\x=true)->∃s2:Array Nat,seen=s2.push la/\la<fl.length)
theorem II.mono{U σ':Cf}{b:Nat}{m:Nm}{fl:List Bool}{la:Nat}(h:II U b m fl la)(e:Evo U σ'):II σ' b m fl la:=by obtain⟨seen,h1,h2,h3⟩:=h.it;obtain⟨g1,g2⟩:=e.fro b _ h1 h.o.2;obtain⟨k1,k2⟩:=e.box m h.al;exact⟨⟨by rw[e.out];exact h.o.1,g2⟩,k1,seen,by rw[k2];exact g1,h2,h3⟩
def Ctx.mi(P:Program)(S:Tab)(nt hb N:Nat)(hnt:nt<=ik):Ctx:={P:=P,F:=Fence.wide,S:=S,nt:=nt,hb:=(hb,false),R:=EvoB N (λ_=>False),G:=λe U=>N<=U.w.heap.size/\∀b m fl la,lk e ik=Aiy b m fl la->N<=b/\II U b m fl la,ofE:=Evo.evoB,tr:=EvoB.trans,g:=λ{U σ' e e'} h ev hl=>⟨sN h.1 ev.sz,λb m fl la hb=>by
  rcases hl ik hnt with h1|h1
  ·rw[h1]at hb;cases hb
  ·exact⟨(h.2 b m fl la (h1.symm.trans hb)).1,(h.2 b m fl la (h1.symm.trans hb)).2.mono ev⟩⟩}
theorem Adw{P:Program}{S:Tab}{nt hb N:Nat}{hnt:nt<=ik}:(Ctx.mi P S nt hb N hnt).S=S:=rfl
attribute [go_sem] Adw ik
section
variable{P:Program}{S:Tab}{nt hb N:Nat}{hnt:nt<=ik}{rid:Nat}{ops:List AOp}{Q:AE->St->Prop}{e e1:Az}{h h1:Hp}{c:Nat}{vc:Prop}{d:Option Nat}{x0:Opd}{m:Nm}{rows:List (List AV)}
end
mutual
theorem Sm{U Z:Cf}:∀(x:AV)(v v':Value),Rep U x v->Rep Z x v'->Rep {Z with al:=U.al} x v'
 |.v _,_,_,_,h=>by simpa[Rep]using h
 |.sl a b c d,_,_,_,h=>Rep.ofPure (U:=Z) (σ':={Z with al:=U.al}) (λb hb=>hb) (λ_ _=>rfl) (.sl a b c d) _ rfl h
 |.ro a b,_,_,_,h=>Rep.ofPure (U:=Z) (σ':={Z with al:=U.al}) (λb hb=>hb) (λ_ _=>rfl) (.ro a b) _ rfl h
 |.agg cs,_,_,k,h=>by simp only[Rep]at h k⊢;obtain⟨ys,k1,k2,k3⟩:=k;obtain⟨xs,h1,h2,h3⟩:=h;exact⟨xs,h1,h2,M3 cs ys xs k3 h3⟩
 |.tup cs,_,_,k,h=>by simp only[Rep]at h k⊢;obtain⟨ys,k1,k3⟩:=k;obtain⟨xs,h1,h3⟩:=h;exact⟨xs,h1,M3 cs ys xs k3 h3⟩
 |.clo f cs bs,_,_,k,h=>by simp only[Rep]at h k⊢;obtain⟨ys,zs,k1,k2,k3⟩:=k;obtain⟨xs,us,h1,h2,h3⟩:=h;exact⟨xs,us,h1,M3 cs ys xs k2 h2,M3 bs zs us k3 h3⟩
 |.box n o,_,_,k,h=>by simp only[Rep]at h k⊢;exact⟨k.1,h.2⟩
 |.own n l,_,_,k,h=>by simp only[Rep]at h k⊢;exact⟨k.1,h.2⟩
 |.elem _ _ _ _ _,_,_,k,h=>by simp only[Rep]at h k⊢;exact⟨k.1,h.2⟩
 |.mp _,_,_,k,h=>by simp only[Rep]at h k⊢;exact⟨k.1,h.2⟩
 |.gd b x,v,v',k,h=>by simp only[Rep]at h k⊢;exact⟨λhb=>Sm x v v' (k.1 hb) (h.1 hb),h.2⟩
 |.un,_,_,_,_=>by simp[Rep]
theorem M3{U Z:Cf}:∀(xs:List AV)(vs vs':List Value),RepL U xs vs->RepL Z xs vs'->RepL {Z with al:=U.al} xs vs'
 |[],_,_,_,h=>by simpa[RepL]using h
 |x::xs,_,_,k,h=>by simp only[RepL]at h k⊢;obtain⟨y,ys,_,k2,k3⟩:=k;obtain⟨z,zs,h1,h2,h3⟩:=h;exact⟨z,zs,h1,Sm x y z k2 h2,M3 xs ys zs k3 h3⟩
end
theorem Sn{U Z:Cf}{sz b:Nat}:∀{rows:List (List AV)}{o:Nat}{b' o':Nat},RepRows U sz b' o' rows->RepRows Z sz b o rows->RepRows {Z with al:=U.al} sz b o rows
 |[],_,_,_,_,_=>by simp[RepRows]
 |r::rs,o,b',o',k,h=>by simp only[RepRows]at h k⊢;refine⟨h.1,FQ λj c hc=>?_,Sn k.2.2 h.2.2⟩;obtain⟨y,k1,k2,k3⟩:=Hg k.2.1 j c hc;obtain⟨x,h1,h2,h3⟩:=Hg h.2.1 j c hc;exact⟨x,h1,h2,Sm c y x k3 h3⟩
theorem So{U Z:Cf}:∀{rows:List (List AV)}{es es':List MapEntry},RepEnts U rows es->RepEnts Z rows es'->RepEnts {Z with al:=U.al} rows es'
 |[],_,_,_,h=>h
 |r::rs,_,_,⟨e,es,k1,k2,k3⟩,⟨e',es',h1,h2,h3⟩=>⟨e',es',h1,M3 _ _ _ k2 h2,So k3 h3⟩
theorem HInv.fgt{U Z:Cf}{hp:Hp}(h:HInv U hp)(k:HInv Z hp):HInv {Z with al:=U.al} hp where
 ln:=k.ln
 cel n j c hc:=by
  obtain⟨h1,h2,h3⟩:=h.cel n j c hc;obtain⟨k1,k2,k3⟩:=k.cel n j c hc;refine⟨h1,k2,?_⟩;rcases k3 with⟨cs,T,x,g1,g2,g3,g4⟩|⟨rows,es,g1,g2,g3,g4,g5⟩
  ·refine .inl ⟨cs,T,x,g1,g2,g3,?_⟩;rcases h3 with⟨_,_,y,_,_,_,q4⟩|⟨rows,es,q1,_⟩
   ·exact Sm c y x q4 g4
   ·rw[q1.1]at g4⊢;simp only[Rep]at g4⊢;refine⟨λe=>?_,g4.2⟩;cases e
  ·refine .inr ⟨rows,es,g1,g2,g3,?_,g5⟩;rcases h3 with⟨_,_,y,_,_,q3,q4⟩|⟨rows',es',q1,_,_,q4,_⟩
   ·rw[g1.1]at q4;simp only[Rep]at q4;have:=q4.2 trivial;subst this;simp[undef,Bw]at q3
   ·have:=q1.1.symm.trans g1.1;simp only[AV.gd.injEq,AV.sl.injEq,true_and,and_true]at this;subst this;exact So q4 g4
 arr n sz live rows d hn:=by
  obtain⟨h1,h2,h3,h4⟩:=h.arr n sz live rows d hn;obtain⟨k1,k2,k3,k4⟩:=k.arr n sz live rows d hn;refine⟨h1,k2,k3,?_⟩;rcases k4 with⟨a,g1,g2⟩|⟨b,o,cap,g1,g2,g3,g4,g5,g6⟩
  ·exact .inl ⟨a,g1,g2⟩
  ·refine .inr ⟨b,o,cap,g1,g2,g3,?_,g5,λe=>g6 e⟩;rcases h4 with⟨_,_,rfl⟩|⟨b',o',_,_,_,_,q4,_⟩
   ·simp[RepRows]
   ·exact Sn q4 g4
 inj p q b hp hq:=k.inj p q b hp hq
 lt:=k.lt
 ou:=k.ou
 dis:=k.dis
def N8(l:List (Nat×Spec))(q:Nat->List AV->List AV->Option (Prop×AV)):Tab:=⟨J9 l,false,false,P6,T9,q,Pz,PB,PA⟩
theorem vH(l q):(N8 l q).f=J9 l:=rfl
theorem vI(l q):(N8 l q).w=false:=rfl
theorem vJ(l q):(N8 l q).m=false:=rfl
theorem vK(l q):(N8 l q).e=P6:=rfl
theorem vL(l q):(N8 l q).p=T9:=rfl
theorem vM(l q):(N8 l q).k=Pz:=rfl
theorem vN(l q):(N8 l q).o=PB:=rfl
theorem vO(l q):(N8 l q).y=PA:=rfl
theorem vP(l q):(N8 l q).q=q:=rfl
attribute [go_sem] vO vN vM vH vI vJ vK vL vP
theorem V2{V:Ctx}(t:Nat)(y:AV){x0:AV}{x:AC}{Q:AE->St->Prop}{e:Az}{h:Hp}{c:Nat}(ht:t<V.nt)(he:lk e t=x0)(hw:∀U v,Rep U x0 v->Rep U y v)(hQ:Ax V x Q ⟨(t,y)::e,h,c⟩):Ax V x Q ⟨e,h,c⟩:=by
 intro code hcc U a hA;have hr:=hA.1.t t;rw[he]at hr;have ev:=Evo.refl U;refine hQ code hcc U a ⟨⟨hA.1.h,λt'=>?_,hA.1.sz,(hA.1.df.mono ev).un (.inr (MK ht))⟩,hA.2.1,V.g hA.2.2 ev λt' ht'=>?_⟩
 ·simp only[lk];by_cases e:t=t'
  ·subst e;rw[fU rfl];exact hw _ _ hr
  ·rw[eG e];exact hA.1.t t'
 ·right;simp only[lk];rw[eG (by omega)]
theorem Yb{V:Ctx}(t:Nat){z:Nat}{f:Bool}{d:List AV}{x:AC}{Q:AE->St->Prop}{e:Az}{h:Hp}{c:Nat}(ht:t<V.nt)(he:lk e t=.sl z f [] d)(h1:∀k,Ax V x Q ⟨(t,.v (.slice none 0 k))::e,h,c⟩)(h2:∀b k,Ax V x Q ⟨(t,.v (.slice (some b) 0 k))::e,h,c⟩):Ax V x Q ⟨e,h,c⟩:=by
 intro code hcc U a hA;have hr:=hA.1.t t;rw[he]at hr;obtain⟨base,cap,hv,_⟩:=hr;have ev:=Evo.refl U;have key:∀y,(∀v,v=a.tmps.getD t undef->Rep U y v)->Ax V x Q ⟨(t,y)::e,h,c⟩->code.wpIn V.F 0 V.P (lift V U Q) a U.w:=λy hw hQ=>by
  refine hQ code hcc U a ⟨⟨hA.1.h,λt'=>?_,hA.1.sz,(hA.1.df.mono ev).un (.inr (MK ht))⟩,hA.2.1,V.g hA.2.2 ev λt' ht'=>?_⟩
  ·simp only[lk];by_cases e:t=t'
   ·subst e;rw[fU rfl];exact hw _ rfl
   ·rw[eG e];exact hA.1.t t'
  ·right;simp only[lk];rw[eG (by omega)]
 cases base with
 |none=>exact key _ (λv e=>by subst e;simp only[Rep];exact hv) (h1 cap)
 |some b=>exact key _ (λv e=>by subst e;simp only[Rep];exact hv) (h2 b cap)
theorem rD{U:Cf}{z:Nat}{d:List AV}{b:Option Addr}{k:Nat}(v:Value)(h:Rep U (.v (.slice b 0 k)) v):Rep U (.sl z false [] d) v:=by simp only[Rep]at h⊢;exact⟨b,k,h,tW _,λh=>Bool.noConfusion h,λr hr=>absurd hr List.not_mem_nil,.inl trivial⟩
theorem iX{V:Ctx}(m:Nm)(j:Nat)(y:AV){x0:AV}{x:AC}{Q:AE->St->Prop}{e:Az}{h:Hp}{c:Nat}(he:hl h (.c m j)=some x0)(hm:isM x0=false)(hw:∀U v,Rep U x0 v->Rep U y v)(hQ:Ax V x Q ⟨e,(.c m j,y)::h,c⟩):Ax V x Q ⟨e,h,c⟩:=by
 intro code hc U a hA;obtain⟨k1,k2,cs,T,v,k3,k4,k5,k6⟩:=(hA.1.h.cel m j _ he).cells hm;have hI:=hA.1.h;have ev:=Evo.refl U;refine hQ code hc U a ⟨⟨⟨λn'=>?_,λn' j' c' hc'=>?_,λn' sz live rows d' hc'=>?_,λp q b hp hq=>?_,hI.lt,hI.ou,hI.dis⟩,hA.1.t,hA.1.sz,hA.1.df⟩,hA.2.1,hA.2.2⟩
 ·have:=hI.ln n';simpa only[lenOf,hl,eG (show¬Loc.c m j=Loc.a n' by intro e;cases e)]using this
 ·simp only[hl]at hc';by_cases e:Loc.c m j=Loc.c n' j'
  ·rw[fU e]at hc';cases e
   simp at hc';subst hc';exact⟨k1,k2,.inl ⟨cs,T,_,k3,k4,k5,hw _ _ k6⟩⟩
  ·rw[eG e]at hc';exact hI.cel n' j' c' hc'
 ·simp only[hl,eG (show¬Loc.c m j=Loc.a n' by intro e;cases e)]at hc';exact hI.arr n' sz live rows d' hc'
 ·have key:∀p b,Owns U ((.c m j,y)::h) p b->Owns U h p b:=by
   rintro p b (⟨g1,g2,j',c',g3⟩|⟨g1,⟨sz,rows,d',g2⟩,o,cap,g3,g4⟩)
   ·simp only[hl]at g3;by_cases e:Loc.c m j=Loc.c p.2 j'
    ·cases e
     exact .inl ⟨g1,g2,j,x0,he⟩
    ·rw[eG e]at g3;exact .inl ⟨g1,g2,j',c',g3⟩
   ·simp only[hl]at g2;rw[eG (by intro e;cases e)]at g2;exact .inr ⟨g1,⟨sz,rows,d',g2⟩,o,cap,g3,g4⟩
  exact hI.inj p q b (key p b hp) (key q b hq)
theorem Yc{U:Cf}{z z':Nat}{f:Bool}{d d':List AV}(v:Value)(h:Rep U (.sl z f [] d) v):Rep U (.sl z' false [] d') v:=by simp only[Rep]at h⊢;obtain⟨b,k,h1,h2,_⟩:=h;exact⟨b,k,h1,h2,λh=>Bool.noConfusion h,λr hr=>absurd hr List.not_mem_nil,.inl trivial⟩
theorem Yd{V:Ctx}(m:Nm)(j:Nat)(z':Nat)(d':List AV){z:Nat}{f:Bool}{d:List AV}{x:AC}{Q:AE->St->Prop}{e:Az}{h:Hp}{c:Nat}(he:hl h (.c m j)=some (.sl z f [] d))(hQ:Ax V x Q ⟨e,(.c m j,.sl z' false [] d')::h,c⟩):Ax V x Q ⟨e,h,c⟩:=iX m j _ he rfl (λ_=>Yc) hQ
